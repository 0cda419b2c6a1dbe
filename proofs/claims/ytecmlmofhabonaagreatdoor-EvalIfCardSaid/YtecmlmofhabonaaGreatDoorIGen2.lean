/- What the generators make of any list of numbers. -/
import Derived.Test.YtecmlmofhabonaaGreatDoorIGen1
noncomputable section
namespace Go.Ev
open Go Go.Ab Go.Nl Go.Nb Go.RowKit Go.Proofs Go.E4 Go.Ro
set_option maxRecDepth 1000000
def itemOf:Kd→Kd
 |.m3=>.m|_=>.pl
def Aaq (n:Int)(k:Kd)(ins:Bool):GT:=
 bif k.arr then
  let i:=itemOf k
  .once 1 (.child n i true (.done (.tab 3))) (.child n i ins (.child n i ins (.child n i ins (.done .lst))))
 else .once 2 (.draw 3 fun d=>.child n k true (.done (.sum (d+1))))
  (match k with
  |.pl=>.once 1 (.child n .m ins (.child n .m ins (.done (.bin 6)))) (.child n .pl3 ins (.draw 4 fun d=>.done (.elt (match d with|0=>0|1=>1|4=>3|_=>2) 1)))
  |.m=>.draw 2 fun d=>match d with
   |0=>.child n .m ins (.done .call)|1=>.child n .m3 ins (.draw 2 fun d=>.done (.elt d 1))
   |_=>.child n .ms ins (.child n .s ins (.done (.bin 5)))
  |.s=>.child n .m ins (.child n .ms ins (.done (.bin 6)))|.m2=>.child n .m ins (.done .sq)|_=>.child n .m ins (.child n .s ins (.done (.bin 6))))
def Jo (n:Int)(k:Kd)(ins:Bool):GT:=
 .once 5 (.leaf k ins (.done .same)) (.draw 7 fun d=>match d with
  |0=>.draw 1 fun c=>.child n k ins (.child n k ins (.done (.bin (3+c))))
  |1=>.child n .pl ins (.child n k ins (.done (.bin 5)))|2=>.child n k ins (.child n .pl ins (.done (.bin 6)))|3=>.draw 2 fun o=>let ko:Kd:=match o with|0=>.pl|1=>.m|_=>.s
   .child n ko ins (.child n ko ins (.child n k ins (.child n k ins (.done .ite))))
  |4=>.draw 1 fun c=>.child n .pl ins (.child n k ins (.done (.lett (if c=0 then nA else nZ))))
  |5=>.child n k ins (.done .neg)|_=>Aaq n k ins)
def EV (n:Int)(k:Kd)(ins:Bool)(tm:Tm)(sp:List (Option Int×Kd×Bool)):Bool:=
 match tm,sp with
 |.same,[(none,k1,i1)]=>decide (k1=k)&&decide (i1=ins)|.bin op,[(some l1,ka,i1),(some l2,kb,i2)]=>decide (l1=n)&&(decide (l2=n)&&(decide (i1=ins)&&(decide (i2=ins)&&(decide (op∈[3,4,5,6])&&(decide (kdR op ka kb=some k) && !(Nat.beq op 5&&decide (ka=.m)))))))|.ite,[(some l1,ka,i1),(some l2,kb,i2),(some l3,kc,i3),(some l4,kd,i4)]=>decide (l1=n)&&(decide (l2=n)&&(decide (l3=n)&&(decide (l4=n)&&(decide (i1=ins)&&(decide (i2=ins)&&(decide (i3=ins)&&(decide (i4=ins)&&((decide (ka=.pl)||(decide (ka=.m)||decide (ka=.s)))&&(decide (kb=ka)&&(decide (kc=k)&&decide (kd=k)))))))))))|.lett s,[(some l1,ka,i1),(some l2,kb,i2)]=>decide (l1=n)&&(decide (l2=n)&&(decide (i1=ins)&&(decide (i2=ins)&&((decide (s=nA)||decide (s=nZ))&&(decide (ka=.pl)&&decide (kb=k))))))|.neg,[(some l1,ka,i1)]=>decide (l1=n)&&(decide (i1=ins)&&decide (ka=k))|.tab c,[(some l1,ka,i1)]=>decide (l1=n)&&(i1&&(Nat.beq c 3&&decide (Gp ka=some k)))|.lst,[(some l1,ka,i1),(some l2,kb,i2),(some l3,kc,i3)]=>decide (l1=n)&&(decide (l2=n)&&(decide (l3=n)&&(decide (i1=ins)&&(decide (i2=ins)&&(decide (i3=ins)&&(decide (kb=ka)&&(decide (kc=ka)&&decide (Gp ka=some k))))))))|.sum c,[(some l1,ka,i1)]=>decide (l1=n)&&(i1&&(Nat.ble 1 c&&(Nat.ble c 4&&(!k.arr&&decide (ka=k)))))|.elt i j,[(some l1,ka,i1)]=>decide (l1=n)&&(decide (i1=ins)&&(Nat.blt i 4&&(Nat.beq j 1&&decide (Gp k=some ka))))|.call,[(some l1,ka,i1)]=>decide (l1=n)&&(decide (i1=ins)&&(decide (ka=.m)&&decide (k=.m)))|.sq,[(some l1,ka,i1)]=>decide (l1=n)&&(decide (i1=ins)&&(decide (ka=.m)&&decide (k=.m2)))|_,_=>false
theorem Yy (l:List AV):(kds.all fun k=>[true,false].all fun ins=>DN l 13 [.int .i64 1,.int .i64 k.n,.bool ins] (EV 0 k ins) (.leaf k ins (.done .same)) [])=true:=by kernel_rfl
theorem Z7 (l:List AV):(kds.all fun k=>[true,false].all fun ins=>DN l 13 [.int .i64 2,.int .i64 k.n,.bool ins] (EV 1 k ins) (Jo 1 k ins) [])=true:=by kernel_rfl
theorem VW:(kds.all fun k=>[true,false].all fun ins=>FQ (some 1) true 8 (Jo 1 k ins))=true∧(kds.all fun k=>[true,false].all fun ins=>FQ (some 2) true 8 (Jo 2 k ins))=true:=⟨by kernel_rfl,by kernel_rfl⟩
end Go.Ev
end
