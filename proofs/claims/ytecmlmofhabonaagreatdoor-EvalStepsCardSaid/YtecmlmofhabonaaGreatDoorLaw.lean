/- metewandlaw15.EvalSteps over what the generators make and what eval.Eval returns: it returns true. -/
import Derived.Test.YtecmlmofhabonaaGreatDoorNode4
import Derived.Test.YtecmlmofhabonaaGreatDoorMeant1
import Derived.Test.YtecmlmofhabonaaGreatDoorMeant2
import Derived.Test.YtecmlmofhabonaaGreatDoorGen8
import Derived.Test.YtecmlmofhabonaaGreatDoorSize
import Derived.Test.YtecmlmofhabonaaGreatDoorTab
import Derived.Test.YtecmlmofhabonaaGreatDoorRows
import Derived.LaidSub
import Derived.LaidHandle
import Derived.Lay
import Derived.Lib.LaidU8
import Derived.Stop.Joined
import Derived.Test.YtecmlmofhabonaaGreatDoorRun2
import Derived.ChangeShapes
import Derived.WideShapes
import Derived.RowKit
import Derived.ProofKit
import Derived.ChangeSlices
noncomputable section
namespace Go.Ev
open Go Go.Ab Go.Nl Go.Nb Go.RowKit Go.Proofs Go.E4
set_option maxRecDepth 1000000
theorem as_ok:∀q∈asMs,BM (Am []) (mpL []) q:=by
 intro q hq
 obtain⟨n,_,rfl⟩:=List.mem_map.1 hq
 exact Q6 rfl
theorem QB {i n:Nat}(h:PD i n=true){j:Nat}(h1:i≤j)(h2:j<i+n):mOk j=true:=by
 have:=List.all_eq_true.1 h (j-i) (List.mem_range.2 (by omega))
 rwa[show i+(j-i)=j by omega] at this
theorem ZD:mL.map (fun m=>(Au (Am []) noT m.a,inst (Am []) noT m.x))=mL.map (fun m=>(m.a,m.x)):=by kernel_rfl
theorem m_len:mL.length=172:=by kernel_rfl
theorem IU {j:Nat}(z:Int)(hz:z.natAbs<B)(h:((mAt j).f,(mAt j).a,(mAt j).x)=(132,[nzA z],AV.str ((CP z).map UInt8.toNat))):VF (mAt j).f (mAt j).a (.ret (mAt j).x):=by
 simp only[Prod.mk.injEq] at h
 rw[h.1,h.2.1,h.2.2,←IF hz]
 exact O8 (Ao (by decide) (Dy hz))
def mTx:List Nat:=[50,51,73,74,86,115,121,130,140,150]
theorem m_tx:((List.range 172).all fun i=>!Nat.beq (mAt i).f 132||mTx.contains i)=true:=by kernel_rfl
theorem tx50:VF (mAt 50).f (mAt 50).a (.ret (mAt 50).x):=IU 3 (by decide) (by kernel_rfl)
theorem tx51:VF (mAt 51).f (mAt 51).a (.ret (mAt 51).x):=IU 1 (by decide) (by kernel_rfl)
theorem tx73:VF (mAt 73).f (mAt 73).a (.ret (mAt 73).x):=IU 9 (by decide) (by kernel_rfl)
theorem tx74:VF (mAt 74).f (mAt 74).a (.ret (mAt 74).x):=IU 2 (by decide) (by kernel_rfl)
theorem tx86:VF (mAt 86).f (mAt 86).a (.ret (mAt 86).x):=IU 10 (by decide) (by kernel_rfl)
theorem tx115:VF (mAt 115).f (mAt 115).a (.ret (mAt 115).x):=IU 3000 (by decide) (by kernel_rfl)
theorem tx121:VF (mAt 121).f (mAt 121).a (.ret (mAt 121).x):=IU 200 (by decide) (by kernel_rfl)
theorem tx130:VF (mAt 130).f (mAt 130).a (.ret (mAt 130).x):=IU 3200 (by decide) (by kernel_rfl)
theorem tx140:VF (mAt 140).f (mAt 140).a (.ret (mAt 140).x):=IU 0 (by decide) (by kernel_rfl)
theorem tx150:VF (mAt 150).f (mAt 150).a (.ret (mAt 150).x):=IU 4 (by decide) (by kernel_rfl)
theorem m_all:∀i,i<172→VF (mAt i).f (mAt i).a (.ret (mAt i).x):=by
 intro i
 induction i using Nat.strongRecOn with
 | ind i ih=>
  intro hi
  have ho:mOk i=true:=by
   by_cases c0:i<22
   ·exact QB ms0 (by omega) (by omega)
   by_cases c1:i<43
   ·exact QB ms1 (by omega) (by omega)
   by_cases c2:i<64
   ·exact QB ms2 (by omega) (by omega)
   by_cases c3:i<86
   ·exact QB ms3 (by omega) (by omega)
   by_cases c4:i<108
   ·exact QB ms4 (by omega) (by omega)
   by_cases c5:i<129
   ·exact QB ms5 (by omega) (by omega)
   by_cases c6:i<150
   ·exact QB ms6 (by omega) (by omega)
   exact QB ms7 (by omega) (by omega)
  have hs:Au (Am []) noT (mAt i).a=(mAt i).a∧inst (Am []) noT (mAt i).x=(mAt i).x:=by
   have hl:i<mL.length:=by rw[m_len];exact hi
   have:=congrArg (fun l=>l[i]?) ZD
   simp only[List.getElem?_map,List.getElem?_eq_getElem hl,Option.map_some,Option.some.injEq,Prod.mk.injEq] at this
   unfold mAt
   rw[List.getD,List.getElem?_eq_getElem hl]
   exact this
  by_cases h132:(mAt i).f=132
  ·have:=List.all_eq_true.1 m_tx i (List.mem_range.2 hi)
   rw[h132] at this
   have hm:i∈mTx:=by simpa using this
   simp only[mTx,List.mem_cons,List.not_mem_nil,or_false] at hm
   rcases hm with rfl|rfl|rfl|rfl|rfl|rfl|rfl|rfl|rfl|rfl
   ·exact tx50
   ·exact tx51
   ·exact tx73
   ·exact tx74
   ·exact tx86
   ·exact tx115
   ·exact tx121
   ·exact tx130
   ·exact tx140
   ·exact tx150
  ·unfold mOk at ho
   have h0:Nat.beq (mAt i).f 132=false:=by
    cases h:Nat.beq (mAt i).f 132 with
    | false=>rfl
    | true=>exact absurd (Nat.eq_of_beq_eq_true h) h132
   simp only[h0,Bool.false_or,Bool.and_eq_true] at ho
   refine Abp (fun q hq=>?_) ho.2 hs.1 (congrArg AM.ret hs.2)
   rcases List.mem_append.1 hq with hq|hq
   ·obtain⟨j,hj,rfl⟩:=List.mem_map.1 hq
    have hji:=Bb (List.all_eq_true.1 ho.1 j hj)
    have hv:=ih j hji (by omega)
    have hl:j<mL.length:=by rw[m_len];omega
    have hs2:Au (Am []) noT (mAt j).a=(mAt j).a∧inst (Am []) noT (mAt j).x=(mAt j).x:=by
     have:=congrArg (fun l=>l[j]?) ZD
     simp only[List.getElem?_map,List.getElem?_eq_getElem hl,Option.map_some,Option.some.injEq,Prod.mk.injEq] at this
     unfold mAt
     rw[List.getD,List.getElem?_eq_getElem hl]
     exact this
    unfold BM
    show CM P4 gl5 0 (mAt j).f (Au (Am []) noT (mAt j).a) [] (.ret (inst (Am []) noT (mAt j).x)) []
    rw[hs2.1,hs2.2]
    exact hv
   ·exact as_ok q hq
theorem YD:VF 18 [] (.ret (.bool true)):=m_all 171 (by decide)
end Go.Ev
namespace Go.Ev
open Go Go.Ab Go.Nl Go.Nb Go.RowKit Go.Proofs Go.E4 Go.Ro
set_option maxRecDepth 1000000
def Vs:AV:=.psl [.int .i64 0,.str nmF,.psl [.str [120]] 1 none,.sel 11,.sel 12,.sel 13,.sel 14,.sel 15,.sel 16] 1 none
def Vy:AV:=.psl [.str [97],.emp,.psl [.sel 17,.sel 18] 1 none,.emp,.str [98],.emp,.psl [.sel 19,.sel 20] 1 none,dmU [109],.str [99],.emp,.psl [.sel 21,.sel 22] 1 none,dmU [115],.str [118],.psl [.int .i64 3] 1 none,.psl [.sel 23,.sel 24,.sel 25,.sel 26,.sel 27,.sel 28] 3 none,dmU [109],.str [119],.psl [.int .i64 3] 1 none,.psl [.sel 29,.sel 30,.sel 31,.sel 32,.sel 33,.sel 34] 3 none,.emp] 5 none
def lxA:AV:=.agg [.sel 35,.sel 36,.sel 37,.sel 38,.sel 39,.sel 40]
def lxB:AV:=.agg [.sel 41,.sel 42,.sel 43,.sel 44,.sel 45,.sel 46]
def lwOp (o:Nat)(s:List Nat):AV:=.agg [.int .i64 (.ofNat o),.str [],.str [],.str s,.int .i64 0,.psl [.sel 35,.sel 36,.sel 37,.sel 38,.sel 39,.sel 40,.sel 41,.sel 42,.sel 43,.sel 44,.sel 45,.sel 46] 2 none]
def lwNeg:AV:=.agg [.int .i64 2,.str [],.str [],.str [],.int .i64 0,.psl [.sel 35,.sel 36,.sel 37,.sel 38,.sel 39,.sel 40] 1 none]
def Nc (x:AV)(r:AV):OF:=vq 16 [CB,Vs,Vy,x] (.ret r)
def T2 (v:Nat)(n:AV):AV:=.tup [.agg [.sel v,.sel (v+1),.sel (v+2)],n,.int .i64 0]
def lwEr (n:Nat):AV:=.tup [MW,.int .i64 0,.sel n]
def st0:AO:=.cells 79 [.sel 0,.int .i64 0,.int .u64 7640891576956012809]
def Q0:List OF:=[vq 10 [] (.ret CB),vq 18 [] (.ret (.bool true)),⟨11,1,[.ptr 0 0],[(0,st0)],.ret Vs,[(0,some (stO 1))]⟩,gF 12 [] 1 3 Vy]
def lwTy (n:Int)(k:Kd):List OF:=[gF 14 [.int .i64 6] 3 5 (.int .i64 k.n),gF 13 [.int .i64 n,.int .i64 k.n,.bool false] 5 7 lxA,gF 13 [.int .i64 n,.int .i64 k.n,.bool false] 7 9 lxB]
noncomputable def runL (f:FuncId)(l:List AV)(facts:List OF)(bins:List NB):Bool:=facts.all (fun q=>BH q.N q.args q.l q.res q.u)&&Kf (EM l [] facts bins [] []) 4000 80 0 f [.sel 0] [] (.ret (.bool true)) []
theorem LP {f:FuncId}{l:List AV}(hl:Pls l){facts:List OF}{bins:List NB}(h:runL f l facts bins=true)(hf:∀q∈facts,BM (Am l) (mpL []) q)(hb:∀q∈bins,DL (Am l) q):AP P4 gl5 f [Am l 0] (.bool true):=by
 unfold runL at h
 simp only[Bool.and_eq_true] at h
 exact compC hl (mu:=[]) rfl h.1 hf hb Ad Ad h.2
def stF:List OF:=[Nc lxA (T2 49 (.sel 47)),Nc lxB (T2 52 (.sel 48)),Nc (lwOp 3 []) (T2 55 (.sel 65)),Nc lwNeg (T2 58 (.sel 66)),Nc (lwOp 13 nU) (T2 61 (.sel 65))]
def stB:List NB:=[⟨.gtr,.sel 47,.int .i64 0,.bool true⟩,⟨.gtr,.sel 48,.int .i64 0,.bool true⟩,⟨.add,.sel 47,.sel 48,.sel 64⟩,⟨.add,.sel 64,.int .i64 1,.sel 65⟩,⟨.add,.sel 47,.int .i64 1,.sel 66⟩,⟨.eql,.sel 65,.sel 65,.bool true⟩,⟨.eql,.sel 66,.sel 66,.bool true⟩]
theorem AbI (l:List AV):(kds.all fun k=>runL 5 l (Q0++(lwTy 3 k++stF)) stB)=true:=by kernel_rfl
theorem AcT (l:List AV):(kds.all fun k=>runL 5 l (Q0++(lwTy 3 k++[Nc lxA (lwEr 47),Nc lxB (T2 49 (.sel 48))])) [⟨.neq,.sel 47,.int .i64 0,.bool true⟩])=true:=by kernel_rfl
theorem Ace (l:List AV):(kds.all fun k=>runL 5 l (Q0++(lwTy 3 k++[Nc lxA (T2 49 (.sel 48)),Nc lxB (lwEr 47)])) [⟨.neq,.sel 47,.int .i64 0,.bool true⟩])=true:=by kernel_rfl
theorem AbJ (l:List AV):(kds.all fun k=>runL 5 l (Q0++(lwTy 3 k++[Nc lxA (lwEr 47),Nc lxB (lwEr 48)])) [⟨.neq,.sel 47,.int .i64 0,.bool true⟩])=true:=by kernel_rfl
def EW (v:Vl):AV:=.psl (v.it.flatMap fun q=>[Ag q.1,Ag q.2]) v.it.length none
theorem AcB (v:Vl):Pl (EW v):=by
 have:∀l:List Q,Bi (l.flatMap fun q=>[Ag q.1,Ag q.2])=true:=fun l=>by
  induction l with
  | nil=>rfl
  | cons q r ih=>simpa[List.flatMap_cons,Bi,Ay] using ih
 have h:=this v.it
 simp only[Pl,EW,Ay,h,AV.cell,Bool.and_self]
theorem pl_od (d:Dm):Pl (ER d):=by cases d<;>rfl
theorem po (v:Vl){r:List AV}(h:Pls r):Pls (Aq v.sh::EW v::ER v.dm::r):=all_cons (Pl.sh _)<|all_cons (AcB v)<|all_cons (pl_od _) h
theorem T3:VF 10 [] (.ret CB):=Bj (l:=[]) rfl Ad (AcZ []) rfl rfl
structure Made (xs:List Int)(t1 t2 t3 t4:Nat)(b:Bn)(f a c:X)(k:Kd)(n:Int):Prop where
 m1:CM P4 gl5 1 11 [.ptr 0 0] [(0,CJ xs 0)] (.ret (C4 f)) [(0,some (CJ xs t1))]
 m2:CM P4 gl5 1 12 [.ptr 0 0] [(0,CJ xs t1)] (.ret (C5 b)) [(0,some (CJ xs t2))]
 m3:CM P4 gl5 1 14 [.ptr 0 0,.int .i64 6] [(0,CJ xs t2)] (.ret (.int .i64 k.n)) [(0,some (CJ xs (t2+1)))]
 m4:CM P4 gl5 1 13 [.ptr 0 0,.int .i64 n,.int .i64 k.n,.bool false] [(0,CJ xs (t2+1))] (.ret a.av) [(0,some (CJ xs t3))]
 m5:CM P4 gl5 1 13 [.ptr 0 0,.int .i64 n,.int .i64 k.n,.bool false] [(0,CJ xs t3)] (.ret c.av) [(0,some (CJ xs t4))]
section
variable {xs:List Int}{t1 t2 t3 t4:Nat}{b:Bn}{f a c:X}{k:Kd}{n:Int}
theorem O7 (h:Made xs t1 t2 t3 t4 b f a c k n)(r:List AV):∀q∈Q0++lwTy n k,BM (Am ([BE xs,.int .i64 (t1:Int),.int .u64 (stN xs t1),.int .i64 (t2:Int),.int .u64 (stN xs t2),.int .i64 ((t2+1:Nat):Int),.int .u64 (stN xs (t2+1)),.int .i64 (t3:Int),.int .u64 (stN xs t3),.int .i64 (t4:Int),.int .u64 (stN xs t4),f.c0,f.c1,f.c2,f.c3,f.c4,f.c5,.str b.i0.t,.str b.i0.d,.str b.i1.t,.str b.i1.d,.str b.i2.t,.str b.i2.d,.str b.i3.t,.str b.i3.d,.str b.i4.t,.str b.i4.d,.str b.i5.t,.str b.i5.d,.str b.i6.t,.str b.i6.d,.str b.i7.t,.str b.i7.d,.str b.i8.t,.str b.i8.d,a.c0,a.c1,a.c2,a.c3,a.c4,a.c5,c.c0,c.c1,c.c2,c.c3,c.c4,c.c5]++r)) (mpL []) q:=
 Af (Aa (Ac T3 rfl rfl)<|Aa (Ac YD rfl rfl)<|Aa h.m1<|Aa (D4 h.m2 rfl rfl rfl rfl)<|Ad)
  (Aa (D4 h.m3 rfl rfl rfl rfl)<|Aa (D4 h.m4 rfl rfl rfl rfl)<|Aa (D4 h.m5 rfl rfl rfl rfl)<|Ad)
end
set_option maxHeartbeats 4000000 in
theorem st_kk {xs:List Int}{t1 t2 t3 t4:Nat}{b:Bn}{f a c:X}{k:Kd}(h:Made xs t1 t2 t3 t4 b f a c k 3){n m:Int}(hn0:0<n)(hm0:0<m)(hn1:n≤400)(hm1:m≤400){u v w1 w2 w3:Vl}(ha:VF 16 [CB,C4 f,C5 b,a.av] (.ret (.tup [u.out,.int .i64 n,.int .i64 0])))(hc:VF 16 [CB,C4 f,C5 b,c.av] (.ret (.tup [v.out,.int .i64 m,.int .i64 0])))(hs:VF 16 [CB,C4 f,C5 b,(X.bin 3 a c).av] (.ret (.tup [w1.out,.int .i64 (n+m+1),.int .i64 0])))(hn:VF 16 [CB,C4 f,C5 b,(X.neg a).av] (.ret (.tup [w2.out,.int .i64 (n+1),.int .i64 0])))(hl:VF 16 [CB,C4 f,C5 b,(X.lett nU a c).av] (.ret (.tup [w3.out,.int .i64 (n+m+1),.int .i64 0]))):AP P4 gl5 5 [BE xs] (.bool true):=by
 have hr:=List.all_eq_true.1 (AbI ([BE xs,.int .i64 (t1:Int),.int .u64 (stN xs t1),.int .i64 (t2:Int),.int .u64 (stN xs t2),.int .i64 ((t2+1:Nat):Int),.int .u64 (stN xs (t2+1)),.int .i64 (t3:Int),.int .u64 (stN xs t3),.int .i64 (t4:Int),.int .u64 (stN xs t4),f.c0,f.c1,f.c2,f.c3,f.c4,f.c5,.str b.i0.t,.str b.i0.d,.str b.i1.t,.str b.i1.d,.str b.i2.t,.str b.i2.d,.str b.i3.t,.str b.i3.d,.str b.i4.t,.str b.i4.d,.str b.i5.t,.str b.i5.d,.str b.i6.t,.str b.i6.d,.str b.i7.t,.str b.i7.d,.str b.i8.t,.str b.i8.d,a.c0,a.c1,a.c2,a.c3,a.c4,a.c5,c.c0,c.c1,c.c2,c.c3,c.c4,c.c5]++[.int .i64 n,.int .i64 m,Aq u.sh,EW u,ER u.dm,Aq v.sh,EW v,ER v.dm,Aq w1.sh,EW w1,ER w1.dm,Aq w2.sh,EW w2,ER w2.dm,Aq w3.sh,EW w3,ER w3.dm,.int .i64 (n+m),.int .i64 (n+m+1),.int .i64 (n+1)])) k (Jh k)
 have hg:=O7 h [.int .i64 n,.int .i64 m,Aq u.sh,EW u,ER u.dm,Aq v.sh,EW v,ER v.dm,Aq w1.sh,EW w1,ER w1.dm,Aq w2.sh,EW w2,ER w2.dm,Aq w3.sh,EW w3,ER w3.dm,.int .i64 (n+m),.int .i64 (n+m+1),.int .i64 (n+1)]
 exact LP (l:=[BE xs,.int .i64 (t1:Int),.int .u64 (stN xs t1),.int .i64 (t2:Int),.int .u64 (stN xs t2),.int .i64 ((t2+1:Nat):Int),.int .u64 (stN xs (t2+1)),.int .i64 (t3:Int),.int .u64 (stN xs t3),.int .i64 (t4:Int),.int .u64 (stN xs t4),f.c0,f.c1,f.c2,f.c3,f.c4,f.c5,.str b.i0.t,.str b.i0.d,.str b.i1.t,.str b.i1.d,.str b.i2.t,.str b.i2.d,.str b.i3.t,.str b.i3.d,.str b.i4.t,.str b.i4.d,.str b.i5.t,.str b.i5.d,.str b.i6.t,.str b.i6.d,.str b.i7.t,.str b.i7.d,.str b.i8.t,.str b.i8.d,a.c0,a.c1,a.c2,a.c3,a.c4,a.c5,c.c0,c.c1,c.c2,c.c3,c.c4,c.c5]++[.int .i64 n,.int .i64 m,Aq u.sh,EW u,ER u.dm,Aq v.sh,EW v,ER v.dm,Aq w1.sh,EW w1,ER w1.dm,Aq w2.sh,EW w2,ER w2.dm,Aq w3.sh,EW w3,ER w3.dm,.int .i64 (n+m),.int .i64 (n+m+1),.int .i64 (n+1)]) (Vk (all_cons (Ir xs)<|all_cons rfl<|all_cons rfl<|all_cons rfl<|all_cons rfl<|all_cons rfl<|all_cons rfl<|all_cons rfl<|all_cons rfl<|all_cons rfl<|all_cons rfl<|px f<|ps _<|ps _<|ps _<|ps _<|ps _<|ps _<|ps _<|ps _<|ps _<|ps _<|ps _<|ps _<|ps _<|ps _<|ps _<|ps _<|ps _<|ps _<|px a<|px c<|rfl) (pi _<|pi _<|po u<|po v<|po w1<|po w2<|po w3<|pi _<|pi _<|pi _<|rfl)) hr (by
  rw[←List.append_assoc]
  exact Af hg (Aa (Ac ha rfl rfl)<|Aa (Ac hc rfl rfl)<|Aa (Ac hs rfl rfl)<|Aa (Ac hn rfl rfl)<|Aa (Ac hl rfl rfl)<|Ad)) (Aa (Cg n 0 rfl rfl rfl (by simp[BB,inst,hn0]))<|Aa (Cg m 0 rfl rfl rfl (by simp[BB,inst,hm0]))<|Aa (Bo n m (n+m) rfl rfl rfl rfl (by unfold wrap64;omega))<|Aa (Bo (n+m) 1 (n+m+1) rfl rfl rfl rfl (by unfold wrap64;omega))<|Aa (Bo n 1 (n+1) rfl rfl rfl rfl (by unfold wrap64;omega))<|Aa (Cg (n+m+1) (n+m+1) rfl rfl rfl (by simp[BB,inst]))<|Aa (Cg (n+1) (n+1) rfl rfl rfl (by simp[BB,inst]))<|Ad)
set_option maxHeartbeats 4000000 in
theorem st_ek {xs:List Int}{t1 t2 t3 t4:Nat}{b:Bn}{f a c:X}{k:Kd}(h:Made xs t1 t2 t3 t4 b f a c k 3){er:Nat}(h0:er≠0){m:Int}{v:Vl}(ha:VF 16 [CB,C4 f,C5 b,a.av] (.ret (.tup [MW,.int .i64 0,.int .i64 (.ofNat er)])))(hc:VF 16 [CB,C4 f,C5 b,c.av] (.ret (.tup [v.out,.int .i64 m,.int .i64 0]))):AP P4 gl5 5 [BE xs] (.bool true):=by
 have hr:=List.all_eq_true.1 (AcT ([BE xs,.int .i64 (t1:Int),.int .u64 (stN xs t1),.int .i64 (t2:Int),.int .u64 (stN xs t2),.int .i64 ((t2+1:Nat):Int),.int .u64 (stN xs (t2+1)),.int .i64 (t3:Int),.int .u64 (stN xs t3),.int .i64 (t4:Int),.int .u64 (stN xs t4),f.c0,f.c1,f.c2,f.c3,f.c4,f.c5,.str b.i0.t,.str b.i0.d,.str b.i1.t,.str b.i1.d,.str b.i2.t,.str b.i2.d,.str b.i3.t,.str b.i3.d,.str b.i4.t,.str b.i4.d,.str b.i5.t,.str b.i5.d,.str b.i6.t,.str b.i6.d,.str b.i7.t,.str b.i7.d,.str b.i8.t,.str b.i8.d,a.c0,a.c1,a.c2,a.c3,a.c4,a.c5,c.c0,c.c1,c.c2,c.c3,c.c4,c.c5,.int .i64 (.ofNat er),.int .i64 m,Aq v.sh,EW v,ER v.dm])) k (Jh k)
 have hg:=O7 h [.int .i64 (.ofNat er),.int .i64 m,Aq v.sh,EW v,ER v.dm]
 exact LP (l:=[BE xs,.int .i64 (t1:Int),.int .u64 (stN xs t1),.int .i64 (t2:Int),.int .u64 (stN xs t2),.int .i64 ((t2+1:Nat):Int),.int .u64 (stN xs (t2+1)),.int .i64 (t3:Int),.int .u64 (stN xs t3),.int .i64 (t4:Int),.int .u64 (stN xs t4),f.c0,f.c1,f.c2,f.c3,f.c4,f.c5,.str b.i0.t,.str b.i0.d,.str b.i1.t,.str b.i1.d,.str b.i2.t,.str b.i2.d,.str b.i3.t,.str b.i3.d,.str b.i4.t,.str b.i4.d,.str b.i5.t,.str b.i5.d,.str b.i6.t,.str b.i6.d,.str b.i7.t,.str b.i7.d,.str b.i8.t,.str b.i8.d,a.c0,a.c1,a.c2,a.c3,a.c4,a.c5,c.c0,c.c1,c.c2,c.c3,c.c4,c.c5,.int .i64 (.ofNat er),.int .i64 m,Aq v.sh,EW v,ER v.dm]) (all_cons (Ir xs)<|all_cons rfl<|all_cons rfl<|all_cons rfl<|all_cons rfl<|all_cons rfl<|all_cons rfl<|all_cons rfl<|all_cons rfl<|all_cons rfl<|all_cons rfl<|px f<|ps _<|ps _<|ps _<|ps _<|ps _<|ps _<|ps _<|ps _<|ps _<|ps _<|ps _<|ps _<|ps _<|ps _<|ps _<|ps _<|ps _<|ps _<|px a<|px c<|pi _<|pi _<|po v<|rfl) hr (by
  rw[←List.append_assoc]
  exact Af hg (Aa (Ac ha rfl rfl)<|Aa (Ac hc rfl rfl)<|Ad)) (Aa (Cg (.ofNat er) 0 rfl rfl rfl (by simp[BB,inst,h0]))<|Ad)
set_option maxHeartbeats 4000000 in
theorem st_ke {xs:List Int}{t1 t2 t3 t4:Nat}{b:Bn}{f a c:X}{k:Kd}(h:Made xs t1 t2 t3 t4 b f a c k 3){er:Nat}(h0:er≠0){m:Int}{v:Vl}(ha:VF 16 [CB,C4 f,C5 b,a.av] (.ret (.tup [v.out,.int .i64 m,.int .i64 0])))(hc:VF 16 [CB,C4 f,C5 b,c.av] (.ret (.tup [MW,.int .i64 0,.int .i64 (.ofNat er)]))):AP P4 gl5 5 [BE xs] (.bool true):=by
 have hr:=List.all_eq_true.1 (Ace ([BE xs,.int .i64 (t1:Int),.int .u64 (stN xs t1),.int .i64 (t2:Int),.int .u64 (stN xs t2),.int .i64 ((t2+1:Nat):Int),.int .u64 (stN xs (t2+1)),.int .i64 (t3:Int),.int .u64 (stN xs t3),.int .i64 (t4:Int),.int .u64 (stN xs t4),f.c0,f.c1,f.c2,f.c3,f.c4,f.c5,.str b.i0.t,.str b.i0.d,.str b.i1.t,.str b.i1.d,.str b.i2.t,.str b.i2.d,.str b.i3.t,.str b.i3.d,.str b.i4.t,.str b.i4.d,.str b.i5.t,.str b.i5.d,.str b.i6.t,.str b.i6.d,.str b.i7.t,.str b.i7.d,.str b.i8.t,.str b.i8.d,a.c0,a.c1,a.c2,a.c3,a.c4,a.c5,c.c0,c.c1,c.c2,c.c3,c.c4,c.c5,.int .i64 (.ofNat er),.int .i64 m,Aq v.sh,EW v,ER v.dm])) k (Jh k)
 have hg:=O7 h [.int .i64 (.ofNat er),.int .i64 m,Aq v.sh,EW v,ER v.dm]
 exact LP (l:=[BE xs,.int .i64 (t1:Int),.int .u64 (stN xs t1),.int .i64 (t2:Int),.int .u64 (stN xs t2),.int .i64 ((t2+1:Nat):Int),.int .u64 (stN xs (t2+1)),.int .i64 (t3:Int),.int .u64 (stN xs t3),.int .i64 (t4:Int),.int .u64 (stN xs t4),f.c0,f.c1,f.c2,f.c3,f.c4,f.c5,.str b.i0.t,.str b.i0.d,.str b.i1.t,.str b.i1.d,.str b.i2.t,.str b.i2.d,.str b.i3.t,.str b.i3.d,.str b.i4.t,.str b.i4.d,.str b.i5.t,.str b.i5.d,.str b.i6.t,.str b.i6.d,.str b.i7.t,.str b.i7.d,.str b.i8.t,.str b.i8.d,a.c0,a.c1,a.c2,a.c3,a.c4,a.c5,c.c0,c.c1,c.c2,c.c3,c.c4,c.c5,.int .i64 (.ofNat er),.int .i64 m,Aq v.sh,EW v,ER v.dm]) (all_cons (Ir xs)<|all_cons rfl<|all_cons rfl<|all_cons rfl<|all_cons rfl<|all_cons rfl<|all_cons rfl<|all_cons rfl<|all_cons rfl<|all_cons rfl<|all_cons rfl<|px f<|ps _<|ps _<|ps _<|ps _<|ps _<|ps _<|ps _<|ps _<|ps _<|ps _<|ps _<|ps _<|ps _<|ps _<|ps _<|ps _<|ps _<|ps _<|px a<|px c<|pi _<|pi _<|po v<|rfl) hr (by
  rw[←List.append_assoc]
  exact Af hg (Aa (Ac ha rfl rfl)<|Aa (Ac hc rfl rfl)<|Ad)) (Aa (Cg (.ofNat er) 0 rfl rfl rfl (by simp[BB,inst,h0]))<|Ad)
set_option maxHeartbeats 4000000 in
theorem st_ee {xs:List Int}{t1 t2 t3 t4:Nat}{b:Bn}{f a c:X}{k:Kd}(h:Made xs t1 t2 t3 t4 b f a c k 3){er er2:Nat}(h0:er≠0)(ha:VF 16 [CB,C4 f,C5 b,a.av] (.ret (.tup [MW,.int .i64 0,.int .i64 (.ofNat er)])))(hc:VF 16 [CB,C4 f,C5 b,c.av] (.ret (.tup [MW,.int .i64 0,.int .i64 (.ofNat er2)]))):AP P4 gl5 5 [BE xs] (.bool true):=by
 have hr:=List.all_eq_true.1 (AbJ ([BE xs,.int .i64 (t1:Int),.int .u64 (stN xs t1),.int .i64 (t2:Int),.int .u64 (stN xs t2),.int .i64 ((t2+1:Nat):Int),.int .u64 (stN xs (t2+1)),.int .i64 (t3:Int),.int .u64 (stN xs t3),.int .i64 (t4:Int),.int .u64 (stN xs t4),f.c0,f.c1,f.c2,f.c3,f.c4,f.c5,.str b.i0.t,.str b.i0.d,.str b.i1.t,.str b.i1.d,.str b.i2.t,.str b.i2.d,.str b.i3.t,.str b.i3.d,.str b.i4.t,.str b.i4.d,.str b.i5.t,.str b.i5.d,.str b.i6.t,.str b.i6.d,.str b.i7.t,.str b.i7.d,.str b.i8.t,.str b.i8.d,a.c0,a.c1,a.c2,a.c3,a.c4,a.c5,c.c0,c.c1,c.c2,c.c3,c.c4,c.c5,.int .i64 (.ofNat er),.int .i64 (.ofNat er2)])) k (Jh k)
 have hg:=O7 h [.int .i64 (.ofNat er),.int .i64 (.ofNat er2)]
 exact LP (l:=[BE xs,.int .i64 (t1:Int),.int .u64 (stN xs t1),.int .i64 (t2:Int),.int .u64 (stN xs t2),.int .i64 ((t2+1:Nat):Int),.int .u64 (stN xs (t2+1)),.int .i64 (t3:Int),.int .u64 (stN xs t3),.int .i64 (t4:Int),.int .u64 (stN xs t4),f.c0,f.c1,f.c2,f.c3,f.c4,f.c5,.str b.i0.t,.str b.i0.d,.str b.i1.t,.str b.i1.d,.str b.i2.t,.str b.i2.d,.str b.i3.t,.str b.i3.d,.str b.i4.t,.str b.i4.d,.str b.i5.t,.str b.i5.d,.str b.i6.t,.str b.i6.d,.str b.i7.t,.str b.i7.d,.str b.i8.t,.str b.i8.d,a.c0,a.c1,a.c2,a.c3,a.c4,a.c5,c.c0,c.c1,c.c2,c.c3,c.c4,c.c5,.int .i64 (.ofNat er),.int .i64 (.ofNat er2)]) (all_cons (Ir xs)<|all_cons rfl<|all_cons rfl<|all_cons rfl<|all_cons rfl<|all_cons rfl<|all_cons rfl<|all_cons rfl<|all_cons rfl<|all_cons rfl<|all_cons rfl<|px f<|ps _<|ps _<|ps _<|ps _<|ps _<|ps _<|ps _<|ps _<|ps _<|ps _<|ps _<|ps _<|ps _<|ps _<|ps _<|ps _<|ps _<|ps _<|px a<|px c<|pi _<|pi _<|rfl) hr (by
  rw[←List.append_assoc]
  exact Af hg (Aa (Ac ha rfl rfl)<|Aa (Ac hc rfl rfl)<|Ad)) (Aa (Cg (.ofNat er) 0 rfl rfl rfl (by simp[BB,inst,h0]))<|Ad)
def cbOf:FB→Option (Nat×Q)
 | none=>none
 | some (k,p,q)=>some (k,((p:Int),(q:Int)))
theorem Mb {k p q:Nat}(h:F3 (some (k,p,q))=true):k≤5∧p<10∧q<6∧Fr [48+p] [48+q] ((p:Int),(q:Int)):=by
 simp only[F3,Bool.and_eq_true] at h
 obtain⟨h1,h2,h3,h4,h5⟩:=h
 have h1:=Nat.le_of_ble_eq_true h1;have h2:=Bb h2;have h3:=Bb h3;have h4:=Bb h4;have h5:=Nat.eq_of_beq_eq_true h5
 exact⟨h1,h2,h4,Je h2 h3 h4 h5⟩
theorem Fr.sz {t d:List Nat}{q:Q}(h:Fr t d q):Sz 65536 q:=by
 have h1:q.1.natAbs<10000:=of_decide_eq_true (List.all_eq_true.1 Rm _ h.num)
 obtain⟨x,hx,_,e⟩:=h.den
 simp only[Q8,List.mem_cons,List.not_mem_nil,or_false] at hx
 exact⟨by omega,by omega⟩
theorem YN {b:Bn}(hb:Rc b){f:FB}(hf:F3 f=true):EnOk (b.en (FD f)) (cbOf f):=by
 refine⟨BX rfl hb.i0.ok,BX rfl hb.i1.ok,BX rfl hb.i2.ok,E5 rfl hb.i3.ok hb.i4.ok hb.i5.ok,E5 rfl hb.i6.ok hb.i7.ok hb.i8.ok,?_⟩
 match f,hf with
 | none,_=>rfl
 | some (k,p,q),hf=>
  obtain⟨h1,h2,h3,h4⟩:=Mb hf
  refine⟨?_,_,_,rfl,h4.lit⟩
  have:k=0∨k=1∨k=2∨k=3∨k=4∨k=5:=by omega
  simpa using this
theorem Yn {b:Bn}(hb:Rc b){f:FB}(hf:F3 f=true):EnSz (b.en (FD f)) (cbOf f):=by
 have one:∀{p d q dm},Fr p d q→SzV 65536 (⟨[],[q],dm⟩:Vl):=fun h x hx=>by
  simp only[List.mem_singleton] at hx
  subst hx
  exact h.sz
 have three:∀{p d q p' d' q' p'' d'' q'' dm},Fr p d q→Fr p' d' q'→Fr p'' d'' q''→SzV 65536 (⟨[3],[q,q',q''],dm⟩:Vl):=fun h h' h'' x hx=>by
  simp only[List.mem_cons,List.not_mem_nil,or_false] at hx
  rcases hx with rfl|rfl|rfl
  ·exact h.sz
  ·exact h'.sz
  ·exact h''.sz
 refine⟨one hb.i0,one hb.i1,one hb.i2,three hb.i3 hb.i4 hb.i5,three hb.i6 hb.i7 hb.i8,fun k q h=>?_⟩
 match f,hf with
 | none,_=>cases h
 | some (k',p,q'),hf=>
  simp only[cbOf,Option.some.injEq,Prod.mk.injEq] at h
  obtain⟨_,rfl⟩:=h
  exact(Mb hf).2.2.2.sz
theorem hi_neg {h:Int}(h0:0≤h){a:X}(ha:Hi h a):Hi (h+1) (.neg a):=fun d h1 h2=>w_neg h1 (by omega) (ha _ (by omega) (by omega))
theorem Acw {h:Int}(h0:0≤h){s:List Nat}(hs:s∈FA){a b:X}(ha:Hi h a)(hb:Hi h b):Hi (h+1) (.lett s a b):=fun d h1 h2=>YT h1 (by omega) hs (ha _ (by omega) (by omega)) (hb _ (by omega) (by omega))
theorem hi_ite {h:Int}(h0:0≤h){a b c e:X}(ha:Hi h a)(hb:Hi h b)(hc:Hi h c)(he:Hi h e):Hi (h+1) (.ite a b c e):=fun d h1 h2=>w_ite h1 (by omega) (ha _ (by omega) (by omega)) (hb _ (by omega) (by omega)) (hc _ (by omega) (by omega)) (he _ (by omega) (by omega))
theorem Ac5 {f:FB}(hf:F3 f=true):Wk 0 (FD f):=by
 have x:Hi 0 (.ref nX):=Pv (by decide)
 match f,hf with
 | none,_=>
  have l:Hi 0 (.lit [48] [49] (0,1) 0):=GI (a:=0) (b:=1) (u:=0) (by decide) (by decide) (by decide) (by decide) (by decide)
  exact(I3 (op:=3) (by decide) (h:=1) (by decide) (x.mono (by decide)) (I3 (op:=5) (by decide) (by decide) l x)) 0 (by decide) (by decide)
 | some (k,p,q),hf=>
  obtain⟨h1,h2,h3,h4⟩:=Mb hf
  have hq:0<q∧Nat.gcd p q=1:=by
   simp only[F3,Bool.and_eq_true] at hf
   exact⟨Bb hf.2.2.1,Nat.eq_of_beq_eq_true hf.2.2.2.2⟩
  have l1:Hi 0 (P6 k 1 1):=Vq (by omega) (by decide)
  have l2:Hi 0 (P6 p q 0):=GI h2 hq.1 h3 hq.2 (by decide)
  exact(hi_ite (h:=1) (by decide) (x.mono (by decide)) (l1.mono (by decide)) (I3 (op:=5) (by decide) (by decide) l2 x) (x.mono (by decide))) 0 (by decide) (by decide)
theorem kd_of {d:Int}(h0:0≤d)(h6:d≤6):∃k:Kd,d=k.n:=by
 have:d=0∨d=1∨d=2∨d=3∨d=4∨d=5∨d=6:=by omega
 rcases this with rfl|rfl|rfl|rfl|rfl|rfl|rfl
 ·exact⟨.pl,rfl⟩
 ·exact⟨.m,rfl⟩
 ·exact⟨.s,rfl⟩
 ·exact⟨.m3,rfl⟩
 ·exact⟨.pl3,rfl⟩
 ·exact⟨.m2,rfl⟩
 ·exact⟨.ms,rfl⟩
theorem Xw (xs:List Int):AP P4 gl5 5 [BE xs] (.bool true):=by
 obtain⟨f,t1,hf,_,ht1,m1⟩:=WI xs 0 (by decide)
 obtain⟨b,t2,hb,_,ht2,m2⟩:=T0 xs t1 (by omega)
 have hr:=FL xs t2 6
 obtain⟨k,hk⟩:=kd_of hr.1 hr.2
 have m3:=g_up xs t2 6 (by omega) (by decide)
 rw[hk] at m3
 obtain⟨a,t3,_,ht3,ga,m4⟩:=X9 xs k false (t2+1) (by omega)
 obtain⟨c,t4,_,ht4,gc,m5⟩:=X9 xs k false t3 (by omega)
 have made:Made xs t1 t2 t3 t4 b (FD f) a c k 3:=⟨m1,m2,m3,m4,m5⟩
 have he:=YN hb hf
 have hz:=Yn hb hf
 have wf:=Ac5 hf
 obtain⟨ta,wa⟩:Ty 2 false k a∧Hi 3 a:=ga
 obtain⟨tc,wc⟩:Ty 2 false k c∧Hi 3 c:=gc
 have ca:=Lz ta
 have cc:=Lz tc
 have k2:EO 2=83:=by decide
 rw[k2] at ca cc
 have ga:=Ey he ta (bs0 (by decide)) (n:=0) (by decide) (by omega)
 have gc:=Ey he tc (bs0 (by decide)) (n:=0) (by decide) (by omega)
 have wa0:=wa 0 (by decide) (by decide)
 have wc0:=wc 0 (by decide) (by decide)
 cases ea:evS (b.en (FD f)) (cbOf f) [] a 0 with
 | error er=>
  have g1:=ga.1
  rw[ea] at g1
  have ha:=eval_err hb wf wa0 (Kr _ _ _ _ ea) g1
  cases ec:evS (b.en (FD f)) (cbOf f) [] c 0 with
  | error er2=>
   have g2:=gc.1
   rw[ec] at g2
   exact st_ee made (Kr _ _ _ _ ea) ha (eval_err hb wf wc0 (Kr _ _ _ _ ec) g2)
  | ok q=>
   obtain⟨v,m⟩:=q
   have g2:=gc.1
   rw[ec] at g2
   exact st_ek made (Kr _ _ _ _ ea) ha (eval_ok hb wf wc0 (gc.2 v m ec).1 g2)
 | ok q=>
  obtain⟨u,n⟩:=q
  have g1:=ga.1
  rw[ea] at g1
  have ha:=eval_ok hb wf wa0 (ga.2 u n ea).1 g1
  cases ec:evS (b.en (FD f)) (cbOf f) [] c 0 with
  | error er2=>
   have g2:=gc.1
   rw[ec] at g2
   exact st_ke made (Kr _ _ _ _ ec) ha (eval_err hb wf wc0 (Kr _ _ _ _ ec) g2)
  | ok q=>
   obtain⟨v,m⟩:=q
   have g2:=gc.1
   rw[ec] at g2
   have ad:=adds he hz ta tc ea ec
   obtain⟨w1,v1,e1⟩:=ad.add
   obtain⟨w2,v2,e2⟩:=ad.neg
   obtain⟨w3,v3,e3⟩:=ad.lett
   exact st_kk made ad.n0 ad.m0 ad.n1 ad.m1 ha (eval_ok hb wf wc0 (gc.2 v m ec).1 g2)
    (eval_ok hb wf ((I3 (op:=3) (by decide) (by decide) wa wc) 0 (by decide) (by decide)) v1 e1)
    (eval_ok hb wf ((hi_neg (by decide) wa) 0 (by decide) (by decide)) v2 e2)
    (eval_ok hb wf ((Acw (by decide) (by decide) wa wc) 0 (by decide) (by decide)) v3 e3)
end Go.Ev
namespace Go.Ev
open Go Go.Ab Go.Nb Go.E4 Go.RowKit Go.Proofs Go.Proofs.YtecmlmofhabonaaGreatDoor
set_option maxRecDepth 1000000
abbrev kl:List (String×DataW Unit):=Rows.evalStepsRow.laid
abbrev Cv:Value:=.iface 311 (.agg #[.pointer (some ⟨9,165,none⟩)])
theorem et:Tryz.prog.globalNamed "errors.errorType" = some 0:=by kernel_rfl
theorem rt:(Tryz.prog.cutTypes.find? (·.1 == "internal/reflectlite.rtype")).map (·.2)=some 311:=by kernel_rfl
theorem oneRow:((List.range Tryz.prog.types.size).filter fun t=>Tryz.prog.rowNamed t [101,114,114,111,114])=[165]:=by kernel_rfl
theorem Fl {W:World}(h:laidMetH Tryz.prog kl W):W.var? Tryz.prog "errors.errorType" = some #[Cv]:=by
 obtain⟨_,h2⟩:=laidMetH_iff.1 h
 have hmem:("errors.errorType",Rows.laid_errors_errorType)∈kl.filter fun x=>x.2.handleName?.isSome:=by
  rw[show(kl.filter fun x=>x.2.handleName?.isSome)=[("errors.errorType",Rows.laid_errors_errorType)] by kernel_rfl]
  exact List.mem_singleton.2 rfl
 obtain⟨name,u,ty,e1,e2,e3,e4,e5⟩:=h2 _ hmem
 have en:name=[101,114,114,111,114]:=(Option.some.inj e1).symm
 subst en
 obtain rfl:=Option.some.inj (rt.symm.trans e2)
 have hm:ty∈(List.range Tryz.prog.types.size).filter fun t=>Tryz.prog.rowNamed t [101,114,114,111,114]:=List.mem_filter.2 ⟨List.mem_range.2 e3,e4⟩
 rw[oneRow] at hm
 obtain rfl:=List.mem_singleton.1 hm
 have hh:typeHandle Tryz.prog 165=.pointer (some ⟨9,165,none⟩):=by kernel_rfl
 rw[hh] at e5
 exact e5
theorem laid5:(Rows.laid_internal_strconv_uint64pow10:DataW Unit)=Lib.tabData .u64 Lib.pow10Tab:=by kernel_rfl
theorem Lh {W:World}(h:laidMetH Tryz.prog kl W):∃cs,W.var? Tryz.prog "internal/strconv.uint64pow10" = some cs∧cs.toList=Lib.pow10Tab.map fun z=>Value.int .u64 z:=by
 obtain⟨h1,_⟩:=laidMetH_iff.1 h
 have hmem:("internal/strconv.uint64pow10",Rows.laid_internal_strconv_uint64pow10)∈kl.filter fun x=>x.2.handleName?.isNone:=by
  refine List.mem_filter.2 ⟨?_,by kernel_rfl⟩
  exact List.mem_cons_of_mem _ (List.mem_cons_of_mem _ (List.mem_cons_self ..))
 obtain⟨g,t,cs,fuel,p,hg,hty,hvar,hd⟩:=Go.Lib.laidMet.reads h1 hmem
 obtain rfl:=Option.some.inj (I5.symm.trans hg)
 obtain rfl:=Option.some.inj ((show(Tryz.prog.globals[5]?).map (·.type)=some 473 by kernel_rfl).symm.trans hty)
 rw[laid5] at hd
 exact⟨cs,hvar,Lib.cells_of_tab (n:=20) (e:=77) (show Tryz.prog.underlying 473=some (.array 20 77) by kernel_rfl) (show Tryz.prog.underlying 77=some (.int .u64) by kernel_rfl) (by kernel_rfl) (by kernel_rfl) hd⟩
def fz0 (b:Nat):Prop:=b=0∨b=5
theorem globs:UJ.list=[(0,[.raw Cv]),(5,Lib.pow10Tab.map fun z=>AV.int .u64 z)]:=by kernel_rfl
theorem E1 {P:Program}{W:World}{n:String}{g:Nat}{cs:Array Value}(hg:P.globalNamed n=some g)(h:W.var? P n=some cs):Whole W g cs.size:=by
 simp only[World.var?,hg,Option.bind_some] at h
 split at h
 ·rename_i c e fr hh
  simp only[Option.some.injEq] at h
  subst h
  exact⟨_,e,fr,hh,rfl⟩
 ·cases h
theorem Abx {W:World}(h:laidMetH Tryz.prog kl W)(kc:KC)(fz:Nat→Prop)(hf:∀b,fz0 b→fz b):VG gl5 ⟨fun _=>none,fz,kc⟩ W:=by
 obtain⟨cs,h1,h2⟩:=Lh h
 have h0:VRC ⟨fun _=>none,fz,kc⟩ W 0 [.raw Cv] 0:=by
  simp only[VRC,VR,and_true]
  exact⟨_,by simpa using World.var?_cell et (Fl h) 0,rfl⟩
 have h6:VRC ⟨fun _=>none,fz,kc⟩ W 5 (Lib.pow10Tab.map fun z=>AV.int .u64 z) 0:=by
  refine VRC.Dg fun i x hx=>?_
  rw[List.getElem?_map,Option.map_eq_some_iff] at hx
  obtain⟨z,hz,rfl⟩:=hx
  refine⟨.int .u64 z,?_,by simp only[VR]⟩
  rw[Nat.zero_add,World.var?_cell I5 h1 i,←Array.getElem?_toList,h2,List.getElem?_map,hz]
  rfl
 intro g cells hc
 have hm:(g,cells)∈UJ.list:=T.Fq (t:=UJ) (k:=AL) hc
 rw[globs] at hm
 simp only[List.mem_cons,List.not_mem_nil,or_false] at hm
 rcases hm with e|e<;>cases e
 ·exact⟨hf _ (.inl rfl),h0,E1 et (Fl h)⟩
 ·refine⟨hf _ (.inr rfl),h6,?_⟩
  have:=E1 I5 h1
  rw[←Array.length_toList,h2,List.length_map] at this
  rw[List.length_map]
  exact this
theorem Z9 {W:World}(h:laidMetH Tryz.prog kl W):∀b,fz0 b→b<W.heap.size:=by
 have key:∀(b n:Nat),Whole W b n→b<W.heap.size:=fun b n ⟨_,_,_,hv,_⟩=>(Array.getElem?_eq_some_iff.1 hv).1
 rintro b (rfl|rfl)
 ·exact key _ _ (E1 et (Fl h))
 ·obtain⟨cs,h1,_⟩:=Lh h
  exact key _ _ (E1 I5 h1)
noncomputable def laid0 (os:Os):World:=
 let w:=World.holding Tryz.prog os ⟨#[],#[],[]⟩
 { w with heap:=w.heap.modify 0 fun
  | .cells _ t fr=>.cells #[Cv] t fr
  | o=>o }
abbrev kd:List (String×DataW Unit):=kl.filter fun x=>x.2.handleName?.isNone
abbrev kn:List String:=["math/bits.deBruijn32tab", "math/bits.deBruijn64tab", "internal/strconv.uint64pow10", "unicode/utf8.acceptRanges", "strconv.ErrRange", "strconv.ErrSyntax", "unicode/utf8.first"]
noncomputable def Yp (os:Os):World:=(laid0 os).layVars Tryz.prog (kd.filter fun x=>kn.contains x.1)
theorem kd_all:(kd.filter fun x=>!kn.contains x.1)=[]:=by kernel_rfl
theorem Wf (os:Os)(args:Array Value):laidMetH Tryz.prog kl ((Yp os).forCall (fun _ _=>0) ⟨#[],args,[]⟩).memory:=by
 refine laidMetH_of_parts ?_ (by kernel_rfl)
 have h:laidMet Tryz.prog kd (Yp os):=laidMet_layVars (w0:=laid0 os) kn [] rfl (by kernel_rfl) (by kernel_rfl) (by rw[kd_all];exact LaidIn.none)
 exact h.of_heap (by simp[World.memory,World.forCall,Input.heap])
end Go.Ev
namespace Go.Proofs.YtecmlmofhabonaaGreatDoor
open Go Go.Ab Go.Nb Go.E4 Go.Ev Go.Ro Go.ChangeShapes Go.WideShapes Go.RowKit Go.Conc
set_option maxRecDepth 1000000
theorem N2 {w w':World}(e:Below w.heap.size w w'){may:MemPlace→Prop} : w.keptBut w' may:=by
 refine⟨e.os,e.output,fun i hi=>?_⟩
 rw[e.block i hi]
 cases w.heap[i]? with
 | none=>rfl
 | some x=>cases x<;>first|exact⟨rfl,rfl,rfl,fun _ _=>rfl⟩|exact .inr ⟨rfl,rfl⟩|rfl
theorem VW {w:World}{a:Addr}{v:Value}(h:w.cell? a=some v):a.spot=none:=by
 unfold World.cell? at h
 split at h
 ·cases hs:a.spot with
  | none=>rfl
  | some s=>simp[hs] at h
 ·simp at h
theorem VV {W:World}(h:laidMetH Tryz.prog kl W){f:FuncId}{xs:List Int}(hL:AP P4 gl5 f [BE xs] (.bool true)){v:Value}{fz:Nat→Prop}(hf:∀b,fz0 b→fz b)(hlt:∀b,fz b→b<W.heap.size)
 (hv:∀kc:KC,VR ⟨fun _=>none,fz,kc⟩ W (BE xs) v):Calls Tryz.prog f #[v] W fun e W'=>e=.returned (.bool true)∧Below W.heap.size W W':=by
 refine(hL ⟨fun _=>none,fz,⟨P4.cellsOf,DW.env.sel,DW.env.tok,DW.env.str,DW.env.mp⟩⟩ W #[v] rfl (fun _=>rfl) hlt (Abx h _ fz hf) ⟨v,[],rfl,hv _,rfl⟩).mono ?_
 rintro e W' ⟨u,rfl,hb,hu⟩
 simp only[VR] at hu
 subst hu
 exact⟨rfl,hb⟩
theorem Tryz.own:ownKnob Tryz.prog.godebug=none:=by kernel_rfl
theorem Z1:Tryz.prog.cellsOf 3=1:=by kernel_rfl
theorem WE {H:Type}{enc:TypeId×Value→H}{W:World}(h:laidMetH Tryz.prog kl W){v:Value}(hvs:∃a len cap,v=.slice a len cap){d:DataW H}{p:List MemPlace}(hd:DataW.Trod enc Tryz.prog W 0 (fun _=>true) true 22 v d p) :
 ∃(xs:List Int) (fz:Nat→Prop),(∀b,fz0 b→fz b)∧(∀b,fz b→b<W.heap.size)∧(∀kc:KC,VR ⟨fun _=>none,fz,kc⟩ W (BE xs) v)∧
  ∀W':World,(∀b,b<W.heap.size→W'.heap[b]?=W.heap[b]?)→DataW.Trod enc Tryz.prog W' 0 (fun b=>decide (b<W.heap.size)) true 22 v d p:=by
 obtain⟨a0,l0,c0,rfl⟩:=hvs
 obtain⟨fuel,hd⟩:=hd
 rcases open_ints Tryz.underlying22 Tryz.underlying3 Z1 hd with⟨h1,h2⟩|⟨a,len,cap,zs,h1,hb,hl,hm,hz,h2,Cv,hw⟩
 ·have e:Value.slice a0 l0 c0=.slice none 0 0:=by simpa[Value.cells] using h1
  rw[e]
  cases h2
  exact⟨[],fz0,fun _ h=>h,Z9 h,fun kc=>by simp only[BE,VR];exact⟨none,0,rfl,fun _=>rfl⟩,fun W' _=>shut_slice_nil Tryz.underlying22⟩
 ·have e:Value.slice a0 l0 c0=.slice (some a) len cap:=by simpa[Value.cells] using h1
  rw[e]
  have hz:zs.length=cap:=by simpa using hz
  cases h2
  have hlt:0<zs.length→a.block<W.heap.size:=fun h0=>by
   have hc:=Cv 0 h0
   rcases Nat.lt_or_ge a.block W.heap.size with hh|hh
   ·exact hh
   ·have hbl:(a.add 0).block=a.block:=block_add a 0
    simp[World.cell?,hbl,Array.getElem?_eq_none hh] at hc
  refine⟨zs.take len,fun b=>fz0 b∨(0<zs.length∧b=a.block),fun _ h=>.inl h,?_,fun kc=>?_,fun W' hW=>?_⟩
  ·rintro b (hb'|⟨h0,rfl⟩)
   ·exact Z9 h b hb'
   ·exact hlt h0
  ·cases hx:zs.take len with
   | nil=>
    have h0:len=0:=by
     have:=congrArg List.length hx
     rw[List.length_take,List.length_nil] at this
     omega
    subst h0
    simp only[BE,VR]
    exact⟨some a,cap,rfl,nofun⟩
   | cons x xs=>
    have hln:len=xs.length+1:=by
     have:=congrArg List.length hx
     rw[List.length_take,List.length_cons] at this
     omega
    have hpos:0<zs.length:=by omega
    have hc:=Cv 0 hpos
    have hsp:a.spot=none:=by
     have:=VW hc
     unfold Addr.add at this
     split at this
     ·exact this
     ·simp_all
    have ha:a=⟨a.block,a.off,none⟩:=by
     cases a;simp at hsp;subst hsp;rfl
    simp only[BE,VR]
    refine⟨a.block,a.off,cap,by rw[←ha,hln],by omega,nofun,.inr ⟨hpos,rfl⟩,VRC.Dg fun i y hy=>?_⟩
    rw[List.getElem?_map,Option.map_eq_some_iff] at hy
    obtain⟨z,hz',rfl⟩:=hy
    rw[←hx,List.getElem?_take] at hz'
    split at hz'
    case isFalse=>cases hz'
    have hi:i<zs.length:=(List.getElem?_eq_some_iff.1 hz').1
    have:=Cv i hi
    rw[ha,add_plain] at this
    refine⟨_,this,?_⟩
    simp only[VR]
    rw[List.getD,hz']
    rfl
  ·refine⟨2,?_⟩
   have:=shut_ints (enc:=enc) (P:=Tryz.prog) (w:=W') (base:=0) (spare:=fun b=>decide (b<W.heap.size)) (held:=true) (t:=22) (a:=a) (len:=len) (cap:=cap) (zs:=zs) 0 Tryz.underlying22 Tryz.underlying3 Z1 (Nat.zero_le _) hl hm (by
    by_cases h0:0<zs.length
    ·rw[if_pos (by simpa using hlt h0)];exact hz
    ·split<;>omega) (fun i hi=>by
     rw[←Cv i hi]
     have hbl:(a.add i).block=a.block:=block_add a i
     simp only[World.cell?,hbl,hW _ (hlt (by omega))]) hw
   exact this
end Go.Proofs.YtecmlmofhabonaaGreatDoor
end
