/- What the program reads out of a number's text, of any length; no condition but the number's bounds. -/
import Derived.Test.YtecmlmofhabonaaGreatDoorSTab
import Derived.Shelf.Strconv.Atoi
import Derived.RangeFuncNested
import Derived.RangeFuncBound
import Derived.Shelf.RegionOpen
import Derived.OwnWalkIn
import Derived.LoopNIn
import Derived.LoopIn
import Derived.Lib.AtoiErrMem
noncomputable section
namespace Go.Proofs
open Go.Shelf
def Tryz.RH:Go.Shelf.Ren:=⟨fun|172=>256|244=>316|245=>317|247=>359|279=>360|280=>361|281=>362|282=>363|287=>381|316=>382|171=>198|205=>383|321=>390|322=>391|243=>275|246=>329|283=>364|284=>365|285=>366|286=>367|129=>308|317=>384|318=>385|319=>386|320=>387|337=>392|338=>393|n=>n,fun|9=>9|3=>3|75=>165|76=>294|4=>4|5=>5|167=>443|37=>276|0=>0|85=>444|2=>2|168=>446|53=>77|175=>467|46=>131|210=>470|127=>377|145=>478|143=>476|21=>21|171=>450|173=>452|212=>473|51=>268|20=>20|213=>474|232=>479|233=>480|80=>209|n=>n,fun|15=>3|16=>4|17=>5|18=>7|19=>8|n=>n⟩
theorem Tryz.Ady:Go.Proofs.Lays.n172 Tryz.prog Tryz.RH:={
 mixed:=by kernel_rfl
 f129:=Tryz.func308.trans (congrArg some (by kernel_rfl))
 f171:=Tryz.func198.trans (congrArg some (by kernel_rfl))
 f172:=Tryz.func256.trans (congrArg some (by kernel_rfl))
 f205:=Tryz.func383.trans (congrArg some (by kernel_rfl))
 f243:=Tryz.func275.trans (congrArg some (by kernel_rfl))
 f244:=Tryz.func316.trans (congrArg some (by kernel_rfl))
 f245:=Tryz.func317.trans (congrArg some (by kernel_rfl))
 f246:=Tryz.func329.trans (congrArg some (by kernel_rfl))
 f247:=Tryz.func359.trans (congrArg some (by kernel_rfl))
 f279:=Tryz.func360.trans (congrArg some (by kernel_rfl))
 f280:=Tryz.func361.trans (congrArg some (by kernel_rfl))
 f281:=Tryz.func362.trans (congrArg some (by kernel_rfl))
 f282:=Tryz.func363.trans (congrArg some (by kernel_rfl))
 f283:=Tryz.func364.trans (congrArg some (by kernel_rfl))
 f284:=Tryz.func365.trans (congrArg some (by kernel_rfl))
 f285:=Tryz.func366.trans (congrArg some (by kernel_rfl))
 f286:=Tryz.func367.trans (congrArg some (by kernel_rfl))
 f287:=Tryz.func381.trans (congrArg some (by kernel_rfl))
 f316:=Tryz.func382.trans (congrArg some (by kernel_rfl))
 f317:=Tryz.func384.trans (congrArg some (by kernel_rfl))
 f318:=Tryz.func385.trans (congrArg some (by kernel_rfl))
 f319:=Tryz.func386.trans (congrArg some (by kernel_rfl))
 f320:=Tryz.func387.trans (congrArg some (by kernel_rfl))
 f321:=Tryz.func390.trans (congrArg some (by kernel_rfl))
 f322:=Tryz.func391.trans (congrArg some (by kernel_rfl))
 f337:=Tryz.func392.trans (congrArg some (by kernel_rfl))
 f338:=Tryz.func393.trans (congrArg some (by kernel_rfl))
 t0:=Tryz.underlying0
 a0:=Tryz.isAgg0
 z0:=Tryz.sizeOf0
 v0:=Tryz.zeroValue0
 t2:=Tryz.underlying2
 a2:=Tryz.isAgg2
 z2:=Tryz.sizeOf2
 v2:=Tryz.zeroValue2
 t3:=Tryz.underlying3
 a3:=Tryz.isAgg3
 z3:=Tryz.sizeOf3
 v3:=Tryz.zeroValue3
 t4:=Tryz.underlying4
 a4:=Tryz.isAgg4
 z4:=Tryz.sizeOf4
 v4:=Tryz.zeroValue4
 t5:=Tryz.underlying5
 a5:=Tryz.isAgg5
 z5:=Tryz.sizeOf5
 v5:=Tryz.zeroValue5
 t9:=Tryz.underlying9
 a9:=Tryz.isAgg9
 z9:=Tryz.sizeOf9
 v9:=Tryz.zeroValue9
 t20:=Tryz.underlying20
 a20:=Tryz.isAgg20
 z20:=Tryz.sizeOf20
 v20:=Tryz.zeroValue20
 t21:=Tryz.underlying21
 a21:=Tryz.isAgg21
 z21:=Tryz.sizeOf21
 v21:=Tryz.zeroValue21
 t37:=Tryz.underlying276
 a37:=Tryz.isAgg276
 z37:=Tryz.sizeOf276
 v37:=Tryz.zeroValue276
 t46:=Tryz.underlying131
 a46:=Tryz.isAgg131
 z46:=Tryz.sizeOf131
 v46:=Tryz.zeroValue131
 t51:=Tryz.underlying268
 a51:=Tryz.isAgg268
 z51:=Tryz.sizeOf268
 v51:=Tryz.zeroValue268
 t53:=Tryz.underlying77
 a53:=Tryz.isAgg77
 z53:=Tryz.sizeOf77
 v53:=Tryz.zeroValue77
 t75:=Tryz.underlying165
 a75:=Tryz.isAgg165
 z75:=Tryz.sizeOf165
 v75:=Tryz.zeroValue165
 t76:=Tryz.underlying294
 a76:=Tryz.isAgg294
 z76:=Tryz.sizeOf294
 v76:=Tryz.zeroValue294
 t85:=Tryz.underlying444
 a85:=Tryz.isAgg444
 z85:=Tryz.sizeOf444
 v85:=Tryz.zeroValue444
 t127:=Tryz.underlying377
 a127:=Tryz.isAgg377
 z127:=Tryz.sizeOf377
 v127:=Tryz.zeroValue377
 t143:=Tryz.underlying476
 a143:=Tryz.isAgg476
 z143:=Tryz.sizeOf476
 v143:=Tryz.zeroValue476
 t145:=Tryz.underlying478
 a145:=Tryz.isAgg478
 z145:=Tryz.sizeOf478
 v145:=Tryz.zeroValue478
 t167:=Tryz.underlying443
 a167:=Tryz.isAgg443
 z167:=Tryz.sizeOf443
 v167:=Tryz.zeroValue443
 t168:=Tryz.underlying446
 a168:=Tryz.isAgg446
 z168:=Tryz.sizeOf446
 v168:=Tryz.zeroValue446
 t171:=Tryz.underlying450
 a171:=Tryz.isAgg450
 z171:=Tryz.sizeOf450
 v171:=Tryz.zeroValue450
 t173:=Tryz.underlying452
 a173:=Tryz.isAgg452
 z173:=Tryz.sizeOf452
 v173:=Tryz.zeroValue452
 t175:=Tryz.underlying467
 a175:=Tryz.isAgg467
 z175:=Tryz.sizeOf467
 v175:=Tryz.zeroValue467
 t210:=Tryz.underlying470
 a210:=Tryz.isAgg470
 z210:=Tryz.sizeOf470
 v210:=Tryz.zeroValue470
 t212:=Tryz.underlying473
 a212:=Tryz.isAgg473
 z212:=Tryz.sizeOf473
 v212:=Tryz.zeroValue473
 t213:=Tryz.underlying474
 a213:=Tryz.isAgg474
 z213:=Tryz.sizeOf474
 t232:=Tryz.underlying479
 a232:=Tryz.isAgg479
 z232:=Tryz.sizeOf479
 v232:=Tryz.zeroValue479
 t233:=Tryz.underlying480
 a233:=Tryz.isAgg480
 z233:=Tryz.sizeOf480
 v233:=Tryz.zeroValue480
 g15:=by kernel_rfl
 g16:=by kernel_rfl
 g17:=by kernel_rfl
 g18:=by kernel_rfl
 g19:=by kernel_rfl }
open Go.RowKit in
theorem Tryz.strconv_Atoi (s:ByteArray)(n:Int)(hl:s.size≤18)(h:Lib.atoi s.data.toList=some n)(w:World) :
 Calls Tryz.prog 256 #[.string s] w fun e w'=>e=.returned (.tuple #[.int .i64 n,.nilIface])∧∃t,w'=Lib.bytesWorld w 5 t:=Any.strconv_Atoi Tryz.Ady s n hl h w
def Tryz.TD:Go.Shelf.Ren:=⟨fun|99=>254|206=>314|n=>n,fun|9=>9|4=>4|3=>3|n=>n,fun|n=>n⟩
theorem Tryz.lays99:Go.Proofs.Lays.n99 Tryz.prog Tryz.TD:={
 mixed:=by kernel_rfl
 f99:=Tryz.func254.trans (congrArg some (by kernel_rfl))
 f206:=Tryz.func314.trans (congrArg some (by kernel_rfl))
 t3:=Tryz.underlying3
 a3:=Tryz.isAgg3
 z3:=Tryz.sizeOf3
 v3:=Tryz.zeroValue3
 t4:=Tryz.underlying4
 a4:=Tryz.isAgg4
 z4:=Tryz.sizeOf4
 v4:=Tryz.zeroValue4
 t9:=Tryz.underlying9
 a9:=Tryz.isAgg9
 z9:=Tryz.sizeOf9
 v9:=Tryz.zeroValue9 }
open Go.RowKit Go.Lib in
theorem Tryz.strings_HasPrefix (s p:ByteArray)(w:World) :
 Calls Tryz.prog 254 #[.string s,.string p] w fun e w'=>e=.returned (.bool (Lib.hasPrefix s.data.toList p.data.toList))∧w'=w:=Any.strings_HasPrefix Tryz.lays99 s p w
def Tryz.S7:Go.Shelf.Ren:=⟨fun|101=>343|208=>370|206=>314|n=>n,fun|9=>9|4=>4|3=>3|n=>n,fun|n=>n⟩
theorem Tryz.Ab4:Go.Proofs.Lays.n101 Tryz.prog Tryz.S7:={
 mixed:=by kernel_rfl
 f101:=Tryz.func343.trans (congrArg some (by kernel_rfl))
 f206:=Tryz.func314.trans (congrArg some (by kernel_rfl))
 f208:=Tryz.func370.trans (congrArg some (by kernel_rfl))
 t3:=Tryz.underlying3
 a3:=Tryz.isAgg3
 z3:=Tryz.sizeOf3
 v3:=Tryz.zeroValue3
 t4:=Tryz.underlying4
 a4:=Tryz.isAgg4
 z4:=Tryz.sizeOf4
 v4:=Tryz.zeroValue4
 t9:=Tryz.underlying9
 a9:=Tryz.isAgg9
 z9:=Tryz.sizeOf9
 v9:=Tryz.zeroValue9 }
open Go.RowKit Go.Lib in
theorem Tryz.strings_TrimPrefix (s p:ByteArray)(w:World) :
 Calls Tryz.prog 343 #[.string s,.string p] w fun e w'=>e=.returned (.string ⟨(Lib.trimPrefix s.data.toList p.data.toList).toArray⟩)∧w'=w:=Any.strings_TrimPrefix Tryz.Ab4 s p w
end Go.Proofs
namespace Go.Nb
open Go Go.Ab Go.Nl Go.RowKit Go.Proofs Go.E4
set_option maxRecDepth 1000000
theorem Nq (ds:List UInt8):Lib.trimPrefix (45::ds) [45]=ds:=by simp[Lib.trimPrefix,Lib.hasPrefix]
theorem Up (c:UInt8)(ds:List UInt8)(h:c≠45):Lib.trimPrefix (c::ds) [45]=c::ds:=by
 have:((45:UInt8)==c)=false:=by simpa using fun e=>h e.symm
 simp[Lib.trimPrefix,Lib.hasPrefix,List.isPrefixOf,this]
theorem AaV {l:List UInt8}(hc:∀d∈l,48≤d.toNat∧d.toNat≤57)(pos:Nat)(hp:pos<(ByteArray.mk l.toArray).size) :
 48≤((ByteArray.mk l.toArray)[pos]'hp).toNat∧((ByteArray.mk l.toArray)[pos]'hp).toNat≤57:=by
 refine hc _ ?_;show(l.toArray[pos]'hp)∈l;simp
set_option maxHeartbeats 2000000 in
theorem Yj (s:List UInt8)(c:UInt8)(ds:List UInt8)(w:World)(ht:Lib.trimPrefix s [45]=c::ds)
 (hc:∀d∈c::ds,48≤d.toNat∧d.toNat≤57) (hz:c=48→s.length=1∧ds=[]) (hl:(c::ds).length≤1000) (hl':s.length≤1000) :
 Calls Tryz.prog 342 #[.string { data:=s.toArray }] w (fun e w'=>e=.returned (.bool true)∧Below w.heap.size w w'):=by
 have hc0:∀h,((({ data:=(c::ds).toArray } : ByteArray)[0]'h).toNat:Int)=48→s.length=1∧ds=[]:=by intro h e;apply hz;have e1:(({ data:=(c::ds).toArray } : ByteArray)[0]'h)=c:=rfl;rw[e1]at e;exact UInt8.toNat_inj.1 (by simpa using(Int.ofNat.inj e))
 have hcw:=AaV hc
 go_enter Tryz.func342,Tryz.ntmps342
 go_wp2_with fail
 refine(Tryz.strings_TrimPrefix _ _ _).mono ?_;rintro e w1 ⟨rfl,rfl⟩;rw[show Lib.trimPrefix (ByteArray.mk s.toArray).data.toList [45]=c::ds from ht]
 go_wp2_with fail
 all_goals first
  |(exfalso
    obtain⟨h4,h5⟩:=hc0 (Nat.succ_pos _) (by assumption);subst h5;rw[h4]at *;simp at *
    done)
  |skip
 all_goals
  clear hc0
  go_loopw [] (fun wr=>∃pos,wr=w1.iter ({ data:=(c::ds).toArray } : ByteArray) pos) (fun wr=>({ data:=(c::ds).toArray } : ByteArray).size-wr.iterPos w1.heap.size)
  case atStart=>exact⟨0,rfl⟩
  case round=>
   obtain⟨pos,rfl⟩:=hrel;by_cases hp:pos<({ data:=(c::ds).toArray } : ByteArray).size
   ·obtain⟨g1,g2⟩:=hcw pos hp;have hnx:∀ty,(Instr.next (.pointer (some ⟨w1.heap.size,0,none⟩)) true ty).run Tryz.prog (w1.iter ({ data:=(c::ds).toArray } : ByteArray) pos)=_:=fun ty=>run_next_ascii w1 ({ data:=(c::ds).toArray } : ByteArray) pos ty hp (by omega)
    generalize (({ data:=(c::ds).toArray } : ByteArray)[pos]'hp).toNat=n at *;have k1:decide ((n:Int)<48)=false:=zL (by omega);have k2:decide ((57:Int)<n)=false:=zL (by omega)
    go_wp2_with fail
    go_roundw
    case rel=>exact⟨pos+1,rfl⟩
    case measure=>simp;omega
   ·have hnx:∀ty,(Instr.next (.pointer (some ⟨w1.heap.size,0,none⟩)) true ty).run Tryz.prog (w1.iter ({ data:=(c::ds).toArray } : ByteArray) pos)=_:=fun ty=>run_next_end w1 ({ data:=(c::ds).toArray } : ByteArray) pos ty hp
    go_wp2_with fail
    go_ret
    exact⟨rfl,by unfold World.iter;exact(Below.refl _ _).alloc (zI _) _⟩
end Go.Nb
namespace Go.Nb
open Go Go.Ab Go.Nl Go.RowKit Go.Proofs Go.E4
def IsD (d:UInt8):Prop:=48≤d.toNat∧d.toNat≤57
theorem Zr {u:Nat}(h:u<10):IsD (UInt8.ofNat (48+u)):=by
 have:(UInt8.ofNat (48+u)).toNat=48+u:=by rw[UInt8.toNat_ofNat'];omega
 unfold IsD;omega
theorem PL (u:Nat):∀d∈Lib.decDigits u,IsD d:=by
 induction u using Nat.strongRecOn with
 |_ u ih=>
  intro d hd;rw[Lib.decDigits]at hd;split at hd
  ·rename_i h;rw[List.mem_singleton]at hd;subst hd;exact Zr h
  ·rename_i h;rcases List.mem_append.1 hd with hd|hd
   ·exact ih (u/10) (by omega) d hd
   ·rw[List.mem_singleton]at hd;subst hd;exact Zr (by omega)
theorem JK (u:Nat):∃c l,Lib.decDigits u=c::l∧(c=48→u=0):=by
 induction u using Nat.strongRecOn with
 |_ u ih=>
  rw[Lib.decDigits];split
  ·rename_i h;refine⟨_,[],rfl,fun e=>?_⟩;have h1:(UInt8.ofNat (48+u)).toNat=48+u:=by rw[UInt8.toNat_ofNat'];omega
   rw[e]at h1;have:(48:UInt8).toNat=48:=rfl;omega
  ·rename_i h;obtain⟨c,l,h1,h2⟩:=ih (u/10) (by omega);rw[h1];refine⟨c,l++[_],rfl,fun e=>?_⟩;have:=h2 e;omega
theorem K4 (n:Nat):Lib.repeatL [48] n=List.replicate n 48:=by
 induction n with
 |zero=>rfl|succ n ih=>rw[List.replicate_succ,←ih];simp[Lib.repeatL,List.replicate_succ]
theorem WG (d:Nat):∀x∈C4 d,IsD x:=by
 intro x hx;unfold C4 at hx;rw[K4]at hx;rcases List.mem_append.1 hx with hx|hx
 ·rw[(List.mem_replicate.1 hx).2];unfold IsD;decide
 ·exact PL d x hx
theorem VM {d:Nat}(h:d<B):(C4 d).length=9:=by have:=E5 (n:=d) (k:=9) (by decide) h;unfold C4;rw[K4,zR,List.length_replicate];omega
theorem WI (ds:List Nat):∀i,∀x∈B9 ds i,IsD x
 |0,x,hx=>by cases hx
 |i+1,x,hx=>by
  rcases List.mem_append.1 hx with hx|hx
  ·exact WG _ x hx
  ·exact WI ds i x hx
theorem Wy {ds:List Nat}(h:∀d∈ds,d<B):∀i,(B9 ds i).length=9*i
 |0=>rfl|i+1=>by show(C4 _++B9 ds i).length=_;rw[zR,VM (AJ h i),Wy h i];omega
theorem GM {k:Nat}{z:Int}(hz:Fits k z)(hk:1≤k):∃c l,Bq z=(if z<0 then[45] else[])++c::l∧(∀d∈c::l,IsD d)∧(c=48→z=0∧l=[])∧(c::l).length≤9*k:=by
 by_cases h0:z=0
 ·subst h0;exact⟨48,[],rfl,by intro d hd;rw[List.mem_singleton]at hd;subst hd;unfold IsD;decide,fun _=>⟨rfl,rfl⟩,by simp;omega⟩
 ·have hds:=Cl z.natAbs;have hlen:(Ae z.natAbs).length≤k:=hz;have hpos:=F2 h0;have hlast:=IK z.natAbs;have htop:(Ae z.natAbs).getD ((Ae z.natAbs).length-1) 0≠0:=by intro e;apply hlast;rw[List.getLast?_eq_getElem?];rw[List.getD_eq_getElem?_getD]at e;rw[zK (by omega)]at e ⊢;exact congrArg some e
  unfold Bq;rw[if_neg h0];generalize Ae z.natAbs=ds at *;obtain⟨c,l,h1,h2⟩:=JK (ds.getD (ds.length-1) 0);have hL:=E5 (n:=ds.getD (ds.length-1) 0) (k:=9) (by decide) (AJ hds _);have hD:=PL (ds.getD (ds.length-1) 0);rw[h1]at hL hD ⊢;refine⟨c,l++B9 ds (ds.length-1),rfl,?_,fun e=>absurd (h2 e) htop,?_⟩
  ·intro d hd;rw[←List.cons_append]at hd;rcases List.mem_append.1 hd with hd|hd
   ·exact hD d hd
   ·exact WI _ _ _ hd
  ·rw[←List.cons_append,zR,Wy hds];omega
theorem Ql {k:K}{w:World}{l:List UInt8}{v:Value}(h:VR k w (.str (l.map UInt8.toNat)) v):v=.string { data:=l.toArray }:=by
 simp only[VR]at h;obtain⟨s,rfl,hs⟩:=h;have:s.data.toList=l:=by
  refine List.map_inj_right (f:=UInt8.toNat) ?_ |>.1 ?_
  ·intro x y h;exact UInt8.toNat_inj.1 h
  ·simpa using hs
 rw[←this]
theorem f_form {z:Int}(hz:Fits 100 z):AG P4 gl5 342 [.str ((Bq z).map UInt8.toNat)] (.bool true):=by
 intro k w vs _ _ _ hg hv;obtain⟨v,rfl,q⟩:=ED hv;rw[Ql q];obtain⟨c,l,h1,h2,h3,h4⟩:=GM hz (by decide);have hne:c≠45:=fun e=>by have:=(h2 c (List.mem_cons_self ..)).1;subst e;exact absurd this (by decide)
 have hr:∀{e:Ending} {w':World},e=.returned (.bool true)∧Below w.heap.size w w'→∃v,e=.returned v∧Below w.heap.size w w'∧VR (grow k w w') w' (.bool true) v:=fun h=>⟨_,h.1,h.2,by simp only[VR]⟩
 rw[h1];refine(Yj _ c l w ?_ h2 ?_ ?_ ?_).mono fun e w' h=>hr h
 ·split
  ·exact Nq _
  ·exact Up _ _ hne
 ·intro e;obtain⟨h5,h6⟩:=h3 e;subst h5 h6;exact⟨rfl,rfl⟩
 ·omega
 ·rw[zR];split<;>simp only[List.length_cons,List.length_nil]at h4 ⊢<;>omega
theorem Nt (l m:List UInt8):∀acc,Lib.decFrom acc (l++m)=(Lib.decFrom acc l).bind fun a=>Lib.decFrom a m:=by
 induction l with
 |nil=>intro acc;rfl
 |cons b l ih=>
  intro acc;simp only[List.cons_append,Lib.decFrom];cases Lib.digitVal b with
  |none=>rfl|some d=>exact ih _
theorem LI {u:Nat}(h:u<10):Lib.digitVal (UInt8.ofNat (48+u))=some u:=by
 have h1:(UInt8.ofNat (48+u)).toNat=48+u:=by rw[UInt8.toNat_ofNat'];omega
 unfold Lib.digitVal;rw[h1,if_pos (by omega)];congr 1;omega
theorem Lj (u:Nat):Lib.decFrom 0 (Lib.decDigits u)=some u:=by
 induction u using Nat.strongRecOn with
 |_ u ih=>
  rw[Lib.decDigits];split
  ·rename_i h;show(match Lib.digitVal (UInt8.ofNat (48+u)) with|some d=>Lib.decFrom (0*10+d) []|none=>none)=_;rw[LI h];show some (0*10+u)=_;congr 1;omega
  ·rename_i h;rw[Nt,ih (u/10) (by omega)];simp only[Option.bind_some,Lib.decFrom,LI (show u%10<10 by omega)];congr 1;omega
theorem OA (n:Nat)(l:List UInt8):Lib.decFrom 0 (List.replicate n 48++l)=Lib.decFrom 0 l:=by
 induction n with
 |zero=>rfl|succ n ih=>rw[List.replicate_succ,List.cons_append];show(match Lib.digitVal 48 with|some d=>Lib.decFrom (0*10+d) (List.replicate n 48++l)|none=>none)=_;rw[show Lib.digitVal 48=some 0 from rfl];exact ih
theorem Ly {l:List UInt8}{n:Nat}(h:l≠[])(hd:∀d∈l,IsD d)(hn:Lib.decFrom 0 l=some n):Lib.atoi l=some (n:Int):=by
 cases l with
 |nil=>exact absurd rfl h|cons b r=>
  have h1:=hd b (List.mem_cons_self ..);have h2:(b==45)=false:=by rw[beq_eq_false_iff_ne];intro e;subst e;exact absurd h1.1 (by decide)
  have h3:(b==43)=false:=by rw[beq_eq_false_iff_ne];intro e;subst e;exact absurd h1.1 (by decide)
  show(if b==45 then _ else if b==43 then _ else(Lib.decNat (b::r)).map fun (m:Nat)=>(m:Int))=_;rw[h2,h3];simp only[Bool.false_eq_true,if_false];unfold Lib.decNat;rw[show(b::r).isEmpty=false from rfl];simp[hn]
theorem AaI (u:Nat):Lib.atoi (Lib.decDigits u)=some (u:Int):=by obtain⟨c,l,h1,_⟩:=JK u;exact Ly (by rw[h1];simp) (PL u) (Lj u)
theorem Aaj (u:Nat):Lib.atoi (C4 u)=some (u:Int):=by
 obtain⟨c,l,h1,_⟩:=JK u;refine Ly ?_ (WG u) ?_
 ·unfold C4;rw[h1];simp
 ·unfold C4;rw[K4,OA];exact Lj u
def CM (l:List UInt8):List (List UInt8):=if h:l=[] then[] else l.drop (l.length-9)::CM (l.take (l.length-9))
 termination_by l.length
 decreasing_by
 rw[List.length_take];have:=List.length_pos_iff.2 h;omega
theorem ML:CM []=[]:=by rw[CM];rfl
theorem Ir {l:List UInt8}(h:l≠[]):CM l=l.drop (l.length-9)::CM (l.take (l.length-9)):=by rw[CM,dif_neg h]
theorem U6 (x y:List UInt8)(h:y.length=9):CM (x++y)=y::CM x:=by
 have hne:x++y≠[]:=by intro e;have:=congrArg List.length e;rw[zR,List.length_nil]at this;omega
 rw[Ir hne,zR,h,Nat.add_sub_cancel,List.drop_left,List.take_left]
theorem Jy {l:List UInt8}(h:l≠[])(h9:l.length≤9):CM l=[l]:=by rw[Ir h,Nat.sub_eq_zero_of_le h9,List.drop_zero,List.take_zero,ML]
theorem NY {ds:List Nat}(h:∀d∈ds,d<B):∀(i:Nat) (x:List UInt8),CM (x++B9 ds i)=(List.range i).map (fun j=>C4 (ds.getD j 0))++CM x
 |0,x=>by simp[B9]
 |i+1,x=>by show CM (x++(C4 (ds.getD i 0)++B9 ds i))=_;rw[←List.append_assoc,NY h i,U6 _ _ (VM (AJ h i)),List.range_succ,List.map_append,List.append_assoc];rfl
inductive MA:List (List UInt8)→List Nat→Prop
 |nil:MA [] []
 |cons {c:List UInt8} {n:Nat} {cs:List (List UInt8)} {ks:List Nat} (ha:Lib.atoi c=some (n:Int)) (hn:n<B) (h:MA cs ks):MA (c::cs) (n::ks)
theorem MA.append {a:List (List UInt8)}{x:List Nat}{b:List (List UInt8)}{y:List Nat}(h:MA a x)(h2:MA b y):MA (a++b) (x++y):=by
 induction h with
 |nil=>exact h2|cons h1 h3 _ ih=>exact .cons h1 h3 ih
theorem S4 {ds:List Nat}(h:∀d∈ds,d<B):∀(i:Nat),MA ((List.range i).map (fun j=>C4 (ds.getD j 0))) ((List.range i).map (fun j=>ds.getD j 0))
 |0=>.nil|i+1=>by rw[List.range_succ,List.map_append,List.map_append];exact(S4 h i).append (.cons (Aaj _) (AJ h i) .nil)
def FI (z:Int):List UInt8:=if z=0 then[48] else Lib.decDigits ((Ae z.natAbs).getD ((Ae z.natAbs).length-1) 0)++B9 (Ae z.natAbs) ((Ae z.natAbs).length-1)
def Fx (z:Int):List Nat:=if z=0 then[0] else Ae z.natAbs
theorem Us (l:List Nat):(List.range l.length).map (fun j=>l.getD j 0)=l:=by
 refine List.ext_getElem (by simp) fun i h1 h2=>?_
 simp[zK h2]
theorem Xb (z:Int):MA (CM (FI z)) (Fx z):=by
 unfold FI Fx;by_cases h0:z=0
 ·rw[if_pos h0,if_pos h0,Jy (by simp) (by simp)];exact .cons (by decide) (by decide) .nil
 ·rw[if_neg h0,if_neg h0];have hds:=Cl z.natAbs;have hpos:=F2 h0;generalize Ae z.natAbs=ds at *;obtain⟨c,l,h1,_⟩:=JK (ds.getD (ds.length-1) 0);have hL:=E5 (n:=ds.getD (ds.length-1) 0) (k:=9) (by decide) (AJ hds _);rw[NY hds,Jy (by rw[h1];simp) hL];have:=(S4 hds (ds.length-1)).append (.cons (AaI _) (AJ hds (ds.length-1)) .nil);have e:(List.range (ds.length-1)).map (fun j=>ds.getD j 0)++[ds.getD (ds.length-1) 0]=ds:=by
   have h2:ds.length=(ds.length-1)+1:=by omega
   conv=>rhs;rw[←Us ds,h2,List.range_succ,List.map_append]
   rfl
  rw[e]at this;exact this
end Go.Nb
namespace Go.Nb
open Go Go.Ab Go.Nl Go.RowKit Go.Proofs Go.E4 Go.Shelf
set_option maxRecDepth 1000000
attribute [local go_sem] Oper.semAt_some
def Sn (fn:FuncId)(a:Act)(ps:Array Tmp)(assign body:Code)(D:Nat)(st:LoopState):Loop:={ state:=st,pending:=none,fn,tmps:=a.tmps,params:=ps,assign,body,defers:=D }
theorem Acj {F:Fence}{n:Nat}{P:Program}{g:Operand}{ps:Array Tmp}{assign body:Code}{Q:Exit→Act→World→Prop}{a:Act}{w:World}(hro:F.round=none)(h1:1≤n){gf:Nat}{lb:Array Value}(hg:a.eval g=.func (.func gf) #[] lb)(hFg:F.fn gf)(eg:∀args w,(callFunc gf args).run P w=.ok (.enter gf args) w)
 (h:∀fn,F.fn fn→CallsIn F (n-1) P gf (#[.func (.yield (w.heap.size+1)) #[] #[]]++lb) ((w.alloc (.deferred (some []))).alloc (.loop (Sn fn a ps assign body w.heap.size .ready)))
  (fun e W=>(∃v,e=.returned v)∧W.heap[w.heap.size+1]?=some (.loop (Sn fn a ps assign body w.heap.size .ready))∧
   Q .normal { a with defers:={ target:=.collected w.heap.size,args:=#[] } :: a.defers } (W.putObj (w.heap.size+1) (.loop (Sn fn a ps assign body w.heap.size .exhausted))))) :
 (Code.rangeFunc g ps assign body).wpIn F n P Q a w:=by
 refine wpIn_rangeFunc ?_;intro fn hfn;rw[hro];have hc:=h fn hfn;obtain⟨W1,hW1⟩:∃W1,(w.alloc (.deferred (some []))).alloc (.loop (Sn fn a ps assign body w.heap.size .ready))=W1:=⟨_,rfl⟩;rw[hW1]at hc;refine⟨w.heap.size+1,[{ target:=.collected w.heap.size,args:=#[] }],W1,{ target:=.fn (.func gf) lb,args:=#[.func (.yield (w.heap.size+1)) #[] #[]] },W1,gf,#[.func (.yield (w.heap.size+1)) #[] #[]]++lb,W1,?_,?_,?_,?_,fun _=>h1,?_⟩
 ·rw[←hW1];exact run_enterLoop_outer _ _ _ _ _
 ·simp only[resolve,hg];simp[go_sem]
 ·intro f' hf';simp[Target.leads]at hf';subst hf';exact hFg
 ·simp[invoke,go_sem,eg]
 ·refine hc.mono ?_;rintro e W ⟨⟨v,rfl⟩,hl,hq⟩;exact⟨none,_,run_endLoop hl (by simp[Sn]),hq⟩
theorem W4 (n:Nat)(s:ByteArray)(w:World) :
 CallsIn Fence.wide n Tryz.prog 255 #[.string s] w fun e w'=>e=.returned (.func (.func 315) #[] #[.pointer (some ⟨w.heap.size,0,none⟩)])∧w'=w.alloc (.cells #[.string s] 9):=by
 refine callsIn_of_wp Tryz.func255 rfl trivial ?_ rfl;simp only[Tryz.ntmps255,List.size_toArray,List.length_cons,List.length_nil,Nat.reduceAdd,Nat.reduceSub,Array.replicate_succ,Array.replicate_zero,List.push_toArray,List.append_toArray,List.nil_append,List.cons_append]
 gi_wp2
 go_ret
 exact⟨rfl,rfl⟩
theorem Ov {W:World}{j:Nat}{cs:Array Value}{t e:TypeId}{fr:Nat×Nat}(h:W.heap[j]?=some (.cells cs t fr))(hte:t≠e){base size k:Nat}{v:Value}{xs:List Value}(hr:W.ownsRow base e size v k xs):some j≠v.ownBlock:=by
 rcases hr.2 with⟨rfl,_⟩|⟨g,cap,cur,rfl,_,hgb,_⟩
 ·simp[Value.ownBlock]
 ·intro e';obtain rfl:j=g:=by simpa[Value.ownBlock]using e'
  have:=h.symm.trans hgb;simp at this;exact hte this.2.1
theorem Hu {W w1:World}{j:Nat}{cs:Array Value}{t e:TypeId}{fr:Nat×Nat}(h:W.heap[j]?=some (.cells cs t fr))(hte:t≠e){n₀ size k:Nat}{v v':Value}{xs:List Value}{tmp:Obj}{B:Nat}(hj:j≠B)
 (hrow:W.ownsRow n₀ e size v k xs) (hgrow:(W.alloc tmp).grownBy w1 v.ownBlock):(w1.setCell ⟨B,0,none⟩ v').heap[j]?=some (.cells cs t fr):=by
 have hlt:=(Array.getElem?_eq_some_iff.1 h).1;rw[Below.heap_setCell _ _ _ j hj,hgrow.block j (by simp;omega) (Ov h hte hrow),(World.grownBy_alloc W tmp none).block j hlt (by simp)];exact h
def VB (B:Nat)(W:World):Nat:=match W.cell? ⟨B,0,none⟩ with
 |some (.string s)=>s.size|_=>0
theorem Pq {W:World}{B:Nat}{t:TypeId}{r:List UInt8}(h:Boxed W B t (.string { data:=r.toArray })):VB B W=r.length:=by unfold VB;rw[h.cell];rfl
structure C2 (w:World)(rc:Loop)(r:List UInt8)(ys:List Nat)(W:World):Prop where
 text:Boxed W (w.heap.size+2) 9 (.string { data:=r.toArray })
 row:∃v,Boxed W (w.heap.size+1) 147 v∧W.ownsRow w.heap.size 268 1 v ys.length (ys.map fun (d:Nat)=>.int .u32 (d:Int))
 res:W.heap[w.heap.size]?=some (.cells #[.int .i64 0,.slice none 0 0] 149 (0,0))
 loop:W.heap[w.heap.size+4]?=some (.loop rc)
 defs:W.heap[w.heap.size+3]?=some (.deferred (some []))
 below:Below w.heap.size w W
theorem Pa {W W':World}{base:Nat}{e:TypeId}{size:Nat}{v:Value}{k:Nat}{xs:List Value}(h:W.ownsRow base e size v k xs)(hk:∀g,some g=v.ownBlock→W'.heap[g]?=W.heap[g]?):W'.ownsRow base e size v k xs:=by
 obtain⟨h1,h2⟩:=h;refine⟨h1,?_⟩;rcases h2 with h2|⟨g,cap,cur,rfl,q1,q2,q3⟩
 ·exact .inl h2
 ·exact .inr ⟨g,cap,cur,rfl,q1,by rw[hk g rfl];exact q2,q3⟩
theorem K6 {W:World}{base:Nat}{e:TypeId}{size:Nat}{v:Value}{k:Nat}{xs:List Value}(h:W.ownsRow base e size v k xs):∀g,some g=v.ownBlock→g<W.heap.size:=by
 intro g hg;rcases h.2 with⟨rfl,_⟩|⟨b,cap,cur,rfl,q1,q2,q3⟩
 ·cases hg
 ·obtain rfl:g=b:=by simpa[Value.ownBlock]using hg
  exact(Array.getElem?_eq_some_iff.1 q2).1
variable {w W:World}{rc:Loop}{r:List UInt8}{ys:List Nat}
theorem C2.size (st:C2 w rc r ys W):w.heap.size+4<W.heap.size:=(Array.getElem?_eq_some_iff.1 st.loop).1
theorem C2.kept (st:C2 w rc r ys W){W':World}(hb:Below W.heap.size W W'):C2 w rc r ys W':=by
 have hs:=st.size;have hk:∀j o,W.heap[j]?=some o→W'.heap[j]?=some o:=fun j o h=>(hb.block j (Array.getElem?_eq_some_iff.1 h).1).trans h
 obtain⟨v,h1,h2⟩:=st.row;exact⟨hk _ _ st.text,⟨v,hk _ _ h1,Pa h2 fun g hg=>hb.block g (K6 h2 g hg)⟩,hk _ _ st.res,hk _ _ st.loop,hk _ _ st.defs,st.below.trans (hb.mono st.below.size)⟩
theorem C2.turn (st:C2 w rc r ys W)(rc':Loop):C2 w rc' r ys (W.putObj (w.heap.size+4) (.loop rc')):=by
 have hs:=st.size;obtain⟨v,h1,h2⟩:=st.row;exact⟨(World.putObj_heap_other (by omega)).trans st.text,⟨v,(World.putObj_heap_other (by omega)).trans h1,ownsRow_putObj h2 _ st.loop rfl⟩,(World.putObj_heap_other (by omega)).trans st.res,World.putObj_heap_same hs,
  (World.putObj_heap_other (by omega)).trans st.defs,st.below.trans (belowK_b (w:=w) (zI _) W _ _ _ (by omega) st.loop rfl rfl)⟩
theorem C2.cut (st:C2 w rc r ys W)(r':List UInt8):C2 w rc r' ys (W.setCell ⟨w.heap.size+2,0,none⟩ (.string { data:=r'.toArray })):=by obtain⟨v,h1,h2⟩:=st.row;refine⟨st.text.set _,⟨v,h1.other (by omega) _,Pa h2 fun g hg=>Below.heap_setCell _ _ _ g fun e=>?_⟩,(Below.heap_setCell _ _ _ _ (by simp)).trans st.res,(Below.heap_setCell _ _ _ _ (by simp)).trans st.loop,(Below.heap_setCell _ _ _ _ (by simp)).trans st.defs,st.below.setCell (p:=⟨_,0,none⟩) (by simp) _⟩;subst e;exact st.text.not_row (by decide) h2 hg
theorem C2.push (st:C2 w rc r ys W){v v':Value}(h1:Boxed W (w.heap.size+1) 147 v)(h2:W.ownsRow w.heap.size 268 1 v ys.length (ys.map fun (d:Nat)=>.int .u32 (d:Int))){w1:World}{tmp:Obj}{n:Nat}
 (hown:w1.ownsRow w.heap.size 268 1 v' (ys.length+1) ((ys.map fun (d:Nat)=>.int .u32 (d:Int))++[.int .u32 (n:Int)])) (hgrow:(W.alloc tmp).grownBy w1 v.ownBlock):C2 w rc r (ys++[n]) (w1.setCell ⟨w.heap.size+1,0,none⟩ v'):=by
 obtain⟨_,a2,a3,a4,a5⟩:=h1.appended (by decide) h2 st.below.size (by omega) hown hgrow;exact⟨Hu st.text (by decide) (by omega) h2 hgrow,⟨v',a2,by simpa using a3⟩,Hu st.res (by decide) (by omega) h2 hgrow,a4.same _ _ st.loop rfl,a4.same _ _ st.defs rfl,st.below.trans a5⟩
theorem O1 {W:World}{b:Nat}{cs:Array Value}{t:TypeId}{fr:Nat×Nat}(h:W.heap[b]?=some (.cells cs t fr))(i:Nat)(v:Value):(W.setCell ⟨b,i,none⟩ v).heap[b]?=some (.cells (cs.setIfInBounds i v) t fr):=by obtain⟨hlt,hk⟩:=Array.getElem?_eq_some_iff.1 h;show(W.heap.modify b _)[b]?=_;rw[Array.getElem?_eq_getElem (by rw[Array.size_modify];exact hlt),Array.getElem_modify_self,hk];rfl
theorem Tg (r:List UInt8)(a:Nat):({ data:=r.toArray } : ByteArray).extract a r.length = { data:=(r.drop a).toArray }:=by rw[Lib.extract_eq];congr 2;exact List.take_of_length_le (by simp)
theorem RB (r:List UInt8)(a:Nat):({ data:=r.toArray } : ByteArray).extract 0 a = { data:=(r.take a).toArray }:=by rw[Lib.extract_eq];rfl
theorem EA:(Tryz.prog.info? 268).map (fun i=>(i.zero,i.size,i.bytes))=some (some (.int .u32 0),1,4):=by kernel_rfl
set_option maxHeartbeats 4000000 in
theorem XC (neg:Bool)(s l:List UInt8)(hsl:s=bif neg then 45::l else l)(ks:List Nat)(hs:MA (CM l) ks)(hpre:Lib.hasPrefix s [45]=neg)(hl:l.length≤5000)(hks:ks.length≤600)(w:World)
 {Pm:Int→Option Addr→Nat→Nat→World→Prop} (hm:∀(v:Value) (W:World),W.ownsRow w.heap.size 268 1 v ks.length (ks.map fun (d:Nat)=>.int .u32 (d:Int))→W.heap[w.heap.size]?=some (.cells #[.int .i64 0,.slice none 0 0] 149 (0,0))→W.heap[w.heap.size+3]?=some (.deferred (some []))→Calls Tryz.prog 257 #[.int .i64 (bif neg then -1 else 1),v] W (fun e W'=>∃s ba ln cp,e=.returned (.agg #[.int .i64 s,.slice ba ln cp])∧Below W.heap.size W W'∧Pm s ba ln cp W')) :
 Calls Tryz.prog 181 #[.string { data:=s.toArray }] w (fun e W2=>∃s ba ln cp W',e=.returned (.agg #[.int .i64 s,.slice ba ln cp])∧Pm s ba ln cp W'∧Below w.heap.size w W2∧W'.heap.size≤W2.heap.size∧∀j,j≠w.heap.size→j≠w.heap.size+3→W2.heap[j]?=W'.heap[j]?):=by
 obtain⟨i0,hi,hz0,hz1,hz2⟩:=info_parts EA;refine(callsIn_wide (n:=8)).1 ?_;refine callsIn_of_wp_marks Tryz.func181 rfl trivial ?_ rfl;simp only[Tryz.ntmps181,List.size_toArray,List.length_cons,List.length_nil,Nat.reduceAdd,Nat.reduceSub,Array.replicate_succ,Array.replicate_zero,List.push_toArray,List.append_toArray,List.nil_append,List.cons_append];have hmx:Tryz.prog.follows .mixedOrders=true:=by kernel_rfl
 have hl45:(45::l:List UInt8).length=l.length+1:=rfl;cases neg;all_goals
  dsimp only[cond_true,cond_false]at hsl
  replace hsl:=hsl.symm
  subst hsl
  gi_wp2_with (refine⟨trivial,?_⟩;gi_at_call 254;refine(callsIn_wide.2 (Tryz.strings_HasPrefix _ _ _)).mono ?_;rintro e w' ⟨rfl,rfl⟩)
 rotate_left
 focus
  gi_region
  gi_wp2
  rw[show({ data:=(45::l).toArray } : ByteArray).extract 1 (l.length+1) = { data:=l.toArray } from Tg (45::l) 1]
 all_goals
  refine⟨trivial,(W4 _ _ _).mono ?_⟩;rintro e w' ⟨rfl,rfl⟩
  gi_wp2
  refine Acj rfl (by omega) (gf:=315) (lb:=#[.pointer (some ⟨w.heap.size+2,0,none⟩)]) rfl trivial (enters_of Tryz.func315 (by kernel_rfl) rfl) ?_;intro fn _;have b2:Below w.heap.size w ((w.alloc (.cells #[.int .i64 0,.slice none 0 0] 149)).alloc (.cells #[.slice none 0 0] 147)):=((Below.refl _ _).alloc (zI _) _).alloc (by simp) _;have q1:=Boxed.new ((w.alloc (.cells #[.int .i64 0,.slice none 0 0] 149)).alloc (.cells #[.slice none 0 0] 147)) 9 (.string { data:=l.toArray });have q2:=(Boxed.new (w.alloc (.cells #[.int .i64 0,.slice none 0 0] 149)) 147 (.slice none 0 0)).alloc (.cells #[.string { data:=l.toArray }] 9);have q3:(((w.alloc (.cells #[.int .i64 0,.slice none 0 0] 149)).alloc (.cells #[.slice none 0 0] 147)).alloc (.cells #[.string { data:=l.toArray }] 9)).heap[w.heap.size]?=some (.cells #[.int .i64 0,.slice none 0 0] 149 (0,0)):=by rw[Below.heap_alloc _ _ _ (by simp;omega),Below.heap_alloc _ _ _ (by simp)];exact World.alloc_heap_new _ _
  have b0:=b2.alloc (show w.heap.size≤_ by simp;omega) (.cells #[.string { data:=l.toArray }] 9);have hsz:(((w.alloc (.cells #[.int .i64 0,.slice none 0 0] 149)).alloc (.cells #[.slice none 0 0] 147)).alloc (.cells #[.string { data:=l.toArray }] 9)).heap.size=w.heap.size+3:=by simp
  rw[World.size_alloc,World.size_alloc]at q1;rw[World.size_alloc]at q2;generalize ((w.alloc (.cells #[.int .i64 0,.slice none 0 0] 149)).alloc (.cells #[.slice none 0 0] 147)).alloc (.cells #[.string { data:=l.toArray }] 9)=U0 at q1 q2 q3 b0 hsz ⊢
 have b1:=b0.drew;have hsz1:U0.drew.heap.size=w.heap.size+3:=hsz;have q11:Boxed U0.drew (w.heap.size+2) 9 (.string { data:=l.toArray }):=q1;have q21:Boxed U0.drew (w.heap.size+1) 147 (.slice none 0 0):=q2;have q31:U0.drew.heap[w.heap.size]?=some (.cells #[.int .i64 0,.slice none 0 0] 149 (0,0)):=q3;obtain⟨W0,hW0⟩:∃W0,U0.drew=W0:=⟨_,rfl⟩;rw[hW0]at b1 hsz1 q11 q21 q31 ⊢
 rotate_left
 have b1:=b0;have hsz1:=hsz;have q11:=q1;have q21:=q2;have q31:=q3;obtain⟨W0,hW0⟩:∃W0,U0=W0:=⟨_,rfl⟩;rw[hW0]at b1 hsz1 q11 q21 q31 ⊢;all_goals
  clear b0 hsz q1 q2 q3 b2 hW0;generalize hrc:Sn fn _ _ _ _ _ .ready=rc;generalize Sn fn _ _ _ _ _ .exhausted=rx;have st0:C2 w rc l [] ((W0.alloc (.deferred (some []))).alloc (.loop rc)):=by
   refine⟨(q11.alloc _).alloc _,⟨_,(q21.alloc _).alloc _,World.ownsRow_nil _ _ _ _⟩,?_,?_,?_,(b1.alloc (by omega) _).alloc (by simp;omega) _⟩
   ·rw[Below.heap_alloc _ _ _ (by simp;omega),Below.heap_alloc _ _ _ (by omega)];exact q31
   ·have:=World.alloc_heap_new (W0.alloc (.deferred (some []))) (.loop rc);rw[World.size_alloc,hsz1]at this;exact this
   ·have:=World.alloc_heap_new W0 (.deferred (some []));rw[hsz1]at this;rw[Below.heap_alloc _ _ _ (by simp;omega)];exact this
  generalize (W0.alloc (.deferred (some []))).alloc (.loop rc)=W1 at st0 ⊢;rw[hsz1];refine CallsIn.mono (R:=fun e W=>(∃v,e=.returned v)∧C2 w rc [] ks W) ?_ ?_
  ·refine callsIn_of_wp Tryz.func315 rfl trivial ?_ rfl;simp only[Tryz.ntmps315,List.size_toArray,List.length_cons,List.length_nil,Nat.reduceAdd,Nat.reduceSub,Array.replicate_succ,Array.replicate_zero,List.push_toArray,List.append_toArray,List.nil_append,List.cons_append]
   gi_wp2
   gi_loopw [] (fun wr=>∃(r:List UInt8) (ys rest:List Nat),ys++rest=ks∧MA (CM r) rest∧r.length≤5000∧C2 w rc r ys wr) (fun wr=>VB (w.heap.size+2) wr)
   case atStart=>exact⟨l,[],ks,rfl,hs,hl,st0⟩
   case round=>
    obtain⟨r,ys,rest,hyr,hsr,hlr,st⟩:=hrel;have ht:=st.text.cell;have hf:=st.text.frozen
    gi_wp2
    all_goals
     first
      |(go_end0
        have hr:r=[]:=by
         match r,‹¬0<r.length› with
         |[],_=>rfl|_::_,h=>simp at h
        subst hr;rw[ML]at hsr;cases hsr;rw[List.append_nil]at hyr;subst hyr;exact⟨⟨_,rfl⟩,st⟩)
      |skip
    all_goals
     have hd:1≤8-1-1:=by omega
     have hne:r≠[]:=fun e=>by subst e;simp at *
     have hc:=Ir hne;rw[hc]at hsr;cases hsr with
     |cons hat hn hsr=>
     rename_i n rest;have hlp:(r.drop (r.length-9)).length≤18:=by simp;omega
     have hlt:(r.take (r.length-9)).length=r.length-9:=by simp
     have hal:r.length-9<r.length:=by have:=List.length_pos_iff.2 hne;omega
     generalize ha:r.length-9=a at hlp hlt hal hat hsr;have hal':a≤r.length:=by omega
     rw[show max (0:Int) ((r.length:Int)-9)=(a:Int) by omega,show((a:Int)).toNat=a from rfl,Tg];rw[run_yield (r:=rc) (show wr.heap[w.heap.size+3+1]?=_ from st.loop) (by rw[←hrc];rfl),Oper.uponIn_round];refine⟨fun _=>by omega,roundIn_of_wpIn trivial ?_⟩;rw[←hrc];dsimp only[Sn]
     gi_wp2
     refine⟨_,run_beginRound st.loop (by rw[←hrc];rfl),?_⟩;have s2:=st.turn { rc with state:=.busy };generalize wr.putObj (w.heap.size+4) (.loop { rc with state:=.busy })=W2 at s2 ⊢
     gi_wp2_with fail
     refine⟨trivial,(CallsIn.inRound _ (callsIn_wide.2 (Tryz.strconv_Atoi { data:=_ } n hlp hat _))).mono ?_⟩;rintro e w' ⟨rfl,t,rfl⟩;have s3:=s2.kept (Lib.bytesWorld_below W2 5 t);generalize Lib.bytesWorld W2 5 t=W3 at s3 ⊢;obtain⟨v,hv,hrow⟩:=s3.row;have hvc:=hv.cell;have hn':n<1000000000:=hn;have hu:((n:Int)%4294967296)=n:=Int.emod_eq_of_lt (by omega) (by omega);have hys:ys.length≤600:=by have:=congrArg List.length hyr;rw[zR]at this;omega
     have h3s:=s3.size
     gi_wp2_with (gi_at_builtin;refine wpListIn_append_own _ rfl _ _ 147 rfl w.heap.size 268 i0 (.int .u32 0) 1 4 Tryz.underlying147 hi hz0 hz1 hz2 rfl (by decide) _ _ _ rfl (hrow.alloc _) ⟨W3.heap.size,0,none⟩ 1 1 [.int .u32 (n:Int)] rfl rfl (cell_one_new _ _ _) (by simp[Value.oneCell']) (by simp only[maxLen];omega) (by omega) (by simp;omega) ?_;intro v' w1 hown' hgrow _;obtain⟨g',cap',rfl⟩:=ownsRow_succ hown';obtain⟨hv1,_⟩:=hv.appended (by decide) hrow s3.below.size (by omega) hown' hgrow;have hc1:=hv1.cell;have hf1:=hv1.frozen)
     have s4:=s3.push hv hrow hown' hgrow;refine⟨_,_,run_endRound none s4.loop,?_⟩;have s5:=s4.turn rc;dsimp only[Option.isNone_none];simp only[if_true];rw[show({ state:=.ready,pending:=none,fn:=rc.fn,tmps:=rc.tmps,params:=rc.params,assign:=rc.assign,body:=rc.body,defers:=rc.defers } : Loop)=rc by rw[←hrc];rfl];generalize (w1.setCell ⟨w.heap.size+1,0,none⟩ (.slice (some ⟨g',0,none⟩) (ys.length+1) cap')).putObj (w.heap.size+4) (.loop rc)=W5 at s5 ⊢;have ht5:=s5.text.cell;have hf5:=s5.text.frozen
     gi_wp2
     go_roundw
     case rel=>
      rw[RB];exact⟨_,ys++[n],rest,by simpa using hyr,hsr,by omega,s5.cut _⟩
     case measure=>
      rw[RB,Pq (s5.cut _).text,Pq st.text];omega
  ·rintro e W ⟨hv,st⟩;refine⟨hv,st.loop,?_⟩;have s6:C2 w rx [] ks (W.putObj (w.heap.size+3+1) (.loop rx)):=st.turn rx;generalize W.putObj (w.heap.size+3+1) (.loop rx)=W6 at s6 ⊢;obtain⟨v,hvb,hrow⟩:=s6.row;have hvc:=hvb.cell
   gi_wp2
   refine⟨trivial,(callsIn_wide.2 (hm v W6 hrow s6.res s6.defs)).mono ?_⟩;rintro e w' ⟨s',ba,ln,cp,rfl,hb,hpm⟩;have s7:=s6.kept hb;have hr7:=s7.res;have hc0:w'.cell? ⟨w.heap.size,0,none⟩=some (.int .i64 0):=by simp[World.cell?,hr7]
   have hc1:w'.cell? ⟨w.heap.size,1,none⟩=some (.slice none 0 0):=by simp[World.cell?,hr7]
   have hf0:w'.frozen? ⟨w.heap.size,0,none⟩=false:=by simp[World.frozen?,hr7]
   have hf1:w'.frozen? ⟨w.heap.size,1,none⟩=false:=by simp[World.frozen?,hr7]
   gi_wp2
   generalize hw9:(w'.setCell ⟨w.heap.size,0,none⟩ (.int .i64 s')).setCell ⟨w.heap.size,1,none⟩ (.slice ba ln cp)=W9;have hk:W9.heap[w.heap.size+3]?=some (.deferred (some [])):=by rw[←hw9,Below.heap_setCell _ _ _ _ (by simp),Below.heap_setCell _ _ _ _ (by simp)];exact s7.defs
   have h9:W9.heap[w.heap.size]?=some (.cells #[.int .i64 s',.slice ba ln cp] 149 (0,0)):=by rw[←hw9];have:=O1 (O1 hr7 0 (.int .i64 s')) 1 (.slice ba ln cp);simpa using this
   have d0:(W9.putObj (w.heap.size+3) (.deferred none)).cell? ⟨w.heap.size,0,none⟩=some (.int .i64 s'):=by simp[World.cell?,World.putObj_heap_other (show w.heap.size≠w.heap.size+3 by omega),h9]
   have d1:(W9.putObj (w.heap.size+3) (.deferred none)).cell? ⟨w.heap.size,1,none⟩=some (.slice ba ln cp):=by simp[World.cell?,World.putObj_heap_other (show w.heap.size≠w.heap.size+3 by omega),h9]
   refine⟨by simp,.inl ⟨_,_,rfl,run_takeDeferred hk,?_⟩⟩;refine⟨.agg #[.int .i64 s',.slice ba ln cp],by simp[results,Tryz.results181,go_sem,d0,d1],s',ba,ln,cp,w',rfl,hpm,?_,?_,?_⟩
   ·have b9:Below w.heap.size w W9:=by rw[←hw9];exact(s7.below.setCell (p:=⟨_,0,none⟩) (zI _) _).setCell (p:=⟨_,1,none⟩) (zI _) _
    exact b9.trans (belowK_b (w:=w) (zI _) W9 _ _ _ (by omega) hk rfl rfl)
   ·rw[World.putObj_size,←hw9];exact Nat.le_of_eq (by simp[World.setCell])
   ·intro j h1 h2;rw[World.putObj_heap_other h2,←hw9,Below.heap_setCell _ _ _ _ h1,Below.heap_setCell _ _ _ _ h1]
end Go.Nb
namespace Go.Nb
open Go Go.Ab Go.Nl Go.RowKit Go.Proofs Go.E4
theorem KE (z:Int):Bq z=bif decide (z<0) then 45::FI z else FI z:=by
 unfold Bq FI;by_cases h0:z=0
 ·subst h0;rfl
 ·by_cases h1:z<0
  ·simp[h0,h1]
  ·simp[h0,h1]
theorem OZ {z:Int} : Lib.hasPrefix (Bq z) [45]=decide (z<0):=by
 obtain⟨c,l,h1,h2,_⟩:=GM (k:=(Ae z.natAbs).length+1) (z:=z) (Nat.le_succ _) (by omega);rw[h1];by_cases h:z<0
 ·simp[h,Lib.hasPrefix]
 ·have:(45:UInt8)≠c:=fun e=>by have:=(h2 c (List.mem_cons_self ..)).1;subst e;exact absurd this (by decide)
  simp[h,Lib.hasPrefix,List.isPrefixOf,this]
theorem Zt {z:Int}(hz:Fits 400 z):(FI z).length≤3600:=by
 have hz:(Ae z.natAbs).length≤400:=hz;obtain⟨c,l,h1,_,_,h4⟩:=GM (k:=400) hz (by decide);have e:=KE z;rw[h1]at e;by_cases h:z<0
 ·simp[h]at e;rw[←e];omega
 ·simp[h]at e;rw[←e];omega
theorem LM (z:Int):trim (Fx z)=Ae z.natAbs:=by
 unfold Fx;by_cases h0:z=0
 ·subst h0;rw[if_pos rfl,show Ae (Int.natAbs 0)=[] from Bv];rfl
 ·rw[if_neg h0,IE (Cl _),BU]
theorem f_read {z:Int}(hz:Fits 400 z):AG P4 gl5 181 [.str ((Bq z).map UInt8.toNat)] (AL z):=by
 intro k w vs _ _ _ hg hv;obtain⟨v,rfl,q⟩:=ED hv;rw[Ql q];have hzl:(Ae z.natAbs).length≤400:=hz;have hlr:0<(Fx z).length∧(Fx z).length≤400:=by
  unfold Fx;by_cases h0:z=0
  ·rw[if_pos h0];simp
  ·rw[if_neg h0];exact⟨F2 h0,hzl⟩
 refine(XC (decide (z<0)) (Bq z) (FI z) (KE z) (Fx z) (Xb z) OZ (by have:=Zt hz;omega) (by omega) w
  (Pm:=fun s ba ln cp W'=>Hk W' (fun b=>w.heap.size≤b∧b≠w.heap.size∧b≠w.heap.size+3) z.sign (Ae z.natAbs) (.agg #[.int .i64 s,.slice ba ln cp])) ?_).mono ?_
 ·intro v W hrow hres hdef;have hS:Sl W (fun b=>w.heap.size≤b∧b≠w.heap.size∧b≠w.heap.size+3) (Fx z) v:=by
   have hr2:=hrow.2;rcases Em hrow rfl hlr.1 with⟨_,_,_,e⟩|⟨b,o,cap,rfl,h1,h2,h3⟩
   ·rw[e]at hlr;simp at hlr
   ·refine .inr ⟨b,o,cap,rfl,h1,h2,⟨h3.1,?_,?_⟩,h3.2⟩;all_goals
     intro e;rcases hr2 with⟨e2,_⟩|⟨g,cap2,cur,e2,_,hg2,_⟩
     ·cases e2
     ·cases e2;rw[e]at hg2;first
       |(rw[hres]at hg2;cases hg2)
       |(rw[hdef]at hg2;cases hg2)
  refine(JW _ _ (Fx z) v W (by omega) hS).mono ?_;rintro e W' ⟨r,rfl,⟨l,rfl,hl⟩,hb⟩;rw[LM]at hl;have hsg:(if trim (Fx z)=[] then 0 else bif decide (z<0) then -1 else 1)=z.sign:=by
   rw[LM];by_cases h0:z=0
   ·subst h0;rw[show Ae (Int.natAbs 0)=[] from Bv];rfl
   ·rw[if_neg fun e=>by have:=F2 h0;rw[e]at this;simp at this];by_cases h1:z<0
    ·simp[h1,Int.sign_eq_neg_one_of_neg h1]
    ·simp[h1,Int.sign_eq_one_of_pos (show 0<z by omega)]
  rw[hsg];rcases hl with⟨rfl,e⟩|⟨b,o,rfl,e⟩
  ·exact⟨_,_,_,_,rfl,hb,_,rfl,.inl ⟨rfl,e⟩⟩
  ·exact⟨_,_,_,_,rfl,hb,_,rfl,.inr ⟨b,o,rfl,e⟩⟩
 ·rintro e W2 ⟨s,ba,ln,cp,W',rfl,⟨l,e1,hl⟩,hb,hsz,hk⟩;refine⟨_,rfl,hb,C7.2 ⟨l,e1,?_⟩⟩;rcases hl with⟨h1,h2⟩|⟨b,o,h1,h2,h3,h4,h5⟩
  ·exact .inl ⟨h1,h2⟩
  ·refine .inr ⟨b,o,h1,h2,.inr ⟨h3.1,by omega⟩,by omega,fun i hi=>?_⟩;rw[←h5 i hi];unfold World.cell?;rw[hk b h3.2.1 h3.2.2]
end Go.Nb
end
