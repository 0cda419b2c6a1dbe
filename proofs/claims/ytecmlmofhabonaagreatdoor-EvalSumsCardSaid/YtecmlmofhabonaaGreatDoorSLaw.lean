/- metewandlaw15.EvalSums over what the generators make and what eval.Eval returns: it returns true. -/
import Derived.Test.YtecmlmofhabonaaGreatDoorSMeant1
import Derived.Test.YtecmlmofhabonaaGreatDoorSMeant2
import Derived.Test.YtecmlmofhabonaaGreatDoorSBoth3
import Derived.Test.YtecmlmofhabonaaGreatDoorSNode8
import Derived.Test.YtecmlmofhabonaaGreatDoorRows
import Derived.LaidSub
import Derived.Lay
import Derived.Lib.LaidU8
import Derived.Stop.Joined
import Derived.ProofKit
noncomputable section
namespace Go.Ev
open Go Go.Ab Go.Nl Go.Nb Go.RowKit Go.Proofs Go.E4
set_option maxRecDepth 1000000
theorem as_ok:∀q∈asMs,Bg (Af []) (mpL []) q:=by intro q hq;obtain⟨n,_,rfl⟩:=List.mem_map.1 hq;exact Ri rfl
theorem SI {i n:Nat}(h:QL i n=true){j:Nat}(h1:i≤j)(h2:j<i+n):mOk j=true:=by have:=zB.1 h (j-i) (zQ.2 (by omega));rwa[show i+(j-i)=j by omega]at this
theorem Abs:mL.map (fun m=>(Ai (Af []) noT m.a,inst (Af []) noT m.x))=mL.map (fun m=>(m.a,m.x)):=by kernel_rfl
theorem m_len:mL.length=172:=by kernel_rfl
theorem IY {j:Nat}(z:Int)(hz:z.natAbs<B)(h:((mAt j).f,(mAt j).a,(mAt j).x)=(132,[nzA z],AV.str ((Bq z).map UInt8.toNat))):VF (mAt j).f (mAt j).a (.ret (mAt j).x):=by simp only[zG]at h;rw[h.1,h.2.1,h.2.2,←GH hz];exact Qx (Aj (by decide) (DL hz))
def mTx:List Nat:=[50,51,73,74,86,115,121,130,140,150]
theorem m_tx:((List.range 172).all fun i=>!Nat.beq (mAt i).f 132||mTx.contains i)=true:=by kernel_rfl
theorem tx50:VF (mAt 50).f (mAt 50).a (.ret (mAt 50).x):=IY 3 (by decide) (by kernel_rfl)
theorem tx51:VF (mAt 51).f (mAt 51).a (.ret (mAt 51).x):=IY 1 (by decide) (by kernel_rfl)
theorem tx73:VF (mAt 73).f (mAt 73).a (.ret (mAt 73).x):=IY 9 (by decide) (by kernel_rfl)
theorem tx74:VF (mAt 74).f (mAt 74).a (.ret (mAt 74).x):=IY 2 (by decide) (by kernel_rfl)
theorem tx86:VF (mAt 86).f (mAt 86).a (.ret (mAt 86).x):=IY 10 (by decide) (by kernel_rfl)
theorem tx115:VF (mAt 115).f (mAt 115).a (.ret (mAt 115).x):=IY 3000 (by decide) (by kernel_rfl)
theorem tx121:VF (mAt 121).f (mAt 121).a (.ret (mAt 121).x):=IY 200 (by decide) (by kernel_rfl)
theorem tx130:VF (mAt 130).f (mAt 130).a (.ret (mAt 130).x):=IY 3200 (by decide) (by kernel_rfl)
theorem tx140:VF (mAt 140).f (mAt 140).a (.ret (mAt 140).x):=IY 0 (by decide) (by kernel_rfl)
theorem tx150:VF (mAt 150).f (mAt 150).a (.ret (mAt 150).x):=IY 4 (by decide) (by kernel_rfl)
theorem m_all:∀i,i<172→VF (mAt i).f (mAt i).a (.ret (mAt i).x):=by
 intro i
 induction i using Nat.strongRecOn with
 |ind i ih=>
  intro hi;have ho:mOk i=true:=by
   by_cases c0:i<22
   ·exact SI ms0 (by omega) (by omega)
   by_cases c1:i<43
   ·exact SI ms1 (by omega) (by omega)
   by_cases c2:i<64
   ·exact SI ms2 (by omega) (by omega)
   by_cases c3:i<86
   ·exact SI ms3 (by omega) (by omega)
   by_cases c4:i<108
   ·exact SI ms4 (by omega) (by omega)
   by_cases c5:i<129
   ·exact SI ms5 (by omega) (by omega)
   by_cases c6:i<150
   ·exact SI ms6 (by omega) (by omega)
   exact SI ms7 (by omega) (by omega)
  have hs:Ai (Af []) noT (mAt i).a=(mAt i).a∧inst (Af []) noT (mAt i).x=(mAt i).x:=by
   have hl:i<mL.length:=by rw[m_len];exact hi
   have:=congrArg (fun l=>l[i]?) Abs;simp only[List.getElem?_map,zK hl,Option.map_some,zC,zG]at this;unfold mAt;rw[List.getD,zK hl];exact this
  by_cases h132:(mAt i).f=132
  ·have:=zB.1 m_tx i (zQ.2 hi);rw[h132]at this;have hm:i∈mTx:=by simpa using this
   simp only[mTx,zH,List.not_mem_nil,or_false]at hm;rcases hm with rfl|rfl|rfl|rfl|rfl|rfl|rfl|rfl|rfl|rfl
   ·exact tx50
   ·exact tx51
   ·exact tx73
   ·exact tx74
   ·exact tx86
   ·exact tx115
   ·exact tx121
   ·exact tx130
   ·exact tx140
   ·exact tx150
  ·unfold mOk at ho;have h0:Nat.beq (mAt i).f 132=false:=by
    cases h:Nat.beq (mAt i).f 132 with
    |false=>rfl|true=>exact absurd (zD h) h132
   simp only[h0,Bool.false_or,zA]at ho;refine AeG (fun q hq=>?_) ho.2 hs.1 (congrArg AB.ret hs.2);rcases List.mem_append.1 hq with hq|hq
   ·obtain⟨j,hj,rfl⟩:=List.mem_map.1 hq;have hji:=AW (zB.1 ho.1 j hj);have hv:=ih j hji (by omega);have hl:j<mL.length:=by rw[m_len];omega
    have hs2:Ai (Af []) noT (mAt j).a=(mAt j).a∧inst (Af []) noT (mAt j).x=(mAt j).x:=by have:=congrArg (fun l=>l[j]?) Abs;simp only[List.getElem?_map,zK hl,Option.map_some,zC,zG]at this;unfold mAt;rw[List.getD,zK hl];exact this
    unfold Bg;show CC P4 gl5 0 (mAt j).f (Ai (Af []) noT (mAt j).a) [] (.ret (inst (Af []) noT (mAt j).x)) [];rw[hs2.1,hs2.2];exact hv
   ·exact as_ok q hq
theorem Aa2:VF 18 [] (.ret (.bool true)):=m_all 171 (by decide)
end Go.Ev
namespace Go.Ev
open Go Go.Ab Go.Nl Go.Nb Go.RowKit Go.Proofs Go.E4 Go.Ro
set_option maxRecDepth 1000000
variable {d:Int}{a:Nat}
def PI:AV:=.psl [.int .i64 0,.str nmF,.psl [.str [120]] 1 none,.sel 11,.sel 12,.sel 13,.sel 14,.sel 15,.sel 16] 1 none
def QO:AV:=.psl [.str [97],.emp,.psl [.sel 17,.sel 18] 1 none,.emp,.str [98],.emp,.psl [.sel 19,.sel 20] 1 none,dmU [109],.str [99],.emp,.psl [.sel 21,.sel 22] 1 none,dmU [115],.str [118],.psl [.int .i64 3] 1 none,.psl [.sel 23,.sel 24,.sel 25,.sel 26,.sel 27,.sel 28] 3 none,dmU [109],.str [119],.psl [.int .i64 3] 1 none,.psl [.sel 29,.sel 30,.sel 31,.sel 32,.sel 33,.sel 34] 3 none,.emp] 5 none
def lwEv (x:AV)(r:AV):OF:=vq 16 [DN,PI,QO,x] (.ret r)
def st0:AO:=.cells 79 [.sel 0,.int .i64 0,.int .u64 7640891576956012809]
def lwGen:List OF:=[vq 10 [] (.ret DN),vq 18 [] (.ret (.bool true)),⟨11,1,[.ptr 0 0],[(0,st0)],.ret PI,[(0,some (stO 1))]⟩,gF 12 [] 1 3 QO]
noncomputable def envM (l:List AV)(facts:List OF)(bins:List NB):Env:={ GW l [] facts bins [] [] with lit:=fun t=>Nat.beq t 33 }
noncomputable def RJ (f:FuncId)(l:List AV)(facts:List OF)(bins:List NB):Bool:=facts.all (fun q=>BZ q.N q.args q.l q.res q.u)&&Mf (envM l facts bins) 4000 80 0 f [.sel 0] [] (.ret (.bool true)) []
theorem WN {f:FuncId}{l:List AV}(hl:Pls l){facts:List OF}{bins:List NB}(h:RJ f l facts bins=true)(hf:∀q∈facts,Bg (Af l) (mpL []) q)(hb:∀q∈bins,Ds (Af l) q):AG P4 gl5 f [Af l 0] (.bool true):=by
 unfold RJ at h;simp only[zA]at h;have hσ:=Qf hl (mu:=[]) rfl;have hE:=(VK hl (mu:=[]) rfl hb (lens:=[]) Ac (slens:=[]) Ac).hit facts;have hE2:Az P4 (envM l facts bins):=⟨hE.ty,hE.fn,hE.meth,hE.impl,hE.eqt,hE.mixed,hE.bin,hE.len,hE.slen,hE.sat⟩;have hP0:B0 P4 (IW l [] bins [] []):=K3 (E:=IW l [] bins [] []) (fun _ _ h=>by cases h);have hc:(⟨P4.cellsOf,(IW l [] bins [] []).sel,(IW l [] bins [] []).tok,(IW l [] bins [] []).str,(IW l [] bins [] []).mp⟩:KC)=RX P4 (Af l) noT (mpL []) Di.env.tok:=rfl;have hP:B0 P4 (GW l [] facts bins [] []):=B0.hit hP0 Ft (fun i=>(hσ.mp i).2) fun q hq=>by have h1:=zB.1 h.1 q hq;exact⟨Fy (P:=P4) (E:=IW l [] bins [] []) hσ hc (hf q hq) h1,h1⟩
 exact Wp (E:=envM l facts bins) hE2 hP Ft hσ hc h.2
def smC (o n:Nat):List AV:=[.int .i64 (.ofNat o),.str [],.str [],.str nmI,.int .i64 (.ofNat n),.psl (sls 35 6) 1 none]
def smL (i:Nat):List AV:=[.int .i64 0,.str [48+i],.str [49],.str [],.int .i64 0,.emp]
def smO (a:Nat):AV:=.agg (sls a 3)
def smT:Nat→Nat
 |0=>47|j+1=>64+14*j
def smK (a:Nat)(n:AV):AV:=.tup [smO a,n,.int .i64 0]
def kIdx:Kd→Int
 |.pl=>0|.m=>1|.m3=>2|_=>3
def smG (n:Nat)(k:Kd):List OF:=lwGen++[gF 14 [.int .i64 3] 3 5 (.int .i64 (.ofNat (n-1))),gF 14 [.int .i64 3] 5 7 (.int .i64 (kIdx k)),gF 13 [.int .i64 3,.int .i64 k.n,.bool true] 7 9 (.agg (sls 35 6))]
def smF (n i:Nat):List OF:=[lwEv (.agg [.int .i64 9,.str [],.str [],.str [],.int .i64 0,.psl (smC 10 n++smL i) 2 none]) (smK (47+14*i) (.sel (53+14*i))),
 vq 15 [.agg (sls 35 6),.str nmI,.agg (smL i)] (.ret (.tup [.agg (sls (41+14*i) 6),.int .i64 0])),lwEv (.agg (sls (41+14*i) 6)) (smK (47+14*i) (.sel (54+14*i))),vq 17 [smO (47+14*i),smO (47+14*i)] (.ret (.bool true))]
def smA1 (i:Nat):OF:=vq 35 [.int .i64 3,smO (smT i),smO (61+14*i)] (.ret (.tup [smO (smT (i+1)),.int .i64 0]))
def smE (n:Nat):List OF:=[lwEv (.agg (smC 10 n)) (smK (41+14*n) (.sel (44+14*n))),lwEv (.agg (smC 11 n)) (smK (smT (n-1)) (.sel (45+14*n))),vq 17 [smO (smT (n-1)),smO (smT (n-1))] (.ret (.bool true))]
def Pg (n:Nat):List OF:=smE n++((List.range n).flatMap (smF n)++(List.range (n-1)).map smA1)
theorem r_sm1 (l:List AV):(F4.all fun k=>RJ 8 l (smG 1 k++Pg 1) [])=true:=by kernel_rfl
theorem r_sm2 (l:List AV):(F4.all fun k=>RJ 8 l (smG 2 k++Pg 2) [])=true:=by kernel_rfl
theorem r_sm3 (l:List AV):(F4.all fun k=>RJ 8 l (smG 3 k++Pg 3) [])=true:=by kernel_rfl
theorem r_sm4 (l:List AV):(F4.all fun k=>RJ 8 l (smG 4 k++Pg 4) [])=true:=by kernel_rfl
theorem r_smE (l:List AV):(n4s.all fun n=>F4.all fun k=>RJ 8 l (smG n k++[lwEv (.agg (smC 10 n)) (.tup [V7,.int .i64 0,.sel 41])]) [⟨.neq,.sel 41,.int .i64 0,.bool true⟩])=true:=by kernel_rfl
def VG (v:Vl):AV:=.psl (v.it.flatMap txC) v.it.length none
theorem AdC (v:Vl):Pl (VG v):=by
 have:∀l:List Q,Bc (l.flatMap txC)=true:=fun l=>by
  induction l with
  |nil=>rfl|cons q r ih=>simpa[List.flatMap_cons,txC,Bc,Av]using ih
 have h:=this v.it;simp only[Pl,VG,Av,h,AV.cell,Bool.and_self]
theorem pl_od (d:Dm):Pl (J1 d):=by cases d<;>rfl
theorem po (v:Vl){r:List AV}(h:Pls r):Pls (AA v.sh::VG v::J1 v.dm::r):=all_cons (Pl.sh _)<|all_cons (AdC v)<|all_cons (pl_od _) h
theorem UK:VF 10 [] (.ret DN):=Ce (l:=[]) rfl Ac (AbO []) rfl rfl
def cbOf:FB→Option (Nat×Q)
 |none=>none|some (k,p,q)=>some (k,((p:Int),(q:Int)))
theorem N6 {k p q:Nat}(h:G8 (some (k,p,q))=true):k≤5∧p<10∧0<q∧q<6∧Nat.gcd p q=1:=by simp only[G8,zA]at h;obtain⟨h1,h2,h3,h4,h5⟩:=h;exact⟨zE h1,AW h2,AW h3,AW h4,zD h5⟩
theorem Fr.sz {t d:List Nat}{q:Q}(h:Fr t d q):Sz 65536 q:=by have h1:q.1.natAbs<10000:=of_decide_eq_true (zB.1 Rl _ h.num);obtain⟨x,hx,_,e⟩:=h.den;simp only[SV,zH,List.not_mem_nil,or_false]at hx;exact⟨by omega,by omega⟩
theorem Yu {b:Bn}(hb:Sf b){f:FB}(hf:G8 f=true):EnOk (b.en (EU f)) (cbOf f):=by
 refine⟨B7 rfl hb.i0.ok,B7 rfl hb.i1.ok,B7 rfl hb.i2.ok,KB rfl hb.i3.ok hb.i4.ok hb.i5.ok,KB rfl hb.i6.ok hb.i7.ok hb.i8.ok,?_⟩
 match f,hf with
 |none,_=>rfl|some (k,p,q),hf=>
  obtain⟨h1,h2,h3,h4,h5⟩:=N6 hf;refine⟨?_,_,_,rfl,(F6 h2 h3 h4 h5).lit⟩;have:k=0∨k=1∨k=2∨k=3∨k=4∨k=5:=by omega
  simpa using this
theorem Aa0 {b:Bn}(hb:Sf b){f:FB}(hf:G8 f=true):EnSz (b.en (EU f)) (cbOf f):=by
 have one:∀{p d q dm},Fr p d q→SzV 65536 (⟨[],[q],dm⟩:Vl):=fun h x hx=>by simp only[List.mem_singleton]at hx;subst hx;exact h.sz
 have three:∀{p d q p' d' q' p'' d'' q'' dm},Fr p d q→Fr p' d' q'→Fr p'' d'' q''→SzV 65536 (⟨[3],[q,q',q''],dm⟩:Vl):=fun h h' h'' x hx=>by
  simp only[zH,List.not_mem_nil,or_false]at hx;rcases hx with rfl|rfl|rfl
  ·exact h.sz
  ·exact h'.sz
  ·exact h''.sz
 refine⟨one hb.i0,one hb.i1,one hb.i2,three hb.i3 hb.i4 hb.i5,three hb.i6 hb.i7 hb.i8,fun k q h=>?_⟩
 match f,hf with
 |none,_=>cases h|some (k',p,q'),hf=>simp only[cbOf,zC,zG]at h;obtain⟨_,rfl⟩:=h;obtain⟨h1,h2,h3,h4,h5⟩:=N6 hf;exact(F6 h2 h3 h4 h5).sz
theorem AeH {f:FB}(hf:G8 f=true):Wk 0 (EU f):=by
 have x:∀{h:Int},0≤h→Sh h (.ref nX):=fun h=>.ref h (by decide)
 have s:Sh 2 (EU f):=by
  match f,hf with
  |none,_=>exact .bin (op:=3) (by decide) (fun h=>by cases h) (x (by decide)) (.bin (op:=5) (h:=0) (by decide) (fun _=>by show(0:Nat)≠2;decide) (.lit (a:=0) (b:=1) (u:=0) (by decide) (by decide) (by decide) (by decide) (by decide) (by decide)) (x (by decide)))
  |some (k,p,q),hf=>obtain⟨h1,h2,h3,h4,h5⟩:=N6 hf;exact .ite (x (by decide)) (.lit (a:=k) (b:=1) (u:=1) (by decide) (by omega) (by decide) (by decide) (Nat.gcd_one_right k) (by decide)) (.bin (op:=5) (h:=0) (by decide) (fun _=>by show(0:Nat)≠2;decide) (.lit (a:=p) (b:=q) (u:=0) (by decide) h2 h3 h4 h5 (by decide)) (x (by decide))) (x (by decide))
 exact s.hi 0 (by decide) (by decide)
structure V9 (xs:List Int)(t1 t2 t3:Nat)(b:Bn)(f x:X)(n:Nat)(k:Kd):Prop where
 m1:CC P4 gl5 1 11 [.ptr 0 0] [(0,CQ xs 0)] (.ret (EY f)) [(0,some (CQ xs t1))]
 m2:CC P4 gl5 1 12 [.ptr 0 0] [(0,CQ xs t1)] (.ret (EV b)) [(0,some (CQ xs t2))]
 m3:CC P4 gl5 1 14 [.ptr 0 0,.int .i64 3] [(0,CQ xs t2)] (.ret (.int .i64 (.ofNat (n-1)))) [(0,some (CQ xs (t2+1)))]
 m4:CC P4 gl5 1 14 [.ptr 0 0,.int .i64 3] [(0,CQ xs (t2+1))] (.ret (.int .i64 (kIdx k))) [(0,some (CQ xs (t2+1+1)))]
 m5:CC P4 gl5 1 13 [.ptr 0 0,.int .i64 3,.int .i64 k.n,.bool true] [(0,CQ xs (t2+1+1))] (.ret x.av) [(0,some (CQ xs t3))]
def smB (xs:List Int)(t1 t2 t3:Nat)(b:Bn)(f x:X):List AV:=[Cj xs,.int .i64 (t1:Int),.int .u64 (stN xs t1),.int .i64 (t2:Int),.int .u64 (stN xs t2),.int .i64 ((t2+1:Nat):Int),.int .u64 (stN xs (t2+1)),.int .i64 ((t2+1+1:Nat):Int),.int .u64 (stN xs (t2+1+1)),.int .i64 (t3:Int),.int .u64 (stN xs t3),f.c0,f.c1,f.c2,f.c3,f.c4,f.c5]++([.str b.i0.t,.str b.i0.d,.str b.i1.t,.str b.i1.d,.str b.i2.t,.str b.i2.d,.str b.i3.t,.str b.i3.d,.str b.i4.t,.str b.i4.d,.str b.i5.t,.str b.i5.d,.str b.i6.t,.str b.i6.d,.str b.i7.t,.str b.i7.d,.str b.i8.t,.str b.i8.d]++[x.c0,x.c1,x.c2,x.c3,x.c4,x.c5])
structure Rd where
 y:X
 v:Vl
 t:Vl
 a:Int
 b:Int
def Rd.cs (r:Rd):List AV:=[r.y.c0,r.y.c1,r.y.c2,r.y.c3,r.y.c4,r.y.c5,AA r.v.sh,VG r.v,J1 r.v.dm,AA r.t.sh,VG r.t,J1 r.t.dm,.int .i64 r.a,.int .i64 r.b]
def smZ (w:Vl)(a b:Int):List AV:=[AA w.sh,VG w,J1 w.dm,.int .i64 a,.int .i64 b]
section
variable {xs:List Int}{t1 t2 t3:Nat}{b:Bn}{f x:X}{k:Kd}{n:Nat}
theorem AaX:Pls (smB xs t1 t2 t3 b f x):=G4 (all_cons (Qy xs)<|all_cons rfl<|all_cons rfl<|all_cons rfl<|all_cons rfl<|all_cons rfl<|all_cons rfl<|all_cons rfl<|all_cons rfl<|all_cons rfl<|all_cons rfl<|px f rfl) (G4 rfl (px x rfl))
theorem Aax:∀l:List Rd,Pls (l.flatMap Rd.cs)
 |[]=>rfl|r::l=>G4 (px r.y<|po r.v<|po r.t<|pi _<|pi _ rfl) (Aax l)
theorem pl_smZ (w:Vl)(a b:Int):Pls (smZ w a b):=po w<|pi _<|pi _ rfl
theorem V8 (h:V9 xs t1 t2 t3 b f x n k)(r:List AV):∀q∈smG n k,Bg (Af (smB xs t1 t2 t3 b f x++r)) (mpL []) q:=
 Aq (Aa (Ad UK rfl rfl)<|Aa (Ad Aa2 rfl rfl)<|Aa h.m1<|Aa (Ea h.m2 rfl rfl rfl rfl)<|Ac)
  (Aa (Ea h.m3 rfl rfl rfl rfl)<|Aa (Ea h.m4 rfl rfl rfl rfl)<|Aa (Ea h.m5 rfl rfl rfl rfl)<|Ac)
theorem Wf (r:List AV)(j:Nat):Af (smB xs t1 t2 t3 b f x++r) (41+j)=Af r j:=by unfold Af;rw[List.getElem?_append_right (show(smB xs t1 t2 t3 b f x).length≤41+j by show 41≤41+j;omega)];show(r[41+j-41]?).getD _=_;rw[Nat.add_sub_cancel_left]
theorem Yp {z:List AV} : ∀{l:List Rd} {i:Nat} {r:Rd},l[i]?=some r→∀j,j<14→Af (l.flatMap Rd.cs++z) (14*i+j)=Af r.cs j
 |[],i,r,h,_,_=>by simp at h
 |r0::l,0,r,h,j,hj=>by simp only[List.getElem?_cons_zero,zC]at h;subst h;unfold Af;rw[Nat.mul_zero,Nat.zero_add,List.flatMap_cons,List.append_assoc,List.getElem?_append_left (show j<r0.cs.length from hj)]
 |r0::l,i+1,r,h,j,hj=>by rw[List.getElem?_cons_succ]at h;have ih:=Yp (z:=z) h j hj;rw[←ih];unfold Af;rw[List.flatMap_cons,List.append_assoc,List.getElem?_append_right (show r0.cs.length≤14*(i+1)+j by show 14≤_;omega)];show(_[14*(i+1)+j-14]?).getD _=_;rw[show 14*(i+1)+j-14=14*i+j by omega]
theorem sig_z {z:List AV} : ∀(l:List Rd) (j:Nat),Af (l.flatMap Rd.cs++z) (14*l.length+j)=Af z j
 |[],j=>by simp
 |r0::l,j=>by have ih:=sig_z (z:=z) l j;rw[←ih];unfold Af;rw[List.flatMap_cons,List.append_assoc,List.getElem?_append_right (show r0.cs.length≤14*(r0::l).length+j by show 14≤_;simp only[List.length_cons];omega)];show(_[14*(l.length+1)+j-14]?).getD _=_;rw[show 14*(l.length+1)+j-14=14*l.length+j by omega]
theorem Nz {σ:Nat→AV}{v:Vl}(h0:σ a=AA v.sh)(h1:σ (a+1)=VG v)(h2:σ (a+2)=J1 v.dm):inst σ noT (smO a)=v.out:=by show AV.agg [σ a,σ (a+1),σ (a+1+1)]=_;rw[h0,h1,show a+1+1=a+2 from rfl,h2];rfl
theorem J7 {z:List AV}{l:List Rd}{i:Nat}{r:Rd}(h:l[i]?=some r)(j:Nat)(hj:j<14)(ha:a=41+(14*i+j)):Af (smB xs t1 t2 t3 b f x++(l.flatMap Rd.cs++z)) a=Af r.cs j:=by rw[ha,Wf,Yp h j hj]
section
variable {z:List AV}{l:List Rd}{i:Nat}{r:Rd}
theorem i_v (h:l[i]?=some r):inst (Af (smB xs t1 t2 t3 b f x++(l.flatMap Rd.cs++z))) noT (smO (47+14*i))=r.v.out:=Nz (J7 h 6 (by decide) (by omega)) (J7 h 7 (by decide) (by omega)) (J7 h 8 (by decide) (by omega))
theorem i_t (h:l[i]?=some r)(h0:i=0→r.t=r.v):inst (Af (smB xs t1 t2 t3 b f x++(l.flatMap Rd.cs++z))) noT (smO (smT i))=r.t.out:=by
 cases i with
 |zero=>rw[h0 rfl];exact i_v h
 |succ i=>exact Nz (J7 h 9 (by decide) (by simp only[smT];omega)) (J7 h 10 (by decide) (by simp only[smT];omega)) (J7 h 11 (by decide) (by simp only[smT];omega))
theorem i_y (h:l[i]?=some r):inst (Af (smB xs t1 t2 t3 b f x++(l.flatMap Rd.cs++z))) noT (.agg (sls (41+14*i) 6))=r.y.av:=by
 have e:∀j,j<6→Af (smB xs t1 t2 t3 b f x++(l.flatMap Rd.cs++z)) (41+14*i+j)=Af r.cs j:=fun j hj=>J7 h j (by omega) (by omega)
 have e0:=e 0 (by decide);have e1:=e 1 (by decide);have e2:=e 2 (by decide);have e3:=e 3 (by decide);have e4:=e 4 (by decide);have e5:=e 5 (by decide);show AV.agg [Af _ (41+14*i+0),Af _ (41+14*i+1),Af _ (41+14*i+2),Af _ (41+14*i+3),Af _ (41+14*i+4),Af _ (41+14*i+5)]=_;rw[e0,e1,e2,e3,e4,e5];rfl
theorem i_a (h:l[i]?=some r):Af (smB xs t1 t2 t3 b f x++(l.flatMap Rd.cs++z)) (53+14*i)=.int .i64 r.a:=J7 h 12 (by decide) (by omega)
theorem i_b (h:l[i]?=some r):Af (smB xs t1 t2 t3 b f x++(l.flatMap Rd.cs++z)) (54+14*i)=.int .i64 r.b:=J7 h 13 (by decide) (by omega)
theorem i_z (j:Nat)(ha:a=41+(14*l.length+j)):Af (smB xs t1 t2 t3 b f x++(l.flatMap Rd.cs++z)) a=Af z j:=by rw[ha,Wf,sig_z]
end
theorem L9 {R:List AV}{X:X}{A:AV}{s:Nat}{v:Vl}{c:Nat}{m:Int}(h:VF 16 [DN,EY f,EV b,X.av] (.ret (.tup [v.out,.int .i64 m,.int .i64 0])))(hx:inst (Af (smB xs t1 t2 t3 b f x++R)) noT A=X.av)(hv:inst (Af (smB xs t1 t2 t3 b f x++R)) noT (smO s)=v.out)(hm:Af (smB xs t1 t2 t3 b f x++R) c=.int .i64 m):Bg (Af (smB xs t1 t2 t3 b f x++R)) (mpL []) (lwEv A (smK s (.sel c))):=by
 refine Ad h ?_ ?_
 ·show[inst _ noT DN,inst _ noT PI,inst _ noT QO,inst _ noT A]=_;rw[hx];rfl
 ·show AB.ret (.tup [inst _ noT (smO s),Af _ c,.int .i64 0])=_;rw[hv,hm]
structure RdOk (b:Bn)(f x:X)(n i:Nat)(r:Rd):Prop where
 e1:VF 16 [DN,EY f,EV b,(X.at (.tab n x) (.lit [48+i] [49] ((i:Int),1) 0)).av] (.ret (.tup [r.v.out,.int .i64 r.a,.int .i64 0]))
 e2:VF 15 [x.av,.str nmI,smA i] (.ret (.tup [r.y.av,.int .i64 0]))
 e3:VF 16 [DN,EY f,EV b,r.y.av] (.ret (.tup [r.v.out,.int .i64 r.b,.int .i64 0]))
 e4:VF 17 [r.v.out,r.v.out] (.ret (.bool true))
theorem rd_ok {z:List AV}{l:List Rd}{i:Nat}{r:Rd}(h:RdOk b f x n i r)(hi:l[i]?=some r):∀q∈smF n i,Bg (Af (smB xs t1 t2 t3 b f x++(l.flatMap Rd.cs++z))) (mpL []) q:=
 Aa (L9 h.e1 rfl (i_v hi) (i_a hi))<|Aa (Ad h.e2 rfl (by
  show AB.ret (.tup [inst _ noT (.agg (sls (41+14*i) 6)),.int .i64 0])=_;rw[i_y hi]))<|Aa (L9 h.e3 (i_y hi) (i_v hi) (i_b hi))<|Aa (Ad h.e4 (by
  show[inst _ noT (smO (47+14*i)),inst _ noT (smO (47+14*i))]=_;rw[i_v hi]) rfl) Ac
structure AllOk (b:Bn)(f x:X)(n:Nat)(l:List Rd)(w:Vl)(a d:Int):Prop where
 len:l.length=n
 rd:∀i r,l[i]?=some r→RdOk b f x n i r
 t0:∀i r,l[i]?=some r→i=0→r.t=r.v
 ap:∀i r r',l[i]?=some r→l[i+1]?=some r'→VF 35 [.int .i64 3,r.t.out,r'.v.out] (.ret (.tup [r'.t.out,.int .i64 0]))
 tab:VF 16 [DN,EY f,EV b,(X.tab n x).av] (.ret (.tup [w.out,.int .i64 a,.int .i64 0]))
 last:∀r,l[n-1]?=some r→VF 16 [DN,EY f,EV b,(X.sum n x).av] (.ret (.tup [r.t.out,.int .i64 d,.int .i64 0]))∧VF 17 [r.t.out,r.t.out] (.ret (.bool true))
theorem Aaf {l:List Rd}{w:Vl}{a:Int}(h:AllOk b f x n l w a d)(hn:0<n):∀q∈Pg n,Bg (Af (smB xs t1 t2 t3 b f x++(l.flatMap Rd.cs++smZ w a d))) (mpL []) q:=by
 have get:∀i,i<n→∃r,l[i]?=some r:=fun i hi=>⟨_,zK (by rw[h.len];exact hi)⟩
 refine Aq ?_ (Aq (fun q hq=>?_) fun q hq=>?_)
 ·obtain⟨r,hr⟩:=get (n-1) (by omega);obtain⟨g1,g2⟩:=h.last r hr;have ht:=i_t (xs:=xs) (t1:=t1) (t2:=t2) (t3:=t3) (b:=b) (f:=f) (x:=x) (z:=smZ w a d) hr (h.t0 _ r hr);have hl:=h.len;refine Aa (L9 h.tab rfl (Nz (i_z 0 (by omega)) (i_z 1 (by omega)) (i_z 2 (by omega))) (i_z 3 (by omega)))<|Aa (L9 g1 rfl ht (i_z 4 (by omega)))<|Aa (Ad g2 ?_ rfl) Ac;show[inst _ noT (smO (smT (n-1))),inst _ noT (smO (smT (n-1)))]=_;rw[ht]
 ·obtain⟨i,hi,hq⟩:=List.mem_flatMap.1 hq;obtain⟨r,hr⟩:=get i (zQ.1 hi);exact rd_ok (h.rd i r hr) hr q hq
 ·obtain⟨i,hi,rfl⟩:=List.mem_map.1 hq;have hi:=zQ.1 hi;obtain⟨r,hr⟩:=get i (by omega);obtain⟨r',hr'⟩:=get (i+1) (by omega);refine Ad (h.ap i r r' hr hr') ?_ ?_
  ·show[AV.int .i64 3,inst _ noT (smO (smT i)),inst _ noT (smO (61+14*i))]=_;rw[i_t hr (h.t0 i r hr),show 61+14*i=47+14*(i+1) by omega,i_v hr']
  ·show AB.ret (.tup [inst _ noT (smO (smT (i+1))),.int .i64 0])=_;rw[i_t hr' (h.t0 _ r' hr')]
theorem sm_ok {l:List Rd}{w:Vl}{a:Int}(hm:V9 xs t1 t2 t3 b f x n k)(h:AllOk b f x n l w a d)(hn:1≤n)(hn4:n≤4)(hk:k∈F4):AG P4 gl5 8 [Cj xs] (.bool true):=by
 have hr:RJ 8 (smB xs t1 t2 t3 b f x++(l.flatMap Rd.cs++smZ w a d)) (smG n k++Pg n) []=true:=by
  have:n=1∨n=2∨n=3∨n=4:=by omega
  rcases this with rfl|rfl|rfl|rfl
  ·exact zB.1 (r_sm1 _) k hk
  ·exact zB.1 (r_sm2 _) k hk
  ·exact zB.1 (r_sm3 _) k hk
  ·exact zB.1 (r_sm4 _) k hk
 exact WN (G4 AaX (G4 (Aax l) (pl_smZ w a d))) hr (Aq (V8 hm _) (Aaf h hn)) Ac
theorem sm_er {er:Nat}(hm:V9 xs t1 t2 t3 b f x n k)(h0:er≠0)(h:VF 16 [DN,EY f,EV b,(X.tab n x).av] (.ret (.tup [V7,.int .i64 0,.int .i64 (.ofNat er)])))(hn:n∈n4s)(hk:k∈F4):AG P4 gl5 8 [Cj xs] (.bool true):=by have hr:=zB.1 (zB.1 (r_smE (smB xs t1 t2 t3 b f x++[.int .i64 (.ofNat er)])) n hn) k hk;exact WN (G4 AaX (pi _ rfl)) hr (Aq (V8 hm _) (Aa (Ad h rfl rfl) Ac)) (Aa (Cq (.ofNat er) 0 rfl rfl rfl (by simp[BH,inst,h0]))<|Ac)
end
theorem kd_idx (h0:0≤d)(h3:d≤3):∃k∈F4,d=kIdx k:=by
 have:d=0∨d=1∨d=2∨d=3:=by omega
 rcases this with rfl|rfl|rfl|rfl
 ·exact⟨.pl,by decide,rfl⟩
 ·exact⟨.m,by decide,rfl⟩
 ·exact⟨.m3,by decide,rfl⟩
 ·exact⟨.ms,by decide,rfl⟩
theorem ZA (xs:List Int):AG P4 gl5 8 [Cj xs] (.bool true):=by
 obtain⟨f,t1,hf,_,ht1,m1⟩:=XB xs 0 (by decide);obtain⟨b,t2,hb,⟨hs1,hs2⟩,_,ht2,m2⟩:=Uc xs t1 (by omega);have hr:=EJ xs t2 3;have hr2:=EJ xs (t2+1) 3;have m3:=g_up xs t2 3 (by omega) (by decide);have m4:=g_up xs (t2+1) 3 (by omega) (by decide);obtain⟨n,hn1,hn4,hn⟩:∃n:Nat,1≤n∧n≤4∧Gu xs t2 3=.ofNat (n-1):=⟨(Gu xs t2 3).toNat+1,by omega,by omega,by rw[Nat.add_sub_cancel];exact(Int.toNat_of_nonneg hr.1).symm⟩;obtain⟨k,hk,hd⟩:=kd_idx hr2.1 hr2.2;rw[hn]at m3;rw[hd]at m4;obtain⟨x,t3,_,ht3,gx,m5⟩:=typed3 xs k true (t2+1+1) (by omega);have made:V9 xs t1 t2 t3 b (EU f) x n k:=⟨m1,m2,m3,m4,m5⟩;have he:=Yu hb hf;have hz:=Aa0 hb hf;have hl:M5 (b.en (EU f)):=⟨⟨_,rfl,hs1⟩,⟨_,rfl,hs2⟩⟩;have wf:=AeH hf;obtain⟨tx,sx⟩:Ty 2 true k x∧Sh 3 x:=gx;have hn0:n∈n4s:=by
  have:n=1∨n=2∨n=3∨n=4:=by omega
  rcases this with rfl|rfl|rfl|rfl<;>decide
 have wx1:=sx.hi 1 (by decide) (by decide);have wx2:=sx.hi 2 (by decide) (by decide);have wt:=YM (d:=0) (by decide) (by decide) hn0 wx1;have wu:=w_sum (d:=0) (by decide) (by decide) hn0 wx1;have wt1:=YM (d:=1) (by decide) (by decide) hn0 wx2;rcases Aak he hz hl tx sx hn1 hn4 with⟨er,h0,h1⟩|⟨l,n1,h1,h2,h3,h4,h5⟩
 ·exact sm_er made h0 (eval_err hb wf wt h0 h1) hn0 hk
 ·have vo:∀v∈l,VOk k v:=fun v hv=>(h2 v hv).1
  have so:∀v∈l,SzV (G 2 C1) v:=fun v hv=>(h2 v hv).2
  have one:(1:Nat)≤G 2 C1:=by decide
  have tk:∀i,i<n→VOk k (EW k (l.take (i+1))):=fun i hi=>(VZ one NC (fun v hv=>vo v (List.mem_of_mem_take hv)) (fun v hv=>so v (List.mem_of_mem_take hv)) (by rw[List.length_take];omega) (by rw[List.length_take];omega)).2
  have ex:∀i,∃p:Int×Int,∀v,l[i]?=some v→Ev (b.en (EU f)) 1 [] 0 (.at (.tab n x) (.lit [48+i] [49] ((i:Int),1) 0)) (.ok (v,p.1))∧Ev (b.en (EU f)) 1 [] 0 (Al i x) (.ok (v,p.2)):=fun i=>by
   cases hi:l[i]? with
   |none=>exact⟨(0,0),nofun⟩|some v=>obtain⟨m,m',q⟩:=h5 i v hi;exact⟨(m,m'),fun v' hv'=>by cases hv';exact q⟩
  let mk:Nat→Rd:=fun i=>⟨Al i x,(l[i]?).getD ⟨[],[],.pl⟩,EW k (l.take (i+1)),(Classical.choose (ex i)).1,(Classical.choose (ex i)).2⟩
  have get:∀i r,((List.range n).map mk)[i]?=some r→i<n∧r=mk i:=fun i r hr=>by
   rw[List.getElem?_map,Option.map_eq_some_iff]at hr;obtain⟨j,hj,rfl⟩:=hr;have hi:i<n:=by have:=(zN.1 hj).1;rwa[List.length_range]at this
   rw[List.getElem?_range hi]at hj;cases hj;exact⟨hi,rfl⟩
  refine sm_ok (l:=(List.range n).map mk) (w:=C3 l) (a:=n1) (d:=n1) made ⟨by simp,?_,?_,?_,eval_okS hb wf wt hk vo (by omega) (by omega) h3,?_⟩ hn1 hn4 hk
  ·intro i r hr;obtain⟨hi,rfl⟩:=get i r hr;have hv:l[i]?=some l[i]:=zK (by omega);have q:=Classical.choose_spec (ex i) _ hv;have ev:(mk i).v=l[i]:=by show(l[i]?).getD _=_;rw[hv];rfl
   have vi:=vo _ (List.getElem_mem (l:=l) (n:=i) (by omega));have sr:=WJ sx (i:=i) (by omega);refine⟨?_,Uw sx (by omega),?_,?_⟩
   ·rw[ev];exact eval_ok hb wf (w_at (by decide) (by decide) wt1 (w_lit (by decide) (by decide) (a:=i) (u:=0) (by omega) (by decide) (F6 (a:=i) (b:=1) (by omega) (by decide) (by decide) (Nat.gcd_one_right i)).chk)) vi q.1
   ·rw[ev];exact eval_ok hb wf (sr.hi 0 (by decide) (by decide)) vi q.2
   ·rw[ev];exact eq_self hk vi
  ·intro i r hr hi;obtain⟨hin,rfl⟩:=get i r hr;subst hi;have hv:l[0]?=some l[0]:=zK (by omega);show EW k (l.take 1)=(l[0]?).getD _;rw[hv,List.take_add_one,hv];exact Z8 (vo _ (List.getElem_mem (by omega)))
  ·intro i r r' hr hr';obtain⟨hi,rfl⟩:=get i r hr;obtain⟨hi',rfl⟩:=get (i+1) r' hr';have hv:l[i+1]?=some l[i+1]:=zK (by omega);have ev:(mk (i+1)).v=l[i+1]:=by show(l[i+1]?).getD _=_;rw[hv];rfl
   have vi:=vo _ (List.getElem_mem (l:=l) (n:=i+1) (by omega));have e:l.take (i+1+1)=l.take (i+1)++[l[i+1]]:=by rw[List.take_add_one,hv];rfl
   have ts:=Aav (k:=k) one NC (l:=l.take (i+1)) (v:=l[i+1]) (by intro h;have:=congrArg List.length h;rw[List.length_take,List.length_nil]at this;omega) vi (by rw[←e];exact fun v hv=>so v (List.mem_of_mem_take hv)) (by rw[←e,List.length_take];omega);rw[←e]at ts;rw[ev];exact app_ok hk (tk i hi) vi (tk (i+1) hi') ts
  ·intro r hr;obtain⟨hi,rfl⟩:=get _ r hr;have e:EW k (l.take (n-1+1))=EW k l:=by rw[show n-1+1=n by omega,←h1,List.take_length]
   have vt:=tk (n-1) hi;show VF 16 _ (.ret (.tup [(EW k (l.take (n-1+1))).out,_,_]))∧VF 17 [(EW k (l.take (n-1+1))).out,(EW k (l.take (n-1+1))).out] _;rw[e]at vt ⊢;exact⟨eval_ok hb wf wu vt h4,eq_self hk vt⟩
end Go.Ev
namespace Go.Ev
open Go Go.Ab Go.Nb Go.E4 Go.RowKit Go.Proofs Go.Proofs.YtecmlmofhabonaaGreatDoor
set_option maxRecDepth 1000000
variable {W:World}
abbrev kl:List (String×DataW Unit):=Rows.evalStepsRow.laid
abbrev CG:Value:=.iface 311 (.agg #[.pointer (some ⟨9,165,none⟩)])
theorem et:Tryz.prog.globalNamed "errors.errorType" = some 0:=by kernel_rfl
theorem rt:(Tryz.prog.cutTypes.find? (·.1 == "internal/reflectlite.rtype")).map (·.2)=some 311:=by kernel_rfl
theorem oneRow:((List.range Tryz.prog.types.size).filter fun t=>Tryz.prog.rowNamed t [101,114,114,111,114])=[165]:=by kernel_rfl
theorem FJ (h:laidMetH Tryz.prog kl W):W.var? Tryz.prog "errors.errorType" = some #[CG]:=by
 obtain⟨_,h2⟩:=laidMetH_iff.1 h;have hmem:("errors.errorType",Rows.laid_errors_errorType)∈kl.filter fun x=>x.2.handleName?.isSome:=by rw[show(kl.filter fun x=>x.2.handleName?.isSome)=[("errors.errorType",Rows.laid_errors_errorType)] by kernel_rfl];exact List.mem_singleton.2 rfl
 obtain⟨name,u,ty,e1,e2,e3,e4,e5⟩:=h2 _ hmem;have en:name=[101,114,114,111,114]:=(Option.some.inj e1).symm;subst en;obtain rfl:=Option.some.inj (rt.symm.trans e2);have hm:ty∈(List.range Tryz.prog.types.size).filter fun t=>Tryz.prog.rowNamed t [101,114,114,111,114]:=List.mem_filter.2 ⟨zQ.2 e3,e4⟩
 rw[oneRow]at hm;obtain rfl:=List.mem_singleton.1 hm;have hh:typeHandle Tryz.prog 165=.pointer (some ⟨9,165,none⟩):=by kernel_rfl
 rw[hh]at e5;exact e5
theorem laid5:(Rows.laid_internal_strconv_uint64pow10:DataW Unit)=Lib.tabData .u64 Lib.pow10Tab:=by kernel_rfl
theorem Ls (h:laidMetH Tryz.prog kl W):∃cs,W.var? Tryz.prog "internal/strconv.uint64pow10" = some cs∧cs.toList=Lib.pow10Tab.map fun z=>Value.int .u64 z:=by
 obtain⟨h1,_⟩:=laidMetH_iff.1 h;have hmem:("internal/strconv.uint64pow10",Rows.laid_internal_strconv_uint64pow10)∈kl.filter fun x=>x.2.handleName?.isNone:=by refine List.mem_filter.2 ⟨?_,by kernel_rfl⟩;exact zO _ (zO _ (List.mem_cons_self ..))
 obtain⟨g,t,cs,fuel,p,hg,hty,hvar,hd⟩:=Go.Lib.laidMet.reads h1 hmem;obtain rfl:=Option.some.inj (MZ.symm.trans hg);obtain rfl:=Option.some.inj ((show(Tryz.prog.globals[5]?).map (·.type)=some 473 by kernel_rfl).symm.trans hty);rw[laid5]at hd;exact⟨cs,hvar,Lib.cells_of_tab (n:=20) (e:=77) (show Tryz.prog.underlying 473=some (.array 20 77) by kernel_rfl) (show Tryz.prog.underlying 77=some (.int .u64) by kernel_rfl) (by kernel_rfl) (by kernel_rfl) hd⟩
def fz0 (b:Nat):Prop:=b=0∨b=5
theorem globs:Wz.list=[(0,[.raw CG]),(5,Lib.pow10Tab.map fun z=>AV.int .u64 z)]:=by kernel_rfl
theorem E2 {P:Program}{n:String}{g:Nat}{cs:Array Value}(hg:P.globalNamed n=some g)(h:W.var? P n=some cs):Whole W g cs.size:=by
 simp only[World.var?,hg,Option.bind_some]at h;split at h
 ·rename_i c e fr hh;simp only[zC]at h;subst h;exact⟨_,e,fr,hh,rfl⟩
 ·cases h
theorem Adc (h:laidMetH Tryz.prog kl W)(kc:KC)(fz:Nat→Prop)(hf:∀b,fz0 b→fz b):VN gl5 ⟨fun _=>none,fz,kc⟩ W:=by
 obtain⟨cs,h1,h2⟩:=Ls h;have h0:VRC ⟨fun _=>none,fz,kc⟩ W 0 [.raw CG] 0:=by simp only[VRC,VR,and_true];exact⟨_,by simpa using World.var?_cell et (FJ h) 0,rfl⟩
 have h6:VRC ⟨fun _=>none,fz,kc⟩ W 5 (Lib.pow10Tab.map fun z=>AV.int .u64 z) 0:=by
  refine VRC.Dd fun i x hx=>?_
  rw[List.getElem?_map,Option.map_eq_some_iff]at hx;obtain⟨z,hz,rfl⟩:=hx;refine⟨.int .u64 z,?_,by simp only[VR]⟩;rw[Nat.zero_add,World.var?_cell MZ h1 i,←Array.getElem?_toList,h2,List.getElem?_map,hz];rfl
 intro g cells hc;have hm:(g,cells)∈Wz.list:=T.FL (t:=Wz) (k:=AE) hc;rw[globs]at hm;simp only[zH,List.not_mem_nil,or_false]at hm;rcases hm with e|e<;>cases e
 ·exact⟨hf _ (.inl rfl),h0,E2 et (FJ h)⟩
 ·refine⟨hf _ (.inr rfl),h6,?_⟩;have:=E2 MZ h1;rw[←Array.length_toList,h2,List.length_map]at this;rw[List.length_map];exact this
theorem Yw (h:laidMetH Tryz.prog kl W):∀b,fz0 b→b<W.heap.size:=by
 have key:∀(b n:Nat),Whole W b n→b<W.heap.size:=fun b n ⟨_,_,_,hv,_⟩=>(Array.getElem?_eq_some_iff.1 hv).1
 rintro b (rfl|rfl)
 ·exact key _ _ (E2 et (FJ h))
 ·obtain⟨cs,h1,_⟩:=Ls h;exact key _ _ (E2 MZ h1)
noncomputable def laid0 (os:Os):World:=
 let w:=World.holding Tryz.prog os ⟨#[],#[],[]⟩
 { w with heap:=w.heap.modify 0 fun
  |.cells _ t fr=>.cells #[CG] t fr|o=>o }
abbrev kd:List (String×DataW Unit):=kl.filter fun x=>x.2.handleName?.isNone
abbrev kn:List String:=["math/bits.deBruijn32tab", "math/bits.deBruijn64tab", "internal/strconv.uint64pow10", "unicode/utf8.acceptRanges", "strconv.ErrRange", "strconv.ErrSyntax", "unicode/utf8.first"]
noncomputable def Y3 (os:Os):World:=(laid0 os).layVars Tryz.prog (kd.filter fun x=>kn.contains x.1)
theorem kd_all:(kd.filter fun x=>!kn.contains x.1)=[]:=by kernel_rfl
theorem Yi (os:Os)(args:Array Value):laidMetH Tryz.prog kl ((Y3 os).forCall (fun _ _=>0) ⟨#[],args,[]⟩).memory:=by refine laidMetH_of_parts ?_ (by kernel_rfl);have h:laidMet Tryz.prog kd (Y3 os):=laidMet_layVars (w0:=laid0 os) kn [] rfl (by kernel_rfl) (by kernel_rfl) (by rw[kd_all];exact LaidIn.none);exact h.of_heap (by simp[World.memory,World.forCall,Input.heap])
end Go.Ev
namespace Go.Proofs.YtecmlmofhabonaaGreatDoor
open Go Go.Ab Go.Nb Go.E4 Go.Ev Go.Ro Go.ChangeShapes Go.WideShapes Go.RowKit Go.Conc
set_option maxRecDepth 1000000
variable {v:Value}
theorem Oi {w w':World}(e:Below w.heap.size w w'){may:MemPlace→Prop} : w.keptBut w' may:=by
 refine⟨e.os,e.output,fun i hi=>?_⟩;rw[e.block i hi];cases w.heap[i]? with
 |none=>rfl|some x=>cases x<;>first|exact⟨rfl,rfl,rfl,fun _ _=>rfl⟩|exact .inr ⟨rfl,rfl⟩|rfl
theorem XH {w:World}{a:Addr}(h:w.cell? a=some v):a.spot=none:=by
 unfold World.cell? at h;split at h
 ·cases hs:a.spot with
  |none=>rfl|some s=>simp[hs]at h
 ·simp at h
theorem X3 {W:World}(h:laidMetH Tryz.prog kl W){f:FuncId}{xs:List Int}(hL:AG P4 gl5 f [Cj xs] (.bool true)){fz:Nat→Prop}(hf:∀b,fz0 b→fz b)(hlt:∀b,fz b→b<W.heap.size)
 (hv:∀kc:KC,VR ⟨fun _=>none,fz,kc⟩ W (Cj xs) v):Calls Tryz.prog f #[v] W fun e W'=>e=.returned (.bool true)∧Below W.heap.size W W':=by
 refine(hL ⟨fun _=>none,fz,⟨P4.cellsOf,Di.env.sel,Di.env.tok,Di.env.str,Di.env.mp⟩⟩ W #[v] rfl (fun _=>rfl) hlt (Adc h _ fz hf) ⟨v,[],rfl,hv _,rfl⟩).mono ?_;rintro e W' ⟨u,rfl,hb,hu⟩;simp only[VR]at hu;subst hu;exact⟨rfl,hb⟩
theorem Tryz.own:ownKnob Tryz.prog.godebug=none:=by kernel_rfl
theorem AbH:Tryz.prog.cellsOf 3=1:=by kernel_rfl
theorem Xj {H:Type}{enc:TypeId×Value→H}{W:World}(h:laidMetH Tryz.prog kl W)(hvs:∃a len cap,v=.slice a len cap){d:DataW H}{p:List MemPlace}(hd:DataW.Trod enc Tryz.prog W 0 (fun _=>true) true 22 v d p) :
 ∃(xs:List Int) (fz:Nat→Prop),(∀b,fz0 b→fz b)∧(∀b,fz b→b<W.heap.size)∧(∀kc:KC,VR ⟨fun _=>none,fz,kc⟩ W (Cj xs) v)∧
  ∀W':World,(∀b,b<W.heap.size→W'.heap[b]?=W.heap[b]?)→DataW.Trod enc Tryz.prog W' 0 (fun b=>decide (b<W.heap.size)) true 22 v d p:=by
 obtain⟨a0,l0,c0,rfl⟩:=hvs;obtain⟨fuel,hd⟩:=hd;rcases open_ints Tryz.underlying22 Tryz.underlying3 AbH hd with⟨h1,h2⟩|⟨a,len,cap,zs,h1,hb,hl,hm,hz,h2,CG,hw⟩
 ·have e:Value.slice a0 l0 c0=.slice none 0 0:=by simpa[Value.cells]using h1
  rw[e];cases h2;exact⟨[],fz0,fun _ h=>h,Yw h,fun kc=>by simp only[Cj,VR];exact⟨none,0,rfl,fun _=>rfl⟩,fun W' _=>shut_slice_nil Tryz.underlying22⟩
 ·have e:Value.slice a0 l0 c0=.slice (some a) len cap:=by simpa[Value.cells]using h1
  rw[e];have hz:zs.length=cap:=by simpa using hz
  cases h2;have hlt:0<zs.length→a.block<W.heap.size:=fun h0=>by
   have hc:=CG 0 h0;rcases Nat.lt_or_ge a.block W.heap.size with hh|hh
   ·exact hh
   ·have hbl:(a.add 0).block=a.block:=block_add a 0;simp[World.cell?,hbl,Array.getElem?_eq_none hh]at hc
  refine⟨zs.take len,fun b=>fz0 b∨(0<zs.length∧b=a.block),fun _ h=>.inl h,?_,fun kc=>?_,fun W' hW=>?_⟩
  ·rintro b (hb'|⟨h0,rfl⟩)
   ·exact Yw h b hb'
   ·exact hlt h0
  ·cases hx:zs.take len with
   |nil=>
    have h0:len=0:=by have:=congrArg List.length hx;rw[List.length_take,List.length_nil]at this;omega
    subst h0;simp only[Cj,VR];exact⟨some a,cap,rfl,nofun⟩
   |cons x xs=>
    have hln:len=xs.length+1:=by have:=congrArg List.length hx;rw[List.length_take,List.length_cons]at this;omega
    have hpos:0<zs.length:=by omega
    have hc:=CG 0 hpos;have hsp:a.spot=none:=by
     have:=XH hc;unfold Addr.add at this;split at this
     ·exact this
     ·simp_all
    have ha:a=⟨a.block,a.off,none⟩:=by cases a;simp at hsp;subst hsp;rfl
    simp only[Cj,VR];refine⟨a.block,a.off,cap,by rw[←ha,hln],by omega,nofun,.inr ⟨hpos,rfl⟩,VRC.Dd fun i y hy=>?_⟩;rw[List.getElem?_map,Option.map_eq_some_iff]at hy;obtain⟨z,hz',rfl⟩:=hy;rw[←hx,List.getElem?_take]at hz';split at hz';case isFalse=>cases hz'
    have hi:i<zs.length:=(zN.1 hz').1;have:=CG i hi;rw[ha,add_plain]at this;refine⟨_,this,?_⟩;simp only[VR];rw[List.getD,hz'];rfl
  ·refine⟨2,?_⟩;have:=shut_ints (enc:=enc) (P:=Tryz.prog) (w:=W') (base:=0) (spare:=fun b=>decide (b<W.heap.size)) (held:=true) (t:=22) (a:=a) (len:=len) (cap:=cap) (zs:=zs) 0 Tryz.underlying22 Tryz.underlying3 AbH (Nat.zero_le _) hl hm (by
    by_cases h0:0<zs.length
    ·rw[if_pos (by simpa using hlt h0)];exact hz
    ·split<;>omega) (fun i hi=>by rw[←CG i hi];have hbl:(a.add i).block=a.block:=block_add a i;simp only[World.cell?,hbl,hW _ (hlt (by omega))]) hw
   exact this
end Go.Proofs.YtecmlmofhabonaaGreatDoor
end
