/- Operations on values, told of all numbers within the bounds. -/
import Derived.Test.YtecmlmofhabonaaGreatDoorSRead
import Derived.Test.YtecmlmofhabonaaGreatDoorSNode7
noncomputable section
namespace Go.Ev
open Go Go.Ab Go.Nl Go.Nb Go.RowKit Go.Proofs Go.E4
set_option maxRecDepth 1000000
variable {k:Kd}
noncomputable def Px (l:List AV)(facts:List OF)(bins:List NB)(slens:List (Nat×AV))(f:FuncId)(args:List AV)(r:AB):Bool:=facts.all (fun q=>BZ q.N q.args q.l q.res q.u)&&BQ (GW l [] facts bins [] slens) 4000 80 0 f args [] r []
theorem GS {l:List AV}(hl:Pls l){facts:List OF}{bins:List NB}{slens:List (Nat×AV)}(hf:∀q∈facts,Bg (Af l) (mpL []) q)(hb:∀q∈bins,Ds (Af l) q)(hs:∀q∈slens,Um (Af l) q){f:FuncId}{args A:List AV}{r R:AB}(h:Px l facts bins slens f args r=true)(hA:Ai (Af l) noT args=A)(hR:Bk (Af l) noT r=R):VF f A R:=by subst hA hR;unfold Px at h;simp only[zA]at h;exact Gq hl (mu:=[]) rfl h.1 hf hb Ac hs h.2
abbrev Abn (z:Int):AV:=.str ((FI z).map UInt8.toNat)
theorem Aa5 (z:Int):FI z=Bq (z.natAbs:Int):=by
 unfold FI Bq;by_cases h0:z=0
 ·subst h0;rfl
 ·rw[if_neg h0,if_neg (show((z.natAbs:Nat):Int)≠0 by omega),if_neg (show ¬((z.natAbs:Nat):Int)<0 by omega),Int.natAbs_natCast,List.nil_append]
theorem WY (z:Int):Lib.trimPrefix (Bq z) [45]=FI z:=by
 have h:=KE z;have hp:=OZ (z:=z);by_cases h0:z<0
 ·rw[h];simp only[h0,decide_true,cond_true];exact Nq _
 ·rw[zL h0]at h hp;rw[cond_false]at h;rw[←h];unfold Lib.trimPrefix;rw[hp];rfl
theorem f_trim (z:Int):AG P4 gl5 343 [AU z,.str [45]] (Abn z):=by intro k w vs _ _ _ hg hv;obtain⟨v,u,rfl,q1,q2⟩:=Da hv;rw[Ql q1,Ql (l:=[45]) q2];refine(Tryz.strings_TrimPrefix _ _ _).mono ?_;rintro e w' ⟨rfl,rfl⟩;refine⟨_,rfl,Below.refl _ _,?_⟩;rw[show Lib.trimPrefix (ByteArray.mk (Bq z).toArray).data.toList (ByteArray.mk [45].toArray).data.toList=FI z from WY z];simp only[VR];exact⟨_,rfl,by simp⟩
theorem r_chkW (l:List AV):Px l [vq 342 [.sel 0] (.ret (.bool true)),vq 343 [.sel 0,.str [45]] (.ret (.sel 1)),vq 181 [.sel 0] (.ret (Ag 3 4))] [⟨.gtr,.sel 2,.int .i64 400,.bool false⟩] [(1,.sel 2)] 216 [.sel 0] (.ret (.int .i64 0))=true:=by kernel_rfl
theorem NU {z:Int}(h:Fits 400 z):VF 181 [AU z] (.ret (AL z)):=VF.of5 (f_read h) (by kernel_rfl) (by simp[BJ,Bp,AL,AT,Aw,Fe])
theorem Yn {z:Int}(h:JI z=true):VF 216 [AU z] (.ret (.int .i64 0)):=by
 have hz:=Dl h;refine GS (l:=[AU z,Abn z,.int .i64 ((FI z).length:Nat),sg z,lm z]) (ps _<|ps _<|pi _<|all_cons rfl<|all_cons (Ah _) rfl)
  (Aa (Ad (VF.of5 (f_form (Aj (by decide) hz)) (by kernel_rfl) rfl) rfl rfl)<|Aa (Ad (VF.of5 (f_trim z) (by kernel_rfl) rfl) rfl rfl)<|Aa (Ad (NU (Aj (by decide) hz)) rfl rfl) Ac)
  (Aa (Cq ((FI z).length:Nat) 400 rfl rfl rfl ?_) Ac) (Aa ⟨rfl,_,rfl,.inl ⟨by decide,by simp[inst,Af]⟩⟩ Ac) (r_chkW _) rfl rfl
 have:(FI z).length≤400:=by rw[Aa5];exact of_decide_eq_true h
 simp only[BH,inst,decide_true,cond_true,gt_iff_lt];rw[zL (by omega)]
theorem r_chkR (l:List AV):Px l [vq 216 [.sel 0] (.ret (.int .i64 0)),vq 216 [.sel 1] (.ret (.int .i64 0)),vq 181 [.sel 0] (.ret (Ag 2 3)),vq 181 [.sel 1] (.ret (Ag 4 5)),vq 218 [Ag 2 3,Ag 4 5] (.ret (nzA 1))] [⟨.eql,.sel 6,.int .u8 45,.bool false⟩,⟨.eql,.sel 1,.str [48],.bool false⟩] [(1001,.sel 6)] 112 [.agg [.sel 0,.sel 1]] (.ret (.int .i64 0))=true:=by kernel_rfl
theorem Uv {q:Q}(h:Ok q):VF 112 [.agg [AU q.1,AU q.2]] (.ret (.int .i64 0)):=by
 have hf:=h.1;unfold Cf at hf;simp only[zA]at hf;have h1:=Dl hf.1;have h2:=Dl hf.2;obtain⟨c,r,e1,e2,e3,_⟩:=GM h2 (by decide);rw[if_neg (by have:=h.2.1;omega),List.nil_append]at e1;have hc:=e2 c (List.mem_cons_self ..);have hg:VF 218 [AL q.1,AL q.2] (.ret (nzA 1)):=by have:=VF.of (J0 (x:=q.1) (y:=q.2) (Aj (by decide) h1) (Aj (by decide) h2)) (by kernel_rfl) (by simp[BJ,Bp,AL,AT,Aw,Fe]);rw[h.2.2,show((1:Nat):Int)=1 from rfl,show AL 1=nzA 1 from GH (by decide)]at this;exact this
 refine GS (l:=[AU q.1,AU q.2,sg q.1,lm q.1,sg q.2,lm q.2,.int .u8 (c.toNat:Nat)]) (ps _<|ps _<|pq q<|all_cons rfl rfl)
  (Aa (Ad (Yn hf.1) rfl rfl)<|Aa (Ad (Yn hf.2) rfl rfl)<|Aa (Ad (NU (Aj (by decide) h1)) rfl rfl)<|Aa (Ad (NU (Aj (by decide) h2)) rfl rfl)<|Aa (Ad hg rfl rfl) Ac)
  (Aa ⟨rfl,.inl ⟨_,_,_,_,rfl,rfl,?_⟩⟩<|Aa ⟨rfl,.inr (.inl ⟨_,_,rfl,rfl,?_⟩)⟩ Ac) (Aa ⟨rfl,_,rfl,.inr ⟨c.toNat,?_,by decide,rfl⟩⟩ Ac) (r_chkR _) rfl rfl
 ·have:((c.toNat:Nat):Int)≠45:=by have:=hc.1;omega
  simp[BH,inst,this]
 ·have hne:Ak ((Bq q.2).map UInt8.toNat) [48]=false:=by rw[Bool.eq_false_iff];intro e;have e4:=EL _ _ e;rw[e1]at e4;simp only[List.map_cons,List.cons.injEq,List.map_eq_nil_iff]at e4;have:c=48:=UInt8.toNat_inj.1 (by rw[e4.1];rfl);have:=(e3 this).1;have:=h.2.1;omega
  show some (AV.bool (Ak ((Bq q.2).map UInt8.toNat) [48]))=_;rw[hne];rfl
 ·rw[e1];rfl
theorem r_ofR (l:List AV):Px l [vq 181 [.sel 0] (.ret (Ag 2 3)),vq 181 [.sel 1] (.ret (Ag 4 5))] [] [] 123 [.agg [.sel 0,.sel 1]] (.ret (.agg [.sel 2,.sel 3,.sel 4,.sel 5]))=true:=by kernel_rfl
theorem Ys {q:Q}(h:Ok q):VF 123 [.agg [AU q.1,AU q.2]] (.ret (BF q)):=by
 have hf:=h.1;unfold Cf at hf;simp only[zA]at hf;exact GS (l:=[AU q.1,AU q.2,sg q.1,lm q.1,sg q.2,lm q.2]) (ps _<|ps _<|pq q rfl)
  (Aa (Ad (NU (Aj (by decide) (Dl hf.1))) rfl rfl)<|Aa (Ad (NU (Aj (by decide) (Dl hf.2))) rfl rfl) Ac) Ac Ac (r_ofR _) rfl rfl
theorem Jj {n:Nat}(h0:0<n)(h:n<10):Bq (n:Int)=[UInt8.ofNat (48+n)]∧Bq (-(n:Int))=[45,UInt8.ofNat (48+n)]:=by
 have hd:Ae n=[n]:=Jg h0 (by have:B=1000000000:=rfl;omega);have hs:Lib.decDigits n=[UInt8.ofNat (48+n)]:=by rw[Lib.decDigits,dif_pos h]
 constructor
 ·unfold Bq;rw[if_neg (by omega),if_neg (by omega),Int.natAbs_natCast,hd];show[]++(Lib.decDigits n++[])=_;rw[hs];rfl
 ·unfold Bq;rw[if_neg (by omega),if_pos (by omega),Int.natAbs_neg,Int.natAbs_natCast,hd];show[45]++(Lib.decDigits n++[])=_;rw[hs];rfl
theorem tx1:(Bq 1).map UInt8.toNat=[49]:=congrArg (List.map UInt8.toNat) (Jj (n:=1) (by decide) (by decide)).1
theorem tx2:(Bq 2).map UInt8.toNat=[50]:=congrArg (List.map UInt8.toNat) (Jj (n:=2) (by decide) (by decide)).1
theorem txm:(Bq (-1)).map UInt8.toNat=[45,49]:=congrArg (List.map UInt8.toNat) (Jj (n:=1) (by decide) (by decide)).2
theorem s1:AU 1=.str [49]:=congrArg AV.str tx1
theorem s2:AU 2=.str [50]:=congrArg AV.str tx2
theorem sm:AU (-1)=.str [45,49]:=congrArg AV.str txm
def odL:Dm→AV
 |.pl=>.emp|.m=>.psl [.str [109],.str [49],.str [49]] 1 none|.s=>.psl [.str [115],.str [49],.str [49]] 1 none|.m2=>.psl [.str [109],.str [50],.str [49]] 1 none|.ms=>.psl [.str [109],.str [49],.str [49],.str [115],.str [45,49],.str [49]] 2 none
theorem YQ (d:Dm):J1 d=odL d:=by cases d<;>simp only[J1,odL,s1,s2,sm]
theorem r_eqP (l:List AV):(dms.all fun d=>Px l [] [] [] 57 [odL d,odL d] (.ret (.bool true)))=true:=by kernel_rfl
theorem eq_dim (d:Dm):VF 57 [J1 d,J1 d] (.ret (.bool true)):=by rw[YQ];exact GS (l:=[]) rfl Ac Ac Ac (zB.1 (r_eqP []) d (dm_mem d)) (by cases d<;>rfl) rfl
def oC (n:Nat)(sh is:List Nat)(d:Dm):List AV:=[AA sh,.psl (is.flatMap (c2 n)) is.length none,odS d]
theorem WK {A:List Q}{sh is:List Nat}{d:Dm}{l:List Q}(h:∀i∈is,i<A.length)(e:is.map (nq A)=l):inst (Af (sgQ A)) noT (.agg (oC A.length sh is d))=(⟨sh,l,d⟩:Vl).out:=by
 subst e;have key:∀l:List Nat,(∀i∈l,i<A.length)→Ai (Af (sgQ A)) noT (l.flatMap (c2 A.length))=(l.map (nq A)).flatMap txC:=fun l=>by
  induction l with
  |nil=>intro _;rfl
  |cons i l ih=>intro hl;rw[List.flatMap_cons,IC,WM (hl i (by simp)),ih fun j hj=>hl j (by simp[hj])];rfl
 show AV.agg [inst _ noT (AA sh),.psl (Ai _ noT (is.flatMap (c2 A.length))) is.length none,inst _ noT (odS d)]=.agg [AA sh,.psl ((is.map (nq A)).flatMap txC) (is.map (nq A)).length none,J1 d];rw[Ma,key is h,List.length_map];congr 3;cases d<;>rfl
theorem Kg (s:List Nat):Ak s s=true:=by
 induction s with
 |nil=>rfl|cons x s ih=>simp[Ak,ih]
theorem Za (s d:List Nat):eqA Di.env 32 (.agg [.str s,.str d]) (.agg [.str s,.str d])=some true:=by
 have h:∀x y:List Nat,eqA Di.env 32 (.agg [.str x,.str y]) (.agg [.str x,.str y])=(bif Ak x x then(bif Ak y y then some true else some false) else some false):=by intro x y;show(match some (Ak x x) with|some true=>(match some (Ak y y) with|some true=>some true|some false=>some false|none=>none)|some false=>some false|none=>none)=_;cases Ak x x<;>cases Ak y y<;>rfl
 rw[h,Kg,Kg];rfl
def eqB (n:Nat):List NB:=(List.range n).map fun i=>⟨.neq,.agg (c2 n i),.agg (c2 n i),.bool false⟩
theorem r_eq (l:List AV):(F4.all fun k=>Px l [vq 57 [odS k.dm,odS k.dm] (.ret (.bool true))] (eqB (nk k)) [] 17 [.agg (oC (nk k) (shK k) (List.range' 0 (nk k)) k.dm),.agg (oC (nk k) (shK k) (List.range' 0 (nk k)) k.dm)] (.ret (.bool true)))=true:=by kernel_rfl
theorem eq_self (hk:k∈F4){v:Vl}(hv:VOk k v):VF 17 [v.out,v.out] (.ret (.bool true)):=by
 obtain⟨e,hl⟩:=hv.eq;have run:=zB.1 (r_eq (sgQ v.it)) k hk;have hi:inst (Af (sgQ v.it)) noT (.agg (oC (nk k) (shK k) (List.range' 0 (nk k)) k.dm))=v.out:=by have:=WK (A:=v.it) (sh:=shK k) (is:=List.range' 0 (nk k)) (d:=k.dm) (fun i hi=>by have:=List.mem_range'_1.1 hi;omega) (FG (fun i _=>by rw[Nat.zero_add]) hl);rw[hl,←e]at this;exact this
 refine GS (QU v.it) (Aa (Ad (eq_dim k.dm) (by cases k<;>rfl) rfl) Ac) (fun q hq=>?_) Ac run (by simp only[Ai,hi]) rfl;obtain⟨i,hi',rfl⟩:=List.mem_map.1 hq;have hi':=zQ.1 hi';refine⟨rfl,.inr (.inr ⟨rfl,true,.inr ⟨rfl,rfl⟩,?_⟩)⟩;have e2:inst (Af (sgQ v.it)) noT (.agg (c2 (nk k) i))=.agg [AU (nq v.it i).1,AU (nq v.it i).2]:=by rw[←hl];show AV.agg (Ai _ noT (c2 v.it.length i))=_;rw[WM (by omega)];rfl
 show eqA Di.env 32 (inst (Af (sgQ v.it)) noT (.agg (c2 (nk k) i))) (inst (Af (sgQ v.it)) noT (.agg (c2 (nk k) i)))=some true;rw[e2];exact Za _ _
def askF (n:Nat)(is:List Nat):List OF:=is.flatMap fun i=>[vq 112 [.agg (c2 n i)] (.ret (.int .i64 0)),vq 123 [.agg (c2 n i)] (.ret (.agg (c4 i)))]
def chL (t:List Nat):OF:=vq 112 [.agg [.str t,.str [49]]] (.ret (.int .i64 0))
theorem Ab5 (l:List AV):(F4.all fun k=>Px l [chL [49],chL [45,49]] [] [] 113 [odL k.dm] (.ret (.tup [])))=true:=by kernel_rfl
theorem YS (hk:k∈F4):VF 113 [J1 k.dm] (.ret (.tup [])):=by have c1:=Uv (q:=(1,1)) (Bw (by decide));have c2:=Uv (q:=(-1,1)) (Bw (by decide));rw[s1]at c1 c2;rw[sm]at c2;rw[YQ];exact GS (l:=[]) rfl (Aa (Ad c1 rfl rfl)<|Aa (Ad c2 rfl rfl) Ac) Ac Ac (zB.1 (Ab5 []) k hk) (by cases k<;>rfl) rfl
def dimF (k:Kd):List OF:=[vq 113 [odS k.dm] (.ret (.tup [])),vq 95 [.emp] (.ret .emp),vq 123 [.agg [.sel 0,.sel 0]] (.ret (sr 1)),vq 123 [.agg [.sel 2,.sel 0]] (.ret (sr (-1)))]
theorem AcQ (hk:k∈F4)(A:List Q):∀q∈dimF k,Bg (Af (sgQ A)) (mpL []) q:=by have f1:=Ys (q:=(1,1)) (Bw (by decide));have f2:=Ys (q:=(-1,1)) (Bw (by decide));rw[BN (by decide)]at f1 f2;exact Aa (Ad (YS hk) (by cases k<;>rfl) rfl)<|Aa (Ad MY rfl rfl)<|Aa (Ad f1 rfl rfl)<|Aa (Ad f2 rfl rfl) Ac
def apF (k:Kd):List OF:=dimF k++(askF (3*nk k) (List.range (2*nk k))++(vq 74 [.int .i64 3,.agg (vC (shK k) (List.range' 0 (nk k)) k.dm),.agg (vC (shK k) (List.range' (nk k) (nk k)) k.dm)] (.ret (.agg (vC (shK k) (List.range' (2*nk k) (nk k)) k.dm)))::(BD++(List.range' (2*nk k) (nk k)).map fun i=>Fq.of (3*nk k) (.rat i true))))
theorem r_app (l:List AV):(F4.all fun k=>Px l (apF k) [] [] 35 [.int .i64 3,.agg (oC (3*nk k) (shK k) (List.range' 0 (nk k)) k.dm),.agg (oC (3*nk k) (shK k) (List.range' (nk k) (nk k)) k.dm)] (.ret (.tup [.agg (oC (3*nk k) (shK k) (List.range' (2*nk k) (nk k)) k.dm),.int .i64 0])))=true:=by kernel_rfl
theorem ask_ok {A:List Q}{is:List Nat}(h:∀i∈is,i<A.length∧Ok (nq A i)):∀q∈askF A.length is,Bg (Af (sgQ A)) (mpL []) q:=fun q hq=>by
 obtain⟨i,hi,hq⟩:=List.mem_flatMap.1 hq;obtain⟨h1,h2⟩:=h i hi;have e:inst (Af (sgQ A)) noT (.agg (c2 A.length i))=.agg [AU (nq A i).1,AU (nq A i).2]:=by show AV.agg (Ai _ noT (c2 A.length i))=_;rw[WM h1];rfl
 simp only[zH,List.not_mem_nil,or_false]at hq;rcases hq with rfl|rfl
 ·exact Ad (Uv h2) (by simp only[Ai,e]) rfl
 ·exact Ad (Ys h2) (by simp only[Ai,e]) (by show AB.ret (.agg (Ai _ noT (c4 i)))=_;rw[MS h1];rfl)
theorem app_ok (hk:k∈F4){u v w:Vl}(hu:VOk k u)(hv:VOk k v)(hw:VOk k w)(h:Cg 3 u v=.ok w):VF 35 [.int .i64 3,u.out,v.out] (.ret (.tup [w.out,.int .i64 0])):=by
 obtain⟨eu,lu⟩:=hu.eq;obtain⟨ev,lv⟩:=hv.eq;obtain⟨ew,lw⟩:=hw.eq;have hA:(u.it++(v.it++w.it)).length=3*nk k:=by simp[lu,lv,lw];omega
 have nu:∀i,i<nk k→nq (u.it++(v.it++w.it)) (0+i)=nq u.it i:=fun i hi=>by rw[Nat.zero_add];exact nq_l (by omega)
 have nv:∀i,i<nk k→nq (u.it++(v.it++w.it)) (nk k+i)=nq v.it i:=fun i hi=>by rw[Re lu,nq_l (by omega)]
 have nw:∀i,i<nk k→nq (u.it++(v.it++w.it)) (2*nk k+i)=nq w.it i:=fun i _=>by rw[show 2*nk k+i=nk k+(nk k+i) by omega,Re lu,Re lv]
 have o:∀s x,(⟨shK k,x,k.dm⟩:Vl).it=x→x.length=nk k→s+nk k≤3*nk k→(∀i,i<nk k→nq (u.it++(v.it++w.it)) (s+i)=nq x i)→inst (Af (sgQ (u.it++(v.it++w.it)))) noT (.agg (oC (3*nk k) (shK k) (List.range' s (nk k)) k.dm))=(⟨shK k,x,k.dm⟩:Vl).out∧AV.agg (Ai (Af (sgQ (u.it++(v.it++w.it)))) noT (vC (shK k) (List.range' s (nk k)) k.dm))=(⟨shK k,x,k.dm⟩:Vl).av:=fun s x _ lx hs hx=>by
  refine⟨?_,?_⟩
  ·rw[←hA];exact WK (fun i hi=>by have:=List.mem_range'_1.1 hi;omega) (FG hx lx)
  ·rw[FW (fun i hi=>by have:=List.mem_range'_1.1 hi;omega),FG hx lx];rfl
 obtain⟨u1,u2⟩:=o 0 u.it rfl lu (by omega) nu;obtain⟨v1,v2⟩:=o (nk k) v.it rfl lv (by omega) nv;obtain⟨w1,w2⟩:=o (2*nk k) w.it rfl lw (by omega) nw;rw[←eu]at u1 u2;rw[←ev]at v1 v2;rw[←ew]at w1 w2;have hb:=(ID (op:=3) (by decide) (ka:=k) (kb:=k) (k:=k) (by cases k<;>rfl) hu hv).1;rw[h]at hb;refine GS (QU _) (Aq (AcQ hk _)<|Aq (by
  rw[←hA];refine ask_ok fun i hi=>?_
  have hi:=zQ.1 hi;refine⟨by omega,?_⟩;by_cases h2:i<nk k
  ·have:=nu i h2;rw[Nat.zero_add]at this;rw[this];exact Ps hu h2
  ·have:=nv (i-nk k) (by omega);rw[show nk k+(i-nk k)=i by omega]at this;rw[this];exact Ps hv (by omega)) (Aa (Ad hb (by
  show[AV.int .i64 3,.agg (Ai _ noT (vC (shK k) (List.range' 0 (nk k)) k.dm)),.agg (Ai _ noT (vC (shK k) (List.range' (nk k) (nk k)) k.dm))]=_;rw[u2,v2];rfl) (by
  show AB.ret (.agg (Ai _ noT (vC (shK k) (List.range' (2*nk k) (nk k)) k.dm)))=_;rw[w2];rfl)) (Aq (Gx _) fun q hq=>by
  obtain⟨i,hi,rfl⟩:=List.mem_map.1 hq;have hi:=List.mem_range'_1.1 hi;rw[←hA];have e:=nw (i-2*nk k) (by omega);rw[show 2*nk k+(i-2*nk k)=i by omega]at e;have ow:=Ps hw (j:=i-2*nk k) (by omega);refine Fq.fact (f:=.rat i true) ⟨by omega,?_,?_⟩
  ·rw[e];exact Mv (wid0 ow) (by decide)
  ·rw[e];exact ow.1))) Ac Ac (zB.1 (r_app (sgQ (u.it++(v.it++w.it)))) k hk) (by simp only[Ai,u1,v1];rfl) (by show AB.ret (.tup [inst _ noT (.agg (oC (3*nk k) (shK k) (List.range' (2*nk k) (nk k)) k.dm)),_])=_;rw[w1];rfl)
end Go.Ev
end
