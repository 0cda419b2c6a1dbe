/- Operations on values, told of all numbers within the bounds. -/
import Derived.Test.YtecmlmofhabonaaGreatDoorIRead
import Derived.Test.YtecmlmofhabonaaGreatDoorINode4
noncomputable section
namespace Go.Ev
open Go Go.Ab Go.Nl Go.Nb Go.RowKit Go.Proofs Go.E4
set_option maxRecDepth 1000000
noncomputable def runS (l:List AV)(facts:List OF)(bins:List NB)(slens:List (Nat×AV))(f:FuncId)(args:List AV)(r:AG):Bool:=facts.all (fun q=>BU q.N q.args q.l q.res q.u)&&BO (F9 l [] facts bins [] slens) 4000 80 0 f args [] r []
theorem Mi {l:List AV}(hl:Pls l){facts:List OF}{bins:List NB}{slens:List (Nat×AV)}(hf:∀q∈facts,Bx (Ag l) (mpL []) q)(hb:∀q∈bins,Dg (Ag l) q)(hs:∀q∈slens,QC (Ag l) q){f:FuncId}{args A:List AV}{r R:AG}(h:runS l facts bins slens f args r=true)(hA:Ai (Ag l) noT args=A)(hR:Bi (Ag l) noT r=R):VF f A R:=by subst hA hR;unfold runS at h;simp only[zA]at h;exact Gl hl (mu:=[]) rfl h.1 hf hb Ad hs h.2
abbrev Aag (z:Int):AV:=.str ((FK z).map UInt8.toNat)
theorem Aa0 (z:Int):FK z=Bk (z.natAbs:Int):=by
 unfold FK Bk;by_cases h0:z=0
 ·subst h0;rfl
 ·rw[if_neg h0,if_neg (show((z.natAbs:Nat):Int)≠0 by omega),if_neg (show ¬((z.natAbs:Nat):Int)<0 by omega),Int.natAbs_natCast,List.nil_append]
theorem JI {n:Nat}(h0:0<n)(h:n<10):Bk (n:Int)=[UInt8.ofNat (48+n)]∧Bk (-(n:Int))=[45,UInt8.ofNat (48+n)]:=by
 have hd:Ae n=[n]:=JB h0 (by have:B=1000000000:=rfl;omega);have hs:Lib.decDigits n=[UInt8.ofNat (48+n)]:=by rw[Lib.decDigits,dif_pos h]
 constructor
 ·unfold Bk;rw[if_neg (by omega),if_neg (by omega),Int.natAbs_natCast,hd];show[]++(Lib.decDigits n++[])=_;rw[hs];rfl
 ·unfold Bk;rw[if_neg (by omega),if_pos (by omega),Int.natAbs_neg,Int.natAbs_natCast,hd];show[45]++(Lib.decDigits n++[])=_;rw[hs];rfl
theorem tx1:(Bk 1).map UInt8.toNat=[49]:=congrArg (List.map UInt8.toNat) (JI (n:=1) (by decide) (by decide)).1
theorem tx2:(Bk 2).map UInt8.toNat=[50]:=congrArg (List.map UInt8.toNat) (JI (n:=2) (by decide) (by decide)).1
theorem txm:(Bk (-1)).map UInt8.toNat=[45,49]:=congrArg (List.map UInt8.toNat) (JI (n:=1) (by decide) (by decide)).2
theorem s1:Aq 1=.str [49]:=congrArg AV.str tx1
theorem s2:Aq 2=.str [50]:=congrArg AV.str tx2
theorem sm:Aq (-1)=.str [45,49]:=congrArg AV.str txm
def odL:Dm→AV
 |.pl=>.emp|.m=>.psl [.str [109],.str [49],.str [49]] 1 none|.s=>.psl [.str [115],.str [49],.str [49]] 1 none|.m2=>.psl [.str [109],.str [50],.str [49]] 1 none|.ms=>.psl [.str [109],.str [49],.str [49],.str [115],.str [45,49],.str [49]] 2 none
theorem od_lit (d:Dm):J2 d=odL d:=by cases d<;>simp only[J2,odL,s1,s2,sm]
theorem r_eqP (l:List AV):(dms.all fun d=>runS l [] [] [] 57 [odL d,odL d] (.ret (.bool true)))=true:=by kernel_rfl
theorem eq_dim (d:Dm):VF 57 [J2 d,J2 d] (.ret (.bool true)):=by rw[od_lit];exact Mi (l:=[]) rfl Ad Ad Ad (zB.1 (r_eqP []) d (dm_mem d)) (by cases d<;>rfl) rfl
def oC (n:Nat)(sh is:List Nat)(d:Dm):List AV:=[AA sh,.psl (is.flatMap (c2 n)) is.length none,odS d]
theorem AdK {A:List Q}{sh is:List Nat}{d:Dm}{l:List Q}(h:∀i∈is,i<A.length)(e:is.map (nq A)=l):inst (Ag (sgQ A)) noT (.agg (oC A.length sh is d))=(⟨sh,l,d⟩:Vl).out:=by
 subst e;have key:∀l:List Nat,(∀i∈l,i<A.length)→Ai (Ag (sgQ A)) noT (l.flatMap (c2 A.length))=(l.map (nq A)).flatMap txC:=fun l=>by
  induction l with
  |nil=>intro _;rfl
  |cons i l ih=>intro hl;rw[List.flatMap_cons,I2,AaI (hl i (by simp)),ih fun j hj=>hl j (by simp[hj])];rfl
 show AV.agg [inst _ noT (AA sh),.psl (Ai _ noT (is.flatMap (c2 A.length))) is.length none,inst _ noT (odS d)]=.agg [AA sh,.psl ((is.map (nq A)).flatMap txC) (is.map (nq A)).length none,J2 d];rw[Mg,key is h,List.length_map];congr 3;cases d<;>rfl
theorem KK (s:List Nat):Am s s=true:=by
 induction s with
 |nil=>rfl|cons x s ih=>simp[Am,ih]
theorem YE (s d:List Nat):eqA De.env 32 (.agg [.str s,.str d]) (.agg [.str s,.str d])=some true:=by
 have h:∀x y:List Nat,eqA De.env 32 (.agg [.str x,.str y]) (.agg [.str x,.str y])=(bif Am x x then(bif Am y y then some true else some false) else some false):=by intro x y;show(match some (Am x x) with|some true=>(match some (Am y y) with|some true=>some true|some false=>some false|none=>none)|some false=>some false|none=>none)=_;cases Am x x<;>cases Am y y<;>rfl
 rw[h,KK,KK];rfl
def eqB (n:Nat):List NB:=(List.range n).map fun i=>⟨.neq,.agg (c2 n i),.agg (c2 n i),.bool false⟩
theorem r_eqA (l:List AV):(kds.all fun k=>runS l [vq 57 [odS k.dm,odS k.dm] (.ret (.bool true))] (eqB (nk k)) [] 17 [.agg (oC (nk k) (shK k) (List.range' 0 (nk k)) k.dm),.agg (oC (nk k) (shK k) (List.range' 0 (nk k)) k.dm)] (.ret (.bool true)))=true:=by kernel_rfl
theorem eq_all {k:Kd}{v:Vl}(hv:VOk k v):VF 17 [v.out,v.out] (.ret (.bool true)):=by
 obtain⟨e,hl⟩:=hv.eq;have run:=zB.1 (r_eqA (sgQ v.it)) k (GJ k);have hi:inst (Ag (sgQ v.it)) noT (.agg (oC (nk k) (shK k) (List.range' 0 (nk k)) k.dm))=v.out:=by have:=AdK (A:=v.it) (sh:=shK k) (is:=List.range' 0 (nk k)) (d:=k.dm) (fun i hi=>by have:=List.mem_range'_1.1 hi;omega) (GZ (fun i _=>by rw[Nat.zero_add]) hl);rw[hl,←e]at this;exact this
 refine Mi (Vc v.it) (Aa (Ac (eq_dim k.dm) (by cases k<;>rfl) rfl) Ad) (fun q hq=>?_) Ad run (by simp only[Ai,hi]) rfl;obtain⟨i,hi',rfl⟩:=List.mem_map.1 hq;have hi':=zQ.1 hi';refine⟨rfl,.inr (.inr ⟨rfl,true,.inr ⟨rfl,rfl⟩,?_⟩)⟩;have e2:inst (Ag (sgQ v.it)) noT (.agg (c2 (nk k) i))=.agg [Aq (nq v.it i).1,Aq (nq v.it i).2]:=by rw[←hl];show AV.agg (Ai _ noT (c2 v.it.length i))=_;rw[AaI (by omega)];rfl
 show eqA De.env 32 (inst (Ag (sgQ v.it)) noT (.agg (c2 (nk k) i))) (inst (Ag (sgQ v.it)) noT (.agg (c2 (nk k) i)))=some true;rw[e2];exact YE _ _
theorem Ij {z:Int}(h:ER z=true):TX (Bk z) z:=Mx (k:=400) (Aj (by decide) (Ci h)) (by decide) (by decide)
theorem Kh {z:Int}(h:ER z=true):BD (Bk z)=FK z:=by
 obtain⟨c,l,a⟩:=Cf (Ij h);have e:=Lg z;have ha:=a.neg;unfold BD;rw[ha];by_cases hz:z<0
 ·rw[decide_eq_true hz]at e ⊢;rw[cond_true,e];rfl
 ·rw[zL hz]at e ⊢;rw[cond_false,e];rfl
theorem Qk {z:Int}(h:ER z=true):(BD (Bk z)).length≤400:=by rw[Kh h,Aa0];exact of_decide_eq_true h
def d400:Nat:=400
def d800:Nat:=800
theorem Pn {z:Int}(h:ER z=true):z.natAbs<10^d400:=Ut (Ij h) (Qk h)
theorem strR {k:K}{w:World}{l:List UInt8} : VR k w (.str (l.map UInt8.toNat)) (.string { data:=l.toArray }):=by simp only[VR];exact⟨_,rfl,by simp⟩
theorem V9 {z:Int}(h:ER z=true):Ay P4 gl5 140 [Aq z] (.int .i64 0):=by intro k w vs _ _ _ hg hv;obtain⟨v,rfl,q⟩:=D9 hv;rw[GO q];refine(AbT (Ij h).form (Qk h) w).mono ?_;rintro e w' ⟨rfl,rfl⟩;exact⟨_,rfl,Below.refl _ _,by simp only[VR]⟩
theorem f_neg1 {z:Int}(h:ER z=true):Ay P4 gl5 141 [Aq z] (.bool (decide (z<0))):=by intro k w vs _ _ _ hg hv;obtain⟨v,rfl,q⟩:=D9 hv;rw[GO q];obtain⟨c,l,a⟩:=Cf (Ij h);refine(Dh (Bk z) w).mono ?_;rintro e w' ⟨rfl,rfl⟩;rw[a.neg];exact⟨_,rfl,Below.refl _ _,by simp only[VR]⟩
theorem f_abs1 {z:Int}(h:ER z=true):Ay P4 gl5 143 [Aq z] (Aag z):=by intro k w vs _ _ _ hg hv;obtain⟨v,rfl,q⟩:=D9 hv;rw[GO q];refine(Eb (Bk z) w).mono ?_;rintro e' w' ⟨rfl,rfl⟩;rw[Kh h];exact⟨_,rfl,Below.refl _ _,strR⟩
theorem Xn {x y:Int}(hx:ER x=true)(hy:ER y=true)(hg:Nat.gcd x.natAbs y.natAbs=1):Ay P4 gl5 142 [Aq x,Aq y] (.str [49]):=by intro k w vs _ _ _ _ hv;obtain⟨v,u,rfl,q1,q2⟩:=Cz hv;rw[GO q1,GO q2];refine(Xx (Ij hx) (Ij hy) (Pn hx) (Pn hy) (by decide) w).mono ?_;rintro e w' ⟨⟨t,rfl,ht⟩,hb⟩;rw[hg]at ht;rw[tx_one ht];exact⟨_,rfl,hb,strR (l:=[49])⟩
theorem Bo {k:Nat}{x y:Int}(hx:Fits k x)(hy:Fits k y):Fits (k+k) (x*y):=by have h1:x.natAbs<B^k:=BV hx;have h2:y.natAbs<B^k:=BV hy;refine CA ?_;rw[Int.natAbs_mul,Nat.pow_add];exact Nat.mul_lt_mul'' h1 h2
theorem Sd {x y:Int}(hx:ER x=true)(hy:ER y=true):Ay P4 gl5 105 [Aq x,Aq y] (Aq (x*y)):=by intro k w vs _ _ _ _ hv;obtain⟨v,u,rfl,q1,q2⟩:=Cz hv;rw[GO q1,GO q2];refine(Aa5 (Ij hx) (Ij hy) (Pn hx) (Pn hy) (by decide) w).mono ?_;rintro e w' ⟨⟨t,rfl,ht⟩,hb⟩;have h2:=Bo (Ci hx) (Ci hy);rw[P1 ht (Mx h2 (by decide) (by decide))];exact⟨_,rfl,hb,strR⟩
theorem f_cmp1 {x y:Int}{k n:Nat}(hk:1≤k)(hk2:k≤400)(hn:n≤4000)(fx:Fits k x)(fy:Fits k y)(hx:x.natAbs<10^n)(hy:y.natAbs<10^n):Ay P4 gl5 104 [Aq x,Aq y] (.int .i64 (AS x y)):=by intro k' w vs _ _ _ _ hv;obtain⟨v,u,rfl,q1,q2⟩:=Cz hv;rw[GO q1,GO q2];refine(r_cmpT (Mx fx hk (by omega)) (Mx fy hk (by omega)) hx hy hn w).mono ?_;rintro e w' ⟨rfl,hb⟩;exact⟨_,rfl,hb,by simp only[VR]⟩
theorem Abx (l:List AV):runS l [vq 140 [.sel 0] (.ret (.int .i64 0)),vq 140 [.sel 1] (.ret (.int .i64 0)),vq 141 [.sel 1] (.ret (.bool false)),vq 142 [.sel 0,.sel 1] (.ret (.str [49])),vq 143 [.sel 0] (.ret (.sel 2))]
 [⟨.eql,.sel 1,.str [48],.bool false⟩,⟨.gtr,.sel 3,.int .i64 400,.bool false⟩,⟨.gtr,.sel 4,.int .i64 400,.bool false⟩] [(2,.sel 3),(1,.sel 4)] 20 [.agg [.sel 0,.sel 1]] (.ret (.bool true))=true:=by kernel_rfl
theorem Mk {q:Q}(h:Ok q):VF 20 [.agg [Aq q.1,Aq q.2]] (.ret (.bool true)):=by
 have hf:=h.1;unfold CI at hf;simp only[zA]at hf;have h2:=h.2.1;have len1:=Qk hf.1;have len2:=Qk hf.2;rw[Kh hf.1]at len1;have e2:Bk q.2=FK q.2:=by have:=Lg q.2;rwa[zL (by omega),cond_false]at this
 rw[Kh hf.2,←e2]at len2;obtain⟨c,r,e1,e3,e4,_⟩:=NN (Ci hf.2) (by decide);rw[if_neg (by omega),List.nil_append]at e1;refine Mi (l:=[Aq q.1,Aq q.2,Aag q.1,.int .i64 ((FK q.1).length:Nat),.int .i64 ((Bk q.2).length:Nat)]) (ps _<|ps _<|ps _<|pi _<|pi _ rfl)
  (Aa (Ac (VF.of5 (V9 hf.1) (by kernel_rfl) rfl) rfl rfl)<|Aa (Ac (VF.of5 (V9 hf.2) (by kernel_rfl) rfl) rfl rfl)<|Aa (Ac (VF.of5 (f_neg1 hf.2) (by kernel_rfl) rfl) rfl (by rw[zL (by omega)];rfl))<|Aa (Ac (VF.of5 (Xn hf.1 hf.2 h.2.2) (by kernel_rfl) rfl) rfl rfl)<|Aa (Ac (VF.of5 (f_abs1 hf.1) (by kernel_rfl) rfl) rfl rfl) Ad)
  (Aa ⟨rfl,.inr (.inl ⟨_,_,rfl,rfl,?_⟩)⟩<|Aa (Cc ((FK q.1).length:Nat) 400 rfl rfl rfl ?_)<|Aa (Cc ((Bk q.2).length:Nat) 400 rfl rfl rfl ?_) Ad)
  (Aa ⟨rfl,_,rfl,.inl ⟨by decide,by simp[inst,Ag]⟩⟩<|Aa ⟨rfl,_,rfl,.inl ⟨by decide,by simp[inst,Ag]⟩⟩ Ad) (Abx _) rfl rfl
 ·have hne:Am ((Bk q.2).map UInt8.toNat) [48]=false:=by rw[Bool.eq_false_iff];intro e;have e5:=IC _ _ e;rw[e1]at e5;simp only[List.map_cons,List.cons.injEq,List.map_eq_nil_iff]at e5;have:c=48:=UInt8.toNat_inj.1 (by rw[e5.1];rfl);have:=(e4 this).1;omega
  show some (AV.bool (Am ((Bk q.2).map UInt8.toNat) [48]))=_;rw[hne];rfl
 ·simp only[Bv,inst,decide_true,cond_true,gt_iff_lt];rw[zL (by omega)]
 ·simp only[Bv,inst,decide_true,cond_true,gt_iff_lt];rw[zL (by omega)]
theorem r_less (l:List AV):runS l [vq 105 [.sel 0,.sel 3] (.ret (.sel 4)),vq 105 [.sel 2,.sel 1] (.ret (.sel 5)),vq 104 [.sel 4,.sel 5] (.ret (.sel 6))] [⟨.lss,.sel 6,.int .i64 0,.sel 7⟩] [] 21 [.agg [.sel 0,.sel 1],.agg [.sel 2,.sel 3]] (.ret (.sel 7))=true:=by kernel_rfl
theorem Za {p q:Q}(hp:Ok p)(hq:Ok q):VF 21 [.agg [Aq p.1,Aq p.2],.agg [Aq q.1,Aq q.2]] (.ret (.bool (decide (p.1*q.2<q.1*p.2)))):=by
 have h1:=hp.1;have h2:=hq.1;unfold CI at h1 h2;simp only[zA]at h1 h2;have lt:∀{x y:Int},ER x=true→ER y=true→(x*y).natAbs<10^d800:=fun hx hy=>by rw[Int.natAbs_mul,show d800=d400+d400 from rfl,Nat.pow_add];exact Nat.mul_lt_mul'' (Pn hx) (Pn hy)
 have c:=f_cmp1 (k:=90) (n:=d800) (by decide) (by decide) (by decide) (Aj (by decide) (Bo (Ci h1.1) (Ci h2.2))) (Aj (by decide) (Bo (Ci h2.1) (Ci h1.2))) (lt h1.1 h2.2) (lt h2.1 h1.2);refine Mi (l:=[Aq p.1,Aq p.2,Aq q.1,Aq q.2,Aq (p.1*q.2),Aq (q.1*p.2),.int .i64 (AS (p.1*q.2) (q.1*p.2)),.bool (decide (p.1*q.2<q.1*p.2))]) (ps _<|ps _<|ps _<|ps _<|ps _<|ps _<|pi _<|all_cons rfl rfl)
  (Aa (Ac (VF.of5 (Sd h1.1 h2.2) (by kernel_rfl) rfl) rfl rfl)<|Aa (Ac (VF.of5 (Sd h2.1 h1.2) (by kernel_rfl) rfl) rfl rfl)<|Aa (Ac (VF.of5 c (by kernel_rfl) rfl) rfl rfl) Ad)
  (Aa (Cc (AS (p.1*q.2) (q.1*p.2)) 0 rfl rfl rfl ?_) Ad) Ad (r_less _) rfl rfl
 simp only[Bv,inst,decide_true,cond_true];rw[show decide (AS (p.1*q.2) (q.1*p.2)<0)=decide (p.1*q.2<q.1*p.2) from decide_eq_decide.2 (Cu _ _)];rfl
end Go.Ev
end
