/- Steps add up; how great the numbers of values are. -/
import Derived.Test.YtecmlmofhabonaaGreatDoorSNode4
noncomputable section
namespace Go.Ev
open Go Go.Ab Go.Nl Go.Nb Go.RowKit Go.Proofs Go.E4
set_option maxRecDepth 1000000
def shR (d:Int):Rs→Rs
 |.error e=>.error e|.ok (v,n)=>.ok (v,n+d)
theorem Fo (r:Except Nat Vl)(n d:Int):Dv r (n+d)=shR d (Dv r n):=by cases r<;>rfl
theorem Qv {f:Nat→Int→Rs}{d:Int}(h:∀i n,f i (n+d)=shR d (f i n)):∀(c i:Nat) (n:Int),Ci f c i (n+d)=(match Ci f c i n with|.error e=>.error e|.ok (l,m)=>.ok (l,m+d))
 |0,_,_=>rfl|c+1,i,n=>by
  simp only[Ci,h];cases f i n with
  |error e=>rfl|ok q=>obtain⟨v,n1⟩:=q;simp only[shR];rw[Qv h c (i+1) n1];cases Ci f c (i+1) n1<;>rfl
theorem AdA (cb:Option (Nat×Q))(u:Vl)(n d:Int):Hh cb u (n+d)=shR d (Hh cb u n):=by
 match cb with
 |none=>
  unfold Hh;cases Cg 5 ⟨[],[(0,1)],.pl⟩ u with
  |error e=>rfl|ok w=>rw[show n+d+1+1+1+1+1=(n+1+1+1+1+1)+d by omega];exact Fo _ _ _
 |some (k,q)=>
  unfold Hh;by_cases h:RN k u=true
  ·simp only[h,if_true];rw[show n+d+1+1+1+1+1+1=(n+1+1+1+1+1+1)+d by omega];exact Fo _ _ _
  ·simp only[h,Bool.false_eq_true,if_false,shR];rw[show n+d+1+1+1+1=(n+1+1+1+1)+d by omega]
theorem Po (e:En)(cb:Option (Nat×Q))(d:Int):∀(x:X) (bs:Bs) (n:Int),evS e cb bs x (n+d)=shR d (evS e cb bs x n):=by
 intro x
 induction x with
 |lit p q r u=>intro bs n;simp only[evS,shR];rw[show n+d+1=(n+1)+d by omega]
 |ref s=>
  intro bs n;simp only[evS];cases Ch bs s (e.nm s) with
  |none=>rfl|some v=>simp only[shR];rw[show n+d+1=(n+1)+d by omega]
 |bin op a b iha ihb=>
  intro bs n;simp only[evS];rw[show n+d+1=(n+1)+d by omega,iha];cases evS e cb bs a (n+1) with
  |error _=>rfl|ok q=>
   simp only[shR,ihb];cases evS e cb bs b q.2 with
   |error _=>rfl|ok r=>simp only[shR];exact Fo _ _ _
 |neg a iha=>
  intro bs n;simp only[evS];rw[show n+d+1=(n+1)+d by omega,iha];cases evS e cb bs a (n+1) with
  |error _=>rfl|ok q=>simp only[shR];exact Fo _ _ _
 |sq a iha=>
  intro bs n;simp only[evS];rw[show n+d+1=(n+1)+d by omega,iha];cases evS e cb bs a (n+1) with
  |error _=>rfl|ok q=>simp only[shR];exact Fo _ _ _
 |lst a b c iha ihb ihc=>
  intro bs n;simp only[evS];rw[show n+d+1=(n+1)+d by omega,iha];cases evS e cb bs a (n+1) with
  |error _=>rfl|ok q=>
   simp only[shR,ihb];cases evS e cb bs b q.2 with
   |error _=>rfl|ok r=>simp only[shR,ihc];cases evS e cb bs c r.2<;>rfl
 | «at» a b iha ihb=>
  intro bs n;simp only[evS];rw[show n+d+1=(n+1)+d by omega,iha];cases evS e cb bs a (n+1) with
  |error _=>rfl|ok q=>
   simp only[shR,ihb];cases evS e cb bs b q.2 with
   |error _=>rfl|ok r=>simp only[shR];exact Fo _ _ _
 |tab c a iha=>intro bs n;simp only[evS];rw[show n+d+1=(n+1)+d by omega,Qv (fun i n=>iha _ n)];cases Ci (fun i n=>evS e cb (bs++[(nmI,Dx i)]) a n) c 0 (n+1)<;>rfl
 |sum c a iha=>
  intro bs n;simp only[evS];rw[show n+d+1=(n+1)+d by omega,Qv (fun i n=>iha _ n)];cases Ci (fun i n=>evS e cb (bs++[(nmI,Dx i)]) a n) c 0 (n+1) with
  |error _=>rfl|ok q=>simp only[];exact Fo _ _ _
 |ite a b c f iha ihb ihc ihf=>
  intro bs n;simp only[evS];rw[show n+d+1=(n+1)+d by omega,iha];cases evS e cb bs a (n+1) with
  |error _=>rfl|ok q=>
   simp only[shR,ihb];cases evS e cb bs b q.2 with
   |error _=>rfl|ok r=>
    simp only[shR];by_cases h:SZ q.1 r.1=true
    ·simp only[h,if_true];exact ihc bs r.2
    ·simp only[h,Bool.false_eq_true,if_false];exact ihf bs r.2
 |lett s a b iha ihb=>
  intro bs n;simp only[evS];rw[show n+d+1=(n+1)+d by omega,iha];cases evS e cb bs a (n+1) with
  |error _=>rfl|ok q=>simp only[shR];exact ihb _ _
 |call a iha=>
  intro bs n;simp only[evS];rw[show n+d+1=(n+1)+d by omega,iha];cases evS e cb bs a (n+1) with
  |error _=>rfl|ok q=>simp only[shR];exact AdA _ _ _ _
def Sz (M:Nat)(q:Q):Prop:=q.1.natAbs≤M∧q.2.natAbs≤M
def SzV (M:Nat)(v:Vl):Prop:=∀q∈v.it,Sz M q
theorem Sz.mono {M N:Nat}(h:M≤N){q:Q}(hq:Sz M q):Sz N q:=⟨zM hq.1 h,zM hq.2 h⟩
theorem SzV.mono {M N:Nat}(h:M≤N){v:Vl}(hv:SzV M v):SzV N v:=fun q hq=>(hv q hq).mono h
theorem Jn {p q:Int}{M:Nat}(hp:p.natAbs≤M)(hq:q.natAbs≤M):Sz M (low p q):=by unfold low;split<;>refine⟨?_,?_⟩<;>simp only[Int.natAbs_tdiv,Int.natAbs_neg]<;>exact zM (Nat.div_le_self _ _) (by assumption)
theorem DP {a b:Int}{M N:Nat}(ha:a.natAbs≤M)(hb:b.natAbs≤N):(a*b).natAbs≤M*N:=by rw[Int.natAbs_mul];exact Nat.mul_le_mul ha hb
theorem Qc {a b:Q}{M N:Nat}(ha:Sz M a)(hb:Sz N b):Sz (2*(M*N)) (Cv a b):=by have h1:=DP ha.1 hb.2;have h2:=DP hb.1 ha.2;have h3:=DP ha.2 hb.2;have h4:=Int.natAbs_add_le (a.1*b.2) (b.1*a.2);rw[Nat.mul_comm N M]at h2;exact Jn (by omega) (by omega)
theorem neg_sz {b:Q}{M:Nat}(hb:Sz M b):Sz M (-b.1,b.2):=⟨by simpa using hb.1,hb.2⟩
theorem ZT {op:Nat}{a b:Q}{M N:Nat}(ha:Sz M a)(hb:Sz N b):Sz (2*(M*N)) (opQ op a b):=by
 have dbl:M*N≤2*(M*N):=by omega
 unfold opQ;split
 ·exact Qc ha hb
 ·exact Qc ha (neg_sz hb)
 ·exact(Jn (DP ha.1 hb.1) (DP ha.2 hb.2)).mono dbl
 ·exact(Jn (DP ha.1 hb.2) (DP ha.2 hb.1)).mono dbl
theorem PT {M:Nat}(h1:1≤M){v:Vl}(hv:SzV M v):Sz M (v.it.headD (0,1)):=by
 cases h:v.it with
 |nil=>exact⟨by simp,by simpa using h1⟩
 |cons q r=>exact hv q (by simp[h])
theorem WE {α β γ:Type}{f:α→β→γ} : ∀{l:List α} {r:List β} {x:γ},x∈List.zipWith f l r→∃a∈l,∃b∈r,x=f a b
 |[],_,x,h=>by simp at h
 |_::_,[],x,h=>by simp at h
 |a::l,b::r,x,h=>by
  simp only[List.zipWith_cons_cons,zH]at h;rcases h with h|h
  ·exact⟨a,by simp,b,by simp,h⟩
  ·obtain⟨a',ha,b',hb,e⟩:=WE h;exact⟨a',by simp[ha],b',by simp[hb],e⟩
theorem JJ {v w:Vl}(h:BO v=.ok w):w=v:=by
 unfold BO at h;split at h
 ·exact(Except.ok.inj h).symm
 ·cases h
theorem JU {op:Nat}{u v w:Vl}{M N:Nat}(hu:SzV M u)(hv:SzV N v)(hM:1≤M)(hN:1≤N)(h:Cg op u v=.ok w):SzV (2*(M*N)) w:=by
 unfold Cg at h;split at h
 ·cases h
 ·have:=JJ h;subst this;intro q hq;simp only[Qq]at hq;split at hq
  ·obtain⟨y,hy,rfl⟩:=List.mem_map.1 hq;exact ZT (PT hM hu) (hv y hy)
  ·obtain⟨x,hx,rfl⟩:=List.mem_map.1 hq;exact ZT (hu x hx) (PT hN hv)
  ·obtain⟨x,hx,y,hy,rfl⟩:=WE hq;exact ZT (hu x hx) (hv y hy)
def H (M:Nat):Nat:=8*M^4
def G:Nat→Nat→Nat
 |0,M=>M|l+1,M=>H (G l M)
theorem AaE {M:Nat}(h:1≤M):M≤M^4:=by have:=Nat.pow_le_pow_right h (show 1≤4 by decide);rwa[Nat.pow_one]at this
theorem Y5 {M:Nat}(h:1≤M):M*M≤M^4:=by have:=Nat.pow_le_pow_right h (show 2≤4 by decide);rwa[Nat.pow_two]at this
theorem MQ {M:Nat}(h:1≤M):M≤H M:=by have:=AaE h;unfold H;omega
theorem sq_H {M:Nat}(h:1≤M):2*(M*M)≤H M:=by have:=Y5 h;unfold H;omega
theorem Fz {l M:Nat}(h:1≤M):M≤G l M:=by
 induction l with
 |zero=>exact zI _|succ l ih=>exact zM ih (MQ (zM h ih))
theorem G_two {l M:Nat}(h:1≤M)(hl:l≤1):G l (G l M)≤G (l+1) M:=by
 match l,hl with
 |0,_=>exact MQ h|1,_=>exact zI _
theorem Abo {M:Nat}(h1:1≤M){v:Vl}(hv:SzV M v)(j:Nat):Sz M (v.it.getD j (0,1)):=by
 rw[List.getD_eq_getElem?_getD];cases h:v.it[j]? with
 |none=>exact⟨by simp,by simpa using h1⟩
 |some q=>exact hv q (List.mem_of_getElem? h)
theorem O4 {M:Nat}(h1:1≤M)(j:Nat):∀(r:List Vl) (q:Q) (N:Nat),Sz N q→(∀v∈r,SzV M v)→Sz (N*(2*M)^r.length) (r.foldl (fun q w=>Cv q (w.it.getD j (0,1))) q)
 |[],q,N,hq,_=>by simpa using hq
 |v::r,q,N,hq,hr=>by have hp:=Qc hq (Abo h1 (hr v (by simp)) j);have:=O4 h1 j r _ _ hp (fun w hw=>hr w (by simp[hw]));refine this.mono ?_;rw[List.length_cons,Nat.pow_succ];generalize (2*M)^r.length=P;exact Nat.le_of_eq (by ac_rfl)
theorem MX {M:Nat}(h1:1≤M){l:List Vl}(hl:∀v∈l,SzV M v)(h4:l.length≤4)(j:Nat):Sz (H M) (BV l j):=by
 match l,hl,h4 with
 |[],_,_=>exact⟨by simp[BV],by have:=MQ h1;simp[BV];omega⟩
 |v::r,hl,h4=>
  have:=O4 h1 j r _ _ (Abo h1 (hl v (by simp)) j) (fun w hw=>hl w (by simp[hw]));refine this.mono ?_;have h3:r.length≤3:=by simpa using h4
  have hp:(2*M)^r.length≤(2*M)^3:=Nat.pow_le_pow_right (by omega) h3;have:=Nat.mul_le_mul_left M hp;refine zM this ?_;rw[Nat.mul_pow];unfold H;rw[Nat.mul_left_comm,←Nat.pow_succ'];exact zI _
theorem tot_sz {M:Nat}(h1:1≤M){l:List Vl}(hl:∀v∈l,SzV M v)(h4:l.length≤4){w:Vl}(h:Oz l=.ok w):SzV (H M) w:=by
 match l,h with
 |v::r,h=>have h:BO ⟨v.sh,(List.range' 0 v.it.length).map (BV (v::r)),v.dm⟩=.ok w:=h;have:=JJ h;subst this;intro x hx;obtain⟨j,_,rfl⟩:=List.mem_map.1 hx;exact MX h1 hl h4 j
structure EnSz (e:En)(cb:Option (Nat×Q)):Prop where
 a:SzV 65536 e.a
 b:SzV 65536 e.b
 c:SzV 65536 e.c
 v:SzV 65536 e.v
 w:SzV 65536 e.w
 q:∀k q,cb=some (k,q)→Sz 65536 q
theorem WR {M:Nat}{s:List Nat} : ∀{bs:Bs} {o:Option Vl} {v:Vl},(∀p∈bs,SzV M p.2)→(∀v,o=some v→SzV M v)→Ch bs s o=some v→SzV M v
 |[],_,_,_,ho,h=>ho _ h|p::r,o,v,hb,ho,h=>by
  refine WR (bs:=r) (fun q hq=>hb q (by simp[hq])) (fun w hw=>?_) h;cases hp:Ak p.1 s with
  |true=>rw[hp]at hw;cases hw;exact hb p (by simp)
  |false=>rw[hp]at hw;exact ho w hw
theorem nm_sz {e:En}{cb:Option (Nat×Q)}(he:EnSz e cb){s:List Nat}{v:Vl}(h:e.nm s=some v):SzV 65536 v:=by
 unfold En.nm at h;cases h1:Ak s nA with
 |true=>rw[h1]at h;cases h;exact he.a
 |false=>
 cases h2:Ak s nB with
 |true=>rw[h1,h2]at h;cases h;exact he.b
 |false=>
 cases h3:Ak s nC with
 |true=>rw[h1,h2,h3]at h;cases h;exact he.c
 |false=>
 cases h4:Ak s nV with
 |true=>rw[h1,h2,h3,h4]at h;cases h;exact he.v
 |false=>
 cases h5:Ak s nW with
 |true=>rw[h1,h2,h3,h4,h5]at h;cases h;exact he.w
 |false=>rw[h1,h2,h3,h4,h5]at h;cases h
theorem Abg {z u:Nat}(hz:z<10):SzV 65536 (litV ((z:Int),1) u):=by
 have key:∀(f:Int),0<f→f<4000→Sz 65536 (Ax ((z:Int),1) (f,1)):=fun f h1 h2=>by rw[FX];refine⟨?_,by simp⟩;show((z:Int)*f).natAbs≤65536;rw[Int.natAbs_mul];have h3:((z:Int)).natAbs*f.natAbs≤10*4000:=Nat.mul_le_mul (by omega) (by omega);omega
 unfold litV;intro q hq;split at hq<;>simp only[List.mem_singleton]at hq<;>subst hq
 ·exact⟨by simp only[Int.natAbs_natCast];omega,by simp⟩
 all_goals exact key _ (by decide) (by decide)
theorem Qi {M:Nat}{f:Nat→Int→Rs} : ∀(c i:Nat) (n:Int) {l:List Vl} {m:Int},(∀j n v n',i≤j→j<i+c→f j n=.ok (v,n')→SzV M v)→Ci f c i n=.ok (l,m)→(∀v∈l,SzV M v)∧l.length=c
 |0,_,_,l,m,_,h=>by simp only[Ci,Except.ok.injEq,zG]at h;obtain⟨rfl,_⟩:=h;simp
 |c+1,i,n,l,m,hf,h=>by
  simp only[Ci]at h;cases h1:f i n with
  |error e=>rw[h1]at h;cases h
  |ok q=>
   obtain⟨v,n1⟩:=q;rw[h1]at h;simp only at h;cases h2:Ci f c (i+1) n1 with
   |error e=>rw[h2]at h;cases h
   |ok r=>
    obtain⟨l',n2⟩:=r;rw[h2]at h;simp only[Except.ok.injEq,zG]at h;obtain⟨rfl,_⟩:=h;obtain⟨a,b⟩:=Qi c (i+1) n1 (fun j n v n' h3 h4=>hf j n v n' (by omega) (by omega)) h2;refine⟨fun w hw=>?_,by simp[b]⟩;rcases zH.1 hw with rfl|hw
    ·exact hf i n _ n1 (zI _) (by omega) h1
    ·exact a w hw
theorem EF {r:Except Nat Vl}{n n':Int}{v:Vl}(h:Dv r n=.ok (v,n')):r=.ok v:=by
 cases r with
 |error e=>cases h|ok w=>simp only[Dv,Except.ok.injEq,zG]at h;rw[h.1]
def Fm:Nat→Int
 |0=>3|l+1=>7+4*Fm l
theorem Wq {l:Nat}{ins:Bool}{k:Kd}{x:X}(h:Ty l ins k x):x.cost≤Fm l:=by
 have pos:∀l,3≤Fm l:=by
  intro l
  induction l with
  |zero=>decide|succ l ih=>simp only[Fm];omega
 induction h with
 |leaf hl=>rw[El hl];have:=pos (by assumption);omega
 | @leaf2 l _ _ _ _ _ _ _ ha hb _ _ _ _=>simp only[X.cost,El ha,El hb];have:=pos l;omega
 | @bin l _ _ _ _ _ _ _ _ _ _ _ iha ihb=>simp only[X.cost,Fm];have:=pos l;omega
 | @ite l _ _ _ _ _ _ _ _ _ _ _ _ iha ihb ihc ihd=>simp only[X.cost,Fm];have:=pos l;omega
 | @lett l _ _ _ _ _ _ _ _ iha ihb=>simp only[X.cost,Fm];have:=pos l;omega
 | @neg l _ _ _ _ iha=>simp only[X.cost,Fm];have:=pos l;omega
 | @tab l _ _ _ a _ _ iha=>simp only[X.cost,Fm];have:=pos l;have:=AI a;omega
 | @lst l _ _ _ _ _ _ _ _ _ _ iha ihb ihc=>simp only[X.cost,Fm];have:=pos l;omega
 | @sum l _ _ n a _ _ h4 _ iha=>simp only[X.cost,Fm];have:=pos l;have:=AI a;have:(n:Int)*a.cost≤4*a.cost:=Int.mul_le_mul_of_nonneg_right (by omega) (by omega);omega
 | @elt l _ _ _ _ _ _ _ _ _ _ _ iha=>simp only[X.cost,Fm];have:=pos l;omega
 | @call l _ _ _ iha=>simp only[X.cost,Fm];have:=pos l;omega
 | @sq l _ _ _ iha=>simp only[X.cost,Fm];have:=pos l;omega
theorem Abb {M:Nat}(hM:M<B^44){q:Q}(h:Sz M q):Cf q=true:=by
 have key:∀{z:Int},z.natAbs≤M→JI z=true:=fun {z} hz=>Gr (IG (Nat.lt_of_le_of_lt hz hM))
 unfold Cf;rw[key h.1,key h.2];rfl
theorem NA {v:Vl}{er:Nat}(h:BO v=.error er):er≠0:=by
 unfold BO at h;split at h
 ·cases h
 ·cases h;decide
theorem J5 {op:Nat}{u v:Vl}{er:Nat}(h:Cg op u v=.error er):er≠0:=by
 unfold Cg at h;by_cases hc:op=6∧(v.it.any fun q=>decide (q.1=0))=true
 ·rw[if_pos hc]at h;cases h;decide
 ·rw[if_neg hc]at h;exact NA h
theorem tot_er {l:List Vl}{er:Nat}(h:Oz l=.error er):er≠0:=by
 unfold Oz at h;split at h
 ·cases h;decide
 ·exact NA h
theorem Fw {r:Except Nat Vl}{n:Int}{er:Nat}(h:Dv r n=.error er):r=.error er:=by
 cases r with
 |error e=>simp only[Dv,Except.error.injEq]at h;rw[h]
 |ok w=>cases h
theorem PV {f:Nat→Int→Rs}(hf:∀i n er,f i n=.error er→er≠0):∀(c i:Nat) (n:Int) {er:Nat},Ci f c i n=.error er→er≠0
 |0,_,_,_,h=>by cases h
 |c+1,i,n,er,h=>by
  simp only[Ci]at h;cases h1:f i n with
  |error e=>rw[h1]at h;simp only[Except.error.injEq]at h;subst h;exact hf _ _ _ h1
  |ok q=>
   rw[h1]at h;simp only at h;cases h2:Ci f c (i+1) q.2 with
   |error e=>rw[h2]at h;simp only[Except.error.injEq]at h;subst h;exact PV hf c _ _ h2
   |ok r=>rw[h2]at h;cases h
theorem Adk {cb:Option (Nat×Q)}{u:Vl}{n:Int}{er:Nat}(h:Hh cb u n=.error er):er≠0:=by
 match cb,h with
 |none,h=>
  unfold Hh at h;cases hc:Cg 5 ⟨[],[(0,1)],.pl⟩ u with
  |error e=>rw[hc]at h;simp only[Except.error.injEq]at h;subst h;exact J5 hc
  |ok w=>rw[hc]at h;exact J5 (Fw h)
 |some (k,q),h=>
  unfold Hh at h;by_cases hl:RN k u=true
  ·simp only[hl,if_true]at h;exact J5 (Fw h)
  ·simp only[hl,Bool.false_eq_true,if_false]at h;cases h
theorem evS_er {e:En}{cb:Option (Nat×Q)} : ∀(x:X) (bs:Bs) (n:Int) (er:Nat),evS e cb bs x n=.error er→er≠0:=by
 intro x
 induction x with
 |lit p q r u=>intro bs n er h;cases h
 |ref s=>
  intro bs n er h;simp only[evS]at h;cases hf:Ch bs s (e.nm s) with
  |none=>rw[hf]at h;simp only[Except.error.injEq]at h;subst h;decide
  |some v=>rw[hf]at h;cases h
 |bin op a b iha ihb=>
  intro bs n er hv;simp only[evS]at hv;cases h1:evS e cb bs a (n+1) with
  |error _=>rw[h1]at hv;simp only[Except.error.injEq]at hv;subst hv;exact iha _ _ _ h1
  |ok p=>
  rw[h1]at hv;simp only at hv;cases h2:evS e cb bs b p.2 with
  |error _=>rw[h2]at hv;simp only[Except.error.injEq]at hv;subst hv;exact ihb _ _ _ h2
  |ok q=>rw[h2]at hv;exact J5 (Fw hv)
 |neg a iha=>
  intro bs n er hv;simp only[evS]at hv;cases h1:evS e cb bs a (n+1) with
  |error _=>rw[h1]at hv;simp only[Except.error.injEq]at hv;subst hv;exact iha _ _ _ h1
  |ok p=>rw[h1]at hv;exact J5 (Fw hv)
 |sq a iha=>
  intro bs n er hv;simp only[evS]at hv;cases h1:evS e cb bs a (n+1) with
  |error _=>rw[h1]at hv;simp only[Except.error.injEq]at hv;subst hv;exact iha _ _ _ h1
  |ok p=>rw[h1]at hv;exact NA (Fw hv)
 |lst a b c iha ihb ihc=>
  intro bs n er hv;simp only[evS]at hv;cases h1:evS e cb bs a (n+1) with
  |error _=>rw[h1]at hv;simp only[Except.error.injEq]at hv;subst hv;exact iha _ _ _ h1
  |ok p=>
  rw[h1]at hv;simp only at hv;cases h2:evS e cb bs b p.2 with
  |error _=>rw[h2]at hv;simp only[Except.error.injEq]at hv;subst hv;exact ihb _ _ _ h2
  |ok q=>
  rw[h2]at hv;simp only at hv;cases h3:evS e cb bs c q.2 with
  |error _=>rw[h3]at hv;simp only[Except.error.injEq]at hv;subst hv;exact ihc _ _ _ h3
  |ok r=>rw[h3]at hv;cases hv
 | «at» a b iha ihb=>
  intro bs n er hv;simp only[evS]at hv;cases h1:evS e cb bs a (n+1) with
  |error _=>rw[h1]at hv;simp only[Except.error.injEq]at hv;subst hv;exact iha _ _ _ h1
  |ok p=>
  rw[h1]at hv;simp only at hv;cases h2:evS e cb bs b p.2 with
  |error _=>rw[h2]at hv;simp only[Except.error.injEq]at hv;subst hv;exact ihb _ _ _ h2
  |ok q=>
   rw[h2]at hv;have hv:=Fw hv;unfold OM at hv;split at hv
   ·cases hv
   ·cases hv;decide
 |tab c a iha=>
  intro bs n er hv;simp only[evS]at hv;cases h1:Ci (fun i n=>evS e cb (bs++[(nmI,Dx i)]) a n) c 0 (n+1) with
  |error _=>rw[h1]at hv;simp only[Except.error.injEq]at hv;subst hv;exact PV (fun i n er h=>iha _ _ _ h) _ _ _ h1
  |ok p=>rw[h1]at hv;cases hv
 |sum c a iha=>
  intro bs n er hv;simp only[evS]at hv;cases h1:Ci (fun i n=>evS e cb (bs++[(nmI,Dx i)]) a n) c 0 (n+1) with
  |error _=>rw[h1]at hv;simp only[Except.error.injEq]at hv;subst hv;exact PV (fun i n er h=>iha _ _ _ h) _ _ _ h1
  |ok p=>rw[h1]at hv;exact tot_er (Fw hv)
 |ite a b c d iha ihb ihc ihd=>
  intro bs n er hv;simp only[evS]at hv;cases h1:evS e cb bs a (n+1) with
  |error _=>rw[h1]at hv;simp only[Except.error.injEq]at hv;subst hv;exact iha _ _ _ h1
  |ok p=>
  rw[h1]at hv;simp only at hv;cases h2:evS e cb bs b p.2 with
  |error _=>rw[h2]at hv;simp only[Except.error.injEq]at hv;subst hv;exact ihb _ _ _ h2
  |ok q=>
  rw[h2]at hv;simp only at hv;by_cases hl:SZ p.1 q.1=true
  ·simp only[hl,if_true]at hv;exact ihc _ _ _ hv
  ·simp only[hl,Bool.false_eq_true,if_false]at hv;exact ihd _ _ _ hv
 |lett s a b iha ihb=>
  intro bs n er hv;simp only[evS]at hv;cases h1:evS e cb bs a (n+1) with
  |error _=>rw[h1]at hv;simp only[Except.error.injEq]at hv;subst hv;exact iha _ _ _ h1
  |ok p=>rw[h1]at hv;exact ihb _ _ _ hv
 |call a iha=>
  intro bs n er hv;simp only[evS]at hv;cases h1:evS e cb bs a (n+1) with
  |error _=>rw[h1]at hv;simp only[Except.error.injEq]at hv;subst hv;exact iha _ _ _ h1
  |ok p=>rw[h1]at hv;exact Adk hv
theorem bs0 {l:Nat}(h:l≤3):FM [] l false:=⟨by simpa using h,trivial,nofun,nofun⟩
end Go.Ev
end
