/- Steps add up; how great the numbers of values are. -/
import Derived.Test.YtecmlmofhabonaaGreatDoorNode3
import Derived.Test.YtecmlmofhabonaaGreatDoorNode4
noncomputable section
namespace Go.Ev
open Go Go.Ab Go.Nl Go.Nb Go.RowKit Go.Proofs Go.E4
set_option maxRecDepth 1000000
def shR (d:Int):Rs→Rs
 | .error e=>.error e
 | .ok (v,n)=>.ok (v,n+d)
theorem Fp (r:Except Nat Vl)(n d:Int):CH r (n+d)=shR d (CH r n):=by cases r<;>rfl
theorem P0 {f:Nat→Int→Rs}{d:Int}(h:∀i n,f i (n+d)=shR d (f i n)):∀(c i:Nat) (n:Int),BU f c i (n+d)=(match BU f c i n with | .error e=>.error e | .ok (l,m)=>.ok (l,m+d))
 | 0,_,_=>rfl
 | c+1,i,n=>by
  simp only[BU,h]
  cases f i n with
  | error e=>rfl
  | ok q=>
   obtain⟨v,n1⟩:=q
   simp only[shR]
   rw[P0 h c (i+1) n1]
   cases BU f c (i+1) n1<;>rfl
theorem Adb (cb:Option (Nat×Q))(u:Vl)(n d:Int):G8 cb u (n+d)=shR d (G8 cb u n):=by
 match cb with
 | none=>
  unfold G8
  cases Ck 5 ⟨[],[(0,1)],.pl⟩ u with
  | error e=>rfl
  | ok w=>
   rw[show n+d+1+1+1+1+1=(n+1+1+1+1+1)+d by omega]
   exact Fp _ _ _
 | some (k,q)=>
  unfold G8
  by_cases h:RD k u=true
  ·simp only[h,if_true]
   rw[show n+d+1+1+1+1+1+1=(n+1+1+1+1+1+1)+d by omega]
   exact Fp _ _ _
  ·simp only[h,Bool.false_eq_true,if_false,shR]
   rw[show n+d+1+1+1+1=(n+1+1+1+1)+d by omega]
theorem OA (e:En)(cb:Option (Nat×Q))(d:Int):∀(x:X) (bs:Bs) (n:Int),evS e cb bs x (n+d)=shR d (evS e cb bs x n):=by
 intro x
 induction x with
 | lit p q r u=>
  intro bs n
  simp only[evS,shR]
  rw[show n+d+1=(n+1)+d by omega]
 | ref s=>
  intro bs n
  simp only[evS]
  cases DM bs s (e.nm s) with
  | none=>rfl
  | some v=>
   simp only[shR]
   rw[show n+d+1=(n+1)+d by omega]
 | bin op a b iha ihb=>
  intro bs n
  simp only[evS]
  rw[show n+d+1=(n+1)+d by omega,iha]
  cases evS e cb bs a (n+1) with
  | error _=>rfl
  | ok q=>
   simp only[shR,ihb]
   cases evS e cb bs b q.2 with
   | error _=>rfl
   | ok r=>
    simp only[]
    exact Fp _ _ _
 | neg a iha=>
  intro bs n
  simp only[evS]
  rw[show n+d+1=(n+1)+d by omega,iha]
  cases evS e cb bs a (n+1) with
  | error _=>rfl
  | ok q=>
   simp only[shR]
   exact Fp _ _ _
 | sq a iha=>
  intro bs n
  simp only[evS]
  rw[show n+d+1=(n+1)+d by omega,iha]
  cases evS e cb bs a (n+1) with
  | error _=>rfl
  | ok q=>
   simp only[shR]
   exact Fp _ _ _
 | lst a b c iha ihb ihc=>
  intro bs n
  simp only[evS]
  rw[show n+d+1=(n+1)+d by omega,iha]
  cases evS e cb bs a (n+1) with
  | error _=>rfl
  | ok q=>
   simp only[shR,ihb]
   cases evS e cb bs b q.2 with
   | error _=>rfl
   | ok r=>
    simp only[shR,ihc]
    cases evS e cb bs c r.2<;>rfl
 | «at» a b iha ihb=>
  intro bs n
  simp only[evS]
  rw[show n+d+1=(n+1)+d by omega,iha]
  cases evS e cb bs a (n+1) with
  | error _=>rfl
  | ok q=>
   simp only[shR,ihb]
   cases evS e cb bs b q.2 with
   | error _=>rfl
   | ok r=>
    simp only[]
    exact Fp _ _ _
 | tab c a iha=>
  intro bs n
  simp only[evS]
  rw[show n+d+1=(n+1)+d by omega,P0 (fun i n=>iha _ n)]
  cases BU (fun i n=>evS e cb (bs++[(nmI,DU i)]) a n) c 0 (n+1)<;>rfl
 | sum c a iha=>
  intro bs n
  simp only[evS]
  rw[show n+d+1=(n+1)+d by omega,P0 (fun i n=>iha _ n)]
  cases BU (fun i n=>evS e cb (bs++[(nmI,DU i)]) a n) c 0 (n+1) with
  | error _=>rfl
  | ok q=>
   simp only[]
   exact Fp _ _ _
 | ite a b c f iha ihb ihc ihf=>
  intro bs n
  simp only[evS]
  rw[show n+d+1=(n+1)+d by omega,iha]
  cases evS e cb bs a (n+1) with
  | error _=>rfl
  | ok q=>
   simp only[shR,ihb]
   cases evS e cb bs b q.2 with
   | error _=>rfl
   | ok r=>
    simp only[]
    by_cases h:RJ q.1 r.1=true
    ·simp only[h,if_true];exact ihc bs r.2
    ·simp only[h,Bool.false_eq_true,if_false];exact ihf bs r.2
 | lett s a b iha ihb=>
  intro bs n
  simp only[evS]
  rw[show n+d+1=(n+1)+d by omega,iha]
  cases evS e cb bs a (n+1) with
  | error _=>rfl
  | ok q=>
   simp only[shR]
   exact ihb _ _
 | call a iha=>
  intro bs n
  simp only[evS]
  rw[show n+d+1=(n+1)+d by omega,iha]
  cases evS e cb bs a (n+1) with
  | error _=>rfl
  | ok q=>
   simp only[shR]
   exact Adb _ _ _ _
theorem K8 {bs:Bs}{u:Vl}{s:List Nat}{o:Option Vl}(h:Av nU s=false):DM ((nU,u)::bs) s o=DM bs s o:=by
 show DM bs s (bif Av nU s then some u else o)=_
 rw[h];rfl
theorem Tx {e:En}{cb:Option (Nat×Q)}{u:Vl}{l:Nat}{ins:Bool}{k:Kd}{x:X}(h:Ty l ins k x):∀(bs:Bs) (n:Int),evS e cb ((nU,u)::bs) x n=evS e cb bs x n:=by
 have lf:∀{ins k x},Lf ins k x→∀(bs:Bs) (n:Int),evS e cb ((nU,u)::bs) x n=evS e cb bs x n:=by
  intro ins k x h bs n
  cases h with
  | ref hk=>
   simp only[evS]
   rw[K8]
   cases k<;>simp only[nmK,Option.some.injEq,reduceCtorEq] at hk<;>subst hk<;>decide
  | idx _=>simp only[evS];rw[K8 (by decide)]
  | lit _ _ _=>rfl
  | met _ _ _=>rfl
  | sec _ _ _=>rfl
 induction h with
 | leaf hl=>exact lf hl
 | leaf2 ha hb _ _ _ _=>intro bs n;simp only[evS,lf ha,lf hb]
 | bin _ _ _ _ iha ihb=>intro bs n;simp only[evS,iha,ihb]
 | ite _ _ _ _ _ iha ihb ihc ihd=>intro bs n;simp only[evS,iha,ihb,ihc,ihd]
 | lett _ _ _ iha ihb=>intro bs n;simp only[evS,iha,List.cons_append,ihb]
 | neg _ iha=>intro bs n;simp only[evS,iha]
 | tab _ _ iha=>intro bs n;simp only[evS,List.cons_append,iha]
 | lst _ _ _ _ iha ihb ihc=>intro bs n;simp only[evS,iha,ihb,ihc]
 | sum _ _ _ _ iha=>intro bs n;simp only[evS,List.cons_append,iha]
 | elt _ _ _ _ iha=>intro bs n;simp only[evS,iha]
 | call _ iha=>intro bs n;simp only[evS,iha]
 | sq _ iha=>intro bs n;simp only[evS,iha]
def Sz (M:Nat)(q:Q):Prop:=q.1.natAbs≤M∧q.2.natAbs≤M
def SzV (M:Nat)(v:Vl):Prop:=∀q∈v.it,Sz M q
theorem Sz.mono {M N:Nat}(h:M≤N){q:Q}(hq:Sz M q):Sz N q:=⟨Nat.le_trans hq.1 h,Nat.le_trans hq.2 h⟩
theorem SzV.mono {M N:Nat}(h:M≤N){v:Vl}(hv:SzV M v):SzV N v:=fun q hq=>(hv q hq).mono h
theorem Nu {p q:Int}{M:Nat}(hp:p.natAbs≤M)(hq:q.natAbs≤M):Sz M (low p q):=by
 unfold low
 split<;>refine⟨?_,?_⟩<;>simp only[Int.natAbs_tdiv,Int.natAbs_neg]<;>exact Nat.le_trans (Nat.div_le_self _ _) (by assumption)
theorem Fo {a b:Int}{M N:Nat}(ha:a.natAbs≤M)(hb:b.natAbs≤N):(a*b).natAbs≤M*N:=by
 rw[Int.natAbs_mul];exact Nat.mul_le_mul ha hb
theorem Qi {a b:Q}{M N:Nat}(ha:Sz M a)(hb:Sz N b):Sz (2*(M*N)) (Ak a b):=by
 have h1:=Fo ha.1 hb.2
 have h2:=Fo hb.1 ha.2
 have h3:=Fo ha.2 hb.2
 have h4:=Int.natAbs_add_le (a.1*b.2) (b.1*a.2)
 rw[Nat.mul_comm N M] at h2
 exact Nu (by omega) (by omega)
theorem neg_sz {b:Q}{M:Nat}(hb:Sz M b):Sz M (-b.1,b.2):=⟨by simpa using hb.1,hb.2⟩
theorem Ol {op:Nat}{a b:Q}{M N:Nat}(ha:Sz M a)(hb:Sz N b):Sz (2*(M*N)) (opQ op a b):=by
 have dbl:M*N≤2*(M*N):=by omega
 unfold opQ
 split
 ·exact Qi ha hb
 ·exact Qi ha (neg_sz hb)
 ·exact(Nu (Fo ha.1 hb.1) (Fo ha.2 hb.2)).mono dbl
 ·exact(Nu (Fo ha.1 hb.2) (Fo ha.2 hb.1)).mono dbl
theorem GM {M:Nat}(h1:1≤M){v:Vl}(hv:SzV M v):Sz M (v.it.headD (0,1)):=by
 cases h:v.it with
 | nil=>exact⟨by simp,by simpa using h1⟩
 | cons q r=>exact hv q (by simp[h])
theorem Qb {α β γ:Type}{f:α→β→γ} : ∀{l:List α} {r:List β} {x:γ},x∈List.zipWith f l r→∃a∈l,∃b∈r,x=f a b
 | [],_,x,h=>by simp at h
 | _::_,[],x,h=>by simp at h
 | a::l,b::r,x,h=>by
  simp only[List.zipWith_cons_cons,List.mem_cons] at h
  rcases h with h|h
  ·exact⟨a,by simp,b,by simp,h⟩
  ·obtain⟨a',ha,b',hb,e⟩:=Qb h
   exact⟨a',by simp[ha],b',by simp[hb],e⟩
theorem Nk {v w:Vl}(h:Ed v=.ok w):w=v:=by
 unfold Ed at h
 split at h
 ·exact(Except.ok.inj h).symm
 ·cases h
theorem Iv {op:Nat}{u v w:Vl}{M N:Nat}(hu:SzV M u)(hv:SzV N v)(hM:1≤M)(hN:1≤N)(h:Ck op u v=.ok w):SzV (2*(M*N)) w:=by
 unfold Ck at h
 split at h
 ·cases h
 ·have:=Nk h
  subst this
  intro q hq
  simp only[Hy] at hq
  split at hq
  ·obtain⟨y,hy,rfl⟩:=List.mem_map.1 hq
   exact Ol (GM hM hu) (hv y hy)
  ·obtain⟨x,hx,rfl⟩:=List.mem_map.1 hq
   exact Ol (hu x hx) (GM hN hv)
  ·obtain⟨x,hx,y,hy,rfl⟩:=Qb hq
   exact Ol (hu x hx) (hv y hy)
def H (M:Nat):Nat:=8*M^4
def G:Nat→Nat→Nat
 | 0,M=>M
 | l+1,M=>H (G l M)
theorem Zr {M:Nat}(h:1≤M):M≤M^4:=by
 have:=Nat.pow_le_pow_right h (show 1≤4 by decide)
 rwa[Nat.pow_one] at this
theorem Zj {M:Nat}(h:1≤M):M*M≤M^4:=by
 have:=Nat.pow_le_pow_right h (show 2≤4 by decide)
 rwa[Nat.pow_two] at this
theorem NA {M:Nat}(h:1≤M):M≤H M:=by have:=Zr h;unfold H;omega
theorem sq_H {M:Nat}(h:1≤M):2*(M*M)≤H M:=by have:=Zj h;unfold H;omega
theorem EN {l M:Nat}(h:1≤M):M≤G l M:=by
 induction l with
 | zero=>exact Nat.le_refl _
 | succ l ih=>exact Nat.le_trans ih (NA (Nat.le_trans h ih))
theorem G_two {l M:Nat}(h:1≤M)(hl:l≤1):G l (G l M)≤G (l+1) M:=by
 match l,hl with
 | 0,_=>exact NA h
 | 1,_=>exact Nat.le_refl _
theorem U5 {M:Nat}(h1:1≤M):∀(r:List Vl) (q:Q) (N:Nat),Sz N q→(∀v∈r,SzV M v)→Sz (N*(2*M)^r.length) (r.foldl (fun q w=>Ak q (w.it.headD (0,1))) q)
 | [],q,N,hq,_=>by simpa using hq
 | v::r,q,N,hq,hr=>by
  have hp:=Qi hq (GM h1 (hr v (by simp)))
  have:=U5 h1 r _ _ hp (fun w hw=>hr w (by simp[hw]))
  refine this.mono ?_
  rw[List.length_cons,Nat.pow_succ]
  generalize (2*M)^r.length=P
  exact Nat.le_of_eq (by ac_rfl)
theorem sum_sz {M:Nat}(h1:1≤M){l:List Vl}(hl:∀v∈l,SzV M v)(h4:l.length≤4):Sz (H M) (M4 l):=by
 match l,hl,h4 with
 | [],_,_=>exact⟨by simp[M4],by have:=NA h1;simp[M4];omega⟩
 | v::r,hl,h4=>
  have:=U5 h1 r _ _ (GM h1 (hl v (by simp))) (fun w hw=>hl w (by simp[hw]))
  refine this.mono ?_
  have h3:r.length≤3:=by simpa using h4
  have hp:(2*M)^r.length≤(2*M)^3:=Nat.pow_le_pow_right (by omega) h3
  have:=Nat.mul_le_mul_left M hp
  refine Nat.le_trans this ?_
  rw[Nat.mul_pow]
  unfold H
  rw[Nat.mul_left_comm,←Nat.pow_succ']
  exact Nat.le_refl _
structure EnSz (e:En)(cb:Option (Nat×Q)):Prop where
 a:SzV 65536 e.a
 b:SzV 65536 e.b
 c:SzV 65536 e.c
 v:SzV 65536 e.v
 w:SzV 65536 e.w
 q:∀k q,cb=some (k,q)→Sz 65536 q
def C0:Nat:=2*(65536*65536)
theorem U1 {M:Nat}{s:List Nat} : ∀{bs:Bs} {o:Option Vl} {v:Vl},(∀p∈bs,SzV M p.2)→(∀v,o=some v→SzV M v)→DM bs s o=some v→SzV M v
 | [],_,_,_,ho,h=>ho _ h
 | p::r,o,v,hb,ho,h=>by
  refine U1 (bs:=r) (fun q hq=>hb q (by simp[hq])) (fun w hw=>?_) h
  cases hp:Av p.1 s with
  | true=>rw[hp] at hw;cases hw;exact hb p (by simp)
  | false=>rw[hp] at hw;exact ho w hw
theorem nm_sz {e:En}{cb:Option (Nat×Q)}(he:EnSz e cb){s:List Nat}{v:Vl}(h:e.nm s=some v):SzV 65536 v:=by
 unfold En.nm at h
 cases h1:Av s nA with
 | true=>rw[h1] at h;cases h;exact he.a
 | false=>
 cases h2:Av s nB with
 | true=>rw[h1,h2] at h;cases h;exact he.b
 | false=>
 cases h3:Av s nC with
 | true=>rw[h1,h2,h3] at h;cases h;exact he.c
 | false=>
 cases h4:Av s nV with
 | true=>rw[h1,h2,h3,h4] at h;cases h;exact he.v
 | false=>
 cases h5:Av s nW with
 | true=>rw[h1,h2,h3,h4,h5] at h;cases h;exact he.w
 | false=>rw[h1,h2,h3,h4,h5] at h;cases h
theorem PO {z u:Nat}(hz:z<10):SzV 65536 (litV ((z:Int),1) u):=by
 have key:∀(f:Int),0<f→f<4000→Sz 65536 (AE ((z:Int),1) (f,1)):=fun f h1 h2=>by
  rw[Ic]
  refine⟨?_,by simp⟩
  show((z:Int)*f).natAbs≤65536
  rw[Int.natAbs_mul]
  have h3:((z:Int)).natAbs*f.natAbs≤10*4000:=Nat.mul_le_mul (by omega) (by omega)
  omega
 unfold litV
 intro q hq
 split at hq<;>simp only[List.mem_singleton] at hq<;>subst hq
 ·exact⟨by simp only[Int.natAbs_natCast];omega,by simp⟩
 all_goals exact key _ (by decide) (by decide)
theorem Qd {M:Nat}{f:Nat→Int→Rs} : ∀(c i:Nat) (n:Int) {l:List Vl} {m:Int},(∀j n v n',i≤j→j<i+c→f j n=.ok (v,n')→SzV M v)→BU f c i n=.ok (l,m)→(∀v∈l,SzV M v)∧l.length=c
 | 0,_,_,l,m,_,h=>by
  simp only[BU,Except.ok.injEq,Prod.mk.injEq] at h
  obtain⟨rfl,_⟩:=h
  simp
 | c+1,i,n,l,m,hf,h=>by
  simp only[BU] at h
  cases h1:f i n with
  | error e=>rw[h1] at h;cases h
  | ok q=>
   obtain⟨v,n1⟩:=q
   rw[h1] at h
   simp only at h
   cases h2:BU f c (i+1) n1 with
   | error e=>rw[h2] at h;cases h
   | ok r=>
    obtain⟨l',n2⟩:=r
    rw[h2] at h
    simp only[Except.ok.injEq,Prod.mk.injEq] at h
    obtain⟨rfl,_⟩:=h
    obtain⟨a,b⟩:=Qd c (i+1) n1 (fun j n v n' h3 h4=>hf j n v n' (by omega) (by omega)) h2
    refine⟨fun w hw=>?_,by simp[b]⟩
    rcases List.mem_cons.1 hw with rfl|hw
    ·exact hf i n _ n1 (Nat.le_refl _) (by omega) h1
    ·exact a w hw
theorem EA {r:Except Nat Vl}{n n':Int}{v:Vl}(h:CH r n=.ok (v,n')):r=.ok v:=by
 cases r with
 | error e=>cases h
 | ok w=>simp only[CH,Except.ok.injEq,Prod.mk.injEq] at h;rw[h.1]
theorem XY {e:En}{cb:Option (Nat×Q)}(he:EnSz e cb){l:Nat}{ins:Bool}{k:Kd}{x:X}(h:Ty l ins k x):∀{bs:Bs} {M:Nat} {n n':Int} {v:Vl},C0≤M→l≤2→(∀p∈bs,SzV M p.2)→(∀p∈bs,p.1∈Ch)→evS e cb bs x n=.ok (v,n')→SzV (G l M) v:=by
 have pos:∀{M:Nat},C0≤M→65536≤M:=fun h=>Nat.le_trans (by decide) h
 have lf:∀{ins k x},Lf ins k x→∀{bs:Bs} {M:Nat} {n n':Int} {v:Vl},C0≤M→(∀p∈bs,SzV M p.2)→evS e cb bs x n=.ok (v,n')→SzV M v:=by
  intro ins k x h bs M n n' v hM hb hv
  have nm:∀{s:List Nat} {o:Option Vl},(∀w,o=some w→SzV 65536 w)→(match DM bs s o with|some v=>(.ok (v,n+1):Rs)|none=>.error 4)=.ok (v,n')→SzV M v:=by
   intro s o ho h
   cases hf:DM bs s o with
   | none=>rw[hf] at h;cases h
   | some w=>
    rw[hf] at h
    simp only[Except.ok.injEq,Prod.mk.injEq] at h
    obtain⟨rfl,_⟩:=h
    exact U1 hb (fun w hw=>(ho w hw).mono (pos hM)) hf
  cases h with
  | ref _=>simp only[evS] at hv;exact nm (fun w hw=>nm_sz he hw) hv
  | idx _=>simp only[evS] at hv;exact nm (fun w hw=>nm_sz he hw) hv
  | lit _ h1 h2=>
   simp only[evS,Except.ok.injEq,Prod.mk.injEq] at hv
   obtain⟨rfl,_⟩:=hv
   intro q hq
   simp only[litV,List.mem_singleton] at hq
   subst hq
   have:=pos hM
   exact⟨by omega,by omega⟩
  | met _ hz _=>
   simp only[evS,Except.ok.injEq,Prod.mk.injEq] at hv
   obtain⟨rfl,_⟩:=hv
   exact(PO hz).mono (pos hM)
  | sec _ hz _=>
   simp only[evS,Except.ok.injEq,Prod.mk.injEq] at hv
   obtain⟨rfl,_⟩:=hv
   exact(PO hz).mono (pos hM)
 have lf2:∀{ins k x},Lf ins k x→(k=.m∨k=.s)→∀{bs:Bs} {n n':Int} {v:Vl},(∀p∈bs,p.1∈Ch)→evS e cb bs x n=.ok (v,n')→SzV 65536 v:=by
  intro ins k x h hk bs n n' v hm hv
  cases h with
  | ref hr=>
   rcases hk with rfl|rfl<;>simp only[nmK,Option.some.injEq] at hr<;>subst hr<;>simp only[evS] at hv
   ·rw[E8 fun p hp=>(Lb (hm p hp)).2.1] at hv
    simp only[En.nm] at hv
    have:v=e.b:=by
     have h:(.ok (e.b,n+1):Rs)=.ok (v,n'):=hv
     simp only[Except.ok.injEq,Prod.mk.injEq] at h
     exact h.1.symm
    subst this;exact he.b
   ·rw[E8 fun p hp=>(Lb (hm p hp)).2.2.1] at hv
    simp only[En.nm] at hv
    have:v=e.c:=by
     have h:(.ok (e.c,n+1):Rs)=.ok (v,n'):=hv
     simp only[Except.ok.injEq,Prod.mk.injEq] at h
     exact h.1.symm
    subst this;exact he.c
  | idx _=>rcases hk with h|h<;>cases h
  | lit _ _ _=>rcases hk with h|h<;>cases h
  | met _ hz _=>
   simp only[evS,Except.ok.injEq,Prod.mk.injEq] at hv
   obtain⟨rfl,_⟩:=hv
   exact PO hz
  | sec _ hz _=>
   simp only[evS,Except.ok.injEq,Prod.mk.injEq] at hv
   obtain⟨rfl,_⟩:=hv
   exact PO hz
 have push:∀{bs:Bs} {M:Nat} {s:List Nat} {u:Vl},(∀p∈bs,SzV M p.2)→SzV M u→∀p∈bs++[(s,u)],SzV M p.2:=by
  intro bs M s u hb hu p hp
  rcases List.mem_append.1 hp with hp|hp
  ·exact hb p hp
  ·simp only[List.mem_singleton] at hp
   subst hp
   exact hu
 have pushn:∀{bs:Bs} {s:List Nat} {u:Vl},(∀p∈bs,p.1∈Ch)→s∈Ch→∀p∈bs++[(s,u)],p.1∈Ch:=by
  intro bs s u hb hu p hp
  rcases List.mem_append.1 hp with hp|hp
  ·exact hb p hp
  ·simp only[List.mem_singleton] at hp
   subst hp
   exact hu
 have idx:∀{M i:Nat},C0≤M→i<4→SzV M (DU i):=by
  intro M i hM hi q hq
  have:=pos hM
  simp only[DU,List.mem_singleton] at hq
  subst hq
  exact⟨by simp only[Int.natAbs_natCast];omega,by simp;omega⟩
 have one:∀{M:Nat} {z:Int},1≤M→z.natAbs≤1→SzV 1 (⟨[],[(z,1)],.pl⟩:Vl):=by
  intro M z hM hz q hq
  simp only[List.mem_singleton] at hq
  subst hq
  exact⟨hz,by simp⟩
 induction h with
 | leaf hl=>
  intro bs M n n' v hM h2 hb hm hv
  exact(lf hl hM hb hv).mono (EN (Nat.le_trans (by decide) hM))
 | @leaf2 l ins op ka kb k a b ha hb' ho hk hm1 hm2=>
  intro bs M n n' v hM h2 hb hm hv
  have h1:1≤M:=Nat.le_trans (by decide) hM
  have hg:1≤G _ M:=Nat.le_trans h1 (EN (l:=l) h1)
  simp only[evS] at hv
  cases ha1:evS e cb bs a (n+1) with
  | error _=>rw[ha1] at hv;cases hv
  | ok p=>
  obtain⟨pv,pn⟩:=p
  rw[ha1] at hv
  simp only at hv
  cases hb1:evS e cb bs b pn with
  | error _=>rw[hb1] at hv;cases hv
  | ok q=>
  obtain⟨qv,qn⟩:=q
  rw[hb1] at hv
  simp only at hv
  have:=Iv (lf2 ha (.inl hm1) hm ha1) (lf2 hb' hm2 hm hb1) (by decide) (by decide) (EA hv)
  exact(this.mono hM).mono (EN h1)
 | @bin l ins op ka kb k a b _ _ _ _ iha ihb=>
  intro bs M n n' v hM h2 hb hm hv
  have h1:1≤M:=Nat.le_trans (by decide) hM
  have hg:1≤G _ M:=Nat.le_trans h1 (EN (l:=l) h1)
  simp only[evS] at hv
  cases ha1:evS e cb bs a (n+1) with
  | error _=>rw[ha1] at hv;cases hv
  | ok p=>
  obtain⟨pv,pn⟩:=p
  rw[ha1] at hv
  simp only at hv
  cases hb1:evS e cb bs b pn with
  | error _=>rw[hb1] at hv;cases hv
  | ok q=>
  obtain⟨qv,qn⟩:=q
  rw[hb1] at hv
  simp only at hv
  exact(Iv (iha hM (by omega) hb hm ha1) (ihb hM (by omega) hb hm hb1) hg hg (EA hv)).mono (sq_H hg)
 | @ite l ins ko k a b c d _ _ _ _ _ iha ihb ihc ihd=>
  intro bs M n n' v hM h2 hb hm hv
  have h1:1≤M:=Nat.le_trans (by decide) hM
  have hg:1≤G _ M:=Nat.le_trans h1 (EN (l:=l) h1)
  simp only[evS] at hv
  cases ha1:evS e cb bs a (n+1) with
  | error _=>rw[ha1] at hv;cases hv
  | ok p=>
  obtain⟨pv,pn⟩:=p
  rw[ha1] at hv
  simp only at hv
  cases hb1:evS e cb bs b pn with
  | error _=>rw[hb1] at hv;cases hv
  | ok q=>
  obtain⟨qv,qn⟩:=q
  rw[hb1] at hv
  simp only at hv
  by_cases hl:RJ pv qv=true
  ·simp only[hl,if_true] at hv
   exact(ihc hM (by omega) hb hm hv).mono (NA hg)
  ·simp only[hl,Bool.false_eq_true,if_false] at hv
   exact(ihd hM (by omega) hb hm hv).mono (NA hg)
 | @lett l ins k s a b hs _ _ iha ihb=>
  intro bs M n n' v hM h2 hb hm hv
  have h1:1≤M:=Nat.le_trans (by decide) hM
  have hg:1≤G _ M:=Nat.le_trans h1 (EN (l:=l) h1)
  simp only[evS] at hv
  cases ha1:evS e cb bs a (n+1) with
  | error _=>rw[ha1] at hv;cases hv
  | ok p=>
  obtain⟨pv,pn⟩:=p
  rw[ha1] at hv
  simp only at hv
  have hM2:C0≤G l M:=Nat.le_trans hM (EN h1)
  have:=ihb hM2 (by omega) (push (fun p hp=>(hb p hp).mono (EN h1)) (iha hM (by omega) hb hm ha1)) (pushn hm (by rcases hs with rfl|rfl<;>decide)) hv
  exact this.mono (G_two h1 (by omega))
 | @neg l ins k a _ iha=>
  intro bs M n n' v hM h2 hb hm hv
  have h1:1≤M:=Nat.le_trans (by decide) hM
  have hg:1≤G _ M:=Nat.le_trans h1 (EN (l:=l) h1)
  simp only[evS] at hv
  cases ha1:evS e cb bs a (n+1) with
  | error _=>rw[ha1] at hv;cases hv
  | ok p=>
  obtain⟨pv,pn⟩:=p
  rw[ha1] at hv
  simp only at hv
  have:=Iv (one hg (by decide)) (iha hM (by omega) hb hm ha1) (by decide) hg (EA hv)
  have h4:=Zr hg
  refine this.mono ?_
  show 2*(1*G l M)≤8*(G l M)^4
  omega
 | @tab l ins k ka a _ _ iha=>
  intro bs M n n' v hM h2 hb hm hv
  have h1:1≤M:=Nat.le_trans (by decide) hM
  have hg:1≤G _ M:=Nat.le_trans h1 (EN (l:=l) h1)
  simp only[evS] at hv
  cases ha1:BU (fun i n=>evS e cb (bs++[(nmI,DU i)]) a n) 3 0 (n+1) with
  | error _=>rw[ha1] at hv;cases hv
  | ok p=>
  obtain⟨pv,pn⟩:=p
  rw[ha1] at hv
  simp only at hv
  simp only[Except.ok.injEq,Prod.mk.injEq] at hv
  obtain⟨rfl,_⟩:=hv
  obtain⟨hl,_⟩:=Qd (M:=G l M) 3 0 (n+1) (fun j n v n' _ hj hv=>iha hM (by omega) (push hb (idx hM (by omega))) (pushn hm (by decide)) hv) ha1
  intro q hq
  simp only[KI,List.mem_flatMap] at hq
  obtain⟨w,hw,hq⟩:=hq
  exact(hl w hw q hq).mono (NA hg)
 | @lst l ins k ka a b c _ _ _ _ iha ihb ihc=>
  intro bs M n n' v hM h2 hb hm hv
  have h1:1≤M:=Nat.le_trans (by decide) hM
  have hg:1≤G _ M:=Nat.le_trans h1 (EN (l:=l) h1)
  simp only[evS] at hv
  cases ha1:evS e cb bs a (n+1) with
  | error _=>rw[ha1] at hv;cases hv
  | ok p=>
  obtain⟨pv,pn⟩:=p
  rw[ha1] at hv
  simp only at hv
  cases hb1:evS e cb bs b pn with
  | error _=>rw[hb1] at hv;cases hv
  | ok q=>
  obtain⟨qv,qn⟩:=q
  rw[hb1] at hv
  simp only at hv
  cases hc1:evS e cb bs c qn with
  | error _=>rw[hc1] at hv;cases hv
  | ok r=>
  obtain⟨rv,rn⟩:=r
  rw[hc1] at hv
  simp only at hv
  simp only[Except.ok.injEq,Prod.mk.injEq] at hv
  obtain⟨rfl,_⟩:=hv
  intro x hx
  simp only[KI,List.mem_flatMap,List.mem_cons,List.not_mem_nil,or_false] at hx
  obtain⟨w,hw,hx⟩:=hx
  rcases hw with rfl|rfl|rfl
  ·exact(iha hM (by omega) hb hm ha1 x hx).mono (NA hg)
  ·exact(ihb hM (by omega) hb hm hb1 x hx).mono (NA hg)
  ·exact(ihc hM (by omega) hb hm hc1 x hx).mono (NA hg)
 | @sum l ins k c a _ _ h4 _ iha=>
  intro bs M n n' v hM h2 hb hm hv
  have h1:1≤M:=Nat.le_trans (by decide) hM
  have hg:1≤G _ M:=Nat.le_trans h1 (EN (l:=l) h1)
  simp only[evS] at hv
  cases ha1:BU (fun i n=>evS e cb (bs++[(nmI,DU i)]) a n) c 0 (n+1) with
  | error _=>rw[ha1] at hv;cases hv
  | ok p=>
  obtain⟨pv,pn⟩:=p
  rw[ha1] at hv
  simp only at hv
  obtain⟨hl,hlen⟩:=Qd (M:=G l M) c 0 (n+1) (fun j n v n' _ hj hv=>iha hM (by omega) (push hb (idx hM (by omega))) (pushn hm (by decide)) hv) ha1
  have:=Nk (EA hv)
  subst this
  intro x hx
  simp only[List.mem_singleton] at hx
  subst hx
  exact sum_sz hg hl (by omega)
 | @elt l ins k ka a p d i _ hi _ _ iha=>
  intro bs M n n' v hM h2 hb hm hv
  have h1:1≤M:=Nat.le_trans (by decide) hM
  have hg:1≤G _ M:=Nat.le_trans h1 (EN (l:=l) h1)
  simp only[evS] at hv
  cases ha1:evS e cb bs a (n+1) with
  | error _=>rw[ha1] at hv;cases hv
  | ok p=>
  obtain⟨pv,pn⟩:=p
  rw[ha1] at hv
  simp only at hv
  have hv:=EA hv
  unfold OQ at hv
  split at hv
  ·rename_i q hq
   simp only[Except.ok.injEq] at hv
   subst hv
   intro x hx
   simp only[List.mem_singleton] at hx
   subst hx
   exact(iha hM (by omega) hb hm ha1 _ (List.mem_of_getElem? hq)).mono (NA hg)
  ·cases hv
 | @call l ins a _ iha=>
  intro bs M n n' v hM h2 hb hm hv
  have h1:1≤M:=Nat.le_trans (by decide) hM
  have hg:1≤G _ M:=Nat.le_trans h1 (EN (l:=l) h1)
  simp only[evS] at hv
  cases ha1:evS e cb bs a (n+1) with
  | error _=>rw[ha1] at hv;cases hv
  | ok p=>
  obtain⟨pv,pn⟩:=p
  rw[ha1] at hv
  simp only at hv
  have hp:=iha hM (by omega) hb hm ha1
  have h4:=Zj hg
  have h5:=Zr hg
  match cb,hv with
  | none,hv=>
   unfold G8 at hv
   cases hc:Ck 5 ⟨[],[(0,1)],.pl⟩ pv with
   | error _=>rw[hc] at hv;cases hv
   | ok w=>
    rw[hc] at hv
    have hw:=Iv (one hg (by decide)) hp (by decide) hg hc
    have:=Iv hp hw hg (by omega) (EA hv)
    refine this.mono ?_
    show _≤8*(G l M)^4
    have e2:G l M*(2*(1*G l M))=2*(G l M*G l M):=by rw[Nat.one_mul,Nat.mul_left_comm]
    rw[e2]
    omega
  | some (k,q),hv=>
   unfold G8 at hv
   by_cases hl:RD k pv=true
   ·simp only[hl,if_true] at hv
    have hq:SzV M (⟨[],[q],.pl⟩:Vl):=by
     intro x hx
     simp only[List.mem_singleton] at hx
     subst hx
     exact(he.q k _ rfl).mono (pos hM)
    have:=Iv (hq.mono (EN (l:=l) h1)) hp hg hg (EA hv)
    exact this.mono (sq_H hg)
   ·simp only[hl,Bool.false_eq_true,if_false,Except.ok.injEq,Prod.mk.injEq] at hv
    obtain⟨rfl,_⟩:=hv
    exact hp.mono (NA hg)
 | @sq l ins a _ iha=>
  intro bs M n n' v hM h2 hb hm hv
  have h1:1≤M:=Nat.le_trans (by decide) hM
  have hg:1≤G _ M:=Nat.le_trans h1 (EN (l:=l) h1)
  simp only[evS] at hv
  cases ha1:evS e cb bs a (n+1) with
  | error _=>rw[ha1] at hv;cases hv
  | ok p=>
  obtain⟨pv,pn⟩:=p
  rw[ha1] at hv
  simp only at hv
  have hp:=GM hg (iha hM (by omega) hb hm ha1)
  have:=Nk (EA hv)
  subst this
  intro x hx
  simp only[List.mem_singleton] at hx
  subst hx
  have o:Sz 1 ((1,1):Q):=⟨by decide,by decide⟩
  have h3:Sz (1*G l M) (AE (1,1) (pv.it.headD (0,1))):=Nu (Fo o.1 hp.1) (Fo o.2 hp.2)
  have h4:Sz (1*G l M*G l M) (sqQ (pv.it.headD (0,1))):=Nu (Fo h3.1 hp.1) (Fo h3.2 hp.2)
  have h5:=Zj hg
  refine h4.mono ?_
  rw[Nat.one_mul]
  show _≤8*(G l M)^4
  omega
def EO:Nat→Int
 | 0=>3
 | l+1=>7+4*EO l
theorem Lz {l:Nat}{ins:Bool}{k:Kd}{x:X}(h:Ty l ins k x):x.cost≤EO l:=by
 have pos:∀l,3≤EO l:=by
  intro l
  induction l with
  | zero=>decide
  | succ l ih=>simp only[EO];omega
 induction h with
 | leaf hl=>rw[Ek hl];have:=pos (by assumption);omega
 | @leaf2 l _ _ _ _ _ _ _ ha hb _ _ _ _=>simp only[X.cost,Ek ha,Ek hb];have:=pos l;omega
 | @bin l _ _ _ _ _ _ _ _ _ _ _ iha ihb=>simp only[X.cost,EO];have:=pos l;omega
 | @ite l _ _ _ _ _ _ _ _ _ _ _ _ iha ihb ihc ihd=>simp only[X.cost,EO];have:=pos l;omega
 | @lett l _ _ _ _ _ _ _ _ iha ihb=>simp only[X.cost,EO];have:=pos l;omega
 | @neg l _ _ _ _ iha=>simp only[X.cost,EO];have:=pos l;omega
 | @tab l _ _ _ a _ _ iha=>simp only[X.cost,EO];have:=pos l;have:=AA a;omega
 | @lst l _ _ _ _ _ _ _ _ _ _ iha ihb ihc=>simp only[X.cost,EO];have:=pos l;omega
 | @sum l _ _ n a _ _ h4 _ iha=>
  simp only[X.cost,EO]
  have:=pos l
  have:=AA a
  have:(n:Int)*a.cost≤4*a.cost:=Int.mul_le_mul_of_nonneg_right (by omega) (by omega)
  omega
 | @elt l _ _ _ _ _ _ _ _ _ _ _ iha=>simp only[X.cost,EO];have:=pos l;omega
 | @call l _ _ _ iha=>simp only[X.cost,EO];have:=pos l;omega
 | @sq l _ _ _ iha=>simp only[X.cost,EO];have:=pos l;omega
theorem AaE {op:Nat}{u v:Vl}{M N:Nat}(hu:SzV M u)(hv:SzV N v)(hM:1≤M)(hN:1≤N):∀q∈Hy op u v,Sz (2*(M*N)) q:=by
 intro q hq
 simp only[Hy] at hq
 split at hq
 ·obtain⟨y,hy,rfl⟩:=List.mem_map.1 hq
  exact Ol (GM hM hu) (hv y hy)
 ·obtain⟨x,hx,rfl⟩:=List.mem_map.1 hq
  exact Ol (hu x hx) (GM hN hv)
 ·obtain⟨x,hx,y,hy,rfl⟩:=Qb hq
  exact Ol (hu x hx) (hv y hy)
theorem fit_sz {M:Nat}(hM:M<B^44){q:Q}(h:Sz M q):Be q=true:=by
 have key:∀{z:Int},z.natAbs≤M→Kv z=true:=fun {z} hz=>Gl (IH (Nat.lt_of_le_of_lt hz hM))
 unfold Be
 rw[key h.1,key h.2]
 rfl
theorem Q2 {op:Nat}(ho:op≠6){u v:Vl}{M N:Nat}(hu:SzV M u)(hv:SzV N v)(hM:1≤M)(hN:1≤N)(h:2*(M*N)<B^44):∃w,Ck op u v=.ok w:=by
 unfold Ck
 rw[if_neg (fun h=>ho h.1)]
 unfold Ed
 rw[if_pos (List.all_eq_true.2 fun q hq=>fit_sz h (AaE hu hv hM hN q hq))]
 exact⟨_,rfl⟩
theorem big_ok:2*(G 2 C0*G 2 C0)<B^44:=Bb (by kernel_rfl)
theorem Tz:1≤G 2 C0:=Nat.le_of_ble_eq_true (by kernel_rfl)
theorem NQ {v:Vl}{er:Nat}(h:Ed v=.error er):er≠0:=by
 unfold Ed at h
 split at h
 ·cases h
 ·cases h;decide
theorem J8 {op:Nat}{u v:Vl}{er:Nat}(h:Ck op u v=.error er):er≠0:=by
 unfold Ck at h
 by_cases hc:op=6∧(v.it.any fun q=>decide (q.1=0))=true
 ·rw[if_pos hc] at h
  cases h;decide
 ·rw[if_neg hc] at h
  exact NQ h
theorem Fi {r:Except Nat Vl}{n:Int}{er:Nat}(h:CH r n=.error er):r=.error er:=by
 cases r with
 | error e=>simp only[CH,Except.error.injEq] at h;rw[h]
 | ok w=>cases h
theorem PY {f:Nat→Int→Rs}(hf:∀i n er,f i n=.error er→er≠0):∀(c i:Nat) (n:Int) {er:Nat},BU f c i n=.error er→er≠0
 | 0,_,_,_,h=>by cases h
 | c+1,i,n,er,h=>by
  simp only[BU] at h
  cases h1:f i n with
  | error e=>rw[h1] at h;simp only[Except.error.injEq] at h;subst h;exact hf _ _ _ h1
  | ok q=>
   rw[h1] at h
   simp only at h
   cases h2:BU f c (i+1) q.2 with
   | error e=>rw[h2] at h;simp only[Except.error.injEq] at h;subst h;exact PY hf c _ _ h2
   | ok r=>rw[h2] at h;cases h
theorem Ab8 {cb:Option (Nat×Q)}{u:Vl}{n:Int}{er:Nat}(h:G8 cb u n=.error er):er≠0:=by
 match cb,h with
 | none,h=>
  unfold G8 at h
  cases hc:Ck 5 ⟨[],[(0,1)],.pl⟩ u with
  | error e=>rw[hc] at h;simp only[Except.error.injEq] at h;subst h;exact J8 hc
  | ok w=>rw[hc] at h;exact J8 (Fi h)
 | some (k,q),h=>
  unfold G8 at h
  by_cases hl:RD k u=true
  ·simp only[hl,if_true] at h;exact J8 (Fi h)
  ·simp only[hl,Bool.false_eq_true,if_false] at h;cases h
theorem Kr {e:En}{cb:Option (Nat×Q)} : ∀(x:X) (bs:Bs) (n:Int) (er:Nat),evS e cb bs x n=.error er→er≠0:=by
 intro x
 induction x with
 | lit p q r u=>intro bs n er h;cases h
 | ref s=>
  intro bs n er h
  simp only[evS] at h
  cases hf:DM bs s (e.nm s) with
  | none=>rw[hf] at h;simp only[Except.error.injEq] at h;subst h;decide
  | some v=>rw[hf] at h;cases h
 | bin op a b iha ihb=>
  intro bs n er hv
  simp only[evS] at hv
  cases h1:evS e cb bs a (n+1) with
  | error _=>rw[h1] at hv;simp only[Except.error.injEq] at hv;subst hv;exact iha _ _ _ h1
  | ok p=>
  rw[h1] at hv
  simp only at hv
  cases h2:evS e cb bs b p.2 with
  | error _=>rw[h2] at hv;simp only[Except.error.injEq] at hv;subst hv;exact ihb _ _ _ h2
  | ok q=>rw[h2] at hv;exact J8 (Fi hv)
 | neg a iha=>
  intro bs n er hv
  simp only[evS] at hv
  cases h1:evS e cb bs a (n+1) with
  | error _=>rw[h1] at hv;simp only[Except.error.injEq] at hv;subst hv;exact iha _ _ _ h1
  | ok p=>rw[h1] at hv;exact J8 (Fi hv)
 | sq a iha=>
  intro bs n er hv
  simp only[evS] at hv
  cases h1:evS e cb bs a (n+1) with
  | error _=>rw[h1] at hv;simp only[Except.error.injEq] at hv;subst hv;exact iha _ _ _ h1
  | ok p=>rw[h1] at hv;exact NQ (Fi hv)
 | lst a b c iha ihb ihc=>
  intro bs n er hv
  simp only[evS] at hv
  cases h1:evS e cb bs a (n+1) with
  | error _=>rw[h1] at hv;simp only[Except.error.injEq] at hv;subst hv;exact iha _ _ _ h1
  | ok p=>
  rw[h1] at hv
  simp only at hv
  cases h2:evS e cb bs b p.2 with
  | error _=>rw[h2] at hv;simp only[Except.error.injEq] at hv;subst hv;exact ihb _ _ _ h2
  | ok q=>
  rw[h2] at hv
  simp only at hv
  cases h3:evS e cb bs c q.2 with
  | error _=>rw[h3] at hv;simp only[Except.error.injEq] at hv;subst hv;exact ihc _ _ _ h3
  | ok r=>rw[h3] at hv;cases hv
 | «at» a b iha ihb=>
  intro bs n er hv
  simp only[evS] at hv
  cases h1:evS e cb bs a (n+1) with
  | error _=>rw[h1] at hv;simp only[Except.error.injEq] at hv;subst hv;exact iha _ _ _ h1
  | ok p=>
  rw[h1] at hv
  simp only at hv
  cases h2:evS e cb bs b p.2 with
  | error _=>rw[h2] at hv;simp only[Except.error.injEq] at hv;subst hv;exact ihb _ _ _ h2
  | ok q=>
   rw[h2] at hv
   have hv:=Fi hv
   unfold OQ at hv
   split at hv
   ·cases hv
   ·cases hv;decide
 | tab c a iha=>
  intro bs n er hv
  simp only[evS] at hv
  cases h1:BU (fun i n=>evS e cb (bs++[(nmI,DU i)]) a n) c 0 (n+1) with
  | error _=>rw[h1] at hv;simp only[Except.error.injEq] at hv;subst hv;exact PY (fun i n er h=>iha _ _ _ h) _ _ _ h1
  | ok p=>rw[h1] at hv;cases hv
 | sum c a iha=>
  intro bs n er hv
  simp only[evS] at hv
  cases h1:BU (fun i n=>evS e cb (bs++[(nmI,DU i)]) a n) c 0 (n+1) with
  | error _=>rw[h1] at hv;simp only[Except.error.injEq] at hv;subst hv;exact PY (fun i n er h=>iha _ _ _ h) _ _ _ h1
  | ok p=>rw[h1] at hv;exact NQ (Fi hv)
 | ite a b c d iha ihb ihc ihd=>
  intro bs n er hv
  simp only[evS] at hv
  cases h1:evS e cb bs a (n+1) with
  | error _=>rw[h1] at hv;simp only[Except.error.injEq] at hv;subst hv;exact iha _ _ _ h1
  | ok p=>
  rw[h1] at hv
  simp only at hv
  cases h2:evS e cb bs b p.2 with
  | error _=>rw[h2] at hv;simp only[Except.error.injEq] at hv;subst hv;exact ihb _ _ _ h2
  | ok q=>
  rw[h2] at hv
  simp only at hv
  by_cases hl:RJ p.1 q.1=true
  ·simp only[hl,if_true] at hv;exact ihc _ _ _ hv
  ·simp only[hl,Bool.false_eq_true,if_false] at hv;exact ihd _ _ _ hv
 | lett s a b iha ihb=>
  intro bs n er hv
  simp only[evS] at hv
  cases h1:evS e cb bs a (n+1) with
  | error _=>rw[h1] at hv;simp only[Except.error.injEq] at hv;subst hv;exact iha _ _ _ h1
  | ok p=>rw[h1] at hv;exact ihb _ _ _ hv
 | call a iha=>
  intro bs n er hv
  simp only[evS] at hv
  cases h1:evS e cb bs a (n+1) with
  | error _=>rw[h1] at hv;simp only[Except.error.injEq] at hv;subst hv;exact iha _ _ _ h1
  | ok p=>rw[h1] at hv;exact Ab8 hv
theorem bs0 {l:Nat}(h:l≤3):FH [] l false:=⟨by simpa using h,trivial,nofun,nofun⟩
theorem bsU {u:Vl}{l:Nat}(h:l≤2):FH [(nU,u)] l false:=⟨by simp;omega,(by decide:nU∈Ch),fun p hp hm=>by
 simp only[List.mem_singleton] at hp
 subst hp
 exact absurd hm (by show ¬nU∈Ct;decide),nofun⟩
structure Adds (e:En)(k:Kd)(a b:X)(n m:Int):Prop where
 n0:0<n
 m0:0<m
 n1:n≤400
 m1:m≤400
 add:∃w,VOk k w∧Ev e 1 [] 0 (.bin 3 a b) (.ok (w,n+m+1))
 neg:∃w,VOk k w∧Ev e 1 [] 0 (.neg a) (.ok (w,n+1))
 lett:∃w,VOk k w∧Ev e 1 [] 0 (.lett nU a b) (.ok (w,n+m+1))
theorem adds {e:En}{cb:Option (Nat×Q)}(he:EnOk e cb)(hz:EnSz e cb){k:Kd}{a b:X}(ta:Ty 2 false k a)(tb:Ty 2 false k b){u v:Vl}{n m:Int}(ea:evS e cb [] a 0=.ok (u,n))(eb:evS e cb [] b 0=.ok (v,m)):Adds e k a b n m:=by
 have ca:=Lz ta
 have cb':=Lz tb
 have k2:EO 2=83:=by decide
 rw[k2] at ca cb'
 have pa:=AA a
 have pb:=AA b
 have ga:=Ey he ta (bs0 (by decide)) (n:=0) (by decide) (by omega)
 have gb:=Ey he tb (bs0 (by decide)) (n:=0) (by decide) (by omega)
 obtain⟨vu,a1,a2⟩:=ga.2 u n ea
 obtain⟨vv,b1,b2⟩:=gb.2 v m eb
 have su:=XY hz ta (bs:=[]) (Nat.le_refl C0) (by decide) nofun nofun ea
 have sv:=XY hz tb (bs:=[]) (Nat.le_refl C0) (by decide) nofun nofun eb
 have ea1:evS e cb [] a (0+1)=.ok (u,n+1):=by rw[OA,ea];rfl
 have ebn:∀d,evS e cb [] b d=.ok (v,m+d):=fun d=>by
  have:=OA e cb d b [] 0
  rw[eb,Int.zero_add] at this
  exact this
 refine⟨a1,b1,by omega,by omega,?_,?_,?_⟩
 ·obtain⟨w,hw⟩:=Q2 (op:=3) (by decide) su sv Tz Tz big_ok
  have hev:evS e cb [] (.bin 3 a b) 0=.ok (w,n+m+1):=by
   simp only[evS,ea1,ebn,hw,CH]
   congr 2
   omega
  have g:=Ey he (Ty.bin (op:=3) (k:=k) (by decide) (by simp[kdR]) ta tb) (bs0 (by decide)) (n:=0) (by decide) (by simp only[X.cost];omega)
  have g2:=g.2 _ _ hev
  have g1:=g.1
  rw[hev] at g1
  exact⟨w,g2.1,g1⟩
 ·have o:SzV 1 (⟨[],[(-1,1)],.pl⟩:Vl):=by
   intro q hq
   simp only[List.mem_singleton] at hq
   subst hq
   exact⟨by decide,by decide⟩
  have hbig:2*(1*G 2 C0)<B^44:=Bb (by kernel_rfl)
  obtain⟨w,hw⟩:=Q2 (op:=5) (by decide) o su (by decide) Tz hbig
  have hev:evS e cb [] (.neg a) 0=.ok (w,n+1):=by simp only[evS,ea1,hw,CH]
  have g:=Ey he (Ty.neg ta) (bs0 (by decide)) (n:=0) (by decide) (by simp only[X.cost];omega)
  have g2:=g.2 _ _ hev
  have g1:=g.1
  rw[hev] at g1
  exact⟨w,g2.1,g1⟩
 ·have g1:=(Ey he ta (bs0 (by decide)) (n:=0+1) (by decide) (by omega)).1
  rw[ea1] at g1
  have g2:=(Ey he tb (bsU (u:=u) (by decide)) (n:=n+1) (by omega) (by omega)).1
  rw[Tx tb,ebn] at g2
  have:=Si (own:=CL []) (CD []) (n:=0) (by decide) (by decide) (s:=nU) (by decide) g1 (bdL0k (by decide) g2)
  rw[show m+(n+1)=n+m+1 by omega] at this
  exact⟨v,vv,this⟩
end Go.Ev
end
