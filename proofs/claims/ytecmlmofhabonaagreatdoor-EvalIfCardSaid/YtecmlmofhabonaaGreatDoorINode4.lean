/- What the evaluator of the program does at a node of an expression, told of whatever its arguments evaluate to. -/
import Derived.Test.YtecmlmofhabonaaGreatDoorINode3
import Derived.RowKitTokens
noncomputable section
namespace Go.Ev
open Go Go.Ab Go.Nl Go.Nb Go.RowKit Go.Proofs Go.E4
set_option maxRecDepth 1000000
def Good (e:En)(cb:Option (Nat×Q))(bs:Bs)(x:X)(k:Kd)(n:Int):Prop:=
 Ev e 1 (CL bs) n x (evS e cb bs x n)∧∀v n',evS e cb bs x n=.ok (v,n')→VOk k v∧n<n'∧n'≤n+x.cost
theorem AI:∀x:X,1≤x.cost
 |.lit .. | .ref _=>Int.le_refl _|.bin _ a b|.at a b|.lett _ a b=>by have:=AI a;have:=AI b;simp only[X.cost];omega
 |.neg a|.sq a=>by have:=AI a;simp only[X.cost];omega
 |.lst a b c=>by have:=AI a;have:=AI b;have:=AI c;simp only[X.cost];omega
 |.tab n a|.sum n a=>by have:=AI a;have:0≤(n:Int)*a.cost:=Int.mul_nonneg (by omega) (by omega);simp only[X.cost];omega
 |.ite a b c d=>by have:=AI a;have:=AI b;have:=AI c;have:=AI d;simp only[X.cost];omega
 |.call a=>by have:=AI a;simp only[X.cost];omega
section
variable {e:En}{cb:Option (Nat×Q)}{bs:Bs}{n:Int}
theorem g_bin {op:Nat}(ho:op∈[3,4,5,6]){ka kb k:Kd}(hk:kdR op ka kb=some k){a b:X}(h0:0≤n)(hn:n<5000)(ha:Good e cb bs a ka (n+1))(hb:∀u n1,evS e cb bs a (n+1)=.ok (u,n1)→Good e cb bs b kb n1):Good e cb bs (.bin op a b) k n:=by
 have oo:=Dd bs;unfold Good at ha ⊢;cases h1:evS e cb bs a (n+1) with
 |error er=>rw[h1]at ha;simp only[evS,h1];exact⟨Z8 oo h0 hn ho ha.1,nofun⟩
 |ok p=>
  obtain⟨u,n1⟩:=p;have hb:=hb u n1 h1;unfold Good at hb;rw[h1]at ha;obtain⟨vu,g1,g2⟩:=ha.2 u n1 rfl;cases h2:evS e cb bs b n1 with
  |error er=>rw[h2]at hb;simp only[evS,h1,h2];exact⟨Ya oo h0 hn ho ha.1 hb.1,nofun⟩
  |ok p=>
   obtain⟨v,n2⟩:=p;rw[h2]at hb;obtain⟨vv,g3,g4⟩:=hb.2 v n2 rfl;obtain⟨q1,q2⟩:=Kn ho hk vu vv;simp only[evS,h1,h2];cases h3:C6 op u v with
   |error er=>rw[h3]at q1;exact⟨AdE oo h0 hn ho ha.1 hb.1 q1,nofun⟩
   |ok w=>rw[h3]at q1;refine⟨AcX oo h0 hn ho ha.1 hb.1 q1,fun w' n' hw=>?_⟩;simp only[Eg,Except.ok.injEq,zG]at hw;obtain⟨rfl,rfl⟩:=hw;exact⟨q2 _ h3,by omega,by simp only[X.cost];omega⟩
theorem g_neg {k:Kd}{a:X}(h0:0≤n)(hn:n<5000)(ha:Good e cb bs a k (n+1)):Good e cb bs (.neg a) k n:=by
 have oo:=Dd bs;unfold Good at ha ⊢;cases h1:evS e cb bs a (n+1) with
 |error er=>rw[h1]at ha;simp only[evS,h1];exact⟨ZM oo h0 hn ha.1,nofun⟩
 |ok p=>
  obtain⟨u,n1⟩:=p;rw[h1]at ha;obtain⟨vu,g1,g2⟩:=ha.2 u n1 rfl;have hm:VOk .pl ⟨[],[(-1,1)],.pl⟩:=B8 (k:=.pl) rfl (BN (by decide));obtain⟨q1,q2⟩:=Kn (op:=5) (by decide) (ka:=.pl) (kb:=k) (k:=k) rfl hm vu;rw[PH]at q1;simp only[evS,h1];cases h3:C6 5 ⟨[],[(-1,1)],.pl⟩ u with
  |error er=>rw[h3]at q1;exact⟨Adt oo h0 hn ha.1 q1,nofun⟩
  |ok w=>rw[h3]at q1;refine⟨AdB oo h0 hn ha.1 q1,fun w' n' hw=>?_⟩;simp only[Eg,Except.ok.injEq,zG]at hw;obtain⟨rfl,rfl⟩:=hw;exact⟨q2 _ h3,by omega,by simp only[X.cost];omega⟩
theorem g_sq {a:X}(h0:0≤n)(hn:n<5000)(ha:Good e cb bs a .m (n+1)):Good e cb bs (.sq a) .m2 n:=by
 have oo:=Dd bs;unfold Good at ha ⊢;cases h1:evS e cb bs a (n+1) with
 |error er=>rw[h1]at ha;simp only[evS,h1];exact⟨Adh oo h0 hn ha.1,nofun⟩
 |ok p=>
  obtain⟨u,n1⟩:=p;rw[h1]at ha;obtain⟨vu,g1,g2⟩:=ha.2 u n1 rfl;obtain⟨q1,q2⟩:=sq_ok vu;simp only[evS,h1];cases h3:sqR u with
  |error er=>rw[h3]at q1;exact⟨n_sq_o oo h0 hn ha.1 q1,nofun⟩
  |ok w=>rw[h3]at q1;refine⟨n_sq_k oo h0 hn ha.1 q1,fun w' n' hw=>?_⟩;simp only[Eg,Except.ok.injEq,zG]at hw;obtain⟨rfl,rfl⟩:=hw;exact⟨q2 _ h3,by omega,by simp only[X.cost];omega⟩
theorem g_lst {k ka:Kd}(hk:Gp k=some ka){a b c:X}(h0:0≤n)(hn:n<5000)(ha:Good e cb bs a k (n+1))(hb:∀u n1,evS e cb bs a (n+1)=.ok (u,n1)→Good e cb bs b k n1)
 (hc:∀u n1 v n2,evS e cb bs a (n+1)=.ok (u,n1)→evS e cb bs b n1=.ok (v,n2)→Good e cb bs c k n2):Good e cb bs (.lst a b c) ka n:=by
 have oo:=Dd bs;unfold Good at ha ⊢;cases h1:evS e cb bs a (n+1) with
 |error er=>rw[h1]at ha;simp only[evS,h1];exact⟨Aab oo h0 hn ha.1,nofun⟩
 |ok p=>
  obtain⟨u,n1⟩:=p;have hb:=hb u n1 h1;unfold Good at hb;rw[h1]at ha;obtain⟨vu,g1,g2⟩:=ha.2 u n1 rfl;cases h2:evS e cb bs b n1 with
  |error er=>rw[h2]at hb;simp only[evS,h1,h2];exact⟨Abi oo h0 hn ha.1 hb.1,nofun⟩
  |ok p=>
   obtain⟨v,n2⟩:=p;have hc:=hc u n1 v n2 h1 h2;unfold Good at hc;rw[h2]at hb;obtain⟨vv,g3,g4⟩:=hb.2 v n2 rfl;cases h3:evS e cb bs c n2 with
   |error er=>rw[h3]at hc;simp only[evS,h1,h2,h3];exact⟨Aal oo h0 hn ha.1 hb.1 hc.1,nofun⟩
   |ok p=>obtain⟨w,n3⟩:=p;rw[h3]at hc;obtain⟨vw,g5,g6⟩:=hc.2 w n3 rfl;obtain⟨q1,q2⟩:=Rx hk vu vv vw;simp only[evS,h1,h2,h3];refine⟨AdA oo h0 hn ha.1 hb.1 hc.1 q1,fun w' n' hw=>?_⟩;simp only[Except.ok.injEq,zG]at hw;obtain⟨rfl,rfl⟩:=hw;exact⟨q2,by omega,by simp only[X.cost];omega⟩
theorem g_at {k ka:Kd}(hk:Gp k=some ka){a:X}{i:Nat}(hi:i<4){p d:List Nat}(hl:MU p d ((i:Int),1))(h0:0≤n)(hn:n<4990)(ha:Good e cb bs a ka (n+1))(hna:n+1+a.cost<5000):Good e cb bs (.at a (.lit p d ((i:Int),1) 0)) k n:=by
 have oo:=Dd bs;unfold Good at ha ⊢;cases h1:evS e cb bs a (n+1) with
 |error er=>rw[h1]at ha;simp only[evS,h1];exact⟨Ac0 oo h0 (by omega) ha.1,nofun⟩
 |ok q=>
  obtain⟨u,n1⟩:=q;rw[h1]at ha;obtain⟨vu,g1,g2⟩:=ha.2 u n1 rfl;have hb:Ev e 1 (CL bs) n1 (.lit p d ((i:Int),1) 0) (.ok (⟨[],[((i:Int),1)],.pl⟩,n1+1)):=Abe oo (by omega) (by omega) hl.of;obtain⟨q1,q2⟩:=Zw hk vu hi;simp only[evS,h1];have ei:idxOf (litV ((i:Int),1) 0)=i:=rfl;rw[ei];cases h3:SX u i with
  |error er=>rw[h3]at q1;exact⟨n_at_o oo h0 (by omega) ha.1 hb q1,nofun⟩
  |ok w=>rw[h3]at q1;refine⟨n_at_k oo h0 (by omega) ha.1 hb q1,fun w' n' hw=>?_⟩;simp only[Eg,Except.ok.injEq,zG]at hw;obtain⟨rfl,rfl⟩:=hw;exact⟨q2 _ h3,by omega,by simp only[X.cost];omega⟩
theorem Yt {own:ME}(ho:AU own)(h0:0≤n)(h1:n<5000){a b c d:X}{er:Nat}(kE:Ev e 1 own (n+1) a (.error er)):Ev e 1 own n (.ite a b c d) (.error er):=Rj ho h0 h1 kE
theorem g_ite {ko k:Kd}(hko:ko=.pl∨ko=.m∨ko=.s){a b c d:X}(h0:0≤n)(hn:n<5000)(ha:Good e cb bs a ko (n+1))(hb:∀u n1,evS e cb bs a (n+1)=.ok (u,n1)→Good e cb bs b ko n1)
 (hc:∀u n1 v n2,evS e cb bs a (n+1)=.ok (u,n1)→evS e cb bs b n1=.ok (v,n2)→Good e cb bs c k n2∧Good e cb bs d k n2):Good e cb bs (.ite a b c d) k n:=by
 have oo:=Dd bs;unfold Good at ha ⊢;have cc:=AI c;have cd:=AI d;cases h1:evS e cb bs a (n+1) with
 |error er=>rw[h1]at ha;simp only[evS,h1];exact⟨Yt oo h0 hn ha.1,nofun⟩
 |ok p=>
  obtain⟨u,n1⟩:=p;have hb:=hb u n1 h1;unfold Good at hb;rw[h1]at ha;obtain⟨vu,g1,g2⟩:=ha.2 u n1 rfl;have hka:ko.arr=false:=by rcases hko with rfl|rfl|rfl<;>rfl
  obtain⟨p,rfl,op⟩:=vu.one hka;cases h2:evS e cb bs b n1 with
  |error er=>
   rw[h2]at hb;simp only[evS,h1,h2];refine⟨?_,nofun⟩;rcases hko with rfl|rfl|rfl
   ·exact RJ oo h0 hn ha.1 hb.1
   ·exact Vp oo h0 hn ha.1 hb.1
   ·exact Ub oo h0 hn ha.1 hb.1
  |ok q=>
   obtain⟨v,n2⟩:=q;obtain⟨hc,hd⟩:=hc _ n1 v n2 h1 h2;unfold Good at hc hd;rw[h2]at hb;obtain⟨vv,g3,g4⟩:=hb.2 v n2 rfl;obtain⟨q,rfl,oq⟩:=vv.one hka;simp only[evS,h1,h2];have hl:V4 ⟨[],[p],ko.dm⟩ ⟨[],[q],ko.dm⟩=decide (p.1*q.2<q.1*p.2):=rfl;rw[hl];cases h3:decide (p.1*q.2<q.1*p.2) with
   |true=>
    rw[if_pos rfl];cases h4:evS e cb bs c n2 with
    |error er=>
     rw[h4]at hc;refine⟨?_,nofun⟩;rcases hko with rfl|rfl|rfl
     ·exact LS oo h0 hn ha.1 hb.1 op oq h3 hc.1
     ·exact M1 oo h0 hn ha.1 hb.1 op oq h3 hc.1
     ·exact Od oo h0 hn ha.1 hb.1 op oq h3 hc.1
    |ok r=>
     obtain⟨w,n3⟩:=r;rw[h4]at hc;obtain⟨vw,g5,g6⟩:=hc.2 w n3 rfl;refine⟨?_,fun w' n' hw=>?_⟩
     ·rcases hko with rfl|rfl|rfl
      ·exact LD oo h0 hn ha.1 hb.1 op oq h3 hc.1
      ·exact MQ oo h0 hn ha.1 hb.1 op oq h3 hc.1
      ·exact Nr oo h0 hn ha.1 hb.1 op oq h3 hc.1
     ·simp only[Except.ok.injEq,zG]at hw;obtain⟨rfl,rfl⟩:=hw;exact⟨vw,by omega,by simp only[X.cost];omega⟩
   |false=>
    rw[if_neg (by decide)];cases h4:evS e cb bs d n2 with
    |error er=>
     rw[h4]at hd;refine⟨?_,nofun⟩;rcases hko with rfl|rfl|rfl
     ·exact LB oo h0 hn ha.1 hb.1 op oq h3 hd.1
     ·exact NG oo h0 hn ha.1 hb.1 op oq h3 hd.1
     ·exact N8 oo h0 hn ha.1 hb.1 op oq h3 hd.1
    |ok r=>
     obtain⟨w,n3⟩:=r;rw[h4]at hd;obtain⟨vw,g5,g6⟩:=hd.2 w n3 rfl;refine⟨?_,fun w' n' hw=>?_⟩
     ·rcases hko with rfl|rfl|rfl
      ·exact LU oo h0 hn ha.1 hb.1 op oq h3 hd.1
      ·exact OA oo h0 hn ha.1 hb.1 op oq h3 hd.1
      ·exact Nc oo h0 hn ha.1 hb.1 op oq h3 hd.1
     ·simp only[Except.ok.injEq,zG]at hw;obtain⟨rfl,rfl⟩:=hw;exact⟨vw,by omega,by simp only[X.cost];omega⟩
theorem AaX {l:Nat}{ins:Bool}(hb:Gu bs (l+1) ins){s:List Nat}(hs:s=nA∨s=nZ){u:Vl}{a b:X}{r:Rs}(h:Ev e 1 (CL (bs++[(s,u)])) n b r):Bd e (CL bs) n s u 266 (.lett s a b) r:=by
 have hn:=hb.names;have hl:=hb.len;have h2:s∈([nA,nZ]:List (List Nat)):=by simpa using hs
 have h3:s∈([nA,nZ,nU]:List (List Nat)):=by rcases hs with rfl|rfl<;>simp
 cases r with
 |error er=>
  match bs,hn,hl,h with
  |[],_,_,h=>exact bdL0e h3 h|[(x,v1)],hn,_,h=>exact bdL1e hn h2 h|[(x,v1),(y,v2)],hn,_,h=>exact bdL2e hn.1 hn.2 h2 h|_::_::_::_,_,hl,_=>simp at hl;omega
 |ok p=>
  obtain⟨w,n2⟩:=p
  match bs,hn,hl,h with
  |[],_,_,h=>exact bdL0k h3 h|[(x,v1)],hn,_,h=>exact bdL1k hn h2 h|[(x,v1),(y,v2)],hn,_,h=>exact bdL2k hn.1 hn.2 h2 h|_::_::_::_,_,hl,_=>simp at hl;omega
theorem TE {l:Nat}{ins:Bool}(hb:Gu bs (l+1) ins){v:Vl}{a x:X}{c0i c4i:Int}(hx:x.cs=[.int .i64 c0i,.str [],.str [],.str nmI,.int .i64 c4i,.psl [a.c0,a.c1,a.c2,a.c3,a.c4,a.c5] 1 none]){r:Rs}(h:Ev e 1 (CL (bs++[(nmI,v)])) n a r):Bd e (CL bs) n nmI v 322 x r:=by
 have hn:=hb.names;have hl:=hb.len;have h2:nmI∈([nmI]:List (List Nat)):=by simp
 cases r with
 |error er=>
  match bs,hn,hl,h with
  |[],_,_,h=>exact bdT0e h2 hx h|[(y,v1)],hn,_,h=>exact bdT1e hn h2 hx h|[(y,v1),(z,v2)],hn,_,h=>exact bdT2e hn.1 hn.2 h2 hx h|_::_::_::_,_,hl,_=>simp at hl;omega
 |ok p=>
  obtain⟨w,n2⟩:=p
  match bs,hn,hl,h with
  |[],_,_,h=>exact bdT0k h2 hx h|[(y,v1)],hn,_,h=>exact bdT1k hn h2 hx h|[(y,v1),(z,v2)],hn,_,h=>exact bdT2k hn.1 hn.2 h2 hx h|_::_::_::_,_,hl,_=>simp at hl;omega
theorem g_lett {l:Nat}{ins:Bool}(hbs:Gu bs (l+1) ins){k:Kd}{s:List Nat}(hs:s=nA∨s=nZ){a b:X}(h0:0≤n)(hn:n<5000)(ha:Good e cb bs a .pl (n+1))(hb:∀u n1,evS e cb bs a (n+1)=.ok (u,n1)→Good e cb (bs++[(s,u)]) b k n1):Good e cb bs (.lett s a b) k n:=by
 have oo:=Dd bs;have h3:s∈Fj:=by rcases hs with rfl|rfl<;>simp[Fj]
 unfold Good at ha ⊢;cases h1:evS e cb bs a (n+1) with
 |error er=>rw[h1]at ha;simp only[evS,h1];exact⟨ZN oo h0 hn h3 ha.1,nofun⟩
 |ok p=>
  obtain⟨u,n1⟩:=p;have hb:=hb u n1 h1;unfold Good at hb;rw[h1]at ha;obtain⟨vu,g1,g2⟩:=ha.2 u n1 rfl;cases h2:evS e cb (bs++[(s,u)]) b n1 with
  |error er=>rw[h2]at hb;simp only[evS,h1,h2];exact⟨Yk oo h0 hn h3 ha.1 (AaX hbs hs hb.1),nofun⟩
  |ok p=>obtain⟨w,n2⟩:=p;rw[h2]at hb;obtain⟨vw,g3,g4⟩:=hb.2 w n2 rfl;simp only[evS,h1,h2];refine⟨Yz oo h0 hn h3 ha.1 (AaX hbs hs hb.1),fun w' n' hw=>?_⟩;simp only[Except.ok.injEq,zG]at hw;obtain⟨rfl,rfl⟩:=hw;exact⟨vw,by omega,by simp only[X.cost];omega⟩
theorem Aa7 (i:Nat)(h:i<100):VOk .pl (Ih i):=B8 (k:=.pl) rfl (BN (by simp only[B];omega))
theorem KS {f:Nat→Int→Rs} : ∀(c i:Nat) (n:Int),
 (∃us er,us.length<c∧Lch (fun i n u m=>f i n=.ok (u,m)) i n us∧f (i+us.length) (Ky n us)=.error er∧D8 f c i n=.error er)∨
 (∃us,us.length=c∧Lch (fun i n u m=>f i n=.ok (u,m)) i n us∧D8 f c i n=.ok (us.map (·.1),Ky n us))
 |0,i,n=>.inr ⟨[],rfl,trivial,rfl⟩|c+1,i,n=>by
  cases h:f i n with
  |error er=>exact .inl ⟨[],er,by simp,trivial,h,by simp only[D8,h]⟩
  |ok p=>
   obtain⟨v,n1⟩:=p;rcases KS c (i+1) n1 with⟨us,er,h1,h2,h3,h4⟩|⟨us,h1,h2,h3⟩
   ·exact .inl ⟨(v,n1)::us,er,by simpa using h1,⟨h,h2⟩,by rw[List.length_cons,show i+(us.length+1)=i+1+us.length by omega];exact h3,by simp only[D8,h,h4]⟩
   ·exact .inr ⟨(v,n1)::us,by simpa using h1,⟨h,h2⟩,by simp only[D8,h,h3];rfl⟩
theorem Ig {l:Nat}{ins:Bool}(hbs:Gu bs (l+1) ins){k:Kd}{a x:X}{c0i c4i:Int}(hx:x.cs=[.int .i64 c0i,.str [],.str [],.str nmI,.int .i64 c4i,.psl [a.c0,a.c1,a.c2,a.c3,a.c4,a.c5] 1 none])(h0:0≤n){c:Nat}
 (ha:∀i:Nat,i<c→∀n1:Int,0≤n1→n1≤n+1+(i:Int)*a.cost→Good e cb (bs++[(nmI,Ih i)]) a k n1):∀(us:List (Vl×Int)) (i:Nat) (m:Int),i+us.length≤c→n+1≤m→m≤n+1+(i:Int)*a.cost→
 Lch (fun i n u m=>evS e cb (bs++[(nmI,Ih i)]) a n=.ok (u,m)) i m us→
 Lch (fun i m u m'=>Bd e (CL bs) m nmI ⟨[],[((i:Int),1)],.pl⟩ 322 x (.ok (u,m'))) i m us∧(∀v∈us.map (·.1),VOk k v)∧n+1≤Ky m us∧Ky m us≤n+1+((i+us.length:Nat):Int)*a.cost
 |[],i,m,_,h1,h2,_=>⟨trivial,by simp,h1,h2⟩
 |(u,m')::us,i,m,hc,h1,h2,h=>by
  rw[List.length_cons]at hc;have g:=ha i (by omega) m (by omega) h2;obtain⟨g1,g2⟩:=g;have he:evS e cb (bs++[(nmI,Ih i)]) a m=.ok (u,m'):=h.1;rw[he]at g1;obtain⟨g3,g4,g5⟩:=g2 u m' he;have e1:((i+1:Nat):Int)*a.cost=(i:Int)*a.cost+a.cost:=by rw[Int.natCast_add,Int.add_mul];simp
  obtain⟨q1,q2,q3,q4⟩:=Ig hbs hx h0 ha us (i+1) m' (by omega) (by omega) (by rw[e1];omega) h.2;refine⟨⟨TE hbs hx g1,q1⟩,?_,q3,?_⟩
  ·intro v hv;rcases zH.1 hv with rfl|hv
   ·exact g3
   ·exact q2 v hv
  ·rw[List.length_cons,show i+(us.length+1)=i+1+us.length by omega];exact q4
theorem t_tab {l:Nat}{ins:Bool}(hbs:Gu bs (l+1) ins){k:Kd}{a:X}(h0:0≤n)(hn:n<5000){c:Nat}(hc:1≤c)(hc4:c≤4)(ha:∀i:Nat,i<c→∀n1:Int,0≤n1→n1≤n+1+(i:Int)*a.cost→Good e cb (bs++[(nmI,Ih i)]) a k n1) :
 Ev e 1 (CL bs) n (.tab c a) (evS e cb bs (.tab c a) n)∧∀w n',evS e cb bs (.tab c a) n=.ok (w,n')→(∃l:List Vl,l.length=c∧(∀v∈l,VOk k v)∧w=Ip l)∧n<n'∧n'≤n+(X.tab c a).cost:=by
 have oo:=Dd bs;have hcs:(lpX true c a).cs=[.int .i64 10,.str [],.str [],.str nmI,.int .i64 (.ofNat c),.psl [a.c0,a.c1,a.c2,a.c3,a.c4,a.c5] 1 none]:=rfl;rcases KS (f:=fun i n=>evS e cb (bs++[(nmI,Ih i)]) a n) c 0 (n+1) with⟨us,er,h1,h2,h3,h4⟩|⟨us,h1,h2,h3⟩
 ·obtain⟨q1,q2,q3,q4⟩:=Ig hbs hcs h0 ha us 0 (n+1) (by omega) (by omega) (by simp) h2;rw[Nat.zero_add]at h3 q4;have g:=(ha us.length h1 _ (by omega) q4).1;have h3:evS e cb (bs++[(nmI,Ih us.length)]) a (Ky (n+1) us)=.error er:=h3;rw[h3]at g;simp only[evS,h4];exact⟨S2 (t:=true) oo h0 hn hc hc4 h1 q1 (TE hbs hcs g),nofun⟩
 ·obtain⟨q1,q2,q3,q4⟩:=Ig hbs hcs h0 ha us 0 (n+1) (by omega) (by omega) (by simp) h2;rw[Nat.zero_add,h1]at q4;simp only[evS,h3];refine⟨Sp (t:=true) oo h0 hn hc hc4 h1 q1 (Pu q2 (by simpa[h1]using hc) (by simpa[h1]using hc4)),fun w n' hw=>?_⟩;cases hw;exact⟨⟨_,by simpa using h1,q2,rfl⟩,by omega,by simp only[X.cost];omega⟩
theorem t_sum {l:Nat}{ins:Bool}(hbs:Gu bs (l+1) ins){k:Kd}{a:X}(h0:0≤n)(hn:n<5000){c:Nat}(hc:1≤c)(hc4:c≤4)(ha:∀i:Nat,i<c→∀n1:Int,0≤n1→n1≤n+1+(i:Int)*a.cost→Good e cb (bs++[(nmI,Ih i)]) a k n1):Good e cb bs (.sum c a) k n:=by
 have oo:=Dd bs;have hcs:(lpX false c a).cs=[.int .i64 11,.str [],.str [],.str nmI,.int .i64 (.ofNat c),.psl [a.c0,a.c1,a.c2,a.c3,a.c4,a.c5] 1 none]:=rfl;unfold Good;rcases KS (f:=fun i n=>evS e cb (bs++[(nmI,Ih i)]) a n) c 0 (n+1) with⟨us,er,h1,h2,h3,h4⟩|⟨us,h1,h2,h3⟩
 ·obtain⟨q1,q2,q3,q4⟩:=Ig hbs hcs h0 ha us 0 (n+1) (by omega) (by omega) (by simp) h2;rw[Nat.zero_add]at h3 q4;have g:=(ha us.length h1 _ (by omega) q4).1;have h3:evS e cb (bs++[(nmI,Ih us.length)]) a (Ky (n+1) us)=.error er:=h3;rw[h3]at g;simp only[evS,h4];exact⟨S2 (t:=false) oo h0 hn hc hc4 h1 q1 (TE hbs hcs g),nofun⟩
 ·obtain⟨q1,q2,q3,q4⟩:=Ig hbs hcs h0 ha us 0 (n+1) (by omega) (by omega) (by simp) h2;rw[Nat.zero_add,h1]at q4;obtain⟨r1,r2⟩:=ZY q2 (by simpa[h1]using hc) (by simpa[h1]using hc4);simp only[evS,h3];cases h5:TA (us.map (·.1)) with
  |error er=>rw[h5]at r1;exact⟨Aac oo h0 hn hc hc4 h1 q1 r1,nofun⟩
  |ok w=>rw[h5]at r1;refine⟨Sp (t:=false) oo h0 hn hc hc4 h1 q1 r1,fun w' n' hw=>?_⟩;simp only[Eg,Except.ok.injEq,zG]at hw;obtain⟨rfl,rfl⟩:=hw;exact⟨r2 _ h5,by omega,by simp only[X.cost];omega⟩
theorem g_tab3 {l:Nat}{ins:Bool}(hbs:Gu bs (l+1) ins){k ka:Kd}(hk:Gp k=some ka){a:X}(h0:0≤n)(hn:n<5000)(ha:∀i:Nat,i<3→∀n1:Int,0≤n1→n1≤n+1+(i:Int)*a.cost→Good e cb (bs++[(nmI,Ih i)]) a k n1):Good e cb bs (.tab 3 a) ka n:=by
 obtain⟨h1,h2⟩:=t_tab hbs h0 hn (by decide) (by decide) ha;refine⟨h1,fun v n' hv=>?_⟩;obtain⟨⟨l,h3,h4,h5⟩,h6⟩:=h2 v n' hv
 match l,h3 with
 |[x,y,z],_=>subst h5;exact⟨(Rx hk (h4 x (by simp)) (h4 y (by simp)) (h4 z (by simp))).2,h6⟩
theorem AdT (he:EnOk e cb){l:Nat}{ins:Bool}(hb:Gu bs l ins){k:Kd}{s:List Nat}(hk:nmK k=some s):s∈refs∧∃v,FW bs s (e.nm s)=some v∧VOk k v:=by
 have hm:=hb.mem;cases k<;>simp only[nmK,zC,reduceCtorEq]at hk<;>subst hk
 ·refine⟨by decide,I0 (fun p hp h=>hb.vals p hp ((Pp (hm p hp)).1 h)) (fun v hv=>?_) (.inr rfl)⟩;cases hv;exact he.a
 ·refine⟨by decide,_,I1 fun p hp=>(Pp (hm p hp)).2.1,he.b⟩
 ·refine⟨by decide,_,I1 fun p hp=>(Pp (hm p hp)).2.2.1,he.c⟩
 ·refine⟨by decide,_,I1 fun p hp=>(Pp (hm p hp)).2.2.2.1,he.v⟩
 ·refine⟨by decide,_,I1 fun p hp=>(Pp (hm p hp)).2.2.2.2.1,he.w⟩
theorem Y5 (he:EnOk e cb){l:Nat}{ins:Bool}(hb:Gu bs l ins){k:Kd}{x:X}(h:Lf ins k x)(h0:0≤n)(hn:n<5000):Good e cb bs x k n:=by
 have oo:=Dd bs;cases h with
 |ref hk=>obtain⟨hs,v,hv,vk⟩:=AdT he hb hk;unfold Good;simp only[evS,hv];refine⟨n_ref h0 hn hb hs hv,fun w n' hw=>?_⟩;simp only[Except.ok.injEq,zG]at hw;obtain⟨rfl,rfl⟩:=hw;exact⟨vk,by omega,by simp only[X.cost];omega⟩
 |idx hi=>have hm:=hb.mem;obtain⟨p,hp,ei⟩:=hb.ins hi;obtain⟨v,hv,vk⟩:=I0 (k:=.pl) (s:=nmI) (bs:=bs) (o:=e.nm nmI) (fun p hp h=>hb.vals p hp ((Pp (hm p hp)).2.2.2.2.2 h)) (fun v hv=>by cases hv) (.inl ⟨p,hp,by rw[ei];decide⟩);unfold Good;simp only[evS,hv];refine⟨n_ref h0 hn hb (by decide) hv,fun w n' hw=>?_⟩;simp only[Except.ok.injEq,zG]at hw;obtain⟨rfl,rfl⟩:=hw;exact⟨vk,by omega,by simp only[X.cost];omega⟩
 |lit hl _ _=>unfold Good;simp only[evS];refine⟨Abe oo h0 hn hl.of,fun w n' hw=>?_⟩;simp only[Except.ok.injEq,zG]at hw;obtain⟨rfl,rfl⟩:=hw;exact⟨B8 (k:=.pl) rfl hl.ok,by omega,by simp only[X.cost];omega⟩
 |met hl hz hu=>
  unfold Good;simp only[evS];rcases hu with rfl|rfl
  ·have hw:=KN hz 1 (by decide) (by decide);refine⟨n_lit1 oo h0 hn hl.of hl.ok hw.1,fun w n' hw'=>?_⟩;simp only[Except.ok.injEq,zG]at hw';obtain⟨rfl,rfl⟩:=hw';exact⟨B8 (k:=.m) rfl hw.2,by omega,by simp only[X.cost];omega⟩
  ·have hw:=KN hz 1000 (by decide) (by decide);refine⟨n_lit2 oo h0 hn hl.of hl.ok hw.1,fun w n' hw'=>?_⟩;simp only[Except.ok.injEq,zG]at hw';obtain⟨rfl,rfl⟩:=hw';exact⟨B8 (k:=.m) rfl hw.2,by omega,by simp only[X.cost];omega⟩
 |sec hl hz hu=>
  unfold Good;simp only[evS];rcases hu with rfl|rfl
  ·have hw:=KN hz 1 (by decide) (by decide);refine⟨n_lit3 oo h0 hn hl.of hl.ok hw.1,fun w n' hw'=>?_⟩;simp only[Except.ok.injEq,zG]at hw';obtain⟨rfl,rfl⟩:=hw';exact⟨B8 (k:=.s) rfl hw.2,by omega,by simp only[X.cost];omega⟩
  ·have hw:=KN hz 3600 (by decide) (by decide);refine⟨n_lit4 oo h0 hn hl.of hl.ok hw.1,fun w n' hw'=>?_⟩;simp only[Except.ok.injEq,zG]at hw';obtain⟨rfl,rfl⟩:=hw';exact⟨B8 (k:=.s) rfl hw.2,by omega,by simp only[X.cost];omega⟩
theorem TP (he:EnOk e cb){a:X}(h0:0≤n)(hn:n<5000)(hna:n+1+a.cost<4980)(ha:Good e cb bs a .m (n+1)):Good e cb bs (.call a) .m n:=by
 have oo:=Dd bs;unfold Good at ha ⊢;cases h1:evS e cb bs a (n+1) with
 |error er=>rw[h1]at ha;simp only[evS,h1];exact⟨Zr oo h0 hn ha.1,nofun⟩
 |ok q=>
  obtain⟨u,n1⟩:=q;rw[h1]at ha;obtain⟨vu,g1,g2⟩:=ha.2 u n1 rfl;have hf:=he.f;simp only[evS,h1];cases cb with
  |none=>
   simp only at hf;have hz:VOk .pl ⟨[],[(0,1)],.pl⟩:=B8 (k:=.pl) rfl (BN (by decide));obtain⟨q1,q2⟩:=Kn (op:=5) (by decide) (ka:=.pl) (kb:=.m) (k:=.m) rfl hz vu;rw[AcD]at q1;unfold Jg;cases h3:C6 5 ⟨[],[(0,1)],.pl⟩ u with
   |error er=>rw[h3]at q1;exact⟨Uf oo h0 hn hf ha.1 (by omega) (by omega) q1,nofun⟩
   |ok w1=>
    rw[h3]at q1;obtain⟨q3,q4⟩:=Kn (op:=3) (by decide) (ka:=.m) (kb:=.m) (k:=.m) rfl vu (q2 _ h3);cases h4:C6 3 u w1 with
    |error er=>rw[h4]at q3;simp only[h4];exact⟨Vu oo h0 hn hf ha.1 (by omega) (by omega) q1 q3,nofun⟩
    |ok w=>rw[h4]at q3;simp only[h4];refine⟨X0 oo h0 hn hf ha.1 (by omega) (by omega) q1 q3,fun w' n' hw=>?_⟩;simp only[Eg,Except.ok.injEq,zG]at hw;obtain⟨rfl,rfl⟩:=hw;exact⟨q4 _ h4,by omega,by simp only[X.cost];omega⟩
  |some kq=>
   obtain⟨k,q⟩:=kq;simp only at hf;obtain⟨hk,p,d,hf,hl⟩:=hf;obtain⟨x,rfl,ox⟩:=vu.one rfl;unfold Jg;have hlk:V1 k ⟨[],[x],Kd.m.dm⟩=decide (x.1*1<(k:Int)*x.2):=rfl;simp only[hlk];cases h3:decide (x.1*1<(k:Int)*x.2) with
   |true=>
    have hq:VOk .pl ⟨[],[q],.pl⟩:=B8 (k:=.pl) rfl hl.ok;obtain⟨q1,q2⟩:=Kn (op:=5) (by decide) (ka:=.pl) (kb:=.m) (k:=.m) rfl hq vu;rw[if_pos rfl];cases h4:C6 5 ⟨[],[q],.pl⟩ ⟨[],[x],Kd.m.dm⟩ with
    |error er=>rw[h4]at q1;exact⟨TB oo h0 hn hk hf ha.1 ox (by omega) (by omega) h3 hl.of q1,nofun⟩
    |ok w=>rw[h4]at q1;refine⟨TV oo h0 hn hk hf ha.1 ox (by omega) (by omega) h3 hl.of q1,fun w' n' hw=>?_⟩;simp only[Eg,Except.ok.injEq,zG]at hw;obtain⟨rfl,rfl⟩:=hw;exact⟨q2 _ h4,by omega,by simp only[X.cost];omega⟩
   |false=>rw[if_neg (by decide)];refine⟨Va oo h0 hn hk hf ha.1 ox (by omega) (by omega) h3,fun w' n' hw=>?_⟩;simp only[Except.ok.injEq,zG]at hw;obtain⟨rfl,rfl⟩:=hw;exact⟨vu,by omega,by simp only[X.cost];omega⟩
end
theorem EN {e:En}{cb:Option (Nat×Q)}(he:EnOk e cb){l:Nat}{ins:Bool}{k:Kd}{x:X}(h:Ty l ins k x):∀{bs:Bs},Gu bs l ins→∀{n:Int},0≤n→n+x.cost≤4900→Good e cb bs x k n:=by
 induction h with
 |leaf hl=>intro bs hb n h0 hn;exact Y5 he hb hl h0 (by rw[Ej hl]at hn;omega)
 | @leaf2 l ins op ka kb k a b ha hb ho hk _ _=>
  intro bs hbs n h0 hn;simp only[X.cost,Ej ha,Ej hb]at hn;have ho':op∈[3,4,5,6]:=by simp only[zH,List.not_mem_nil,or_false]at ho ⊢;rcases ho with rfl|rfl<;>simp
  have ga:=Y5 he hbs ha (n:=n+1) (by omega) (by omega);refine g_bin ho' hk h0 (by omega) ga fun u n1 h1=>?_
  have:=ga.2 u n1 h1;rw[Ej ha]at this;exact Y5 he hbs hb (by omega) (by omega)
 | @bin l ins op ka kb k a b ho hk ha hb iha ihb=>
  intro bs hbs n h0 hn;have ca:=AI a;have cb':=AI b;simp only[X.cost]at hn;have ga:=iha hbs.down (n:=n+1) (by omega) (by omega);refine g_bin ho hk h0 (by omega) ga fun u n1 h1=>?_
  have:=ga.2 u n1 h1;exact ihb hbs.down (by omega) (by omega)
 | @ite l ins ko k a b c d hko ha hb hc hd iha ihb ihc ihd=>
  intro bs hbs n h0 hn;have ca:=AI a;have cb':=AI b;have cc:=AI c;have cd:=AI d;simp only[X.cost]at hn;have ga:=iha hbs.down (n:=n+1) (by omega) (by omega);have gb:∀u n1,evS e cb bs a (n+1)=.ok (u,n1)→Good e cb bs b ko n1:=fun u n1 h1=>by have:=ga.2 u n1 h1;exact ihb hbs.down (by omega) (by omega)
  refine g_ite hko h0 (by omega) ga gb fun u n1 v n2 h1 h2=>?_
  have:=ga.2 u n1 h1;have:=(gb u n1 h1).2 v n2 h2;exact⟨ihc hbs.down (by omega) (by omega),ihd hbs.down (by omega) (by omega)⟩
 | @lett l ins k s a b hs ha hb iha ihb=>
  intro bs hbs n h0 hn;have ca:=AI a;have cb':=AI b;simp only[X.cost]at hn;have ga:=iha hbs.down (n:=n+1) (by omega) (by omega);refine g_lett hbs hs h0 (by omega) ga fun u n1 h1=>?_
  have:=ga.2 u n1 h1;exact ihb (hbs.push (by rcases hs with rfl|rfl<;>decide) this.1 (fun h=>.inl h)) (by omega) (by omega)
 | @neg l ins k a ha iha=>intro bs hbs n h0 hn;have ca:=AI a;simp only[X.cost]at hn;exact g_neg h0 (by omega) (iha hbs.down (by omega) (by omega))
 | @tab l ins k ka a hk ha iha=>
  intro bs hbs n h0 hn;have ca:=AI a;simp only[X.cost]at hn;refine g_tab3 hbs hk h0 (by omega) fun i hi n1 hn1 hn2=>?_
  have hm:(i:Int)*a.cost≤(3-1)*a.cost:=Int.mul_le_mul_of_nonneg_right (by omega) (by omega);exact iha (hbs.push (by decide) (Aa7 i (by omega)) (fun _=>.inr rfl)) hn1 (by omega)
 | @lst l ins k ka a b c hk ha hb hc iha ihb ihc=>
  intro bs hbs n h0 hn;have ca:=AI a;have cb':=AI b;have cc:=AI c;simp only[X.cost]at hn;have ga:=iha hbs.down (n:=n+1) (by omega) (by omega);have gb:∀u n1,evS e cb bs a (n+1)=.ok (u,n1)→Good e cb bs b k n1:=fun u n1 h1=>by have:=ga.2 u n1 h1;exact ihb hbs.down (by omega) (by omega)
  refine g_lst hk h0 (by omega) ga gb fun u n1 v n2 h1 h2=>?_
  have:=ga.2 u n1 h1;have:=(gb u n1 h1).2 v n2 h2;exact ihc hbs.down (by omega) (by omega)
 | @sum l ins k m a hk h1 h4 ha iha=>
  intro bs hbs n h0 hn;have ca:=AI a;simp only[X.cost]at hn;refine t_sum hbs h0 (by have:=Int.mul_nonneg (show(0:Int)≤m by omega) (show 0≤a.cost by omega);omega) h1 h4 fun i hi n1 hn1 hn2=>?_
  have hm:(i:Int)*a.cost+a.cost≤(m:Int)*a.cost:=by have:=Int.mul_le_mul_of_nonneg_right (show(i:Int)+1≤m by omega) (show 0≤a.cost by omega);rw[Int.add_mul,Int.one_mul]at this;exact this
  exact iha (hbs.push (by decide) (Aa7 i (by omega)) (fun _=>.inr rfl)) hn1 (by omega)
 | @elt l ins k ka a p d i hk hi hl ha iha=>intro bs hbs n h0 hn;have ca:=AI a;simp only[X.cost]at hn;exact g_at hk hi hl h0 (by omega) (iha hbs.down (by omega) (by omega)) (by omega)
 | @call l ins a ha iha=>intro bs hbs n h0 hn;have ca:=AI a;simp only[X.cost]at hn;exact TP he h0 (by omega) (by omega) (iha hbs.down (by omega) (by omega))
 | @sq l ins a ha iha=>intro bs hbs n h0 hn;have ca:=AI a;simp only[X.cost]at hn;exact g_sq h0 (by omega) (iha hbs.down (by omega) (by omega))
end Go.Ev
namespace Go.E4
open Go Go.Ab Go.Proofs
open Go.RowKit Go.Extern.Stop Go.Stop Go.Extern
theorem WQ (t:Addr)(w:World):(ReflectliteValue.unpack (.iface 170 (.pointer (some t)))).run Tryz.prog w
 = .ok (.agg #[.pointer (some ⟨9,170,none⟩),.pointer (some ⟨w.heap.size,0,none⟩),.int .u64 150]) (w.alloc (.cells #[.pointer (some t)] 170)):=by kernel_rfl
theorem typePt (a:Addr)(w:World):(ReflectliteValue.methodAny (ReflectliteValue.valueError "reflectlite.Value.Type" 0) (fun t _ _ _=>ReflectliteType.toType t) #[.agg #[.pointer (some ⟨9,170,none⟩),.pointer (some a),.int .u64 150]]).run Tryz.prog w
 = .ok (.iface 311 (.agg #[.pointer (some ⟨9,170,none⟩)])) w:=by kernel_rfl
theorem Vv (h:Value)(w:World):(Go.method 615 311 (.agg #[h]) "Kind").run Tryz.prog w=.ok (412,h) w:=by kernel_rfl
theorem kindPt (w:World):((ReflectliteType.abiMethod fun t=>(fun a:Nat=>Value.int IntKind.u8 (a:Int)) <$> Rtype.kind t) #[.pointer (some ⟨9,170,none⟩)]).run Tryz.prog w=.ok (.int .u8 22) w:=by kernel_rfl
theorem kindT (w:World):((ReflectliteType.abiMethod fun t=>(fun a:Nat=>Value.int IntKind.u8 (a:Int)) <$> Rtype.kind t) #[.pointer (some ⟨9,168,none⟩)]).run Tryz.prog w=.ok (.int .u8 25) w:=by kernel_rfl
theorem rlm (z:Sem Value)(f:TypeId→Addr→Nat→Nat→Sem Value)(v:Value) :
 ReflectliteValue.method z f #[v]=(do match ←ReflectliteValue.parts v with|none=>z|some (t,a,fl)=>f t a fl (fl%32)):=rfl
theorem WE (a:Addr)(w:World):(ReflectliteValue.parts (.agg #[.pointer (some ⟨9,170,none⟩),.pointer (some a),.int .u64 150])).run Tryz.prog w=.ok (some (170,a,150)) w:=by kernel_rfl
theorem AcG (a p:Addr)(W:World)(ha:W.cell? a=some (.pointer (some p))) :
 (ReflectliteValue.method (ReflectliteValue.valueError "reflectlite.Value.IsNil" 0) ReflectliteValue.isNil #[.agg #[.pointer (some ⟨9,170,none⟩),.pointer (some a),.int .u64 150]]).run Tryz.prog W=.ok (.bool false) W:=by
 rw[rlm];simp only[zJ,WE,Result.andThen];simp[ReflectliteValue.isNil,loadVar,isAgg,underlying,ha,Result.andThen]
theorem Vs (h:Value)(w:World):(Go.method 615 311 (.agg #[h]) "Elem").run Tryz.prog w=.ok (428,.agg #[h]) w:=by kernel_rfl
theorem Lc (h:Value)(w:World):(Go.method 615 311 (.agg #[h]) "Implements").run Tryz.prog w=.ok (429,.agg #[h]) w:=by kernel_rfl
theorem Jw (h:Value)(w:World):(Go.method 615 311 (.agg #[h]) "AssignableTo").run Tryz.prog w=.ok (426,.agg #[h]) w:=by kernel_rfl
theorem elemPt (w:World):(ReflectliteType.method ReflectliteType.elem #[.agg #[.pointer (some ⟨9,170,none⟩)]]).run Tryz.prog w=.ok (.iface 311 (.agg #[.pointer (some ⟨9,168,none⟩)])) w:=by kernel_rfl
theorem Sj (w:World):(ReflectliteType.relation "Implements" ReflectliteType.implements_ #[.agg #[.pointer (some ⟨9,168,none⟩)],.iface 311 (.agg #[.pointer (some ⟨9,165,none⟩)])]).run Tryz.prog w=.ok (.bool true) w:=by kernel_rfl
theorem AcA (v:Value)(w:World):(ReflectliteType.typeOf #[.iface 168 v]).run Tryz.prog w=.ok (.iface 311 (.agg #[.pointer (some ⟨9,168,none⟩)])) w:=by kernel_rfl
theorem RI (w:World):(ReflectliteType.relation "AssignableTo" ReflectliteType.assignableTo #[.agg #[.pointer (some ⟨9,168,none⟩)],.iface 311 (.agg #[.pointer (some ⟨9,168,none⟩)])]).run Tryz.prog w=.ok (.bool true) w:=by kernel_rfl
theorem Yh (c:Value)(w:World):(ReflectliteValue.unpack (.iface 168 (.agg #[c]))).run Tryz.prog w
 = .ok (.agg #[.pointer (some ⟨9,168,none⟩),.pointer (some ⟨w.heap.size,0,none⟩),.int .u64 153]) (w.alloc (.cells #[c] 168)):=by kernel_rfl
theorem Yo (w:World):(Rtype.elem? 170).run Tryz.prog w=.ok (some 168) w:=by kernel_rfl
theorem mkT' (p:Addr)(w:World):(ReflectliteValue.mk 168 p ReflectliteValue.flagAddr).run Tryz.prog w=.ok (.agg #[.pointer (some ⟨9,168,none⟩),.pointer (some p),.int .u64 409]) w:=by kernel_rfl
theorem Aby (a p:Addr)(W:World)(ha:W.cell? a=some (.pointer (some p))) :
 (ReflectliteValue.method (ReflectliteValue.valueError "reflectlite.Value.Elem" 0) ReflectliteValue.elem #[.agg #[.pointer (some ⟨9,170,none⟩),.pointer (some a),.int .u64 150]]).run Tryz.prog W
  = .ok (.agg #[.pointer (some ⟨9,168,none⟩),.pointer (some p),.int .u64 409]) W:=by
 rw[rlm];simp only[zJ,WE,Result.andThen];simp[ReflectliteValue.elem,loadVar,isAgg,underlying,ha,Result.andThen,Yo,mkT']
theorem rls (v x:Value):ReflectliteValue.set #[v,x]=(do
 let (some (dst,a,fl),some (src,b,_)):=(←ReflectliteValue.parts v,←ReflectliteValue.parts x)
  |unsupported (.noEntry "extern/(internal/reflectlite.Value).Set.zeroValue")
 if fl/ReflectliteValue.flagAddr%2==0 then unsupported (.noEntry "extern/(internal/reflectlite.Value).Set.unaddressable")
 let val ←loadVar src b
 if ←Rtype.directlyAssignable dst src then storeVar dst a val
 else if ←Rtype.implements dst src then
  if (←Rtype.kind src)==20 then
   match val with
   |.nilIface=>unsupported (.noEntry "extern/reflectlite: a nil value of one interface type handed on as a value of another")|_=>storeVar dst a val
  else storeVar dst a (.iface src val)
 else panicString ("reflectlite.Set: value of type " ++ (←Rtype.spelt src) ++ " is not assignable to type " ++ (←Rtype.spelt dst))
 pure (.tuple #[])):=rfl
theorem Ado (a:Addr)(w:World):(ReflectliteValue.parts (.agg #[.pointer (some ⟨9,168,none⟩),.pointer (some a),.int .u64 409])).run Tryz.prog w=.ok (some (168,a,409)) w:=by kernel_rfl
theorem partsT (a:Addr)(w:World):(ReflectliteValue.parts (.agg #[.pointer (some ⟨9,168,none⟩),.pointer (some a),.int .u64 153])).run Tryz.prog w=.ok (some (168,a,153)) w:=by kernel_rfl
theorem AbY (w:World):(Rtype.directlyAssignable 168 168).run Tryz.prog w=.ok true w:=by kernel_rfl
theorem sizeT (w:World):(sizeOf 168).run Tryz.prog w=.ok 1 w:=by kernel_rfl
theorem setT (ta b:Addr)(c old:Value)(W:World)(h1:c.oneCell'=true)(hb:W.cell? b=some c)(ht:W.cell? ta=some old)(hf:W.frozen? ta=false) :
 (ReflectliteValue.set #[.agg #[.pointer (some ⟨9,168,none⟩),.pointer (some ta),.int .u64 409],.agg #[.pointer (some ⟨9,168,none⟩),.pointer (some b),.int .u64 153]]).run Tryz.prog W
  = .ok (.tuple #[]) (W.setCell ta c):=by
 have hl:(loadVar 168 b).run Tryz.prog W=.ok (.agg #[c]) W:=by
  have:=run_loadCells_list (P:=Tryz.prog) W b [c] (by
   intro j v hj;cases j with
   |zero=>simp at hj;subst hj;rw[Addr.add_zero'];exact hb
   |succ j=>simp at hj)
  simp only[List.length_cons,List.length_nil]at this;simp[loadVar,this]
 have hs:(storeVar 168 ta (.agg #[c])).run Tryz.prog W=.ok () (W.setCell ta c):=by simp only[storeVar,zJ,sizeT,zF];simp[Value.cells,storeCells,Addr.add];rw[run_store Tryz.prog W ta _ _ h1];simp[ht,hf]
 rw[rls];simp only[zJ,Ado,partsT,Result.andThen];simp[ReflectliteValue.flagAddr,hl,Result.andThen,AbY,hs]
set_option maxRecDepth 100000 in
set_option maxHeartbeats 4000000 in
theorem as_hit:AsHit Tryz.prog 110 0 (.iface 311 (.agg #[.pointer (some ⟨9,165,none⟩)])) 168 170:=by
 intro c old t w hg ht0 hf0 h1;have h6:=@run_callFunc_extern Tryz.prog 150 _ (fun args=>ReflectliteValue.unpack (args.getD 0 (.tuple #[]))) Tryz.func150 (by kernel_rfl) (by kernel_rfl) (by kernel_rfl) (by kernel_rfl);have h7:=@run_callFunc_extern Tryz.prog 151 _ (ReflectliteValue.methodAny (ReflectliteValue.valueError "reflectlite.Value.Type" 0) (fun t _ _ _=>ReflectliteType.toType t)) Tryz.func151 (by kernel_rfl) (by kernel_rfl) (by kernel_rfl) (by kernel_rfl);have h8:=@run_callFunc_extern Tryz.prog 152 _ (ReflectliteValue.method (ReflectliteValue.valueError "reflectlite.Value.IsNil" 0) ReflectliteValue.isNil) Tryz.func152 (by kernel_rfl) (by kernel_rfl) (by kernel_rfl) (by kernel_rfl);have h27:=@run_callFunc_extern Tryz.prog 412 _ (ReflectliteType.abiMethod fun t=>do pure (.int .u8 (←Rtype.kind t))) Tryz.func412 (by kernel_rfl) (by kernel_rfl) (by kernel_rfl) (by kernel_rfl);have h37:=@run_callFunc_extern Tryz.prog 428 _ (ReflectliteType.method ReflectliteType.elem) Tryz.func428 (by kernel_rfl) (by kernel_rfl) (by kernel_rfl) (by kernel_rfl);have h38:=@run_callFunc_extern Tryz.prog 429 _ (ReflectliteType.relation "Implements" ReflectliteType.implements_) Tryz.func429 (by kernel_rfl) (by kernel_rfl) (by kernel_rfl) (by kernel_rfl);have h10:=@run_callFunc_extern Tryz.prog 213 _ ReflectliteType.typeOf Tryz.func213 (by kernel_rfl) (by kernel_rfl) (by kernel_rfl) (by kernel_rfl);have h35:=@run_callFunc_extern Tryz.prog 426 _ (ReflectliteType.relation "AssignableTo" ReflectliteType.assignableTo) Tryz.func426 (by kernel_rfl) (by kernel_rfl) (by kernel_rfl) (by kernel_rfl);have h11:=@run_callFunc_extern Tryz.prog 214 _ (ReflectliteValue.method (ReflectliteValue.valueError "reflectlite.Value.Elem" 0) ReflectliteValue.elem) Tryz.func214 (by kernel_rfl) (by kernel_rfl) (by kernel_rfl) (by kernel_rfl);have h12:=@run_callFunc_extern Tryz.prog 215 _ ReflectliteValue.set Tryz.func215 (by kernel_rfl) (by kernel_rfl) (by kernel_rfl) (by kernel_rfl);have tO:=AcA;have mA:=Jw;have a25:=RI;have v25:=Yh;have f6:=WQ;have f7:=typePt;have mK:=Vv;have mE:=Vs;have mI:=Lc;have k27:=kindPt;have k25:=kindT;have e27:=elemPt;have i25:=Sj;have n8:=AcG ⟨w.heap.size,0,none⟩ t ((w.alloc (.cells #[.pointer (some t)] 170)).alloc (.cells #[.pointer (some ⟨9,170,none⟩),.pointer (some ⟨w.heap.size,0,none⟩),.int .u64 150] 232)) (by simp);have hlt:0<w.heap.size:=by
  rcases Nat.eq_zero_or_pos w.heap.size with h0|h
  ·simp[World.cell?,h0]at hg
  ·exact h
 have hg2:((w.alloc (.cells #[.pointer (some t)] 170)).alloc (.cells #[.pointer (some ⟨9,170,none⟩),.pointer (some ⟨w.heap.size,0,none⟩),.int .u64 150] 232)).cell? ⟨0,0,none⟩=some (.iface 311 (.agg #[.pointer (some ⟨9,165,none⟩)])):=by rw[World.cell?_alloc_lt _ _ ⟨0,0,none⟩ (by simp),World.cell?_alloc_lt _ _ ⟨0,0,none⟩ hlt];exact hg
 have htl:t.block<w.heap.size:=by
  rcases Nat.lt_or_ge t.block w.heap.size with h|h
  ·exact h
  ·simp[World.cell?,Array.getElem?_eq_none h]at ht0
 have el:=Aby ⟨w.heap.size,0,none⟩ t (((w.alloc (.cells #[.pointer (some t)] 170)).alloc (.cells #[.pointer (some ⟨9,170,none⟩),.pointer (some ⟨w.heap.size,0,none⟩),.int .u64 150] 232)).alloc (.cells #[.pointer (some ⟨9,170,none⟩),.pointer (some ⟨w.heap.size,0,none⟩),.int .u64 150] 232)) (by rw[World.cell?_alloc_lt _ _ ⟨w.heap.size,0,none⟩ (by simp;omega)];simp);have st:=setT t ⟨w.heap.size+1+1+1,0,none⟩ c old ((((w.alloc (.cells #[.pointer (some t)] 170)).alloc (.cells #[.pointer (some ⟨9,170,none⟩),.pointer (some ⟨w.heap.size,0,none⟩),.int .u64 150] 232)).alloc (.cells #[.pointer (some ⟨9,170,none⟩),.pointer (some ⟨w.heap.size,0,none⟩),.int .u64 150] 232)).alloc (.cells #[c] 168)) h1
  (by rw[World.cell?_alloc_at _ _ _ _ (by simp)];rfl)
  (by rw[World.cell?_alloc_lt _ _ t (by simp;omega),World.cell?_alloc_lt _ _ t (by simp;omega),World.cell?_alloc_lt _ _ t (by simp;omega),World.cell?_alloc_lt _ _ t htl];exact ht0)
  (by rw[World.frozen?_alloc_old _ _ t (by simp;omega),World.frozen?_alloc_old _ _ t (by simp;omega),World.frozen?_alloc_old _ _ t (by simp;omega),World.frozen?_alloc_old _ _ t (Nat.ne_of_lt htl)];exact hf0)
 go_enter Tryz.func110,Tryz.ntmps110
 go_wp2
 refine wp_loop_rounds 1 ?_;rw[rounds_succ]
 go_wp2
 go_ret
 exact⟨rfl,_,_,_,_,rfl⟩
end Go.E4
namespace Go.Ev
open Go Go.Ab Go.Nl Go.Nb Go.RowKit Go.Proofs Go.E4
set_option maxRecDepth 1000000
def FP:List NB:=[⟨.geq,.sel 0,.int .i64 30,.bool false⟩,⟨.add,.sel 0,.int .i64 1,.sel 1⟩]
noncomputable def EU (l:List AV)(facts:List OF)(bins:List NB)(f:FuncId)(args:List AV)(r:AG):Bool:=facts.all (fun q=>BU q.N q.args q.l q.res q.u)&&BO (F9 l [] facts bins [] []) 4000 80 0 f args [] r []
theorem Cj {l:List AV}(hl:(l.all fun x=>Au x&&x.cell)=true){facts:List OF}{bins:List NB}{f:FuncId}{args A:List AV}{r R:AG}(h:EU l facts bins f args r=true)(hf:∀q∈facts,Bx (Ag l) (mpL []) q)(hb:∀q∈bins,Dg (Ag l) q)(hA:Ai (Ag l) noT args=A)(hR:Bi (Ag l) noT r=R):VF f A R:=by subst hA hR;unfold EU at h;simp only[zA]at h;exact Gl hl (mu:=[]) rfl h.1 hf hb Ad Ad h.2
def nmsW:List (List Nat):=[nA,nB,nC,nV,nW,nmI,nX]
def wk (k:Nat):OF:=vq 93 [.agg [.sel k,.sel (k+1),.sel (k+2),.sel (k+3),.sel (k+4),.sel (k+5)],.sel 1] (.ret (.tup []))
theorem r_wbin (l:List AV):([3,4,5,6].all fun op=>EU l [wk 2,wk 8] FP 93 [.agg [.int .i64 (.ofNat op),.str [],.str [],.str [],.int .i64 0,.psl [.sel 2,.sel 3,.sel 4,.sel 5,.sel 6,.sel 7,.sel 8,.sel 9,.sel 10,.sel 11,.sel 12,.sel 13] 2 none],.sel 0] (.ret (.tup [])))=true:=by kernel_rfl
theorem r_wneg (l:List AV):EU l [wk 2] FP 93 [.agg [.int .i64 2,.str [],.str [],.str [],.int .i64 0,.psl [.sel 2,.sel 3,.sel 4,.sel 5,.sel 6,.sel 7] 1 none],.sel 0] (.ret (.tup []))=true:=by kernel_rfl
theorem r_wsq (l:List AV):EU l [wk 2] FP 93 [.agg [.int .i64 7,.str [],.str [],.str [],.int .i64 2,.psl [.sel 2,.sel 3,.sel 4,.sel 5,.sel 6,.sel 7] 1 none],.sel 0] (.ret (.tup []))=true:=by kernel_rfl
theorem r_wlst (l:List AV):EU l [wk 2,wk 8,wk 14] FP 93 [.agg [.int .i64 8,.str [],.str [],.str [],.int .i64 0,.psl [.sel 2,.sel 3,.sel 4,.sel 5,.sel 6,.sel 7,.sel 8,.sel 9,.sel 10,.sel 11,.sel 12,.sel 13,.sel 14,.sel 15,.sel 16,.sel 17,.sel 18,.sel 19] 3 none],.sel 0] (.ret (.tup []))=true:=by kernel_rfl
theorem r_wat (l:List AV):EU l [wk 2,wk 8] FP 93 [.agg [.int .i64 9,.str [],.str [],.str [],.int .i64 0,.psl [.sel 2,.sel 3,.sel 4,.sel 5,.sel 6,.sel 7,.sel 8,.sel 9,.sel 10,.sel 11,.sel 12,.sel 13] 2 none],.sel 0] (.ret (.tup []))=true:=by kernel_rfl
theorem r_wtab (l:List AV):([1,2,3,4].all fun n=>EU l [wk 2] FP 93 [.agg [.int .i64 10,.str [],.str [],.str nmI,.int .i64 (.ofNat n),.psl [.sel 2,.sel 3,.sel 4,.sel 5,.sel 6,.sel 7] 1 none],.sel 0] (.ret (.tup [])))=true:=by kernel_rfl
theorem r_wsum (l:List AV):([1,2,3,4].all fun n=>EU l [wk 2] FP 93 [.agg [.int .i64 11,.str [],.str [],.str nmI,.int .i64 (.ofNat n),.psl [.sel 2,.sel 3,.sel 4,.sel 5,.sel 6,.sel 7] 1 none],.sel 0] (.ret (.tup [])))=true:=by kernel_rfl
theorem r_wite (l:List AV):EU l [wk 2,wk 8,wk 14,wk 20] FP 93 [.agg [.int .i64 12,.str [],.str [],.str [],.int .i64 0,.psl [.sel 2,.sel 3,.sel 4,.sel 5,.sel 6,.sel 7,.sel 8,.sel 9,.sel 10,.sel 11,.sel 12,.sel 13,.sel 14,.sel 15,.sel 16,.sel 17,.sel 18,.sel 19,.sel 20,.sel 21,.sel 22,.sel 23,.sel 24,.sel 25] 4 none],.sel 0] (.ret (.tup []))=true:=by kernel_rfl
theorem AdV (l:List AV):(Fj.all fun s=>EU l [wk 2,wk 8] FP 93 [.agg [.int .i64 13,.str [],.str [],.str s,.int .i64 0,.psl [.sel 2,.sel 3,.sel 4,.sel 5,.sel 6,.sel 7,.sel 8,.sel 9,.sel 10,.sel 11,.sel 12,.sel 13] 2 none],.sel 0] (.ret (.tup [])))=true:=by kernel_rfl
theorem Ac1 (l:List AV):EU l [wk 2] FP 93 [.agg [.int .i64 14,.str [],.str [],.str nmF,.int .i64 0,.psl [.sel 2,.sel 3,.sel 4,.sel 5,.sel 6,.sel 7] 1 none],.sel 0] (.ret (.tup []))=true:=by kernel_rfl
theorem r_wref (l:List AV):(nmsW.all fun s=>EU l [] FP 93 [.agg [.int .i64 1,.str [],.str [],.str s,.int .i64 0,.emp],.sel 0] (.ret (.tup [])))=true:=by kernel_rfl
theorem r_wlit (l:List AV):((List.range 10).all fun a=>(List.range 5).all fun u=>EU l [vq 112 [.agg [.str [48+a],.sel 2]] (.ret (.int .i64 0))] FP 93 [.agg [.int .i64 0,.str [48+a],.sel 2,.str (Wm u),.int .i64 0,.emp],.sel 0] (.ret (.tup [])))=true:=by kernel_rfl
theorem r_chkx (l:List AV):EU l [vq 93 [.agg [.sel 0,.sel 1,.sel 2,.sel 3,.sel 4,.sel 5],.int .i64 0] (.ret (.tup []))] [] 52 [.agg [.sel 0,.sel 1,.sel 2,.sel 3,.sel 4,.sel 5]] (.ret (.int .i64 0))=true:=by kernel_rfl
def Wk (d:Int)(x:X):Prop:=VF 93 [x.av,.int .i64 d] (.ret (.tup []))
theorem Cw {d:Int}{r:List AV}(h0:0≤d)(h1:d<30):∀q∈FP,Dg (Ag (.int .i64 d::.int .i64 (d+1)::r)) q:=
 Aa (Cc d 30 rfl rfl rfl (by simp only[Bv,inst,decide_true,cond_true,ge_iff_le];rw[zL (by omega)]))<|Aa (Bt d 1 (d+1) rfl rfl rfl rfl (by unfold wrap64;omega)) Ad
theorem w_bin {d:Int}(h0:0≤d)(h1:d<30){op:Nat}(ho:op∈[3,4,5,6]){a b:X}(ha:Wk (d+1) a)(hb:Wk (d+1) b):Wk d (.bin op a b):=
 Cj (l:=[.int .i64 d,.int .i64 (d+1),a.c0,a.c1,a.c2,a.c3,a.c4,a.c5,b.c0,b.c1,b.c2,b.c3,b.c4,b.c5]) (pi _<|pi _<|px a<|px b<|rfl) (zB.1 (r_wbin _) _ ho) (Aa ha<|Aa hb<|Ad) (Cw h0 h1) rfl rfl
theorem w_neg {d:Int}(h0:0≤d)(h1:d<30){a:X}(ha:Wk (d+1) a):Wk d (.neg a):=
 Cj (l:=[.int .i64 d,.int .i64 (d+1),a.c0,a.c1,a.c2,a.c3,a.c4,a.c5]) (pi _<|pi _<|px a<|rfl) (r_wneg _) (Aa ha<|Ad) (Cw h0 h1) rfl rfl
theorem w_sq {d:Int}(h0:0≤d)(h1:d<30){a:X}(ha:Wk (d+1) a):Wk d (.sq a):=
 Cj (l:=[.int .i64 d,.int .i64 (d+1),a.c0,a.c1,a.c2,a.c3,a.c4,a.c5]) (pi _<|pi _<|px a<|rfl) (r_wsq _) (Aa ha<|Ad) (Cw h0 h1) rfl rfl
theorem w_lst {d:Int}(h0:0≤d)(h1:d<30){a b c:X}(ha:Wk (d+1) a)(hb:Wk (d+1) b)(hc:Wk (d+1) c):Wk d (.lst a b c):=
 Cj (l:=[.int .i64 d,.int .i64 (d+1),a.c0,a.c1,a.c2,a.c3,a.c4,a.c5,b.c0,b.c1,b.c2,b.c3,b.c4,b.c5,c.c0,c.c1,c.c2,c.c3,c.c4,c.c5]) (pi _<|pi _<|px a<|px b<|px c<|rfl) (r_wlst _) (Aa ha<|Aa hb<|Aa hc<|Ad) (Cw h0 h1) rfl rfl
theorem w_at {d:Int}(h0:0≤d)(h1:d<30){a b:X}(ha:Wk (d+1) a)(hb:Wk (d+1) b):Wk d (.at a b):=
 Cj (l:=[.int .i64 d,.int .i64 (d+1),a.c0,a.c1,a.c2,a.c3,a.c4,a.c5,b.c0,b.c1,b.c2,b.c3,b.c4,b.c5]) (pi _<|pi _<|px a<|px b<|rfl) (r_wat _) (Aa ha<|Aa hb<|Ad) (Cw h0 h1) rfl rfl
theorem w_tab {d:Int}(h0:0≤d)(h1:d<30){n:Nat}(hn:n∈[1,2,3,4]){a:X}(ha:Wk (d+1) a):Wk d (.tab n a):=
 Cj (l:=[.int .i64 d,.int .i64 (d+1),a.c0,a.c1,a.c2,a.c3,a.c4,a.c5]) (pi _<|pi _<|px a<|rfl) (zB.1 (r_wtab _) _ hn) (Aa ha<|Ad) (Cw h0 h1) rfl rfl
theorem w_sum {d:Int}(h0:0≤d)(h1:d<30){n:Nat}(hn:n∈[1,2,3,4]){a:X}(ha:Wk (d+1) a):Wk d (.sum n a):=
 Cj (l:=[.int .i64 d,.int .i64 (d+1),a.c0,a.c1,a.c2,a.c3,a.c4,a.c5]) (pi _<|pi _<|px a<|rfl) (zB.1 (r_wsum _) _ hn) (Aa ha<|Ad) (Cw h0 h1) rfl rfl
theorem AaR {d:Int}(h0:0≤d)(h1:d<30){a b c e:X}(ha:Wk (d+1) a)(hb:Wk (d+1) b)(hc:Wk (d+1) c)(he:Wk (d+1) e):Wk d (.ite a b c e):=
 Cj (l:=[.int .i64 d,.int .i64 (d+1),a.c0,a.c1,a.c2,a.c3,a.c4,a.c5,b.c0,b.c1,b.c2,b.c3,b.c4,b.c5,c.c0,c.c1,c.c2,c.c3,c.c4,c.c5,e.c0,e.c1,e.c2,e.c3,e.c4,e.c5]) (pi _<|pi _<|px a<|px b<|px c<|px e<|rfl) (r_wite _) (Aa ha<|Aa hb<|Aa hc<|Aa he<|Ad) (Cw h0 h1) rfl rfl
theorem w_lett {d:Int}(h0:0≤d)(h1:d<30){s:List Nat}(hs:s∈Fj){a b:X}(ha:Wk (d+1) a)(hb:Wk (d+1) b):Wk d (.lett s a b):=
 Cj (l:=[.int .i64 d,.int .i64 (d+1),a.c0,a.c1,a.c2,a.c3,a.c4,a.c5,b.c0,b.c1,b.c2,b.c3,b.c4,b.c5]) (pi _<|pi _<|px a<|px b<|rfl) (zB.1 (AdV _) _ hs) (Aa ha<|Aa hb<|Ad) (Cw h0 h1) rfl rfl
theorem Ui {d:Int}(h0:0≤d)(h1:d<30){a:X}(ha:Wk (d+1) a):Wk d (.call a):=
 Cj (l:=[.int .i64 d,.int .i64 (d+1),a.c0,a.c1,a.c2,a.c3,a.c4,a.c5]) (pi _<|pi _<|px a<|rfl) (Ac1 _) (Aa ha<|Ad) (Cw h0 h1) rfl rfl
theorem w_ref {d:Int}(h0:0≤d)(h1:d<30){s:List Nat}(hs:s∈nmsW):Wk d (.ref s):=
 Cj (l:=[.int .i64 d,.int .i64 (d+1)]) (pi _<|pi _<|rfl) (zB.1 (r_wref _) _ hs) (Ad) (Cw h0 h1) rfl rfl
theorem w_lit {d:Int}(h0:0≤d)(h1:d<30){a u:Nat}(ha:a<10)(hu:u<5){t:List Nat}{q:Q}(hc:VF 112 [.agg [.str [48+a],.str t]] (.ret (.int .i64 0))):Wk d (.lit [48+a] t q u):=
 Cj (l:=[.int .i64 d,.int .i64 (d+1),.str t]) (pi _<|pi _<|ps _ rfl) (zB.1 (zB.1 (r_wlit _) a (zQ.2 ha)) u (zQ.2 hu)) (Aa hc Ad) (Cw h0 h1) rfl rfl
theorem Kk {x:X}(h:Wk 0 x):VF 52 [x.av] (.ret (.int .i64 0)):=
 Cj (l:=[x.c0,x.c1,x.c2,x.c3,x.c4,x.c5]) (px x rfl) (r_chkx _) (Aa h Ad) Ad rfl rfl
def nzC (z:Int):List AV:=[.int .i64 z.sign,match z.natAbs with|0=>.nils|n+1=>.psl [.int .u32 (.ofNat (n+1))] 1 (some 1)]
def nzA (z:Int):AV:=.agg (nzC z)
def txs:List (List Nat×Int):=(List.range 10).map (fun a:Nat=>([48+a],(a:Int)))++((List.range 9).map (fun a:Nat=>([45,49+a],-((a:Int)+1)))++[([49,48,48,48],1000),([51,54,48,48],3600)])
theorem r_tx1 (l:List AV):(txs.all fun p=>ET l [] 216 [.str p.1] (.ret (.int .i64 0)))=true:=by kernel_rfl
theorem r_tx2 (l:List AV):(txs.all fun p=>ET l [] 181 [.str p.1] (.ret (nzA p.2)))=true:=by kernel_rfl
def U5:List Nat:=[1,2,3,4,5]
theorem r_ck (l:List AV):(U5.all fun b=>ET l [vq 216 [.sel 0] (.ret (.int .i64 0)),vq 216 [.str [48+b]] (.ret (.int .i64 0)),vq 181 [.sel 0] (.ret (.agg [.sel 1,.sel 2])),vq 181 [.str [48+b]] (.ret (nzA (b:Int))),vq 218 [.agg [.sel 1,.sel 2],nzA (b:Int)] (.ret (nzA 1))] 112 [.agg [.sel 0,.str [48+b]]] (.ret (.int .i64 0)))=true:=by kernel_rfl
theorem r_or (l:List AV):(U5.all fun b=>ET l [vq 181 [.sel 0] (.ret (.agg [.sel 1,.sel 2])),vq 181 [.str [48+b]] (.ret (nzA (b:Int)))] 123 [.agg [.sel 0,.str [48+b]]] (.ret (.agg (.sel 1::.sel 2::nzC (b:Int)))))=true:=by kernel_rfl
theorem VH {z:Int}(h:z.natAbs<B):[sg z,lm z]=nzC z:=by have:=GH h;unfold Ed src at this;simp only[List.cons.injEq]at this;unfold nzC;rw[this.2.1];rfl
theorem I5 {z:Int}(h:z.natAbs<B):AR z=nzA z:=by show AV.agg [sg z,lm z]=_;rw[VH h];rfl
theorem Ss {σ:Nat→AV}{τ:Nat→List Nat}(z:Int):Ai σ τ (nzC z)=nzC z:=by unfold nzC;cases z.natAbs<;>rfl
theorem Mu {σ:Nat→AV}{τ:Nat→List Nat}(z:Int):inst σ τ (nzA z)=nzA z:=by show AV.agg (Ai σ τ (nzC z))=_;rw[Ss];rfl
theorem Zo:(txs.all fun p=>decide (p.2.natAbs<10000))=true:=by decide
theorem tx_lt {t:List Nat}{z:Int}(h:(t,z)∈txs):z.natAbs<B:=by have:=of_decide_eq_true (zB.1 Zo _ h);simp only[B]at *;omega
theorem Y0 {t:List Nat}{z:Int}(h:(t,z)∈txs):VF 216 [.str t] (.ret (.int .i64 0)):=Cg (l:=[]) rfl Ad (zB.1 (r_tx1 []) _ h) rfl rfl
theorem My {t:List Nat}{z:Int}(h:(t,z)∈txs):VF 181 [.str t] (.ret (AR z)):=by rw[I5 (tx_lt h)];exact Cg (l:=[]) rfl Ad (zB.1 (r_tx2 []) _ h) rfl (by simp only[Bi,Mu])
theorem Uw {b:Nat}(h:b∈U5):([48+b],(b:Int))∈txs∧(b:Int).natAbs<B:=by simp only[U5,zH,List.not_mem_nil,or_false]at h;rcases h with rfl|rfl|rfl|rfl|rfl<;>decide
theorem Uy {x y:Int}(hx:x.natAbs<B)(hy:y.natAbs<B)(hg:Nat.gcd x.natAbs y.natAbs=1):VF 218 [AR x,AR y] (.ret (nzA 1)):=by have:=VF.of (MO (x:=x) (y:=y) (Aj (by decide) (DC hx)) (Aj (by decide) (DC hy))) (by kernel_rfl) (by simp[BE,Bq,AR,AY,Aw,IS]);rw[hg]at this;rw[show((1:Nat):Int)=1 from rfl]at this;have e:AR 1=nzA 1:=I5 (by decide);rw[e]at this;exact this
structure Fr (t d:List Nat)(q:Q):Prop where
 num:(t,q.1)∈txs
 den:∃b∈U5,d=[48+b]∧q.2=(b:Int)
 low:Nat.gcd q.1.natAbs q.2.natAbs=1
theorem Fr.lt {t d:List Nat}{q:Q}(h:Fr t d q):q.1.natAbs<B:=tx_lt h.num
theorem Fr.ok {t d:List Nat}{q:Q}(h:Fr t d q):Ok q:=by
 obtain⟨b,hb,_,e⟩:=h.den;have h2:=(Uw hb).2;have h3:0<b:=by simp only[U5,zH,List.not_mem_nil,or_false]at hb;omega
 refine⟨?_,by omega,h.low⟩;unfold CI;rw[IH (Aj (by decide) (DC h.lt)),e,IH (Aj (by decide) (DC h2))];rfl
theorem Fr.chk {t d:List Nat}{q:Q}(h:Fr t d q):VF 112 [.agg [.str t,.str d]] (.ret (.int .i64 0)):=by obtain⟨b,hb,rfl,e⟩:=h.den;have hd:=Uw hb;have hl:=h.low;rw[e]at hl;refine Cg (l:=[.str t,sg q.1,lm q.1]) (ps _<|all_cons rfl<|all_cons (Ah _) rfl) (Aa (Ac (Y0 h.num) rfl rfl)<|Aa (Ac (Y0 hd.1) rfl rfl)<|Aa (Ac (My h.num) rfl rfl)<|Aa (Ac (A:=[.str [48+b]]) (R:=.ret (nzA (b:Int))) (by have:=My hd.1;rwa[I5 hd.2]at this) rfl (by simp only[Bi,Mu]))<|Aa (Ac (A:=[AR q.1,nzA (b:Int)]) (R:=.ret (nzA 1)) (by have:=Uy h.lt hd.2 hl;rwa[I5 hd.2]at this) (by simp only[Ai,Mu];rfl) rfl) Ad) (zB.1 (r_ck _) b hb) rfl rfl
theorem Fr.of {t d:List Nat}{q:Q}(h:Fr t d q):VF 123 [.agg [.str t,.str d]] (.ret (BH q)):=by obtain⟨b,hb,rfl,e⟩:=h.den;have hd:=Uw hb;refine Cg (l:=[.str t,sg q.1,lm q.1]) (ps _<|all_cons rfl<|all_cons (Ah _) rfl) (Aa (Ac (My h.num) rfl rfl)<|Aa (Ac (A:=[.str [48+b]]) (R:=.ret (nzA (b:Int))) (by have:=My hd.1;rwa[I5 hd.2]at this) rfl (by simp only[Bi,Mu])) Ad) (zB.1 (r_or _) b hb) rfl ?_;show AG.ret (.agg (sg q.1::lm q.1::Ai _ noT (nzC (b:Int))))=.ret (.agg [sg q.1,lm q.1,sg q.2,lm q.2]);rw[Ss,e,←VH hd.2]
def C2:AV:=.psl (AN.flatMap fun p=>match p.2.1 with|.agg cs=>cs|_=>[]) 5 none
def bindsS:AV:=.psl [.str [97],.emp,.psl [.sel 3,.sel 4] 1 none,.emp,.str [98],.emp,.psl [.sel 5,.sel 6] 1 none,dmU [109],.str [99],.emp,.psl [.sel 7,.sel 8] 1 none,dmU [115],.str [118],.psl [.int .i64 3] 1 none,.psl [.sel 9,.sel 10,.sel 11,.sel 12,.sel 13,.sel 14] 3 none,dmU [109],.str [119],.psl [.int .i64 3] 1 none,.psl [.sel 15,.sel 16,.sel 17,.sel 18,.sel 19,.sel 20] 3 none,.emp] 5 none
def Abo:List AV:=[.str [97],.emp,.psl [.sel 21,.sel 22,.sel 23,.sel 24] 1 none,.emp,.str [98],.emp,.psl [.sel 25,.sel 26,.sel 27,.sel 28] 1 none,Ap .m,.str [99],.emp,.psl [.sel 29,.sel 30,.sel 31,.sel 32] 1 none,Ap .s,.str [118],.psl [.int .i64 3] 1 none,.psl [.sel 33,.sel 34,.sel 35,.sel 36,.sel 37,.sel 38,.sel 39,.sel 40,.sel 41,.sel 42,.sel 43,.sel 44] 3 none,Ap .m,.str [119],.psl [.int .i64 3] 1 none,.psl [.sel 45,.sel 46,.sel 47,.sel 48,.sel 49,.sel 50,.sel 51,.sel 52,.sel 53,.sel 54,.sel 55,.sel 56] 3 none,.emp]
def funsT:List AV:=[.int .i64 0,.str nmF,.psl [.str [120]] 1 none,.sel 57,.sel 58,.sel 59,.sel 60,.sel 61,.sel 62,.int .i64 0,.int .i64 5]
def linesS:AV:=.psl [.int .i64 0,.str nmF,.psl [.str [120]] 1 none,.sel 57,.sel 58,.sel 59,.sel 60,.sel 61,.sel 62] 1 none
def chF (a b:AV):OF:=vq 112 [.agg [a,b]] (.ret (.int .i64 0))
def Ts:List AV:=[dmU [109],dmU [115],dmU [107,103]]
def litU (s:List Nat):AV:=.agg [.int .i64 0,.str [48],.str [49],.str s,.int .i64 0,.emp]
def Vn:List (List Nat):=[[109],[107,109],[115],[104],[107,103]]
def refU (s:List Nat):AV:=.agg [.int .i64 1,.str [],.str [],.str s,.int .i64 0,.emp]
def Uq:List (List Nat):=[nA,nB,nC,nV,nW]
theorem r_dim (l:List AV):(Ts.all fun d=>ET l [chF (.str [49]) (.str [49])] 113 [d] (.ret (.tup [])))=true:=by kernel_rfl
theorem r_litU (l:List AV):(Vn.all fun s=>ET l [chF (.str [48]) (.str [49])] 52 [litU s] (.ret (.int .i64 0)))=true:=by kernel_rfl
def P8:List OF:=[chF (.str [49]) (.str [49]),chF (.str [49,48,48,48]) (.str [49]),chF (.str [51,54,48,48]) (.str [49]),vq 123 [.agg [.str [49],.str [49]]] (.ret (sr 1)),vq 95 [.emp] (.ret .emp)]++(Ts.map (fun d=>vq 113 [d] (.ret (.tup [])))++(Vn.map (fun s=>vq 52 [litU s] (.ret (.int .i64 0)))++Uq.map (fun s=>vq 52 [refU s] (.ret (.int .i64 0)))))
def AaT:List OF:=[chF (.sel 3) (.sel 4),chF (.sel 5) (.sel 6),chF (.sel 7) (.sel 8),chF (.sel 9) (.sel 10),chF (.sel 11) (.sel 12),chF (.sel 13) (.sel 14),chF (.sel 15) (.sel 16),chF (.sel 17) (.sel 18),chF (.sel 19) (.sel 20),vq 123 [.agg [.sel 3,.sel 4]] (.ret (.agg [.sel 21,.sel 22,.sel 23,.sel 24])),vq 123 [.agg [.sel 5,.sel 6]] (.ret (.agg [.sel 25,.sel 26,.sel 27,.sel 28])),vq 123 [.agg [.sel 7,.sel 8]] (.ret (.agg [.sel 29,.sel 30,.sel 31,.sel 32])),vq 123 [.agg [.sel 9,.sel 10]] (.ret (.agg [.sel 33,.sel 34,.sel 35,.sel 36])),vq 123 [.agg [.sel 11,.sel 12]] (.ret (.agg [.sel 37,.sel 38,.sel 39,.sel 40])),vq 123 [.agg [.sel 13,.sel 14]] (.ret (.agg [.sel 41,.sel 42,.sel 43,.sel 44])),vq 123 [.agg [.sel 15,.sel 16]] (.ret (.agg [.sel 45,.sel 46,.sel 47,.sel 48])),vq 123 [.agg [.sel 17,.sel 18]] (.ret (.agg [.sel 49,.sel 50,.sel 51,.sel 52])),vq 123 [.agg [.sel 19,.sel 20]] (.ret (.agg [.sel 53,.sel 54,.sel 55,.sel 56]))]
def xF:List OF:=[vq 93 [.agg [.sel 57,.sel 58,.sel 59,.sel 60,.sel 61,.sel 62],.int .i64 0] (.ret (.tup [])),vq 52 [.agg [.sel 63,.sel 64,.sel 65,.sel 66,.sel 67,.sel 68]] (.ret (.int .i64 0))]
def evT (res:AG)(st:Option AV):OF:=⟨191,6,[.ptr 0 0,scA 1,.agg [.sel 63,.sel 64,.sel 65,.sel 66,.sel 67,.sel 68]],lwG (.int .i64 0) (.map [] 0) (.map AN 0) funsT Abo,res,uwG st (.map [] 0) (.map AN 0) funsT Abo⟩
def argsE:List AV:=[C2,linesS,bindsS,.agg [.sel 63,.sel 64,.sel 65,.sel 66,.sel 67,.sel 68]]
def odS:Dm→AV
 |.pl=>.emp|.m=>.psl [.str [109],.sel 0,.sel 0] 1 none|.s=>.psl [.str [115],.sel 0,.sel 0] 1 none|.m2=>.psl [.str [109],.sel 1,.sel 0] 1 none|.ms=>.psl [.str [109],.sel 0,.sel 0,.str [115],.sel 2,.sel 0] 2 none
noncomputable def runT (l:List AV)(facts:List OF)(r:AG):Bool:=facts.all (fun q=>BU q.N q.args q.l q.res q.u)&&BO (F9 l [] facts [] [] []) 6000 80 0 16 argsE [] r []
noncomputable def runTE (l:List AV)(facts:List OF)(bins:List NB)(r:AG):Bool:=facts.all (fun q=>BU q.N q.args q.l q.res q.u)&&BO (F9 l [] facts bins [] []) 6000 80 0 16 argsE [] r []
def asF:OF:=⟨110,1,[.iface 168 (.agg [.sel 69]),.iface 170 (.ptr 0 0)],[(0,.cells 168 [.int .i64 0])],.ret (.bool true),[(0,some (.cells 168 [.sel 69]))]⟩
def WH:AV:=.agg [.emp,.emp,.emp]
theorem r_topE (l:List AV):runTE l (BG++(P8++(AaT++(xF++[evT (Bl 69) none,asF])))) [⟨.neq,.sel 69,.int .i64 0,.bool true⟩] (.ret (.tup [WH,.int .i64 0,.sel 69]))=true:=by kernel_rfl
def sls (a:Nat):Nat→List AV
 |0=>[]|n+1=>.sel a::sls (a+1) n
def tpF (m:Nat):List OF:=(List.range m).map fun i=>vq 98 [.agg (sls (70+4*i) 4)] (.ret (.tup [.agg (sls (70+4*m+2*i) 2),.bool true]))
noncomputable def Y1 (l:List AV)(sh:List Nat)(m:Nat)(d:Dm):Bool:=runT l (BG++(P8++(AaT++(xF++(evT (.ret (.agg [AA sh,.psl (sls 70 (4*m)) m none,Ap d])) (some (.sel 69))::tpF m))))) (.ret (.tup [.agg [AA sh,.psl (sls (70+4*m) (2*m)) m none,odS d],.sel 69,.int .i64 0]))
theorem r_top (l:List AV):(kds.all fun k=>Y1 l (shK k) (nk k) k.dm)=true:=by kernel_rfl
structure It where
 t:List Nat
 d:List Nat
 q:Q
structure Bn where
 i0:It
 i1:It
 i2:It
 i3:It
 i4:It
 i5:It
 i6:It
 i7:It
 i8:It
structure BnOk (b:Bn):Prop where
 i0:Fr b.i0.t b.i0.d b.i0.q
 i1:Fr b.i1.t b.i1.d b.i1.q
 i2:Fr b.i2.t b.i2.d b.i2.q
 i3:Fr b.i3.t b.i3.d b.i3.q
 i4:Fr b.i4.t b.i4.d b.i4.q
 i5:Fr b.i5.t b.i5.d b.i5.q
 i6:Fr b.i6.t b.i6.d b.i6.q
 i7:Fr b.i7.t b.i7.d b.i7.q
 i8:Fr b.i8.t b.i8.d b.i8.q
def Bn.en (b:Bn)(f:X):En:=⟨⟨[],[b.i0.q],.pl⟩,⟨[],[b.i1.q],.m⟩,⟨[],[b.i2.q],.s⟩,⟨[3],[b.i3.q,b.i4.q,b.i5.q],.m⟩,⟨[3],[b.i6.q,b.i7.q,b.i8.q],.pl⟩,f⟩
def DG (f:X):AV:=.psl [.int .i64 0,.str nmF,.psl [.str [120]] 1 none,f.c0,f.c1,f.c2,f.c3,f.c4,f.c5] 1 none
def DE (b:Bn):AV:=.psl [.str [97],.emp,.psl [.str b.i0.t,.str b.i0.d] 1 none,.emp,.str [98],.emp,.psl [.str b.i1.t,.str b.i1.d] 1 none,dmU [109],.str [99],.emp,.psl [.str b.i2.t,.str b.i2.d] 1 none,dmU [115],.str [118],.psl [.int .i64 3] 1 none,.psl [.str b.i3.t,.str b.i3.d,.str b.i4.t,.str b.i4.d,.str b.i5.t,.str b.i5.d] 3 none,dmU [109],.str [119],.psl [.int .i64 3] 1 none,.psl [.str b.i6.t,.str b.i6.d,.str b.i7.t,.str b.i7.d,.str b.i8.t,.str b.i8.d] 3 none,.emp] 5 none
def J2:Dm→AV
 |.pl=>.emp|.m=>.psl [.str [109],Aq 1,Aq 1] 1 none|.s=>.psl [.str [115],Aq 1,Aq 1] 1 none|.m2=>.psl [.str [109],Aq 2,Aq 1] 1 none|.ms=>.psl [.str [109],Aq 1,Aq 1,.str [115],Aq (-1),Aq 1] 2 none
def Vl.out (v:Vl):AV:=.agg [AA v.sh,.psl (v.it.flatMap txC) v.it.length none,J2 v.dm]
theorem c_dim (d:AV)(h:d∈Ts):VF 113 [d] (.ret (.tup [])):=by have h1:Fr [49] [49] (1,1):=⟨by decide,⟨1,by decide,rfl,rfl⟩,by decide⟩;refine Cg (l:=[]) rfl (Aa (Ac h1.chk rfl rfl) Ad) (zB.1 (r_dim []) _ h) ?_ rfl;simp only[Ts,zH,List.not_mem_nil,or_false]at h;rcases h with rfl|rfl|rfl<;>rfl
theorem c_lit (s:List Nat)(h:s∈Vn):VF 52 [litU s] (.ret (.int .i64 0)):=by have h1:Fr [48] [49] (0,1):=⟨by decide,⟨1,by decide,rfl,rfl⟩,by decide⟩;exact Cg (l:=[]) rfl (Aa (Ac h1.chk rfl rfl) Ad) (zB.1 (r_litU []) _ h) rfl rfl
theorem c_ref (s:List Nat)(h:s∈Uq):VF 52 [refU s] (.ret (.int .i64 0)):=
 Kk (x:=.ref s) (w_ref (by decide) (by decide) (by simp only[Uq,zH,List.not_mem_nil,or_false]at h;rcases h with rfl|rfl|rfl|rfl|rfl<;>decide))
theorem of_map {α:Type}{l:List AV}{L:List α}{g:α→OF}(h:∀a∈L,Bx (Ag l) (mpL []) (g a)):∀q∈L.map g,Bx (Ag l) (mpL []) q:=by intro q hq;obtain⟨a,ha,rfl⟩:=List.mem_map.1 hq;exact h a ha
theorem Pb (l:List AV):∀q∈P8,Bx (Ag l) (mpL []) q:=by have h1:Fr [49] [49] (1,1):=⟨by decide,⟨1,by decide,rfl,rfl⟩,by decide⟩;have h2:Fr [49,48,48,48] [49] (1000,1):=⟨by decide,⟨1,by decide,rfl,rfl⟩,by decide⟩;have h3:Fr [51,54,48,48] [49] (3600,1):=⟨by decide,⟨1,by decide,rfl,rfl⟩,by decide⟩;refine Ao (Aa (Ac h1.chk rfl rfl)<|Aa (Ac h2.chk rfl rfl)<|Aa (Ac h3.chk rfl rfl)<|Aa (Ac of1 rfl rfl)<|Aa (Ac UA rfl rfl) Ad) (Ao (of_map fun d hd=>Ac (c_dim d hd) ?_ rfl) (Ao (of_map fun s hs=>Ac (c_lit s hs) rfl rfl) (of_map fun s hs=>Ac (c_ref s hs) rfl rfl)));simp only[Ts,zH,List.not_mem_nil,or_false]at hd;rcases hd with rfl|rfl|rfl<;>rfl
theorem Tw {c:AV}(hc:c.cell=true):Cm P4 gl5 1 110 [.iface 168 (.agg [c]),.iface 170 (.ptr 0 0)] [(0,.cells 168 [.int .i64 0])] (.ret (.bool true)) [(0,some (.cells 168 [c]))]:=by intro k h w vs hk hr hg hsub hn hv;obtain⟨b,hb⟩:=Option.isSome_iff_exists.1 (show Tryz.f110.body.isSome=true by kernel_rfl);have hgo:h.get 0=some (.cells 168 [.int .i64 0]):=hsub (0,_) (by simp);refine X2 (E:=De.env) Cs (f:=110) (F:=Tryz.f110) (by kernel_rfl) hb (g:=0) (hv:=.iface 311 (.agg #[.pointer (some ⟨9,165,none⟩)])) (by kernel_rfl) (l:=[(168,170)]) (fun q hq=>by obtain rfl:=List.mem_singleton.1 hq;exact as_hit) hr hg hv ?_;unfold Ud;simp only[N0,hc,hgo];rfl
theorem Ri {a b:List AV}(ha:Pls a)(hb:Pls b):Pls (a++b):=by simp only[Pls,List.all_append,zA];exact⟨ha,hb⟩
section
variable {b:Bn}{f x:X}
def tpB (b:Bn)(f x:X):List AV:=[Aq 1,Aq 2,Aq (-1),.str b.i0.t,.str b.i0.d,.str b.i1.t,.str b.i1.d,.str b.i2.t,.str b.i2.d,.str b.i3.t,.str b.i3.d,.str b.i4.t,.str b.i4.d,.str b.i5.t,.str b.i5.d,.str b.i6.t,.str b.i6.d,.str b.i7.t,.str b.i7.d,.str b.i8.t,.str b.i8.d]++([sg b.i0.q.1,lm b.i0.q.1,sg b.i0.q.2,lm b.i0.q.2,sg b.i1.q.1,lm b.i1.q.1,sg b.i1.q.2,lm b.i1.q.2,sg b.i2.q.1,lm b.i2.q.1,sg b.i2.q.2,lm b.i2.q.2,sg b.i3.q.1,lm b.i3.q.1,sg b.i3.q.2,lm b.i3.q.2,sg b.i4.q.1,lm b.i4.q.1,sg b.i4.q.2,lm b.i4.q.2,sg b.i5.q.1,lm b.i5.q.1,sg b.i5.q.2,lm b.i5.q.2,sg b.i6.q.1,lm b.i6.q.1,sg b.i6.q.2,lm b.i6.q.2,sg b.i7.q.1,lm b.i7.q.1,sg b.i7.q.2,lm b.i7.q.2,sg b.i8.q.1,lm b.i8.q.1,sg b.i8.q.2,lm b.i8.q.2]++[f.c0,f.c1,f.c2,f.c3,f.c4,f.c5,x.c0,x.c1,x.c2,x.c3,x.c4,x.c5])
theorem Zt:Pls (tpB b f x):=Ri (ps _<|ps _<|ps _<|ps _<|ps _<|ps _<|ps _<|ps _<|ps _<|ps _<|ps _<|ps _<|ps _<|ps _<|ps _<|ps _<|ps _<|ps _<|ps _<|ps _<|ps _<|rfl) (Ri (pq _<|pq _<|pq _<|pq _<|pq _<|pq _<|pq _<|pq _<|pq _<|rfl) (px f<|px x rfl))
theorem Wf (hb:BnOk b)(r:List AV):∀q∈AaT,Bx (Ag (tpB b f x++r)) (mpL []) q:=
 Aa (Ac hb.i0.chk rfl rfl)<|Aa (Ac hb.i1.chk rfl rfl)<|Aa (Ac hb.i2.chk rfl rfl)<|Aa (Ac hb.i3.chk rfl rfl)<|Aa (Ac hb.i4.chk rfl rfl)<|Aa (Ac hb.i5.chk rfl rfl)<|Aa (Ac hb.i6.chk rfl rfl)<|Aa (Ac hb.i7.chk rfl rfl)<|Aa (Ac hb.i8.chk rfl rfl)<|Aa (Ac hb.i0.of rfl rfl)<|Aa (Ac hb.i1.of rfl rfl)<|Aa (Ac hb.i2.of rfl rfl)<|Aa (Ac hb.i3.of rfl rfl)<|Aa (Ac hb.i4.of rfl rfl)<|Aa (Ac hb.i5.of rfl rfl)<|Aa (Ac hb.i6.of rfl rfl)<|Aa (Ac hb.i7.of rfl rfl)<|Aa (Ac hb.i8.of rfl rfl)<|Ad
theorem Kj:∀{q p r:List AV} {a n:Nat},p.length=a→q.length=n→Ai (Ag (p++(q++r))) noT (sls a n)=q
 |[],_,_,_,_,_,rfl=>rfl|c::q,p,r,_,_,rfl,rfl=>by have ih:=Kj (q:=q) (p:=p++[c]) (r:=r) (a:=p.length+1) (by simp) rfl;rw[List.append_assoc]at ih;show Ag _ p.length::Ai _ noT (sls (p.length+1) q.length)=_;rw[show p++(c::q++r)=p++([c]++(q++r)) from rfl,ih];unfold Ag;rw[List.getElem?_append_right (zI _),Nat.sub_self];rfl
theorem Hx {g:Q→List AV}{w:Nat}(hg:∀q,(g q).length=w):∀A:List Q,(A.flatMap g).length=w*A.length
 |[]=>rfl|q::A=>by rw[List.flatMap_cons,zR,hg,Hx hg A,List.length_cons,Nat.mul_add,Nat.mul_one,Nat.add_comm]
theorem VP {g:Q→List AV}{w:Nat}(hg:∀q,(g q).length=w){p r:List AV}{A:List Q}{i:Nat}(hi:i<A.length){a:Nat}(ha:a=p.length+w*i):Ai (Ag (p++(A.flatMap g++r))) noT (sls a w)=g A[i]:=by
 have h:A.flatMap g=(A.take i).flatMap g++(g A[i]++(A.drop (i+1)).flatMap g):=by have:=congrArg (List.flatMap g) (show A=A.take i++A[i]::A.drop (i+1) by simp);rwa[List.flatMap_append,List.flatMap_cons]at this
 rw[h,List.append_assoc,List.append_assoc,←List.append_assoc];refine Kj ?_ (hg _);rw[zR,Hx hg,ha,List.length_take];congr 2;omega
theorem xF_ok (hf:Wk 0 f)(hx:Wk 0 x)(r:List AV):∀q∈xF,Bx (Ag (tpB b f x++r)) (mpL []) q:=Aa (Ac hf rfl rfl)<|Aa (Ac (Kk hx) rfl rfl) Ad
theorem eval_err (hb:BnOk b)(hf:Wk 0 f)(hx:Wk 0 x){er:Nat}(h0:er≠0)(he:Ev (b.en f) 1 [] 0 x (.error er)):VF 16 [C2,DG f,DE b,x.av] (.ret (.tup [WH,.int .i64 0,.int .i64 (.ofNat er)])):=by
 have hr:=r_topE (tpB b f x++[AV.int .i64 (.ofNat er)]);unfold runTE at hr;simp only[zA]at hr;exact Gl (l:=tpB b f x++[AV.int .i64 (.ofNat er)]) (Ri Zt (pi _ rfl)) (mu:=[]) rfl hr.1 (Ao (Ir _) (Ao (Pb _) (Ao (Wf hb [.int .i64 (.ofNat er)]) (Ao (xF_ok hf hx _) (Aa he<|Aa (Tw rfl) Ad))))) (Aa ⟨rfl,.inl ⟨_,_,_,_,rfl,rfl,by
  have:(er:Int)≠0:=by omega
  simp[Bv,inst,h0]⟩⟩ Ad) Ad Ad hr.2
theorem AcT (d:Dm)(r:List AV):inst (Ag (tpB b f x++r)) noT (odS d)=J2 d:=by cases d<;>rfl
theorem AaC (σ:Nat→AV)(d:Dm):inst σ noT (Ap d)=Ap d:=by cases d<;>rfl
theorem eval_gen (hb:BnOk b)(hf:Wk 0 f)(hx:Wk 0 x){sh:List Nat}{A:List Q}{d:Dm}(hA:∀q∈A,Ok q)(hr:∀l,Y1 l sh A.length d=true){n:Int}(he:Ev (b.en f) 1 [] 0 x (.ok (⟨sh,A,d⟩,n))):VF 16 [C2,DG f,DE b,x.av] (.ret (.tup [(⟨sh,A,d⟩:Vl).out,.int .i64 n,.int .i64 0])):=by
 have e4:∀q,(Ed q).length=4:=fun _=>rfl
 have e2:∀q,(txC q).length=2:=fun _=>rfl
 generalize hR:A.flatMap Ed++(A.flatMap txC++[])=R;have hp:(tpB b f x++[AV.int .i64 n]).length=70:=rfl;have hL:tpB b f x++([AV.int .i64 n]++R)=(tpB b f x++[AV.int .i64 n])++(A.flatMap Ed++(A.flatMap txC++[])):=by rw[hR,List.append_assoc]
 have hL2:tpB b f x++([AV.int .i64 n]++R)=((tpB b f x++[AV.int .i64 n])++A.flatMap Ed)++(A.flatMap txC++[]):=by rw[hL];simp only[List.append_assoc]
 have hp2:((tpB b f x++[AV.int .i64 n])++A.flatMap Ed).length=70+4*A.length:=by rw[zR,hp,Hx e4]
 have pl4:Pls (A.flatMap Ed):=by
  clear he hr hL hL2 hp2 hR hA
  induction A with
  |nil=>rfl|cons q A ih=>exact Ri (pq q rfl) ih
 have pl2:Pls (A.flatMap txC):=by
  clear he hr hL hL2 hp2 hR hA pl4
  induction A with
  |nil=>rfl|cons q A ih=>exact Ri (ps _<|ps _ rfl) ih
 have pl:Pls (tpB b f x++([AV.int .i64 n]++R)):=Ri Zt (Ri (pi _ rfl) (by rw[←hR];exact Ri pl4 (Ri pl2 rfl)));have hr:=hr (tpB b f x++([AV.int .i64 n]++R));unfold Y1 runT at hr;simp only[zA]at hr;have i4:Ai (Ag (tpB b f x++([AV.int .i64 n]++R))) noT (sls 70 (4*A.length))=A.flatMap Ed:=by rw[hL];exact Kj hp (Hx e4 A)
 have i2:Ai (Ag (tpB b f x++([AV.int .i64 n]++R))) noT (sls (70+4*A.length) (2*A.length))=A.flatMap txC:=by rw[hL2];exact Kj hp2 (Hx e2 A)
 have ev:Bx (Ag (tpB b f x++([AV.int .i64 n]++R))) (mpL []) (evT (.ret (.agg [AA sh,.psl (sls 70 (4*A.length)) A.length none,Ap d])) (some (.sel 69))):=by
  have e:Bi (Ag (tpB b f x++([AV.int .i64 n]++R))) noT (.ret (.agg [AA sh,.psl (sls 70 (4*A.length)) A.length none,Ap d]))=.ret (⟨sh,A,d⟩:Vl).av:=by show AG.ret (.agg [inst _ noT (AA sh),.psl (Ai _ noT (sls 70 (4*A.length))) A.length none,inst _ noT (Ap d)])=_;rw[Mg,i4,AaC];rfl
  unfold Bx;show Cm P4 gl5 6 191 _ _ (Bi _ noT (.ret (.agg [AA sh,.psl (sls 70 (4*A.length)) A.length none,Ap d]))) _;rw[e];exact he
 have rats:∀q∈tpF A.length,Bx (Ag (tpB b f x++([AV.int .i64 n]++R))) (mpL []) q:=fun q hq=>by
  obtain⟨i,hi,rfl⟩:=List.mem_map.1 hq;have hi:=zQ.1 hi;have hq:=hA _ (List.getElem_mem hi);refine Gd (q:=A[i]) (SM (wid0 hq) (by omega)) hq.1 ?_ ?_
  ·show[AV.agg (Ai _ noT (sls (70+4*i) 4))]=_;rw[hL,VP e4 hi (by rw[hp])];rfl
  ·show AV.tup [.agg (Ai _ noT (sls (70+4*A.length+2*i) 2)),.bool true]=_;rw[hL2,VP e2 hi (by rw[hp2])];rfl
 have:=Gl pl (mu:=[]) rfl hr.1 (Ao (Ir _) (Ao (Pb _) (Ao (Wf hb _) (Ao (xF_ok hf hx _) (Aa ev rats))))) Ad Ad Ad hr.2;have e:Bi (Ag (tpB b f x++([AV.int .i64 n]++R))) noT (.ret (.tup [.agg [AA sh,.psl (sls (70+4*A.length) (2*A.length)) A.length none,odS d],.sel 69,.int .i64 0]))=.ret (.tup [(⟨sh,A,d⟩:Vl).out,.int .i64 n,.int .i64 0]):=by show AG.ret (.tup [.agg [inst _ noT (AA sh),.psl (Ai _ noT (sls (70+4*A.length) (2*A.length))) A.length none,inst _ noT (odS d)],_,_])=_;rw[Mg,i2,AcT];rfl
 rw[e]at this;exact this
end
theorem eval_ok {b:Bn}{f x:X}(hb:BnOk b)(hf:Wk 0 f)(hx:Wk 0 x){k:Kd}{v:Vl}(hv:VOk k v){n:Int}(he:Ev (b.en f) 1 [] 0 x (.ok (v,n))):VF 16 [C2,DG f,DE b,x.av] (.ret (.tup [v.out,.int .i64 n,.int .i64 0])):=by have h:=hv.eq;have hi:=hv.it;rw[h.1]at he ⊢;exact eval_gen hb hf hx hi (fun l=>by rw[h.2];exact zB.1 (r_top l) k (GJ k)) he
end Go.Ev
end
