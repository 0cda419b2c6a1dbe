/- What the evaluator of the program does at a node of an expression, told of whatever its arguments evaluate to. -/
import Derived.Test.YtecmlmofhabonaaGreatDoorINode2
import Derived.Test.YtecmlmofhabonaaGreatDoorINode1
noncomputable section
namespace Go.Ev
open Go Go.Ab Go.Nl Go.Nb Go.RowKit Go.Proofs Go.E4
set_option maxRecDepth 1000000
theorem VQ (i:Nat)(h:i<B):VF 271 [.int .i64 (.ofNat i)] (.ret (wvS i)):=by have:=whole (i:Int) (by simpa using h);rwa[Rh i h]at this
theorem wv_av (i:Nat)(h:i<B):(⟨[],[((i:Int),1)],.pl⟩:Vl).av=wvS i:=Rh i h
theorem Bd.idx {e:En}{own:ME}{n:Int}{i:Nat}(h:i<B){cl:FuncId}{x:X}{r:Rs}(hb:Bd e own n nmI ⟨[],[((i:Int),1)],.pl⟩ cl x r):Cm P4 gl5 9 265 [scA 1,.str nmI,wvS i,clA cl] (boxA x.cs++lwA e n own) (resE r) (L9 x.cs++uwA e (stE r) own):=by unfold Bd at hb;rwa[wv_av i h]at hb
theorem Cu (a b:Int):AS a b<0↔a<b:=by
 unfold AS;split
 ·omega
 ·split<;>omega
theorem BM (r:List AV)(mu:List ME):∀q∈BG,Bx (Ag (Aq 1::Aq 2::Aq (-1)::r)) (mpL mu) q:=fun q hq=>by have:=Ir r q hq;unfold BG at hq;simp only[zH,List.not_mem_nil,or_false]at hq;rcases hq with rfl|rfl|rfl|rfl|rfl|rfl|rfl|rfl|rfl|rfl|rfl|rfl|rfl|rfl|rfl|rfl|rfl|rfl|rfl|rfl|rfl|rfl|rfl|rfl|rfl|rfl<;>exact this
theorem ZN {e:En}{own:ME}{n:Int}(ho:AU own)(h0:0≤n)(h1:n<5000){s:List Nat}(hs:s∈Fj){a b:X}{er:Nat}(ha:Ev e 1 own (n+1) a (.error er)):Ev e 1 own n (.lett s a b) (.error er):=
 AL (r:=[a.c0,a.c1,a.c2,a.c3,a.c4,a.c5,b.c0,b.c1,b.c2,b.c3,b.c4,b.c5,.int .i64 (.ofNat er)]) ho (px a<|px b<|pi _<|rfl) (zB.1 (YI _ _) _ hs) (Aa ha<|Ad) (step_ok h0 (by omega) (zL (by omega))) rfl rfl rfl rfl
theorem Yk {e:En}{own:ME}{n:Int}(ho:AU own)(h0:0≤n)(h1:n<5000){s:List Nat}(hs:s∈Fj){a b:X}{u:Vl}{n0:Int}{er:Nat}(ha:Ev e 1 own (n+1) a (.ok (u,n0)))(hb:Bd e own n0 s u 266 (.lett s a b) (.error er)):Ev e 1 own n (.lett s a b) (.error er):=
 AL (r:=[a.c0,a.c1,a.c2,a.c3,a.c4,a.c5,b.c0,b.c1,b.c2,b.c3,b.c4,b.c5,AA u.sh,AQ u.it,Ap u.dm,.int .i64 n0,.int .i64 (.ofNat er)]) ho (px a<|px b<|pv u<|pi _<|pi _<|rfl) (zB.1 (YN _ _) _ hs) (Aa ha<|Aa hb<|Ad) (step_ok h0 (by omega) (zL (by omega))) rfl rfl rfl rfl
theorem Yz {e:En}{own:ME}{n:Int}(ho:AU own)(h0:0≤n)(h1:n<5000){s:List Nat}(hs:s∈Fj){a b:X}{u:Vl}{n0:Int}{w:Vl}{n2:Int}(ha:Ev e 1 own (n+1) a (.ok (u,n0)))(hb:Bd e own n0 s u 266 (.lett s a b) (.ok (w,n2))):Ev e 1 own n (.lett s a b) (.ok (w,n2)):=
 AL (r:=[a.c0,a.c1,a.c2,a.c3,a.c4,a.c5,b.c0,b.c1,b.c2,b.c3,b.c4,b.c5,AA u.sh,AQ u.it,Ap u.dm,.int .i64 n0,AA w.sh,AQ w.it,Ap w.dm,.int .i64 n2]) ho (px a<|px b<|pv u<|pi _<|pv w<|pi _<|rfl) (zB.1 (YR _ _) _ hs) (Aa ha<|Aa hb<|Ad) (step_ok h0 (by omega) (zL (by omega))) rfl rfl rfl rfl
theorem Rj {e:En}{own:ME}{n:Int}(ho:AU own)(h0:0≤n)(h1:n<5000){a b c d:X}{er:Nat}(kE:Ev e 1 own (n+1) a (.error er)):Ev e 1 own n (.ite a b c d) (.error er):=
 AL (r:=[a.c0,a.c1,a.c2,a.c3,a.c4,a.c5,b.c0,b.c1,b.c2,b.c3,b.c4,b.c5,c.c0,c.c1,c.c2,c.c3,c.c4,c.c5,d.c0,d.c1,d.c2,d.c3,d.c4,d.c5,.int .i64 (.ofNat er)]) ho (px a<|px b<|px c<|px d<|pi _<|rfl) (R4 _ _) (Aa kE<|Ad) (step_ok h0 (by omega) (zL (by omega))) rfl rfl rfl rfl
theorem RJ {e:En}{own:ME}{n:Int}(ho:AU own)(h0:0≤n)(h1:n<5000){a b c d:X}{p:Q}{n0:Int}{er:Nat}(k0:Ev e 1 own (n+1) a (.ok (⟨[],[p],.pl⟩,n0)))(kE:Ev e 1 own n0 b (.error er)):Ev e 1 own n (.ite a b c d) (.error er):=
 AL (r:=[a.c0,a.c1,a.c2,a.c3,a.c4,a.c5,b.c0,b.c1,b.c2,b.c3,b.c4,b.c5,c.c0,c.c1,c.c2,c.c3,c.c4,c.c5,d.c0,d.c1,d.c2,d.c3,d.c4,d.c5,sg p.1,lm p.1,sg p.2,lm p.2,.int .i64 n0,.int .i64 (.ofNat er)]) ho (px a<|px b<|px c<|px d<|pq p<|pi _<|pi _<|rfl) (Rl _ _) (Aa k0<|Aa kE<|Ad) (step_ok h0 (by omega) (zL (by omega))) rfl rfl rfl rfl
theorem LS {e:En}{own:ME}{n:Int}(ho:AU own)(h0:0≤n)(h1:n<5000){a b c d:X}{p q:Q}{n0 n1:Int}{er:Nat}(k0:Ev e 1 own (n+1) a (.ok (⟨[],[p],.pl⟩,n0)))(k1:Ev e 1 own n0 b (.ok (⟨[],[q],.pl⟩,n1)))(hp:Ok p)(hq:Ok q)(hl:decide (p.1*q.2<q.1*p.2)=true)(kE:Ev e 1 own n1 c (.error er)):Ev e 1 own n (.ite a b c d) (.error er):=
 AL (r:=[a.c0,a.c1,a.c2,a.c3,a.c4,a.c5,b.c0,b.c1,b.c2,b.c3,b.c4,b.c5,c.c0,c.c1,c.c2,c.c3,c.c4,c.c5,d.c0,d.c1,d.c2,d.c3,d.c4,d.c5,sg p.1,lm p.1,sg p.2,lm p.2,.int .i64 n0,sg q.1,lm q.1,sg q.2,lm q.2,.int .i64 n1,.int .i64 (AS (p.1*q.2) (q.1*p.2)),.int .i64 (.ofNat er)]) ho (px a<|px b<|px c<|px d<|pq p<|pi _<|pq q<|pi _<|pi _<|pi _<|rfl) (Td _ _) (Ao (BM _ _) (Aa k0<|Aa k1<|Aa (Ac (CY hp.st hq.st) rfl rfl)<|Aa kE<|Ad)) (Aa (Ce _ _ rfl rfl (by rw[←hl];exact decide_eq_decide.2 (Cu _ _))) (step_ok h0 (by omega) (zL (by omega)))) rfl rfl rfl rfl
theorem LD {e:En}{own:ME}{n:Int}(ho:AU own)(h0:0≤n)(h1:n<5000){a b c d:X}{p q:Q}{n0 n1:Int}{w:Vl}{n2:Int}(k0:Ev e 1 own (n+1) a (.ok (⟨[],[p],.pl⟩,n0)))(k1:Ev e 1 own n0 b (.ok (⟨[],[q],.pl⟩,n1)))(hp:Ok p)(hq:Ok q)(hl:decide (p.1*q.2<q.1*p.2)=true)(kK:Ev e 1 own n1 c (.ok (w,n2))):Ev e 1 own n (.ite a b c d) (.ok (w,n2)):=
 AL (r:=[a.c0,a.c1,a.c2,a.c3,a.c4,a.c5,b.c0,b.c1,b.c2,b.c3,b.c4,b.c5,c.c0,c.c1,c.c2,c.c3,c.c4,c.c5,d.c0,d.c1,d.c2,d.c3,d.c4,d.c5,sg p.1,lm p.1,sg p.2,lm p.2,.int .i64 n0,sg q.1,lm q.1,sg q.2,lm q.2,.int .i64 n1,.int .i64 (AS (p.1*q.2) (q.1*p.2)),AA w.sh,AQ w.it,Ap w.dm,.int .i64 n2]) ho (px a<|px b<|px c<|px d<|pq p<|pi _<|pq q<|pi _<|pi _<|pv w<|pi _<|rfl) (R5 _ _) (Ao (BM _ _) (Aa k0<|Aa k1<|Aa (Ac (CY hp.st hq.st) rfl rfl)<|Aa kK<|Ad)) (Aa (Ce _ _ rfl rfl (by rw[←hl];exact decide_eq_decide.2 (Cu _ _))) (step_ok h0 (by omega) (zL (by omega)))) rfl rfl rfl rfl
theorem LB {e:En}{own:ME}{n:Int}(ho:AU own)(h0:0≤n)(h1:n<5000){a b c d:X}{p q:Q}{n0 n1:Int}{er:Nat}(k0:Ev e 1 own (n+1) a (.ok (⟨[],[p],.pl⟩,n0)))(k1:Ev e 1 own n0 b (.ok (⟨[],[q],.pl⟩,n1)))(hp:Ok p)(hq:Ok q)(hl:decide (p.1*q.2<q.1*p.2)=false)(kE:Ev e 1 own n1 d (.error er)):Ev e 1 own n (.ite a b c d) (.error er):=
 AL (r:=[a.c0,a.c1,a.c2,a.c3,a.c4,a.c5,b.c0,b.c1,b.c2,b.c3,b.c4,b.c5,c.c0,c.c1,c.c2,c.c3,c.c4,c.c5,d.c0,d.c1,d.c2,d.c3,d.c4,d.c5,sg p.1,lm p.1,sg p.2,lm p.2,.int .i64 n0,sg q.1,lm q.1,sg q.2,lm q.2,.int .i64 n1,.int .i64 (AS (p.1*q.2) (q.1*p.2)),.int .i64 (.ofNat er)]) ho (px a<|px b<|px c<|px d<|pq p<|pi _<|pq q<|pi _<|pi _<|pi _<|rfl) (SD _ _) (Ao (BM _ _) (Aa k0<|Aa k1<|Aa (Ac (CY hp.st hq.st) rfl rfl)<|Aa kE<|Ad)) (Aa (Ce _ _ rfl rfl (by rw[←hl];exact decide_eq_decide.2 (Cu _ _))) (step_ok h0 (by omega) (zL (by omega)))) rfl rfl rfl rfl
theorem LU {e:En}{own:ME}{n:Int}(ho:AU own)(h0:0≤n)(h1:n<5000){a b c d:X}{p q:Q}{n0 n1:Int}{w:Vl}{n2:Int}(k0:Ev e 1 own (n+1) a (.ok (⟨[],[p],.pl⟩,n0)))(k1:Ev e 1 own n0 b (.ok (⟨[],[q],.pl⟩,n1)))(hp:Ok p)(hq:Ok q)(hl:decide (p.1*q.2<q.1*p.2)=false)(kK:Ev e 1 own n1 d (.ok (w,n2))):Ev e 1 own n (.ite a b c d) (.ok (w,n2)):=
 AL (r:=[a.c0,a.c1,a.c2,a.c3,a.c4,a.c5,b.c0,b.c1,b.c2,b.c3,b.c4,b.c5,c.c0,c.c1,c.c2,c.c3,c.c4,c.c5,d.c0,d.c1,d.c2,d.c3,d.c4,d.c5,sg p.1,lm p.1,sg p.2,lm p.2,.int .i64 n0,sg q.1,lm q.1,sg q.2,lm q.2,.int .i64 n1,.int .i64 (AS (p.1*q.2) (q.1*p.2)),AA w.sh,AQ w.it,Ap w.dm,.int .i64 n2]) ho (px a<|px b<|px c<|px d<|pq p<|pi _<|pq q<|pi _<|pi _<|pv w<|pi _<|rfl) (RB _ _) (Ao (BM _ _) (Aa k0<|Aa k1<|Aa (Ac (CY hp.st hq.st) rfl rfl)<|Aa kK<|Ad)) (Aa (Ce _ _ rfl rfl (by rw[←hl];exact decide_eq_decide.2 (Cu _ _))) (step_ok h0 (by omega) (zL (by omega)))) rfl rfl rfl rfl
theorem Vp {e:En}{own:ME}{n:Int}(ho:AU own)(h0:0≤n)(h1:n<5000){a b c d:X}{p:Q}{n0:Int}{er:Nat}(k0:Ev e 1 own (n+1) a (.ok (⟨[],[p],.m⟩,n0)))(kE:Ev e 1 own n0 b (.error er)):Ev e 1 own n (.ite a b c d) (.error er):=
 AL (r:=[a.c0,a.c1,a.c2,a.c3,a.c4,a.c5,b.c0,b.c1,b.c2,b.c3,b.c4,b.c5,c.c0,c.c1,c.c2,c.c3,c.c4,c.c5,d.c0,d.c1,d.c2,d.c3,d.c4,d.c5,sg p.1,lm p.1,sg p.2,lm p.2,.int .i64 n0,.int .i64 (.ofNat er)]) ho (px a<|px b<|px c<|px d<|pq p<|pi _<|pi _<|rfl) (Ug _ _) (Aa k0<|Aa kE<|Ad) (step_ok h0 (by omega) (zL (by omega))) rfl rfl rfl rfl
theorem M1 {e:En}{own:ME}{n:Int}(ho:AU own)(h0:0≤n)(h1:n<5000){a b c d:X}{p q:Q}{n0 n1:Int}{er:Nat}(k0:Ev e 1 own (n+1) a (.ok (⟨[],[p],.m⟩,n0)))(k1:Ev e 1 own n0 b (.ok (⟨[],[q],.m⟩,n1)))(hp:Ok p)(hq:Ok q)(hl:decide (p.1*q.2<q.1*p.2)=true)(kE:Ev e 1 own n1 c (.error er)):Ev e 1 own n (.ite a b c d) (.error er):=
 AL (r:=[a.c0,a.c1,a.c2,a.c3,a.c4,a.c5,b.c0,b.c1,b.c2,b.c3,b.c4,b.c5,c.c0,c.c1,c.c2,c.c3,c.c4,c.c5,d.c0,d.c1,d.c2,d.c3,d.c4,d.c5,sg p.1,lm p.1,sg p.2,lm p.2,.int .i64 n0,sg q.1,lm q.1,sg q.2,lm q.2,.int .i64 n1,.int .i64 (AS (p.1*q.2) (q.1*p.2)),.int .i64 (.ofNat er)]) ho (px a<|px b<|px c<|px d<|pq p<|pi _<|pq q<|pi _<|pi _<|pi _<|rfl) (Up _ _) (Ao (BM _ _) (Aa k0<|Aa k1<|Aa (Ac (CY hp.st hq.st) rfl rfl)<|Aa kE<|Ad)) (Aa (Ce _ _ rfl rfl (by rw[←hl];exact decide_eq_decide.2 (Cu _ _))) (step_ok h0 (by omega) (zL (by omega)))) rfl rfl rfl rfl
theorem MQ {e:En}{own:ME}{n:Int}(ho:AU own)(h0:0≤n)(h1:n<5000){a b c d:X}{p q:Q}{n0 n1:Int}{w:Vl}{n2:Int}(k0:Ev e 1 own (n+1) a (.ok (⟨[],[p],.m⟩,n0)))(k1:Ev e 1 own n0 b (.ok (⟨[],[q],.m⟩,n1)))(hp:Ok p)(hq:Ok q)(hl:decide (p.1*q.2<q.1*p.2)=true)(kK:Ev e 1 own n1 c (.ok (w,n2))):Ev e 1 own n (.ite a b c d) (.ok (w,n2)):=
 AL (r:=[a.c0,a.c1,a.c2,a.c3,a.c4,a.c5,b.c0,b.c1,b.c2,b.c3,b.c4,b.c5,c.c0,c.c1,c.c2,c.c3,c.c4,c.c5,d.c0,d.c1,d.c2,d.c3,d.c4,d.c5,sg p.1,lm p.1,sg p.2,lm p.2,.int .i64 n0,sg q.1,lm q.1,sg q.2,lm q.2,.int .i64 n1,.int .i64 (AS (p.1*q.2) (q.1*p.2)),AA w.sh,AQ w.it,Ap w.dm,.int .i64 n2]) ho (px a<|px b<|px c<|px d<|pq p<|pi _<|pq q<|pi _<|pi _<|pv w<|pi _<|rfl) (T0 _ _) (Ao (BM _ _) (Aa k0<|Aa k1<|Aa (Ac (CY hp.st hq.st) rfl rfl)<|Aa kK<|Ad)) (Aa (Ce _ _ rfl rfl (by rw[←hl];exact decide_eq_decide.2 (Cu _ _))) (step_ok h0 (by omega) (zL (by omega)))) rfl rfl rfl rfl
theorem NG {e:En}{own:ME}{n:Int}(ho:AU own)(h0:0≤n)(h1:n<5000){a b c d:X}{p q:Q}{n0 n1:Int}{er:Nat}(k0:Ev e 1 own (n+1) a (.ok (⟨[],[p],.m⟩,n0)))(k1:Ev e 1 own n0 b (.ok (⟨[],[q],.m⟩,n1)))(hp:Ok p)(hq:Ok q)(hl:decide (p.1*q.2<q.1*p.2)=false)(kE:Ev e 1 own n1 d (.error er)):Ev e 1 own n (.ite a b c d) (.error er):=
 AL (r:=[a.c0,a.c1,a.c2,a.c3,a.c4,a.c5,b.c0,b.c1,b.c2,b.c3,b.c4,b.c5,c.c0,c.c1,c.c2,c.c3,c.c4,c.c5,d.c0,d.c1,d.c2,d.c3,d.c4,d.c5,sg p.1,lm p.1,sg p.2,lm p.2,.int .i64 n0,sg q.1,lm q.1,sg q.2,lm q.2,.int .i64 n1,.int .i64 (AS (p.1*q.2) (q.1*p.2)),.int .i64 (.ofNat er)]) ho (px a<|px b<|px c<|px d<|pq p<|pi _<|pq q<|pi _<|pi _<|pi _<|rfl) (Vb _ _) (Ao (BM _ _) (Aa k0<|Aa k1<|Aa (Ac (CY hp.st hq.st) rfl rfl)<|Aa kE<|Ad)) (Aa (Ce _ _ rfl rfl (by rw[←hl];exact decide_eq_decide.2 (Cu _ _))) (step_ok h0 (by omega) (zL (by omega)))) rfl rfl rfl rfl
theorem OA {e:En}{own:ME}{n:Int}(ho:AU own)(h0:0≤n)(h1:n<5000){a b c d:X}{p q:Q}{n0 n1:Int}{w:Vl}{n2:Int}(k0:Ev e 1 own (n+1) a (.ok (⟨[],[p],.m⟩,n0)))(k1:Ev e 1 own n0 b (.ok (⟨[],[q],.m⟩,n1)))(hp:Ok p)(hq:Ok q)(hl:decide (p.1*q.2<q.1*p.2)=false)(kK:Ev e 1 own n1 d (.ok (w,n2))):Ev e 1 own n (.ite a b c d) (.ok (w,n2)):=
 AL (r:=[a.c0,a.c1,a.c2,a.c3,a.c4,a.c5,b.c0,b.c1,b.c2,b.c3,b.c4,b.c5,c.c0,c.c1,c.c2,c.c3,c.c4,c.c5,d.c0,d.c1,d.c2,d.c3,d.c4,d.c5,sg p.1,lm p.1,sg p.2,lm p.2,.int .i64 n0,sg q.1,lm q.1,sg q.2,lm q.2,.int .i64 n1,.int .i64 (AS (p.1*q.2) (q.1*p.2)),AA w.sh,AQ w.it,Ap w.dm,.int .i64 n2]) ho (px a<|px b<|px c<|px d<|pq p<|pi _<|pq q<|pi _<|pi _<|pv w<|pi _<|rfl) (TU _ _) (Ao (BM _ _) (Aa k0<|Aa k1<|Aa (Ac (CY hp.st hq.st) rfl rfl)<|Aa kK<|Ad)) (Aa (Ce _ _ rfl rfl (by rw[←hl];exact decide_eq_decide.2 (Cu _ _))) (step_ok h0 (by omega) (zL (by omega)))) rfl rfl rfl rfl
theorem Ub {e:En}{own:ME}{n:Int}(ho:AU own)(h0:0≤n)(h1:n<5000){a b c d:X}{p:Q}{n0:Int}{er:Nat}(k0:Ev e 1 own (n+1) a (.ok (⟨[],[p],.s⟩,n0)))(kE:Ev e 1 own n0 b (.error er)):Ev e 1 own n (.ite a b c d) (.error er):=
 AL (r:=[a.c0,a.c1,a.c2,a.c3,a.c4,a.c5,b.c0,b.c1,b.c2,b.c3,b.c4,b.c5,c.c0,c.c1,c.c2,c.c3,c.c4,c.c5,d.c0,d.c1,d.c2,d.c3,d.c4,d.c5,sg p.1,lm p.1,sg p.2,lm p.2,.int .i64 n0,.int .i64 (.ofNat er)]) ho (px a<|px b<|px c<|px d<|pq p<|pi _<|pi _<|rfl) (U0 _ _) (Aa k0<|Aa kE<|Ad) (step_ok h0 (by omega) (zL (by omega))) rfl rfl rfl rfl
theorem Od {e:En}{own:ME}{n:Int}(ho:AU own)(h0:0≤n)(h1:n<5000){a b c d:X}{p q:Q}{n0 n1:Int}{er:Nat}(k0:Ev e 1 own (n+1) a (.ok (⟨[],[p],.s⟩,n0)))(k1:Ev e 1 own n0 b (.ok (⟨[],[q],.s⟩,n1)))(hp:Ok p)(hq:Ok q)(hl:decide (p.1*q.2<q.1*p.2)=true)(kE:Ev e 1 own n1 c (.error er)):Ev e 1 own n (.ite a b c d) (.error er):=
 AL (r:=[a.c0,a.c1,a.c2,a.c3,a.c4,a.c5,b.c0,b.c1,b.c2,b.c3,b.c4,b.c5,c.c0,c.c1,c.c2,c.c3,c.c4,c.c5,d.c0,d.c1,d.c2,d.c3,d.c4,d.c5,sg p.1,lm p.1,sg p.2,lm p.2,.int .i64 n0,sg q.1,lm q.1,sg q.2,lm q.2,.int .i64 n1,.int .i64 (AS (p.1*q.2) (q.1*p.2)),.int .i64 (.ofNat er)]) ho (px a<|px b<|px c<|px d<|pq p<|pi _<|pq q<|pi _<|pi _<|pi _<|rfl) (TH _ _) (Ao (BM _ _) (Aa k0<|Aa k1<|Aa (Ac (CY hp.st hq.st) rfl rfl)<|Aa kE<|Ad)) (Aa (Ce _ _ rfl rfl (by rw[←hl];exact decide_eq_decide.2 (Cu _ _))) (step_ok h0 (by omega) (zL (by omega)))) rfl rfl rfl rfl
theorem Nr {e:En}{own:ME}{n:Int}(ho:AU own)(h0:0≤n)(h1:n<5000){a b c d:X}{p q:Q}{n0 n1:Int}{w:Vl}{n2:Int}(k0:Ev e 1 own (n+1) a (.ok (⟨[],[p],.s⟩,n0)))(k1:Ev e 1 own n0 b (.ok (⟨[],[q],.s⟩,n1)))(hp:Ok p)(hq:Ok q)(hl:decide (p.1*q.2<q.1*p.2)=true)(kK:Ev e 1 own n1 c (.ok (w,n2))):Ev e 1 own n (.ite a b c d) (.ok (w,n2)):=
 AL (r:=[a.c0,a.c1,a.c2,a.c3,a.c4,a.c5,b.c0,b.c1,b.c2,b.c3,b.c4,b.c5,c.c0,c.c1,c.c2,c.c3,c.c4,c.c5,d.c0,d.c1,d.c2,d.c3,d.c4,d.c5,sg p.1,lm p.1,sg p.2,lm p.2,.int .i64 n0,sg q.1,lm q.1,sg q.2,lm q.2,.int .i64 n1,.int .i64 (AS (p.1*q.2) (q.1*p.2)),AA w.sh,AQ w.it,Ap w.dm,.int .i64 n2]) ho (px a<|px b<|px c<|px d<|pq p<|pi _<|pq q<|pi _<|pi _<|pv w<|pi _<|rfl) (Vy _ _) (Ao (BM _ _) (Aa k0<|Aa k1<|Aa (Ac (CY hp.st hq.st) rfl rfl)<|Aa kK<|Ad)) (Aa (Ce _ _ rfl rfl (by rw[←hl];exact decide_eq_decide.2 (Cu _ _))) (step_ok h0 (by omega) (zL (by omega)))) rfl rfl rfl rfl
theorem N8 {e:En}{own:ME}{n:Int}(ho:AU own)(h0:0≤n)(h1:n<5000){a b c d:X}{p q:Q}{n0 n1:Int}{er:Nat}(k0:Ev e 1 own (n+1) a (.ok (⟨[],[p],.s⟩,n0)))(k1:Ev e 1 own n0 b (.ok (⟨[],[q],.s⟩,n1)))(hp:Ok p)(hq:Ok q)(hl:decide (p.1*q.2<q.1*p.2)=false)(kE:Ev e 1 own n1 d (.error er)):Ev e 1 own n (.ite a b c d) (.error er):=
 AL (r:=[a.c0,a.c1,a.c2,a.c3,a.c4,a.c5,b.c0,b.c1,b.c2,b.c3,b.c4,b.c5,c.c0,c.c1,c.c2,c.c3,c.c4,c.c5,d.c0,d.c1,d.c2,d.c3,d.c4,d.c5,sg p.1,lm p.1,sg p.2,lm p.2,.int .i64 n0,sg q.1,lm q.1,sg q.2,lm q.2,.int .i64 n1,.int .i64 (AS (p.1*q.2) (q.1*p.2)),.int .i64 (.ofNat er)]) ho (px a<|px b<|px c<|px d<|pq p<|pi _<|pq q<|pi _<|pi _<|pi _<|rfl) (Ul _ _) (Ao (BM _ _) (Aa k0<|Aa k1<|Aa (Ac (CY hp.st hq.st) rfl rfl)<|Aa kE<|Ad)) (Aa (Ce _ _ rfl rfl (by rw[←hl];exact decide_eq_decide.2 (Cu _ _))) (step_ok h0 (by omega) (zL (by omega)))) rfl rfl rfl rfl
theorem Nc {e:En}{own:ME}{n:Int}(ho:AU own)(h0:0≤n)(h1:n<5000){a b c d:X}{p q:Q}{n0 n1:Int}{w:Vl}{n2:Int}(k0:Ev e 1 own (n+1) a (.ok (⟨[],[p],.s⟩,n0)))(k1:Ev e 1 own n0 b (.ok (⟨[],[q],.s⟩,n1)))(hp:Ok p)(hq:Ok q)(hl:decide (p.1*q.2<q.1*p.2)=false)(kK:Ev e 1 own n1 d (.ok (w,n2))):Ev e 1 own n (.ite a b c d) (.ok (w,n2)):=
 AL (r:=[a.c0,a.c1,a.c2,a.c3,a.c4,a.c5,b.c0,b.c1,b.c2,b.c3,b.c4,b.c5,c.c0,c.c1,c.c2,c.c3,c.c4,c.c5,d.c0,d.c1,d.c2,d.c3,d.c4,d.c5,sg p.1,lm p.1,sg p.2,lm p.2,.int .i64 n0,sg q.1,lm q.1,sg q.2,lm q.2,.int .i64 n1,.int .i64 (AS (p.1*q.2) (q.1*p.2)),AA w.sh,AQ w.it,Ap w.dm,.int .i64 n2]) ho (px a<|px b<|px c<|px d<|pq p<|pi _<|pq q<|pi _<|pi _<|pv w<|pi _<|rfl) (UZ _ _) (Ao (BM _ _) (Aa k0<|Aa k1<|Aa (Ac (CY hp.st hq.st) rfl rfl)<|Aa kK<|Ad)) (Aa (Ce _ _ rfl rfl (by rw[←hl];exact decide_eq_decide.2 (Cu _ _))) (step_ok h0 (by omega) (zL (by omega)))) rfl rfl rfl rfl
abbrev Hc (b:List AV):List AV:=[.int .i64 0,.str nmF,.psl [.str [120]] 1 none]++b++[.int .i64 0,.int .i64 5]
noncomputable def G9 (l:List AV)(mu:List ME)(facts:List OF)(bins:List NB)(c:List AV)(ao un:AO)(fu:List AV)(res:AG)(st:Option Nat):Bool:=
 facts.all (fun q=>BU q.N q.args q.l q.res q.u)&&BO (F9 l mu facts bins [] []) 4000 80 6 191 [.ptr 0 0,scA 1,.agg c] (lwG (.sel 24) ao un fu D3) res (uwG (st.map .sel) ao un fu D3)
def evG (k i:Nat)(un:AO)(fu:List AV)(res:AG)(st:Option Nat):OF:=⟨191,6,[.ptr 0 0,scA 1,.agg [.sel k,.sel (k+1),.sel (k+2),.sel (k+3),.sel (k+4),.sel (k+5)]],lwG (.sel i) oq un fu D3,res,uwG (st.map .sel) oq un fu D3⟩
def refC (s:List Nat):List AV:=[.int .i64 1,.str [],.str [],.str s,.int .i64 0,.emp]
def Ue (p d:AV)(u:Nat):List AV:=[.int .i64 0,p,d,.str (Wm u),.int .i64 0,.emp]
def binC (op:Nat)(a b:List AV):List AV:=[.int .i64 (.ofNat op),.str [],.str [],.str [],.int .i64 0,.psl (a++b) 2 none]
def iteC (a b c d:List AV):List AV:=[.int .i64 12,.str [],.str [],.str [],.int .i64 0,.psl (a++(b++(c++d))) 4 none]
def nX:List Nat:=[120]
theorem r_of1 (l:List AV):ET l [] 123 [.agg [.str [49],.str [49]]] (.ret (sr 1))=true:=by kernel_rfl
theorem Yb (l:List AV):ET l [] 123 [.agg [.str [49,48,48,48],.str [49]]] (.ret (sr 1000))=true:=by kernel_rfl
theorem YT (l:List AV):ET l [] 123 [.agg [.str [51,54,48,48],.str [49]]] (.ret (sr 3600))=true:=by kernel_rfl
theorem r_of0 (l:List AV):ET l [] 123 [.agg [.str [48],.str [49]]] (.ret (sr 0))=true:=by kernel_rfl
theorem r_of2 (l:List AV):ET l [] 123 [.agg [.str [50],.str [49]]] (.ret (sr 2))=true:=by kernel_rfl
theorem r_of3 (l:List AV):ET l [] 123 [.agg [.str [51],.str [49]]] (.ret (sr 3))=true:=by kernel_rfl
theorem r_of4 (l:List AV):ET l [] 123 [.agg [.str [52],.str [49]]] (.ret (sr 4))=true:=by kernel_rfl
theorem r_of5 (l:List AV):ET l [] 123 [.agg [.str [53],.str [49]]] (.ret (sr 5))=true:=by kernel_rfl
theorem r_lit0 (l:List AV)(mu:List ME):G9 l mu [vq 123 [.agg [.sel 26,.sel 27]] (.ret (.agg [.sel 28,.sel 29,.sel 30,.sel 31]))] (A9 false) (Ue (.sel 26) (.sel 27) 0) oq (.opq 1) Hd (.ret (.agg [.emp,.psl [.sel 28,.sel 29,.sel 30,.sel 31] 1 none,.emp])) (some 25)=true:=by kernel_rfl
theorem r_lit1 (l:List AV)(mu:List ME):G9 l mu (BG++[vq 123 [.agg [.sel 26,.sel 27]] (.ret (.agg [.sel 28,.sel 29,.sel 30,.sel 31])),vq 123 [.agg [.str [49],.str [49]]] (.ret (sr 1)),vq 161 [.agg [.sel 28,.sel 29,.sel 30,.sel 31],sr 1] (.ret (.agg [.sel 32,.sel 33,.sel 34,.sel 35])),vq 98 [.agg [.sel 32,.sel 33,.sel 34,.sel 35]] (.ret (.tup [.agg [.sel 36,.sel 37],.bool true]))]) (A9 false) (Ue (.sel 26) (.sel 27) 1) oq (.map AN 0) Hd (.ret (.agg [.emp,.psl [.sel 32,.sel 33,.sel 34,.sel 35] 1 none,Ap .m])) (some 25)=true:=by kernel_rfl
theorem r_lit2 (l:List AV)(mu:List ME):G9 l mu (BG++[vq 123 [.agg [.sel 26,.sel 27]] (.ret (.agg [.sel 28,.sel 29,.sel 30,.sel 31])),vq 123 [.agg [.str [49,48,48,48],.str [49]]] (.ret (sr 1000)),vq 123 [.agg [.str [49],.str [49]]] (.ret (sr 1)),vq 161 [.agg [.sel 28,.sel 29,.sel 30,.sel 31],sr 1000] (.ret (.agg [.sel 32,.sel 33,.sel 34,.sel 35])),vq 98 [.agg [.sel 32,.sel 33,.sel 34,.sel 35]] (.ret (.tup [.agg [.sel 36,.sel 37],.bool true]))]) (A9 false) (Ue (.sel 26) (.sel 27) 2) oq (.map AN 0) Hd (.ret (.agg [.emp,.psl [.sel 32,.sel 33,.sel 34,.sel 35] 1 none,Ap .m])) (some 25)=true:=by kernel_rfl
theorem r_lit3 (l:List AV)(mu:List ME):G9 l mu (BG++[vq 123 [.agg [.sel 26,.sel 27]] (.ret (.agg [.sel 28,.sel 29,.sel 30,.sel 31])),vq 123 [.agg [.str [49],.str [49]]] (.ret (sr 1)),vq 161 [.agg [.sel 28,.sel 29,.sel 30,.sel 31],sr 1] (.ret (.agg [.sel 32,.sel 33,.sel 34,.sel 35])),vq 98 [.agg [.sel 32,.sel 33,.sel 34,.sel 35]] (.ret (.tup [.agg [.sel 36,.sel 37],.bool true]))]) (A9 false) (Ue (.sel 26) (.sel 27) 3) oq (.map AN 0) Hd (.ret (.agg [.emp,.psl [.sel 32,.sel 33,.sel 34,.sel 35] 1 none,Ap .s])) (some 25)=true:=by kernel_rfl
theorem r_lit4 (l:List AV)(mu:List ME):G9 l mu (BG++[vq 123 [.agg [.sel 26,.sel 27]] (.ret (.agg [.sel 28,.sel 29,.sel 30,.sel 31])),vq 123 [.agg [.str [51,54,48,48],.str [49]]] (.ret (sr 3600)),vq 123 [.agg [.str [49],.str [49]]] (.ret (sr 1)),vq 161 [.agg [.sel 28,.sel 29,.sel 30,.sel 31],sr 3600] (.ret (.agg [.sel 32,.sel 33,.sel 34,.sel 35])),vq 98 [.agg [.sel 32,.sel 33,.sel 34,.sel 35]] (.ret (.tup [.agg [.sel 36,.sel 37],.bool true]))]) (A9 false) (Ue (.sel 26) (.sel 27) 4) oq (.map AN 0) Hd (.ret (.agg [.emp,.psl [.sel 32,.sel 33,.sel 34,.sel 35] 1 none,Ap .s])) (some 25)=true:=by kernel_rfl
theorem FD {p d:List Nat}{z:Int}{l:List AV}{mu:List ME}(h:VF 123 [.agg [.str p,.str d]] (.ret (sr z)))(hr:Bi (Ag l) noT (.ret (sr z))=.ret (sr z)):Bx (Ag l) (mpL mu) (vq 123 [.agg [.str p,.str d]] (.ret (sr z))):=Ac h rfl hr
theorem G2 {q:Q}(h:Ok q)(z:Int)(hz:z.natAbs<B):VF 161 [BH q,sr z] (.ret (BH (AB q (z,1)))):=by have:=Ks h.st (BN hz).st;rwa[BP hz]at this
theorem of1:VF 123 [.agg [.str [49],.str [49]]] (.ret (sr 1)):=Cg (l:=[]) rfl Ad (r_of1 _) rfl rfl
theorem of1000:VF 123 [.agg [.str [49,48,48,48],.str [49]]] (.ret (sr 1000)):=Cg (l:=[]) rfl Ad (Yb _) rfl rfl
theorem of3600:VF 123 [.agg [.str [51,54,48,48],.str [49]]] (.ret (sr 3600)):=Cg (l:=[]) rfl Ad (YT _) rfl rfl
theorem of0:VF 123 [.agg [.str [48],.str [49]]] (.ret (sr 0)):=Cg (l:=[]) rfl Ad (r_of0 _) rfl rfl
theorem of2:VF 123 [.agg [.str [50],.str [49]]] (.ret (sr 2)):=Cg (l:=[]) rfl Ad (r_of2 _) rfl rfl
theorem of3:VF 123 [.agg [.str [51],.str [49]]] (.ret (sr 3)):=Cg (l:=[]) rfl Ad (r_of3 _) rfl rfl
theorem of4:VF 123 [.agg [.str [52],.str [49]]] (.ret (sr 4)):=Cg (l:=[]) rfl Ad (r_of4 _) rfl rfl
theorem of5:VF 123 [.agg [.str [53],.str [49]]] (.ret (sr 5)):=Cg (l:=[]) rfl Ad (r_of5 _) rfl rfl
theorem Abe {e:En}{own:ME}{n:Int}(ho:AU own)(h0:0≤n)(h1:n<5000){p d:List Nat}{q:Q}(hq:VF 123 [.agg [.str p,.str d]] (.ret (BH q))):Ev e 1 own n (.lit p d q 0) (.ok (⟨[],[q],.pl⟩,n+1)):=
 B5 (mu:=[own,AN]) (Cd ho) (r:=[.str p,.str d,sg q.1,lm q.1,sg q.2,lm q.2]) (ps _<|ps _<|pq q<|rfl) (r_lit0 _ _) (Aa hq Ad) (step_ok h0 (by omega) (zL (by omega))) rfl rfl rfl rfl
theorem n_lit1 {e:En}{own:ME}{n:Int}(ho:AU own)(h0:0≤n)(h1:n<5000){p d:List Nat}{q:Q}(hq:VF 123 [.agg [.str p,.str d]] (.ret (BH q)))(hok:Ok q)(hf:CI (AB q (1,1))=true):Ev e 1 own n (.lit p d q 1) (.ok (⟨[],[(AB q (1,1))],.m⟩,n+1)):=
 B5 (mu:=[own,AN]) (Cd ho) (r:=[.str p,.str d,sg q.1,lm q.1,sg q.2,lm q.2,sg (AB q (1,1)).1,lm (AB q (1,1)).1,sg (AB q (1,1)).2,lm (AB q (1,1)).2,.str ((Bk (AB q (1,1)).1).map UInt8.toNat),.str ((Bk (AB q (1,1)).2).map UInt8.toNat)]) (ps _<|ps _<|pq q<|pq _<|ps _<|ps _<|rfl) (r_lit1 _ _) (Ao (BM _ _) (Aa hq<|Aa (FD of1 rfl)<|Aa (G2 hok 1 (by decide))<|Aa (Gd (IV (op:=5) rfl hok.st (BN (by decide)).st nofun) hf rfl rfl)<|Ad)) (step_ok h0 (by omega) (zL (by omega))) rfl rfl rfl rfl
theorem n_lit2 {e:En}{own:ME}{n:Int}(ho:AU own)(h0:0≤n)(h1:n<5000){p d:List Nat}{q:Q}(hq:VF 123 [.agg [.str p,.str d]] (.ret (BH q)))(hok:Ok q)(hf:CI (AB q (1000,1))=true):Ev e 1 own n (.lit p d q 2) (.ok (⟨[],[(AB q (1000,1))],.m⟩,n+1)):=
 B5 (mu:=[own,AN]) (Cd ho) (r:=[.str p,.str d,sg q.1,lm q.1,sg q.2,lm q.2,sg (AB q (1000,1)).1,lm (AB q (1000,1)).1,sg (AB q (1000,1)).2,lm (AB q (1000,1)).2,.str ((Bk (AB q (1000,1)).1).map UInt8.toNat),.str ((Bk (AB q (1000,1)).2).map UInt8.toNat)]) (ps _<|ps _<|pq q<|pq _<|ps _<|ps _<|rfl) (r_lit2 _ _) (Ao (BM _ _) (Aa hq<|Aa (FD of1000 rfl)<|Aa (FD of1 rfl)<|Aa (G2 hok 1000 (by decide))<|Aa (Gd (IV (op:=5) rfl hok.st (BN (by decide)).st nofun) hf rfl rfl)<|Ad)) (step_ok h0 (by omega) (zL (by omega))) rfl rfl rfl rfl
theorem n_lit3 {e:En}{own:ME}{n:Int}(ho:AU own)(h0:0≤n)(h1:n<5000){p d:List Nat}{q:Q}(hq:VF 123 [.agg [.str p,.str d]] (.ret (BH q)))(hok:Ok q)(hf:CI (AB q (1,1))=true):Ev e 1 own n (.lit p d q 3) (.ok (⟨[],[(AB q (1,1))],.s⟩,n+1)):=
 B5 (mu:=[own,AN]) (Cd ho) (r:=[.str p,.str d,sg q.1,lm q.1,sg q.2,lm q.2,sg (AB q (1,1)).1,lm (AB q (1,1)).1,sg (AB q (1,1)).2,lm (AB q (1,1)).2,.str ((Bk (AB q (1,1)).1).map UInt8.toNat),.str ((Bk (AB q (1,1)).2).map UInt8.toNat)]) (ps _<|ps _<|pq q<|pq _<|ps _<|ps _<|rfl) (r_lit3 _ _) (Ao (BM _ _) (Aa hq<|Aa (FD of1 rfl)<|Aa (G2 hok 1 (by decide))<|Aa (Gd (IV (op:=5) rfl hok.st (BN (by decide)).st nofun) hf rfl rfl)<|Ad)) (step_ok h0 (by omega) (zL (by omega))) rfl rfl rfl rfl
theorem n_lit4 {e:En}{own:ME}{n:Int}(ho:AU own)(h0:0≤n)(h1:n<5000){p d:List Nat}{q:Q}(hq:VF 123 [.agg [.str p,.str d]] (.ret (BH q)))(hok:Ok q)(hf:CI (AB q (3600,1))=true):Ev e 1 own n (.lit p d q 4) (.ok (⟨[],[(AB q (3600,1))],.s⟩,n+1)):=
 B5 (mu:=[own,AN]) (Cd ho) (r:=[.str p,.str d,sg q.1,lm q.1,sg q.2,lm q.2,sg (AB q (3600,1)).1,lm (AB q (3600,1)).1,sg (AB q (3600,1)).2,lm (AB q (3600,1)).2,.str ((Bk (AB q (3600,1)).1).map UInt8.toNat),.str ((Bk (AB q (3600,1)).2).map UInt8.toNat)]) (ps _<|ps _<|pq q<|pq _<|ps _<|ps _<|rfl) (r_lit4 _ _) (Ao (BM _ _) (Aa hq<|Aa (FD of3600 rfl)<|Aa (FD of1 rfl)<|Aa (G2 hok 3600 (by decide))<|Aa (Gd (IV (op:=5) rfl hok.st (BN (by decide)).st nofun) hf rfl rfl)<|Ad)) (step_ok h0 (by omega) (zL (by omega))) rfl rfl rfl rfl
def litA (p d:List Nat)(u:Nat):List AV:=Ue (.str p) (.str d) u
def Lt:List AV:=binC 3 (refC nX) (binC 5 (litA [48] [49] 0) (refC nX))
def K6 (k:Nat)(p d:AV):List AV:=iteC (refC nX) (litA [48+k] [49] 1) (binC 5 (Ue p d 0) (refC nX)) (refC nX)
theorem Ze (l:List AV)(mu:List ME):G9 l mu [evG 26 25 (.opq 1) Hd (Bl 32) none] (A9 false) [.int .i64 14,.str [],.str [],.str nmF,.int .i64 0,.psl [.sel 26,.sel 27,.sel 28,.sel 29,.sel 30,.sel 31] 1 none] oq (.opq 1) Hd (Bl 32) none=true:=by kernel_rfl
theorem TK (l:List AV)(mu:List ME):G9 l mu [evG 26 25 (.opq 1) (Hc Lt) (Bp 32) (some 35),vq 123 [.agg [.str [48],.str [49]]] (.ret (sr 0)),vq 74 [.int .i64 5,.agg [.emp,.psl (src 0) 1 none,.emp],.agg [.sel 32,.sel 33,.sel 34]] (Bl 41)] (A9 false++[⟨.add,.sel 35,.int .i64 1,.sel 36⟩,⟨.gtr,.sel 36,.int .i64 5000,.bool false⟩,⟨.add,.sel 36,.int .i64 1,.sel 37⟩,⟨.gtr,.sel 37,.int .i64 5000,.bool false⟩,⟨.add,.sel 37,.int .i64 1,.sel 38⟩,⟨.gtr,.sel 38,.int .i64 5000,.bool false⟩,⟨.add,.sel 38,.int .i64 1,.sel 39⟩,⟨.gtr,.sel 39,.int .i64 5000,.bool false⟩,⟨.add,.sel 39,.int .i64 1,.sel 40⟩,⟨.gtr,.sel 40,.int .i64 5000,.bool false⟩]) [.int .i64 14,.str [],.str [],.str nmF,.int .i64 0,.psl [.sel 26,.sel 27,.sel 28,.sel 29,.sel 30,.sel 31] 1 none] oq (.opq 1) (Hc Lt) (Bl 41) none=true:=by kernel_rfl
theorem T8 (l:List AV)(mu:List ME):G9 l mu [evG 26 25 (.opq 1) (Hc Lt) (Bp 32) (some 35),vq 123 [.agg [.str [48],.str [49]]] (.ret (sr 0)),vq 74 [.int .i64 5,.agg [.emp,.psl (src 0) 1 none,.emp],.agg [.sel 32,.sel 33,.sel 34]] (Bp 41),vq 74 [.int .i64 3,.agg [.sel 32,.sel 33,.sel 34],.agg [.sel 41,.sel 42,.sel 43]] (Bl 44)] (A9 false++[⟨.add,.sel 35,.int .i64 1,.sel 36⟩,⟨.gtr,.sel 36,.int .i64 5000,.bool false⟩,⟨.add,.sel 36,.int .i64 1,.sel 37⟩,⟨.gtr,.sel 37,.int .i64 5000,.bool false⟩,⟨.add,.sel 37,.int .i64 1,.sel 38⟩,⟨.gtr,.sel 38,.int .i64 5000,.bool false⟩,⟨.add,.sel 38,.int .i64 1,.sel 39⟩,⟨.gtr,.sel 39,.int .i64 5000,.bool false⟩,⟨.add,.sel 39,.int .i64 1,.sel 40⟩,⟨.gtr,.sel 40,.int .i64 5000,.bool false⟩]) [.int .i64 14,.str [],.str [],.str nmF,.int .i64 0,.psl [.sel 26,.sel 27,.sel 28,.sel 29,.sel 30,.sel 31] 1 none] oq (.opq 1) (Hc Lt) (Bl 44) none=true:=by kernel_rfl
theorem Xh (l:List AV)(mu:List ME):G9 l mu [evG 26 25 (.opq 1) (Hc Lt) (Bp 32) (some 35),vq 123 [.agg [.str [48],.str [49]]] (.ret (sr 0)),vq 74 [.int .i64 5,.agg [.emp,.psl (src 0) 1 none,.emp],.agg [.sel 32,.sel 33,.sel 34]] (Bp 41),vq 74 [.int .i64 3,.agg [.sel 32,.sel 33,.sel 34],.agg [.sel 41,.sel 42,.sel 43]] (Bp 44)] (A9 false++[⟨.add,.sel 35,.int .i64 1,.sel 36⟩,⟨.gtr,.sel 36,.int .i64 5000,.bool false⟩,⟨.add,.sel 36,.int .i64 1,.sel 37⟩,⟨.gtr,.sel 37,.int .i64 5000,.bool false⟩,⟨.add,.sel 37,.int .i64 1,.sel 38⟩,⟨.gtr,.sel 38,.int .i64 5000,.bool false⟩,⟨.add,.sel 38,.int .i64 1,.sel 39⟩,⟨.gtr,.sel 39,.int .i64 5000,.bool false⟩,⟨.add,.sel 39,.int .i64 1,.sel 40⟩,⟨.gtr,.sel 40,.int .i64 5000,.bool false⟩]) [.int .i64 14,.str [],.str [],.str nmF,.int .i64 0,.psl [.sel 26,.sel 27,.sel 28,.sel 29,.sel 30,.sel 31] 1 none] oq (.opq 1) (Hc Lt) (Bp 44) (some 40)=true:=by kernel_rfl
theorem Ux (l:List AV)(mu:List ME):([0,1,2,3,4,5].all fun k=>G9 l mu (BG++[evG 26 25 (.map AN 0) (Hc (K6 k (.sel 37) (.sel 38))) (.ret (.agg [.emp,.psl [.sel 32,.sel 33,.sel 34,.sel 35] 1 none,Ap .m])) (some 36),vq 123 [.agg [.str [48+k],.str [49]]] (.ret (sr (.ofNat k))),vq 123 [.agg [.str [49],.str [49]]] (.ret (sr 1)),vq 161 [sr (.ofNat k),sr 1] (.ret (sr (.ofNat k))),vq 98 [sr (.ofNat k)] (.ret (.tup [.agg [.sel 39,.sel 0],.bool true])),vq 164 [.agg [.sel 32,.sel 33,.sel 34,.sel 35],sr (.ofNat k)] (.ret (.sel 46)),vq 123 [.agg [.sel 37,.sel 38]] (.ret (.agg [.sel 47,.sel 48,.sel 49,.sel 50])),vq 74 [.int .i64 5,.agg [.emp,.psl [.sel 47,.sel 48,.sel 49,.sel 50] 1 none,.emp],.agg [.emp,.psl [.sel 32,.sel 33,.sel 34,.sel 35] 1 none,Ap .m]] (Bl 51)]) (A9 false++(⟨.lss,.sel 46,.int .i64 0,.bool true⟩::[⟨.add,.sel 36,.int .i64 1,.sel 40⟩,⟨.gtr,.sel 40,.int .i64 5000,.bool false⟩,⟨.add,.sel 40,.int .i64 1,.sel 41⟩,⟨.gtr,.sel 41,.int .i64 5000,.bool false⟩,⟨.add,.sel 41,.int .i64 1,.sel 42⟩,⟨.gtr,.sel 42,.int .i64 5000,.bool false⟩,⟨.add,.sel 42,.int .i64 1,.sel 43⟩,⟨.gtr,.sel 43,.int .i64 5000,.bool false⟩,⟨.add,.sel 43,.int .i64 1,.sel 44⟩,⟨.gtr,.sel 44,.int .i64 5000,.bool false⟩,⟨.add,.sel 44,.int .i64 1,.sel 45⟩,⟨.gtr,.sel 45,.int .i64 5000,.bool false⟩])) [.int .i64 14,.str [],.str [],.str nmF,.int .i64 0,.psl [.sel 26,.sel 27,.sel 28,.sel 29,.sel 30,.sel 31] 1 none] oq (.map AN 0) (Hc (K6 k (.sel 37) (.sel 38))) (Bl 51) none)=true:=by kernel_rfl
theorem UX (l:List AV)(mu:List ME):([0,1,2,3,4,5].all fun k=>G9 l mu (BG++[evG 26 25 (.map AN 0) (Hc (K6 k (.sel 37) (.sel 38))) (.ret (.agg [.emp,.psl [.sel 32,.sel 33,.sel 34,.sel 35] 1 none,Ap .m])) (some 36),vq 123 [.agg [.str [48+k],.str [49]]] (.ret (sr (.ofNat k))),vq 123 [.agg [.str [49],.str [49]]] (.ret (sr 1)),vq 161 [sr (.ofNat k),sr 1] (.ret (sr (.ofNat k))),vq 98 [sr (.ofNat k)] (.ret (.tup [.agg [.sel 39,.sel 0],.bool true])),vq 164 [.agg [.sel 32,.sel 33,.sel 34,.sel 35],sr (.ofNat k)] (.ret (.sel 46)),vq 123 [.agg [.sel 37,.sel 38]] (.ret (.agg [.sel 47,.sel 48,.sel 49,.sel 50])),vq 74 [.int .i64 5,.agg [.emp,.psl [.sel 47,.sel 48,.sel 49,.sel 50] 1 none,.emp],.agg [.emp,.psl [.sel 32,.sel 33,.sel 34,.sel 35] 1 none,Ap .m]] (Bp 51)]) (A9 false++(⟨.lss,.sel 46,.int .i64 0,.bool true⟩::[⟨.add,.sel 36,.int .i64 1,.sel 40⟩,⟨.gtr,.sel 40,.int .i64 5000,.bool false⟩,⟨.add,.sel 40,.int .i64 1,.sel 41⟩,⟨.gtr,.sel 41,.int .i64 5000,.bool false⟩,⟨.add,.sel 41,.int .i64 1,.sel 42⟩,⟨.gtr,.sel 42,.int .i64 5000,.bool false⟩,⟨.add,.sel 42,.int .i64 1,.sel 43⟩,⟨.gtr,.sel 43,.int .i64 5000,.bool false⟩,⟨.add,.sel 43,.int .i64 1,.sel 44⟩,⟨.gtr,.sel 44,.int .i64 5000,.bool false⟩,⟨.add,.sel 44,.int .i64 1,.sel 45⟩,⟨.gtr,.sel 45,.int .i64 5000,.bool false⟩])) [.int .i64 14,.str [],.str [],.str nmF,.int .i64 0,.psl [.sel 26,.sel 27,.sel 28,.sel 29,.sel 30,.sel 31] 1 none] oq (.map AN 0) (Hc (K6 k (.sel 37) (.sel 38))) (Bp 51) (some 45))=true:=by kernel_rfl
theorem UY (l:List AV)(mu:List ME):([0,1,2,3,4,5].all fun k=>G9 l mu (BG++[evG 26 25 (.map AN 0) (Hc (K6 k (.sel 37) (.sel 38))) (.ret (.agg [.emp,.psl [.sel 32,.sel 33,.sel 34,.sel 35] 1 none,Ap .m])) (some 36),vq 123 [.agg [.str [48+k],.str [49]]] (.ret (sr (.ofNat k))),vq 123 [.agg [.str [49],.str [49]]] (.ret (sr 1)),vq 161 [sr (.ofNat k),sr 1] (.ret (sr (.ofNat k))),vq 98 [sr (.ofNat k)] (.ret (.tup [.agg [.sel 39,.sel 0],.bool true])),vq 164 [.agg [.sel 32,.sel 33,.sel 34,.sel 35],sr (.ofNat k)] (.ret (.sel 44))]) (A9 false++(⟨.lss,.sel 44,.int .i64 0,.bool false⟩::[⟨.add,.sel 36,.int .i64 1,.sel 40⟩,⟨.gtr,.sel 40,.int .i64 5000,.bool false⟩,⟨.add,.sel 40,.int .i64 1,.sel 41⟩,⟨.gtr,.sel 41,.int .i64 5000,.bool false⟩,⟨.add,.sel 41,.int .i64 1,.sel 42⟩,⟨.gtr,.sel 42,.int .i64 5000,.bool false⟩,⟨.add,.sel 42,.int .i64 1,.sel 43⟩,⟨.gtr,.sel 43,.int .i64 5000,.bool false⟩])) [.int .i64 14,.str [],.str [],.str nmF,.int .i64 0,.psl [.sel 26,.sel 27,.sel 28,.sel 29,.sel 30,.sel 31] 1 none] oq (.map AN 0) (Hc (K6 k (.sel 37) (.sel 38))) (.ret (.agg [.emp,.psl [.sel 32,.sel 33,.sel 34,.sel 35] 1 none,Ap .m])) (some 43))=true:=by kernel_rfl
def Tf:X:=.bin 3 (.ref nX) (.bin 5 (.lit [48] [49] (0,1) 0) (.ref nX))
def RN (k:Nat)(p d:List Nat)(q:Q):X:=.ite (.ref nX) (.lit [48+k] [49] ((k:Int),1) 1) (.bin 5 (.lit p d q 0) (.ref nX)) (.ref nX)
theorem AcD:(⟨[],[(0,1)],.pl⟩:Vl).av=.agg [.emp,.psl (src 0) 1 none,.emp]:=Rh 0 (by decide)
theorem CM {σ:Nat→AV}{τ:Nat→List Nat}(z:Int):inst σ τ (sr z)=sr z:=by unfold sr src;cases z.natAbs<;>rfl
theorem ofK {k:Nat}(hk:k∈[0,1,2,3,4,5]):VF 123 [.agg [.str [48+k],.str [49]]] (.ret (sr (.ofNat k))):=by
 simp only[zH,List.not_mem_nil,or_false]at hk;rcases hk with rfl|rfl|rfl|rfl|rfl|rfl
 ·exact of0
 ·exact of1
 ·exact of2
 ·exact of3
 ·exact of4
 ·exact of5
theorem kB {k:Nat}(hk:k∈[0,1,2,3,4,5]):((Int.ofNat k).natAbs)<B:=by simp only[zH,List.not_mem_nil,or_false]at hk;rcases hk with rfl|rfl|rfl|rfl|rfl|rfl<;>decide
theorem ordK {p:Q}(hp:Ok p){k:Nat}(hk:k∈[0,1,2,3,4,5]):VF 164 [BH p,sr (.ofNat k)] (.ret (.int .i64 (AS (p.1*1) ((k:Int)*p.2)))):=by have:=CY hp.st (BN (kB hk)).st;rwa[BP (kB hk)]at this
theorem Zr {e:En}{own:ME}{n:Int}(ho:AU own)(h0:0≤n)(h1:n<5000){a:X}{er:Nat}(ha:Ev e 1 own (n+1) a (.error er)):Ev e 1 own n (.call a) (.error er):=
 B5 (mu:=[own,AN]) (Cd ho) (r:=[a.c0,a.c1,a.c2,a.c3,a.c4,a.c5,.int .i64 (.ofNat er)]) (px a<|pi _<|rfl) (Ze _ _) (Aa ha Ad) (step_ok h0 (by omega) (zL (by omega))) rfl rfl rfl rfl
theorem Uf {e:En}{own:ME}{n:Int}(ho:AU own)(h0:0≤n)(h1:n<5000){a:X}{u:Vl}{n0:Int}{er:Nat}(hf:e.f=Tf)(ha:Ev e 1 own (n+1) a (.ok (u,n0)))(hn:0≤n0)(hn2:n0<4990)(hv:VF 74 [.int .i64 5,.agg [.emp,.psl (src 0) 1 none,.emp],u.av] (Ho er)):Ev e 1 own n (.call a) (.error er):=by obtain⟨ea,eb,ec,ev,ew,ef⟩:=e;simp only at hf;subst hf;exact B5 (mu:=[own,AN]) (Cd ho) (r:=[a.c0,a.c1,a.c2,a.c3,a.c4,a.c5,AA u.sh,AQ u.it,Ap u.dm,.int .i64 n0,.int .i64 (n0+1),.int .i64 (n0+1+1),.int .i64 (n0+1+1+1),.int .i64 (n0+1+1+1+1),.int .i64 (n0+1+1+1+1+1),.int .i64 (.ofNat er)]) (px a<|pv u<|pi _<|pi _<|pi _<|pi _<|pi _<|pi _<|pi _<|rfl) (TK _ _) (Aa ha<|Aa (FD of0 rfl)<|Aa hv<|Ad) (Ao (step_ok h0 (by omega) (zL (by omega))) (Aa (Bt (n0) 1 (n0+1) rfl rfl rfl rfl (by unfold wrap64;omega))<|Aa (Cc (n0+1) 5000 rfl rfl rfl (by simp only[Bv,inst,decide_true,cond_true];rw[zL (by omega)]))<|Aa (Bt (n0+1) 1 (n0+1+1) rfl rfl rfl rfl (by unfold wrap64;omega))<|Aa (Cc (n0+1+1) 5000 rfl rfl rfl (by simp only[Bv,inst,decide_true,cond_true];rw[zL (by omega)]))<|Aa (Bt (n0+1+1) 1 (n0+1+1+1) rfl rfl rfl rfl (by unfold wrap64;omega))<|Aa (Cc (n0+1+1+1) 5000 rfl rfl rfl (by simp only[Bv,inst,decide_true,cond_true];rw[zL (by omega)]))<|Aa (Bt (n0+1+1+1) 1 (n0+1+1+1+1) rfl rfl rfl rfl (by unfold wrap64;omega))<|Aa (Cc (n0+1+1+1+1) 5000 rfl rfl rfl (by simp only[Bv,inst,decide_true,cond_true];rw[zL (by omega)]))<|Aa (Bt (n0+1+1+1+1) 1 (n0+1+1+1+1+1) rfl rfl rfl rfl (by unfold wrap64;omega))<|Aa (Cc (n0+1+1+1+1+1) 5000 rfl rfl rfl (by simp only[Bv,inst,decide_true,cond_true];rw[zL (by omega)]))<|Ad)) rfl rfl rfl rfl
theorem Vu {e:En}{own:ME}{n:Int}(ho:AU own)(h0:0≤n)(h1:n<5000){a:X}{u:Vl}{n0:Int}{w1:Vl}{er:Nat}(hf:e.f=Tf)(ha:Ev e 1 own (n+1) a (.ok (u,n0)))(hn:0≤n0)(hn2:n0<4990)(hv:VF 74 [.int .i64 5,.agg [.emp,.psl (src 0) 1 none,.emp],u.av] (.ret w1.av))(hw:VF 74 [.int .i64 3,u.av,w1.av] (Ho er)):Ev e 1 own n (.call a) (.error er):=by obtain⟨ea,eb,ec,ev,ew,ef⟩:=e;simp only at hf;subst hf;exact B5 (mu:=[own,AN]) (Cd ho) (r:=[a.c0,a.c1,a.c2,a.c3,a.c4,a.c5,AA u.sh,AQ u.it,Ap u.dm,.int .i64 n0,.int .i64 (n0+1),.int .i64 (n0+1+1),.int .i64 (n0+1+1+1),.int .i64 (n0+1+1+1+1),.int .i64 (n0+1+1+1+1+1),AA w1.sh,AQ w1.it,Ap w1.dm,.int .i64 (.ofNat er)]) (px a<|pv u<|pi _<|pi _<|pi _<|pi _<|pi _<|pi _<|pv w1<|pi _<|rfl) (T8 _ _) (Aa ha<|Aa (FD of0 rfl)<|Aa hv<|Aa hw<|Ad) (Ao (step_ok h0 (by omega) (zL (by omega))) (Aa (Bt (n0) 1 (n0+1) rfl rfl rfl rfl (by unfold wrap64;omega))<|Aa (Cc (n0+1) 5000 rfl rfl rfl (by simp only[Bv,inst,decide_true,cond_true];rw[zL (by omega)]))<|Aa (Bt (n0+1) 1 (n0+1+1) rfl rfl rfl rfl (by unfold wrap64;omega))<|Aa (Cc (n0+1+1) 5000 rfl rfl rfl (by simp only[Bv,inst,decide_true,cond_true];rw[zL (by omega)]))<|Aa (Bt (n0+1+1) 1 (n0+1+1+1) rfl rfl rfl rfl (by unfold wrap64;omega))<|Aa (Cc (n0+1+1+1) 5000 rfl rfl rfl (by simp only[Bv,inst,decide_true,cond_true];rw[zL (by omega)]))<|Aa (Bt (n0+1+1+1) 1 (n0+1+1+1+1) rfl rfl rfl rfl (by unfold wrap64;omega))<|Aa (Cc (n0+1+1+1+1) 5000 rfl rfl rfl (by simp only[Bv,inst,decide_true,cond_true];rw[zL (by omega)]))<|Aa (Bt (n0+1+1+1+1) 1 (n0+1+1+1+1+1) rfl rfl rfl rfl (by unfold wrap64;omega))<|Aa (Cc (n0+1+1+1+1+1) 5000 rfl rfl rfl (by simp only[Bv,inst,decide_true,cond_true];rw[zL (by omega)]))<|Ad)) rfl rfl rfl rfl
theorem X0 {e:En}{own:ME}{n:Int}(ho:AU own)(h0:0≤n)(h1:n<5000){a:X}{u:Vl}{n0:Int}{w1:Vl}{w:Vl}(hf:e.f=Tf)(ha:Ev e 1 own (n+1) a (.ok (u,n0)))(hn:0≤n0)(hn2:n0<4990)(hv:VF 74 [.int .i64 5,.agg [.emp,.psl (src 0) 1 none,.emp],u.av] (.ret w1.av))(hw:VF 74 [.int .i64 3,u.av,w1.av] (.ret w.av)):Ev e 1 own n (.call a) (.ok (w,n0+1+1+1+1+1)):=by obtain⟨ea,eb,ec,ev,ew,ef⟩:=e;simp only at hf;subst hf;exact B5 (mu:=[own,AN]) (Cd ho) (r:=[a.c0,a.c1,a.c2,a.c3,a.c4,a.c5,AA u.sh,AQ u.it,Ap u.dm,.int .i64 n0,.int .i64 (n0+1),.int .i64 (n0+1+1),.int .i64 (n0+1+1+1),.int .i64 (n0+1+1+1+1),.int .i64 (n0+1+1+1+1+1),AA w1.sh,AQ w1.it,Ap w1.dm,AA w.sh,AQ w.it,Ap w.dm]) (px a<|pv u<|pi _<|pi _<|pi _<|pi _<|pi _<|pi _<|pv w1<|pv w<|rfl) (Xh _ _) (Aa ha<|Aa (FD of0 rfl)<|Aa hv<|Aa hw<|Ad) (Ao (step_ok h0 (by omega) (zL (by omega))) (Aa (Bt (n0) 1 (n0+1) rfl rfl rfl rfl (by unfold wrap64;omega))<|Aa (Cc (n0+1) 5000 rfl rfl rfl (by simp only[Bv,inst,decide_true,cond_true];rw[zL (by omega)]))<|Aa (Bt (n0+1) 1 (n0+1+1) rfl rfl rfl rfl (by unfold wrap64;omega))<|Aa (Cc (n0+1+1) 5000 rfl rfl rfl (by simp only[Bv,inst,decide_true,cond_true];rw[zL (by omega)]))<|Aa (Bt (n0+1+1) 1 (n0+1+1+1) rfl rfl rfl rfl (by unfold wrap64;omega))<|Aa (Cc (n0+1+1+1) 5000 rfl rfl rfl (by simp only[Bv,inst,decide_true,cond_true];rw[zL (by omega)]))<|Aa (Bt (n0+1+1+1) 1 (n0+1+1+1+1) rfl rfl rfl rfl (by unfold wrap64;omega))<|Aa (Cc (n0+1+1+1+1) 5000 rfl rfl rfl (by simp only[Bv,inst,decide_true,cond_true];rw[zL (by omega)]))<|Aa (Bt (n0+1+1+1+1) 1 (n0+1+1+1+1+1) rfl rfl rfl rfl (by unfold wrap64;omega))<|Aa (Cc (n0+1+1+1+1+1) 5000 rfl rfl rfl (by simp only[Bv,inst,decide_true,cond_true];rw[zL (by omega)]))<|Ad)) rfl rfl rfl rfl
theorem TB {e:En}{own:ME}{n:Int}(ho:AU own)(h0:0≤n)(h1:n<5000){a:X}{k:Nat}{cp cd:List Nat}{q p:Q}{n0:Int}{er:Nat}(hk:k∈[0,1,2,3,4,5])(hf:e.f=RN k cp cd q)(ha:Ev e 1 own (n+1) a (.ok (⟨[],[p],.m⟩,n0)))(hp:Ok p)(hn:0≤n0)(hn2:n0<4990)(hl:decide (p.1*1<(k:Int)*p.2)=true)(hq:VF 123 [.agg [.str cp,.str cd]] (.ret (BH q)))(hv:VF 74 [.int .i64 5,(⟨[],[q],.pl⟩:Vl).av,(⟨[],[p],.m⟩:Vl).av] (Ho er)):Ev e 1 own n (.call a) (.error er):=by obtain⟨ea,eb,ec,ev,ew,ef⟩:=e;simp only at hf;subst hf;exact B5 (mu:=[own,AN]) (Cd ho) (r:=[a.c0,a.c1,a.c2,a.c3,a.c4,a.c5,sg p.1,lm p.1,sg p.2,lm p.2,.int .i64 n0,.str cp,.str cd,Aq (k:Int),.int .i64 (n0+1),.int .i64 (n0+1+1),.int .i64 (n0+1+1+1),.int .i64 (n0+1+1+1+1),.int .i64 (n0+1+1+1+1+1),.int .i64 (n0+1+1+1+1+1+1),.int .i64 (AS (p.1*1) ((k:Int)*p.2)),sg q.1,lm q.1,sg q.2,lm q.2,.int .i64 (.ofNat er)]) (px a<|pq p<|pi _<|ps _<|ps _<|ps _<|pi _<|pi _<|pi _<|pi _<|pi _<|pi _<|pi _<|pq q<|pi _<|rfl) (zB.1 (Ux _ _) _ hk) (Ao (BM _ _) (Aa ha<|Aa (FD (ofK hk) (by simp only[Bi,CM]<;>rfl))<|Aa (FD of1 rfl)<|Aa (Ac (E6 _ _ _ (kB hk) (by decide) (kB hk) (Int.mul_one _)) (by simp only[Ai,CM]<;>rfl) (by simp only[Bi,CM]<;>rfl))<|Aa (Ac (PM _ (kB hk)) (by simp only[Ai,CM]<;>rfl) rfl)<|Aa (Ac (ordK hp hk) (by simp only[Ai,CM]<;>rfl) rfl)<|Aa hq<|Aa hv<|Ad)) (Ao (step_ok h0 (by omega) (zL (by omega))) (Aa (Ce _ _ rfl rfl (by rw[←hl];exact decide_eq_decide.2 (Cu _ _))) (Aa (Bt (n0) 1 (n0+1) rfl rfl rfl rfl (by unfold wrap64;omega))<|Aa (Cc (n0+1) 5000 rfl rfl rfl (by simp only[Bv,inst,decide_true,cond_true];rw[zL (by omega)]))<|Aa (Bt (n0+1) 1 (n0+1+1) rfl rfl rfl rfl (by unfold wrap64;omega))<|Aa (Cc (n0+1+1) 5000 rfl rfl rfl (by simp only[Bv,inst,decide_true,cond_true];rw[zL (by omega)]))<|Aa (Bt (n0+1+1) 1 (n0+1+1+1) rfl rfl rfl rfl (by unfold wrap64;omega))<|Aa (Cc (n0+1+1+1) 5000 rfl rfl rfl (by simp only[Bv,inst,decide_true,cond_true];rw[zL (by omega)]))<|Aa (Bt (n0+1+1+1) 1 (n0+1+1+1+1) rfl rfl rfl rfl (by unfold wrap64;omega))<|Aa (Cc (n0+1+1+1+1) 5000 rfl rfl rfl (by simp only[Bv,inst,decide_true,cond_true];rw[zL (by omega)]))<|Aa (Bt (n0+1+1+1+1) 1 (n0+1+1+1+1+1) rfl rfl rfl rfl (by unfold wrap64;omega))<|Aa (Cc (n0+1+1+1+1+1) 5000 rfl rfl rfl (by simp only[Bv,inst,decide_true,cond_true];rw[zL (by omega)]))<|Aa (Bt (n0+1+1+1+1+1) 1 (n0+1+1+1+1+1+1) rfl rfl rfl rfl (by unfold wrap64;omega))<|Aa (Cc (n0+1+1+1+1+1+1) 5000 rfl rfl rfl (by simp only[Bv,inst,decide_true,cond_true];rw[zL (by omega)]))<|Ad))) rfl rfl rfl rfl
theorem TV {e:En}{own:ME}{n:Int}(ho:AU own)(h0:0≤n)(h1:n<5000){a:X}{k:Nat}{cp cd:List Nat}{q p:Q}{n0:Int}{w:Vl}(hk:k∈[0,1,2,3,4,5])(hf:e.f=RN k cp cd q)(ha:Ev e 1 own (n+1) a (.ok (⟨[],[p],.m⟩,n0)))(hp:Ok p)(hn:0≤n0)(hn2:n0<4990)(hl:decide (p.1*1<(k:Int)*p.2)=true)(hq:VF 123 [.agg [.str cp,.str cd]] (.ret (BH q)))(hv:VF 74 [.int .i64 5,(⟨[],[q],.pl⟩:Vl).av,(⟨[],[p],.m⟩:Vl).av] (.ret w.av)):Ev e 1 own n (.call a) (.ok (w,n0+1+1+1+1+1+1)):=by obtain⟨ea,eb,ec,ev,ew,ef⟩:=e;simp only at hf;subst hf;exact B5 (mu:=[own,AN]) (Cd ho) (r:=[a.c0,a.c1,a.c2,a.c3,a.c4,a.c5,sg p.1,lm p.1,sg p.2,lm p.2,.int .i64 n0,.str cp,.str cd,Aq (k:Int),.int .i64 (n0+1),.int .i64 (n0+1+1),.int .i64 (n0+1+1+1),.int .i64 (n0+1+1+1+1),.int .i64 (n0+1+1+1+1+1),.int .i64 (n0+1+1+1+1+1+1),.int .i64 (AS (p.1*1) ((k:Int)*p.2)),sg q.1,lm q.1,sg q.2,lm q.2,AA w.sh,AQ w.it,Ap w.dm]) (px a<|pq p<|pi _<|ps _<|ps _<|ps _<|pi _<|pi _<|pi _<|pi _<|pi _<|pi _<|pi _<|pq q<|pv w<|rfl) (zB.1 (UX _ _) _ hk) (Ao (BM _ _) (Aa ha<|Aa (FD (ofK hk) (by simp only[Bi,CM]<;>rfl))<|Aa (FD of1 rfl)<|Aa (Ac (E6 _ _ _ (kB hk) (by decide) (kB hk) (Int.mul_one _)) (by simp only[Ai,CM]<;>rfl) (by simp only[Bi,CM]<;>rfl))<|Aa (Ac (PM _ (kB hk)) (by simp only[Ai,CM]<;>rfl) rfl)<|Aa (Ac (ordK hp hk) (by simp only[Ai,CM]<;>rfl) rfl)<|Aa hq<|Aa hv<|Ad)) (Ao (step_ok h0 (by omega) (zL (by omega))) (Aa (Ce _ _ rfl rfl (by rw[←hl];exact decide_eq_decide.2 (Cu _ _))) (Aa (Bt (n0) 1 (n0+1) rfl rfl rfl rfl (by unfold wrap64;omega))<|Aa (Cc (n0+1) 5000 rfl rfl rfl (by simp only[Bv,inst,decide_true,cond_true];rw[zL (by omega)]))<|Aa (Bt (n0+1) 1 (n0+1+1) rfl rfl rfl rfl (by unfold wrap64;omega))<|Aa (Cc (n0+1+1) 5000 rfl rfl rfl (by simp only[Bv,inst,decide_true,cond_true];rw[zL (by omega)]))<|Aa (Bt (n0+1+1) 1 (n0+1+1+1) rfl rfl rfl rfl (by unfold wrap64;omega))<|Aa (Cc (n0+1+1+1) 5000 rfl rfl rfl (by simp only[Bv,inst,decide_true,cond_true];rw[zL (by omega)]))<|Aa (Bt (n0+1+1+1) 1 (n0+1+1+1+1) rfl rfl rfl rfl (by unfold wrap64;omega))<|Aa (Cc (n0+1+1+1+1) 5000 rfl rfl rfl (by simp only[Bv,inst,decide_true,cond_true];rw[zL (by omega)]))<|Aa (Bt (n0+1+1+1+1) 1 (n0+1+1+1+1+1) rfl rfl rfl rfl (by unfold wrap64;omega))<|Aa (Cc (n0+1+1+1+1+1) 5000 rfl rfl rfl (by simp only[Bv,inst,decide_true,cond_true];rw[zL (by omega)]))<|Aa (Bt (n0+1+1+1+1+1) 1 (n0+1+1+1+1+1+1) rfl rfl rfl rfl (by unfold wrap64;omega))<|Aa (Cc (n0+1+1+1+1+1+1) 5000 rfl rfl rfl (by simp only[Bv,inst,decide_true,cond_true];rw[zL (by omega)]))<|Ad))) rfl rfl rfl rfl
theorem Va {e:En}{own:ME}{n:Int}(ho:AU own)(h0:0≤n)(h1:n<5000){a:X}{k:Nat}{cp cd:List Nat}{q p:Q}{n0:Int}(hk:k∈[0,1,2,3,4,5])(hf:e.f=RN k cp cd q)(ha:Ev e 1 own (n+1) a (.ok (⟨[],[p],.m⟩,n0)))(hp:Ok p)(hn:0≤n0)(hn2:n0<4990)(hl:decide (p.1*1<(k:Int)*p.2)=false):Ev e 1 own n (.call a) (.ok (⟨[],[p],.m⟩,n0+1+1+1+1)):=by obtain⟨ea,eb,ec,ev,ew,ef⟩:=e;simp only at hf;subst hf;exact B5 (mu:=[own,AN]) (Cd ho) (r:=[a.c0,a.c1,a.c2,a.c3,a.c4,a.c5,sg p.1,lm p.1,sg p.2,lm p.2,.int .i64 n0,.str cp,.str cd,Aq (k:Int),.int .i64 (n0+1),.int .i64 (n0+1+1),.int .i64 (n0+1+1+1),.int .i64 (n0+1+1+1+1),.int .i64 (AS (p.1*1) ((k:Int)*p.2))]) (px a<|pq p<|pi _<|ps _<|ps _<|ps _<|pi _<|pi _<|pi _<|pi _<|pi _<|rfl) (zB.1 (UY _ _) _ hk) (Ao (BM _ _) (Aa ha<|Aa (FD (ofK hk) (by simp only[Bi,CM]<;>rfl))<|Aa (FD of1 rfl)<|Aa (Ac (E6 _ _ _ (kB hk) (by decide) (kB hk) (Int.mul_one _)) (by simp only[Ai,CM]<;>rfl) (by simp only[Bi,CM]<;>rfl))<|Aa (Ac (PM _ (kB hk)) (by simp only[Ai,CM]<;>rfl) rfl)<|Aa (Ac (ordK hp hk) (by simp only[Ai,CM]<;>rfl) rfl)<|Ad)) (Ao (step_ok h0 (by omega) (zL (by omega))) (Aa (Ce _ _ rfl rfl (by rw[←hl];exact decide_eq_decide.2 (Cu _ _))) (Aa (Bt (n0) 1 (n0+1) rfl rfl rfl rfl (by unfold wrap64;omega))<|Aa (Cc (n0+1) 5000 rfl rfl rfl (by simp only[Bv,inst,decide_true,cond_true];rw[zL (by omega)]))<|Aa (Bt (n0+1) 1 (n0+1+1) rfl rfl rfl rfl (by unfold wrap64;omega))<|Aa (Cc (n0+1+1) 5000 rfl rfl rfl (by simp only[Bv,inst,decide_true,cond_true];rw[zL (by omega)]))<|Aa (Bt (n0+1+1) 1 (n0+1+1+1) rfl rfl rfl rfl (by unfold wrap64;omega))<|Aa (Cc (n0+1+1+1) 5000 rfl rfl rfl (by simp only[Bv,inst,decide_true,cond_true];rw[zL (by omega)]))<|Aa (Bt (n0+1+1+1) 1 (n0+1+1+1+1) rfl rfl rfl rfl (by unfold wrap64;omega))<|Aa (Cc (n0+1+1+1+1) 5000 rfl rfl rfl (by simp only[Bv,inst,decide_true,cond_true];rw[zL (by omega)]))<|Ad))) rfl rfl rfl rfl
def FW:Bs→List Nat→Option Vl→Option Vl
 |[],_,o=>o|p::r,s,o=>FW r s (bif Am p.1 s then some p.2 else o)
theorem MI {l:List AV}{c:List (List Nat)}{s:List Nat}{k:Nat}(h:runR l c s=true)(hk:Yu (DV c 26) s (nmS s)=some k):(([]:List OF).all (fun q=>BU q.N q.args q.l q.res q.u)&&BO (F9 l [[],AN] [] (A9 false) [] []) 4000 80 6 191 [.ptr 0 0,scA 1,.agg [.int .i64 1,.str [],.str [],.str s,.int .i64 0,.emp]] (lwG (.sel 24) (.map (skE (DV c 26)) 0) (.opq 1) Hd D3) (Bp k) (uwG ((some 25).map .sel) (.map (skE (DV c 26)) 0) (.opq 1) Hd D3))=true:=by unfold runR at h;rw[hk]at h;exact h
def En.nm (e:En)(s:List Nat):Option Vl:=bif Am s nA then some e.a else bif Am s nB then some e.b else bif Am s nC then some e.c else bif Am s nV then some e.v else bif Am s nW then some e.w else none
theorem n_ref0 {e:En}{n:Int}(h0:0≤n)(hlt:n<5000){s:List Nat}(hs:s∈refs){w:Vl}(hv:FW [] s (e.nm s)=some w):Ev e 1 (CL []) n (.ref s) (.ok (w,n+1)):=by
 have hr:=zB.1 (zB.1 (r_ref0 (Co e n [])) _ (Hy)) _ hs;simp only[refs,zH,List.not_mem_nil,or_false]at hs;rcases hs with rfl|rfl|rfl|rfl|rfl|rfl<;>first
  |(cases hv;done)
  |(cases hv;exact B5 (mu:=[[],AN]) rfl (rfl) (MI hr rfl) Ad (step_ok h0 (by omega) (zL (by omega))) rfl rfl rfl rfl)
theorem n_ref1 {e:En}{n:Int}(h0:0≤n)(hlt:n<5000){s1 s:List Nat}(h1:s1∈Cy)(hs:s∈refs){v1:Vl}{w:Vl}(hv:FW [(s1,v1)] s (e.nm s)=some w):Ev e 1 (CL [(s1,v1)]) n (.ref s) (.ok (w,n+1)):=by
 have hr:=zB.1 (zB.1 (r_ref1 (Co e n [AA v1.sh,AQ v1.it,Ap v1.dm])) _ (H8 h1)) _ hs;simp only[Cy,refs,zH,List.not_mem_nil,or_false]at h1 hs;rcases h1 with rfl|rfl|rfl|rfl<;>rcases hs with rfl|rfl|rfl|rfl|rfl|rfl<;>first
  |(cases hv;done)
  |(cases hv;exact B5 (mu:=[[],AN]) rfl (pv v1<|rfl) (MI hr rfl) Ad (step_ok h0 (by omega) (zL (by omega))) rfl rfl rfl rfl)
theorem n_ref2 {e:En}{n:Int}(h0:0≤n)(hlt:n<5000){s1 s2 s:List Nat}(h1:s1∈Cy)(h2:s2∈CD)(hs:s∈refs){v1 v2:Vl}{w:Vl}(hv:FW [(s1,v1),(s2,v2)] s (e.nm s)=some w):Ev e 1 (CL [(s1,v1),(s2,v2)]) n (.ref s) (.ok (w,n+1)):=by
 have hr:=zB.1 (zB.1 (r_ref2 (Co e n [AA v1.sh,AQ v1.it,Ap v1.dm,AA v2.sh,AQ v2.it,Ap v2.dm])) _ (H6 h1 h2)) _ hs;simp only[Cy,CD,refs,zH,List.not_mem_nil,or_false]at h1 h2 hs;rcases h1 with rfl|rfl|rfl|rfl<;>rcases h2 with rfl|rfl|rfl<;>rcases hs with rfl|rfl|rfl|rfl|rfl|rfl<;>first
  |(cases hv;done)
  |(cases hv;exact B5 (mu:=[[],AN]) rfl (pv v1<|pv v2<|rfl) (MI hr rfl) Ad (step_ok h0 (by omega) (zL (by omega))) rfl rfl rfl rfl)
set_option maxHeartbeats 8000000 in
theorem n_ref3 {e:En}{n:Int}(h0:0≤n)(hlt:n<5000){s1 s2 s3 s:List Nat}(h1:s1∈Cy)(h2:s2∈CD)(h3:s3∈CD)(hs:s∈refs){v1 v2 v3:Vl}{w:Vl}(hv:FW [(s1,v1),(s2,v2),(s3,v3)] s (e.nm s)=some w):Ev e 1 (CL [(s1,v1),(s2,v2),(s3,v3)]) n (.ref s) (.ok (w,n+1)):=by
 have hr:=zB.1 (zB.1 (r_ref3 (Co e n [AA v1.sh,AQ v1.it,Ap v1.dm,AA v2.sh,AQ v2.it,Ap v2.dm,AA v3.sh,AQ v3.it,Ap v3.dm])) _ (Zx h1 h2 h3)) _ hs;simp only[Cy,CD,refs,zH,List.not_mem_nil,or_false]at h1 h2 h3 hs;rcases h1 with rfl|rfl|rfl|rfl<;>rcases h2 with rfl|rfl|rfl<;>rcases h3 with rfl|rfl|rfl<;>rcases hs with rfl|rfl|rfl|rfl|rfl|rfl<;>first
  |(cases hv;done)
  |(cases hv;exact B5 (mu:=[[],AN]) rfl (pv v1<|pv v2<|pv v3<|rfl) (MI hr rfl) Ad (step_ok h0 (by omega) (zL (by omega))) rfl rfl rfl rfl)
def lpX (t:Bool)(c:Nat)(a:X):X:=bif t then .tab c a else .sum c a
def lpC (t:Bool)(c:Nat):List AV:=[.int .i64 (bif t then 10 else 11),.str [],.str [],.str nmI,.int .i64 (.ofNat c),.psl [.sel 26,.sel 27,.sel 28,.sel 29,.sel 30,.sel 31] 1 none]
def lpS (i:Nat):Nat:=bif Nat.beq i 0 then 25 else 31+4*i
def lpF (t:Bool)(c i:Nat):OF:=bdF 322 nmI (wvS i) (lpC t c) (lpS i) oq (Bp (32+4*i)) (some (35+4*i))
def lpE (t:Bool)(c i:Nat):OF:=bdF 322 nmI (wvS i) (lpC t c) (lpS i) oq (Bl (32+4*i)) none
def lpW:List OF:=n4s.map fun i=>vq 271 [.int .i64 (.ofNat (i-1))] (.ret (wvS (i-1)))
def lpV (c:Nat):AV:=.psl ((List.range c).flatMap fun i=>[.sel (32+4*i),.sel (33+4*i),.sel (34+4*i)]) c none
def lpT (t:Bool)(c:Nat)(r:AG):OF:=vq (bif t then 269 else 268) [lpV c] r
def bools:List Bool:=[true,false]
theorem Y6 (l:List AV)(mu:List ME):(n4s.all fun c=>bools.all fun t=>(List.range c).all fun i=>Cx l mu (lpW++((List.range i).map (lpF t c)++[lpE t c i])) (A9 false) 1 (lpC t c) oq (Bl (32+4*i)) none)=true:=by kernel_rfl
theorem Aan (l:List AV)(mu:List ME):(n4s.all fun c=>Cx l mu (lpW++((List.range c).map (lpF false c)++[lpT false c (Bl (32+4*c))])) (A9 false) 1 (lpC false c) oq (Bl (32+4*c)) none)=true:=by kernel_rfl
theorem AaL (l:List AV)(mu:List ME):(n4s.all fun c=>bools.all fun t=>Cx l mu (lpW++((List.range c).map (lpF t c)++[lpT t c (Bp (32+4*c))])) (A9 false) 1 (lpC t c) oq (Bp (32+4*c)) (some (31+4*c)))=true:=by kernel_rfl
def Lch (P:Nat→Int→Vl→Int→Prop):Nat→Int→List (Vl×Int)→Prop
 |_,_,[]=>True|i,n,p::r=>P i n p.1 p.2∧Lch P (i+1) p.2 r
def Ky (n:Int):List (Vl×Int)→Int
 |[]=>n|p::r=>Ky p.2 r
def lpP (us:List (Vl×Int)):List AV:=us.flatMap fun p=>[AA p.1.sh,AQ p.1.it,Ap p.1.dm,.int .i64 p.2]
theorem Qf {r:List AV}(h:Pls r):∀us:List (Vl×Int),Pls (lpP us++r)
 |[]=>h|p::us=>pv p.1 (pi p.2 (Qf h us))
theorem UO (l:List AV)(mu:List ME):∀q∈lpW,Bx (Ag l) (mpL mu) q:=
 Aa (Ac (VQ 0 (by decide)) rfl rfl)<|Aa (Ac (VQ 1 (by decide)) rfl rfl)<|Aa (Ac (VQ 2 (by decide)) rfl rfl)<|Aa (Ac (VQ 3 (by decide)) rfl rfl) Ad
section
variable {e:En}{own:ME}{n:Int}{t:Bool}{c:Nat}{a:X}
abbrev lpB (e:En)(own:ME)(t:Bool)(c:Nat)(a:X):Nat→Int→Vl→Int→Prop:=fun i m u m'=>Bd e own m nmI ⟨[],[((i:Int),1)],.pl⟩ 322 (lpX t c a) (.ok (u,m'))
theorem NU {us:List (Vl×Int)}(h4:us.length≤4)(h:Lch (lpB e own t c a) 0 (n+1) us)(r:List AV):∀q∈(List.range us.length).map (lpF t c),Bx (Ag (Co e n (a.c0::a.c1::a.c2::a.c3::a.c4::a.c5::(lpP us++r)))) (mpL [own,AN]) q:=by
 cases t<;>match us,h4,h with
  |[],_,_=>exact Ad|[_],_,h=>exact Aa (Bd.idx (by decide) h.1) Ad
  |[_,_],_,h=>exact Aa (Bd.idx (by decide) h.1)<|Aa (Bd.idx (by decide) h.2.1) Ad
  |[_,_,_],_,h=>exact Aa (Bd.idx (by decide) h.1)<|Aa (Bd.idx (by decide) h.2.1)<|Aa (Bd.idx (by decide) h.2.2.1) Ad
  |[_,_,_,_],_,h=>exact Aa (Bd.idx (by decide) h.1)<|Aa (Bd.idx (by decide) h.2.1)<|Aa (Bd.idx (by decide) h.2.2.1)<|Aa (Bd.idx (by decide) h.2.2.2.1) Ad
  |_::_::_::_::_::_,h,_=>simp at h
theorem S2 (ho:AU own)(h0:0≤n)(h1:n<5000)(hc:1≤c)(hc4:c≤4){us:List (Vl×Int)}{er:Nat}(hu:us.length<c)(h:Lch (lpB e own t c a) 0 (n+1) us)(kE:Bd e own (Ky (n+1) us) nmI ⟨[],[((us.length:Int),1)],.pl⟩ 322 (lpX t c a) (.error er)):Ev e 1 own n (lpX t c a) (.error er):=by
 have run:=zB.1 (zB.1 (zB.1 (Y6 (Co e n (a.c0::a.c1::a.c2::a.c3::a.c4::a.c5::(lpP us++[.int .i64 (.ofNat er)]))) [own,AN]) c (Ld hc hc4)) t (by cases t<;>decide)) us.length (zQ.2 hu);have hf:=NU (by omega) h [.int .i64 (.ofNat er)];have kE:=Bd.idx (by have:B=1000000000:=rfl;omega) kE;refine AL ho (px a<|Qf (pi _ rfl) us) run (Ao (UO _ _) (Ao hf (Aa ?_ Ad))) (step_ok h0 (by omega) (zL (by omega))) ?_ ?_ ?_ ?_;all_goals (cases t<;>match us,hu,kE with
  |[],_,kE=>first|exact kE|rfl
  |[_],_,kE=>first|exact kE|rfl
  |[_,_],_,kE=>first|exact kE|rfl
  |[_,_,_],_,kE=>first|exact kE|rfl
  |_::_::_::_::_,hu,_=>simp at hu;omega)
theorem Aac (ho:AU own)(h0:0≤n)(h1:n<5000)(hc:1≤c)(hc4:c≤4){us:List (Vl×Int)}{er:Nat}(hu:us.length=c)(h:Lch (lpB e own false c a) 0 (n+1) us)(hv:VF 268 [LH (us.map (·.1))] (Ho er)):Ev e 1 own n (.sum c a) (.error er):=by
 subst hu;have run:=zB.1 (Aan (Co e n (a.c0::a.c1::a.c2::a.c3::a.c4::a.c5::(lpP us++[.int .i64 (.ofNat er)]))) [own,AN]) us.length (Ld hc hc4);have hf:=NU (by omega) h [.int .i64 (.ofNat er)];refine AL ho (px a<|Qf (pi _ rfl) us) run (Ao (UO _ _) (Ao hf (Aa ?_ Ad))) (step_ok h0 (by omega) (zL (by omega))) ?_ ?_ ?_ ?_;all_goals (match us,hc,hc4,hv with
  |[_],_,_,hv=>first|exact hv|rfl
  |[_,_],_,_,hv=>first|exact hv|rfl
  |[_,_,_],_,_,hv=>first|exact hv|rfl
  |[_,_,_,_],_,_,hv=>first|exact hv|rfl
  |_::_::_::_::_::_,_,h,_=>simp at h)
theorem Sp (ho:AU own)(h0:0≤n)(h1:n<5000)(hc:1≤c)(hc4:c≤4){us:List (Vl×Int)}{w:Vl}(hu:us.length=c)(h:Lch (lpB e own t c a) 0 (n+1) us)(hv:VF (bif t then 269 else 268) [LH (us.map (·.1))] (.ret w.av)):Ev e 1 own n (lpX t c a) (.ok (w,Ky (n+1) us)):=by
 subst hu;have run:=zB.1 (zB.1 (AaL (Co e n (a.c0::a.c1::a.c2::a.c3::a.c4::a.c5::(lpP us++[AA w.sh,AQ w.it,Ap w.dm]))) [own,AN]) us.length (Ld hc hc4)) t (by cases t<;>decide);have hf:=NU (by omega) h [AA w.sh,AQ w.it,Ap w.dm];refine AL ho (px a<|Qf (pv w rfl) us) run (Ao (UO _ _) (Ao hf (Aa ?_ Ad))) (step_ok h0 (by omega) (zL (by omega))) ?_ ?_ ?_ ?_;all_goals (cases t<;>match us,hc,hc4,hv with
  |[_],_,_,hv=>first|exact hv|rfl
  |[_,_],_,_,hv=>first|exact hv|rfl
  |[_,_,_],_,_,hv=>first|exact hv|rfl
  |[_,_,_,_],_,_,hv=>first|exact hv|rfl
  |_::_::_::_::_::_,_,h,_=>simp at h)
end
def Ih (i:Nat):Vl:=⟨[],[((i:Int),1)],.pl⟩
def litV (q:Q):Nat→Vl
 |0=>⟨[],[q],.pl⟩|1=>⟨[],[AB q (1,1)],.m⟩|2=>⟨[],[AB q (1000,1)],.m⟩|3=>⟨[],[AB q (1,1)],.s⟩|_=>⟨[],[AB q (3600,1)],.s⟩
def D8 (f:Nat→Int→Rs):Nat→Nat→Int→Except Nat (List Vl×Int)
 |0,_,n=>.ok ([],n)|c+1,i,n=>match f i n with
  |.error e=>.error e|.ok (v,n1)=>match D8 f c (i+1) n1 with
   |.error e=>.error e|.ok (l,n2)=>.ok (v::l,n2)
def Eg (r:Except Nat Vl)(n:Int):Rs:=match r with
 |.error e=>.error e|.ok v=>.ok (v,n)
def V1 (k:Nat)(u:Vl):Bool:=decide ((u.it.headD (0,1)).1*1<(k:Int)*(u.it.headD (0,1)).2)
def Jg (cb:Option (Nat×Q))(u:Vl)(n:Int):Rs:=match cb with
 |none=>match C6 5 ⟨[],[(0,1)],.pl⟩ u with
  |.error e=>.error e|.ok w1=>Eg (C6 3 u w1) (n+1+1+1+1+1)
 |some (k,q)=>if V1 k u then Eg (C6 5 ⟨[],[q],.pl⟩ u) (n+1+1+1+1+1+1) else .ok (u,n+1+1+1+1)
def idxOf (v:Vl):Nat:=(v.it.headD (0,1)).1.toNat
def V4 (u v:Vl):Bool:=decide ((u.it.headD (0,1)).1*(v.it.headD (0,1)).2<(v.it.headD (0,1)).1*(u.it.headD (0,1)).2)
def evS (e:En)(cb:Option (Nat×Q)):Bs→X→Int→Rs
 |_,.lit _ _ q u,n=>.ok (litV q u,n+1)|bs,.ref s,n=>match FW bs s (e.nm s) with
  |some v=>.ok (v,n+1)|none=>.error 4
 |bs,.bin op a b,n=>match evS e cb bs a (n+1) with
  |.error er=>.error er|.ok (u,n1)=>match evS e cb bs b n1 with
   |.error er=>.error er|.ok (v,n2)=>Eg (C6 op u v) n2
 |bs,.neg a,n=>match evS e cb bs a (n+1) with
  |.error er=>.error er|.ok (u,n1)=>Eg (C6 5 ⟨[],[(-1,1)],.pl⟩ u) n1
 |bs,.sq a,n=>match evS e cb bs a (n+1) with
  |.error er=>.error er|.ok (u,n1)=>Eg (sqR u) n1
 |bs,.lst a b c,n=>match evS e cb bs a (n+1) with
  |.error er=>.error er|.ok (u,n1)=>match evS e cb bs b n1 with
   |.error er=>.error er|.ok (v,n2)=>match evS e cb bs c n2 with
    |.error er=>.error er|.ok (w,n3)=>.ok (Ip [u,v,w],n3)
 |bs,.at a b,n=>match evS e cb bs a (n+1) with
  |.error er=>.error er|.ok (u,n1)=>match evS e cb bs b n1 with
   |.error er=>.error er|.ok (v,n2)=>Eg (SX u (idxOf v)) n2
 |bs,.tab c a,n=>match D8 (fun i n=>evS e cb (bs++[(nmI,Ih i)]) a n) c 0 (n+1) with
  |.error er=>.error er|.ok (l,n1)=>.ok (Ip l,n1)
 |bs,.sum c a,n=>match D8 (fun i n=>evS e cb (bs++[(nmI,Ih i)]) a n) c 0 (n+1) with
  |.error er=>.error er|.ok (l,n1)=>Eg (TA l) n1
 |bs,.ite a b c d,n=>match evS e cb bs a (n+1) with
  |.error er=>.error er|.ok (u,n1)=>match evS e cb bs b n1 with
   |.error er=>.error er|.ok (v,n2)=>if V4 u v then evS e cb bs c n2 else evS e cb bs d n2
 |bs,.lett s a b,n=>match evS e cb bs a (n+1) with
  |.error er=>.error er|.ok (u,n1)=>evS e cb (bs++[(s,u)]) b n1
 |bs,.call a,n=>match evS e cb bs a (n+1) with
  |.error er=>.error er|.ok (u,n1)=>Jg cb u n1
def X.cost:X→Int
 |.lit .. | .ref _=>1|.bin _ a b|.at a b|.lett _ a b=>1+a.cost+b.cost|.neg a|.sq a=>1+a.cost|.lst a b c=>1+a.cost+b.cost+c.cost|.tab n a|.sum n a=>1+n*a.cost|.ite a b c d=>1+a.cost+b.cost+c.cost+d.cost|.call a=>7+a.cost
structure MU (p d:List Nat)(q:Q):Prop where
 of:VF 123 [.agg [.str p,.str d]] (.ret (BH q))
 ok:Ok q
def nmK:Kd→Option (List Nat)
 |.pl=>some nA|.m=>some nB|.s=>some nC|.m3=>some nV|.pl3=>some nW|_=>none
inductive Lf (ins:Bool):Kd→X→Prop where
 |ref {k s} : nmK k=some s→Lf ins k (.ref s)
 |idx:ins=true→Lf ins .pl (.ref nmI)
 |lit {p d q} : MU p d q→q.1.natAbs<65536→q.2.natAbs<65536→Lf ins .pl (.lit p d q 0)
 |met {p d u} {z:Nat} : MU p d ((z:Int),1)→z<10→(u=1∨u=2)→Lf ins .m (.lit p d ((z:Int),1) u)
 |sec {p d u} {z:Nat} : MU p d ((z:Int),1)→z<10→(u=3∨u=4)→Lf ins .s (.lit p d ((z:Int),1) u)
inductive Ty:Nat→Bool→Kd→X→Prop where
 |leaf {l ins k x} : Lf ins k x→Ty l ins k x
 |leaf2 {l ins op ka kb k a b} : Lf ins ka a→Lf ins kb b→op∈[5,6]→kdR op ka kb=some k→ka=.m→(kb=.m∨kb=.s)→Ty l ins k (.bin op a b)
 |bin {l ins op ka kb k a b} : op∈[3,4,5,6]→kdR op ka kb=some k→Ty l ins ka a→Ty l ins kb b→Ty (l+1) ins k (.bin op a b)
 |ite {l ins ko k a b c d} : (ko=.pl∨ko=.m∨ko=.s)→Ty l ins ko a→Ty l ins ko b→Ty l ins k c→Ty l ins k d→Ty (l+1) ins k (.ite a b c d)
 |lett {l ins k s a b} : (s=nA∨s=nZ)→Ty l ins .pl a→Ty l ins k b→Ty (l+1) ins k (.lett s a b)
 |neg {l ins k a} : Ty l ins k a→Ty (l+1) ins k (.neg a)
 |tab {l ins k ka a} : Gp k=some ka→Ty l true k a→Ty (l+1) ins ka (.tab 3 a)
 |lst {l ins k ka a b c} : Gp k=some ka→Ty l ins k a→Ty l ins k b→Ty l ins k c→Ty (l+1) ins ka (.lst a b c)
 |sum {l ins k n a} : k.arr=false→1≤n→n≤4→Ty l true k a→Ty (l+1) ins k (.sum n a)
 |elt {l ins k ka a p d} {i:Nat} : Gp k=some ka→i<4→MU p d ((i:Int),1)→Ty l ins ka a→Ty (l+1) ins k (.at a (.lit p d ((i:Int),1) 0))
 |call {l ins a} : Ty l ins .m a→Ty (l+1) ins .m (.call a)
 |sq {l ins a} : Ty l ins .m a→Ty (l+1) ins .m2 (.sq a)
structure EnOk (e:En)(cb:Option (Nat×Q)):Prop where
 a:VOk .pl e.a
 b:VOk .m e.b
 c:VOk .s e.c
 v:VOk .m3 e.v
 w:VOk .pl3 e.w
 f:match cb with
  |none=>e.f=Tf|some (k,q)=>k∈[0,1,2,3,4,5]∧∃p d,e.f=RN k p d q∧MU p d q
def Ade:Bs→Prop
 |[]=>True|[(a,_)]=>a∈Cy|[(a,_),(b,_)]=>a∈Cy∧b∈CD|[(a,_),(b,_),(c,_)]=>a∈Cy∧b∈CD∧c∈CD|_=>False
structure Gu (bs:Bs)(l:Nat)(ins:Bool):Prop where
 len:bs.length+l≤3
 names:Ade bs
 vals:∀p∈bs,p.1∈CD→VOk .pl p.2
 ins:ins=true→∃p∈bs,p.1=nmI
theorem KN {z:Nat}(hz:z<10)(f:Int)(h1:0<f)(h2:f<4000):CI (AB ((z:Int),1) (f,1))=true∧Ok (AB ((z:Int),1) (f,1)):=by
 rw[LX];have h:=BN (e:=(z:Int)*f) (by
  rw[Int.natAbs_mul];have:f.natAbs<4000:=by omega
  have h3:((z:Int)).natAbs*f.natAbs≤10*4000:=Nat.mul_le_mul (by omega) (by omega);simp only[B];omega)
 exact⟨h.1,h⟩
theorem Ej {ins:Bool}{k:Kd}{x:X}(h:Lf ins k x):x.cost=1:=by cases h<;>rfl
theorem I1 {bs:Bs}{s:List Nat}{o:Option Vl}(h:∀p∈bs,Am p.1 s=false):FW bs s o=o:=by
 induction bs generalizing o with
 |nil=>rfl|cons p r ih=>unfold FW;rw[h p (by simp)];exact ih fun p hp=>h p (by simp[hp])
theorem I0 {k:Kd}{s:List Nat} : ∀{bs:Bs} {o:Option Vl},(∀p∈bs,Am p.1 s=true→VOk k p.2)→(∀v,o=some v→VOk k v)→((∃p∈bs,Am p.1 s=true)∨o.isSome=true)→∃v,FW bs s o=some v∧VOk k v
 |[],o,_,ho,h=>by
  rcases h with⟨p,hp,_⟩|h
  ·cases hp
  ·obtain⟨v,rfl⟩:=Option.isSome_iff_exists.1 h;exact⟨v,rfl,ho v rfl⟩
 |p::r,o,hb,ho,h=>by
  unfold FW;cases hp:Am p.1 s with
  |true=>exact I0 (fun q hq=>hb q (by simp[hq])) (fun v hv=>by cases hv;exact hb p (by simp) hp) (.inr rfl)
  |false=>
   refine I0 (fun q hq=>hb q (by simp[hq])) ho ?_;rcases h with⟨q,hq,e⟩|h
   ·rcases zH.1 hq with rfl|hq
    ·rw[hp]at e;cases e
    ·exact .inl ⟨q,hq,e⟩
   ·exact .inr h
theorem n_ref {e:En}{n:Int}(h0:0≤n)(h1:n<5000){bs:Bs}{l:Nat}{ins:Bool}(hb:Gu bs l ins){s:List Nat}(hs:s∈refs){w:Vl}(hv:FW bs s (e.nm s)=some w):Ev e 1 (CL bs) n (.ref s) (.ok (w,n+1)):=by
 have hn:=hb.names
 match bs,hn with
 |[],_=>exact n_ref0 h0 h1 hs hv|[(a,v1)],hn=>exact n_ref1 h0 h1 hn hs hv|[(a,v1),(b,v2)],hn=>exact n_ref2 h0 h1 hn.1 hn.2 hs hv|[(a,v1),(b,v2),(c,v3)],hn=>exact n_ref3 h0 h1 hn.1 hn.2.1 hn.2.2 hs hv
theorem Pp {p:List Nat}(h:p∈Cy):(Am p nA=true→p∈CD)∧Am p nB=false∧Am p nC=false∧Am p nV=false∧Am p nW=false∧(Am p nmI=true→p∈CD):=by simp only[Cy,zH,List.not_mem_nil,or_false]at h;rcases h with rfl|rfl|rfl|rfl<;>decide
theorem Gu.mem {bs:Bs}{l:Nat}{ins:Bool}(h:Gu bs l ins):∀p∈bs,p.1∈Cy:=by
 have hn:=h.names;have sub:∀x,x∈CD→x∈Cy:=by intro x hx;simp only[CD,zH,List.not_mem_nil,or_false]at hx;rcases hx with rfl|rfl|rfl<;>decide
 match bs,hn with
 |[],_=>intro p hp;cases hp
 |[(a,_)],hn=>intro p hp;simp only[List.mem_singleton]at hp;subst hp;exact hn
 |[(a,_),(b,_)],hn=>
  intro p hp;simp only[zH,List.not_mem_nil,or_false]at hp;rcases hp with rfl|rfl
  ·exact hn.1
  ·exact sub _ hn.2
 |[(a,_),(b,_),(c,_)],hn=>
  intro p hp;simp only[zH,List.not_mem_nil,or_false]at hp;rcases hp with rfl|rfl|rfl
  ·exact hn.1
  ·exact sub _ hn.2.1
  ·exact sub _ hn.2.2
theorem Gu.push {bs:Bs}{l:Nat}{ins:Bool}(h:Gu bs (l+1) ins){s:List Nat}(hs:s∈CD){v:Vl}(hv:VOk .pl v){ins':Bool}(hi:ins'=true→ins=true∨s=nmI):Gu (bs++[(s,v)]) l ins':=by
 have sub:∀x,x∈CD→x∈Cy:=by intro x hx;simp only[CD,zH,List.not_mem_nil,or_false]at hx;rcases hx with rfl|rfl|rfl<;>decide
 have hn:=h.names;have hl:=h.len;refine⟨by simp;omega,?_,fun p hp hm=>?_,fun h2=>?_⟩
 ·match bs,hn,hl with
  |[],_,_=>exact sub _ hs|[(a,_)],hn,_=>exact⟨hn,hs⟩|[(a,_),(b,_)],hn,_=>exact⟨hn.1,hn.2,hs⟩|[(a,_),(b,_),(c,_)],_,hl=>simp at hl;omega
 ·rcases List.mem_append.1 hp with hp|hp
  ·exact h.vals p hp hm
  ·simp only[List.mem_singleton]at hp;subst hp;exact hv
 ·rcases hi h2 with h3|h3
  ·obtain⟨p,hp,e⟩:=h.ins h3;exact⟨p,by simp[hp],e⟩
  ·exact⟨(s,v),by simp,h3⟩
theorem Gu.down {bs:Bs}{l:Nat}{ins:Bool}(h:Gu bs (l+1) ins):Gu bs l ins:=⟨by have:=h.len;omega,h.names,h.vals,h.ins⟩
end Go.Ev
end
