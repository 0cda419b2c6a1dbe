/- What the evaluator of the program does at a node of an expression, told of whatever its arguments evaluate to. -/
import Derived.Test.YtecmlmofhabonaaGreatDoorNode2
import Derived.Test.YtecmlmofhabonaaGreatDoorNode
import Derived.Test.YtecmlmofhabonaaGreatDoorNode1
noncomputable section
namespace Go.Ev
open Go Go.Ab Go.Nl Go.Nb Go.RowKit Go.Proofs Go.E4
set_option maxRecDepth 1000000
theorem AW (i:Nat)(h:i<B):VF 271 [.int .i64 (.ofNat i)] (.ret (wvS i)):=by
 have:=whole (i:Int) (by simpa using h)
 rwa[IZ i h] at this
theorem wv_av (i:Nat)(h:i<B):(⟨[],[((i:Int),1)],.pl⟩:Vl).av=wvS i:=IZ i h
theorem Bd.idx {e:En}{own:ME}{n:Int}{i:Nat}(h:i<B){cl:FuncId}{x:X}{r:Rs}(hb:Bd e own n nmI ⟨[],[((i:Int),1)],.pl⟩ cl x r):CM P4 gl5 9 265 [scA 1,.str nmI,wvS i,clA cl] (boxA x.cs++lwA e n own) (resE r) (Lu x.cs++uwA e (stE r) own):=by
 unfold Bd at hb
 rwa[wv_av i h] at hb
theorem CC (a b:Int):BC a b<0↔a<b:=by
 unfold BC
 split
 ·omega
 ·split<;>omega
theorem BS (r:List AV)(mu:List ME):∀q∈AU,BM (Am (Ag 1::Ag 2::Ag (-1)::r)) (mpL mu) q:=fun q hq=>by
 have:=AY r q hq
 unfold AU at hq
 simp only[List.mem_cons,List.not_mem_nil,or_false] at hq
 rcases hq with rfl|rfl|rfl|rfl|rfl|rfl|rfl|rfl|rfl|rfl|rfl|rfl|rfl|rfl|rfl|rfl|rfl|rfl|rfl|rfl|rfl|rfl|rfl|rfl|rfl|rfl<;>exact this
theorem Zb {e:En}{own:ME}{n:Int}(ho:AI own)(h0:0≤n)(h1:n<5000){s:List Nat}(hs:s∈FA){a b:X}{er:Nat}(ha:Ev e 1 own (n+1) a (.error er)):Ev e 1 own n (.lett s a b) (.error er):=
 Ar (r:=[a.c0,a.c1,a.c2,a.c3,a.c4,a.c5,b.c0,b.c1,b.c2,b.c3,b.c4,b.c5,.int .i64 (.ofNat er)]) ho (px a<|px b<|pi _<|rfl) (List.all_eq_true.1 (AaP _ _) _ hs) (Aa ha<|Ad) (step_ok h0 (by omega) (decide_eq_false (by omega))) rfl rfl rfl rfl
theorem AaD {e:En}{own:ME}{n:Int}(ho:AI own)(h0:0≤n)(h1:n<5000){s:List Nat}(hs:s∈FA){a b:X}{u:Vl}{n0:Int}{er:Nat}(ha:Ev e 1 own (n+1) a (.ok (u,n0)))(hb:Bd e own n0 s u 266 (.lett s a b) (.error er)):Ev e 1 own n (.lett s a b) (.error er):=
 Ar (r:=[a.c0,a.c1,a.c2,a.c3,a.c4,a.c5,b.c0,b.c1,b.c2,b.c3,b.c4,b.c5,Aq u.sh,Ax u.it,Al u.dm,.int .i64 n0,.int .i64 (.ofNat er)]) ho (px a<|px b<|pv u<|pi _<|pi _<|rfl) (List.all_eq_true.1 (XN _ _) _ hs) (Aa ha<|Aa hb<|Ad) (step_ok h0 (by omega) (decide_eq_false (by omega))) rfl rfl rfl rfl
theorem Si {e:En}{own:ME}{n:Int}(ho:AI own)(h0:0≤n)(h1:n<5000){s:List Nat}(hs:s∈FA){a b:X}{u:Vl}{n0:Int}{w:Vl}{n2:Int}(ha:Ev e 1 own (n+1) a (.ok (u,n0)))(hb:Bd e own n0 s u 266 (.lett s a b) (.ok (w,n2))):Ev e 1 own n (.lett s a b) (.ok (w,n2)):=
 Ar (r:=[a.c0,a.c1,a.c2,a.c3,a.c4,a.c5,b.c0,b.c1,b.c2,b.c3,b.c4,b.c5,Aq u.sh,Ax u.it,Al u.dm,.int .i64 n0,Aq w.sh,Ax w.it,Al w.dm,.int .i64 n2]) ho (px a<|px b<|pv u<|pi _<|pv w<|pi _<|rfl) (List.all_eq_true.1 (Zl _ _) _ hs) (Aa ha<|Aa hb<|Ad) (step_ok h0 (by omega) (decide_eq_false (by omega))) rfl rfl rfl rfl
theorem WH {e:En}{own:ME}{n:Int}(ho:AI own)(h0:0≤n)(h1:n<5000){a:X}{er:Nat}(kE:Bd e own (n+1) nmI ⟨[],[(((0:Nat):Int),1)],.pl⟩ 322 (.tab 3 a) (.error er)):Ev e 1 own n (.tab 3 a) (.error er):=
 Ar (r:=[a.c0,a.c1,a.c2,a.c3,a.c4,a.c5,.int .i64 (.ofNat er)]) ho (px a<|pi _<|rfl) (W1 _ _) (Aa (Ac (AW 0 (by decide)) rfl rfl)<|Aa (Ac (AW 1 (by decide)) rfl rfl)<|Aa (Ac (AW 2 (by decide)) rfl rfl)<|Aa (Bd.idx (by decide) kE)<|Ad) (step_ok h0 (by omega) (decide_eq_false (by omega))) rfl rfl rfl rfl
theorem VM {e:En}{own:ME}{n:Int}(ho:AI own)(h0:0≤n)(h1:n<5000){a:X}{u0:Vl}{n0:Int}{er:Nat}(k0:Bd e own (n+1) nmI ⟨[],[(((0:Nat):Int),1)],.pl⟩ 322 (.tab 3 a) (.ok (u0,n0)))(kE:Bd e own n0 nmI ⟨[],[(((1:Nat):Int),1)],.pl⟩ 322 (.tab 3 a) (.error er)):Ev e 1 own n (.tab 3 a) (.error er):=
 Ar (r:=[a.c0,a.c1,a.c2,a.c3,a.c4,a.c5,Aq u0.sh,Ax u0.it,Al u0.dm,.int .i64 n0,.int .i64 (.ofNat er)]) ho (px a<|pv u0<|pi _<|pi _<|rfl) (Wa _ _) (Aa (Ac (AW 0 (by decide)) rfl rfl)<|Aa (Ac (AW 1 (by decide)) rfl rfl)<|Aa (Ac (AW 2 (by decide)) rfl rfl)<|Aa (Bd.idx (by decide) k0)<|Aa (Bd.idx (by decide) kE)<|Ad) (step_ok h0 (by omega) (decide_eq_false (by omega))) rfl rfl rfl rfl
theorem Xq {e:En}{own:ME}{n:Int}(ho:AI own)(h0:0≤n)(h1:n<5000){a:X}{u0:Vl}{n0:Int}{u1:Vl}{n1:Int}{er:Nat}(k0:Bd e own (n+1) nmI ⟨[],[(((0:Nat):Int),1)],.pl⟩ 322 (.tab 3 a) (.ok (u0,n0)))(k1:Bd e own n0 nmI ⟨[],[(((1:Nat):Int),1)],.pl⟩ 322 (.tab 3 a) (.ok (u1,n1)))(kE:Bd e own n1 nmI ⟨[],[(((2:Nat):Int),1)],.pl⟩ 322 (.tab 3 a) (.error er)):Ev e 1 own n (.tab 3 a) (.error er):=
 Ar (r:=[a.c0,a.c1,a.c2,a.c3,a.c4,a.c5,Aq u0.sh,Ax u0.it,Al u0.dm,.int .i64 n0,Aq u1.sh,Ax u1.it,Al u1.dm,.int .i64 n1,.int .i64 (.ofNat er)]) ho (px a<|pv u0<|pi _<|pv u1<|pi _<|pi _<|rfl) (VI _ _) (Aa (Ac (AW 0 (by decide)) rfl rfl)<|Aa (Ac (AW 1 (by decide)) rfl rfl)<|Aa (Ac (AW 2 (by decide)) rfl rfl)<|Aa (Bd.idx (by decide) k0)<|Aa (Bd.idx (by decide) k1)<|Aa (Bd.idx (by decide) kE)<|Ad) (step_ok h0 (by omega) (decide_eq_false (by omega))) rfl rfl rfl rfl
theorem YP {e:En}{own:ME}{n:Int}(ho:AI own)(h0:0≤n)(h1:n<5000){a:X}{u0:Vl}{n0:Int}{u1:Vl}{n1:Int}{u2:Vl}{n2:Int}{w:Vl}(k0:Bd e own (n+1) nmI ⟨[],[(((0:Nat):Int),1)],.pl⟩ 322 (.tab 3 a) (.ok (u0,n0)))(k1:Bd e own n0 nmI ⟨[],[(((1:Nat):Int),1)],.pl⟩ 322 (.tab 3 a) (.ok (u1,n1)))(k2:Bd e own n1 nmI ⟨[],[(((2:Nat):Int),1)],.pl⟩ 322 (.tab 3 a) (.ok (u2,n2)))(hv:VF 269 [Dk [u0,u1,u2]] (.ret w.av)):Ev e 1 own n (.tab 3 a) (.ok (w,n2)):=
 Ar (r:=[a.c0,a.c1,a.c2,a.c3,a.c4,a.c5,Aq u0.sh,Ax u0.it,Al u0.dm,.int .i64 n0,Aq u1.sh,Ax u1.it,Al u1.dm,.int .i64 n1,Aq u2.sh,Ax u2.it,Al u2.dm,.int .i64 n2,Aq w.sh,Ax w.it,Al w.dm]) ho (px a<|pv u0<|pi _<|pv u1<|pi _<|pv u2<|pi _<|pv w<|rfl) (X8 _ _) (Aa (Ac (AW 0 (by decide)) rfl rfl)<|Aa (Ac (AW 1 (by decide)) rfl rfl)<|Aa (Ac (AW 2 (by decide)) rfl rfl)<|Aa (Bd.idx (by decide) k0)<|Aa (Bd.idx (by decide) k1)<|Aa (Bd.idx (by decide) k2)<|Aa hv<|Ad) (step_ok h0 (by omega) (decide_eq_false (by omega))) rfl rfl rfl rfl
theorem Ww {e:En}{own:ME}{n:Int}(ho:AI own)(h0:0≤n)(h1:n<5000){a:X}{er:Nat}(kE:Bd e own (n+1) nmI ⟨[],[(((0:Nat):Int),1)],.pl⟩ 322 (.sum 1 a) (.error er)):Ev e 1 own n (.sum 1 a) (.error er):=
 Ar (r:=[a.c0,a.c1,a.c2,a.c3,a.c4,a.c5,.int .i64 (.ofNat er)]) ho (px a<|pi _<|rfl) (XJ _ _) (Aa (Ac (AW 0 (by decide)) rfl rfl)<|Aa (Bd.idx (by decide) kE)<|Ad) (step_ok h0 (by omega) (decide_eq_false (by omega))) rfl rfl rfl rfl
theorem ZK {e:En}{own:ME}{n:Int}(ho:AI own)(h0:0≤n)(h1:n<5000){a:X}{u0:Vl}{n0:Int}{er:Nat}(k0:Bd e own (n+1) nmI ⟨[],[(((0:Nat):Int),1)],.pl⟩ 322 (.sum 1 a) (.ok (u0,n0)))(hv:VF 268 [Dk [u0]] (Cn er)):Ev e 1 own n (.sum 1 a) (.error er):=
 Ar (r:=[a.c0,a.c1,a.c2,a.c3,a.c4,a.c5,Aq u0.sh,Ax u0.it,Al u0.dm,.int .i64 n0,.int .i64 (.ofNat er)]) ho (px a<|pv u0<|pi _<|pi _<|rfl) (XV _ _) (Aa (Ac (AW 0 (by decide)) rfl rfl)<|Aa (Bd.idx (by decide) k0)<|Aa hv<|Ad) (step_ok h0 (by omega) (decide_eq_false (by omega))) rfl rfl rfl rfl
theorem Zu {e:En}{own:ME}{n:Int}(ho:AI own)(h0:0≤n)(h1:n<5000){a:X}{u0:Vl}{n0:Int}{w:Vl}(k0:Bd e own (n+1) nmI ⟨[],[(((0:Nat):Int),1)],.pl⟩ 322 (.sum 1 a) (.ok (u0,n0)))(hv:VF 268 [Dk [u0]] (.ret w.av)):Ev e 1 own n (.sum 1 a) (.ok (w,n0)):=
 Ar (r:=[a.c0,a.c1,a.c2,a.c3,a.c4,a.c5,Aq u0.sh,Ax u0.it,Al u0.dm,.int .i64 n0,Aq w.sh,Ax w.it,Al w.dm]) ho (px a<|pv u0<|pi _<|pv w<|rfl) (Zq _ _) (Aa (Ac (AW 0 (by decide)) rfl rfl)<|Aa (Bd.idx (by decide) k0)<|Aa hv<|Ad) (step_ok h0 (by omega) (decide_eq_false (by omega))) rfl rfl rfl rfl
theorem XC {e:En}{own:ME}{n:Int}(ho:AI own)(h0:0≤n)(h1:n<5000){a:X}{er:Nat}(kE:Bd e own (n+1) nmI ⟨[],[(((0:Nat):Int),1)],.pl⟩ 322 (.sum 2 a) (.error er)):Ev e 1 own n (.sum 2 a) (.error er):=
 Ar (r:=[a.c0,a.c1,a.c2,a.c3,a.c4,a.c5,.int .i64 (.ofNat er)]) ho (px a<|pi _<|rfl) (Wj _ _) (Aa (Ac (AW 0 (by decide)) rfl rfl)<|Aa (Ac (AW 1 (by decide)) rfl rfl)<|Aa (Bd.idx (by decide) kE)<|Ad) (step_ok h0 (by omega) (decide_eq_false (by omega))) rfl rfl rfl rfl
theorem Xb {e:En}{own:ME}{n:Int}(ho:AI own)(h0:0≤n)(h1:n<5000){a:X}{u0:Vl}{n0:Int}{er:Nat}(k0:Bd e own (n+1) nmI ⟨[],[(((0:Nat):Int),1)],.pl⟩ 322 (.sum 2 a) (.ok (u0,n0)))(kE:Bd e own n0 nmI ⟨[],[(((1:Nat):Int),1)],.pl⟩ 322 (.sum 2 a) (.error er)):Ev e 1 own n (.sum 2 a) (.error er):=
 Ar (r:=[a.c0,a.c1,a.c2,a.c3,a.c4,a.c5,Aq u0.sh,Ax u0.it,Al u0.dm,.int .i64 n0,.int .i64 (.ofNat er)]) ho (px a<|pv u0<|pi _<|pi _<|rfl) (V9 _ _) (Aa (Ac (AW 0 (by decide)) rfl rfl)<|Aa (Ac (AW 1 (by decide)) rfl rfl)<|Aa (Bd.idx (by decide) k0)<|Aa (Bd.idx (by decide) kE)<|Ad) (step_ok h0 (by omega) (decide_eq_false (by omega))) rfl rfl rfl rfl
theorem X4 {e:En}{own:ME}{n:Int}(ho:AI own)(h0:0≤n)(h1:n<5000){a:X}{u0:Vl}{n0:Int}{u1:Vl}{n1:Int}{er:Nat}(k0:Bd e own (n+1) nmI ⟨[],[(((0:Nat):Int),1)],.pl⟩ 322 (.sum 2 a) (.ok (u0,n0)))(k1:Bd e own n0 nmI ⟨[],[(((1:Nat):Int),1)],.pl⟩ 322 (.sum 2 a) (.ok (u1,n1)))(hv:VF 268 [Dk [u0,u1]] (Cn er)):Ev e 1 own n (.sum 2 a) (.error er):=
 Ar (r:=[a.c0,a.c1,a.c2,a.c3,a.c4,a.c5,Aq u0.sh,Ax u0.it,Al u0.dm,.int .i64 n0,Aq u1.sh,Ax u1.it,Al u1.dm,.int .i64 n1,.int .i64 (.ofNat er)]) ho (px a<|pv u0<|pi _<|pv u1<|pi _<|pi _<|rfl) (Zz _ _) (Aa (Ac (AW 0 (by decide)) rfl rfl)<|Aa (Ac (AW 1 (by decide)) rfl rfl)<|Aa (Bd.idx (by decide) k0)<|Aa (Bd.idx (by decide) k1)<|Aa hv<|Ad) (step_ok h0 (by omega) (decide_eq_false (by omega))) rfl rfl rfl rfl
theorem Ys {e:En}{own:ME}{n:Int}(ho:AI own)(h0:0≤n)(h1:n<5000){a:X}{u0:Vl}{n0:Int}{u1:Vl}{n1:Int}{w:Vl}(k0:Bd e own (n+1) nmI ⟨[],[(((0:Nat):Int),1)],.pl⟩ 322 (.sum 2 a) (.ok (u0,n0)))(k1:Bd e own n0 nmI ⟨[],[(((1:Nat):Int),1)],.pl⟩ 322 (.sum 2 a) (.ok (u1,n1)))(hv:VF 268 [Dk [u0,u1]] (.ret w.av)):Ev e 1 own n (.sum 2 a) (.ok (w,n1)):=
 Ar (r:=[a.c0,a.c1,a.c2,a.c3,a.c4,a.c5,Aq u0.sh,Ax u0.it,Al u0.dm,.int .i64 n0,Aq u1.sh,Ax u1.it,Al u1.dm,.int .i64 n1,Aq w.sh,Ax w.it,Al w.dm]) ho (px a<|pv u0<|pi _<|pv u1<|pi _<|pv w<|rfl) (Aag _ _) (Aa (Ac (AW 0 (by decide)) rfl rfl)<|Aa (Ac (AW 1 (by decide)) rfl rfl)<|Aa (Bd.idx (by decide) k0)<|Aa (Bd.idx (by decide) k1)<|Aa hv<|Ad) (step_ok h0 (by omega) (decide_eq_false (by omega))) rfl rfl rfl rfl
theorem Wx {e:En}{own:ME}{n:Int}(ho:AI own)(h0:0≤n)(h1:n<5000){a:X}{er:Nat}(kE:Bd e own (n+1) nmI ⟨[],[(((0:Nat):Int),1)],.pl⟩ 322 (.sum 3 a) (.error er)):Ev e 1 own n (.sum 3 a) (.error er):=
 Ar (r:=[a.c0,a.c1,a.c2,a.c3,a.c4,a.c5,.int .i64 (.ofNat er)]) ho (px a<|pi _<|rfl) (We _ _) (Aa (Ac (AW 0 (by decide)) rfl rfl)<|Aa (Ac (AW 1 (by decide)) rfl rfl)<|Aa (Ac (AW 2 (by decide)) rfl rfl)<|Aa (Bd.idx (by decide) kE)<|Ad) (step_ok h0 (by omega) (decide_eq_false (by omega))) rfl rfl rfl rfl
theorem XF {e:En}{own:ME}{n:Int}(ho:AI own)(h0:0≤n)(h1:n<5000){a:X}{u0:Vl}{n0:Int}{er:Nat}(k0:Bd e own (n+1) nmI ⟨[],[(((0:Nat):Int),1)],.pl⟩ 322 (.sum 3 a) (.ok (u0,n0)))(kE:Bd e own n0 nmI ⟨[],[(((1:Nat):Int),1)],.pl⟩ 322 (.sum 3 a) (.error er)):Ev e 1 own n (.sum 3 a) (.error er):=
 Ar (r:=[a.c0,a.c1,a.c2,a.c3,a.c4,a.c5,Aq u0.sh,Ax u0.it,Al u0.dm,.int .i64 n0,.int .i64 (.ofNat er)]) ho (px a<|pv u0<|pi _<|pi _<|rfl) (WA _ _) (Aa (Ac (AW 0 (by decide)) rfl rfl)<|Aa (Ac (AW 1 (by decide)) rfl rfl)<|Aa (Ac (AW 2 (by decide)) rfl rfl)<|Aa (Bd.idx (by decide) k0)<|Aa (Bd.idx (by decide) kE)<|Ad) (step_ok h0 (by omega) (decide_eq_false (by omega))) rfl rfl rfl rfl
theorem V7 {e:En}{own:ME}{n:Int}(ho:AI own)(h0:0≤n)(h1:n<5000){a:X}{u0:Vl}{n0:Int}{u1:Vl}{n1:Int}{er:Nat}(k0:Bd e own (n+1) nmI ⟨[],[(((0:Nat):Int),1)],.pl⟩ 322 (.sum 3 a) (.ok (u0,n0)))(k1:Bd e own n0 nmI ⟨[],[(((1:Nat):Int),1)],.pl⟩ 322 (.sum 3 a) (.ok (u1,n1)))(kE:Bd e own n1 nmI ⟨[],[(((2:Nat):Int),1)],.pl⟩ 322 (.sum 3 a) (.error er)):Ev e 1 own n (.sum 3 a) (.error er):=
 Ar (r:=[a.c0,a.c1,a.c2,a.c3,a.c4,a.c5,Aq u0.sh,Ax u0.it,Al u0.dm,.int .i64 n0,Aq u1.sh,Ax u1.it,Al u1.dm,.int .i64 n1,.int .i64 (.ofNat er)]) ho (px a<|pv u0<|pi _<|pv u1<|pi _<|pi _<|rfl) (Wy _ _) (Aa (Ac (AW 0 (by decide)) rfl rfl)<|Aa (Ac (AW 1 (by decide)) rfl rfl)<|Aa (Ac (AW 2 (by decide)) rfl rfl)<|Aa (Bd.idx (by decide) k0)<|Aa (Bd.idx (by decide) k1)<|Aa (Bd.idx (by decide) kE)<|Ad) (step_ok h0 (by omega) (decide_eq_false (by omega))) rfl rfl rfl rfl
theorem ZQ {e:En}{own:ME}{n:Int}(ho:AI own)(h0:0≤n)(h1:n<5000){a:X}{u0:Vl}{n0:Int}{u1:Vl}{n1:Int}{u2:Vl}{n2:Int}{er:Nat}(k0:Bd e own (n+1) nmI ⟨[],[(((0:Nat):Int),1)],.pl⟩ 322 (.sum 3 a) (.ok (u0,n0)))(k1:Bd e own n0 nmI ⟨[],[(((1:Nat):Int),1)],.pl⟩ 322 (.sum 3 a) (.ok (u1,n1)))(k2:Bd e own n1 nmI ⟨[],[(((2:Nat):Int),1)],.pl⟩ 322 (.sum 3 a) (.ok (u2,n2)))(hv:VF 268 [Dk [u0,u1,u2]] (Cn er)):Ev e 1 own n (.sum 3 a) (.error er):=
 Ar (r:=[a.c0,a.c1,a.c2,a.c3,a.c4,a.c5,Aq u0.sh,Ax u0.it,Al u0.dm,.int .i64 n0,Aq u1.sh,Ax u1.it,Al u1.dm,.int .i64 n1,Aq u2.sh,Ax u2.it,Al u2.dm,.int .i64 n2,.int .i64 (.ofNat er)]) ho (px a<|pv u0<|pi _<|pv u1<|pi _<|pv u2<|pi _<|pi _<|rfl) (Z8 _ _) (Aa (Ac (AW 0 (by decide)) rfl rfl)<|Aa (Ac (AW 1 (by decide)) rfl rfl)<|Aa (Ac (AW 2 (by decide)) rfl rfl)<|Aa (Bd.idx (by decide) k0)<|Aa (Bd.idx (by decide) k1)<|Aa (Bd.idx (by decide) k2)<|Aa hv<|Ad) (step_ok h0 (by omega) (decide_eq_false (by omega))) rfl rfl rfl rfl
theorem ZJ {e:En}{own:ME}{n:Int}(ho:AI own)(h0:0≤n)(h1:n<5000){a:X}{u0:Vl}{n0:Int}{u1:Vl}{n1:Int}{u2:Vl}{n2:Int}{w:Vl}(k0:Bd e own (n+1) nmI ⟨[],[(((0:Nat):Int),1)],.pl⟩ 322 (.sum 3 a) (.ok (u0,n0)))(k1:Bd e own n0 nmI ⟨[],[(((1:Nat):Int),1)],.pl⟩ 322 (.sum 3 a) (.ok (u1,n1)))(k2:Bd e own n1 nmI ⟨[],[(((2:Nat):Int),1)],.pl⟩ 322 (.sum 3 a) (.ok (u2,n2)))(hv:VF 268 [Dk [u0,u1,u2]] (.ret w.av)):Ev e 1 own n (.sum 3 a) (.ok (w,n2)):=
 Ar (r:=[a.c0,a.c1,a.c2,a.c3,a.c4,a.c5,Aq u0.sh,Ax u0.it,Al u0.dm,.int .i64 n0,Aq u1.sh,Ax u1.it,Al u1.dm,.int .i64 n1,Aq u2.sh,Ax u2.it,Al u2.dm,.int .i64 n2,Aq w.sh,Ax w.it,Al w.dm]) ho (px a<|pv u0<|pi _<|pv u1<|pi _<|pv u2<|pi _<|pv w<|rfl) (Yg _ _) (Aa (Ac (AW 0 (by decide)) rfl rfl)<|Aa (Ac (AW 1 (by decide)) rfl rfl)<|Aa (Ac (AW 2 (by decide)) rfl rfl)<|Aa (Bd.idx (by decide) k0)<|Aa (Bd.idx (by decide) k1)<|Aa (Bd.idx (by decide) k2)<|Aa hv<|Ad) (step_ok h0 (by omega) (decide_eq_false (by omega))) rfl rfl rfl rfl
theorem WM {e:En}{own:ME}{n:Int}(ho:AI own)(h0:0≤n)(h1:n<5000){a:X}{er:Nat}(kE:Bd e own (n+1) nmI ⟨[],[(((0:Nat):Int),1)],.pl⟩ 322 (.sum 4 a) (.error er)):Ev e 1 own n (.sum 4 a) (.error er):=
 Ar (r:=[a.c0,a.c1,a.c2,a.c3,a.c4,a.c5,.int .i64 (.ofNat er)]) ho (px a<|pi _<|rfl) (WK _ _) (Aa (Ac (AW 0 (by decide)) rfl rfl)<|Aa (Ac (AW 1 (by decide)) rfl rfl)<|Aa (Ac (AW 2 (by decide)) rfl rfl)<|Aa (Ac (AW 3 (by decide)) rfl rfl)<|Aa (Bd.idx (by decide) kE)<|Ad) (step_ok h0 (by omega) (decide_eq_false (by omega))) rfl rfl rfl rfl
theorem V1 {e:En}{own:ME}{n:Int}(ho:AI own)(h0:0≤n)(h1:n<5000){a:X}{u0:Vl}{n0:Int}{er:Nat}(k0:Bd e own (n+1) nmI ⟨[],[(((0:Nat):Int),1)],.pl⟩ 322 (.sum 4 a) (.ok (u0,n0)))(kE:Bd e own n0 nmI ⟨[],[(((1:Nat):Int),1)],.pl⟩ 322 (.sum 4 a) (.error er)):Ev e 1 own n (.sum 4 a) (.error er):=
 Ar (r:=[a.c0,a.c1,a.c2,a.c3,a.c4,a.c5,Aq u0.sh,Ax u0.it,Al u0.dm,.int .i64 n0,.int .i64 (.ofNat er)]) ho (px a<|pv u0<|pi _<|pi _<|rfl) (XI _ _) (Aa (Ac (AW 0 (by decide)) rfl rfl)<|Aa (Ac (AW 1 (by decide)) rfl rfl)<|Aa (Ac (AW 2 (by decide)) rfl rfl)<|Aa (Ac (AW 3 (by decide)) rfl rfl)<|Aa (Bd.idx (by decide) k0)<|Aa (Bd.idx (by decide) kE)<|Ad) (step_ok h0 (by omega) (decide_eq_false (by omega))) rfl rfl rfl rfl
theorem WZ {e:En}{own:ME}{n:Int}(ho:AI own)(h0:0≤n)(h1:n<5000){a:X}{u0:Vl}{n0:Int}{u1:Vl}{n1:Int}{er:Nat}(k0:Bd e own (n+1) nmI ⟨[],[(((0:Nat):Int),1)],.pl⟩ 322 (.sum 4 a) (.ok (u0,n0)))(k1:Bd e own n0 nmI ⟨[],[(((1:Nat):Int),1)],.pl⟩ 322 (.sum 4 a) (.ok (u1,n1)))(kE:Bd e own n1 nmI ⟨[],[(((2:Nat):Int),1)],.pl⟩ 322 (.sum 4 a) (.error er)):Ev e 1 own n (.sum 4 a) (.error er):=
 Ar (r:=[a.c0,a.c1,a.c2,a.c3,a.c4,a.c5,Aq u0.sh,Ax u0.it,Al u0.dm,.int .i64 n0,Aq u1.sh,Ax u1.it,Al u1.dm,.int .i64 n1,.int .i64 (.ofNat er)]) ho (px a<|pv u0<|pi _<|pv u1<|pi _<|pi _<|rfl) (VH _ _) (Aa (Ac (AW 0 (by decide)) rfl rfl)<|Aa (Ac (AW 1 (by decide)) rfl rfl)<|Aa (Ac (AW 2 (by decide)) rfl rfl)<|Aa (Ac (AW 3 (by decide)) rfl rfl)<|Aa (Bd.idx (by decide) k0)<|Aa (Bd.idx (by decide) k1)<|Aa (Bd.idx (by decide) kE)<|Ad) (step_ok h0 (by omega) (decide_eq_false (by omega))) rfl rfl rfl rfl
theorem Wz {e:En}{own:ME}{n:Int}(ho:AI own)(h0:0≤n)(h1:n<5000){a:X}{u0:Vl}{n0:Int}{u1:Vl}{n1:Int}{u2:Vl}{n2:Int}{er:Nat}(k0:Bd e own (n+1) nmI ⟨[],[(((0:Nat):Int),1)],.pl⟩ 322 (.sum 4 a) (.ok (u0,n0)))(k1:Bd e own n0 nmI ⟨[],[(((1:Nat):Int),1)],.pl⟩ 322 (.sum 4 a) (.ok (u1,n1)))(k2:Bd e own n1 nmI ⟨[],[(((2:Nat):Int),1)],.pl⟩ 322 (.sum 4 a) (.ok (u2,n2)))(kE:Bd e own n2 nmI ⟨[],[(((3:Nat):Int),1)],.pl⟩ 322 (.sum 4 a) (.error er)):Ev e 1 own n (.sum 4 a) (.error er):=
 Ar (r:=[a.c0,a.c1,a.c2,a.c3,a.c4,a.c5,Aq u0.sh,Ax u0.it,Al u0.dm,.int .i64 n0,Aq u1.sh,Ax u1.it,Al u1.dm,.int .i64 n1,Aq u2.sh,Ax u2.it,Al u2.dm,.int .i64 n2,.int .i64 (.ofNat er)]) ho (px a<|pv u0<|pi _<|pv u1<|pi _<|pv u2<|pi _<|pi _<|rfl) (Wp _ _) (Aa (Ac (AW 0 (by decide)) rfl rfl)<|Aa (Ac (AW 1 (by decide)) rfl rfl)<|Aa (Ac (AW 2 (by decide)) rfl rfl)<|Aa (Ac (AW 3 (by decide)) rfl rfl)<|Aa (Bd.idx (by decide) k0)<|Aa (Bd.idx (by decide) k1)<|Aa (Bd.idx (by decide) k2)<|Aa (Bd.idx (by decide) kE)<|Ad) (step_ok h0 (by omega) (decide_eq_false (by omega))) rfl rfl rfl rfl
theorem AaG {e:En}{own:ME}{n:Int}(ho:AI own)(h0:0≤n)(h1:n<5000){a:X}{u0:Vl}{n0:Int}{u1:Vl}{n1:Int}{u2:Vl}{n2:Int}{u3:Vl}{n3:Int}{er:Nat}(k0:Bd e own (n+1) nmI ⟨[],[(((0:Nat):Int),1)],.pl⟩ 322 (.sum 4 a) (.ok (u0,n0)))(k1:Bd e own n0 nmI ⟨[],[(((1:Nat):Int),1)],.pl⟩ 322 (.sum 4 a) (.ok (u1,n1)))(k2:Bd e own n1 nmI ⟨[],[(((2:Nat):Int),1)],.pl⟩ 322 (.sum 4 a) (.ok (u2,n2)))(k3:Bd e own n2 nmI ⟨[],[(((3:Nat):Int),1)],.pl⟩ 322 (.sum 4 a) (.ok (u3,n3)))(hv:VF 268 [Dk [u0,u1,u2,u3]] (Cn er)):Ev e 1 own n (.sum 4 a) (.error er):=
 Ar (r:=[a.c0,a.c1,a.c2,a.c3,a.c4,a.c5,Aq u0.sh,Ax u0.it,Al u0.dm,.int .i64 n0,Aq u1.sh,Ax u1.it,Al u1.dm,.int .i64 n1,Aq u2.sh,Ax u2.it,Al u2.dm,.int .i64 n2,Aq u3.sh,Ax u3.it,Al u3.dm,.int .i64 n3,.int .i64 (.ofNat er)]) ho (px a<|pv u0<|pi _<|pv u1<|pi _<|pv u2<|pi _<|pv u3<|pi _<|pi _<|rfl) (ZU _ _) (Aa (Ac (AW 0 (by decide)) rfl rfl)<|Aa (Ac (AW 1 (by decide)) rfl rfl)<|Aa (Ac (AW 2 (by decide)) rfl rfl)<|Aa (Ac (AW 3 (by decide)) rfl rfl)<|Aa (Bd.idx (by decide) k0)<|Aa (Bd.idx (by decide) k1)<|Aa (Bd.idx (by decide) k2)<|Aa (Bd.idx (by decide) k3)<|Aa hv<|Ad) (step_ok h0 (by omega) (decide_eq_false (by omega))) rfl rfl rfl rfl
theorem AaH {e:En}{own:ME}{n:Int}(ho:AI own)(h0:0≤n)(h1:n<5000){a:X}{u0:Vl}{n0:Int}{u1:Vl}{n1:Int}{u2:Vl}{n2:Int}{u3:Vl}{n3:Int}{w:Vl}(k0:Bd e own (n+1) nmI ⟨[],[(((0:Nat):Int),1)],.pl⟩ 322 (.sum 4 a) (.ok (u0,n0)))(k1:Bd e own n0 nmI ⟨[],[(((1:Nat):Int),1)],.pl⟩ 322 (.sum 4 a) (.ok (u1,n1)))(k2:Bd e own n1 nmI ⟨[],[(((2:Nat):Int),1)],.pl⟩ 322 (.sum 4 a) (.ok (u2,n2)))(k3:Bd e own n2 nmI ⟨[],[(((3:Nat):Int),1)],.pl⟩ 322 (.sum 4 a) (.ok (u3,n3)))(hv:VF 268 [Dk [u0,u1,u2,u3]] (.ret w.av)):Ev e 1 own n (.sum 4 a) (.ok (w,n3)):=
 Ar (r:=[a.c0,a.c1,a.c2,a.c3,a.c4,a.c5,Aq u0.sh,Ax u0.it,Al u0.dm,.int .i64 n0,Aq u1.sh,Ax u1.it,Al u1.dm,.int .i64 n1,Aq u2.sh,Ax u2.it,Al u2.dm,.int .i64 n2,Aq u3.sh,Ax u3.it,Al u3.dm,.int .i64 n3,Aq w.sh,Ax w.it,Al w.dm]) ho (px a<|pv u0<|pi _<|pv u1<|pi _<|pv u2<|pi _<|pv u3<|pi _<|pv w<|rfl) (Y8 _ _) (Aa (Ac (AW 0 (by decide)) rfl rfl)<|Aa (Ac (AW 1 (by decide)) rfl rfl)<|Aa (Ac (AW 2 (by decide)) rfl rfl)<|Aa (Ac (AW 3 (by decide)) rfl rfl)<|Aa (Bd.idx (by decide) k0)<|Aa (Bd.idx (by decide) k1)<|Aa (Bd.idx (by decide) k2)<|Aa (Bd.idx (by decide) k3)<|Aa hv<|Ad) (step_ok h0 (by omega) (decide_eq_false (by omega))) rfl rfl rfl rfl
theorem QY {e:En}{own:ME}{n:Int}(ho:AI own)(h0:0≤n)(h1:n<5000){a b c d:X}{er:Nat}(kE:Ev e 1 own (n+1) a (.error er)):Ev e 1 own n (.ite a b c d) (.error er):=
 Ar (r:=[a.c0,a.c1,a.c2,a.c3,a.c4,a.c5,b.c0,b.c1,b.c2,b.c3,b.c4,b.c5,c.c0,c.c1,c.c2,c.c3,c.c4,c.c5,d.c0,d.c1,d.c2,d.c3,d.c4,d.c5,.int .i64 (.ofNat er)]) ho (px a<|px b<|px c<|px d<|pi _<|rfl) (Qr _ _) (Aa kE<|Ad) (step_ok h0 (by omega) (decide_eq_false (by omega))) rfl rfl rfl rfl
theorem Ru {e:En}{own:ME}{n:Int}(ho:AI own)(h0:0≤n)(h1:n<5000){a b c d:X}{p:Q}{n0:Int}{er:Nat}(k0:Ev e 1 own (n+1) a (.ok (⟨[],[p],.pl⟩,n0)))(kE:Ev e 1 own n0 b (.error er)):Ev e 1 own n (.ite a b c d) (.error er):=
 Ar (r:=[a.c0,a.c1,a.c2,a.c3,a.c4,a.c5,b.c0,b.c1,b.c2,b.c3,b.c4,b.c5,c.c0,c.c1,c.c2,c.c3,c.c4,c.c5,d.c0,d.c1,d.c2,d.c3,d.c4,d.c5,sg p.1,lm p.1,sg p.2,lm p.2,.int .i64 n0,.int .i64 (.ofNat er)]) ho (px a<|px b<|px c<|px d<|pq p<|pi _<|pi _<|rfl) (RQ _ _) (Aa k0<|Aa kE<|Ad) (step_ok h0 (by omega) (decide_eq_false (by omega))) rfl rfl rfl rfl
theorem R6 {e:En}{own:ME}{n:Int}(ho:AI own)(h0:0≤n)(h1:n<5000){a b c d:X}{p q:Q}{n0 n1:Int}{er:Nat}(k0:Ev e 1 own (n+1) a (.ok (⟨[],[p],.pl⟩,n0)))(k1:Ev e 1 own n0 b (.ok (⟨[],[q],.pl⟩,n1)))(hp:Ok p)(hq:Ok q)(hl:decide (p.1*q.2<q.1*p.2)=true)(kE:Ev e 1 own n1 c (.error er)):Ev e 1 own n (.ite a b c d) (.error er):=
 Ar (r:=[a.c0,a.c1,a.c2,a.c3,a.c4,a.c5,b.c0,b.c1,b.c2,b.c3,b.c4,b.c5,c.c0,c.c1,c.c2,c.c3,c.c4,c.c5,d.c0,d.c1,d.c2,d.c3,d.c4,d.c5,sg p.1,lm p.1,sg p.2,lm p.2,.int .i64 n0,sg q.1,lm q.1,sg q.2,lm q.2,.int .i64 n1,.int .i64 (BC (p.1*q.2) (q.1*p.2)),.int .i64 (.ofNat er)]) ho (px a<|px b<|px c<|px d<|pq p<|pi _<|pq q<|pi _<|pi _<|pi _<|rfl) (Sm _ _) (Af (BS _ _) (Aa k0<|Aa k1<|Aa (Ac (C1 hp.st hq.st) rfl rfl)<|Aa kE<|Ad)) (Aa (Cf _ _ rfl rfl (by rw[←hl];exact decide_eq_decide.2 (CC _ _))) (step_ok h0 (by omega) (decide_eq_false (by omega)))) rfl rfl rfl rfl
theorem Rk {e:En}{own:ME}{n:Int}(ho:AI own)(h0:0≤n)(h1:n<5000){a b c d:X}{p q:Q}{n0 n1:Int}{w:Vl}{n2:Int}(k0:Ev e 1 own (n+1) a (.ok (⟨[],[p],.pl⟩,n0)))(k1:Ev e 1 own n0 b (.ok (⟨[],[q],.pl⟩,n1)))(hp:Ok p)(hq:Ok q)(hl:decide (p.1*q.2<q.1*p.2)=true)(kK:Ev e 1 own n1 c (.ok (w,n2))):Ev e 1 own n (.ite a b c d) (.ok (w,n2)):=
 Ar (r:=[a.c0,a.c1,a.c2,a.c3,a.c4,a.c5,b.c0,b.c1,b.c2,b.c3,b.c4,b.c5,c.c0,c.c1,c.c2,c.c3,c.c4,c.c5,d.c0,d.c1,d.c2,d.c3,d.c4,d.c5,sg p.1,lm p.1,sg p.2,lm p.2,.int .i64 n0,sg q.1,lm q.1,sg q.2,lm q.2,.int .i64 n1,.int .i64 (BC (p.1*q.2) (q.1*p.2)),Aq w.sh,Ax w.it,Al w.dm,.int .i64 n2]) ho (px a<|px b<|px c<|px d<|pq p<|pi _<|pq q<|pi _<|pi _<|pv w<|pi _<|rfl) (Sg _ _) (Af (BS _ _) (Aa k0<|Aa k1<|Aa (Ac (C1 hp.st hq.st) rfl rfl)<|Aa kK<|Ad)) (Aa (Cf _ _ rfl rfl (by rw[←hl];exact decide_eq_decide.2 (CC _ _))) (step_ok h0 (by omega) (decide_eq_false (by omega)))) rfl rfl rfl rfl
theorem Q9 {e:En}{own:ME}{n:Int}(ho:AI own)(h0:0≤n)(h1:n<5000){a b c d:X}{p q:Q}{n0 n1:Int}{er:Nat}(k0:Ev e 1 own (n+1) a (.ok (⟨[],[p],.pl⟩,n0)))(k1:Ev e 1 own n0 b (.ok (⟨[],[q],.pl⟩,n1)))(hp:Ok p)(hq:Ok q)(hl:decide (p.1*q.2<q.1*p.2)=false)(kE:Ev e 1 own n1 d (.error er)):Ev e 1 own n (.ite a b c d) (.error er):=
 Ar (r:=[a.c0,a.c1,a.c2,a.c3,a.c4,a.c5,b.c0,b.c1,b.c2,b.c3,b.c4,b.c5,c.c0,c.c1,c.c2,c.c3,c.c4,c.c5,d.c0,d.c1,d.c2,d.c3,d.c4,d.c5,sg p.1,lm p.1,sg p.2,lm p.2,.int .i64 n0,sg q.1,lm q.1,sg q.2,lm q.2,.int .i64 n1,.int .i64 (BC (p.1*q.2) (q.1*p.2)),.int .i64 (.ofNat er)]) ho (px a<|px b<|px c<|px d<|pq p<|pi _<|pq q<|pi _<|pi _<|pi _<|rfl) (RF _ _) (Af (BS _ _) (Aa k0<|Aa k1<|Aa (Ac (C1 hp.st hq.st) rfl rfl)<|Aa kE<|Ad)) (Aa (Cf _ _ rfl rfl (by rw[←hl];exact decide_eq_decide.2 (CC _ _))) (step_ok h0 (by omega) (decide_eq_false (by omega)))) rfl rfl rfl rfl
theorem R2 {e:En}{own:ME}{n:Int}(ho:AI own)(h0:0≤n)(h1:n<5000){a b c d:X}{p q:Q}{n0 n1:Int}{w:Vl}{n2:Int}(k0:Ev e 1 own (n+1) a (.ok (⟨[],[p],.pl⟩,n0)))(k1:Ev e 1 own n0 b (.ok (⟨[],[q],.pl⟩,n1)))(hp:Ok p)(hq:Ok q)(hl:decide (p.1*q.2<q.1*p.2)=false)(kK:Ev e 1 own n1 d (.ok (w,n2))):Ev e 1 own n (.ite a b c d) (.ok (w,n2)):=
 Ar (r:=[a.c0,a.c1,a.c2,a.c3,a.c4,a.c5,b.c0,b.c1,b.c2,b.c3,b.c4,b.c5,c.c0,c.c1,c.c2,c.c3,c.c4,c.c5,d.c0,d.c1,d.c2,d.c3,d.c4,d.c5,sg p.1,lm p.1,sg p.2,lm p.2,.int .i64 n0,sg q.1,lm q.1,sg q.2,lm q.2,.int .i64 n1,.int .i64 (BC (p.1*q.2) (q.1*p.2)),Aq w.sh,Ax w.it,Al w.dm,.int .i64 n2]) ho (px a<|px b<|px c<|px d<|pq p<|pi _<|pq q<|pi _<|pi _<|pv w<|pi _<|rfl) (Sb _ _) (Af (BS _ _) (Aa k0<|Aa k1<|Aa (Ac (C1 hp.st hq.st) rfl rfl)<|Aa kK<|Ad)) (Aa (Cf _ _ rfl rfl (by rw[←hl];exact decide_eq_decide.2 (CC _ _))) (step_ok h0 (by omega) (decide_eq_false (by omega)))) rfl rfl rfl rfl
theorem TT {e:En}{own:ME}{n:Int}(ho:AI own)(h0:0≤n)(h1:n<5000){a b c d:X}{p:Q}{n0:Int}{er:Nat}(k0:Ev e 1 own (n+1) a (.ok (⟨[],[p],.m⟩,n0)))(kE:Ev e 1 own n0 b (.error er)):Ev e 1 own n (.ite a b c d) (.error er):=
 Ar (r:=[a.c0,a.c1,a.c2,a.c3,a.c4,a.c5,b.c0,b.c1,b.c2,b.c3,b.c4,b.c5,c.c0,c.c1,c.c2,c.c3,c.c4,c.c5,d.c0,d.c1,d.c2,d.c3,d.c4,d.c5,sg p.1,lm p.1,sg p.2,lm p.2,.int .i64 n0,.int .i64 (.ofNat er)]) ho (px a<|px b<|px c<|px d<|pq p<|pi _<|pi _<|rfl) (SL _ _) (Aa k0<|Aa kE<|Ad) (step_ok h0 (by omega) (decide_eq_false (by omega))) rfl rfl rfl rfl
theorem To {e:En}{own:ME}{n:Int}(ho:AI own)(h0:0≤n)(h1:n<5000){a b c d:X}{p q:Q}{n0 n1:Int}{er:Nat}(k0:Ev e 1 own (n+1) a (.ok (⟨[],[p],.m⟩,n0)))(k1:Ev e 1 own n0 b (.ok (⟨[],[q],.m⟩,n1)))(hp:Ok p)(hq:Ok q)(hl:decide (p.1*q.2<q.1*p.2)=true)(kE:Ev e 1 own n1 c (.error er)):Ev e 1 own n (.ite a b c d) (.error er):=
 Ar (r:=[a.c0,a.c1,a.c2,a.c3,a.c4,a.c5,b.c0,b.c1,b.c2,b.c3,b.c4,b.c5,c.c0,c.c1,c.c2,c.c3,c.c4,c.c5,d.c0,d.c1,d.c2,d.c3,d.c4,d.c5,sg p.1,lm p.1,sg p.2,lm p.2,.int .i64 n0,sg q.1,lm q.1,sg q.2,lm q.2,.int .i64 n1,.int .i64 (BC (p.1*q.2) (q.1*p.2)),.int .i64 (.ofNat er)]) ho (px a<|px b<|px c<|px d<|pq p<|pi _<|pq q<|pi _<|pi _<|pi _<|rfl) (SJ _ _) (Af (BS _ _) (Aa k0<|Aa k1<|Aa (Ac (C1 hp.st hq.st) rfl rfl)<|Aa kE<|Ad)) (Aa (Cf _ _ rfl rfl (by rw[←hl];exact decide_eq_decide.2 (CC _ _))) (step_ok h0 (by omega) (decide_eq_false (by omega)))) rfl rfl rfl rfl
theorem TF {e:En}{own:ME}{n:Int}(ho:AI own)(h0:0≤n)(h1:n<5000){a b c d:X}{p q:Q}{n0 n1:Int}{w:Vl}{n2:Int}(k0:Ev e 1 own (n+1) a (.ok (⟨[],[p],.m⟩,n0)))(k1:Ev e 1 own n0 b (.ok (⟨[],[q],.m⟩,n1)))(hp:Ok p)(hq:Ok q)(hl:decide (p.1*q.2<q.1*p.2)=true)(kK:Ev e 1 own n1 c (.ok (w,n2))):Ev e 1 own n (.ite a b c d) (.ok (w,n2)):=
 Ar (r:=[a.c0,a.c1,a.c2,a.c3,a.c4,a.c5,b.c0,b.c1,b.c2,b.c3,b.c4,b.c5,c.c0,c.c1,c.c2,c.c3,c.c4,c.c5,d.c0,d.c1,d.c2,d.c3,d.c4,d.c5,sg p.1,lm p.1,sg p.2,lm p.2,.int .i64 n0,sg q.1,lm q.1,sg q.2,lm q.2,.int .i64 n1,.int .i64 (BC (p.1*q.2) (q.1*p.2)),Aq w.sh,Ax w.it,Al w.dm,.int .i64 n2]) ho (px a<|px b<|px c<|px d<|pq p<|pi _<|pq q<|pi _<|pi _<|pv w<|pi _<|rfl) (SO _ _) (Af (BS _ _) (Aa k0<|Aa k1<|Aa (Ac (C1 hp.st hq.st) rfl rfl)<|Aa kK<|Ad)) (Aa (Cf _ _ rfl rfl (by rw[←hl];exact decide_eq_decide.2 (CC _ _))) (step_ok h0 (by omega) (decide_eq_false (by omega)))) rfl rfl rfl rfl
theorem TM {e:En}{own:ME}{n:Int}(ho:AI own)(h0:0≤n)(h1:n<5000){a b c d:X}{p q:Q}{n0 n1:Int}{er:Nat}(k0:Ev e 1 own (n+1) a (.ok (⟨[],[p],.m⟩,n0)))(k1:Ev e 1 own n0 b (.ok (⟨[],[q],.m⟩,n1)))(hp:Ok p)(hq:Ok q)(hl:decide (p.1*q.2<q.1*p.2)=false)(kE:Ev e 1 own n1 d (.error er)):Ev e 1 own n (.ite a b c d) (.error er):=
 Ar (r:=[a.c0,a.c1,a.c2,a.c3,a.c4,a.c5,b.c0,b.c1,b.c2,b.c3,b.c4,b.c5,c.c0,c.c1,c.c2,c.c3,c.c4,c.c5,d.c0,d.c1,d.c2,d.c3,d.c4,d.c5,sg p.1,lm p.1,sg p.2,lm p.2,.int .i64 n0,sg q.1,lm q.1,sg q.2,lm q.2,.int .i64 n1,.int .i64 (BC (p.1*q.2) (q.1*p.2)),.int .i64 (.ofNat er)]) ho (px a<|px b<|px c<|px d<|pq p<|pi _<|pq q<|pi _<|pi _<|pi _<|rfl) (Uc _ _) (Af (BS _ _) (Aa k0<|Aa k1<|Aa (Ac (C1 hp.st hq.st) rfl rfl)<|Aa kE<|Ad)) (Aa (Cf _ _ rfl rfl (by rw[←hl];exact decide_eq_decide.2 (CC _ _))) (step_ok h0 (by omega) (decide_eq_false (by omega)))) rfl rfl rfl rfl
theorem S1 {e:En}{own:ME}{n:Int}(ho:AI own)(h0:0≤n)(h1:n<5000){a b c d:X}{p q:Q}{n0 n1:Int}{w:Vl}{n2:Int}(k0:Ev e 1 own (n+1) a (.ok (⟨[],[p],.m⟩,n0)))(k1:Ev e 1 own n0 b (.ok (⟨[],[q],.m⟩,n1)))(hp:Ok p)(hq:Ok q)(hl:decide (p.1*q.2<q.1*p.2)=false)(kK:Ev e 1 own n1 d (.ok (w,n2))):Ev e 1 own n (.ite a b c d) (.ok (w,n2)):=
 Ar (r:=[a.c0,a.c1,a.c2,a.c3,a.c4,a.c5,b.c0,b.c1,b.c2,b.c3,b.c4,b.c5,c.c0,c.c1,c.c2,c.c3,c.c4,c.c5,d.c0,d.c1,d.c2,d.c3,d.c4,d.c5,sg p.1,lm p.1,sg p.2,lm p.2,.int .i64 n0,sg q.1,lm q.1,sg q.2,lm q.2,.int .i64 n1,.int .i64 (BC (p.1*q.2) (q.1*p.2)),Aq w.sh,Ax w.it,Al w.dm,.int .i64 n2]) ho (px a<|px b<|px c<|px d<|pq p<|pi _<|pq q<|pi _<|pi _<|pv w<|pi _<|rfl) (Ux _ _) (Af (BS _ _) (Aa k0<|Aa k1<|Aa (Ac (C1 hp.st hq.st) rfl rfl)<|Aa kK<|Ad)) (Aa (Cf _ _ rfl rfl (by rw[←hl];exact decide_eq_decide.2 (CC _ _))) (step_ok h0 (by omega) (decide_eq_false (by omega)))) rfl rfl rfl rfl
theorem SS {e:En}{own:ME}{n:Int}(ho:AI own)(h0:0≤n)(h1:n<5000){a b c d:X}{p:Q}{n0:Int}{er:Nat}(k0:Ev e 1 own (n+1) a (.ok (⟨[],[p],.s⟩,n0)))(kE:Ev e 1 own n0 b (.error er)):Ev e 1 own n (.ite a b c d) (.error er):=
 Ar (r:=[a.c0,a.c1,a.c2,a.c3,a.c4,a.c5,b.c0,b.c1,b.c2,b.c3,b.c4,b.c5,c.c0,c.c1,c.c2,c.c3,c.c4,c.c5,d.c0,d.c1,d.c2,d.c3,d.c4,d.c5,sg p.1,lm p.1,sg p.2,lm p.2,.int .i64 n0,.int .i64 (.ofNat er)]) ho (px a<|px b<|px c<|px d<|pq p<|pi _<|pi _<|rfl) (Tk _ _) (Aa k0<|Aa kE<|Ad) (step_ok h0 (by omega) (decide_eq_false (by omega))) rfl rfl rfl rfl
theorem Up {e:En}{own:ME}{n:Int}(ho:AI own)(h0:0≤n)(h1:n<5000){a b c d:X}{p q:Q}{n0 n1:Int}{er:Nat}(k0:Ev e 1 own (n+1) a (.ok (⟨[],[p],.s⟩,n0)))(k1:Ev e 1 own n0 b (.ok (⟨[],[q],.s⟩,n1)))(hp:Ok p)(hq:Ok q)(hl:decide (p.1*q.2<q.1*p.2)=true)(kE:Ev e 1 own n1 c (.error er)):Ev e 1 own n (.ite a b c d) (.error er):=
 Ar (r:=[a.c0,a.c1,a.c2,a.c3,a.c4,a.c5,b.c0,b.c1,b.c2,b.c3,b.c4,b.c5,c.c0,c.c1,c.c2,c.c3,c.c4,c.c5,d.c0,d.c1,d.c2,d.c3,d.c4,d.c5,sg p.1,lm p.1,sg p.2,lm p.2,.int .i64 n0,sg q.1,lm q.1,sg q.2,lm q.2,.int .i64 n1,.int .i64 (BC (p.1*q.2) (q.1*p.2)),.int .i64 (.ofNat er)]) ho (px a<|px b<|px c<|px d<|pq p<|pi _<|pq q<|pi _<|pi _<|pi _<|rfl) (S7 _ _) (Af (BS _ _) (Aa k0<|Aa k1<|Aa (Ac (C1 hp.st hq.st) rfl rfl)<|Aa kE<|Ad)) (Aa (Cf _ _ rfl rfl (by rw[←hl];exact decide_eq_decide.2 (CC _ _))) (step_ok h0 (by omega) (decide_eq_false (by omega)))) rfl rfl rfl rfl
theorem TN {e:En}{own:ME}{n:Int}(ho:AI own)(h0:0≤n)(h1:n<5000){a b c d:X}{p q:Q}{n0 n1:Int}{w:Vl}{n2:Int}(k0:Ev e 1 own (n+1) a (.ok (⟨[],[p],.s⟩,n0)))(k1:Ev e 1 own n0 b (.ok (⟨[],[q],.s⟩,n1)))(hp:Ok p)(hq:Ok q)(hl:decide (p.1*q.2<q.1*p.2)=true)(kK:Ev e 1 own n1 c (.ok (w,n2))):Ev e 1 own n (.ite a b c d) (.ok (w,n2)):=
 Ar (r:=[a.c0,a.c1,a.c2,a.c3,a.c4,a.c5,b.c0,b.c1,b.c2,b.c3,b.c4,b.c5,c.c0,c.c1,c.c2,c.c3,c.c4,c.c5,d.c0,d.c1,d.c2,d.c3,d.c4,d.c5,sg p.1,lm p.1,sg p.2,lm p.2,.int .i64 n0,sg q.1,lm q.1,sg q.2,lm q.2,.int .i64 n1,.int .i64 (BC (p.1*q.2) (q.1*p.2)),Aq w.sh,Ax w.it,Al w.dm,.int .i64 n2]) ho (px a<|px b<|px c<|px d<|pq p<|pi _<|pq q<|pi _<|pi _<|pv w<|pi _<|rfl) (Ua _ _) (Af (BS _ _) (Aa k0<|Aa k1<|Aa (Ac (C1 hp.st hq.st) rfl rfl)<|Aa kK<|Ad)) (Aa (Cf _ _ rfl rfl (by rw[←hl];exact decide_eq_decide.2 (CC _ _))) (step_ok h0 (by omega) (decide_eq_false (by omega)))) rfl rfl rfl rfl
theorem TE {e:En}{own:ME}{n:Int}(ho:AI own)(h0:0≤n)(h1:n<5000){a b c d:X}{p q:Q}{n0 n1:Int}{er:Nat}(k0:Ev e 1 own (n+1) a (.ok (⟨[],[p],.s⟩,n0)))(k1:Ev e 1 own n0 b (.ok (⟨[],[q],.s⟩,n1)))(hp:Ok p)(hq:Ok q)(hl:decide (p.1*q.2<q.1*p.2)=false)(kE:Ev e 1 own n1 d (.error er)):Ev e 1 own n (.ite a b c d) (.error er):=
 Ar (r:=[a.c0,a.c1,a.c2,a.c3,a.c4,a.c5,b.c0,b.c1,b.c2,b.c3,b.c4,b.c5,c.c0,c.c1,c.c2,c.c3,c.c4,c.c5,d.c0,d.c1,d.c2,d.c3,d.c4,d.c5,sg p.1,lm p.1,sg p.2,lm p.2,.int .i64 n0,sg q.1,lm q.1,sg q.2,lm q.2,.int .i64 n1,.int .i64 (BC (p.1*q.2) (q.1*p.2)),.int .i64 (.ofNat er)]) ho (px a<|px b<|px c<|px d<|pq p<|pi _<|pq q<|pi _<|pi _<|pi _<|rfl) (TJ _ _) (Af (BS _ _) (Aa k0<|Aa k1<|Aa (Ac (C1 hp.st hq.st) rfl rfl)<|Aa kE<|Ad)) (Aa (Cf _ _ rfl rfl (by rw[←hl];exact decide_eq_decide.2 (CC _ _))) (step_ok h0 (by omega) (decide_eq_false (by omega)))) rfl rfl rfl rfl
theorem SQ {e:En}{own:ME}{n:Int}(ho:AI own)(h0:0≤n)(h1:n<5000){a b c d:X}{p q:Q}{n0 n1:Int}{w:Vl}{n2:Int}(k0:Ev e 1 own (n+1) a (.ok (⟨[],[p],.s⟩,n0)))(k1:Ev e 1 own n0 b (.ok (⟨[],[q],.s⟩,n1)))(hp:Ok p)(hq:Ok q)(hl:decide (p.1*q.2<q.1*p.2)=false)(kK:Ev e 1 own n1 d (.ok (w,n2))):Ev e 1 own n (.ite a b c d) (.ok (w,n2)):=
 Ar (r:=[a.c0,a.c1,a.c2,a.c3,a.c4,a.c5,b.c0,b.c1,b.c2,b.c3,b.c4,b.c5,c.c0,c.c1,c.c2,c.c3,c.c4,c.c5,d.c0,d.c1,d.c2,d.c3,d.c4,d.c5,sg p.1,lm p.1,sg p.2,lm p.2,.int .i64 n0,sg q.1,lm q.1,sg q.2,lm q.2,.int .i64 n1,.int .i64 (BC (p.1*q.2) (q.1*p.2)),Aq w.sh,Ax w.it,Al w.dm,.int .i64 n2]) ho (px a<|px b<|px c<|px d<|pq p<|pi _<|pq q<|pi _<|pi _<|pv w<|pi _<|rfl) (Tq _ _) (Af (BS _ _) (Aa k0<|Aa k1<|Aa (Ac (C1 hp.st hq.st) rfl rfl)<|Aa kK<|Ad)) (Aa (Cf _ _ rfl rfl (by rw[←hl];exact decide_eq_decide.2 (CC _ _))) (step_ok h0 (by omega) (decide_eq_false (by omega)))) rfl rfl rfl rfl
abbrev G3 (b:List AV):List AV:=[.int .i64 0,.str nmF,.psl [.str [120]] 1 none]++b++[.int .i64 0,.int .i64 5]
noncomputable def G5 (l:List AV)(mu:List ME)(facts:List OF)(bins:List NB)(c:List AV)(ao un:AO)(fu:List AV)(res:AM)(st:Option Nat):Bool:=
 facts.all (fun q=>BH q.N q.args q.l q.res q.u)&&Br (EM l mu facts bins [] []) 4000 80 6 191 [.ptr 0 0,scA 1,.agg c] (lwG (.sel 24) ao un fu D6) res (uwG (st.map .sel) ao un fu D6)
def evG (k i:Nat)(un:AO)(fu:List AV)(res:AM)(st:Option Nat):OF:=⟨191,6,[.ptr 0 0,scA 1,.agg [.sel k,.sel (k+1),.sel (k+2),.sel (k+3),.sel (k+4),.sel (k+5)]],lwG (.sel i) oq un fu D6,res,uwG (st.map .sel) oq un fu D6⟩
def refC (s:List Nat):List AV:=[.int .i64 1,.str [],.str [],.str s,.int .i64 0,.emp]
def SE (p d:AV)(u:Nat):List AV:=[.int .i64 0,p,d,.str (UW u),.int .i64 0,.emp]
def binC (op:Nat)(a b:List AV):List AV:=[.int .i64 (.ofNat op),.str [],.str [],.str [],.int .i64 0,.psl (a++b) 2 none]
def iteC (a b c d:List AV):List AV:=[.int .i64 12,.str [],.str [],.str [],.int .i64 0,.psl (a++(b++(c++d))) 4 none]
def nX:List Nat:=[120]
theorem r_of1 (l:List AV):EL l [] 123 [.agg [.str [49],.str [49]]] (.ret (sr 1))=true:=by kernel_rfl
theorem YQ (l:List AV):EL l [] 123 [.agg [.str [49,48,48,48],.str [49]]] (.ret (sr 1000))=true:=by kernel_rfl
theorem YI (l:List AV):EL l [] 123 [.agg [.str [51,54,48,48],.str [49]]] (.ret (sr 3600))=true:=by kernel_rfl
theorem r_of0 (l:List AV):EL l [] 123 [.agg [.str [48],.str [49]]] (.ret (sr 0))=true:=by kernel_rfl
theorem r_of2 (l:List AV):EL l [] 123 [.agg [.str [50],.str [49]]] (.ret (sr 2))=true:=by kernel_rfl
theorem r_of3 (l:List AV):EL l [] 123 [.agg [.str [51],.str [49]]] (.ret (sr 3))=true:=by kernel_rfl
theorem r_of4 (l:List AV):EL l [] 123 [.agg [.str [52],.str [49]]] (.ret (sr 4))=true:=by kernel_rfl
theorem r_of5 (l:List AV):EL l [] 123 [.agg [.str [53],.str [49]]] (.ret (sr 5))=true:=by kernel_rfl
theorem r_lit0 (l:List AV)(mu:List ME):G5 l mu [vq 123 [.agg [.sel 26,.sel 27]] (.ret (.agg [.sel 28,.sel 29,.sel 30,.sel 31]))] (AN false) (SE (.sel 26) (.sel 27) 0) oq (.opq 1) G7 (.ret (.agg [.emp,.psl [.sel 28,.sel 29,.sel 30,.sel 31] 1 none,.emp])) (some 25)=true:=by kernel_rfl
theorem r_lit1 (l:List AV)(mu:List ME):G5 l mu (AU++[vq 123 [.agg [.sel 26,.sel 27]] (.ret (.agg [.sel 28,.sel 29,.sel 30,.sel 31])),vq 123 [.agg [.str [49],.str [49]]] (.ret (sr 1)),vq 161 [.agg [.sel 28,.sel 29,.sel 30,.sel 31],sr 1] (.ret (.agg [.sel 32,.sel 33,.sel 34,.sel 35])),vq 98 [.agg [.sel 32,.sel 33,.sel 34,.sel 35]] (.ret (.tup [.agg [.sel 36,.sel 37],.bool true]))]) (AN false) (SE (.sel 26) (.sel 27) 1) oq (.map A8 0) G7 (.ret (.agg [.emp,.psl [.sel 32,.sel 33,.sel 34,.sel 35] 1 none,Al .m])) (some 25)=true:=by kernel_rfl
theorem r_lit2 (l:List AV)(mu:List ME):G5 l mu (AU++[vq 123 [.agg [.sel 26,.sel 27]] (.ret (.agg [.sel 28,.sel 29,.sel 30,.sel 31])),vq 123 [.agg [.str [49,48,48,48],.str [49]]] (.ret (sr 1000)),vq 123 [.agg [.str [49],.str [49]]] (.ret (sr 1)),vq 161 [.agg [.sel 28,.sel 29,.sel 30,.sel 31],sr 1000] (.ret (.agg [.sel 32,.sel 33,.sel 34,.sel 35])),vq 98 [.agg [.sel 32,.sel 33,.sel 34,.sel 35]] (.ret (.tup [.agg [.sel 36,.sel 37],.bool true]))]) (AN false) (SE (.sel 26) (.sel 27) 2) oq (.map A8 0) G7 (.ret (.agg [.emp,.psl [.sel 32,.sel 33,.sel 34,.sel 35] 1 none,Al .m])) (some 25)=true:=by kernel_rfl
theorem r_lit3 (l:List AV)(mu:List ME):G5 l mu (AU++[vq 123 [.agg [.sel 26,.sel 27]] (.ret (.agg [.sel 28,.sel 29,.sel 30,.sel 31])),vq 123 [.agg [.str [49],.str [49]]] (.ret (sr 1)),vq 161 [.agg [.sel 28,.sel 29,.sel 30,.sel 31],sr 1] (.ret (.agg [.sel 32,.sel 33,.sel 34,.sel 35])),vq 98 [.agg [.sel 32,.sel 33,.sel 34,.sel 35]] (.ret (.tup [.agg [.sel 36,.sel 37],.bool true]))]) (AN false) (SE (.sel 26) (.sel 27) 3) oq (.map A8 0) G7 (.ret (.agg [.emp,.psl [.sel 32,.sel 33,.sel 34,.sel 35] 1 none,Al .s])) (some 25)=true:=by kernel_rfl
theorem r_lit4 (l:List AV)(mu:List ME):G5 l mu (AU++[vq 123 [.agg [.sel 26,.sel 27]] (.ret (.agg [.sel 28,.sel 29,.sel 30,.sel 31])),vq 123 [.agg [.str [51,54,48,48],.str [49]]] (.ret (sr 3600)),vq 123 [.agg [.str [49],.str [49]]] (.ret (sr 1)),vq 161 [.agg [.sel 28,.sel 29,.sel 30,.sel 31],sr 3600] (.ret (.agg [.sel 32,.sel 33,.sel 34,.sel 35])),vq 98 [.agg [.sel 32,.sel 33,.sel 34,.sel 35]] (.ret (.tup [.agg [.sel 36,.sel 37],.bool true]))]) (AN false) (SE (.sel 26) (.sel 27) 4) oq (.map A8 0) G7 (.ret (.agg [.emp,.psl [.sel 32,.sel 33,.sel 34,.sel 35] 1 none,Al .s])) (some 25)=true:=by kernel_rfl
theorem Fe {p d:List Nat}{z:Int}{l:List AV}{mu:List ME}(h:VF 123 [.agg [.str p,.str d]] (.ret (sr z)))(hr:Bu (Am l) noT (.ret (sr z))=.ret (sr z)):BM (Am l) (mpL mu) (vq 123 [.agg [.str p,.str d]] (.ret (sr z))):=Ac h rfl hr
theorem GN {q:Q}(h:Ok q)(z:Int)(hz:z.natAbs<B):VF 161 [BQ q,sr z] (.ret (BQ (AE q (z,1)))):=by
 have:=JA h.st (BV hz).st
 rwa[BW hz] at this
theorem of1:VF 123 [.agg [.str [49],.str [49]]] (.ret (sr 1)):=Bj (l:=[]) rfl Ad (r_of1 _) rfl rfl
theorem of1000:VF 123 [.agg [.str [49,48,48,48],.str [49]]] (.ret (sr 1000)):=Bj (l:=[]) rfl Ad (YQ _) rfl rfl
theorem of3600:VF 123 [.agg [.str [51,54,48,48],.str [49]]] (.ret (sr 3600)):=Bj (l:=[]) rfl Ad (YI _) rfl rfl
theorem of0:VF 123 [.agg [.str [48],.str [49]]] (.ret (sr 0)):=Bj (l:=[]) rfl Ad (r_of0 _) rfl rfl
theorem of2:VF 123 [.agg [.str [50],.str [49]]] (.ret (sr 2)):=Bj (l:=[]) rfl Ad (r_of2 _) rfl rfl
theorem of3:VF 123 [.agg [.str [51],.str [49]]] (.ret (sr 3)):=Bj (l:=[]) rfl Ad (r_of3 _) rfl rfl
theorem of4:VF 123 [.agg [.str [52],.str [49]]] (.ret (sr 4)):=Bj (l:=[]) rfl Ad (r_of4 _) rfl rfl
theorem of5:VF 123 [.agg [.str [53],.str [49]]] (.ret (sr 5)):=Bj (l:=[]) rfl Ad (r_of5 _) rfl rfl
theorem YK {e:En}{own:ME}{n:Int}(ho:AI own)(h0:0≤n)(h1:n<5000){p d:List Nat}{q:Q}(hq:VF 123 [.agg [.str p,.str d]] (.ret (BQ q))):Ev e 1 own n (.lit p d q 0) (.ok (⟨[],[q],.pl⟩,n+1)):=
 B6 (mu:=[own,A8]) (Ce ho) (r:=[.str p,.str d,sg q.1,lm q.1,sg q.2,lm q.2]) (ps _<|ps _<|pq q<|rfl) (r_lit0 _ _) (Aa hq Ad) (step_ok h0 (by omega) (decide_eq_false (by omega))) rfl rfl rfl rfl
theorem n_lit1 {e:En}{own:ME}{n:Int}(ho:AI own)(h0:0≤n)(h1:n<5000){p d:List Nat}{q:Q}(hq:VF 123 [.agg [.str p,.str d]] (.ret (BQ q)))(hok:Ok q)(hf:Be (AE q (1,1))=true):Ev e 1 own n (.lit p d q 1) (.ok (⟨[],[(AE q (1,1))],.m⟩,n+1)):=
 B6 (mu:=[own,A8]) (Ce ho) (r:=[.str p,.str d,sg q.1,lm q.1,sg q.2,lm q.2,sg (AE q (1,1)).1,lm (AE q (1,1)).1,sg (AE q (1,1)).2,lm (AE q (1,1)).2,.str ((CP (AE q (1,1)).1).map UInt8.toNat),.str ((CP (AE q (1,1)).2).map UInt8.toNat)]) (ps _<|ps _<|pq q<|pq _<|ps _<|ps _<|rfl) (r_lit1 _ _) (Af (BS _ _) (Aa hq<|Aa (Fe of1 rfl)<|Aa (GN hok 1 (by decide))<|Aa (Aw (AZ (op:=5) rfl hok.st (BV (by decide)).st nofun) hf rfl rfl)<|Ad)) (step_ok h0 (by omega) (decide_eq_false (by omega))) rfl rfl rfl rfl
theorem n_lit2 {e:En}{own:ME}{n:Int}(ho:AI own)(h0:0≤n)(h1:n<5000){p d:List Nat}{q:Q}(hq:VF 123 [.agg [.str p,.str d]] (.ret (BQ q)))(hok:Ok q)(hf:Be (AE q (1000,1))=true):Ev e 1 own n (.lit p d q 2) (.ok (⟨[],[(AE q (1000,1))],.m⟩,n+1)):=
 B6 (mu:=[own,A8]) (Ce ho) (r:=[.str p,.str d,sg q.1,lm q.1,sg q.2,lm q.2,sg (AE q (1000,1)).1,lm (AE q (1000,1)).1,sg (AE q (1000,1)).2,lm (AE q (1000,1)).2,.str ((CP (AE q (1000,1)).1).map UInt8.toNat),.str ((CP (AE q (1000,1)).2).map UInt8.toNat)]) (ps _<|ps _<|pq q<|pq _<|ps _<|ps _<|rfl) (r_lit2 _ _) (Af (BS _ _) (Aa hq<|Aa (Fe of1000 rfl)<|Aa (Fe of1 rfl)<|Aa (GN hok 1000 (by decide))<|Aa (Aw (AZ (op:=5) rfl hok.st (BV (by decide)).st nofun) hf rfl rfl)<|Ad)) (step_ok h0 (by omega) (decide_eq_false (by omega))) rfl rfl rfl rfl
theorem n_lit3 {e:En}{own:ME}{n:Int}(ho:AI own)(h0:0≤n)(h1:n<5000){p d:List Nat}{q:Q}(hq:VF 123 [.agg [.str p,.str d]] (.ret (BQ q)))(hok:Ok q)(hf:Be (AE q (1,1))=true):Ev e 1 own n (.lit p d q 3) (.ok (⟨[],[(AE q (1,1))],.s⟩,n+1)):=
 B6 (mu:=[own,A8]) (Ce ho) (r:=[.str p,.str d,sg q.1,lm q.1,sg q.2,lm q.2,sg (AE q (1,1)).1,lm (AE q (1,1)).1,sg (AE q (1,1)).2,lm (AE q (1,1)).2,.str ((CP (AE q (1,1)).1).map UInt8.toNat),.str ((CP (AE q (1,1)).2).map UInt8.toNat)]) (ps _<|ps _<|pq q<|pq _<|ps _<|ps _<|rfl) (r_lit3 _ _) (Af (BS _ _) (Aa hq<|Aa (Fe of1 rfl)<|Aa (GN hok 1 (by decide))<|Aa (Aw (AZ (op:=5) rfl hok.st (BV (by decide)).st nofun) hf rfl rfl)<|Ad)) (step_ok h0 (by omega) (decide_eq_false (by omega))) rfl rfl rfl rfl
theorem n_lit4 {e:En}{own:ME}{n:Int}(ho:AI own)(h0:0≤n)(h1:n<5000){p d:List Nat}{q:Q}(hq:VF 123 [.agg [.str p,.str d]] (.ret (BQ q)))(hok:Ok q)(hf:Be (AE q (3600,1))=true):Ev e 1 own n (.lit p d q 4) (.ok (⟨[],[(AE q (3600,1))],.s⟩,n+1)):=
 B6 (mu:=[own,A8]) (Ce ho) (r:=[.str p,.str d,sg q.1,lm q.1,sg q.2,lm q.2,sg (AE q (3600,1)).1,lm (AE q (3600,1)).1,sg (AE q (3600,1)).2,lm (AE q (3600,1)).2,.str ((CP (AE q (3600,1)).1).map UInt8.toNat),.str ((CP (AE q (3600,1)).2).map UInt8.toNat)]) (ps _<|ps _<|pq q<|pq _<|ps _<|ps _<|rfl) (r_lit4 _ _) (Af (BS _ _) (Aa hq<|Aa (Fe of3600 rfl)<|Aa (Fe of1 rfl)<|Aa (GN hok 3600 (by decide))<|Aa (Aw (AZ (op:=5) rfl hok.st (BV (by decide)).st nofun) hf rfl rfl)<|Ad)) (step_ok h0 (by omega) (decide_eq_false (by omega))) rfl rfl rfl rfl
def litA (p d:List Nat)(u:Nat):List AV:=SE (.str p) (.str d) u
def Kn:List AV:=binC 3 (refC nX) (binC 5 (litA [48] [49] 0) (refC nX))
def Ks (k:Nat)(p d:AV):List AV:=iteC (refC nX) (litA [48+k] [49] 1) (binC 5 (SE p d 0) (refC nX)) (refC nX)
theorem ZY (l:List AV)(mu:List ME):G5 l mu [evG 26 25 (.opq 1) G7 (AQ 32) none] (AN false) [.int .i64 14,.str [],.str [],.str nmF,.int .i64 0,.psl [.sel 26,.sel 27,.sel 28,.sel 29,.sel 30,.sel 31] 1 none] oq (.opq 1) G7 (AQ 32) none=true:=by kernel_rfl
theorem Ub (l:List AV)(mu:List ME):G5 l mu [evG 26 25 (.opq 1) (G3 Kn) (AJ 32) (some 35),vq 123 [.agg [.str [48],.str [49]]] (.ret (sr 0)),vq 74 [.int .i64 5,.agg [.emp,.psl (src 0) 1 none,.emp],.agg [.sel 32,.sel 33,.sel 34]] (AQ 41)] (AN false++[⟨.add,.sel 35,.int .i64 1,.sel 36⟩,⟨.gtr,.sel 36,.int .i64 5000,.bool false⟩,⟨.add,.sel 36,.int .i64 1,.sel 37⟩,⟨.gtr,.sel 37,.int .i64 5000,.bool false⟩,⟨.add,.sel 37,.int .i64 1,.sel 38⟩,⟨.gtr,.sel 38,.int .i64 5000,.bool false⟩,⟨.add,.sel 38,.int .i64 1,.sel 39⟩,⟨.gtr,.sel 39,.int .i64 5000,.bool false⟩,⟨.add,.sel 39,.int .i64 1,.sel 40⟩,⟨.gtr,.sel 40,.int .i64 5000,.bool false⟩]) [.int .i64 14,.str [],.str [],.str nmF,.int .i64 0,.psl [.sel 26,.sel 27,.sel 28,.sel 29,.sel 30,.sel 31] 1 none] oq (.opq 1) (G3 Kn) (AQ 41) none=true:=by kernel_rfl
theorem T4 (l:List AV)(mu:List ME):G5 l mu [evG 26 25 (.opq 1) (G3 Kn) (AJ 32) (some 35),vq 123 [.agg [.str [48],.str [49]]] (.ret (sr 0)),vq 74 [.int .i64 5,.agg [.emp,.psl (src 0) 1 none,.emp],.agg [.sel 32,.sel 33,.sel 34]] (AJ 41),vq 74 [.int .i64 3,.agg [.sel 32,.sel 33,.sel 34],.agg [.sel 41,.sel 42,.sel 43]] (AQ 44)] (AN false++[⟨.add,.sel 35,.int .i64 1,.sel 36⟩,⟨.gtr,.sel 36,.int .i64 5000,.bool false⟩,⟨.add,.sel 36,.int .i64 1,.sel 37⟩,⟨.gtr,.sel 37,.int .i64 5000,.bool false⟩,⟨.add,.sel 37,.int .i64 1,.sel 38⟩,⟨.gtr,.sel 38,.int .i64 5000,.bool false⟩,⟨.add,.sel 38,.int .i64 1,.sel 39⟩,⟨.gtr,.sel 39,.int .i64 5000,.bool false⟩,⟨.add,.sel 39,.int .i64 1,.sel 40⟩,⟨.gtr,.sel 40,.int .i64 5000,.bool false⟩]) [.int .i64 14,.str [],.str [],.str nmF,.int .i64 0,.psl [.sel 26,.sel 27,.sel 28,.sel 29,.sel 30,.sel 31] 1 none] oq (.opq 1) (G3 Kn) (AQ 44) none=true:=by kernel_rfl
theorem Wt (l:List AV)(mu:List ME):G5 l mu [evG 26 25 (.opq 1) (G3 Kn) (AJ 32) (some 35),vq 123 [.agg [.str [48],.str [49]]] (.ret (sr 0)),vq 74 [.int .i64 5,.agg [.emp,.psl (src 0) 1 none,.emp],.agg [.sel 32,.sel 33,.sel 34]] (AJ 41),vq 74 [.int .i64 3,.agg [.sel 32,.sel 33,.sel 34],.agg [.sel 41,.sel 42,.sel 43]] (AJ 44)] (AN false++[⟨.add,.sel 35,.int .i64 1,.sel 36⟩,⟨.gtr,.sel 36,.int .i64 5000,.bool false⟩,⟨.add,.sel 36,.int .i64 1,.sel 37⟩,⟨.gtr,.sel 37,.int .i64 5000,.bool false⟩,⟨.add,.sel 37,.int .i64 1,.sel 38⟩,⟨.gtr,.sel 38,.int .i64 5000,.bool false⟩,⟨.add,.sel 38,.int .i64 1,.sel 39⟩,⟨.gtr,.sel 39,.int .i64 5000,.bool false⟩,⟨.add,.sel 39,.int .i64 1,.sel 40⟩,⟨.gtr,.sel 40,.int .i64 5000,.bool false⟩]) [.int .i64 14,.str [],.str [],.str nmF,.int .i64 0,.psl [.sel 26,.sel 27,.sel 28,.sel 29,.sel 30,.sel 31] 1 none] oq (.opq 1) (G3 Kn) (AJ 44) (some 40)=true:=by kernel_rfl
theorem TW (l:List AV)(mu:List ME):([0,1,2,3,4,5].all fun k=>G5 l mu (AU++[evG 26 25 (.map A8 0) (G3 (Ks k (.sel 37) (.sel 38))) (.ret (.agg [.emp,.psl [.sel 32,.sel 33,.sel 34,.sel 35] 1 none,Al .m])) (some 36),vq 123 [.agg [.str [48+k],.str [49]]] (.ret (sr (.ofNat k))),vq 123 [.agg [.str [49],.str [49]]] (.ret (sr 1)),vq 161 [sr (.ofNat k),sr 1] (.ret (sr (.ofNat k))),vq 98 [sr (.ofNat k)] (.ret (.tup [.agg [.sel 39,.sel 0],.bool true])),vq 164 [.agg [.sel 32,.sel 33,.sel 34,.sel 35],sr (.ofNat k)] (.ret (.sel 46)),vq 123 [.agg [.sel 37,.sel 38]] (.ret (.agg [.sel 47,.sel 48,.sel 49,.sel 50])),vq 74 [.int .i64 5,.agg [.emp,.psl [.sel 47,.sel 48,.sel 49,.sel 50] 1 none,.emp],.agg [.emp,.psl [.sel 32,.sel 33,.sel 34,.sel 35] 1 none,Al .m]] (AQ 51)]) (AN false++(⟨.lss,.sel 46,.int .i64 0,.bool true⟩::[⟨.add,.sel 36,.int .i64 1,.sel 40⟩,⟨.gtr,.sel 40,.int .i64 5000,.bool false⟩,⟨.add,.sel 40,.int .i64 1,.sel 41⟩,⟨.gtr,.sel 41,.int .i64 5000,.bool false⟩,⟨.add,.sel 41,.int .i64 1,.sel 42⟩,⟨.gtr,.sel 42,.int .i64 5000,.bool false⟩,⟨.add,.sel 42,.int .i64 1,.sel 43⟩,⟨.gtr,.sel 43,.int .i64 5000,.bool false⟩,⟨.add,.sel 43,.int .i64 1,.sel 44⟩,⟨.gtr,.sel 44,.int .i64 5000,.bool false⟩,⟨.add,.sel 44,.int .i64 1,.sel 45⟩,⟨.gtr,.sel 45,.int .i64 5000,.bool false⟩])) [.int .i64 14,.str [],.str [],.str nmF,.int .i64 0,.psl [.sel 26,.sel 27,.sel 28,.sel 29,.sel 30,.sel 31] 1 none] oq (.map A8 0) (G3 (Ks k (.sel 37) (.sel 38))) (AQ 51) none)=true:=by kernel_rfl
theorem Tc (l:List AV)(mu:List ME):([0,1,2,3,4,5].all fun k=>G5 l mu (AU++[evG 26 25 (.map A8 0) (G3 (Ks k (.sel 37) (.sel 38))) (.ret (.agg [.emp,.psl [.sel 32,.sel 33,.sel 34,.sel 35] 1 none,Al .m])) (some 36),vq 123 [.agg [.str [48+k],.str [49]]] (.ret (sr (.ofNat k))),vq 123 [.agg [.str [49],.str [49]]] (.ret (sr 1)),vq 161 [sr (.ofNat k),sr 1] (.ret (sr (.ofNat k))),vq 98 [sr (.ofNat k)] (.ret (.tup [.agg [.sel 39,.sel 0],.bool true])),vq 164 [.agg [.sel 32,.sel 33,.sel 34,.sel 35],sr (.ofNat k)] (.ret (.sel 46)),vq 123 [.agg [.sel 37,.sel 38]] (.ret (.agg [.sel 47,.sel 48,.sel 49,.sel 50])),vq 74 [.int .i64 5,.agg [.emp,.psl [.sel 47,.sel 48,.sel 49,.sel 50] 1 none,.emp],.agg [.emp,.psl [.sel 32,.sel 33,.sel 34,.sel 35] 1 none,Al .m]] (AJ 51)]) (AN false++(⟨.lss,.sel 46,.int .i64 0,.bool true⟩::[⟨.add,.sel 36,.int .i64 1,.sel 40⟩,⟨.gtr,.sel 40,.int .i64 5000,.bool false⟩,⟨.add,.sel 40,.int .i64 1,.sel 41⟩,⟨.gtr,.sel 41,.int .i64 5000,.bool false⟩,⟨.add,.sel 41,.int .i64 1,.sel 42⟩,⟨.gtr,.sel 42,.int .i64 5000,.bool false⟩,⟨.add,.sel 42,.int .i64 1,.sel 43⟩,⟨.gtr,.sel 43,.int .i64 5000,.bool false⟩,⟨.add,.sel 43,.int .i64 1,.sel 44⟩,⟨.gtr,.sel 44,.int .i64 5000,.bool false⟩,⟨.add,.sel 44,.int .i64 1,.sel 45⟩,⟨.gtr,.sel 45,.int .i64 5000,.bool false⟩])) [.int .i64 14,.str [],.str [],.str nmF,.int .i64 0,.psl [.sel 26,.sel 27,.sel 28,.sel 29,.sel 30,.sel 31] 1 none] oq (.map A8 0) (G3 (Ks k (.sel 37) (.sel 38))) (AJ 51) (some 45))=true:=by kernel_rfl
theorem SX (l:List AV)(mu:List ME):([0,1,2,3,4,5].all fun k=>G5 l mu (AU++[evG 26 25 (.map A8 0) (G3 (Ks k (.sel 37) (.sel 38))) (.ret (.agg [.emp,.psl [.sel 32,.sel 33,.sel 34,.sel 35] 1 none,Al .m])) (some 36),vq 123 [.agg [.str [48+k],.str [49]]] (.ret (sr (.ofNat k))),vq 123 [.agg [.str [49],.str [49]]] (.ret (sr 1)),vq 161 [sr (.ofNat k),sr 1] (.ret (sr (.ofNat k))),vq 98 [sr (.ofNat k)] (.ret (.tup [.agg [.sel 39,.sel 0],.bool true])),vq 164 [.agg [.sel 32,.sel 33,.sel 34,.sel 35],sr (.ofNat k)] (.ret (.sel 44))]) (AN false++(⟨.lss,.sel 44,.int .i64 0,.bool false⟩::[⟨.add,.sel 36,.int .i64 1,.sel 40⟩,⟨.gtr,.sel 40,.int .i64 5000,.bool false⟩,⟨.add,.sel 40,.int .i64 1,.sel 41⟩,⟨.gtr,.sel 41,.int .i64 5000,.bool false⟩,⟨.add,.sel 41,.int .i64 1,.sel 42⟩,⟨.gtr,.sel 42,.int .i64 5000,.bool false⟩,⟨.add,.sel 42,.int .i64 1,.sel 43⟩,⟨.gtr,.sel 43,.int .i64 5000,.bool false⟩])) [.int .i64 14,.str [],.str [],.str nmF,.int .i64 0,.psl [.sel 26,.sel 27,.sel 28,.sel 29,.sel 30,.sel 31] 1 none] oq (.map A8 0) (G3 (Ks k (.sel 37) (.sel 38))) (.ret (.agg [.emp,.psl [.sel 32,.sel 33,.sel 34,.sel 35] 1 none,Al .m])) (some 43))=true:=by kernel_rfl
def Ri:X:=.bin 3 (.ref nX) (.bin 5 (.lit [48] [49] (0,1) 0) (.ref nX))
def QZ (k:Nat)(p d:List Nat)(q:Q):X:=.ite (.ref nX) (.lit [48+k] [49] ((k:Int),1) 1) (.bin 5 (.lit p d q 0) (.ref nX)) (.ref nX)
theorem Adg:(⟨[],[(0,1)],.pl⟩:Vl).av=.agg [.emp,.psl (src 0) 1 none,.emp]:=IZ 0 (by decide)
theorem Cz {σ:Nat→AV}{τ:Nat→List Nat}(z:Int):inst σ τ (sr z)=sr z:=by
 unfold sr src
 cases z.natAbs<;>rfl
theorem ofK {k:Nat}(hk:k∈[0,1,2,3,4,5]):VF 123 [.agg [.str [48+k],.str [49]]] (.ret (sr (.ofNat k))):=by
 simp only[List.mem_cons,List.not_mem_nil,or_false] at hk
 rcases hk with rfl|rfl|rfl|rfl|rfl|rfl
 ·exact of0
 ·exact of1
 ·exact of2
 ·exact of3
 ·exact of4
 ·exact of5
theorem kB {k:Nat}(hk:k∈[0,1,2,3,4,5]):((Int.ofNat k).natAbs)<B:=by
 simp only[List.mem_cons,List.not_mem_nil,or_false] at hk
 rcases hk with rfl|rfl|rfl|rfl|rfl|rfl<;>decide
theorem ordK {p:Q}(hp:Ok p){k:Nat}(hk:k∈[0,1,2,3,4,5]):VF 164 [BQ p,sr (.ofNat k)] (.ret (.int .i64 (BC (p.1*1) ((k:Int)*p.2)))):=by
 have:=C1 hp.st (BV (kB hk)).st
 rwa[BW (kB hk)] at this
theorem Zn {e:En}{own:ME}{n:Int}(ho:AI own)(h0:0≤n)(h1:n<5000){a:X}{er:Nat}(ha:Ev e 1 own (n+1) a (.error er)):Ev e 1 own n (.call a) (.error er):=
 B6 (mu:=[own,A8]) (Ce ho) (r:=[a.c0,a.c1,a.c2,a.c3,a.c4,a.c5,.int .i64 (.ofNat er)]) (px a<|pi _<|rfl) (ZY _ _) (Aa ha Ad) (step_ok h0 (by omega) (decide_eq_false (by omega))) rfl rfl rfl rfl
theorem Tw {e:En}{own:ME}{n:Int}(ho:AI own)(h0:0≤n)(h1:n<5000){a:X}{u:Vl}{n0:Int}{er:Nat}(hf:e.f=Ri)(ha:Ev e 1 own (n+1) a (.ok (u,n0)))(hn:0≤n0)(hn2:n0<4990)(hv:VF 74 [.int .i64 5,.agg [.emp,.psl (src 0) 1 none,.emp],u.av] (Cn er)):Ev e 1 own n (.call a) (.error er):=by
 obtain⟨ea,eb,ec,ev,ew,ef⟩:=e
 simp only at hf
 subst hf
 exact B6 (mu:=[own,A8]) (Ce ho) (r:=[a.c0,a.c1,a.c2,a.c3,a.c4,a.c5,Aq u.sh,Ax u.it,Al u.dm,.int .i64 n0,.int .i64 (n0+1),.int .i64 (n0+1+1),.int .i64 (n0+1+1+1),.int .i64 (n0+1+1+1+1),.int .i64 (n0+1+1+1+1+1),.int .i64 (.ofNat er)]) (px a<|pv u<|pi _<|pi _<|pi _<|pi _<|pi _<|pi _<|pi _<|rfl) (Ub _ _) (Aa ha<|Aa (Fe of0 rfl)<|Aa hv<|Ad) (Af (step_ok h0 (by omega) (decide_eq_false (by omega))) (Aa (Bo (n0) 1 (n0+1) rfl rfl rfl rfl (by unfold wrap64;omega))<|Aa (Cg (n0+1) 5000 rfl rfl rfl (by simp only[BB,inst,decide_true,cond_true];rw[decide_eq_false (by omega)]))<|Aa (Bo (n0+1) 1 (n0+1+1) rfl rfl rfl rfl (by unfold wrap64;omega))<|Aa (Cg (n0+1+1) 5000 rfl rfl rfl (by simp only[BB,inst,decide_true,cond_true];rw[decide_eq_false (by omega)]))<|Aa (Bo (n0+1+1) 1 (n0+1+1+1) rfl rfl rfl rfl (by unfold wrap64;omega))<|Aa (Cg (n0+1+1+1) 5000 rfl rfl rfl (by simp only[BB,inst,decide_true,cond_true];rw[decide_eq_false (by omega)]))<|Aa (Bo (n0+1+1+1) 1 (n0+1+1+1+1) rfl rfl rfl rfl (by unfold wrap64;omega))<|Aa (Cg (n0+1+1+1+1) 5000 rfl rfl rfl (by simp only[BB,inst,decide_true,cond_true];rw[decide_eq_false (by omega)]))<|Aa (Bo (n0+1+1+1+1) 1 (n0+1+1+1+1+1) rfl rfl rfl rfl (by unfold wrap64;omega))<|Aa (Cg (n0+1+1+1+1+1) 5000 rfl rfl rfl (by simp only[BB,inst,decide_true,cond_true];rw[decide_eq_false (by omega)]))<|Ad)) rfl rfl rfl rfl
theorem SP {e:En}{own:ME}{n:Int}(ho:AI own)(h0:0≤n)(h1:n<5000){a:X}{u:Vl}{n0:Int}{w1:Vl}{er:Nat}(hf:e.f=Ri)(ha:Ev e 1 own (n+1) a (.ok (u,n0)))(hn:0≤n0)(hn2:n0<4990)(hv:VF 74 [.int .i64 5,.agg [.emp,.psl (src 0) 1 none,.emp],u.av] (.ret w1.av))(hw:VF 74 [.int .i64 3,u.av,w1.av] (Cn er)):Ev e 1 own n (.call a) (.error er):=by
 obtain⟨ea,eb,ec,ev,ew,ef⟩:=e
 simp only at hf
 subst hf
 exact B6 (mu:=[own,A8]) (Ce ho) (r:=[a.c0,a.c1,a.c2,a.c3,a.c4,a.c5,Aq u.sh,Ax u.it,Al u.dm,.int .i64 n0,.int .i64 (n0+1),.int .i64 (n0+1+1),.int .i64 (n0+1+1+1),.int .i64 (n0+1+1+1+1),.int .i64 (n0+1+1+1+1+1),Aq w1.sh,Ax w1.it,Al w1.dm,.int .i64 (.ofNat er)]) (px a<|pv u<|pi _<|pi _<|pi _<|pi _<|pi _<|pi _<|pv w1<|pi _<|rfl) (T4 _ _) (Aa ha<|Aa (Fe of0 rfl)<|Aa hv<|Aa hw<|Ad) (Af (step_ok h0 (by omega) (decide_eq_false (by omega))) (Aa (Bo (n0) 1 (n0+1) rfl rfl rfl rfl (by unfold wrap64;omega))<|Aa (Cg (n0+1) 5000 rfl rfl rfl (by simp only[BB,inst,decide_true,cond_true];rw[decide_eq_false (by omega)]))<|Aa (Bo (n0+1) 1 (n0+1+1) rfl rfl rfl rfl (by unfold wrap64;omega))<|Aa (Cg (n0+1+1) 5000 rfl rfl rfl (by simp only[BB,inst,decide_true,cond_true];rw[decide_eq_false (by omega)]))<|Aa (Bo (n0+1+1) 1 (n0+1+1+1) rfl rfl rfl rfl (by unfold wrap64;omega))<|Aa (Cg (n0+1+1+1) 5000 rfl rfl rfl (by simp only[BB,inst,decide_true,cond_true];rw[decide_eq_false (by omega)]))<|Aa (Bo (n0+1+1+1) 1 (n0+1+1+1+1) rfl rfl rfl rfl (by unfold wrap64;omega))<|Aa (Cg (n0+1+1+1+1) 5000 rfl rfl rfl (by simp only[BB,inst,decide_true,cond_true];rw[decide_eq_false (by omega)]))<|Aa (Bo (n0+1+1+1+1) 1 (n0+1+1+1+1+1) rfl rfl rfl rfl (by unfold wrap64;omega))<|Aa (Cg (n0+1+1+1+1+1) 5000 rfl rfl rfl (by simp only[BB,inst,decide_true,cond_true];rw[decide_eq_false (by omega)]))<|Ad)) rfl rfl rfl rfl
theorem WW {e:En}{own:ME}{n:Int}(ho:AI own)(h0:0≤n)(h1:n<5000){a:X}{u:Vl}{n0:Int}{w1:Vl}{w:Vl}(hf:e.f=Ri)(ha:Ev e 1 own (n+1) a (.ok (u,n0)))(hn:0≤n0)(hn2:n0<4990)(hv:VF 74 [.int .i64 5,.agg [.emp,.psl (src 0) 1 none,.emp],u.av] (.ret w1.av))(hw:VF 74 [.int .i64 3,u.av,w1.av] (.ret w.av)):Ev e 1 own n (.call a) (.ok (w,n0+1+1+1+1+1)):=by
 obtain⟨ea,eb,ec,ev,ew,ef⟩:=e
 simp only at hf
 subst hf
 exact B6 (mu:=[own,A8]) (Ce ho) (r:=[a.c0,a.c1,a.c2,a.c3,a.c4,a.c5,Aq u.sh,Ax u.it,Al u.dm,.int .i64 n0,.int .i64 (n0+1),.int .i64 (n0+1+1),.int .i64 (n0+1+1+1),.int .i64 (n0+1+1+1+1),.int .i64 (n0+1+1+1+1+1),Aq w1.sh,Ax w1.it,Al w1.dm,Aq w.sh,Ax w.it,Al w.dm]) (px a<|pv u<|pi _<|pi _<|pi _<|pi _<|pi _<|pi _<|pv w1<|pv w<|rfl) (Wt _ _) (Aa ha<|Aa (Fe of0 rfl)<|Aa hv<|Aa hw<|Ad) (Af (step_ok h0 (by omega) (decide_eq_false (by omega))) (Aa (Bo (n0) 1 (n0+1) rfl rfl rfl rfl (by unfold wrap64;omega))<|Aa (Cg (n0+1) 5000 rfl rfl rfl (by simp only[BB,inst,decide_true,cond_true];rw[decide_eq_false (by omega)]))<|Aa (Bo (n0+1) 1 (n0+1+1) rfl rfl rfl rfl (by unfold wrap64;omega))<|Aa (Cg (n0+1+1) 5000 rfl rfl rfl (by simp only[BB,inst,decide_true,cond_true];rw[decide_eq_false (by omega)]))<|Aa (Bo (n0+1+1) 1 (n0+1+1+1) rfl rfl rfl rfl (by unfold wrap64;omega))<|Aa (Cg (n0+1+1+1) 5000 rfl rfl rfl (by simp only[BB,inst,decide_true,cond_true];rw[decide_eq_false (by omega)]))<|Aa (Bo (n0+1+1+1) 1 (n0+1+1+1+1) rfl rfl rfl rfl (by unfold wrap64;omega))<|Aa (Cg (n0+1+1+1+1) 5000 rfl rfl rfl (by simp only[BB,inst,decide_true,cond_true];rw[decide_eq_false (by omega)]))<|Aa (Bo (n0+1+1+1+1) 1 (n0+1+1+1+1+1) rfl rfl rfl rfl (by unfold wrap64;omega))<|Aa (Cg (n0+1+1+1+1+1) 5000 rfl rfl rfl (by simp only[BB,inst,decide_true,cond_true];rw[decide_eq_false (by omega)]))<|Ad)) rfl rfl rfl rfl
theorem TS {e:En}{own:ME}{n:Int}(ho:AI own)(h0:0≤n)(h1:n<5000){a:X}{k:Nat}{cp cd:List Nat}{q p:Q}{n0:Int}{er:Nat}(hk:k∈[0,1,2,3,4,5])(hf:e.f=QZ k cp cd q)(ha:Ev e 1 own (n+1) a (.ok (⟨[],[p],.m⟩,n0)))(hp:Ok p)(hn:0≤n0)(hn2:n0<4990)(hl:decide (p.1*1<(k:Int)*p.2)=true)(hq:VF 123 [.agg [.str cp,.str cd]] (.ret (BQ q)))(hv:VF 74 [.int .i64 5,(⟨[],[q],.pl⟩:Vl).av,(⟨[],[p],.m⟩:Vl).av] (Cn er)):Ev e 1 own n (.call a) (.error er):=by
 obtain⟨ea,eb,ec,ev,ew,ef⟩:=e
 simp only at hf
 subst hf
 exact B6 (mu:=[own,A8]) (Ce ho) (r:=[a.c0,a.c1,a.c2,a.c3,a.c4,a.c5,sg p.1,lm p.1,sg p.2,lm p.2,.int .i64 n0,.str cp,.str cd,Ag (k:Int),.int .i64 (n0+1),.int .i64 (n0+1+1),.int .i64 (n0+1+1+1),.int .i64 (n0+1+1+1+1),.int .i64 (n0+1+1+1+1+1),.int .i64 (n0+1+1+1+1+1+1),.int .i64 (BC (p.1*1) ((k:Int)*p.2)),sg q.1,lm q.1,sg q.2,lm q.2,.int .i64 (.ofNat er)]) (px a<|pq p<|pi _<|ps _<|ps _<|ps _<|pi _<|pi _<|pi _<|pi _<|pi _<|pi _<|pi _<|pq q<|pi _<|rfl) (List.all_eq_true.1 (TW _ _) _ hk) (Af (BS _ _) (Aa ha<|Aa (Fe (ofK hk) (by simp only[Bu,Cz]<;>rfl))<|Aa (Fe of1 rfl)<|Aa (Ac (EP _ _ _ (kB hk) (by decide) (kB hk) (Int.mul_one _)) (by simp only[Au,Cz]<;>rfl) (by simp only[Bu,Cz]<;>rfl))<|Aa (Ac (OT _ (kB hk)) (by simp only[Au,Cz]<;>rfl) rfl)<|Aa (Ac (ordK hp hk) (by simp only[Au,Cz]<;>rfl) rfl)<|Aa hq<|Aa hv<|Ad)) (Af (step_ok h0 (by omega) (decide_eq_false (by omega))) (Aa (Cf _ _ rfl rfl (by rw[←hl];exact decide_eq_decide.2 (CC _ _))) (Aa (Bo (n0) 1 (n0+1) rfl rfl rfl rfl (by unfold wrap64;omega))<|Aa (Cg (n0+1) 5000 rfl rfl rfl (by simp only[BB,inst,decide_true,cond_true];rw[decide_eq_false (by omega)]))<|Aa (Bo (n0+1) 1 (n0+1+1) rfl rfl rfl rfl (by unfold wrap64;omega))<|Aa (Cg (n0+1+1) 5000 rfl rfl rfl (by simp only[BB,inst,decide_true,cond_true];rw[decide_eq_false (by omega)]))<|Aa (Bo (n0+1+1) 1 (n0+1+1+1) rfl rfl rfl rfl (by unfold wrap64;omega))<|Aa (Cg (n0+1+1+1) 5000 rfl rfl rfl (by simp only[BB,inst,decide_true,cond_true];rw[decide_eq_false (by omega)]))<|Aa (Bo (n0+1+1+1) 1 (n0+1+1+1+1) rfl rfl rfl rfl (by unfold wrap64;omega))<|Aa (Cg (n0+1+1+1+1) 5000 rfl rfl rfl (by simp only[BB,inst,decide_true,cond_true];rw[decide_eq_false (by omega)]))<|Aa (Bo (n0+1+1+1+1) 1 (n0+1+1+1+1+1) rfl rfl rfl rfl (by unfold wrap64;omega))<|Aa (Cg (n0+1+1+1+1+1) 5000 rfl rfl rfl (by simp only[BB,inst,decide_true,cond_true];rw[decide_eq_false (by omega)]))<|Aa (Bo (n0+1+1+1+1+1) 1 (n0+1+1+1+1+1+1) rfl rfl rfl rfl (by unfold wrap64;omega))<|Aa (Cg (n0+1+1+1+1+1+1) 5000 rfl rfl rfl (by simp only[BB,inst,decide_true,cond_true];rw[decide_eq_false (by omega)]))<|Ad))) rfl rfl rfl rfl
theorem Th {e:En}{own:ME}{n:Int}(ho:AI own)(h0:0≤n)(h1:n<5000){a:X}{k:Nat}{cp cd:List Nat}{q p:Q}{n0:Int}{w:Vl}(hk:k∈[0,1,2,3,4,5])(hf:e.f=QZ k cp cd q)(ha:Ev e 1 own (n+1) a (.ok (⟨[],[p],.m⟩,n0)))(hp:Ok p)(hn:0≤n0)(hn2:n0<4990)(hl:decide (p.1*1<(k:Int)*p.2)=true)(hq:VF 123 [.agg [.str cp,.str cd]] (.ret (BQ q)))(hv:VF 74 [.int .i64 5,(⟨[],[q],.pl⟩:Vl).av,(⟨[],[p],.m⟩:Vl).av] (.ret w.av)):Ev e 1 own n (.call a) (.ok (w,n0+1+1+1+1+1+1)):=by
 obtain⟨ea,eb,ec,ev,ew,ef⟩:=e
 simp only at hf
 subst hf
 exact B6 (mu:=[own,A8]) (Ce ho) (r:=[a.c0,a.c1,a.c2,a.c3,a.c4,a.c5,sg p.1,lm p.1,sg p.2,lm p.2,.int .i64 n0,.str cp,.str cd,Ag (k:Int),.int .i64 (n0+1),.int .i64 (n0+1+1),.int .i64 (n0+1+1+1),.int .i64 (n0+1+1+1+1),.int .i64 (n0+1+1+1+1+1),.int .i64 (n0+1+1+1+1+1+1),.int .i64 (BC (p.1*1) ((k:Int)*p.2)),sg q.1,lm q.1,sg q.2,lm q.2,Aq w.sh,Ax w.it,Al w.dm]) (px a<|pq p<|pi _<|ps _<|ps _<|ps _<|pi _<|pi _<|pi _<|pi _<|pi _<|pi _<|pi _<|pq q<|pv w<|rfl) (List.all_eq_true.1 (Tc _ _) _ hk) (Af (BS _ _) (Aa ha<|Aa (Fe (ofK hk) (by simp only[Bu,Cz]<;>rfl))<|Aa (Fe of1 rfl)<|Aa (Ac (EP _ _ _ (kB hk) (by decide) (kB hk) (Int.mul_one _)) (by simp only[Au,Cz]<;>rfl) (by simp only[Bu,Cz]<;>rfl))<|Aa (Ac (OT _ (kB hk)) (by simp only[Au,Cz]<;>rfl) rfl)<|Aa (Ac (ordK hp hk) (by simp only[Au,Cz]<;>rfl) rfl)<|Aa hq<|Aa hv<|Ad)) (Af (step_ok h0 (by omega) (decide_eq_false (by omega))) (Aa (Cf _ _ rfl rfl (by rw[←hl];exact decide_eq_decide.2 (CC _ _))) (Aa (Bo (n0) 1 (n0+1) rfl rfl rfl rfl (by unfold wrap64;omega))<|Aa (Cg (n0+1) 5000 rfl rfl rfl (by simp only[BB,inst,decide_true,cond_true];rw[decide_eq_false (by omega)]))<|Aa (Bo (n0+1) 1 (n0+1+1) rfl rfl rfl rfl (by unfold wrap64;omega))<|Aa (Cg (n0+1+1) 5000 rfl rfl rfl (by simp only[BB,inst,decide_true,cond_true];rw[decide_eq_false (by omega)]))<|Aa (Bo (n0+1+1) 1 (n0+1+1+1) rfl rfl rfl rfl (by unfold wrap64;omega))<|Aa (Cg (n0+1+1+1) 5000 rfl rfl rfl (by simp only[BB,inst,decide_true,cond_true];rw[decide_eq_false (by omega)]))<|Aa (Bo (n0+1+1+1) 1 (n0+1+1+1+1) rfl rfl rfl rfl (by unfold wrap64;omega))<|Aa (Cg (n0+1+1+1+1) 5000 rfl rfl rfl (by simp only[BB,inst,decide_true,cond_true];rw[decide_eq_false (by omega)]))<|Aa (Bo (n0+1+1+1+1) 1 (n0+1+1+1+1+1) rfl rfl rfl rfl (by unfold wrap64;omega))<|Aa (Cg (n0+1+1+1+1+1) 5000 rfl rfl rfl (by simp only[BB,inst,decide_true,cond_true];rw[decide_eq_false (by omega)]))<|Aa (Bo (n0+1+1+1+1+1) 1 (n0+1+1+1+1+1+1) rfl rfl rfl rfl (by unfold wrap64;omega))<|Aa (Cg (n0+1+1+1+1+1+1) 5000 rfl rfl rfl (by simp only[BB,inst,decide_true,cond_true];rw[decide_eq_false (by omega)]))<|Ad))) rfl rfl rfl rfl
theorem SI {e:En}{own:ME}{n:Int}(ho:AI own)(h0:0≤n)(h1:n<5000){a:X}{k:Nat}{cp cd:List Nat}{q p:Q}{n0:Int}(hk:k∈[0,1,2,3,4,5])(hf:e.f=QZ k cp cd q)(ha:Ev e 1 own (n+1) a (.ok (⟨[],[p],.m⟩,n0)))(hp:Ok p)(hn:0≤n0)(hn2:n0<4990)(hl:decide (p.1*1<(k:Int)*p.2)=false):Ev e 1 own n (.call a) (.ok (⟨[],[p],.m⟩,n0+1+1+1+1)):=by
 obtain⟨ea,eb,ec,ev,ew,ef⟩:=e
 simp only at hf
 subst hf
 exact B6 (mu:=[own,A8]) (Ce ho) (r:=[a.c0,a.c1,a.c2,a.c3,a.c4,a.c5,sg p.1,lm p.1,sg p.2,lm p.2,.int .i64 n0,.str cp,.str cd,Ag (k:Int),.int .i64 (n0+1),.int .i64 (n0+1+1),.int .i64 (n0+1+1+1),.int .i64 (n0+1+1+1+1),.int .i64 (BC (p.1*1) ((k:Int)*p.2))]) (px a<|pq p<|pi _<|ps _<|ps _<|ps _<|pi _<|pi _<|pi _<|pi _<|pi _<|rfl) (List.all_eq_true.1 (SX _ _) _ hk) (Af (BS _ _) (Aa ha<|Aa (Fe (ofK hk) (by simp only[Bu,Cz]<;>rfl))<|Aa (Fe of1 rfl)<|Aa (Ac (EP _ _ _ (kB hk) (by decide) (kB hk) (Int.mul_one _)) (by simp only[Au,Cz]<;>rfl) (by simp only[Bu,Cz]<;>rfl))<|Aa (Ac (OT _ (kB hk)) (by simp only[Au,Cz]<;>rfl) rfl)<|Aa (Ac (ordK hp hk) (by simp only[Au,Cz]<;>rfl) rfl)<|Ad)) (Af (step_ok h0 (by omega) (decide_eq_false (by omega))) (Aa (Cf _ _ rfl rfl (by rw[←hl];exact decide_eq_decide.2 (CC _ _))) (Aa (Bo (n0) 1 (n0+1) rfl rfl rfl rfl (by unfold wrap64;omega))<|Aa (Cg (n0+1) 5000 rfl rfl rfl (by simp only[BB,inst,decide_true,cond_true];rw[decide_eq_false (by omega)]))<|Aa (Bo (n0+1) 1 (n0+1+1) rfl rfl rfl rfl (by unfold wrap64;omega))<|Aa (Cg (n0+1+1) 5000 rfl rfl rfl (by simp only[BB,inst,decide_true,cond_true];rw[decide_eq_false (by omega)]))<|Aa (Bo (n0+1+1) 1 (n0+1+1+1) rfl rfl rfl rfl (by unfold wrap64;omega))<|Aa (Cg (n0+1+1+1) 5000 rfl rfl rfl (by simp only[BB,inst,decide_true,cond_true];rw[decide_eq_false (by omega)]))<|Aa (Bo (n0+1+1+1) 1 (n0+1+1+1+1) rfl rfl rfl rfl (by unfold wrap64;omega))<|Aa (Cg (n0+1+1+1+1) 5000 rfl rfl rfl (by simp only[BB,inst,decide_true,cond_true];rw[decide_eq_false (by omega)]))<|Ad))) rfl rfl rfl rfl
def DM:Bs→List Nat→Option Vl→Option Vl
 | [],_,o=>o
 | p::r,s,o=>DM r s (bif Av p.1 s then some p.2 else o)
theorem LJ {l:List AV}{c:List (List Nat)}{s:List Nat}{k:Nat}(h:runR l c s=true)(hk:YJ (DS c 26) s (nmS s)=some k):(([]:List OF).all (fun q=>BH q.N q.args q.l q.res q.u)&&Br (EM l [[],A8] [] (AN false) [] []) 4000 80 6 191 [.ptr 0 0,scA 1,.agg [.int .i64 1,.str [],.str [],.str s,.int .i64 0,.emp]] (lwG (.sel 24) (.map (skE (DS c 26)) 0) (.opq 1) G7 D6) (AJ k) (uwG ((some 25).map .sel) (.map (skE (DS c 26)) 0) (.opq 1) G7 D6))=true:=by
 unfold runR at h
 rw[hk] at h
 exact h
def En.nm (e:En)(s:List Nat):Option Vl:=bif Av s nA then some e.a else bif Av s nB then some e.b else bif Av s nC then some e.c else bif Av s nV then some e.v else bif Av s nW then some e.w else none
theorem n_ref0 {e:En}{n:Int}(h0:0≤n)(hlt:n<5000){s:List Nat}(hs:s∈refs){w:Vl}(hv:DM [] s (e.nm s)=some w):Ev e 1 (CL []) n (.ref s) (.ok (w,n+1)):=by
 have hr:=List.all_eq_true.1 (List.all_eq_true.1 (r_ref0 (CI e n [])) _ (Ht)) _ hs
 simp only[refs,List.mem_cons,List.not_mem_nil,or_false] at hs
 rcases hs with rfl|rfl|rfl|rfl|rfl|rfl<;>first
  | (cases hv;done)
  | (cases hv;exact B6 (mu:=[[],A8]) rfl (rfl) (LJ hr rfl) Ad (step_ok h0 (by omega) (decide_eq_false (by omega))) rfl rfl rfl rfl)
theorem n_ref1 {e:En}{n:Int}(h0:0≤n)(hlt:n<5000){s1 s:List Nat}(h1:s1∈Ch)(hs:s∈refs){v1:Vl}{w:Vl}(hv:DM [(s1,v1)] s (e.nm s)=some w):Ev e 1 (CL [(s1,v1)]) n (.ref s) (.ok (w,n+1)):=by
 have hr:=List.all_eq_true.1 (List.all_eq_true.1 (r_ref1 (CI e n [Aq v1.sh,Ax v1.it,Al v1.dm])) _ (He h1)) _ hs
 simp only[Ch,refs,List.mem_cons,List.not_mem_nil,or_false] at h1 hs
 rcases h1 with rfl|rfl|rfl|rfl<;>rcases hs with rfl|rfl|rfl|rfl|rfl|rfl<;>first
  | (cases hv;done)
  | (cases hv;exact B6 (mu:=[[],A8]) rfl (pv v1<|rfl) (LJ hr rfl) Ad (step_ok h0 (by omega) (decide_eq_false (by omega))) rfl rfl rfl rfl)
theorem n_ref2 {e:En}{n:Int}(h0:0≤n)(hlt:n<5000){s1 s2 s:List Nat}(h1:s1∈Ch)(h2:s2∈Ct)(hs:s∈refs){v1 v2:Vl}{w:Vl}(hv:DM [(s1,v1),(s2,v2)] s (e.nm s)=some w):Ev e 1 (CL [(s1,v1),(s2,v2)]) n (.ref s) (.ok (w,n+1)):=by
 have hr:=List.all_eq_true.1 (List.all_eq_true.1 (r_ref2 (CI e n [Aq v1.sh,Ax v1.it,Al v1.dm,Aq v2.sh,Ax v2.it,Al v2.dm])) _ (Ie h1 h2)) _ hs
 simp only[Ch,Ct,refs,List.mem_cons,List.not_mem_nil,or_false] at h1 h2 hs
 rcases h1 with rfl|rfl|rfl|rfl<;>rcases h2 with rfl|rfl|rfl<;>rcases hs with rfl|rfl|rfl|rfl|rfl|rfl<;>first
  | (cases hv;done)
  | (cases hv;exact B6 (mu:=[[],A8]) rfl (pv v1<|pv v2<|rfl) (LJ hr rfl) Ad (step_ok h0 (by omega) (decide_eq_false (by omega))) rfl rfl rfl rfl)
set_option maxHeartbeats 8000000 in
theorem n_ref3 {e:En}{n:Int}(h0:0≤n)(hlt:n<5000){s1 s2 s3 s:List Nat}(h1:s1∈Ch)(h2:s2∈Ct)(h3:s3∈Ct)(hs:s∈refs){v1 v2 v3:Vl}{w:Vl}(hv:DM [(s1,v1),(s2,v2),(s3,v3)] s (e.nm s)=some w):Ev e 1 (CL [(s1,v1),(s2,v2),(s3,v3)]) n (.ref s) (.ok (w,n+1)):=by
 have hr:=List.all_eq_true.1 (List.all_eq_true.1 (r_ref3 (CI e n [Aq v1.sh,Ax v1.it,Al v1.dm,Aq v2.sh,Ax v2.it,Al v2.dm,Aq v3.sh,Ax v3.it,Al v3.dm])) _ (Aab h1 h2 h3)) _ hs
 simp only[Ch,Ct,refs,List.mem_cons,List.not_mem_nil,or_false] at h1 h2 h3 hs
 rcases h1 with rfl|rfl|rfl|rfl<;>rcases h2 with rfl|rfl|rfl<;>rcases h3 with rfl|rfl|rfl<;>rcases hs with rfl|rfl|rfl|rfl|rfl|rfl<;>first
  | (cases hv;done)
  | (cases hv;exact B6 (mu:=[[],A8]) rfl (pv v1<|pv v2<|pv v3<|rfl) (LJ hr rfl) Ad (step_ok h0 (by omega) (decide_eq_false (by omega))) rfl rfl rfl rfl)
inductive Kd where
 | pl|m|s|m3|pl3|m2|ms
 deriving DecidableEq
def Kd.dm:Kd→Dm
 | .pl | .pl3=>.pl
 | .m | .m3=>.m
 | .s=>.s
 | .m2=>.m2
 | .ms=>.ms
def Kd.arr:Kd→Bool
 | .m3 | .pl3=>true
 | _=>false
structure VOk (k:Kd)(v:Vl):Prop where
 dm:v.dm=k.dm
 sh:v.sh=if k.arr then[3] else[]
 len:v.it.length=if k.arr then 3 else 1
 it:∀q∈v.it,Ok q
theorem VOk.one {k:Kd}(hk:k.arr=false){v:Vl}(h:VOk k v):∃a,v=⟨[],[a],k.dm⟩ ∧Ok a:=by
 obtain⟨sh,it,dm⟩:=v
 have h1:=h.dm;have h2:=h.sh;have h3:=h.len;have h4:=h.it
 simp only[hk] at h1 h2 h3 h4
 simp at h2 h3
 obtain⟨a,rfl⟩:=List.length_eq_one_iff.1 h3
 subst h1 h2
 exact⟨a,rfl,h4 a (by simp)⟩
theorem VOk.three {k:Kd}(hk:k.arr=true){v:Vl}(h:VOk k v):∃a b c,v=⟨[3],[a,b,c],k.dm⟩ ∧Ok a∧Ok b∧Ok c:=by
 obtain⟨sh,it,dm⟩:=v
 have h1:=h.dm;have h2:=h.sh;have h3:=h.len;have h4:=h.it
 simp only[hk] at h1 h2 h3 h4
 simp at h2 h3
 obtain⟨a,b,c,rfl⟩:∃a b c,it=[a,b,c]:=by
  match it,h3 with
  | [a,b,c],_=>exact⟨a,b,c,rfl⟩
 subst h1 h2
 exact⟨a,b,c,rfl,h4 a (by simp),h4 b (by simp),h4 c (by simp)⟩
theorem BX {k:Kd}(hk:k.arr=false){a:Q}(h:Ok a):VOk k ⟨[],[a],k.dm⟩:=⟨rfl,by simp[hk],by simp[hk],by simpa using h⟩
theorem E5 {k:Kd}(hk:k.arr=true){a b c:Q}(ha:Ok a)(hb:Ok b)(hc:Ok c):VOk k ⟨[3],[a,b,c],k.dm⟩:=⟨rfl,by simp[hk],by simp[hk],by simp[ha,hb,hc]⟩
def kdR (op:Nat)(a b:Kd):Option Kd:=match op,a,b with
 | 3,x,y=>if x=y then some x else none
 | 4,x,y=>if x=y then some x else none
 | 5,.pl,x=>some x
 | 5,.m,.m=>some .m2
 | 5,.ms,.s=>some .m
 | 6,x,.pl=>some x
 | 6,.m,.m=>some .pl
 | 6,.m,.ms=>some .s
 | 6,.m,.s=>some .ms
 | _,_,_=>none
def kds:List Kd:=[.pl,.m,.s,.m3,.pl3,.m2,.ms]
theorem Jh (k:Kd):k∈kds:=by cases k<;>decide
def S2 (op:Nat)(a b:Kd):Bool:=
 bif a.arr then(bif b.arr then decide ((op,a.dm,b.dm)∈Gd) else decide ((op,a.dm,b.dm)∈D9))
 else(bif b.arr then decide ((op,a.dm,b.dm)∈Gs) else decide ((op,a.dm,b.dm)∈FF))
theorem Yt:([3,4,5,6].all fun op=>kds.all fun a=>kds.all fun b=>match kdR op a b with
 | some k=>S2 op a b&&(decide (F2 op a.dm b.dm=some k.dm)&&decide (k.arr=(a.arr||b.arr)))
 | none=>true)=true:=by decide
theorem YO {op:Nat}(ho:op∈[3,4,5,6]){a b k:Kd}(h:kdR op a b=some k):S2 op a b=true∧F2 op a.dm b.dm=some k.dm∧k.arr=(a.arr||b.arr):=by
 have:=List.all_eq_true.1 (List.all_eq_true.1 (List.all_eq_true.1 Yt op ho) a (Jh a)) b (Jh b)
 rw[h] at this
 simp only[Bool.and_eq_true,decide_eq_true_eq] at this
 exact⟨this.1,this.2.1,this.2.2⟩
theorem AaS {op:Nat}(ho:op∈[3,4,5,6]):EV op=true:=by
 simp only[List.mem_cons,List.not_mem_nil,or_false] at ho
 rcases ho with rfl|rfl|rfl|rfl<;>rfl
theorem zR11 {l:List AV}{du dv:Dm}(hc:(6,du,dv)∈FF):SM l du dv=true:=by
 have:=List.all_eq_true.1 (AbC l) _ hc
 exact this
theorem zR31 {l:List AV}{du dv:Dm}(hc:(6,du,dv)∈D9):Tt l du dv=true:=by
 have:=List.all_eq_true.1 (AcO l) _ hc
 exact this
theorem Aa9 {du dv:Dm}(hc:(6,du,dv)∈FF){a b:Q}(hb:b.1=0):VF 74 [.int .i64 (.ofNat 6),(⟨[],[a],du⟩:Vl).av,(⟨[],[b],dv⟩:Vl).av] (Cn 12):=by
 have hr:=zR11 (l:=KW 6 a b) hc
 unfold SM at hr
 simp only[Bool.and_eq_true] at hr
 have:=Ci (L9 6 a b) (mu:=[]) rfl hr.1 (Af (AY _) (Aa (Ac (RA hb) rfl rfl) Ad)) Ad Ad Ad hr.2
 rw[PB] at this
 exact this
theorem Acx {du dv:Dm}(hc:(6,du,dv)∈D9){a0 a1 a2 b:Q}(hb:b.1=0):VF 74 [.int .i64 (.ofNat 6),(⟨[3],[a0,a1,a2],du⟩:Vl).av,(⟨[],[b],dv⟩:Vl).av] (Cn 12):=by
 have hr:=zR31 (l:=IY 6 a0 a1 a2 b) hc
 unfold Tt at hr
 simp only[Bool.and_eq_true] at hr
 have:=Ci (Ib 6 a0 a1 a2 b) (mu:=[]) rfl hr.1 (Af (AY _) (Aa (Ac (RA hb) rfl rfl) Ad)) Ad Ad Ad hr.2
 rw[Ka] at this
 exact this
theorem IT {op:Nat}(ho:EV op=true){a b:Q}(ha:Ok a)(hb:Ok b)(hz:op=6→b.1≠0)(hf:Be (opQ op a b)=true):Ok (opQ op a b):=⟨hf,(AZ ho ha.st hb.st hz).pos⟩
theorem Js {op:Nat}(ho:op∈[3,4,5,6]){ka kb k:Kd}(hk:kdR op ka kb=some k){u v:Vl}(hu:VOk ka u)(hv:VOk kb v):VF 74 [.int .i64 (.ofNat op),u.av,v.av] (resR (Ck op u v))∧∀w,Ck op u v=.ok w→VOk k w:=by
 obtain⟨h1,h2,h3⟩:=YO ho hk
 have hop:=AaS ho
 unfold S2 at h1
 cases hka:ka.arr with
 | false=>
  obtain⟨a,rfl,oa⟩:=hu.one hka
  cases hkb:kb.arr with
  | false=>
   obtain⟨b,rfl,ob⟩:=hv.one hkb
   rw[hka,hkb] at h1 h3
   simp only[cond_false,decide_eq_true_eq] at h1
   have hk0:k.arr=false:=h3
   have e:Ck op ⟨[],[a],ka.dm⟩ ⟨[],[b],kb.dm⟩=if op=6∧b.1=0 then .error 12 else if Be (opQ op a b) then .ok ⟨[],[opQ op a b],k.dm⟩ else .error 13:=by
    simp[Ck,Hy,Ed,h2]
   rw[e]
   by_cases hz:op=6∧b.1=0
   ·rw[if_pos hz]
    obtain⟨rfl,hb0⟩:=hz
    exact⟨Aa9 h1 hb0,nofun⟩
   ·rw[if_neg hz]
    have hz:op=6→b.1≠0:=fun e1 e2=>hz ⟨e1,e2⟩
    cases hf:Be (opQ op a b) with
    | true=>
     refine⟨Xc h1 hop oa ob hz hf h2,fun w hw=>?_⟩
     cases hw
     exact BX hk0 (IT hop oa ob hz hf)
    | false=>exact⟨Xi h1 hop oa ob hz hf h2,nofun⟩
  | true=>
   obtain⟨b0,b1,b2,rfl,o0,o1,o2⟩:=hv.three hkb
   rw[hka,hkb] at h1 h3
   simp only[cond_false,cond_true,decide_eq_true_eq] at h1
   have hk0:k.arr=true:=h3
   have h6:op≠6:=by
    rintro rfl
    revert h1
    cases ka.dm<;>cases kb.dm<;>decide
   have hz:∀b:Q,op=6→b.1≠0:=fun b e1=>absurd e1 h6
   have e:Ck op ⟨[],[a],ka.dm⟩ ⟨[3],[b0,b1,b2],kb.dm⟩=if Be (opQ op a b0)&&(Be (opQ op a b1)&&Be (opQ op a b2)) then .ok ⟨[3],[opQ op a b0,opQ op a b1,opQ op a b2],k.dm⟩ else .error 13:=by
    simp[Ck,Hy,Ed,h2,h6]
   rw[e]
   cases f0:Be (opQ op a b0) with
   | false=>exact⟨Xs h1 hop oa o0 o1 o2 h6 f0 h2,nofun⟩
   | true=>
    cases f1:Be (opQ op a b1) with
    | false=>exact⟨WJ h1 hop oa o0 o1 o2 h6 f0 f1 h2,nofun⟩
    | true=>
     cases f2:Be (opQ op a b2) with
     | false=>exact⟨Xf h1 hop oa o0 o1 o2 h6 f0 f1 f2 h2,nofun⟩
     | true=>
      refine⟨WR h1 hop oa o0 o1 o2 h6 f0 f1 f2 h2,fun w hw=>?_⟩
      cases hw
      exact E5 hk0 (IT hop oa o0 (hz _) f0) (IT hop oa o1 (hz _) f1) (IT hop oa o2 (hz _) f2)
 | true=>
  obtain⟨a0,a1,a2,rfl,p0,p1,p2⟩:=hu.three hka
  cases hkb:kb.arr with
  | false=>
   obtain⟨b,rfl,ob⟩:=hv.one hkb
   rw[hka,hkb] at h1 h3
   simp only[cond_false,cond_true,decide_eq_true_eq] at h1
   have hk0:k.arr=true:=h3
   have e:Ck op ⟨[3],[a0,a1,a2],ka.dm⟩ ⟨[],[b],kb.dm⟩=if op=6∧b.1=0 then .error 12 else if Be (opQ op a0 b)&&(Be (opQ op a1 b)&&Be (opQ op a2 b)) then .ok ⟨[3],[opQ op a0 b,opQ op a1 b,opQ op a2 b],k.dm⟩ else .error 13:=by
    simp[Ck,Hy,Ed,h2]
   rw[e]
   by_cases hz:op=6∧b.1=0
   ·rw[if_pos hz]
    obtain⟨rfl,hb0⟩:=hz
    exact⟨Acx h1 hb0,nofun⟩
   ·rw[if_neg hz]
    have hz:op=6→b.1≠0:=fun e1 e2=>hz ⟨e1,e2⟩
    cases f0:Be (opQ op a0 b) with
    | false=>exact⟨VZ h1 hop p0 p1 p2 ob hz f0 h2,nofun⟩
    | true=>
     cases f1:Be (opQ op a1 b) with
     | false=>exact⟨Wd h1 hop p0 p1 p2 ob hz f0 f1 h2,nofun⟩
     | true=>
      cases f2:Be (opQ op a2 b) with
      | false=>exact⟨VN h1 hop p0 p1 p2 ob hz f0 f1 f2 h2,nofun⟩
      | true=>
       refine⟨VQ h1 hop p0 p1 p2 ob hz f0 f1 f2 h2,fun w hw=>?_⟩
       cases hw
       exact E5 hk0 (IT hop p0 ob hz f0) (IT hop p1 ob hz f1) (IT hop p2 ob hz f2)
  | true=>
   obtain⟨b0,b1,b2,rfl,o0,o1,o2⟩:=hv.three hkb
   rw[hka,hkb] at h1 h3
   simp only[cond_true,decide_eq_true_eq] at h1
   have hk0:k.arr=true:=h3
   have h6:op≠6:=by
    rintro rfl
    revert h1
    cases ka.dm<;>cases kb.dm<;>decide
   have hz:∀b:Q,op=6→b.1≠0:=fun b e1=>absurd e1 h6
   have e:Ck op ⟨[3],[a0,a1,a2],ka.dm⟩ ⟨[3],[b0,b1,b2],kb.dm⟩=if Be (opQ op a0 b0)&&(Be (opQ op a1 b1)&&Be (opQ op a2 b2)) then .ok ⟨[3],[opQ op a0 b0,opQ op a1 b1,opQ op a2 b2],k.dm⟩ else .error 13:=by
    simp[Ck,Hy,Ed,h2,h6]
   rw[e]
   cases f0:Be (opQ op a0 b0) with
   | false=>exact⟨Xe h1 hop p0 p1 p2 o0 o1 o2 h6 f0 h2,nofun⟩
   | true=>
    cases f1:Be (opQ op a1 b1) with
    | false=>exact⟨Wn h1 hop p0 p1 p2 o0 o1 o2 h6 f0 f1 h2,nofun⟩
    | true=>
     cases f2:Be (opQ op a2 b2) with
     | false=>exact⟨Xd h1 hop p0 p1 p2 o0 o1 o2 h6 f0 f1 f2 h2,nofun⟩
     | true=>
      refine⟨VX h1 hop p0 p1 p2 o0 o1 o2 h6 f0 f1 f2 h2,fun w hw=>?_⟩
      cases hw
      exact E5 hk0 (IT hop p0 o0 (hz _) f0) (IT hop p1 o1 (hz _) f1) (IT hop p2 o2 (hz _) f2)
def dmH:List Vl→Dm
 | []=>.pl
 | v::_=>v.dm
def KI (l:List Vl):Vl:=⟨l.length::(match l with | []=>[]|v::_=>v.sh),l.flatMap (·.it),dmH l⟩
def Gm:Kd→Option Kd
 | .pl=>some .pl3
 | .m=>some .m3
 | _=>none
theorem QD {k ka:Kd}(hk:Gm k=some ka){u v w:Vl}(hu:VOk k u)(hv:VOk k v)(hw:VOk k w):VF 269 [Dk [u,v,w]] (.ret (KI [u,v,w]).av)∧VOk ka (KI [u,v,w]):=by
 have ha:k.arr=false∧ka.arr=true∧ka.dm=k.dm:=by
  cases k<;>simp[Gm] at hk<;>subst hk<;>exact⟨rfl,rfl,rfl⟩
 obtain⟨a,rfl,oa⟩:=hu.one ha.1
 obtain⟨b,rfl,ob⟩:=hv.one ha.1
 obtain⟨c,rfl,oc⟩:=hw.one ha.1
 refine⟨Aa0 k.dm a b c,?_⟩
 show VOk ka ⟨[3],[a,b,c],k.dm⟩
 rw[←ha.2.2]
 exact E5 ha.2.1 oa ob oc
def OQ (u:Vl)(i:Nat):Except Nat Vl:=match u.it[i]? with
 | some q=>.ok ⟨[],[q],u.dm⟩
 | none=>.error 3
theorem Yr {k ka:Kd}(hk:Gm k=some ka){u:Vl}(hu:VOk ka u){i:Nat}(hi:i<4):VF 273 [u.av,(⟨[],[((i:Int),1)],.pl⟩:Vl).av] (resR (OQ u i))∧∀w,OQ u i=.ok w→VOk k w:=by
 have ha:k.arr=false∧ka.arr=true∧ka.dm=k.dm:=by
  cases k<;>simp[Gm] at hk<;>subst hk<;>exact⟨rfl,rfl,rfl⟩
 obtain⟨a,b,c,rfl,oa,ob,oc⟩:=hu.three ha.2.1
 rw[ha.2.2]
 match i,hi with
 | 0,_=>exact⟨ZV k.dm a b c,fun w hw=>by cases hw;exact BX ha.1 oa⟩
 | 1,_=>exact⟨Aat k.dm a b c,fun w hw=>by cases hw;exact BX ha.1 ob⟩
 | 2,_=>exact⟨X7 k.dm a b c,fun w hw=>by cases hw;exact BX ha.1 oc⟩
 | 3,_=>exact⟨Yk k.dm a b c,nofun⟩
def M4:List Vl→Q
 | []=>(0,1)
 | v::r=>r.foldl (fun q w=>Ak q (w.it.headD (0,1))) (v.it.headD (0,1))
def GO (l:List Vl):Except Nat Vl:=Ed ⟨[],[M4 l],dmH l⟩
theorem Ju {k:Kd}(hk:k.arr=false){l:List Vl}(hl:∀v∈l,VOk k v)(h1:1≤l.length)(h4:l.length≤4):VF 268 [Dk l] (resR (GO l))∧∀w,GO l=.ok w→VOk k w:=by
 have hpos:∀{l:List Vl},(∀v∈l,VOk k v)→1≤l.length→l.length≤4→∀{q:Q},M4 l=q→Be q=true→Ok q:=by
  intro l hl h1 h4 q hq hf
  refine⟨hf,?_⟩
  subst hq
  match l,h1 with
  | v::r,_=>
   obtain⟨a,rfl,oa⟩:=(hl v (by simp)).one hk
   have key:∀(r:List Vl) (q:Q) (j:Nat),(∀v∈r,VOk k v)→Wid j q→0<(r.foldl (fun q w=>Ak q (w.it.headD (0,1))) q).2:=by
    intro r
    induction r with
    | nil=>intro q j _ h;exact h.pos
    | cons v r ih=>
     intro q j hr h
     obtain⟨b,rfl,ob⟩:=(hr v (by simp)).one hk
     exact ih _ (j+47) (fun v hv=>hr v (by simp[hv])) (BF h ob.st)
   exact key r a 45 (fun v hv=>hl v (by simp[hv])) (Ex oa)
 have hp:=hpos hl h1 h4 rfl
 have e:GO l=if Be (M4 l) then .ok ⟨[],[M4 l],k.dm⟩ else .error 13:=by
  have hd:dmH l=k.dm:=by
   match l,h1 with
   | v::r,_=>exact(hl v (by simp)).dm
  simp only[GO,Ed,hd,List.all_cons,List.all_nil,Bool.and_true]
 rw[e]
 match l,h1,h4 with
 | [u],_,_=>
  obtain⟨a,rfl,oa⟩:=(hl u (by simp)).one hk
  cases hf:Be (M4 [⟨[],[a],k.dm⟩]) with
  | true=>exact⟨Xp k.dm oa hf,fun w hw=>by cases hw;exact BX hk (hp hf)⟩
  | false=>exact⟨Xa k.dm oa hf,nofun⟩
 | [u,v],_,_=>
  obtain⟨a,rfl,oa⟩:=(hl u (by simp)).one hk
  obtain⟨b,rfl,ob⟩:=(hl v (by simp)).one hk
  cases hf:Be (M4 [⟨[],[a],k.dm⟩,⟨[],[b],k.dm⟩]) with
  | true=>exact⟨Xr k.dm oa ob hf,fun w hw=>by cases hw;exact BX hk (hp hf)⟩
  | false=>exact⟨VJ k.dm oa ob hf,nofun⟩
 | [u,v,x],_,_=>
  obtain⟨a,rfl,oa⟩:=(hl u (by simp)).one hk
  obtain⟨b,rfl,ob⟩:=(hl v (by simp)).one hk
  obtain⟨c,rfl,oc⟩:=(hl x (by simp)).one hk
  cases hf:Be (M4 [⟨[],[a],k.dm⟩,⟨[],[b],k.dm⟩,⟨[],[c],k.dm⟩]) with
  | true=>exact⟨WL k.dm oa ob oc hf,fun w hw=>by cases hw;exact BX hk (hp hf)⟩
  | false=>exact⟨Xk k.dm oa ob oc hf,nofun⟩
 | [u,v,x,y],_,_=>
  obtain⟨a,rfl,oa⟩:=(hl u (by simp)).one hk
  obtain⟨b,rfl,ob⟩:=(hl v (by simp)).one hk
  obtain⟨c,rfl,oc⟩:=(hl x (by simp)).one hk
  obtain⟨d,rfl,od⟩:=(hl y (by simp)).one hk
  cases hf:Be (M4 [⟨[],[a],k.dm⟩,⟨[],[b],k.dm⟩,⟨[],[c],k.dm⟩,⟨[],[d],k.dm⟩]) with
  | true=>exact⟨WV k.dm oa ob oc od hf,fun w hw=>by cases hw;exact BX hk (hp hf)⟩
  | false=>exact⟨VS k.dm oa ob oc od hf,nofun⟩
 | _::_::_::_::_::_,_,h=>simp at h
def sqR (u:Vl):Except Nat Vl:=Ed ⟨[],[sqQ (u.it.headD (0,1))],.m2⟩
theorem sq_ok {u:Vl}(hu:VOk .m u):VF 272 [u.av,.int .i64 2] (resR (sqR u))∧∀w,sqR u=.ok w→VOk .m2 w:=by
 obtain⟨a,rfl,oa⟩:=hu.one rfl
 have e:sqR ⟨[],[a],Kd.m.dm⟩=if Be (sqQ a) then .ok ⟨[],[sqQ a],.m2⟩ else .error 13:=by simp[sqR,Ed]
 rw[e]
 cases hf:Be (sqQ a) with
 | true=>
  refine⟨Y4 oa hf,fun w hw=>?_⟩
  cases hw
  exact BX (k:=.m2) rfl ⟨hf,(AZ (op:=5) rfl (OI oa) oa.st nofun).pos⟩
 | false=>exact⟨ZE oa hf,nofun⟩
def DU (i:Nat):Vl:=⟨[],[((i:Int),1)],.pl⟩
def litV (q:Q):Nat→Vl
 | 0=>⟨[],[q],.pl⟩
 | 1=>⟨[],[AE q (1,1)],.m⟩
 | 2=>⟨[],[AE q (1000,1)],.m⟩
 | 3=>⟨[],[AE q (1,1)],.s⟩
 | _=>⟨[],[AE q (3600,1)],.s⟩
def BU (f:Nat→Int→Rs):Nat→Nat→Int→Except Nat (List Vl×Int)
 | 0,_,n=>.ok ([],n)
 | c+1,i,n=>match f i n with
  | .error e=>.error e
  | .ok (v,n1)=>match BU f c (i+1) n1 with
   | .error e=>.error e
   | .ok (l,n2)=>.ok (v::l,n2)
def CH (r:Except Nat Vl)(n:Int):Rs:=match r with
 | .error e=>.error e
 | .ok v=>.ok (v,n)
def RD (k:Nat)(u:Vl):Bool:=decide ((u.it.headD (0,1)).1*1<(k:Int)*(u.it.headD (0,1)).2)
def G8 (cb:Option (Nat×Q))(u:Vl)(n:Int):Rs:=match cb with
 | none=>match Ck 5 ⟨[],[(0,1)],.pl⟩ u with
  | .error e=>.error e
  | .ok w1=>CH (Ck 3 u w1) (n+1+1+1+1+1)
 | some (k,q)=>if RD k u then CH (Ck 5 ⟨[],[q],.pl⟩ u) (n+1+1+1+1+1+1) else .ok (u,n+1+1+1+1)
def idxOf (v:Vl):Nat:=(v.it.headD (0,1)).1.toNat
def RJ (u v:Vl):Bool:=decide ((u.it.headD (0,1)).1*(v.it.headD (0,1)).2<(v.it.headD (0,1)).1*(u.it.headD (0,1)).2)
def evS (e:En)(cb:Option (Nat×Q)):Bs→X→Int→Rs
 | _,.lit _ _ q u,n=>.ok (litV q u,n+1)
 | bs,.ref s,n=>match DM bs s (e.nm s) with
  | some v=>.ok (v,n+1)
  | none=>.error 4
 | bs,.bin op a b,n=>match evS e cb bs a (n+1) with
  | .error er=>.error er
  | .ok (u,n1)=>match evS e cb bs b n1 with
   | .error er=>.error er
   | .ok (v,n2)=>CH (Ck op u v) n2
 | bs,.neg a,n=>match evS e cb bs a (n+1) with
  | .error er=>.error er
  | .ok (u,n1)=>CH (Ck 5 ⟨[],[(-1,1)],.pl⟩ u) n1
 | bs,.sq a,n=>match evS e cb bs a (n+1) with
  | .error er=>.error er
  | .ok (u,n1)=>CH (sqR u) n1
 | bs,.lst a b c,n=>match evS e cb bs a (n+1) with
  | .error er=>.error er
  | .ok (u,n1)=>match evS e cb bs b n1 with
   | .error er=>.error er
   | .ok (v,n2)=>match evS e cb bs c n2 with
    | .error er=>.error er
    | .ok (w,n3)=>.ok (KI [u,v,w],n3)
 | bs,.at a b,n=>match evS e cb bs a (n+1) with
  | .error er=>.error er
  | .ok (u,n1)=>match evS e cb bs b n1 with
   | .error er=>.error er
   | .ok (v,n2)=>CH (OQ u (idxOf v)) n2
 | bs,.tab c a,n=>match BU (fun i n=>evS e cb (bs++[(nmI,DU i)]) a n) c 0 (n+1) with
  | .error er=>.error er
  | .ok (l,n1)=>.ok (KI l,n1)
 | bs,.sum c a,n=>match BU (fun i n=>evS e cb (bs++[(nmI,DU i)]) a n) c 0 (n+1) with
  | .error er=>.error er
  | .ok (l,n1)=>CH (GO l) n1
 | bs,.ite a b c d,n=>match evS e cb bs a (n+1) with
  | .error er=>.error er
  | .ok (u,n1)=>match evS e cb bs b n1 with
   | .error er=>.error er
   | .ok (v,n2)=>if RJ u v then evS e cb bs c n2 else evS e cb bs d n2
 | bs,.lett s a b,n=>match evS e cb bs a (n+1) with
  | .error er=>.error er
  | .ok (u,n1)=>evS e cb (bs++[(s,u)]) b n1
 | bs,.call a,n=>match evS e cb bs a (n+1) with
  | .error er=>.error er
  | .ok (u,n1)=>G8 cb u n1
def X.cost:X→Int
 | .lit .. | .ref _=>1
 | .bin _ a b | .at a b | .lett _ a b=>1+a.cost+b.cost
 | .neg a | .sq a=>1+a.cost
 | .lst a b c=>1+a.cost+b.cost+c.cost
 | .tab n a | .sum n a=>1+n*a.cost
 | .ite a b c d=>1+a.cost+b.cost+c.cost+d.cost
 | .call a=>7+a.cost
structure L7 (p d:List Nat)(q:Q):Prop where
 of:VF 123 [.agg [.str p,.str d]] (.ret (BQ q))
 ok:Ok q
def nmK:Kd→Option (List Nat)
 | .pl=>some nA
 | .m=>some nB
 | .s=>some nC
 | .m3=>some nV
 | .pl3=>some nW
 | _=>none
inductive Lf (ins:Bool):Kd→X→Prop where
 | ref {k s} : nmK k=some s→Lf ins k (.ref s)
 | idx:ins=true→Lf ins .pl (.ref nmI)
 | lit {p d q} : L7 p d q→q.1.natAbs<65536→q.2.natAbs<65536→Lf ins .pl (.lit p d q 0)
 | met {p d u} {z:Nat} : L7 p d ((z:Int),1)→z<10→(u=1∨u=2)→Lf ins .m (.lit p d ((z:Int),1) u)
 | sec {p d u} {z:Nat} : L7 p d ((z:Int),1)→z<10→(u=3∨u=4)→Lf ins .s (.lit p d ((z:Int),1) u)
inductive Ty:Nat→Bool→Kd→X→Prop where
 | leaf {l ins k x} : Lf ins k x→Ty l ins k x
 | leaf2 {l ins op ka kb k a b} : Lf ins ka a→Lf ins kb b→op∈[5,6]→kdR op ka kb=some k→ka=.m→(kb=.m∨kb=.s)→Ty l ins k (.bin op a b)
 | bin {l ins op ka kb k a b} : op∈[3,4,5,6]→kdR op ka kb=some k→Ty l ins ka a→Ty l ins kb b→Ty (l+1) ins k (.bin op a b)
 | ite {l ins ko k a b c d} : (ko=.pl∨ko=.m∨ko=.s)→Ty l ins ko a→Ty l ins ko b→Ty l ins k c→Ty l ins k d→Ty (l+1) ins k (.ite a b c d)
 | lett {l ins k s a b} : (s=nA∨s=nZ)→Ty l ins .pl a→Ty l ins k b→Ty (l+1) ins k (.lett s a b)
 | neg {l ins k a} : Ty l ins k a→Ty (l+1) ins k (.neg a)
 | tab {l ins k ka a} : Gm k=some ka→Ty l true k a→Ty (l+1) ins ka (.tab 3 a)
 | lst {l ins k ka a b c} : Gm k=some ka→Ty l ins k a→Ty l ins k b→Ty l ins k c→Ty (l+1) ins ka (.lst a b c)
 | sum {l ins k n a} : k.arr=false→1≤n→n≤4→Ty l true k a→Ty (l+1) ins k (.sum n a)
 | elt {l ins k ka a p d} {i:Nat} : Gm k=some ka→i<4→L7 p d ((i:Int),1)→Ty l ins ka a→Ty (l+1) ins k (.at a (.lit p d ((i:Int),1) 0))
 | call {l ins a} : Ty l ins .m a→Ty (l+1) ins .m (.call a)
 | sq {l ins a} : Ty l ins .m a→Ty (l+1) ins .m2 (.sq a)
structure EnOk (e:En)(cb:Option (Nat×Q)):Prop where
 a:VOk .pl e.a
 b:VOk .m e.b
 c:VOk .s e.c
 v:VOk .m3 e.v
 w:VOk .pl3 e.w
 f:match cb with
  | none=>e.f=Ri
  | some (k,q)=>k∈[0,1,2,3,4,5]∧∃p d,e.f=QZ k p d q∧L7 p d q
def AcS:Bs→Prop
 | []=>True
 | [(a,_)]=>a∈Ch
 | [(a,_),(b,_)]=>a∈Ch∧b∈Ct
 | [(a,_),(b,_),(c,_)]=>a∈Ch∧b∈Ct∧c∈Ct
 | _=>False
structure FH (bs:Bs)(l:Nat)(ins:Bool):Prop where
 len:bs.length+l≤3
 names:AcS bs
 vals:∀p∈bs,p.1∈Ct→VOk .pl p.2
 ins:ins=true→∃p∈bs,p.1=nmI
theorem Jz {z:Nat}(hz:z<10)(f:Int)(h1:0<f)(h2:f<4000):Be (AE ((z:Int),1) (f,1))=true∧Ok (AE ((z:Int),1) (f,1)):=by
 rw[Ic]
 have h:=BV (e:=(z:Int)*f) (by
  rw[Int.natAbs_mul]
  have:f.natAbs<4000:=by omega
  have h3:((z:Int)).natAbs*f.natAbs≤10*4000:=Nat.mul_le_mul (by omega) (by omega)
  simp only[B]
  omega)
 exact⟨h.1,h⟩
theorem Ek {ins:Bool}{k:Kd}{x:X}(h:Lf ins k x):x.cost=1:=by cases h<;>rfl
theorem E8 {bs:Bs}{s:List Nat}{o:Option Vl}(h:∀p∈bs,Av p.1 s=false):DM bs s o=o:=by
 induction bs generalizing o with
 | nil=>rfl
 | cons p r ih=>
  unfold DM
  rw[h p (by simp)]
  exact ih fun p hp=>h p (by simp[hp])
theorem Io {k:Kd}{s:List Nat} : ∀{bs:Bs} {o:Option Vl},(∀p∈bs,Av p.1 s=true→VOk k p.2)→(∀v,o=some v→VOk k v)→((∃p∈bs,Av p.1 s=true)∨o.isSome=true)→∃v,DM bs s o=some v∧VOk k v
 | [],o,_,ho,h=>by
  rcases h with⟨p,hp,_⟩|h
  ·cases hp
  ·obtain⟨v,rfl⟩:=Option.isSome_iff_exists.1 h
   exact⟨v,rfl,ho v rfl⟩
 | p::r,o,hb,ho,h=>by
  unfold DM
  cases hp:Av p.1 s with
  | true=>
   exact Io (fun q hq=>hb q (by simp[hq])) (fun v hv=>by cases hv;exact hb p (by simp) hp) (.inr rfl)
  | false=>
   refine Io (fun q hq=>hb q (by simp[hq])) ho ?_
   rcases h with⟨q,hq,e⟩|h
   ·rcases List.mem_cons.1 hq with rfl|hq
    ·rw[hp] at e;cases e
    ·exact .inl ⟨q,hq,e⟩
   ·exact .inr h
theorem n_ref {e:En}{n:Int}(h0:0≤n)(h1:n<5000){bs:Bs}{l:Nat}{ins:Bool}(hb:FH bs l ins){s:List Nat}(hs:s∈refs){w:Vl}(hv:DM bs s (e.nm s)=some w):Ev e 1 (CL bs) n (.ref s) (.ok (w,n+1)):=by
 have hn:=hb.names
 match bs,hn with
 | [],_=>exact n_ref0 h0 h1 hs hv
 | [(a,v1)],hn=>exact n_ref1 h0 h1 hn hs hv
 | [(a,v1),(b,v2)],hn=>exact n_ref2 h0 h1 hn.1 hn.2 hs hv
 | [(a,v1),(b,v2),(c,v3)],hn=>exact n_ref3 h0 h1 hn.1 hn.2.1 hn.2.2 hs hv
theorem Lb {p:List Nat}(h:p∈Ch):(Av p nA=true→p∈Ct)∧Av p nB=false∧Av p nC=false∧Av p nV=false∧Av p nW=false∧(Av p nmI=true→p∈Ct):=by
 simp only[Ch,List.mem_cons,List.not_mem_nil,or_false] at h
 rcases h with rfl|rfl|rfl|rfl<;>decide
theorem FH.mem {bs:Bs}{l:Nat}{ins:Bool}(h:FH bs l ins):∀p∈bs,p.1∈Ch:=by
 have hn:=h.names
 have sub:∀x,x∈Ct→x∈Ch:=by
  intro x hx
  simp only[Ct,List.mem_cons,List.not_mem_nil,or_false] at hx
  rcases hx with rfl|rfl|rfl<;>decide
 match bs,hn with
 | [],_=>intro p hp;cases hp
 | [(a,_)],hn=>intro p hp;simp only[List.mem_singleton] at hp;subst hp;exact hn
 | [(a,_),(b,_)],hn=>
  intro p hp
  simp only[List.mem_cons,List.not_mem_nil,or_false] at hp
  rcases hp with rfl|rfl
  ·exact hn.1
  ·exact sub _ hn.2
 | [(a,_),(b,_),(c,_)],hn=>
  intro p hp
  simp only[List.mem_cons,List.not_mem_nil,or_false] at hp
  rcases hp with rfl|rfl|rfl
  ·exact hn.1
  ·exact sub _ hn.2.1
  ·exact sub _ hn.2.2
theorem FH.push {bs:Bs}{l:Nat}{ins:Bool}(h:FH bs (l+1) ins){s:List Nat}(hs:s∈Ct){v:Vl}(hv:VOk .pl v){ins':Bool}(hi:ins'=true→ins=true∨s=nmI):FH (bs++[(s,v)]) l ins':=by
 have sub:∀x,x∈Ct→x∈Ch:=by
  intro x hx
  simp only[Ct,List.mem_cons,List.not_mem_nil,or_false] at hx
  rcases hx with rfl|rfl|rfl<;>decide
 have hn:=h.names
 have hl:=h.len
 refine⟨by simp;omega,?_,fun p hp hm=>?_,fun h2=>?_⟩
 ·match bs,hn,hl with
  | [],_,_=>exact sub _ hs
  | [(a,_)],hn,_=>exact⟨hn,hs⟩
  | [(a,_),(b,_)],hn,_=>exact⟨hn.1,hn.2,hs⟩
  | [(a,_),(b,_),(c,_)],_,hl=>simp at hl;omega
 ·rcases List.mem_append.1 hp with hp|hp
  ·exact h.vals p hp hm
  ·simp only[List.mem_singleton] at hp
   subst hp
   exact hv
 ·rcases hi h2 with h3|h3
  ·obtain⟨p,hp,e⟩:=h.ins h3
   exact⟨p,by simp[hp],e⟩
  ·exact⟨(s,v),by simp,h3⟩
theorem FH.down {bs:Bs}{l:Nat}{ins:Bool}(h:FH bs (l+1) ins):FH bs l ins:=⟨by have:=h.len;omega,h.names,h.vals,h.ins⟩
end Go.Ev
end
