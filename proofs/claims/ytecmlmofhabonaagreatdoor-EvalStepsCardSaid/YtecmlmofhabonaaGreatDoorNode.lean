/- What the evaluator of the program does at a node of an expression, told of whatever its arguments evaluate to. -/
import Derived.Test.YtecmlmofhabonaaGreatDoorBoth1
noncomputable section
namespace Go.Ev
open Go Go.Ab Go.Nl Go.Nb Go.RowKit Go.Proofs Go.E4
set_option maxRecDepth 1000000
abbrev oq:AO:=.opq 0
theorem Yj (l:List AV)(mu:List ME):([3,4,5,6].all fun op=>BO l mu [evF 1 26 25 oq (AQ 38) none] (AN false) 1 [.int .i64 (.ofNat op),.str [],.str [],.str [],.int .i64 0,.psl [.sel 26,.sel 27,.sel 28,.sel 29,.sel 30,.sel 31,.sel 32,.sel 33,.sel 34,.sel 35,.sel 36,.sel 37] 2 none] oq (AQ 38) none)=true:=by kernel_rfl
theorem AaM (l:List AV)(mu:List ME):([3,4,5,6].all fun op=>BO l mu [evF 1 26 25 oq (AJ 38) (some 41),evF 1 32 41 oq (AQ 42) none] (AN false) 1 [.int .i64 (.ofNat op),.str [],.str [],.str [],.int .i64 0,.psl [.sel 26,.sel 27,.sel 28,.sel 29,.sel 30,.sel 31,.sel 32,.sel 33,.sel 34,.sel 35,.sel 36,.sel 37] 2 none] oq (AQ 42) none)=true:=by kernel_rfl
theorem AaT (l:List AV)(mu:List ME):([3,4,5,6].all fun op=>BO l mu [evF 1 26 25 oq (AJ 38) (some 41),evF 1 32 41 oq (AJ 42) (some 45),vq 74 [.int .i64 (.ofNat op),.agg [.sel 38,.sel 39,.sel 40],.agg [.sel 42,.sel 43,.sel 44]] (AQ 46)] (AN false) 1 [.int .i64 (.ofNat op),.str [],.str [],.str [],.int .i64 0,.psl [.sel 26,.sel 27,.sel 28,.sel 29,.sel 30,.sel 31,.sel 32,.sel 33,.sel 34,.sel 35,.sel 36,.sel 37] 2 none] oq (AQ 46) none)=true:=by kernel_rfl
theorem AbF (l:List AV)(mu:List ME):([3,4,5,6].all fun op=>BO l mu [evF 1 26 25 oq (AJ 38) (some 41),evF 1 32 41 oq (AJ 42) (some 45),vq 74 [.int .i64 (.ofNat op),.agg [.sel 38,.sel 39,.sel 40],.agg [.sel 42,.sel 43,.sel 44]] (AJ 46)] (AN false) 1 [.int .i64 (.ofNat op),.str [],.str [],.str [],.int .i64 0,.psl [.sel 26,.sel 27,.sel 28,.sel 29,.sel 30,.sel 31,.sel 32,.sel 33,.sel 34,.sel 35,.sel 36,.sel 37] 2 none] oq (AJ 46) (some 45))=true:=by kernel_rfl
theorem Z0 (l:List AV)(mu:List ME):BO l mu [evF 1 26 25 oq (AQ 32) none] (AN false) 1 [.int .i64 2,.str [],.str [],.str [],.int .i64 0,.psl [.sel 26,.sel 27,.sel 28,.sel 29,.sel 30,.sel 31] 1 none] oq (AQ 32) none=true:=by kernel_rfl
theorem AbS (l:List AV)(mu:List ME):BO l mu [evF 1 26 25 oq (AJ 32) (some 35),vq 271 [.int .i64 (-1)] (.ret (.agg [.emp,.psl (src (-1)) 1 none,.emp])),vq 74 [.int .i64 5,.agg [.emp,.psl (src (-1)) 1 none,.emp],.agg [.sel 32,.sel 33,.sel 34]] (AQ 36)] (AN false) 1 [.int .i64 2,.str [],.str [],.str [],.int .i64 0,.psl [.sel 26,.sel 27,.sel 28,.sel 29,.sel 30,.sel 31] 1 none] oq (AQ 36) none=true:=by kernel_rfl
theorem Ada (l:List AV)(mu:List ME):BO l mu [evF 1 26 25 oq (AJ 32) (some 35),vq 271 [.int .i64 (-1)] (.ret (.agg [.emp,.psl (src (-1)) 1 none,.emp])),vq 74 [.int .i64 5,.agg [.emp,.psl (src (-1)) 1 none,.emp],.agg [.sel 32,.sel 33,.sel 34]] (AJ 36)] (AN false) 1 [.int .i64 2,.str [],.str [],.str [],.int .i64 0,.psl [.sel 26,.sel 27,.sel 28,.sel 29,.sel 30,.sel 31] 1 none] oq (AJ 36) (some 35)=true:=by kernel_rfl
theorem AaY (l:List AV)(mu:List ME):BO l mu [evF 1 26 25 oq (AQ 32) none] (AN false) 1 [.int .i64 7,.str [],.str [],.str [],.int .i64 2,.psl [.sel 26,.sel 27,.sel 28,.sel 29,.sel 30,.sel 31] 1 none] oq (AQ 32) none=true:=by kernel_rfl
theorem r_sq_o (l:List AV)(mu:List ME):BO l mu [evF 1 26 25 oq (AJ 32) (some 35),vq 272 [.agg [.sel 32,.sel 33,.sel 34],.int .i64 2] (AQ 36)] (AN false) 1 [.int .i64 7,.str [],.str [],.str [],.int .i64 2,.psl [.sel 26,.sel 27,.sel 28,.sel 29,.sel 30,.sel 31] 1 none] oq (AQ 36) none=true:=by kernel_rfl
theorem r_sq_k (l:List AV)(mu:List ME):BO l mu [evF 1 26 25 oq (AJ 32) (some 35),vq 272 [.agg [.sel 32,.sel 33,.sel 34],.int .i64 2] (AJ 36)] (AN false) 1 [.int .i64 7,.str [],.str [],.str [],.int .i64 2,.psl [.sel 26,.sel 27,.sel 28,.sel 29,.sel 30,.sel 31] 1 none] oq (AJ 36) (some 35)=true:=by kernel_rfl
theorem Za (l:List AV)(mu:List ME):BO l mu [evF 1 26 25 oq (AQ 44) none] (AN false) 1 [.int .i64 8,.str [],.str [],.str [],.int .i64 0,.psl [.sel 26,.sel 27,.sel 28,.sel 29,.sel 30,.sel 31,.sel 32,.sel 33,.sel 34,.sel 35,.sel 36,.sel 37,.sel 38,.sel 39,.sel 40,.sel 41,.sel 42,.sel 43] 3 none] oq (AQ 44) none=true:=by kernel_rfl
theorem Z2 (l:List AV)(mu:List ME):BO l mu [evF 1 26 25 oq (AJ 44) (some 47),evF 1 32 47 oq (AQ 48) none] (AN false) 1 [.int .i64 8,.str [],.str [],.str [],.int .i64 0,.psl [.sel 26,.sel 27,.sel 28,.sel 29,.sel 30,.sel 31,.sel 32,.sel 33,.sel 34,.sel 35,.sel 36,.sel 37,.sel 38,.sel 39,.sel 40,.sel 41,.sel 42,.sel 43] 3 none] oq (AQ 48) none=true:=by kernel_rfl
theorem Yu (l:List AV)(mu:List ME):BO l mu [evF 1 26 25 oq (AJ 44) (some 47),evF 1 32 47 oq (AJ 48) (some 51),evF 1 38 51 oq (AQ 52) none] (AN false) 1 [.int .i64 8,.str [],.str [],.str [],.int .i64 0,.psl [.sel 26,.sel 27,.sel 28,.sel 29,.sel 30,.sel 31,.sel 32,.sel 33,.sel 34,.sel 35,.sel 36,.sel 37,.sel 38,.sel 39,.sel 40,.sel 41,.sel 42,.sel 43] 3 none] oq (AQ 52) none=true:=by kernel_rfl
theorem Ac0 (l:List AV)(mu:List ME):BO l mu [evF 1 26 25 oq (AJ 44) (some 47),evF 1 32 47 oq (AJ 48) (some 51),evF 1 38 51 oq (AJ 52) (some 55),vq 269 [.psl [.sel 44,.sel 45,.sel 46,.sel 48,.sel 49,.sel 50,.sel 52,.sel 53,.sel 54] 3 none] (AJ 56)] (AN false) 1 [.int .i64 8,.str [],.str [],.str [],.int .i64 0,.psl [.sel 26,.sel 27,.sel 28,.sel 29,.sel 30,.sel 31,.sel 32,.sel 33,.sel 34,.sel 35,.sel 36,.sel 37,.sel 38,.sel 39,.sel 40,.sel 41,.sel 42,.sel 43] 3 none] oq (AJ 56) (some 55)=true:=by kernel_rfl
theorem AcW (l:List AV)(mu:List ME):BO l mu [evF 1 26 25 oq (AQ 38) none] (AN false) 1 [.int .i64 9,.str [],.str [],.str [],.int .i64 0,.psl [.sel 26,.sel 27,.sel 28,.sel 29,.sel 30,.sel 31,.sel 32,.sel 33,.sel 34,.sel 35,.sel 36,.sel 37] 2 none] oq (AQ 38) none=true:=by kernel_rfl
theorem r_at_o (l:List AV)(mu:List ME):BO l mu [evF 1 26 25 oq (AJ 38) (some 41),evF 1 32 41 oq (AJ 42) (some 45),vq 273 [.agg [.sel 38,.sel 39,.sel 40],.agg [.sel 42,.sel 43,.sel 44]] (AQ 46)] (AN false) 1 [.int .i64 9,.str [],.str [],.str [],.int .i64 0,.psl [.sel 26,.sel 27,.sel 28,.sel 29,.sel 30,.sel 31,.sel 32,.sel 33,.sel 34,.sel 35,.sel 36,.sel 37] 2 none] oq (AQ 46) none=true:=by kernel_rfl
theorem r_at_k (l:List AV)(mu:List ME):BO l mu [evF 1 26 25 oq (AJ 38) (some 41),evF 1 32 41 oq (AJ 42) (some 45),vq 273 [.agg [.sel 38,.sel 39,.sel 40],.agg [.sel 42,.sel 43,.sel 44]] (AJ 46)] (AN false) 1 [.int .i64 9,.str [],.str [],.str [],.int .i64 0,.psl [.sel 26,.sel 27,.sel 28,.sel 29,.sel 30,.sel 31,.sel 32,.sel 33,.sel 34,.sel 35,.sel 36,.sel 37] 2 none] oq (AJ 46) (some 45)=true:=by kernel_rfl
theorem pq (q:Q){r:List AV}(h:Pls r):Pls (sg q.1::lm q.1::sg q.2::lm q.2::r):=all_cons rfl<|all_cons (Ae _)<|all_cons rfl<|all_cons (Ae _) h
theorem Oo:(⟨[],[(-1,1)],.pl⟩:Vl).av=.agg [.emp,.psl (src (-1)) 1 none,.emp]:=by
 show AV.agg [.emp,.psl (Pr (-1,1)++[]) 1 none,.emp]=_
 rw[GB (by decide),List.append_nil]
theorem ZB:VF 271 [.int .i64 (-1)] (.ret (.agg [.emp,.psl (src (-1)) 1 none,.emp])):=by
 rw[←Oo]
 exact whole (-1) (by decide)
theorem Yb {e:En}{own:ME}{n:Int}(ho:AI own)(h0:0≤n)(h1:n<5000){op:Nat}(hop:op∈[3,4,5,6]){a b:X}{er:Nat}(kE:Ev e 1 own (n+1) a (.error er)):Ev e 1 own n (.bin op a b) (.error er):=
 Ar (r:=[a.c0,a.c1,a.c2,a.c3,a.c4,a.c5,b.c0,b.c1,b.c2,b.c3,b.c4,b.c5,.int .i64 (.ofNat er)]) ho (px a<|px b<|pi _<|rfl) (List.all_eq_true.1 (Yj _ _) _ hop) (Aa kE<|Ad) (step_ok h0 (by omega) (decide_eq_false (by omega))) rfl rfl rfl rfl
theorem Yw {e:En}{own:ME}{n:Int}(ho:AI own)(h0:0≤n)(h1:n<5000){op:Nat}(hop:op∈[3,4,5,6]){a b:X}{u0:Vl}{n0:Int}{er:Nat}(k0:Ev e 1 own (n+1) a (.ok (u0,n0)))(kE:Ev e 1 own n0 b (.error er)):Ev e 1 own n (.bin op a b) (.error er):=
 Ar (r:=[a.c0,a.c1,a.c2,a.c3,a.c4,a.c5,b.c0,b.c1,b.c2,b.c3,b.c4,b.c5,Aq u0.sh,Ax u0.it,Al u0.dm,.int .i64 n0,.int .i64 (.ofNat er)]) ho (px a<|px b<|pv u0<|pi _<|pi _<|rfl) (List.all_eq_true.1 (AaM _ _) _ hop) (Aa k0<|Aa kE<|Ad) (step_ok h0 (by omega) (decide_eq_false (by omega))) rfl rfl rfl rfl
theorem AcC {e:En}{own:ME}{n:Int}(ho:AI own)(h0:0≤n)(h1:n<5000){op:Nat}(hop:op∈[3,4,5,6]){a b:X}{u0:Vl}{n0:Int}{u1:Vl}{n1:Int}{er:Nat}(k0:Ev e 1 own (n+1) a (.ok (u0,n0)))(k1:Ev e 1 own n0 b (.ok (u1,n1)))(hv:VF 74 [.int .i64 (.ofNat op),u0.av,u1.av] (Cn er)):Ev e 1 own n (.bin op a b) (.error er):=
 Ar (r:=[a.c0,a.c1,a.c2,a.c3,a.c4,a.c5,b.c0,b.c1,b.c2,b.c3,b.c4,b.c5,Aq u0.sh,Ax u0.it,Al u0.dm,.int .i64 n0,Aq u1.sh,Ax u1.it,Al u1.dm,.int .i64 n1,.int .i64 (.ofNat er)]) ho (px a<|px b<|pv u0<|pi _<|pv u1<|pi _<|pi _<|rfl) (List.all_eq_true.1 (AaT _ _) _ hop) (Aa k0<|Aa k1<|Aa hv<|Ad) (step_ok h0 (by omega) (decide_eq_false (by omega))) rfl rfl rfl rfl
theorem AcN {e:En}{own:ME}{n:Int}(ho:AI own)(h0:0≤n)(h1:n<5000){op:Nat}(hop:op∈[3,4,5,6]){a b:X}{u0:Vl}{n0:Int}{u1:Vl}{n1:Int}{w:Vl}(k0:Ev e 1 own (n+1) a (.ok (u0,n0)))(k1:Ev e 1 own n0 b (.ok (u1,n1)))(hv:VF 74 [.int .i64 (.ofNat op),u0.av,u1.av] (.ret w.av)):Ev e 1 own n (.bin op a b) (.ok (w,n1)):=
 Ar (r:=[a.c0,a.c1,a.c2,a.c3,a.c4,a.c5,b.c0,b.c1,b.c2,b.c3,b.c4,b.c5,Aq u0.sh,Ax u0.it,Al u0.dm,.int .i64 n0,Aq u1.sh,Ax u1.it,Al u1.dm,.int .i64 n1,Aq w.sh,Ax w.it,Al w.dm]) ho (px a<|px b<|pv u0<|pi _<|pv u1<|pi _<|pv w<|rfl) (List.all_eq_true.1 (AbF _ _) _ hop) (Aa k0<|Aa k1<|Aa hv<|Ad) (step_ok h0 (by omega) (decide_eq_false (by omega))) rfl rfl rfl rfl
theorem YU {e:En}{own:ME}{n:Int}(ho:AI own)(h0:0≤n)(h1:n<5000){a:X}{er:Nat}(kE:Ev e 1 own (n+1) a (.error er)):Ev e 1 own n (.neg a) (.error er):=
 Ar (r:=[a.c0,a.c1,a.c2,a.c3,a.c4,a.c5,.int .i64 (.ofNat er)]) ho (px a<|pi _<|rfl) (Z0 _ _) (Aa kE<|Ad) (step_ok h0 (by omega) (decide_eq_false (by omega))) rfl rfl rfl rfl
theorem AbM {e:En}{own:ME}{n:Int}(ho:AI own)(h0:0≤n)(h1:n<5000){a:X}{u0:Vl}{n0:Int}{er:Nat}(k0:Ev e 1 own (n+1) a (.ok (u0,n0)))(hv:VF 74 [.int .i64 5,.agg [.emp,.psl (src (-1)) 1 none,.emp],u0.av] (Cn er)):Ev e 1 own n (.neg a) (.error er):=
 Ar (r:=[a.c0,a.c1,a.c2,a.c3,a.c4,a.c5,Aq u0.sh,Ax u0.it,Al u0.dm,.int .i64 n0,.int .i64 (.ofNat er)]) ho (px a<|pv u0<|pi _<|pi _<|rfl) (AbS _ _) (Aa k0<|Aa ZB<|Aa hv<|Ad) (step_ok h0 (by omega) (decide_eq_false (by omega))) rfl rfl rfl rfl
theorem Ab6 {e:En}{own:ME}{n:Int}(ho:AI own)(h0:0≤n)(h1:n<5000){a:X}{u0:Vl}{n0:Int}{w:Vl}(k0:Ev e 1 own (n+1) a (.ok (u0,n0)))(hv:VF 74 [.int .i64 5,.agg [.emp,.psl (src (-1)) 1 none,.emp],u0.av] (.ret w.av)):Ev e 1 own n (.neg a) (.ok (w,n0)):=
 Ar (r:=[a.c0,a.c1,a.c2,a.c3,a.c4,a.c5,Aq u0.sh,Ax u0.it,Al u0.dm,.int .i64 n0,Aq w.sh,Ax w.it,Al w.dm]) ho (px a<|pv u0<|pi _<|pv w<|rfl) (Ada _ _) (Aa k0<|Aa ZB<|Aa hv<|Ad) (step_ok h0 (by omega) (decide_eq_false (by omega))) rfl rfl rfl rfl
theorem AbL {e:En}{own:ME}{n:Int}(ho:AI own)(h0:0≤n)(h1:n<5000){a:X}{er:Nat}(kE:Ev e 1 own (n+1) a (.error er)):Ev e 1 own n (.sq a) (.error er):=
 Ar (r:=[a.c0,a.c1,a.c2,a.c3,a.c4,a.c5,.int .i64 (.ofNat er)]) ho (px a<|pi _<|rfl) (AaY _ _) (Aa kE<|Ad) (step_ok h0 (by omega) (decide_eq_false (by omega))) rfl rfl rfl rfl
theorem n_sq_o {e:En}{own:ME}{n:Int}(ho:AI own)(h0:0≤n)(h1:n<5000){a:X}{u0:Vl}{n0:Int}{er:Nat}(k0:Ev e 1 own (n+1) a (.ok (u0,n0)))(hv:VF 272 [u0.av,.int .i64 2] (Cn er)):Ev e 1 own n (.sq a) (.error er):=
 Ar (r:=[a.c0,a.c1,a.c2,a.c3,a.c4,a.c5,Aq u0.sh,Ax u0.it,Al u0.dm,.int .i64 n0,.int .i64 (.ofNat er)]) ho (px a<|pv u0<|pi _<|pi _<|rfl) (r_sq_o _ _) (Aa k0<|Aa hv<|Ad) (step_ok h0 (by omega) (decide_eq_false (by omega))) rfl rfl rfl rfl
theorem n_sq_k {e:En}{own:ME}{n:Int}(ho:AI own)(h0:0≤n)(h1:n<5000){a:X}{u0:Vl}{n0:Int}{w:Vl}(k0:Ev e 1 own (n+1) a (.ok (u0,n0)))(hv:VF 272 [u0.av,.int .i64 2] (.ret w.av)):Ev e 1 own n (.sq a) (.ok (w,n0)):=
 Ar (r:=[a.c0,a.c1,a.c2,a.c3,a.c4,a.c5,Aq u0.sh,Ax u0.it,Al u0.dm,.int .i64 n0,Aq w.sh,Ax w.it,Al w.dm]) ho (px a<|pv u0<|pi _<|pv w<|rfl) (r_sq_k _ _) (Aa k0<|Aa hv<|Ad) (step_ok h0 (by omega) (decide_eq_false (by omega))) rfl rfl rfl rfl
theorem X3 {e:En}{own:ME}{n:Int}(ho:AI own)(h0:0≤n)(h1:n<5000){a b c:X}{er:Nat}(kE:Ev e 1 own (n+1) a (.error er)):Ev e 1 own n (.lst a b c) (.error er):=
 Ar (r:=[a.c0,a.c1,a.c2,a.c3,a.c4,a.c5,b.c0,b.c1,b.c2,b.c3,b.c4,b.c5,c.c0,c.c1,c.c2,c.c3,c.c4,c.c5,.int .i64 (.ofNat er)]) ho (px a<|px b<|px c<|pi _<|rfl) (Za _ _) (Aa kE<|Ad) (step_ok h0 (by omega) (decide_eq_false (by omega))) rfl rfl rfl rfl
theorem YG {e:En}{own:ME}{n:Int}(ho:AI own)(h0:0≤n)(h1:n<5000){a b c:X}{u0:Vl}{n0:Int}{er:Nat}(k0:Ev e 1 own (n+1) a (.ok (u0,n0)))(kE:Ev e 1 own n0 b (.error er)):Ev e 1 own n (.lst a b c) (.error er):=
 Ar (r:=[a.c0,a.c1,a.c2,a.c3,a.c4,a.c5,b.c0,b.c1,b.c2,b.c3,b.c4,b.c5,c.c0,c.c1,c.c2,c.c3,c.c4,c.c5,Aq u0.sh,Ax u0.it,Al u0.dm,.int .i64 n0,.int .i64 (.ofNat er)]) ho (px a<|px b<|px c<|pv u0<|pi _<|pi _<|rfl) (Z2 _ _) (Aa k0<|Aa kE<|Ad) (step_ok h0 (by omega) (decide_eq_false (by omega))) rfl rfl rfl rfl
theorem Z7 {e:En}{own:ME}{n:Int}(ho:AI own)(h0:0≤n)(h1:n<5000){a b c:X}{u0:Vl}{n0:Int}{u1:Vl}{n1:Int}{er:Nat}(k0:Ev e 1 own (n+1) a (.ok (u0,n0)))(k1:Ev e 1 own n0 b (.ok (u1,n1)))(kE:Ev e 1 own n1 c (.error er)):Ev e 1 own n (.lst a b c) (.error er):=
 Ar (r:=[a.c0,a.c1,a.c2,a.c3,a.c4,a.c5,b.c0,b.c1,b.c2,b.c3,b.c4,b.c5,c.c0,c.c1,c.c2,c.c3,c.c4,c.c5,Aq u0.sh,Ax u0.it,Al u0.dm,.int .i64 n0,Aq u1.sh,Ax u1.it,Al u1.dm,.int .i64 n1,.int .i64 (.ofNat er)]) ho (px a<|px b<|px c<|pv u0<|pi _<|pv u1<|pi _<|pi _<|rfl) (Yu _ _) (Aa k0<|Aa k1<|Aa kE<|Ad) (step_ok h0 (by omega) (decide_eq_false (by omega))) rfl rfl rfl rfl
theorem Aa6 {e:En}{own:ME}{n:Int}(ho:AI own)(h0:0≤n)(h1:n<5000){a b c:X}{u0:Vl}{n0:Int}{u1:Vl}{n1:Int}{u2:Vl}{n2:Int}{w:Vl}(k0:Ev e 1 own (n+1) a (.ok (u0,n0)))(k1:Ev e 1 own n0 b (.ok (u1,n1)))(k2:Ev e 1 own n1 c (.ok (u2,n2)))(hv:VF 269 [Dk [u0,u1,u2]] (.ret w.av)):Ev e 1 own n (.lst a b c) (.ok (w,n2)):=
 Ar (r:=[a.c0,a.c1,a.c2,a.c3,a.c4,a.c5,b.c0,b.c1,b.c2,b.c3,b.c4,b.c5,c.c0,c.c1,c.c2,c.c3,c.c4,c.c5,Aq u0.sh,Ax u0.it,Al u0.dm,.int .i64 n0,Aq u1.sh,Ax u1.it,Al u1.dm,.int .i64 n1,Aq u2.sh,Ax u2.it,Al u2.dm,.int .i64 n2,Aq w.sh,Ax w.it,Al w.dm]) ho (px a<|px b<|px c<|pv u0<|pi _<|pv u1<|pi _<|pv u2<|pi _<|pv w<|rfl) (Ac0 _ _) (Aa k0<|Aa k1<|Aa k2<|Aa hv<|Ad) (step_ok h0 (by omega) (decide_eq_false (by omega))) rfl rfl rfl rfl
theorem Abo {e:En}{own:ME}{n:Int}(ho:AI own)(h0:0≤n)(h1:n<5000){a b:X}{er:Nat}(kE:Ev e 1 own (n+1) a (.error er)):Ev e 1 own n (.at a b) (.error er):=
 Ar (r:=[a.c0,a.c1,a.c2,a.c3,a.c4,a.c5,b.c0,b.c1,b.c2,b.c3,b.c4,b.c5,.int .i64 (.ofNat er)]) ho (px a<|px b<|pi _<|rfl) (AcW _ _) (Aa kE<|Ad) (step_ok h0 (by omega) (decide_eq_false (by omega))) rfl rfl rfl rfl
theorem n_at_o {e:En}{own:ME}{n:Int}(ho:AI own)(h0:0≤n)(h1:n<5000){a b:X}{u0:Vl}{n0:Int}{u1:Vl}{n1:Int}{er:Nat}(k0:Ev e 1 own (n+1) a (.ok (u0,n0)))(k1:Ev e 1 own n0 b (.ok (u1,n1)))(hv:VF 273 [u0.av,u1.av] (Cn er)):Ev e 1 own n (.at a b) (.error er):=
 Ar (r:=[a.c0,a.c1,a.c2,a.c3,a.c4,a.c5,b.c0,b.c1,b.c2,b.c3,b.c4,b.c5,Aq u0.sh,Ax u0.it,Al u0.dm,.int .i64 n0,Aq u1.sh,Ax u1.it,Al u1.dm,.int .i64 n1,.int .i64 (.ofNat er)]) ho (px a<|px b<|pv u0<|pi _<|pv u1<|pi _<|pi _<|rfl) (r_at_o _ _) (Aa k0<|Aa k1<|Aa hv<|Ad) (step_ok h0 (by omega) (decide_eq_false (by omega))) rfl rfl rfl rfl
theorem n_at_k {e:En}{own:ME}{n:Int}(ho:AI own)(h0:0≤n)(h1:n<5000){a b:X}{u0:Vl}{n0:Int}{u1:Vl}{n1:Int}{w:Vl}(k0:Ev e 1 own (n+1) a (.ok (u0,n0)))(k1:Ev e 1 own n0 b (.ok (u1,n1)))(hv:VF 273 [u0.av,u1.av] (.ret w.av)):Ev e 1 own n (.at a b) (.ok (w,n1)):=
 Ar (r:=[a.c0,a.c1,a.c2,a.c3,a.c4,a.c5,b.c0,b.c1,b.c2,b.c3,b.c4,b.c5,Aq u0.sh,Ax u0.it,Al u0.dm,.int .i64 n0,Aq u1.sh,Ax u1.it,Al u1.dm,.int .i64 n1,Aq w.sh,Ax w.it,Al w.dm]) ho (px a<|px b<|pv u0<|pi _<|pv u1<|pi _<|pv w<|rfl) (r_at_k _ _) (Aa k0<|Aa k1<|Aa hv<|Ad) (step_ok h0 (by omega) (decide_eq_false (by omega))) rfl rfl rfl rfl
def X.cs (x:X):List AV:=[x.c0,x.c1,x.c2,x.c3,x.c4,x.c5]
def boxA (x:List AV):OL:=[(6,.cells 92 [.ptr 0 0]),(7,.cells 282 [.int .i64 1,.int .i64 5,.map 2]),(8,.cells 35 x)]
def Lu (x:List AV):UL:=[(6,some (.cells 92 [.ptr 0 0])),(7,some (.cells 282 [.int .i64 1,.int .i64 5,.map 2])),(8,some (.cells 35 x))]
def clA (cl:FuncId):AV:=.func (.func cl) [] [.ptr 6 0,.ptr 7 0,.ptr 8 0]
def Bd (e:En)(own:ME)(n:Int)(s:List Nat)(v:Vl)(cl:FuncId)(x:X)(r:Rs):Prop:=CM P4 gl5 9 265 [scA 1,.str s,v.av,clA cl] (boxA x.cs++lwA e n own) (resE r) (Lu x.cs++uwA e (stE r) own)
def bdF (cl:FuncId)(s:List Nat)(v:AV)(x:List AV)(i:Nat)(own:AO)(res:AM)(st:Option Nat):OF:=⟨265,9,[scA 1,.str s,v,clA cl],boxA x++lwS i own,res,Lu x++uwS st own⟩
def OM:List (List Nat×List (List AV))→List Nat→List AV→List (List Nat×List (List AV))
 | [],s,c=>[(s,[c])]
 | p::r,s,c=>bif Av p.1 s then(p.1,p.2++[c])::r else p::OM r s c
def ownM (l:List (List Nat×List (List AV))):ME:=l.map fun p=>(.str p.1,.psl p.2.flatten p.2.length none,0)
def ownF (bs:List (List Nat×List AV)):ME:=ownM (bs.foldl (fun l p=>OM l p.1 p.2) [])
abbrev Bs:=List (List Nat×Vl)
def CL (bs:Bs):ME:=ownF (bs.map fun p=>(p.1,[Aq p.2.sh,Ax p.2.it,Al p.2.dm]))
def skE (l:List (List Nat×Nat)):ME:=ownF (l.map fun p=>(p.1,[.sel p.2,.sel (p.2+1),.sel (p.2+2)]))
theorem Wb {es:ME}(h:(es.all fun p=>Ay p.1&&Ay p.2.1)=true):AI es:=by
 induction es with
 | nil=>rfl
 | cons p r ih=>
  simp only[List.all_cons,Bool.and_eq_true] at h
  have h3:=ih (by simpa only[Bool.and_eq_true] using h.2)
  obtain⟨x,y,n⟩:=p
  have h1:=Ep x h.1.1
  have h2:=Ep y h.1.2
  unfold AI at h3 ⊢
  simp only[Bool.and_eq_true] at h3
  simp only[FE,DP,h1.1,h1.2 0,h2.1,h2.2 0,h3.1,h3.2,Bool.and_self]
theorem TB {l:List (List Nat×List (List AV))}(h:∀p∈l,∀c∈p.2,Bi c=true){s:List Nat}{c:List AV}(hc:Bi c=true):∀p∈OM l s c,∀c∈p.2,Bi c=true:=by
 induction l with
 | nil=>
  intro p hp c' hc'
  simp only[OM,List.mem_singleton] at hp
  subst hp
  simp only[List.mem_singleton] at hc'
  subst hc'
  exact hc
 | cons q r ih=>
  intro p hp c' hc'
  unfold OM at hp
  cases hb:Av q.1 s with
  | true=>
   rw[hb] at hp
   simp only[cond_true,List.mem_cons] at hp
   rcases hp with rfl|hp
   ·simp only[List.mem_append,List.mem_singleton] at hc'
    rcases hc' with hc'|rfl
    ·exact h q (by simp) _ hc'
    ·exact hc
   ·exact h p (by simp[hp]) _ hc'
  | false=>
   rw[hb] at hp
   simp only[cond_false,List.mem_cons] at hp
   rcases hp with rfl|hp
   ·exact h p (by simp) _ hc'
   ·exact ih (fun p hp=>h p (by simp[hp])) p hp c' hc'
theorem NM:∀{l:List (List AV)},(∀c∈l,Bi c=true)→Bi l.flatten=true
 | [],_=>rfl
 | c::r,h=>by
  rw[List.flatten_cons]
  exact I4 (h c (by simp)) (NM fun c hc=>h c (by simp[hc]))
theorem CD (bs:Bs):AI (CL bs):=by
 have key:∀(l:List (List Nat×List AV)) (m:List (List Nat×List (List AV))),(∀p∈l,Bi p.2=true)→(∀p∈m,∀c∈p.2,Bi c=true)→∀p∈l.foldl (fun l p=>OM l p.1 p.2) m,∀c∈p.2,Bi c=true:=by
  intro l
  induction l with
  | nil=>intro m _ h;exact h
  | cons q r ih=>intro m h1 h2;exact ih _ (fun p hp=>h1 p (by simp[hp])) (TB h2 (h1 q (by simp)))
 refine Wb (List.all_eq_true.2 fun p hp=>?_)
 unfold CL ownF ownM at hp
 obtain⟨q,hq,rfl⟩:=List.mem_map.1 hp
 have h2:=key _ [] (fun p hp=>by
  obtain⟨v,_,rfl⟩:=List.mem_map.1 hp
  simp[Bi,(Pl.sh _).v,(Pl.it _).v,(Pl.dm _).v]) (by simp) q hq
 simp only[Ay,NM h2,Bool.and_self]
noncomputable def JF (l:List AV)(facts:List OF)(cl:FuncId)(s:List Nat)(v:AV)(x:List AV)(own:AO)(res:AM)(st:Option Nat):Bool:=
 facts.all (fun q=>BH q.N q.args q.l q.res q.u)&&Br (EM l [[],A8] facts [] [] []) 4000 80 9 265 [scA 1,.str s,v,clA cl] (boxA x++lwS 24 own) res (Lu x++uwS st own)
theorem Du {e:En}{n:Int}{own:ME}{r:List AV}(hl:Pls r){facts:List OF}{cl:FuncId}{s:List Nat}{v:AV}{V:Vl}{xs:List AV}{x:X}{ao:AO}{res:AM}{st:Option Nat}{R:Rs}
 (hr:JF (CI e n r) facts cl s v xs ao res st=true) (hf:∀q∈facts,BM (Am (CI e n r)) (mpL [[],A8]) q)
 (h1:Au (Am (CI e n r)) noT [scA 1,.str s,v,clA cl]=[scA 1,.str s,V.av,clA cl]) (h2:DE (Am (CI e n r)) noT (mpL [[],A8]) (boxA xs++lwS 24 ao)=boxA x.cs++lwA e n own) (h3:Bu (Am (CI e n r)) noT res=resE R) (h4:Dh (Am (CI e n r)) noT (mpL [[],A8]) (Lu xs++uwS st ao)=Lu x.cs++uwA e (stE R) own):Bd e own n s V cl x R:=by
 unfold JF at hr
 simp only[Bool.and_eq_true] at hr
 have:=Ci (KO e n hl) (mu:=[[],A8]) rfl hr.1 hf Ad Ad Ad hr.2
 rw[h1,h2,h3,h4] at this
 exact this
noncomputable def runE3 (l:List AV)(facts:List OF)(bins:List NB)(c:List AV)(own units:AO)(fu:List AV)(res:AM)(st:Option Nat):Bool:=
 facts.all (fun q=>BH q.N q.args q.l q.res q.u)&&Br (EM l [[],A8] facts bins [] []) 4000 80 6 191 [.ptr 0 0,scA 1,.agg c] (lwG (.sel 24) own units fu D6) res (uwG (st.map .sel) own units fu D6)
theorem B6 {e:En}{n:Int}{own:ME}{mu:List ME}{r:List AV}(hmu:(mu.all fun es=>FE es&&DP 0 es)=true)(hl:Pls r){facts:List OF}{bins:List NB}{c:List AV}{ao un:AO}{fu:List AV}{res:AM}{st:Option Nat}{x:X}{R:Rs}
 (hr:(facts.all (fun q=>BH q.N q.args q.l q.res q.u)&&Br (EM (CI e n r) mu facts bins [] []) 4000 80 6 191 [.ptr 0 0,scA 1,.agg c] (lwG (.sel 24) ao un fu D6) res (uwG (st.map .sel) ao un fu D6))=true) (hf:∀q∈facts,BM (Am (CI e n r)) (mpL mu) q) (hb:∀q∈bins,DL (Am (CI e n r)) q)
 (h1:Au (Am (CI e n r)) noT [.ptr 0 0,scA 1,.agg c]=[.ptr 0 0,scA 1,x.av]) (h2:DE (Am (CI e n r)) noT (mpL mu) (lwG (.sel 24) ao un fu D6)=lwA e n own) (h3:Bu (Am (CI e n r)) noT res=resE R) (h4:Dh (Am (CI e n r)) noT (mpL mu) (uwG (st.map .sel) ao un fu D6)=uwA e (stE R) own):Ev e 1 own n x R:=by
 simp only[Bool.and_eq_true] at hr
 have:=Ci (KO e n hl) hmu hr.1 hf hb Ad Ad hr.2
 rw[h1,h2,h3,h4] at this
 exact this
def nA:List Nat:=[97]
def nZ:List Nat:=[122]
def nU:List Nat:=[117,110,117,115,101,100]
def Ch:List (List Nat):=[nA,nZ,nmI,nU]
def Ct:List (List Nat):=[nA,nZ,nmI]
def ctx:Nat→List (List (List Nat))
 | 0=>[[]]
 | 1=>Ch.map fun a=>[a]
 | 2=>Ch.flatMap fun a=>Ct.map fun b=>[a,b]
 | _=>Ch.flatMap fun a=>Ct.flatMap fun b=>Ct.map fun c=>[a,b,c]
def DS:List (List Nat)→Nat→List (List Nat×Nat)
 | [],_=>[]
 | s::r,k=>(s,k)::DS r (k+3)
theorem Abl (l:List AV):((ctx 0).all fun c=>([nA,nZ,nU]:List (List Nat)).all fun s=>JF l [evF 1 35 24 (.map (skE (DS c 26++[(s,26)])) 0) (AJ 41) (some 44)] 266 s (.agg [.sel 26,.sel 27,.sel 28]) [.int .i64 13,.str [],.str [],.str s,.int .i64 0,.psl [.sel 29,.sel 30,.sel 31,.sel 32,.sel 33,.sel 34,.sel 35,.sel 36,.sel 37,.sel 38,.sel 39,.sel 40] 2 none] (.map (skE (DS c 26)) 0) (AJ 41) (some 44))=true:=by kernel_rfl
theorem Aci (l:List AV):((ctx 0).all fun c=>([nA,nZ,nU]:List (List Nat)).all fun s=>JF l [evF 1 35 24 (.map (skE (DS c 26++[(s,26)])) 0) (AQ 41) none] 266 s (.agg [.sel 26,.sel 27,.sel 28]) [.int .i64 13,.str [],.str [],.str s,.int .i64 0,.psl [.sel 29,.sel 30,.sel 31,.sel 32,.sel 33,.sel 34,.sel 35,.sel 36,.sel 37,.sel 38,.sel 39,.sel 40] 2 none] (.map (skE (DS c 26)) 0) (AQ 41) none)=true:=by kernel_rfl
theorem Aa3 (l:List AV):((ctx 0).all fun c=>([nmI]:List (List Nat)).all fun s=>JF l [evF 1 29 24 (.map (skE (DS c 26++[(s,26)])) 0) (AJ 37) (some 40)] 322 s (.agg [.sel 26,.sel 27,.sel 28]) [.sel 35,.str [],.str [],.str s,.sel 36,.psl [.sel 29,.sel 30,.sel 31,.sel 32,.sel 33,.sel 34] 1 none] (.map (skE (DS c 26)) 0) (AJ 37) (some 40))=true:=by kernel_rfl
theorem Acl (l:List AV):((ctx 0).all fun c=>([nmI]:List (List Nat)).all fun s=>JF l [evF 1 29 24 (.map (skE (DS c 26++[(s,26)])) 0) (AQ 37) none] 322 s (.agg [.sel 26,.sel 27,.sel 28]) [.sel 35,.str [],.str [],.str s,.sel 36,.psl [.sel 29,.sel 30,.sel 31,.sel 32,.sel 33,.sel 34] 1 none] (.map (skE (DS c 26)) 0) (AQ 37) none)=true:=by kernel_rfl
theorem Aa7 (l:List AV):((ctx 1).all fun c=>([nA,nZ]:List (List Nat)).all fun s=>JF l [evF 1 38 24 (.map (skE (DS c 26++[(s,29)])) 0) (AJ 44) (some 47)] 266 s (.agg [.sel 29,.sel 30,.sel 31]) [.int .i64 13,.str [],.str [],.str s,.int .i64 0,.psl [.sel 32,.sel 33,.sel 34,.sel 35,.sel 36,.sel 37,.sel 38,.sel 39,.sel 40,.sel 41,.sel 42,.sel 43] 2 none] (.map (skE (DS c 26)) 0) (AJ 44) (some 47))=true:=by kernel_rfl
theorem Acp (l:List AV):((ctx 1).all fun c=>([nA,nZ]:List (List Nat)).all fun s=>JF l [evF 1 38 24 (.map (skE (DS c 26++[(s,29)])) 0) (AQ 44) none] 266 s (.agg [.sel 29,.sel 30,.sel 31]) [.int .i64 13,.str [],.str [],.str s,.int .i64 0,.psl [.sel 32,.sel 33,.sel 34,.sel 35,.sel 36,.sel 37,.sel 38,.sel 39,.sel 40,.sel 41,.sel 42,.sel 43] 2 none] (.map (skE (DS c 26)) 0) (AQ 44) none)=true:=by kernel_rfl
theorem Ab7 (l:List AV):((ctx 1).all fun c=>([nmI]:List (List Nat)).all fun s=>JF l [evF 1 32 24 (.map (skE (DS c 26++[(s,29)])) 0) (AJ 40) (some 43)] 322 s (.agg [.sel 29,.sel 30,.sel 31]) [.sel 38,.str [],.str [],.str s,.sel 39,.psl [.sel 32,.sel 33,.sel 34,.sel 35,.sel 36,.sel 37] 1 none] (.map (skE (DS c 26)) 0) (AJ 40) (some 43))=true:=by kernel_rfl
theorem Acj (l:List AV):((ctx 1).all fun c=>([nmI]:List (List Nat)).all fun s=>JF l [evF 1 32 24 (.map (skE (DS c 26++[(s,29)])) 0) (AQ 40) none] 322 s (.agg [.sel 29,.sel 30,.sel 31]) [.sel 38,.str [],.str [],.str s,.sel 39,.psl [.sel 32,.sel 33,.sel 34,.sel 35,.sel 36,.sel 37] 1 none] (.map (skE (DS c 26)) 0) (AQ 40) none)=true:=by kernel_rfl
theorem Abk (l:List AV):((ctx 2).all fun c=>([nA,nZ]:List (List Nat)).all fun s=>JF l [evF 1 41 24 (.map (skE (DS c 26++[(s,32)])) 0) (AJ 47) (some 50)] 266 s (.agg [.sel 32,.sel 33,.sel 34]) [.int .i64 13,.str [],.str [],.str s,.int .i64 0,.psl [.sel 35,.sel 36,.sel 37,.sel 38,.sel 39,.sel 40,.sel 41,.sel 42,.sel 43,.sel 44,.sel 45,.sel 46] 2 none] (.map (skE (DS c 26)) 0) (AJ 47) (some 50))=true:=by kernel_rfl
theorem Ab3 (l:List AV):((ctx 2).all fun c=>([nA,nZ]:List (List Nat)).all fun s=>JF l [evF 1 41 24 (.map (skE (DS c 26++[(s,32)])) 0) (AQ 47) none] 266 s (.agg [.sel 32,.sel 33,.sel 34]) [.int .i64 13,.str [],.str [],.str s,.int .i64 0,.psl [.sel 35,.sel 36,.sel 37,.sel 38,.sel 39,.sel 40,.sel 41,.sel 42,.sel 43,.sel 44,.sel 45,.sel 46] 2 none] (.map (skE (DS c 26)) 0) (AQ 47) none)=true:=by kernel_rfl
theorem AbW (l:List AV):((ctx 2).all fun c=>([nmI]:List (List Nat)).all fun s=>JF l [evF 1 35 24 (.map (skE (DS c 26++[(s,32)])) 0) (AJ 43) (some 46)] 322 s (.agg [.sel 32,.sel 33,.sel 34]) [.sel 41,.str [],.str [],.str s,.sel 42,.psl [.sel 35,.sel 36,.sel 37,.sel 38,.sel 39,.sel 40] 1 none] (.map (skE (DS c 26)) 0) (AJ 43) (some 46))=true:=by kernel_rfl
theorem AbK (l:List AV):((ctx 2).all fun c=>([nmI]:List (List Nat)).all fun s=>JF l [evF 1 35 24 (.map (skE (DS c 26++[(s,32)])) 0) (AQ 43) none] 322 s (.agg [.sel 32,.sel 33,.sel 34]) [.sel 41,.str [],.str [],.str s,.sel 42,.psl [.sel 35,.sel 36,.sel 37,.sel 38,.sel 39,.sel 40] 1 none] (.map (skE (DS c 26)) 0) (AQ 43) none)=true:=by kernel_rfl
theorem Ht:[]∈ctx 0:=by simp[ctx]
theorem He {a:List Nat}(h:a∈Ch):[a]∈ctx 1:=List.mem_map_of_mem h
theorem Ie {a b:List Nat}(h:a∈Ch)(h2:b∈Ct):[a,b]∈ctx 2:=List.mem_flatMap.2 ⟨a,h,List.mem_map_of_mem (f:=fun b=>[a,b]) h2⟩
theorem Aab {a b c:List Nat}(h:a∈Ch)(h2:b∈Ct)(h3:c∈Ct):[a,b,c]∈ctx 3:=List.mem_flatMap.2 ⟨a,h,List.mem_flatMap.2 ⟨b,h2,List.mem_map_of_mem (f:=fun c=>[a,b,c]) h3⟩⟩
theorem bdL0k {e:En}{n:Int}{s:List Nat}(hs:s∈([nA,nZ,nU]:List (List Nat))){v:Vl}{a b:X}{w:Vl}{n2:Int}(hb:Ev e 1 (CL [(s,v)]) n b (.ok (w,n2))):Bd e (CL []) n s v 266 (.lett s a b) (.ok (w,n2)):=by
 have hr:=List.all_eq_true.1 (List.all_eq_true.1 (Abl (CI e n [Aq v.sh,Ax v.it,Al v.dm,a.c0,a.c1,a.c2,a.c3,a.c4,a.c5,b.c0,b.c1,b.c2,b.c3,b.c4,b.c5,Aq w.sh,Ax w.it,Al w.dm,.int .i64 n2])) _ (Ht)) _ hs
 simp only[List.mem_cons,List.not_mem_nil,or_false] at hs
 rcases hs with rfl|rfl|rfl<;>exact Du (pv v<|px a<|px b<|pv w<|pi _<|rfl) hr (Aa hb Ad) rfl rfl rfl rfl
theorem bdL0e {e:En}{n:Int}{s:List Nat}(hs:s∈([nA,nZ,nU]:List (List Nat))){v:Vl}{a b:X}{er:Nat}(hb:Ev e 1 (CL [(s,v)]) n b (.error er)):Bd e (CL []) n s v 266 (.lett s a b) (.error er):=by
 have hr:=List.all_eq_true.1 (List.all_eq_true.1 (Aci (CI e n [Aq v.sh,Ax v.it,Al v.dm,a.c0,a.c1,a.c2,a.c3,a.c4,a.c5,b.c0,b.c1,b.c2,b.c3,b.c4,b.c5,.int .i64 (.ofNat er)])) _ (Ht)) _ hs
 simp only[List.mem_cons,List.not_mem_nil,or_false] at hs
 rcases hs with rfl|rfl|rfl<;>exact Du (pv v<|px a<|px b<|pi _<|rfl) hr (Aa hb Ad) rfl rfl rfl rfl
theorem bdT0k {e:En}{n:Int}{s:List Nat}(hs:s∈([nmI]:List (List Nat))){v:Vl}{a:X}{x:X}{c0i c4i:Int}(hx:x.cs=[.int .i64 c0i,.str [],.str [],.str s,.int .i64 c4i,.psl [a.c0,a.c1,a.c2,a.c3,a.c4,a.c5] 1 none]){w:Vl}{n2:Int}(hb:Ev e 1 (CL [(s,v)]) n a (.ok (w,n2))):Bd e (CL []) n s v 322 x (.ok (w,n2)):=by
 have hr:=List.all_eq_true.1 (List.all_eq_true.1 (Aa3 (CI e n [Aq v.sh,Ax v.it,Al v.dm,a.c0,a.c1,a.c2,a.c3,a.c4,a.c5,.int .i64 c0i,.int .i64 c4i,Aq w.sh,Ax w.it,Al w.dm,.int .i64 n2])) _ (Ht)) _ hs
 simp only[List.mem_cons,List.not_mem_nil,or_false] at hs
 rcases hs with rfl<;>exact Du (pv v<|px a<|pi _<|pi _<|pv w<|pi _<|rfl) hr (Aa hb Ad) rfl (by rw[hx];rfl) rfl (by unfold Lu;rw[hx];rfl)
theorem bdT0e {e:En}{n:Int}{s:List Nat}(hs:s∈([nmI]:List (List Nat))){v:Vl}{a:X}{x:X}{c0i c4i:Int}(hx:x.cs=[.int .i64 c0i,.str [],.str [],.str s,.int .i64 c4i,.psl [a.c0,a.c1,a.c2,a.c3,a.c4,a.c5] 1 none]){er:Nat}(hb:Ev e 1 (CL [(s,v)]) n a (.error er)):Bd e (CL []) n s v 322 x (.error er):=by
 have hr:=List.all_eq_true.1 (List.all_eq_true.1 (Acl (CI e n [Aq v.sh,Ax v.it,Al v.dm,a.c0,a.c1,a.c2,a.c3,a.c4,a.c5,.int .i64 c0i,.int .i64 c4i,.int .i64 (.ofNat er)])) _ (Ht)) _ hs
 simp only[List.mem_cons,List.not_mem_nil,or_false] at hs
 rcases hs with rfl<;>exact Du (pv v<|px a<|pi _<|pi _<|pi _<|rfl) hr (Aa hb Ad) rfl (by rw[hx];rfl) rfl (by unfold Lu;rw[hx];rfl)
theorem bdL1k {e:En}{n:Int}{s1 s:List Nat}(h1:s1∈Ch)(hs:s∈([nA,nZ]:List (List Nat))){v1 v:Vl}{a b:X}{w:Vl}{n2:Int}(hb:Ev e 1 (CL [(s1,v1),(s,v)]) n b (.ok (w,n2))):Bd e (CL [(s1,v1)]) n s v 266 (.lett s a b) (.ok (w,n2)):=by
 have hr:=List.all_eq_true.1 (List.all_eq_true.1 (Aa7 (CI e n [Aq v1.sh,Ax v1.it,Al v1.dm,Aq v.sh,Ax v.it,Al v.dm,a.c0,a.c1,a.c2,a.c3,a.c4,a.c5,b.c0,b.c1,b.c2,b.c3,b.c4,b.c5,Aq w.sh,Ax w.it,Al w.dm,.int .i64 n2])) _ (He h1)) _ hs
 simp only[Ch,List.mem_cons,List.not_mem_nil,or_false] at h1 hs
 rcases h1 with rfl|rfl|rfl|rfl<;>rcases hs with rfl|rfl<;>exact Du (pv v1<|pv v<|px a<|px b<|pv w<|pi _<|rfl) hr (Aa hb Ad) rfl rfl rfl rfl
theorem bdL1e {e:En}{n:Int}{s1 s:List Nat}(h1:s1∈Ch)(hs:s∈([nA,nZ]:List (List Nat))){v1 v:Vl}{a b:X}{er:Nat}(hb:Ev e 1 (CL [(s1,v1),(s,v)]) n b (.error er)):Bd e (CL [(s1,v1)]) n s v 266 (.lett s a b) (.error er):=by
 have hr:=List.all_eq_true.1 (List.all_eq_true.1 (Acp (CI e n [Aq v1.sh,Ax v1.it,Al v1.dm,Aq v.sh,Ax v.it,Al v.dm,a.c0,a.c1,a.c2,a.c3,a.c4,a.c5,b.c0,b.c1,b.c2,b.c3,b.c4,b.c5,.int .i64 (.ofNat er)])) _ (He h1)) _ hs
 simp only[Ch,List.mem_cons,List.not_mem_nil,or_false] at h1 hs
 rcases h1 with rfl|rfl|rfl|rfl<;>rcases hs with rfl|rfl<;>exact Du (pv v1<|pv v<|px a<|px b<|pi _<|rfl) hr (Aa hb Ad) rfl rfl rfl rfl
theorem bdT1k {e:En}{n:Int}{s1 s:List Nat}(h1:s1∈Ch)(hs:s∈([nmI]:List (List Nat))){v1 v:Vl}{a:X}{x:X}{c0i c4i:Int}(hx:x.cs=[.int .i64 c0i,.str [],.str [],.str s,.int .i64 c4i,.psl [a.c0,a.c1,a.c2,a.c3,a.c4,a.c5] 1 none]){w:Vl}{n2:Int}(hb:Ev e 1 (CL [(s1,v1),(s,v)]) n a (.ok (w,n2))):Bd e (CL [(s1,v1)]) n s v 322 x (.ok (w,n2)):=by
 have hr:=List.all_eq_true.1 (List.all_eq_true.1 (Ab7 (CI e n [Aq v1.sh,Ax v1.it,Al v1.dm,Aq v.sh,Ax v.it,Al v.dm,a.c0,a.c1,a.c2,a.c3,a.c4,a.c5,.int .i64 c0i,.int .i64 c4i,Aq w.sh,Ax w.it,Al w.dm,.int .i64 n2])) _ (He h1)) _ hs
 simp only[Ch,List.mem_cons,List.not_mem_nil,or_false] at h1 hs
 rcases h1 with rfl|rfl|rfl|rfl<;>rcases hs with rfl<;>exact Du (pv v1<|pv v<|px a<|pi _<|pi _<|pv w<|pi _<|rfl) hr (Aa hb Ad) rfl (by rw[hx];rfl) rfl (by unfold Lu;rw[hx];rfl)
theorem bdT1e {e:En}{n:Int}{s1 s:List Nat}(h1:s1∈Ch)(hs:s∈([nmI]:List (List Nat))){v1 v:Vl}{a:X}{x:X}{c0i c4i:Int}(hx:x.cs=[.int .i64 c0i,.str [],.str [],.str s,.int .i64 c4i,.psl [a.c0,a.c1,a.c2,a.c3,a.c4,a.c5] 1 none]){er:Nat}(hb:Ev e 1 (CL [(s1,v1),(s,v)]) n a (.error er)):Bd e (CL [(s1,v1)]) n s v 322 x (.error er):=by
 have hr:=List.all_eq_true.1 (List.all_eq_true.1 (Acj (CI e n [Aq v1.sh,Ax v1.it,Al v1.dm,Aq v.sh,Ax v.it,Al v.dm,a.c0,a.c1,a.c2,a.c3,a.c4,a.c5,.int .i64 c0i,.int .i64 c4i,.int .i64 (.ofNat er)])) _ (He h1)) _ hs
 simp only[Ch,List.mem_cons,List.not_mem_nil,or_false] at h1 hs
 rcases h1 with rfl|rfl|rfl|rfl<;>rcases hs with rfl<;>exact Du (pv v1<|pv v<|px a<|pi _<|pi _<|pi _<|rfl) hr (Aa hb Ad) rfl (by rw[hx];rfl) rfl (by unfold Lu;rw[hx];rfl)
theorem bdL2k {e:En}{n:Int}{s1 s2 s:List Nat}(h1:s1∈Ch)(h2:s2∈Ct)(hs:s∈([nA,nZ]:List (List Nat))){v1 v2 v:Vl}{a b:X}{w:Vl}{n2:Int}(hb:Ev e 1 (CL [(s1,v1),(s2,v2),(s,v)]) n b (.ok (w,n2))):Bd e (CL [(s1,v1),(s2,v2)]) n s v 266 (.lett s a b) (.ok (w,n2)):=by
 have hr:=List.all_eq_true.1 (List.all_eq_true.1 (Abk (CI e n [Aq v1.sh,Ax v1.it,Al v1.dm,Aq v2.sh,Ax v2.it,Al v2.dm,Aq v.sh,Ax v.it,Al v.dm,a.c0,a.c1,a.c2,a.c3,a.c4,a.c5,b.c0,b.c1,b.c2,b.c3,b.c4,b.c5,Aq w.sh,Ax w.it,Al w.dm,.int .i64 n2])) _ (Ie h1 h2)) _ hs
 simp only[Ch,Ct,List.mem_cons,List.not_mem_nil,or_false] at h1 h2 hs
 rcases h1 with rfl|rfl|rfl|rfl<;>rcases h2 with rfl|rfl|rfl<;>rcases hs with rfl|rfl<;>exact Du (pv v1<|pv v2<|pv v<|px a<|px b<|pv w<|pi _<|rfl) hr (Aa hb Ad) rfl rfl rfl rfl
theorem bdL2e {e:En}{n:Int}{s1 s2 s:List Nat}(h1:s1∈Ch)(h2:s2∈Ct)(hs:s∈([nA,nZ]:List (List Nat))){v1 v2 v:Vl}{a b:X}{er:Nat}(hb:Ev e 1 (CL [(s1,v1),(s2,v2),(s,v)]) n b (.error er)):Bd e (CL [(s1,v1),(s2,v2)]) n s v 266 (.lett s a b) (.error er):=by
 have hr:=List.all_eq_true.1 (List.all_eq_true.1 (Ab3 (CI e n [Aq v1.sh,Ax v1.it,Al v1.dm,Aq v2.sh,Ax v2.it,Al v2.dm,Aq v.sh,Ax v.it,Al v.dm,a.c0,a.c1,a.c2,a.c3,a.c4,a.c5,b.c0,b.c1,b.c2,b.c3,b.c4,b.c5,.int .i64 (.ofNat er)])) _ (Ie h1 h2)) _ hs
 simp only[Ch,Ct,List.mem_cons,List.not_mem_nil,or_false] at h1 h2 hs
 rcases h1 with rfl|rfl|rfl|rfl<;>rcases h2 with rfl|rfl|rfl<;>rcases hs with rfl|rfl<;>exact Du (pv v1<|pv v2<|pv v<|px a<|px b<|pi _<|rfl) hr (Aa hb Ad) rfl rfl rfl rfl
theorem bdT2k {e:En}{n:Int}{s1 s2 s:List Nat}(h1:s1∈Ch)(h2:s2∈Ct)(hs:s∈([nmI]:List (List Nat))){v1 v2 v:Vl}{a:X}{x:X}{c0i c4i:Int}(hx:x.cs=[.int .i64 c0i,.str [],.str [],.str s,.int .i64 c4i,.psl [a.c0,a.c1,a.c2,a.c3,a.c4,a.c5] 1 none]){w:Vl}{n2:Int}(hb:Ev e 1 (CL [(s1,v1),(s2,v2),(s,v)]) n a (.ok (w,n2))):Bd e (CL [(s1,v1),(s2,v2)]) n s v 322 x (.ok (w,n2)):=by
 have hr:=List.all_eq_true.1 (List.all_eq_true.1 (AbW (CI e n [Aq v1.sh,Ax v1.it,Al v1.dm,Aq v2.sh,Ax v2.it,Al v2.dm,Aq v.sh,Ax v.it,Al v.dm,a.c0,a.c1,a.c2,a.c3,a.c4,a.c5,.int .i64 c0i,.int .i64 c4i,Aq w.sh,Ax w.it,Al w.dm,.int .i64 n2])) _ (Ie h1 h2)) _ hs
 simp only[Ch,Ct,List.mem_cons,List.not_mem_nil,or_false] at h1 h2 hs
 rcases h1 with rfl|rfl|rfl|rfl<;>rcases h2 with rfl|rfl|rfl<;>rcases hs with rfl<;>exact Du (pv v1<|pv v2<|pv v<|px a<|pi _<|pi _<|pv w<|pi _<|rfl) hr (Aa hb Ad) rfl (by rw[hx];rfl) rfl (by unfold Lu;rw[hx];rfl)
theorem bdT2e {e:En}{n:Int}{s1 s2 s:List Nat}(h1:s1∈Ch)(h2:s2∈Ct)(hs:s∈([nmI]:List (List Nat))){v1 v2 v:Vl}{a:X}{x:X}{c0i c4i:Int}(hx:x.cs=[.int .i64 c0i,.str [],.str [],.str s,.int .i64 c4i,.psl [a.c0,a.c1,a.c2,a.c3,a.c4,a.c5] 1 none]){er:Nat}(hb:Ev e 1 (CL [(s1,v1),(s2,v2),(s,v)]) n a (.error er)):Bd e (CL [(s1,v1),(s2,v2)]) n s v 322 x (.error er):=by
 have hr:=List.all_eq_true.1 (List.all_eq_true.1 (AbK (CI e n [Aq v1.sh,Ax v1.it,Al v1.dm,Aq v2.sh,Ax v2.it,Al v2.dm,Aq v.sh,Ax v.it,Al v.dm,a.c0,a.c1,a.c2,a.c3,a.c4,a.c5,.int .i64 c0i,.int .i64 c4i,.int .i64 (.ofNat er)])) _ (Ie h1 h2)) _ hs
 simp only[Ch,Ct,List.mem_cons,List.not_mem_nil,or_false] at h1 h2 hs
 rcases h1 with rfl|rfl|rfl|rfl<;>rcases h2 with rfl|rfl|rfl<;>rcases hs with rfl<;>exact Du (pv v1<|pv v2<|pv v<|px a<|pi _<|pi _<|pi _<|rfl) hr (Aa hb Ad) rfl (by rw[hx];rfl) rfl (by unfold Lu;rw[hx];rfl)
end Go.Ev
end
