/- What the evaluator of the program does at a node of an expression, told of whatever its arguments evaluate to. -/
import Derived.Test.YtecmlmofhabonaaGreatDoorSNode7
import Derived.Test.YtecmlmofhabonaaGreatDoorSSize1
noncomputable section
namespace Go.Ev
open Go Go.Ab Go.Nl Go.Nb Go.RowKit Go.Proofs Go.E4
theorem eval_okS {b:Bn}{f x:X}(hb:Sf b)(hf:Wk 0 f)(hx:Wk 0 x){k:Kd}(hk:k∈F4){l:List Vl}(hl:∀v∈l,VOk k v)(h1:1≤l.length)(h4:l.length≤4){n:Int}(he:Ev (b.en f) 1 [] 0 x (.ok (C3 l,n))):VF 16 [DN,EY f,EV b,x.av] (.ret (.tup [(C3 l).out,.int .i64 n,.int .i64 0])):=by
 have hn:l.length∈n4s:=by
  have:l.length=1∨l.length=2∨l.length=3∨l.length=4:=by omega
  rcases this with h|h|h|h<;>rw[h]<;>decide
 have hm:∀r:List Vl,(∀v∈r,VOk k v)→(r.flatMap (·.it)).length=r.length*nk k:=fun r=>by
  induction r with
  |nil=>intro _;simp
  |cons v r ih=>intro h;rw[List.flatMap_cons,zR,(h v (by simp)).eq.2,ih fun w hw=>h w (by simp[hw]),List.length_cons,Nat.add_mul,Nat.one_mul,Nat.add_comm]
 rw[K5 hl h1]at he ⊢;refine eval_gen hb hf hx (fun q hq=>?_) (fun s=>?_) he
 ·obtain⟨v,hv,hq⟩:=List.mem_flatMap.1 hq;exact(hl v hv).it q hq
 ·rw[hm l hl];exact r_topS s hk hn
end Go.Ev
end
