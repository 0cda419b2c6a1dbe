/- What the evaluator of the program does at a node of an expression, told of whatever its arguments evaluate to. -/
import Derived.Test.YtecmlmofhabonaaGreatDoorSNode4
noncomputable section
namespace Go.Ev
open Go Go.Ab Go.Nl Go.Nb Go.RowKit Go.Proofs Go.E4
set_option maxRecDepth 1000000
def F4:List Kd:=[.pl,.m,.ms,.m3]
theorem r_tS1 (l:List AV):(F4.all fun k=>Lx l (1::shK k) (1*nk k) k.dm)=true:=by kernel_rfl
theorem r_tS2 (l:List AV):(F4.all fun k=>Lx l (2::shK k) (2*nk k) k.dm)=true:=by kernel_rfl
theorem r_tS3 (l:List AV):(F4.all fun k=>Lx l (3::shK k) (3*nk k) k.dm)=true:=by kernel_rfl
theorem r_tS4 (l:List AV):(F4.all fun k=>Lx l (4::shK k) (4*nk k) k.dm)=true:=by kernel_rfl
theorem r_topS (l:List AV){k:Kd}(hk:k∈F4){c:Nat}(hc:c∈n4s):Lx l (c::shK k) (c*nk k) k.dm=true:=by
 simp only[n4s,zH,List.not_mem_nil,or_false]at hc;rcases hc with rfl|rfl|rfl|rfl
 ·exact zB.1 (r_tS1 l) k hk
 ·exact zB.1 (r_tS2 l) k hk
 ·exact zB.1 (r_tS3 l) k hk
 ·exact zB.1 (r_tS4 l) k hk
end Go.Ev
end
