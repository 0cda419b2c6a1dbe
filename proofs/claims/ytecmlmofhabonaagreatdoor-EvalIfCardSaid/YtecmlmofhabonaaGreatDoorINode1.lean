/- What the evaluator of the program does at a node of an expression, told of whatever its arguments evaluate to. -/
import Derived.Test.YtecmlmofhabonaaGreatDoorINode
noncomputable section
namespace Go.Ev
open Go Go.Ab Go.Nl Go.Nb Go.RowKit Go.Proofs Go.E4
set_option maxRecDepth 1000000
def nB:List Nat:=[98]
def nC:List Nat:=[99]
def nV:List Nat:=[118]
def nW:List Nat:=[119]
def Yu:List (List Nat×Nat)→List Nat→Option Nat→Option Nat
 |[],_,o=>o|p::r,s,o=>Yu r s (bif Am p.1 s then some p.2 else o)
def nmS (s:List Nat):Option Nat:=bif Am s nA then some 3 else bif Am s nB then some 6 else bif Am s nC then some 9 else bif Am s nV then some 12 else bif Am s nW then some 15 else none
def refs:List (List Nat):=[nA,nB,nC,nV,nW,nmI]
noncomputable def runR (l:List AV)(c:List (List Nat))(s:List Nat):Bool:=
 match Yu (DV c 26) s (nmS s) with
 |some k=>runE3 l [] (A9 false) [.int .i64 1,.str [],.str [],.str s,.int .i64 0,.emp] (.map (skE (DV c 26)) 0) (.opq 1) Hd (Bp k) (some 25)|none=>true
theorem r_ref0 (l:List AV):((ctx 0).all fun c=>refs.all fun s=>runR l c s)=true:=by kernel_rfl
theorem r_ref1 (l:List AV):((ctx 1).all fun c=>refs.all fun s=>runR l c s)=true:=by kernel_rfl
theorem r_ref2 (l:List AV):((ctx 2).all fun c=>refs.all fun s=>runR l c s)=true:=by kernel_rfl
theorem r_ref3 (l:List AV):((ctx 3).all fun c=>refs.all fun s=>runR l c s)=true:=by kernel_rfl
end Go.Ev
end
