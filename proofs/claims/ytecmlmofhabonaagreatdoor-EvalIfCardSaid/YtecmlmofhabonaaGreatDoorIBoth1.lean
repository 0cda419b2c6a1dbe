/- Operations on values, told of all numbers within the bounds. -/
import Derived.Test.YtecmlmofhabonaaGreatDoorIBoth
noncomputable section
namespace Go.Ev
open Go Go.Ab Go.Nl Go.Nb Go.RowKit Go.Proofs Go.E4
set_option maxRecDepth 1000000
def vCs (n m:Nat)(sh:List Nat)(d:Dm):List AV:=(List.range n).flatMap fun i=>vC sh (List.range' (m*i) m) d
def n4s:List Nat:=[1,2,3,4]
theorem Ld {n:Nat}(h1:1≤n)(h4:n≤4):n∈n4s:=by simp[n4s];omega
theorem runsS (l:List AV):(n4s.all fun n=>kds.all fun k=>ET l (BG++([]:List Fq).map (Fq.of (n*nk k))) 269 [.psl (vCs n (nk k) (shK k) k.dm) n none] (.ret (.agg (vC (n::shK k) (List.range' 0 (n*nk k)) k.dm))))=true:=by kernel_rfl
theorem runsP (l:List AV):(n4s.all fun n=>kds.all fun k=>(List.range 4).all fun i=>ET l (BG++([]:List Fq).map (Fq.of (n*nk k))) 273 [.agg (vC (n::shK k) (List.range' 0 (n*nk k)) k.dm),.agg [.emp,.psl (src (.ofNat i)) 1 none,.emp]] (bif Nat.blt i n then .ret (.agg (vC (shK k) (List.range' (nk k*i) (nk k)) k.dm)) else Ho 3))=true:=by kernel_rfl
def tF (n m:Nat)(fl:List Bool):List Fq:=
 ((List.range (n-1)).flatMap fun i=>(List.range m).map fun j=>.op 3 (bif Nat.beq i 0 then j else n*m+(m*(i-1)+j)) (m*(i+1)+j) (n*m+(m*i+j)))++(List.range m).map fun j=>.rat (bif Nat.beq n 1 then j else n*m+(m*(n-2)+j)) (fl.getD j true)
def tI (n m:Nat):List Nat:=(List.range' 0 m).map fun j=>bif Nat.beq n 1 then j else n*m+(m*(n-2)+j)
noncomputable def Ps (l:List AV)(n:Nat)(k:Kd):Bool:=(flags (nk k)).all fun fl=>ET l (BG++(tF n (nk k) fl).map (Fq.of (n*nk k+(n-1)*nk k))) 268 [.psl (vCs n (nk k) (shK k) k.dm) n none] (bif fl.all id then .ret (.agg (vC (shK k) (tI n (nk k)) k.dm)) else Ho 13)
theorem runsT1 (l:List AV):(n4s.all fun n=>([.pl,.m,.s,.m2,.ms]:List Kd).all fun k=>Ps l n k)=true:=by kernel_rfl
theorem runsT3 (l:List AV):(([1,2,3]:List Nat).all fun n=>([.pl3,.m3]:List Kd).all fun k=>Ps l n k)=true:=by kernel_rfl
theorem runsT4 (l:List AV):(([.pl3,.m3]:List Kd).all fun k=>Ps l 4 k)=true:=by kernel_rfl
theorem runsT (l:List AV){n:Nat}(h1:1≤n)(h4:n≤4)(k:Kd):Ps l n k=true:=by
 have key:∀k':Kd,k'∈([.pl3,.m3]:List Kd)→Ps l n k'=true:=fun k' hk=>by
  by_cases h:n=4
  ·subst h;exact zB.1 (runsT4 l) k' hk
  ·exact zB.1 (zB.1 (runsT3 l) n (by simp;omega)) k' hk
 have key1:∀k':Kd,k'∈([.pl,.m,.s,.m2,.ms]:List Kd)→Ps l n k'=true:=fun k' hk=>zB.1 (zB.1 (runsT1 l) n (Ld h1 h4)) k' hk
 cases k<;>first|exact key _ (by decide)|exact key1 _ (by decide)
def sqF (b:Bool):List OF:=BG++(vq 161 [sr 1,.agg (c4 0)] (.ret (.agg (c4 1)))::vq 165 [.int .i64 2,.int .i64 1] (.ret (sr 2))::[Fq.op 5 1 0 2,.rat 2 b].map (Fq.of 3))
theorem runsW (l:List AV):([true,false].all fun b=>ET l (sqF b) 272 [.agg (vC [] [0] .m),.int .i64 2] (bif b then .ret (.agg (vC [] [2] .m2)) else Ho 13))=true:=by kernel_rfl
end Go.Ev
end
