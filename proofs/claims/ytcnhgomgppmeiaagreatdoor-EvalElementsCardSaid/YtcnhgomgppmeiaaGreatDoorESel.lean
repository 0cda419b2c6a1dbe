/-
  Values that may be any of those that are drawn, and what the tables say of all of them.
-/
import Derived.Test.YtcnhgomgppmeiaaGreatDoorENp
import Derived.Test.YtcnhgomgppmeiaaGreatDoorEMemo
import Derived.Test.YtcnhgomgppmeiaaGreatDoorTab

noncomputable section
namespace Go.Ab.Dz
open Go Go.Ab Go.Proofs Go.Ro
set_option maxRecDepth 1000000

/-! Facts on values that nobody looks into: what the operations make of two drawn numbers. -/

abbrev Fc := Nat × List AV × AV

noncomputable def findF : List Fc → Nat → List AV → Option AV
  | [], _, _ => none
  | q :: r, f, args => bif Nat.beq q.1 f then (bif eqvsK q.2.1 args then some q.2.2 else findF r f args) else findF r f args
theorem findF_mem : ∀ {l : List Fc} {f : Nat} {args : List AV} {x : AV}, findF l f args = some x → (f, args, x) ∈ l
  | [], _, _, _, h => by cases h
  | (g, a, y) :: r, f, args, x, h => by
    simp only [findF] at h
    cases h1 : Nat.beq g f with
    | false => simp only [h1, cond_false] at h; exact List.mem_cons_of_mem _ (findF_mem h)
    | true =>
      simp only [h1, cond_true] at h
      obtain rfl := Nat.eq_of_beq_eq_true h1
      cases h2 : eqvsK a args with
      | false => simp only [h2, cond_false] at h; exact List.mem_cons_of_mem _ (findF_mem h)
      | true =>
        simp only [h2, cond_true, Option.some.injEq] at h
        subst h
        rw [eqvsK_eq] at h2
        rw [eqvs_eq _ _ h2]
        simp

/-- The primitives with a list of facts on top. -/
noncomputable def primL (base : FuncId → Option (List AV → AH → Option (AV × AH))) (l : List Fc) : FuncId → Option (List AV → AH → Option (AV × AH)) := fun f =>
  some fun args h => match findF l f args with
    | some x => some (x, h)
    | none => match base f with
      | some p => p args h
      | none => none

theorem primL_ok {P : Program} {E : Env} {base : FuncId → Option (List AV → AH → Option (AV × AH))} {l : List Fc} (hb : PrimOk P (withPrim E base)) (hl : ∀ q ∈ l, Memo P E q.1 q.2.1 q.2.2) : PrimOk P (withPrim E (primL base l)) := by
  intro f p hp k h w args vs v' h' hsz hr hg hv hpr
  change primL base l f = some p at hp
  simp only [primL, Option.some.injEq] at hp
  subst hp
  dsimp only at hpr
  split at hpr
  · rename_i x hx
    cases hpr
    exact hl _ (findF_mem hx) k h w vs hsz hr hg hv
  · split at hpr
    · rename_i p hp
      exact hb f p hp k h w args vs v' h' hsz hr hg hv hpr
    · cases hpr

def tabOf (f : Nat) : HT :=
  bif Nat.beq f 147 then mulT else bif Nat.beq f 146 then addT else bif Nat.beq f 160 then oppT else bif Nat.beq f 144 then lowT else bif Nat.beq f 62 then ratT else
  bif Nat.beq f 46 then ratofT else bif Nat.beq f 50 then chkT else bif Nat.beq f 59 then ofrT else bif Nat.beq f 11 then rzeroT else bif Nat.beq f 76 then zeroT else .e

/-- A fact at a choice. -/
def instF (σ : Nat → AV) (τ : Nat → List Nat) (q : Fc) : Fc × Bool := ((q.1, instL σ τ q.2.1, inst σ τ q.2.2), selOk σ q.2.2)
/-- .. looked up. -/
noncomputable def okI (q : Fc × Bool) : Bool :=
  (match findH (tabOf q.1.1) q.1.2.1 with
  | some y => eqvK y q.1.2.2
  | none => false) && q.2
noncomputable def okIs : List (Fc × Bool) → Bool
  | [] => true
  | q :: r => okI q && okIs r
noncomputable def okFacts (σ : Nat → AV) (τ : Nat → List Nat) (l : List Fc) : Bool := okIs (l.map (instF σ τ))
theorem okIs_mem : ∀ {l : List (Fc × Bool)}, okIs l = true → ∀ q ∈ l, okI q = true
  | [], _, q, hq => by cases hq
  | p :: r, h, q, hq => by
    simp only [okIs, Bool.and_eq_true] at h
    rcases List.mem_cons.1 hq with rfl | hq
    · exact h.1
    · exact okIs_mem h.2 q hq

theorem facts_ok {c : Cs} {σ : Nat → AV} {τ : Nat → List Nat} (hc : Chosen (kcC c) σ τ) (hT : ∀ f, AllH Tryz.prog (envC c) f (tabOf f)) {l : List Fc} (h : okFacts σ τ l = true) : ∀ q ∈ l, Memo Tryz.prog (envC c) q.1 q.2.1 q.2.2 := by
  intro q hq
  have h := okIs_mem h _ (List.mem_map_of_mem (f := instF σ τ) hq)
  unfold okI instF at h
  simp only [Bool.and_eq_true] at h
  obtain ⟨h1, h2⟩ := h
  split at h1
  case h_2 => cases h1
  rename_i y hy
  rw [eqvK_eq] at h1
  have := eqv_eq _ _ h1
  subst this
  exact memo_sel (E := envC c) hc ((hT q.1).find hy) h2

/-- Cells of a number. -/
def cellN (n : Int) (i : Nat) : AV := match numC n, i with
  | [a, _], 0 => a
  | [_, b], 1 => b
  | _, _ => .any

/-- What the values stand for: the generator's list and states aside, the numbers drawn, and the cells and texts of numbers. -/
def sig (v : Nat → Int) (N : Nat → Int) (i : Nat) : AV :=
  bif Nat.blt i 60 then .sel i else bif Nat.blt i 100 then .int .i64 (v (i - 60)) else cellN (N ((i - 100) / 2)) ((i - 100) % 2)
def tau (N : Nat → Int) (i : Nat) : List Nat := decS (N i)

def lowP (p q : Int) : Int := (bif decide (q < 0) then -p else p) / (Int.gcd p q)
def lowQ (p q : Int) : Int := (bif decide (q < 0) then -q else q) / (Int.gcd p q)

/-- The numbers of a pair of fractions and the four operations. -/
def slotN (n1 d1 n2 d2 : Int) (i : Nat) : Int := match i with
  | 0 => n1 * d2 | 1 => n2 * d1 | 2 => d1 * d2 | 3 => n1 * n2 | 4 => d1 * n2 | 5 => -n2 | 6 => -n2 * d1 | 7 => n1 * d2 + n2 * d1 | 8 => n1 * d2 + -n2 * d1
  | 9 => lowP (n1 * d2 + n2 * d1) (d1 * d2) | 10 => lowQ (n1 * d2 + n2 * d1) (d1 * d2)
  | 11 => lowP (n1 * d2 + -n2 * d1) (d1 * d2) | 12 => lowQ (n1 * d2 + -n2 * d1) (d1 * d2)
  | 13 => lowP (n1 * n2) (d1 * d2) | 14 => lowQ (n1 * n2) (d1 * d2)
  | 15 => lowP (n1 * d2) (d1 * n2) | 16 => lowQ (n1 * d2) (d1 * n2)
  | _ => 0

def nm (j : Nat) : List AV := [.sel (100 + 2 * j), .sel (101 + 2 * j)]
def nA (j : Nat) : AV := .agg (nm j)
def rA (j k : Nat) : AV := .agg (nm j ++ nm k)
def fin (n d r : Nat) : List Fc := [(144, [nA n, nA d], rA r (r + 1)), (62, [rA r (r + 1)], .tup [.agg [.stok r, .stok (r + 1)], .bool true])]
/-- The facts of an operation of items x and y. -/
def slotF (op x y s : Nat) : List Fc :=
  let xn := 2 * x; let xd := 2 * x + 1; let yn := 2 * y; let yd := 2 * y + 1
  let B := 12 + 17 * s
  match op with
  | 0 => [(147, [nA xn, nA yd], nA B), (147, [nA yn, nA xd], nA (B + 1)), (146, [nA B, nA (B + 1)], nA (B + 7)), (147, [nA xd, nA yd], nA (B + 2))] ++ fin (B + 7) (B + 2) (B + 9)
  | 1 => [(160, [nA yn], nA (B + 5)), (147, [nA xn, nA yd], nA B), (147, [nA (B + 5), nA xd], nA (B + 6)), (146, [nA B, nA (B + 6)], nA (B + 8)), (147, [nA xd, nA yd], nA (B + 2))] ++ fin (B + 8) (B + 2) (B + 11)
  | 2 => [(147, [nA xn, nA yn], nA (B + 3)), (147, [nA xd, nA yd], nA (B + 2))] ++ fin (B + 3) (B + 2) (B + 13)
  | _ => [(147, [nA xn, nA yd], nA B), (147, [nA xd, nA yn], nA (B + 4))] ++ fin B (B + 4) (B + 15)
def itemF (j t : Nat) : List Fc :=
  [(46, [.sel (60 + t), .sel (60 + t + 2)], .agg [.stok (2 * j), .stok (2 * j + 1)]), (50, [.agg [.stok (2 * j), .stok (2 * j + 1)]], .int .i64 0), (59, [.agg [.stok (2 * j), .stok (2 * j + 1)]], rA (2 * j) (2 * j + 1))]
def zeroF (j : Nat) (z : Bool) : List Fc :=
  [(11, [.agg [.stok (2 * j), .stok (2 * j + 1)]], .bool z), (76, [rA (2 * j) (2 * j + 1)], .bool z)]

/-- The fractions that may be drawn. -/
def rats : List (Int × Int) := [(-9, 1), (-9, 2), (-9, 4), (-9, 5), (-8, 1), (-8, 3), (-8, 5), (-7, 1), (-7, 2), (-7, 3), (-7, 4), (-7, 5), (-6, 1), (-6, 5), (-5, 1), (-5, 2), (-5, 3), (-5, 4), (-4, 1), (-4, 3), (-4, 5), (-3, 1), (-3, 2), (-3, 4), (-3, 5), (-2, 1), (-2, 3), (-2, 5), (-1, 1), (-1, 2), (-1, 3), (-1, 4), (-1, 5), (0, 1), (1, 1), (1, 2), (1, 3), (1, 4), (1, 5), (2, 1), (2, 3), (2, 5), (3, 1), (3, 2), (3, 4), (3, 5), (4, 1), (4, 3), (4, 5), (5, 1), (5, 2), (5, 3), (5, 4), (6, 1), (6, 5), (7, 1), (7, 2), (7, 3), (7, 4), (7, 5), (8, 1), (8, 3), (8, 5), (9, 1), (9, 2), (9, 4), (9, 5)]
def pqs : List (Int × Int) := (List.range 19).flatMap fun i => (List.range 5).map fun j => (Int.ofNat i - 9, Int.ofNat j + 1)
end Go.Ab.Dz

namespace Go.Ab.Dz
open Go Go.Ab Go.Proofs Go.Ro
set_option maxRecDepth 1000000

/-- The facts of an operation of items x and y, and that its result is a valid number. -/
def slotE (op x y s : Nat) : List Fc :=
  let xn := 2 * x; let xd := 2 * x + 1; let yn := 2 * y; let yd := 2 * y + 1
  let B := 12 + 17 * s
  let r := B + 9 + 2 * op
  (bif Nat.beq op 1 then [(160, [nA yn], nA (80 + y)), (147, [nA xn, nA yd], nA B), (147, [nA (80 + y), nA xd], nA (B + 6)), (146, [nA B, nA (B + 6)], nA (B + 8)), (147, [nA xd, nA yd], nA (B + 2))] ++ fin (B + 8) (B + 2) (B + 11) else slotF op x y s) ++
    [(50, [.agg [.stok r, .stok (r + 1)]], .int .i64 0)]
/-- The numbers of two items alone. -/
def numI (n1 d1 n2 d2 : Int) (i : Nat) : Int :=
  bif Nat.beq i 81 then -n2 else bif Nat.beq i 0 then n1 else bif Nat.beq i 1 then d1 else bif Nat.beq i 2 then n2 else bif Nat.beq i 3 then d2 else slotN n1 d1 n2 d2 (i - 12)
def slotI (op : Nat) (n1 d1 n2 d2 : Int) : List (Fc × Bool) := (slotE op 0 1 0).map (instF (sig (fun _ => 0) (numI n1 d1 n2 d2)) (tau (numI n1 d1 n2 d2)))
noncomputable def slotOk (op : Nat) (a b : Int × Int) : Bool := (Nat.beq op 3 && b.1 == 0) || okIs (slotI op a.1 a.2 b.1 b.2)
noncomputable def slotsOk (op lo n : Nat) : Bool := ((rats.drop lo).take n).all fun a => rats.all fun b => slotOk op a b

/-- The numbers of six items, and of three operations of them: item s with item y s. -/
def numE (it : Nat → Int) (y : Nat → Nat) (i : Nat) : Int :=
  bif Nat.blt i 12 then it i else bif Nat.ble 80 i then -(it (2 * (i - 80))) else
    slotN (it (2 * ((i - 12) / 17))) (it (2 * ((i - 12) / 17) + 1)) (it (2 * y ((i - 12) / 17))) (it (2 * y ((i - 12) / 17) + 1)) ((i - 12) % 17)

def itemI (p q n d : Int) : List (Fc × Bool) := (itemF 0 1).map (instF (sig (fun t => bif Nat.beq t 1 then p else q) (fun i => bif Nat.beq i 0 then n else d)) (tau (fun i => bif Nat.beq i 0 then n else d)))
noncomputable def itemOk (p : Int × Int) : Bool := okIs (itemI p.1 p.2 (lowP p.1 p.2) (lowQ p.1 p.2))
theorem items_ok : (pqs.all itemOk) = true := by kernel_rfl
theorem pqs_rats : (pqs.all fun p => rats.contains (lowP p.1 p.2, lowQ p.1 p.2)) = true := by kernel_rfl

def zeroE (j : Nat) (z : Bool) : List Fc := [(76, [rA (2 * j) (2 * j + 1)], .bool z)]
def zeroI (n d : Int) (z : Bool) : List (Fc × Bool) := (zeroE 0 z).map (instF (sig (fun _ => 0) (fun i => bif Nat.beq i 0 then n else d)) (tau (fun i => bif Nat.beq i 0 then n else d)))
theorem zeros_ok : (rats.all fun a => okIs (zeroI a.1 a.2 (a.1 == 0))) = true := by kernel_rfl

section
variable (v it : Nat → Int) (y : Nat → Nat) (z : Bool)
theorem itemE0 : (itemF 0 (2 + 3 * 0)).map (instF (sig v (numE it y)) (tau (numE it y))) = itemI (v (2 + 3 * 0)) (v (4 + 3 * 0)) (it (2 * 0)) (it (2 * 0 + 1)) := by kernel_rfl
theorem itemE1 : (itemF 1 (2 + 3 * 1)).map (instF (sig v (numE it y)) (tau (numE it y))) = itemI (v (2 + 3 * 1)) (v (4 + 3 * 1)) (it (2 * 1)) (it (2 * 1 + 1)) := by kernel_rfl
theorem itemE2 : (itemF 2 (2 + 3 * 2)).map (instF (sig v (numE it y)) (tau (numE it y))) = itemI (v (2 + 3 * 2)) (v (4 + 3 * 2)) (it (2 * 2)) (it (2 * 2 + 1)) := by kernel_rfl
theorem itemE3 : (itemF 3 (2 + 3 * 3)).map (instF (sig v (numE it y)) (tau (numE it y))) = itemI (v (2 + 3 * 3)) (v (4 + 3 * 3)) (it (2 * 3)) (it (2 * 3 + 1)) := by kernel_rfl
theorem itemE4 : (itemF 4 (2 + 3 * 4)).map (instF (sig v (numE it y)) (tau (numE it y))) = itemI (v (2 + 3 * 4)) (v (4 + 3 * 4)) (it (2 * 4)) (it (2 * 4 + 1)) := by kernel_rfl
theorem itemE5 : (itemF 5 (2 + 3 * 5)).map (instF (sig v (numE it y)) (tau (numE it y))) = itemI (v (2 + 3 * 5)) (v (4 + 3 * 5)) (it (2 * 5)) (it (2 * 5 + 1)) := by kernel_rfl
theorem zeroE0 : (zeroE 0 z).map (instF (sig v (numE it y)) (tau (numE it y))) = zeroI (it (2 * 0)) (it (2 * 0 + 1)) z := by kernel_rfl
theorem zeroE1 : (zeroE 1 z).map (instF (sig v (numE it y)) (tau (numE it y))) = zeroI (it (2 * 1)) (it (2 * 1 + 1)) z := by kernel_rfl
theorem zeroE2 : (zeroE 2 z).map (instF (sig v (numE it y)) (tau (numE it y))) = zeroI (it (2 * 2)) (it (2 * 2 + 1)) z := by kernel_rfl
theorem zeroE3 : (zeroE 3 z).map (instF (sig v (numE it y)) (tau (numE it y))) = zeroI (it (2 * 3)) (it (2 * 3 + 1)) z := by kernel_rfl
theorem zeroE4 : (zeroE 4 z).map (instF (sig v (numE it y)) (tau (numE it y))) = zeroI (it (2 * 4)) (it (2 * 4 + 1)) z := by kernel_rfl
theorem zeroE5 : (zeroE 5 z).map (instF (sig v (numE it y)) (tau (numE it y))) = zeroI (it (2 * 5)) (it (2 * 5 + 1)) z := by kernel_rfl
end
theorem itemE (j : Nat) (hj : j < 6) (v it : Nat → Int) (y : Nat → Nat) : (itemF j (2 + 3 * j)).map (instF (sig v (numE it y)) (tau (numE it y))) = itemI (v (2 + 3 * j)) (v (4 + 3 * j)) (it (2 * j)) (it (2 * j + 1)) := by
  match j, hj with
  | 0, _ => exact itemE0 v it y
  | 1, _ => exact itemE1 v it y
  | 2, _ => exact itemE2 v it y
  | 3, _ => exact itemE3 v it y
  | 4, _ => exact itemE4 v it y
  | 5, _ => exact itemE5 v it y
  | n + 6, h => omega
theorem zeroE_eq (j : Nat) (hj : j < 6) (z : Bool) (v it : Nat → Int) (y : Nat → Nat) : (zeroE j z).map (instF (sig v (numE it y)) (tau (numE it y))) = zeroI (it (2 * j)) (it (2 * j + 1)) z := by
  match j, hj with
  | 0, _ => exact zeroE0 v it y z
  | 1, _ => exact zeroE1 v it y z
  | 2, _ => exact zeroE2 v it y z
  | 3, _ => exact zeroE3 v it y z
  | 4, _ => exact zeroE4 v it y z
  | 5, _ => exact zeroE5 v it y z
  | n + 6, h => omega
def yOne (_ : Nat) : Nat := 3
def yEach (s : Nat) : Nat := 3 + s
theorem slot_one00 (v it : Nat → Int) : (slotE 0 0 3 0).map (instF (sig v (numE it yOne)) (tau (numE it yOne))) = slotI 0 (it (2 * 0)) (it (2 * 0 + 1)) (it 6) (it 7) := by kernel_rfl
theorem slot_one01 (v it : Nat → Int) : (slotE 0 1 3 1).map (instF (sig v (numE it yOne)) (tau (numE it yOne))) = slotI 0 (it (2 * 1)) (it (2 * 1 + 1)) (it 6) (it 7) := by kernel_rfl
theorem slot_one02 (v it : Nat → Int) : (slotE 0 2 3 2).map (instF (sig v (numE it yOne)) (tau (numE it yOne))) = slotI 0 (it (2 * 2)) (it (2 * 2 + 1)) (it 6) (it 7) := by kernel_rfl
theorem slot_one10 (v it : Nat → Int) : (slotE 1 0 3 0).map (instF (sig v (numE it yOne)) (tau (numE it yOne))) = slotI 1 (it (2 * 0)) (it (2 * 0 + 1)) (it 6) (it 7) := by kernel_rfl
theorem slot_one11 (v it : Nat → Int) : (slotE 1 1 3 1).map (instF (sig v (numE it yOne)) (tau (numE it yOne))) = slotI 1 (it (2 * 1)) (it (2 * 1 + 1)) (it 6) (it 7) := by kernel_rfl
theorem slot_one12 (v it : Nat → Int) : (slotE 1 2 3 2).map (instF (sig v (numE it yOne)) (tau (numE it yOne))) = slotI 1 (it (2 * 2)) (it (2 * 2 + 1)) (it 6) (it 7) := by kernel_rfl
theorem slot_one20 (v it : Nat → Int) : (slotE 2 0 3 0).map (instF (sig v (numE it yOne)) (tau (numE it yOne))) = slotI 2 (it (2 * 0)) (it (2 * 0 + 1)) (it 6) (it 7) := by kernel_rfl
theorem slot_one21 (v it : Nat → Int) : (slotE 2 1 3 1).map (instF (sig v (numE it yOne)) (tau (numE it yOne))) = slotI 2 (it (2 * 1)) (it (2 * 1 + 1)) (it 6) (it 7) := by kernel_rfl
theorem slot_one22 (v it : Nat → Int) : (slotE 2 2 3 2).map (instF (sig v (numE it yOne)) (tau (numE it yOne))) = slotI 2 (it (2 * 2)) (it (2 * 2 + 1)) (it 6) (it 7) := by kernel_rfl
theorem slot_one30 (v it : Nat → Int) : (slotE 3 0 3 0).map (instF (sig v (numE it yOne)) (tau (numE it yOne))) = slotI 3 (it (2 * 0)) (it (2 * 0 + 1)) (it 6) (it 7) := by kernel_rfl
theorem slot_one31 (v it : Nat → Int) : (slotE 3 1 3 1).map (instF (sig v (numE it yOne)) (tau (numE it yOne))) = slotI 3 (it (2 * 1)) (it (2 * 1 + 1)) (it 6) (it 7) := by kernel_rfl
theorem slot_one32 (v it : Nat → Int) : (slotE 3 2 3 2).map (instF (sig v (numE it yOne)) (tau (numE it yOne))) = slotI 3 (it (2 * 2)) (it (2 * 2 + 1)) (it 6) (it 7) := by kernel_rfl
theorem slot_one (op s : Nat) (ho : op < 4) (hs : s < 3) (v it : Nat → Int) : (slotE op s 3 s).map (instF (sig v (numE it yOne)) (tau (numE it yOne))) = slotI op (it (2 * s)) (it (2 * s + 1)) (it 6) (it 7) := by
  match op, s, ho, hs with
  | 0, 0, _, _ => exact slot_one00 v it
  | 0, 1, _, _ => exact slot_one01 v it
  | 0, 2, _, _ => exact slot_one02 v it
  | 1, 0, _, _ => exact slot_one10 v it
  | 1, 1, _, _ => exact slot_one11 v it
  | 1, 2, _, _ => exact slot_one12 v it
  | 2, 0, _, _ => exact slot_one20 v it
  | 2, 1, _, _ => exact slot_one21 v it
  | 2, 2, _, _ => exact slot_one22 v it
  | 3, 0, _, _ => exact slot_one30 v it
  | 3, 1, _, _ => exact slot_one31 v it
  | 3, 2, _, _ => exact slot_one32 v it
  | n + 4, _, h, _ => omega
  | _, n + 3, _, h => omega
theorem slot_each00 (v it : Nat → Int) : (slotE 0 0 (3 + 0) 0).map (instF (sig v (numE it yEach)) (tau (numE it yEach))) = slotI 0 (it (2 * 0)) (it (2 * 0 + 1)) (it (2 * (3 + 0))) (it (2 * (3 + 0) + 1)) := by kernel_rfl
theorem slot_each01 (v it : Nat → Int) : (slotE 0 1 (3 + 1) 1).map (instF (sig v (numE it yEach)) (tau (numE it yEach))) = slotI 0 (it (2 * 1)) (it (2 * 1 + 1)) (it (2 * (3 + 1))) (it (2 * (3 + 1) + 1)) := by kernel_rfl
theorem slot_each02 (v it : Nat → Int) : (slotE 0 2 (3 + 2) 2).map (instF (sig v (numE it yEach)) (tau (numE it yEach))) = slotI 0 (it (2 * 2)) (it (2 * 2 + 1)) (it (2 * (3 + 2))) (it (2 * (3 + 2) + 1)) := by kernel_rfl
theorem slot_each10 (v it : Nat → Int) : (slotE 1 0 (3 + 0) 0).map (instF (sig v (numE it yEach)) (tau (numE it yEach))) = slotI 1 (it (2 * 0)) (it (2 * 0 + 1)) (it (2 * (3 + 0))) (it (2 * (3 + 0) + 1)) := by kernel_rfl
theorem slot_each11 (v it : Nat → Int) : (slotE 1 1 (3 + 1) 1).map (instF (sig v (numE it yEach)) (tau (numE it yEach))) = slotI 1 (it (2 * 1)) (it (2 * 1 + 1)) (it (2 * (3 + 1))) (it (2 * (3 + 1) + 1)) := by kernel_rfl
theorem slot_each12 (v it : Nat → Int) : (slotE 1 2 (3 + 2) 2).map (instF (sig v (numE it yEach)) (tau (numE it yEach))) = slotI 1 (it (2 * 2)) (it (2 * 2 + 1)) (it (2 * (3 + 2))) (it (2 * (3 + 2) + 1)) := by kernel_rfl
theorem slot_each20 (v it : Nat → Int) : (slotE 2 0 (3 + 0) 0).map (instF (sig v (numE it yEach)) (tau (numE it yEach))) = slotI 2 (it (2 * 0)) (it (2 * 0 + 1)) (it (2 * (3 + 0))) (it (2 * (3 + 0) + 1)) := by kernel_rfl
theorem slot_each21 (v it : Nat → Int) : (slotE 2 1 (3 + 1) 1).map (instF (sig v (numE it yEach)) (tau (numE it yEach))) = slotI 2 (it (2 * 1)) (it (2 * 1 + 1)) (it (2 * (3 + 1))) (it (2 * (3 + 1) + 1)) := by kernel_rfl
theorem slot_each22 (v it : Nat → Int) : (slotE 2 2 (3 + 2) 2).map (instF (sig v (numE it yEach)) (tau (numE it yEach))) = slotI 2 (it (2 * 2)) (it (2 * 2 + 1)) (it (2 * (3 + 2))) (it (2 * (3 + 2) + 1)) := by kernel_rfl
theorem slot_each30 (v it : Nat → Int) : (slotE 3 0 (3 + 0) 0).map (instF (sig v (numE it yEach)) (tau (numE it yEach))) = slotI 3 (it (2 * 0)) (it (2 * 0 + 1)) (it (2 * (3 + 0))) (it (2 * (3 + 0) + 1)) := by kernel_rfl
theorem slot_each31 (v it : Nat → Int) : (slotE 3 1 (3 + 1) 1).map (instF (sig v (numE it yEach)) (tau (numE it yEach))) = slotI 3 (it (2 * 1)) (it (2 * 1 + 1)) (it (2 * (3 + 1))) (it (2 * (3 + 1) + 1)) := by kernel_rfl
theorem slot_each32 (v it : Nat → Int) : (slotE 3 2 (3 + 2) 2).map (instF (sig v (numE it yEach)) (tau (numE it yEach))) = slotI 3 (it (2 * 2)) (it (2 * 2 + 1)) (it (2 * (3 + 2))) (it (2 * (3 + 2) + 1)) := by kernel_rfl
theorem slot_each (op s : Nat) (ho : op < 4) (hs : s < 3) (v it : Nat → Int) : (slotE op s (3 + s) s).map (instF (sig v (numE it yEach)) (tau (numE it yEach))) = slotI op (it (2 * s)) (it (2 * s + 1)) (it (2 * (3 + s))) (it (2 * (3 + s) + 1)) := by
  match op, s, ho, hs with
  | 0, 0, _, _ => exact slot_each00 v it
  | 0, 1, _, _ => exact slot_each01 v it
  | 0, 2, _, _ => exact slot_each02 v it
  | 1, 0, _, _ => exact slot_each10 v it
  | 1, 1, _, _ => exact slot_each11 v it
  | 1, 2, _, _ => exact slot_each12 v it
  | 2, 0, _, _ => exact slot_each20 v it
  | 2, 1, _, _ => exact slot_each21 v it
  | 2, 2, _, _ => exact slot_each22 v it
  | 3, 0, _, _ => exact slot_each30 v it
  | 3, 1, _, _ => exact slot_each31 v it
  | 3, 2, _, _ => exact slot_each32 v it
  | n + 4, _, h, _ => omega
  | _, n + 3, _, h => omega
end Go.Ab.Dz
end
