/-
  The generator of inputs: what its calls return, and what they do to it; no condition but the generator's own.
-/
import Derived.Test.YtcnhgomgppmeiaaGreatDoorProg
import Derived.WalkKit
import Derived.BigQuiet
import Derived.Deep.QuietTactic
import Derived.Calls
import Derived.Lib.Hide
import Derived.StillTailTactics
import Derived.Test.YtcnhgomgppmeiaaGreatDoorRun3

noncomputable section
namespace Go.Ro
open Go Go.Proofs

/-- The generator's steps: what is added for a turn, and for a turn with a number; the state; the number drawn. -/
def addA (n : Nat) : Int := IntKind.u64.wrap (((n : Int) + 1) * 13503953896175478587)
def addB (n : Nat) (x : Int) : Int := IntKind.u64.wrap (addA n + IntKind.u64.wrap (IntKind.u64.wrap x * 4354685564936845355))
def mixA (st add : Int) : Int := IntKind.u64.wrap (bits BinOp.xor IntKind.u64 st add * 11912009170470909681)
def nextA (s1 : Int) : Int := bits BinOp.xor IntKind.u64 s1 (s1 / 2147483648)
def outA (s : Int) : Int := IntKind.u64.wrap (s * 5840696475078001361)
def outB (o : Int) : Int := bits BinOp.xor IntKind.u64 o (o / 536870912) / 2048

def TurnPost (b sh n : Nat) (s1 : Int) (w : World) (e : Ending) (w' : World) : Prop :=
  e = .returned (.int .u64 (outB (outA (nextA s1)))) ∧ ∃ m, w' = ((((w.drewN m).setCell ⟨b, sh + 1, none⟩ (.int .i64 ((n : Int) + 1))).setCell ⟨b, sh + 2, none⟩ (.int .u64 s1)).drew).setCell ⟨b, sh + 2, none⟩ (.int .u64 (nextA s1))

set_option maxRecDepth 100000 in
set_option maxHeartbeats 4000000 in
theorem turn_out (b sh : Nat) (base : Option Addr) (len cap n : Nat) (st : Int) (w : World) (c0 : w.cell? ⟨b, sh, none⟩ = some (.slice base len cap)) (c1 : w.cell? ⟨b, sh + 1, none⟩ = some (.int .i64 (n : Int))) (c2 : w.cell? ⟨b, sh + 2, none⟩ = some (.int .u64 st))
    (f1 : w.frozen? ⟨b, sh + 1, none⟩ = false) (f2 : w.frozen? ⟨b, sh + 2, none⟩ = false) (h1 : n < 1000) (hd : decide (n < len) = false) :
    Calls Tryz.prog 21 #[.pointer (some ⟨b, sh, none⟩)] w (TurnPost b sh n (mixA st (addA n)) w) := by
  go_enter Tryz.func21, Tryz.ntmps21
  go_wp2
  go_quiet (fail)
  go_wp2
  generalize hs1 : IntKind.u64.wrap (bits BinOp.xor IntKind.u64 st (IntKind.u64.wrap (((n : Int) + 1) * 13503953896175478587)) * 11912009170470909681) = s1
  have g2 : (((w.drewN nq).setCell ⟨b, sh + 1, none⟩ (.int .i64 ((n : Int) + 1))).setCell ⟨b, sh + 2, none⟩ (.int .u64 s1)).cell? ⟨b, sh + 2, none⟩ = some (.int .u64 s1) := by
    simp [World.cell?_setCell_same', World.cell?_setCell_other, c2]
  have k2 : (((w.drewN nq).setCell ⟨b, sh + 1, none⟩ (.int .i64 ((n : Int) + 1))).setCell ⟨b, sh + 2, none⟩ (.int .u64 s1)).frozen? ⟨b, sh + 2, none⟩ = false := by
    simp [f2]
  generalize hW : ((w.drewN nq).setCell ⟨b, sh + 1, none⟩ (.int .i64 ((n : Int) + 1))).setCell ⟨b, sh + 2, none⟩ (.int .u64 s1) = W3 at g2 k2 ⊢
  have HW := Lib.hid hW
  have HS := Lib.hid hs1
  clear hW hs1
  go_still_tail 11, (by kernel_rfl)
  change wpList _ _ _ _ _ W3.drew
  have g4 : W3.drew.cell? ⟨b, sh + 2, none⟩ = some (.int .u64 s1) := g2
  have k4 : W3.drew.frozen? ⟨b, sh + 2, none⟩ = false := k2
  generalize hW4 : W3.drew = w2 at g4 k4 ⊢
  have HW4 := Lib.hid hW4
  clear hW4
  go_wp2
  go_ret
  have hW4 := HW4.out
  have hW := HW.out
  have hs1 := HS.out
  subst hW4 hW hs1
  exact ⟨rfl, nq, rfl⟩

set_option maxRecDepth 100000 in
set_option maxHeartbeats 4000000 in
theorem turn_in (b sh nb no : Nat) (len cap n : Nat) (st x : Int) (w : World) (c0 : w.cell? ⟨b, sh, none⟩ = some (.slice (some ⟨nb, no, none⟩) len cap)) (c1 : w.cell? ⟨b, sh + 1, none⟩ = some (.int .i64 (n : Int))) (c2 : w.cell? ⟨b, sh + 2, none⟩ = some (.int .u64 st))
    (cx : w.cell? ⟨nb, no + n, none⟩ = some (.int .i64 x))
    (f1 : w.frozen? ⟨b, sh + 1, none⟩ = false) (f2 : w.frozen? ⟨b, sh + 2, none⟩ = false) (h1 : n < 1000) (hn : n < len) (_hd : decide (n < len) = true) :
    Calls Tryz.prog 21 #[.pointer (some ⟨b, sh, none⟩)] w (TurnPost b sh n (mixA st (addB n x)) w) := by
  go_enter Tryz.func21, Tryz.ntmps21
  go_wp2
  go_quiet (fail)
  go_wp2
  go_quiet (fail)
  go_wp2
  rename_i nq1 K1 hK1
  generalize hnq : nq1 + nq = nq2
  generalize hs1 : IntKind.u64.wrap (bits BinOp.xor IntKind.u64 st (IntKind.u64.wrap (IntKind.u64.wrap (((n : Int) + 1) * 13503953896175478587) + IntKind.u64.wrap (IntKind.u64.wrap x * 4354685564936845355))) * 11912009170470909681) = s1
  have g2 : (((w.drewN nq2).setCell ⟨b, sh + 1, none⟩ (.int .i64 ((n : Int) + 1))).setCell ⟨b, sh + 2, none⟩ (.int .u64 s1)).cell? ⟨b, sh + 2, none⟩ = some (.int .u64 s1) := by
    simp [World.cell?_setCell_same', World.cell?_setCell_other, c2]
  have k2 : (((w.drewN nq2).setCell ⟨b, sh + 1, none⟩ (.int .i64 ((n : Int) + 1))).setCell ⟨b, sh + 2, none⟩ (.int .u64 s1)).frozen? ⟨b, sh + 2, none⟩ = false := by
    simp [f2]
  generalize hW : ((w.drewN nq2).setCell ⟨b, sh + 1, none⟩ (.int .i64 ((n : Int) + 1))).setCell ⟨b, sh + 2, none⟩ (.int .u64 s1) = W3 at g2 k2 ⊢
  have HW := Lib.hid hW
  have HS := Lib.hid hs1
  clear hW hs1
  go_still_tail 11, (by kernel_rfl)
  change wpList _ _ _ _ _ W3.drew
  have g4 : W3.drew.cell? ⟨b, sh + 2, none⟩ = some (.int .u64 s1) := g2
  have k4 : W3.drew.frozen? ⟨b, sh + 2, none⟩ = false := k2
  generalize hW4 : W3.drew = w2 at g4 k4 ⊢
  have HW4 := Lib.hid hW4
  clear hW4
  go_wp2
  go_ret
  have hW4 := HW4.out
  have hW := HW.out
  have hs1 := HS.out
  subst hW4 hW hs1
  exact ⟨rfl, nq2, rfl⟩

theorem u64_wrap_lt (a : Int) : 0 ≤ IntKind.u64.wrap a ∧ IntKind.u64.wrap a < 18446744073709551616 := by
  simp [IntKind.wrap, IntKind.signed, IntKind.bits]
  omega

end Go.Ro

namespace Go.Ro
open Go Go.Proofs

/-- The state that a turn leaves, by its number, and by the list of numbers; what is drawn. -/
def stepA (xs : List Int) (n : Nat) (st : Int) : Int := mixA st (if h : n < xs.length then addB n (xs[n]) else addA n)
def drawA (s1 : Int) (m : Nat) : Int := if m = 0 then 0 else outB (outA (nextA s1)) % ((m : Int) + 1)

theorem outB_range (o : Int) : 0 ≤ outB o ∧ outB o < 9007199254740992 := by
  have h1 := (bits_within BinOp.xor IntKind.u64 o (o / 536870912))
  have h2 : IntKind.u64.min = 0 := by decide
  have h3 : IntKind.u64.max = 18446744073709551615 := by decide
  rw [h2, h3] at h1
  unfold outB
  omega

theorem drawA_range (s1 : Int) (m : Nat) : 0 ≤ drawA s1 m ∧ drawA s1 m ≤ m := by
  unfold drawA
  split
  · omega
  · have h1 : (0 : Int) < (m : Int) + 1 := by omega
    exact ⟨Int.emod_nonneg _ (by omega), by have := Int.emod_lt_of_pos (outB (outA (nextA s1))) h1; omega⟩

/-- The list behind the generator, in memory. -/
def NumsAt (w : World) (xs : List Int) (base : Option Addr) (len : Nat) : Prop :=
  len = xs.length ∧ (xs = [] ∨ ∃ nb no, base = some ⟨nb, no, none⟩ ∧ ∀ (i : Nat) (x : Int), xs[i]? = some x → w.cell? ⟨nb, no + i, none⟩ = some (.int .i64 x))

/-- What a turn does to the generator. -/
def TurnW (b sh n : Nat) (s1 : Int) (w w' : World) : Prop :=
  ∃ k k', w' = ((((w.drewN k).setCell ⟨b, sh + 1, none⟩ (.int .i64 ((n : Int) + 1))).setCell ⟨b, sh + 2, none⟩ (.int .u64 s1)).setCell ⟨b, sh + 2, none⟩ (.int .u64 (nextA s1))).drewN k'

theorem turn_any (xs : List Int) (b sh : Nat) (base : Option Addr) (len cap n : Nat) (st s1 o : Int) (w : World) (hx : NumsAt w xs base len) (c0 : w.cell? ⟨b, sh, none⟩ = some (.slice base len cap)) (c1 : w.cell? ⟨b, sh + 1, none⟩ = some (.int .i64 (n : Int))) (c2 : w.cell? ⟨b, sh + 2, none⟩ = some (.int .u64 st))
    (f1 : w.frozen? ⟨b, sh + 1, none⟩ = false) (f2 : w.frozen? ⟨b, sh + 2, none⟩ = false) (h1 : n < 1000) (hs : stepA xs n st = s1) (ho : outB (outA (nextA s1)) = o) :
    Calls Tryz.prog 21 #[.pointer (some ⟨b, sh, none⟩)] w fun e w' => e = .returned (.int .u64 o) ∧ TurnW b sh n s1 w w' := by
  have key : ∀ s2, s2 = s1 → Calls Tryz.prog 21 #[.pointer (some ⟨b, sh, none⟩)] w (TurnPost b sh n s2 w) → Calls Tryz.prog 21 #[.pointer (some ⟨b, sh, none⟩)] w fun e w' => e = .returned (.int .u64 o) ∧ TurnW b sh n s1 w w' := by
    intro s2 h2 h
    subst h2 ho
    refine h.mono fun e w' ⟨he, m, hw⟩ => ⟨he, m, 1, ?_⟩
    rw [hw]
    rfl
  obtain ⟨rfl, hx⟩ := hx
  unfold stepA at hs
  by_cases hn : n < xs.length
  · rw [dif_pos hn] at hs
    rcases hx with rfl | ⟨nb, no, rfl, hx⟩
    · simp at hn
    · exact key _ hs (turn_in b sh nb no _ cap n st _ w c0 c1 c2 (hx n _ (List.getElem?_eq_getElem hn)) f1 f2 h1 hn (by simpa using hn))
  · rw [dif_neg hn] at hs
    exact key _ hs (turn_out b sh base _ cap n st w c0 c1 c2 f1 f2 h1 (by simpa using hn))

set_option maxRecDepth 10000 in
theorem up_zero (xs : List Int) (b sh : Nat) (base : Option Addr) (len cap n : Nat) (st s1 : Int) (w : World) (hx : NumsAt w xs base len) (c0 : w.cell? ⟨b, sh, none⟩ = some (.slice base len cap)) (c1 : w.cell? ⟨b, sh + 1, none⟩ = some (.int .i64 (n : Int))) (c2 : w.cell? ⟨b, sh + 2, none⟩ = some (.int .u64 st))
    (f1 : w.frozen? ⟨b, sh + 1, none⟩ = false) (f2 : w.frozen? ⟨b, sh + 2, none⟩ = false) (h1 : n < 1000) (hs : stepA xs n st = s1) :
    Calls Tryz.prog 7 #[.pointer (some ⟨b, sh, none⟩), .int .i64 0] w fun e w' => e = .returned (.int .i64 0) ∧ TurnW b sh n s1 w w' := by
  have HC := Lib.hid (turn_any xs b sh base len cap n st s1 _ w hx c0 c1 c2 f1 f2 h1 hs rfl)
  generalize outB (outA (nextA s1)) = o at HC
  clear hx c0 c1 c2 f1 f2 hs h1
  go_enter Tryz.func7, Tryz.ntmps7
  go_wp2_with (go_at_call 21; refine HC.out.mono ?_; rintro e w' ⟨rfl, hw⟩; have HW := Lib.hid hw; clear hw)
  go_ret
  exact ⟨rfl, HW.out⟩

set_option maxRecDepth 10000 in
theorem up_pos (xs : List Int) (b sh : Nat) (base : Option Addr) (len cap n m : Nat) (st s1 o : Int) (w : World) (hx : NumsAt w xs base len) (c0 : w.cell? ⟨b, sh, none⟩ = some (.slice base len cap)) (c1 : w.cell? ⟨b, sh + 1, none⟩ = some (.int .i64 (n : Int))) (c2 : w.cell? ⟨b, sh + 2, none⟩ = some (.int .u64 st))
    (f1 : w.frozen? ⟨b, sh + 1, none⟩ = false) (f2 : w.frozen? ⟨b, sh + 2, none⟩ = false) (h1 : n < 1000) (hm : 0 < m) (hm2 : m < 1000) (hs : stepA xs n st = s1) (ho : outB (outA (nextA s1)) = o) (h0 : 0 ≤ o) :
    Calls Tryz.prog 7 #[.pointer (some ⟨b, sh, none⟩), .int .i64 (m : Int)] w fun e w' => e = .returned (.int .i64 (RowKit.wrap64 (o % ((m : Int) + 1)))) ∧ TurnW b sh n s1 w w' := by
  have HC := Lib.hid (turn_any xs b sh base len cap n st s1 o w hx c0 c1 c2 f1 f2 h1 hs ho)
  clear hx c0 c1 c2 f1 f2 hs ho h1
  have hmm : decide ((m : Int) < 1) = false := by simp; omega
  go_enter Tryz.func7, Tryz.ntmps7
  go_wp2_with (go_at_call 21; refine HC.out.mono ?_; rintro e w' ⟨rfl, hw⟩; have HW := Lib.hid hw; clear hw)
  go_ret
  exact ⟨rfl, HW.out⟩
end Go.Ro

namespace Go.Ro
open Go Go.Proofs

/-- What the generator's calls are told of the world. -/
structure RodAt (xs : List Int) (b sh n : Nat) (st : Int) (base : Option Addr) (len cap : Nat) (w : World) : Prop where
  hx : NumsAt w xs base len
  c0 : w.cell? ⟨b, sh, none⟩ = some (.slice base len cap)
  c1 : w.cell? ⟨b, sh + 1, none⟩ = some (.int .i64 (n : Int))
  c2 : w.cell? ⟨b, sh + 2, none⟩ = some (.int .u64 st)
  f1 : w.frozen? ⟨b, sh + 1, none⟩ = false
  f2 : w.frozen? ⟨b, sh + 2, none⟩ = false
  h1 : n < 1000

theorem up_any {xs : List Int} {b sh n : Nat} {st : Int} {base : Option Addr} {len cap : Nat} {w : World} (h : RodAt xs b sh n st base len cap w) (m : Nat) (hm : m < 1000) (a : Int) (ha : a = (m : Int)) :
    Calls Tryz.prog 7 #[.pointer (some ⟨b, sh, none⟩), .int .i64 a] w fun e w' => e = .returned (.int .i64 (drawA (stepA xs n st) m)) ∧ TurnW b sh n (stepA xs n st) w w' := by
  subst ha
  by_cases h0 : m = 0
  · subst h0
    exact up_zero xs b sh base len cap n st _ w h.hx h.c0 h.c1 h.c2 h.f1 h.f2 h.h1 rfl
  · have hb := outB_range (outA (nextA (stepA xs n st)))
    refine (up_pos xs b sh base len cap n m st _ _ w h.hx h.c0 h.c1 h.c2 h.f1 h.f2 h.h1 (by omega) hm rfl rfl hb.1).mono fun e w' ⟨he, hw⟩ => ⟨?_, hw⟩
    rw [he]
    unfold drawA RowKit.wrap64
    rw [if_neg h0]
    generalize outB (outA (nextA (stepA xs n st))) = o at hb
    have h1 : (0 : Int) < (m : Int) + 1 := by omega
    have h2 := Int.emod_nonneg o (show (m : Int) + 1 ≠ 0 by omega)
    have h3 := Int.emod_lt_of_pos o h1
    congr 2
    omega

set_option maxRecDepth 10000 in
theorem from_any {xs : List Int} {b sh n : Nat} {st : Int} {base : Option Addr} {len cap : Nat} {w : World} (h : RodAt xs b sh n st base len cap w) (lo hi : Int) (m : Nat) (hm : m < 1000) (hd : hi - lo = (m : Int)) (hl : -1000 ≤ lo) (hh : hi ≤ 1000) :
    Calls Tryz.prog 14 #[.pointer (some ⟨b, sh, none⟩), .int .i64 lo, .int .i64 hi] w fun e w' => e = .returned (.int .i64 (lo + drawA (stepA xs n st) m)) ∧ TurnW b sh n (stepA xs n st) w w' := by
  have HC := Lib.hid (up_any h m hm)
  have hr := drawA_range (stepA xs n st) m
  generalize stepA xs n st = s1 at HC hr ⊢
  generalize drawA s1 m = d at HC hr ⊢
  have HD := Lib.hid hd
  have hle : lo ≤ hi := by omega
  have hr1 := hr.1
  have hr2 : d ≤ 1000 := by omega
  clear hd h hr
  go_enter Tryz.func14, Tryz.ntmps14
  go_wp2_with (go_at_call 7; refine (HC.out _ HD.out).mono ?_; rintro e w' ⟨rfl, hw⟩; have HW := Lib.hid hw; clear hw)
  go_ret
  exact ⟨rfl, HW.out⟩

theorem cell_drewN (W : World) (k : Nat) (a : Addr) : (W.drewN k).cell? a = W.cell? a := rfl

set_option maxRecDepth 10000 in
theorem pick_any {xs : List Int} {b sh n : Nat} {st : Int} {base : Option Addr} {len cap : Nat} {w : World} (h : RodAt xs b sh n st base len cap w) (ys : List Int) (lb lo lcap : Nat) (hy : 0 < ys.length) (hy2 : ys.length < 1000) (hne : lb ≠ b)
    (hc : ∀ (i : Nat) (y : Int), ys[i]? = some y → w.cell? ⟨lb, lo + i, none⟩ = some (.int .i64 y)) :
    Calls Tryz.prog 15 #[.pointer (some ⟨b, sh, none⟩), .slice (some ⟨lb, lo, none⟩) ys.length lcap] w fun e w' => (∃ y, ys[(drawA (stepA xs n st) (ys.length - 1)).toNat]? = some y ∧ e = .returned (.int .i64 y)) ∧ TurnW b sh n (stepA xs n st) w w' := by
  have HC := Lib.hid (up_any h (ys.length - 1) (by omega))
  have hr := drawA_range (stepA xs n st) (ys.length - 1)
  generalize stepA xs n st = s1 at HC hr ⊢
  obtain ⟨i, hi⟩ : ∃ i : Nat, drawA s1 (ys.length - 1) = (i : Int) := ⟨(drawA s1 (ys.length - 1)).toNat, by omega⟩
  rw [hi] at HC hr ⊢
  have hil : i < ys.length := by omega
  have hcell : ∀ w', TurnW b sh n s1 w w' → w'.cell? ⟨lb, lo + i, none⟩ = some (.int .i64 ys[i]) := by
    rintro w' ⟨k, k', rfl⟩
    have := hc i _ (List.getElem?_eq_getElem hil)
    have e1 : (⟨b, sh + 1, none⟩ : Addr) ≠ ⟨lb, lo + i, none⟩ := fun h => hne (congrArg Addr.block h).symm
    have e2 : (⟨b, sh + 2, none⟩ : Addr) ≠ ⟨lb, lo + i, none⟩ := fun h => hne (congrArg Addr.block h).symm
    rw [cell_drewN, World.cell?_setCell_other _ _ _ _ e2, World.cell?_setCell_other _ _ _ _ e2, World.cell?_setCell_other _ _ _ _ e1, cell_drewN]
    exact this
  have HCELL := Lib.hid hcell
  have HL : RowKit.Hid (((ys.length : Nat) : Int) - 1 = ((ys.length - 1 : Nat) : Int)) := Lib.hid (by omega)
  simp only [Int.toNat_natCast]
  have HE := Lib.hid (show ys[i]? = some ys[i] from List.getElem?_eq_getElem hil)
  clear hc hcell hi h
  generalize ys[i] = y at HCELL HE
  go_enter Tryz.func15, Tryz.ntmps15
  go_wp2_with (go_at_call 7; refine (HC.out _ HL.out).mono ?_; rintro e w' ⟨rfl, hw⟩; have hcw := HCELL.out w' hw; have HW := Lib.hid hw; clear hw)
  go_ret
  exact ⟨⟨y, HE.out, rfl⟩, HW.out⟩
end Go.Ro

namespace Go.Ab
open Go Go.Proofs Go.Ro

/-! The generator's calls as primitives: what is drawn is a value that nobody looks into, or one that is known. -/

theorem setCell_twice (w : World) (a : Addr) (v u : Value) : (w.setCell a v).setCell a u = w.setCell a u := by
  have key : ((w.setCell a v).setCell a u).heap = (w.setCell a u).heap := by
    simp only [World.setCell]
    apply Array.ext_getElem?
    intro i
    simp only [Array.getElem?_modify]
    by_cases h : a.block = i
    · simp only [h, if_true, Option.map_map]
      congr 1
      funext o
      cases o <;> simp only [Function.comp]
      rename_i c e f
      by_cases hs : a.spot.isSome
      · simp [hs]
      · simp only [hs, Bool.false_eq_true, if_false]
        congr 1
        apply Array.ext_getElem?
        intro j
        simp only [Array.getElem?_setIfInBounds, Array.size_setIfInBounds]
        by_cases hj : a.off = j <;> simp [hj]
    · simp [h]
  show ({ w with heap := ((w.setCell a v).setCell a u).heap } : World) = { w with heap := (w.setCell a u).heap }
  rw [key]

theorem HR.drewTo {k : K} {h : AH} {w : World} (hr : HR k h w) (d : Nat) : HR k h { w with drawn := d } ∧ Ev k k h h w { w with drawn := d } := by
  have ev : Ev k k h h w { w with drawn := d } := ⟨rfl, rfl, rfl, rfl, Nat.le_refl _, fun _ _ _ => rfl, fun _ arr _ fr hx => ⟨arr, fr, hx, rfl⟩, fun _ _ h => h, fun _ h => h, fun o ob _ sh h1 h2 _ => ⟨o, ob, sh, h1, h2⟩, Nat.le_refl _, fun _ _ => rfl, fun _ _ h => .inl h⟩
  have le := ev.le hr
  exact ⟨⟨fun o ob ho => let ⟨b, sh, g1, g2⟩ := hr.obj o ob ho; ⟨b, sh, g1, g2.mono le rfl⟩, hr.inj, hr.nfz, hr.fresh, hr.lt⟩, ev⟩

/-- The list behind the generator: frozen, and just these numbers. -/
def numsOpq (xs : List Int) : Opq where
  P fz w v := ∃ base len cap, v = .slice base len cap ∧ len = xs.length ∧ (xs = [] ∨ ∃ nb no, base = some ⟨nb, no, none⟩ ∧ fz nb ∧ ∀ (i : Nat) (x : Int), xs[i]? = some x → w.cell? ⟨nb, no + i, none⟩ = some (.int .i64 x))
  mono fz fz' w w' v hz hw h := by
    obtain ⟨base, len, cap, h1, h2, h3⟩ := h
    refine ⟨base, len, cap, h1, h2, h3.imp id ?_⟩
    rintro ⟨nb, no, h4, h5, h6⟩
    refine ⟨nb, no, h4, hz _ h5, fun i x hx => ?_⟩
    rw [← h6 i x hx]
    simp only [World.cell?, hw nb h5]

def stN (xs : List Int) : Nat → Int
  | 0 => 7640891576956012809
  | t + 1 => nextA (stepA xs t (stN xs t))
def drawN (xs : List Int) (t m : Nat) : Int := drawA (stepA xs t (stN xs t)) m

theorem drawN_range (xs : List Int) (t m : Nat) : 0 ≤ drawN xs t m ∧ drawN xs t m ≤ m := drawA_range _ m

def stAV (t : Nat) : AV := bif Nat.beq t 0 then .int .u64 (.ofNat 7640891576956012809) else .sel (10 + t)
/-- The generator, ahead of draw number t. -/
def rodObj (t : Nat) : List AV := [.sel 0, .int .i64 (.ofNat t), stAV t]

inductive Dr where
  | up (m : Nat) (r : AV)
  | fr (lo hi r : AV)
  | pk (ys : List Int) (r : AV)

noncomputable def rodAt (h : AH) (o : Nat) : Option (TypeId × Nat) :=
  match h.get o with
  | some (.cells e [.sel s, .int .i64 (.ofNat t), z]) => bif Nat.beq s 0 && (eqvK z (stAV t) && Nat.blt t 49) then some (e, t) else none
  | _ => none
noncomputable def upPrim (sc : Nat → Option Dr) : List AV → AH → Option (AV × AH) := fun args h =>
  match args with
  | [.ptr o f, .int .i64 (.ofNat m)] => match rodAt h o with
    | some (e, t) => match sc t with
      | some (.up m' r) => bif Nat.beq f 0 && Nat.beq m m' then some (r, h.set o (some (.cells e (rodObj (t + 1))))) else none
      | _ => none
    | none => none
  | _ => none
noncomputable def frPrim (sc : Nat → Option Dr) : List AV → AH → Option (AV × AH) := fun args h =>
  match args with
  | [.ptr o f, lo, hi] => match rodAt h o with
    | some (e, t) => match sc t with
      | some (.fr lo' hi' r) => bif Nat.beq f 0 && (eqvK lo lo' && eqvK hi hi') then some (r, h.set o (some (.cells e (rodObj (t + 1))))) else none
      | _ => none
    | none => none
  | _ => none
noncomputable def pkPrim (sc : Nat → Option Dr) : List AV → AH → Option (AV × AH) := fun args h =>
  match args with
  | [.ptr o f, .sl o2 off len sz _] => match rodAt h o with
    | some (e, t) => match sc t with
      | some (.pk ys r) => match h.get o2 with
        | some (.cells _ cs) => match seg cs off len with
          | some l => bif Nat.beq f 0 && (Nat.beq sz 1 && (Nat.beq len ys.length && (!Nat.beq o o2 && eqvsK l (ys.map fun y => .int .i64 y)))) then some (r, h.set o (some (.cells e (rodObj (t + 1))))) else none
          | none => none
        | _ => none
      | _ => none
    | none => none
  | _ => none

/-- A value that is a known integer. -/
def Den (c : KC) (a : AV) (n : Int) : Prop := ∀ (k : K) (w : World) (v : Value), k.sz = c → (VR k w a v ↔ v = .int .i64 n)
theorem Den.lit (c : KC) (n : Int) : Den c (.int .i64 n) n := fun k w v _ => by simp only [VR]
theorem Den.sel {c : KC} {i : Nat} {n : Int} (h : c.sel i = opqOf (.int .i64 n)) : Den c (.sel i) n := fun k w v hk => by
  simp only [VR, hk, h]
  refine ⟨fun ⟨h1, _⟩ => ?_, fun hv => ⟨?_, by rw [hv]; rfl⟩⟩
  · have := (opqOf_VR.1 h1).2
    simpa only [VR] using this
  · exact opqOf_VR.2 ⟨rfl, by simp only [VR]; exact hv⟩

def DrOk (c : KC) (xs : List Int) (t : Nat) : Dr → Prop
  | .up m r => m < 1000 ∧ Den c r (drawN xs t m)
  | .fr lo hi r => ∃ (a b : Int) (m : Nat), Den c lo a ∧ Den c hi b ∧ b - a = (m : Int) ∧ m < 1000 ∧ -1000 ≤ a ∧ b ≤ 1000 ∧ Den c r (a + drawN xs t m)
  | .pk ys r => 0 < ys.length ∧ ys.length < 1000 ∧ ∃ y, ys[(drawN xs t (ys.length - 1)).toNat]? = some y ∧ Den c r y

structure ScOk (c : KC) (xs : List Int) (sc : Nat → Option Dr) : Prop where
  list : c.sel 0 = numsOpq xs
  state : ∀ t, 0 < t → t < 50 → c.sel (10 + t) = opqOf (.int .u64 (stN xs t))
  dr : ∀ t d, sc t = some d → DrOk c xs t d

theorem rodAt_some {h : AH} {o : Nat} {e : TypeId} {t : Nat} (hp : rodAt h o = some (e, t)) : h.get o = some (.cells e (rodObj t)) ∧ t < 49 := by
  unfold rodAt at hp
  split at hp
  case h_2 => cases hp
  rename_i e' s t' z hg
  obtain ⟨hc, hp⟩ := cond_some hp
  cases hp
  simp only [Bool.and_eq_true] at hc
  obtain rfl := Nat.eq_of_beq_eq_true hc.1
  rw [eqvK_eq] at hc
  rw [eqv_eq _ _ hc.2.1] at hg
  exact ⟨hg, Nat.le_of_ble_eq_true hc.2.2⟩

theorem st_VR {c : KC} {xs : List Int} {sc : Nat → Option Dr} (hs : ScOk c xs sc) {k : K} {w : World} (hk : k.sz = c) {t : Nat} (ht : t < 50) {v : Value} : VR k w (stAV t) v ↔ v = .int .u64 (stN xs t) := by
  unfold stAV
  cases t with
  | zero => simp only [Nat.beq, cond_true, VR]; exact Iff.rfl
  | succ t =>
    simp only [Nat.beq, cond_false, VR, hk, hs.state (t + 1) (by omega) ht]
    refine ⟨fun ⟨h1, _⟩ => ?_, fun hv => ⟨?_, by rw [hv]; rfl⟩⟩
    · have := (opqOf_VR.1 h1).2
      simpa only [VR] using this
    · exact opqOf_VR.2 ⟨rfl, by simp only [VR]; exact hv⟩

/-- The object, as the generator's contracts want it. -/
theorem rod_of {c : KC} {xs : List Int} {sc : Nat → Option Dr} (hs : ScOk c xs sc) {k : K} {h : AH} {w : World} (hk : k.sz = c) (hr : HR k h w) {o : Nat} {e : TypeId} {t : Nat} (hg : h.get o = some (.cells e (rodObj t))) (ht : t < 49) :
    ∃ b sh base len cap, k.ρ o = some (b, sh) ∧ RodAt xs b sh t (stN xs t) base len cap w := by
  obtain ⟨b, sh, hρ, arr, fr, h1, h2, h3, h4, h5⟩ := hr.obj o _ hg
  obtain ⟨v0, a0, b0⟩ := h3 0 (.sel 0) rfl
  obtain ⟨v1, a1, b1⟩ := h3 1 (.int .i64 (.ofNat t)) rfl
  obtain ⟨v2, a2, b2⟩ := h3 2 (stAV t) rfl
  rw [st_VR hs hk (by omega)] at b2
  simp only [VR] at b1
  simp only [VR, hk, hs.list] at b0
  obtain ⟨⟨base, len, cap, d1, d2, d3⟩, _⟩ := b0
  have hlen : (rodObj t).length = 3 := rfl
  refine ⟨b, sh, base, len, cap, hρ, ⟨⟨d2, d3.imp id ?_⟩, ?_, ?_, ?_, ?_, ?_, by omega⟩⟩
  · rintro ⟨nb, no, q1, _, q3⟩
    exact ⟨nb, no, q1, q3⟩
  · rw [cell_of_heap h1, ← d1]; exact a0
  · rw [cell_of_heap h1, a1, b1]; rfl
  · rw [cell_of_heap h1, a2, b2]
  · exact not_frozen h1 h5 (by omega)
  · exact not_frozen h1 h5 (by omega)

/-- Out of a contract of the generator, the call's fact. -/
theorem rod_call {P : Program} {E : Env} (hE : EnvOk P E) {xs : List Int} {sc : Nat → Option Dr} (hs : ScOk ⟨P.cellsOf, E.sel, E.tok, E.str⟩ xs sc) {k : K} {h : AH} {w : World} (hk : k.sz = ⟨P.cellsOf, E.sel, E.tok, E.str⟩) (hr : HR k h w) {f : FuncId} {F : Func} (hF : E.fn f = some F) {b : Code} (hb : F.body = some b)
    {o : Nat} {e : TypeId} {t : Nat} (hg : h.get o = some (.cells e (rodObj t))) (ht : t < 49) {bo so : Nat} (hρ : k.ρ o = some (bo, so)) {r : AV} {n : Int} (hd : Den ⟨P.cellsOf, E.sel, E.tok, E.str⟩ r n) {vs : Array Value}
    (hc : Calls P f vs w fun e' w' => e' = .returned (.int .i64 n) ∧ TurnW bo so t (stepA xs t (stN xs t)) w w') : CallN P k h w (.ret r) (h.set o (some (.cells e (rodObj (t + 1))))) ((callFunc f vs).run P w) := by
  refine callN_of_calls hE hF hb hc ?_
  rintro e' w' ⟨rfl, k1, k2, rfl⟩
  rw [setCell_twice]
  obtain ⟨r1, e1⟩ := hr.drewTo (w.drawn + k1)
  have hsp : splice (rodObj t) 1 [.int .i64 (.ofNat (t + 1)), stAV (t + 1)] = some (rodObj (t + 1)) := rfl
  have hv : VRL k { w with drawn := w.drawn + k1 } [.int .i64 (.ofNat (t + 1)), stAV (t + 1)] [.int .i64 ((t : Int) + 1), .int .u64 (nextA (stepA xs t (stN xs t)))] := by
    simp only [VRL]
    refine ⟨_, _, rfl, by simp only [VR]; rfl, _, _, rfl, (st_VR hs hk (by omega)).2 rfl, rfl⟩
  obtain ⟨_, r2, e2⟩ := HR.setCells (P := P) r1 hg hρ hsp hv (by
    intro u hu
    simp only [List.mem_cons, List.not_mem_nil, or_false] at hu
    rcases hu with rfl | rfl <;> rfl)
  obtain ⟨r3, e3⟩ := r2.drewTo ((({ w with drawn := w.drawn + k1 } : World).setCells bo (so + 1) [.int .i64 ((t : Int) + 1), .int .u64 (nextA (stepA xs t (stN xs t)))]).drawn + k2)
  exact ⟨_, k, rfl, (hd k _ _ hk).2 rfl, r3, (e1.trans e2).trans e3⟩

end Go.Ab
end
