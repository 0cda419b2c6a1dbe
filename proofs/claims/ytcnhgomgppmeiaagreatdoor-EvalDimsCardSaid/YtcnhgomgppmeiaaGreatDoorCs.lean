/-
  What is drawn for metewandlaw15.EvalDims, whatever the numbers are.
-/
import Derived.Test.YtcnhgomgppmeiaaGreatDoorSel

noncomputable section
namespace Go.Ab.Dz
open Go Go.Ab Go.Proofs Go.Ro
set_option maxRecDepth 1000000

def scRat (t : Nat) : Nat → Option Dr := fun u =>
  bif Nat.beq u t then some (.fr (.int .i64 (-9)) (.int .i64 9) (.sel (60 + t))) else bif Nat.beq u (t + 1) then some (.pk [1, 1, 2, 5] (.sel (60 + (t + 1)))) else
  bif Nat.beq u (t + 2) then some (.fr (.int .i64 1) (.sel (60 + (t + 1))) (.sel (60 + (t + 2)))) else none
def scDims (a b : Nat) : Nat → Option Dr := fun u =>
  bif Nat.beq u 0 then some (.up 4 (.int .i64 (.ofNat a))) else bif Nat.beq u 4 then some (.up 4 (.int .i64 (.ofNat b))) else match scRat 1 u with
    | some d => some d
    | none => scRat 5 u
def factsDims (z : Bool) : List Fc := itemF 0 1 ++ (itemF 1 5 ++ pairF z)

noncomputable def boolRun (E : Env) (n f : Nat) (args : List AV) : Bool :=
  match E.fn f with
  | some F => match F.body with
    | some b => bif Nat.ble args.length F.ntmps && Nat.blt F.ntmps limF then match evK E n (.run ⟨f, F.ntmps, .normal, none⟩ (putArgs 0 args .e) [.code b] []) ⟨.e, 0⟩ .no with
      | some (.ret (.bool true), _, _) => true
      | _ => false
      else false
    | none => false
  | none => false
noncomputable def dimsRun (c : Cs) (a b : Nat) (z : Bool) : Bool := boolRun (withPrim (envC c) (primR (scDims a b) (primL p11 (factsDims z)))) 1000000 3 [.sel 0]
end Go.Ab.Dz

namespace Go.Ab.Dz
open Go Go.Ab Go.Proofs Go.Ro
set_option maxRecDepth 1000000

theorem digs_byte : ∀ (k n : Nat) (r : List Nat), r.all (fun n => Nat.blt n 256) = true → (digs k n r).all (fun n => Nat.blt n 256) = true
  | 0, _, r, h => h
  | k + 1, n, r, h => by
    unfold digs
    cases hb : Nat.blt n 10 with
    | true =>
      have : n < 10 := Nat.le_of_ble_eq_true hb
      simp only [cond_true, List.all_cons, h, Bool.and_true]
      exact Nat.ble_eq_true_of_le (by omega)
    | false =>
      simp only [cond_false]
      refine digs_byte k _ _ ?_
      simp only [List.all_cons, h, Bool.and_true]
      exact Nat.ble_eq_true_of_le (by omega)
theorem decS_byte (n : Int) : (decS n).all (fun n => Nat.blt n 256) = true := by
  cases n with
  | ofNat m => exact digs_byte 8 m [] rfl
  | negSucc m =>
    show (45 :: digs 8 (m + 1) []).all _ = true
    simp only [List.all_cons, digs_byte 8 (m + 1) [] rfl, Bool.and_true]
    rfl

/-- What everything stands for, by the list, what is drawn, and the numbers made of it. -/
noncomputable def csOf (xs : List Int) (v N : Nat → Int) : Cs where
  sel i := if i = 0 then numsOpq xs else if i < 60 then opqOf (.int .u64 (stN xs (i - 10))) else opqOf (sig v N i)
  str i := baOf (tau N i)

theorem chosen (xs : List Int) (v N : Nat → Int) : Chosen (kcC (csOf xs v N)) (sig v N) (tau N) where
  sel i := by
    by_cases h : i < 60
    · left
      unfold sig
      rw [show Nat.blt i 60 = true from Nat.ble_eq_true_of_le h]
      rfl
    · right
      show (if i = 0 then _ else if i < 60 then _ else _) = _
      rw [if_neg (by omega), if_neg h]
  str i := rfl
  byte i := decS_byte _

theorem sel_draw (xs : List Int) (v N : Nat → Int) (t : Nat) (ht : t < 40) : (kcC (csOf xs v N)).sel (60 + t) = opqOf (.int .i64 (v t)) := by
  show (if 60 + t = 0 then _ else if 60 + t < 60 then _ else _) = _
  rw [if_neg (by omega), if_neg (by omega)]
  unfold sig
  rw [show Nat.blt (60 + t) 60 = false from by
    cases h : Nat.blt (60 + t) 60 with
    | false => rfl
    | true => have := Nat.le_of_ble_eq_true h; omega, show Nat.blt (60 + t) 100 = true from Nat.ble_eq_true_of_le (by omega)]
  simp only [cond_false, cond_true, Nat.add_sub_cancel_left]

def pickV (x : Int) : Int := ([1, 1, 2, 5] : List Int).getD x.toNat 1
theorem pickV_ok (x : Int) (h0 : 0 ≤ x) (h3 : x ≤ 3) : ([1, 1, 2, 5] : List Int)[x.toNat]? = some (pickV x) ∧ 1 ≤ pickV x ∧ pickV x ≤ 5 := by
  unfold pickV
  have h : x.toNat ≤ 3 := by omega
  generalize x.toNat = i at h
  match i, h with
  | 0, _ => decide
  | 1, _ => decide
  | 2, _ => decide
  | 3, _ => decide
  | n + 4, h => omega

/-- The three numbers that a fraction is drawn by. -/
def rvP (xs : List Int) (t : Nat) : Int := -9 + drawN xs t 18
def rvY (xs : List Int) (t : Nat) : Int := pickV (drawN xs (t + 1) 3)
def rvQ (xs : List Int) (t : Nat) : Int := 1 + drawN xs (t + 2) (rvY xs t - 1).toNat
def rv (xs : List Int) (t j : Nat) : Int := if j = 0 then rvP xs t else if j = 1 then rvY xs t else rvQ xs t

theorem rv0 (xs : List Int) (t : Nat) : rv xs t 0 = rvP xs t := by unfold rv; rw [if_pos rfl]
theorem rv1 (xs : List Int) (t : Nat) : rv xs t 1 = rvY xs t := by unfold rv; rw [if_neg (by decide), if_pos rfl]
theorem rv2 (xs : List Int) (t : Nat) : rv xs t 2 = rvQ xs t := by unfold rv; rw [if_neg (by decide), if_neg (by decide)]
theorem rvP_in (xs : List Int) (t : Nat) : -9 ≤ rvP xs t ∧ rvP xs t ≤ 9 := by
  have := drawN_range xs t 18
  unfold rvP
  generalize drawN xs t 18 = x at *
  omega
theorem rvY_in (xs : List Int) (t : Nat) : ([1, 1, 2, 5] : List Int)[(drawN xs (t + 1) 3).toNat]? = some (rvY xs t) ∧ 1 ≤ rvY xs t ∧ rvY xs t ≤ 5 := by
  have := drawN_range xs (t + 1) 3
  unfold rvY
  generalize drawN xs (t + 1) 3 = x at *
  exact pickV_ok x this.1 (by omega)
theorem rvQ_in (xs : List Int) (t : Nat) : 1 ≤ rvQ xs t ∧ rvQ xs t ≤ 5 := by
  have h1 := (rvY_in xs t).2
  have := drawN_range xs (t + 2) (rvY xs t - 1).toNat
  unfold rvQ
  generalize drawN xs (t + 2) (rvY xs t - 1).toNat = x at *
  generalize rvY xs t = y at *
  omega

theorem scRat_ok {c : Cs} {xs : List Int} {t : Nat} (hc : ∀ j, j < 3 → (kcC c).sel (60 + (t + j)) = opqOf (.int .i64 (rv xs t j))) : ∀ u d, scRat t u = some d → DrOk (kcC c) xs u d := by
  intro u d h
  unfold scRat at h
  cases h0 : Nat.beq u t with
  | true =>
    simp only [h0, cond_true, Option.some.injEq] at h
    obtain rfl := Nat.eq_of_beq_eq_true h0
    subst h
    exact ⟨-9, 9, 18, Den.lit _ _, Den.lit _ _, by decide, by decide, by decide, by decide, by have := Den.sel (hc 0 (by decide)); rw [rv0] at this; exact this⟩
  | false =>
    simp only [h0, cond_false] at h
    cases h1 : Nat.beq u (t + 1) with
    | true =>
      simp only [h1, cond_true, Option.some.injEq] at h
      obtain rfl := Nat.eq_of_beq_eq_true h1
      subst h
      exact ⟨by decide, by decide, _, (rvY_in xs t).1, by have := Den.sel (hc 1 (by decide)); rw [rv1] at this; exact this⟩
    | false =>
      simp only [h1, cond_false] at h
      cases h2 : Nat.beq u (t + 2) with
      | false => simp only [h2, cond_false] at h; cases h
      | true =>
        simp only [h2, cond_true, Option.some.injEq] at h
        obtain rfl := Nat.eq_of_beq_eq_true h2
        subst h
        have h1 := (rvY_in xs t).2
        have d1 := Den.sel (hc 1 (by decide))
        have d2 := Den.sel (hc 2 (by decide))
        rw [rv1] at d1
        rw [rv2] at d2
        exact ⟨1, rvY xs t, (rvY xs t - 1).toNat, Den.lit _ _, d1, by omega, by omega, by decide, by omega, d2⟩

def vDims (xs : List Int) (u : Nat) : Int := if u < 4 then rv xs 1 (u - 1) else rv xs 5 (u - 5)

theorem scDims_ok (xs : List Int) (N : Nat → Int) {a b : Nat} (ha : drawN xs 0 4 = (a : Int)) (hb : drawN xs 4 4 = (b : Int)) : ScOk (kcC (csOf xs (vDims xs) N)) xs (scDims a b) where
  list := rfl
  state t h1 h2 := by
    show (if 10 + t = 0 then _ else if 10 + t < 60 then _ else _) = _
    rw [if_neg (by omega), if_pos (by omega), Nat.add_sub_cancel_left]
  dr u d h := by
    have c1 : ∀ j, j < 3 → (kcC (csOf xs (vDims xs) N)).sel (60 + (1 + j)) = opqOf (.int .i64 (rv xs 1 j)) := fun j hj => by
      rw [sel_draw _ _ _ _ (by omega)]
      unfold vDims
      rw [if_pos (by omega), Nat.add_sub_cancel_left]
    have c5 : ∀ j, j < 3 → (kcC (csOf xs (vDims xs) N)).sel (60 + (5 + j)) = opqOf (.int .i64 (rv xs 5 j)) := fun j hj => by
      rw [sel_draw _ _ _ _ (by omega)]
      unfold vDims
      rw [if_neg (by omega), Nat.add_sub_cancel_left]
    unfold scDims at h
    cases h0 : Nat.beq u 0 with
    | true =>
      simp only [h0, cond_true, Option.some.injEq] at h
      obtain rfl := Nat.eq_of_beq_eq_true h0
      subst h
      exact ⟨by omega, by rw [ha]; exact Den.lit _ _⟩
    | false =>
      simp only [h0, cond_false] at h
      cases h4 : Nat.beq u 4 with
      | true =>
        simp only [h4, cond_true, Option.some.injEq] at h
        obtain rfl := Nat.eq_of_beq_eq_true h4
        subst h
        exact ⟨by omega, by rw [hb]; exact Den.lit _ _⟩
      | false =>
        simp only [h4, cond_false] at h
        split at h
        · rename_i d' hd
          cases h
          exact scRat_ok c1 u _ hd
        · exact scRat_ok c5 u _ h
end Go.Ab.Dz
end
