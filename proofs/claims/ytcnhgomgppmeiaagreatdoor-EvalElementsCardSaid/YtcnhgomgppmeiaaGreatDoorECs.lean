/-
  What is drawn for metewandlaw15.EvalElements, whatever the numbers are.
-/
import Derived.Test.YtcnhgomgppmeiaaGreatDoorESel
import Derived.Test.YtcnhgomgppmeiaaGreatDoorEMemo
import Derived.Test.YtcnhgomgppmeiaaGreatDoorTab

noncomputable section
namespace Go.Ab.Dz
open Go Go.Ab Go.Proofs Go.Ro
set_option maxRecDepth 1000000

def scRat (t : Nat) : Nat → Option Dr := fun u =>
  bif Nat.beq u t then some (.fr (.int .i64 (-9)) (.int .i64 9) (.sel (60 + t))) else bif Nat.beq u (t + 1) then some (.pk [1, 1, 2, 5] (.sel (60 + (t + 1)))) else
  bif Nat.beq u (t + 2) then some (.fr (.int .i64 1) (.sel (60 + (t + 1))) (.sel (60 + (t + 2)))) else none
def scRats : Nat → Nat → Option Dr
  | 0, _ => none
  | j + 1, u => match scRats j u with
    | some d => some d
    | none => scRat (2 + 3 * j) u
def scEl (o k s : Nat) : Nat → Option Dr := fun u =>
  bif Nat.beq u 0 then some (.up 3 (.int .i64 (.ofNat o))) else bif Nat.beq u 1 then some (.pk [3, 4] (.int .i64 (.ofNat (3 + k)))) else bif Nat.beq u 20 then some (.up 1 (.int .i64 (.ofNat s))) else scRats 6 u
def itemsF : List Fc := itemF 0 2 ++ (itemF 1 5 ++ (itemF 2 8 ++ (itemF 3 11 ++ (itemF 4 14 ++ itemF 5 17))))
/-- The facts of the operations of all elements, and which divisors are zero. -/
def opF (o : Nat) (s y : Nat) (z : Bool) : List Fc := bif Nat.beq o 3 then zeroE y z ++ (bif z then [] else slotE o s y s) else slotE o s y s
def oneF (o : Nat) (z : Bool) : List Fc := opF o 0 3 z ++ (opF o 1 3 z ++ opF o 2 3 z)
def eachF (o : Nat) (z0 z1 z2 : Bool) : List Fc := opF o 0 3 z0 ++ (opF o 1 4 z1 ++ opF o 2 5 z2)

noncomputable def boolRun (E : Env) (n f : Nat) (args : List AV) : Bool :=
  match E.fn f with
  | some F => match F.body with
    | some b => bif Nat.ble args.length F.ntmps && Nat.blt F.ntmps limF then match evK E n (.run ⟨f, F.ntmps, .normal, none⟩ (putArgs 0 args .e) [.code b] []) ⟨.e, 0⟩ .no with
      | some (.ret (.bool true), _, _) => true
      | _ => false
      else false
    | none => false
  | none => false
noncomputable def elRun (c : Cs) (o k s : Nat) (l : List Fc) : Bool := boolRun (withPrim (envC c) (primR (scEl o k s) (primL p10 (itemsF ++ l)))) 1000000 4 [.sel 0]
end Go.Ab.Dz

namespace Go.Ab.Dz
open Go Go.Ab Go.Proofs Go.Ro
set_option maxRecDepth 1000000

theorem digs_byte : ∀ (k n : Nat) (r : List Nat), r.all (fun n => Nat.blt n 256) = true → (digs k n r).all (fun n => Nat.blt n 256) = true
  | 0, _, r, h => h
  | k + 1, n, r, h => by
    unfold digs
    cases hb : Nat.blt n 10 with
    | true =>
      have : n < 10 := Nat.le_of_ble_eq_true hb
      simp only [cond_true, List.all_cons, h, Bool.and_true]
      exact Nat.ble_eq_true_of_le (by omega)
    | false =>
      simp only [cond_false]
      refine digs_byte k _ _ ?_
      simp only [List.all_cons, h, Bool.and_true]
      exact Nat.ble_eq_true_of_le (by omega)
theorem decS_byte (n : Int) : (decS n).all (fun n => Nat.blt n 256) = true := by
  cases n with
  | ofNat m => exact digs_byte 8 m [] rfl
  | negSucc m =>
    show (45 :: digs 8 (m + 1) []).all _ = true
    simp only [List.all_cons, digs_byte 8 (m + 1) [] rfl, Bool.and_true]
    rfl

/-- What everything stands for, by the list, what is drawn, and the numbers made of it. -/
noncomputable def csOf (xs : List Int) (v N : Nat → Int) : Cs where
  sel i := if i = 0 then numsOpq xs else if i < 60 then opqOf (.int .u64 (stN xs (i - 10))) else opqOf (sig v N i)
  str i := baOf (tau N i)

theorem chosen (xs : List Int) (v N : Nat → Int) : Chosen (kcC (csOf xs v N)) (sig v N) (tau N) where
  sel i := by
    by_cases h : i < 60
    · left
      unfold sig
      rw [show Nat.blt i 60 = true from Nat.ble_eq_true_of_le h]
      rfl
    · right
      show (if i = 0 then _ else if i < 60 then _ else _) = _
      rw [if_neg (by omega), if_neg h]
  str i := rfl
  byte i := decS_byte _

theorem sel_draw (xs : List Int) (v N : Nat → Int) (t : Nat) (ht : t < 40) : (kcC (csOf xs v N)).sel (60 + t) = opqOf (.int .i64 (v t)) := by
  show (if 60 + t = 0 then _ else if 60 + t < 60 then _ else _) = _
  rw [if_neg (by omega), if_neg (by omega)]
  unfold sig
  rw [show Nat.blt (60 + t) 60 = false from by
    cases h : Nat.blt (60 + t) 60 with
    | false => rfl
    | true => have := Nat.le_of_ble_eq_true h; omega, show Nat.blt (60 + t) 100 = true from Nat.ble_eq_true_of_le (by omega)]
  simp only [cond_false, cond_true, Nat.add_sub_cancel_left]

def pickV (x : Int) : Int := ([1, 1, 2, 5] : List Int).getD x.toNat 1
theorem pickV_ok (x : Int) (h0 : 0 ≤ x) (h3 : x ≤ 3) : ([1, 1, 2, 5] : List Int)[x.toNat]? = some (pickV x) ∧ 1 ≤ pickV x ∧ pickV x ≤ 5 := by
  unfold pickV
  have h : x.toNat ≤ 3 := by omega
  generalize x.toNat = i at h
  match i, h with
  | 0, _ => decide
  | 1, _ => decide
  | 2, _ => decide
  | 3, _ => decide
  | n + 4, h => omega

/-- The three numbers that a fraction is drawn by. -/
def rvP (xs : List Int) (t : Nat) : Int := -9 + drawN xs t 18
def rvY (xs : List Int) (t : Nat) : Int := pickV (drawN xs (t + 1) 3)
def rvQ (xs : List Int) (t : Nat) : Int := 1 + drawN xs (t + 2) (rvY xs t - 1).toNat
def rv (xs : List Int) (t j : Nat) : Int := if j = 0 then rvP xs t else if j = 1 then rvY xs t else rvQ xs t

theorem rv0 (xs : List Int) (t : Nat) : rv xs t 0 = rvP xs t := by unfold rv; rw [if_pos rfl]
theorem rv1 (xs : List Int) (t : Nat) : rv xs t 1 = rvY xs t := by unfold rv; rw [if_neg (by decide), if_pos rfl]
theorem rv2 (xs : List Int) (t : Nat) : rv xs t 2 = rvQ xs t := by unfold rv; rw [if_neg (by decide), if_neg (by decide)]
theorem rvP_in (xs : List Int) (t : Nat) : -9 ≤ rvP xs t ∧ rvP xs t ≤ 9 := by
  have := drawN_range xs t 18
  unfold rvP
  generalize drawN xs t 18 = x at *
  omega
theorem rvY_in (xs : List Int) (t : Nat) : ([1, 1, 2, 5] : List Int)[(drawN xs (t + 1) 3).toNat]? = some (rvY xs t) ∧ 1 ≤ rvY xs t ∧ rvY xs t ≤ 5 := by
  have := drawN_range xs (t + 1) 3
  unfold rvY
  generalize drawN xs (t + 1) 3 = x at *
  exact pickV_ok x this.1 (by omega)
theorem rvQ_in (xs : List Int) (t : Nat) : 1 ≤ rvQ xs t ∧ rvQ xs t ≤ 5 := by
  have h1 := (rvY_in xs t).2
  have := drawN_range xs (t + 2) (rvY xs t - 1).toNat
  unfold rvQ
  generalize drawN xs (t + 2) (rvY xs t - 1).toNat = x at *
  generalize rvY xs t = y at *
  omega

theorem scRat_ok {c : Cs} {xs : List Int} {t : Nat} (hc : ∀ j, j < 3 → (kcC c).sel (60 + (t + j)) = opqOf (.int .i64 (rv xs t j))) : ∀ u d, scRat t u = some d → DrOk (kcC c) xs u d := by
  intro u d h
  unfold scRat at h
  cases h0 : Nat.beq u t with
  | true =>
    simp only [h0, cond_true, Option.some.injEq] at h
    obtain rfl := Nat.eq_of_beq_eq_true h0
    subst h
    exact ⟨-9, 9, 18, Den.lit _ _, Den.lit _ _, by decide, by decide, by decide, by decide, by have := Den.sel (hc 0 (by decide)); rw [rv0] at this; exact this⟩
  | false =>
    simp only [h0, cond_false] at h
    cases h1 : Nat.beq u (t + 1) with
    | true =>
      simp only [h1, cond_true, Option.some.injEq] at h
      obtain rfl := Nat.eq_of_beq_eq_true h1
      subst h
      exact ⟨by decide, by decide, _, (rvY_in xs t).1, by have := Den.sel (hc 1 (by decide)); rw [rv1] at this; exact this⟩
    | false =>
      simp only [h1, cond_false] at h
      cases h2 : Nat.beq u (t + 2) with
      | false => simp only [h2, cond_false] at h; cases h
      | true =>
        simp only [h2, cond_true, Option.some.injEq] at h
        obtain rfl := Nat.eq_of_beq_eq_true h2
        subst h
        have h1 := (rvY_in xs t).2
        have d1 := Den.sel (hc 1 (by decide))
        have d2 := Den.sel (hc 2 (by decide))
        rw [rv1] at d1
        rw [rv2] at d2
        exact ⟨1, rvY xs t, (rvY xs t - 1).toNat, Den.lit _ _, d1, by omega, by omega, by decide, by omega, d2⟩

/-- What is drawn for six items. -/
def vEl (xs : List Int) (u : Nat) : Int := rv xs (2 + 3 * ((u - 2) / 3)) ((u - 2) % 3)
theorem vEl_at (xs : List Int) (j i : Nat) (hi : i < 3) : vEl xs (2 + 3 * j + i) = rv xs (2 + 3 * j) i := by
  unfold vEl
  have e1 : (2 + 3 * j + i - 2) / 3 = j := by omega
  have e2 : (2 + 3 * j + i - 2) % 3 = i := by omega
  rw [e1, e2]

theorem scRats_ok (xs : List Int) (N : Nat → Int) : ∀ n, n ≤ 6 → ∀ u d, scRats n u = some d → DrOk (kcC (csOf xs (vEl xs) N)) xs u d
  | 0, _, u, d, h => by cases h
  | n + 1, hn, u, d, h => by
    unfold scRats at h
    split at h
    · rename_i d' hd
      cases h
      exact scRats_ok xs N n (by omega) u _ hd
    · refine scRat_ok (t := 2 + 3 * n) (fun i hi => ?_) u d h
      rw [sel_draw _ _ _ _ (by omega), vEl_at xs n i hi]

theorem scEl_ok (xs : List Int) (N : Nat → Int) {o k s : Nat} (ho : drawN xs 0 3 = (o : Int)) (hk : drawN xs 1 1 = (k : Int)) (hk2 : k < 2) (hs : drawN xs 20 1 = (s : Int)) : ScOk (kcC (csOf xs (vEl xs) N)) xs (scEl o k s) where
  list := rfl
  state t h1 h2 := by
    show (if 10 + t = 0 then _ else if 10 + t < 60 then _ else _) = _
    rw [if_neg (by omega), if_pos (by omega), Nat.add_sub_cancel_left]
  dr u d h := by
    unfold scEl at h
    cases h0 : Nat.beq u 0 with
    | true =>
      simp only [h0, cond_true, Option.some.injEq] at h
      obtain rfl := Nat.eq_of_beq_eq_true h0
      subst h
      exact ⟨by omega, by rw [ho]; exact Den.lit _ _⟩
    | false =>
      simp only [h0, cond_false] at h
      cases h1 : Nat.beq u 1 with
      | true =>
        simp only [h1, cond_true, Option.some.injEq] at h
        obtain rfl := Nat.eq_of_beq_eq_true h1
        subst h
        refine ⟨by decide, by decide, (3 + k : Nat), ?_, Den.lit _ _⟩
        have hl : ([3, 4] : List Int).length - 1 = 1 := rfl
        rw [hl, hk, Int.toNat_natCast]
        match k, hk2 with
        | 0, _ => rfl
        | 1, _ => rfl
        | n + 2, h => omega
      | false =>
        simp only [h1, cond_false] at h
        cases h2 : Nat.beq u 20 with
        | true =>
          simp only [h2, cond_true, Option.some.injEq] at h
          obtain rfl := Nat.eq_of_beq_eq_true h2
          subst h
          exact ⟨by omega, by rw [hs]; exact Den.lit _ _⟩
        | false =>
          simp only [h2, cond_false] at h
          exact scRats_ok xs N 6 (Nat.le_refl _) u d h
end Go.Ab.Dz
end
