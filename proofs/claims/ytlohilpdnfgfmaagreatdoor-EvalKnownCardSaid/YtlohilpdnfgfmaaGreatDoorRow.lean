/-
  metewandlaw15.EvalKnown returns true from every start that the row lets in; no condition but the row's own.
-/
import Derived.Test.YtlohilpdnfgfmaaGreatDoorTop
import Derived.Test.YtlohilpdnfgfmaaGreatDoorLaid
import Derived.Test.YtlohilpdnfgfmaaGreatDoorTie
import Derived.Test.YtlohilpdnfgfmaaGreatDoorCards
import Derived.SevenTiedAt
import Derived.ProofKit

namespace Go.Proofs.YtlohilpdnfgfmaaGreatDoor
open Go Go.Ab Go.Ab.Tz Go.ChangeShapes Go.WideShapes Go.RowKit Go.Conc
set_option maxRecDepth 1000000

theorem pr0 : PrimOk Tryz.prog (withPrim tabs.env p0) := prim0_ok
theorem pr1 : PrimOk Tryz.prog (withPrim tabs.env p1) := memos_ok env_ok glob_pure pr0 m0
theorem pr2 : PrimOk Tryz.prog (withPrim tabs.env p2) := memos_ok env_ok glob_pure pr1 m1
theorem pr3 : PrimOk Tryz.prog (withPrim tabs.env p3) := memos_ok env_ok glob_pure pr2 m2
theorem pr4 : PrimOk Tryz.prog (withPrim tabs.env p4) := memos_ok env_ok glob_pure pr3 m3
theorem pr5 : PrimOk Tryz.prog (withPrim tabs.env p5) := memos_ok env_ok glob_pure pr4 m4
theorem pr6 : PrimOk Tryz.prog (withPrim tabs.env p6) := memos_ok env_ok glob_pure pr5 m5
theorem pr7 : PrimOk Tryz.prog (withPrim tabs.env p7) := memos_ok env_ok glob_pure pr6 m6
theorem pr8 : PrimOk Tryz.prog (withPrim tabs.env p8) := memos_ok env_ok glob_pure pr7 m7
theorem pr9 : PrimOk Tryz.prog (withPrim tabs.env p9) := memos_ok env_ok glob_pure pr8 m8
theorem pr10 : PrimOk Tryz.prog (withPrim tabs.env p10) := memos_ok env_ok glob_pure pr9 m9
theorem pr11 : PrimOk Tryz.prog (withPrim tabs.env p11) := memos_ok env_ok glob_pure pr10 m10
theorem pr12 : PrimOk Tryz.prog (withPrim tabs.env p12) := memos_ok env_ok glob_pure pr11 m11
theorem pr13 : PrimOk Tryz.prog (withPrim tabs.env p13) := memos_ok env_ok glob_pure pr12 m12
theorem pr14 : PrimOk Tryz.prog (withPrim tabs.env p14) := memos_ok env_ok glob_pure pr13 m13
theorem pr15 : PrimOk Tryz.prog (withPrim tabs.env p15) := memos_ok env_ok glob_pure pr14 m14
theorem pr16 : PrimOk Tryz.prog (withPrim tabs.env p16) := memos_ok env_ok glob_pure pr15 m15
theorem pr17 : PrimOk Tryz.prog (withPrim tabs.env p17) := memos_ok env_ok glob_pure pr16 m16
theorem pr18 : PrimOk Tryz.prog (withPrim tabs.env p18) := memos_ok env_ok glob_pure pr17 m17
theorem pr19 : PrimOk Tryz.prog (withPrim tabs.env p19) := memos_ok env_ok glob_pure pr18 m18
theorem pr20 : PrimOk Tryz.prog (withPrim tabs.env p20) := memos_ok env_ok glob_pure pr19 m19
theorem pr21 : PrimOk Tryz.prog (withPrim tabs.env p21) := memos_ok env_ok glob_pure pr20 m20
theorem pr22 : PrimOk Tryz.prog (withPrim tabs.env p22) := memos_ok env_ok glob_pure pr21 m21
theorem pr23 : PrimOk Tryz.prog (withPrim tabs.env p23) := memos_ok env_ok glob_pure pr22 m22

theorem known_calls {W : World} (h : laidMetH Tryz.prog kl W) : Calls Tryz.prog 6 #[] W fun e W' => e = .returned (.bool true) ∧ ∃ k k' h', Ev k k' ⟨.e, 0⟩ h' W W' := by
  have ht := top_ok
  unfold topRun at ht
  split at ht
  case h_2 => cases ht
  rename_i F hF
  split at ht
  case h_2 => cases ht
  rename_i b hb
  cases hc : (Nat.ble 0 F.ntmps && Nat.blt F.ntmps limF) with
  | false => simp only [hc, cond_false] at ht; cases ht
  | true =>
    simp only [hc, cond_true] at ht
    simp only [Bool.and_eq_true] at hc
    split at ht
    case h_2 => cases ht
    rename_i h1 rc he
    have hr := start_ok (P := Tryz.prog) (w := W) fz0 (fz0_lt h)
    refine (ev_calls (E := withPrim tabs.env p23) (env_ok.withPrim p23) pr23 hF hb he (by simp) (Nat.le_of_ble_eq_true hc.2) rfl hr (glob_ok h) (vs := #[]) (by simp [VRL])).mono ?_
    rintro e W' ⟨v, k', rfl, hv, _, hev⟩
    simp only [VR] at hv
    subst hv
    exact ⟨rfl, _, k', h1, hev⟩

theorem Tryz.own : ownKnob Tryz.prog.godebug = none := by kernel_rfl

theorem evalKnown_lifted (os : Os) (started : os.Started) (H : Type) (enc : TypeId × Value → H) :
    ReturnsInLeavingWide {} Tryz.checked os 6 .any (fun w args => (Rows.evalKnownSpec.pre enc Tryz.prog Tryz.f6 [] false w args ∧ laidMetH Tryz.prog kl w) ∧ sizedMet enc Tryz.prog Tryz.f6 (OpenSpec.ofChange Rows.evalKnownSpec) false w args)
      (Rows.evalKnownSpec.post enc Tryz.prog Tryz.f6 false true false false) := by
  refine leaving_of_change_and (C := Tryz.checked) (X := fun w _ => laidMetH Tryz.prog kl w) (fun _ _ _ hh h => h.of_heap hh) Tryz.own started (by kernel_rfl) Tryz.func6
    (ChangeSpec.witness_at (enc := enc) (C := Tryz.checked) (os := os) (X := fun w _ => laidMetH Tryz.prog kl w) false (laidW os) #[] 8 (World.layVars_os _ _ _) (by kernel_rfl) (by kernel_rfl) (by kernel_rfl) (by kernel_rfl) (by kernel_rfl) (laidW_met os _)) ?_
  intro W base args ds gs before hval0 hW _ _ hL _
  have hW' := hW
  obtain ⟨p, q, hA0, hV0, rfl, hfz, hnd⟩ := hW
  have hA : DataW.TrodAll enc Tryz.prog W 0 (fun _ => true) true Tryz.f6.params.toList args.toList ds p := hA0
  have hV : DataW.TrodVars enc Tryz.prog W (fun _ => true) [] gs q := hV0
  rw [show Tryz.f6.params.toList = [] by kernel_rfl] at hA
  obtain ⟨hargs, rfl, rfl⟩ : args.toList = [] ∧ ds = [] ∧ p = [] := by
    generalize args.toList = l at hA
    cases l with
    | nil => cases ds with
      | nil => exact ⟨rfl, rfl, hA⟩
      | cons => exact absurd hA (by intro h; cases h)
    | cons => exact absurd hA (by intro h; cases h)
  obtain ⟨rfl, rfl⟩ : gs = [] ∧ q = [] := by
    cases gs with
    | nil => exact ⟨rfl, hV⟩
    | cons g r => exact absurd hV (by intro h; cases h)
  have ha : args = #[] := Array.ext' hargs
  subst ha
  have e1 : Rows.evalKnownSpec.fn H ([] ++ []) = { results := [.lit (.bool true)], args := [] } := by simp [Rows.evalKnownSpec]
  refine (known_calls hL).mono fun e W' ⟨he, k, k', h', hev⟩ => ?_
  subst he
  refine ⟨_, rfl, _, _, _, [], [], [], hW', ?_, ?_, ?_, kept_of_ev hev, fun h => by cases h⟩
  · rw [e1]; exact trodAll_mk1 (shut_bool Tryz.underlying4 true)
  · rw [e1]; rfl
  · rw [e1]; rfl

end Go.Proofs.YtlohilpdnfgfmaaGreatDoor
