/-
  metewandlaw15.EvalElements returns true from every start that the row lets in, whatever the numbers are; no condition but the row's own.
-/
import Derived.Test.YtcnhgomgppmeiaaGreatDoorEEl
import Derived.Test.YtcnhgomgppmeiaaGreatDoorELaid
import Derived.Test.YtcnhgomgppmeiaaGreatDoorTie
import Derived.Test.YtcnhgomgppmeiaaGreatDoorCards
import Derived.SevenTiedAt
import Derived.ProofKit
import Derived.ChangeSlices

noncomputable section
namespace Go.Proofs.YtcnhgomgppmeiaaGreatDoor
open Go Go.Ab Go.Ab.Dz Go.ChangeShapes Go.WideShapes Go.RowKit Go.Conc
set_option maxRecDepth 1000000

theorem spot_none {w : World} {a : Addr} {v : Value} (h : w.cell? a = some v) : a.spot = none := by
  unfold World.cell? at h
  split at h
  · cases hs : a.spot with
    | none => rfl
    | some s => simp [hs] at h
  · simp at h

/-- A slice of ints that is handed in, as the generator's list. -/
def NumsIn (xs : List Int) (v : Value) (fz : Nat → Prop) (W : World) : Prop := (numsOpq xs).P fz W v

theorem bool_calls {W : World} (h : laidMetH Tryz.prog kl W) {f : FuncId} {c : Cs} {xs : List Int} (hc : (kcC c).sel 0 = numsOpq xs) {p : FuncId → Option (List AV → AH → Option (AV × AH))} (hp : PrimOk Tryz.prog (withPrim (envC c) p)) (ht : boolRun (withPrim (envC c) p) 1000000 f [.sel 0] = true)
    {v : Value} {fz : Nat → Prop} (hf : ∀ b, fz0 b → fz b) (hlt : ∀ b, fz b → b < W.heap.size) (hv : (numsOpq xs).P fz W v) : Calls Tryz.prog f #[v] W fun e W' => e = .returned (.bool true) ∧ ∃ k k' h', Ev k k' ⟨.e, 0⟩ h' W W' := by
  unfold boolRun at ht
  split at ht
  case h_2 => cases ht
  rename_i F hF
  split at ht
  case h_2 => cases ht
  rename_i b hb
  cases hcnd : (Nat.ble ([.sel 0] : List AV).length F.ntmps && Nat.blt F.ntmps limF) with
  | false => simp only [hcnd, cond_false] at ht; cases ht
  | true =>
    simp only [hcnd, cond_true] at ht
    simp only [Bool.and_eq_true] at hcnd
    split at ht
    case h_2 => cases ht
    rename_i h1 rc he
    rw [evK_eq] at he
    have hr := start_ok (w := W) (kcC c) fz hlt
    have hone : v.oneCell' = true := by
      obtain ⟨base, len, cap, rfl, _⟩ := hv
      rfl
    refine (ev_calls (E := withPrim (envC c) p) ((env_ok c).withPrim p) hp hF hb he (Nat.le_of_ble_eq_true hcnd.1) (Nat.le_of_ble_eq_true hcnd.2) (k := ⟨fun _ => none, fz, kcC c⟩) rfl hr (glob_ok h c (kcC c) fz hf) (vs := #[v])
      (by simp only [VRL, VR]; exact ⟨v, [], rfl, ⟨by show ((kcC c).sel 0).P fz W v; rw [hc]; exact hv, hone⟩, rfl⟩)).mono ?_
    rintro e W' ⟨v', k', rfl, hv', _, hev⟩
    simp only [VR] at hv'
    subst hv'
    exact ⟨rfl, _, k', h1, hev⟩

theorem Tryz.own : ownKnob Tryz.prog.godebug = none := by kernel_rfl
theorem cells3 : Tryz.prog.cellsOf 3 = 1 := by kernel_rfl

/-- What is read of a slice of ints at the start, for the generator; and that it reads so at the end. -/
theorem nums_read {H : Type} {enc : TypeId × Value → H} {W : World} (h : laidMetH Tryz.prog kl W) {v : Value} (hvs : ∃ a len cap, v = .slice a len cap) {d : DataW H} {p : List MemPlace} (hd : DataW.Trod enc Tryz.prog W 0 (fun _ => true) true 22 v d p) :
    ∃ (xs : List Int) (fz : Nat → Prop), (∀ b, fz0 b → fz b) ∧ (∀ b, fz b → b < W.heap.size) ∧ (numsOpq xs).P fz W v ∧
      ∀ W' : World, (∀ b, b < W.heap.size → W'.heap[b]? = W.heap[b]?) → DataW.Trod enc Tryz.prog W' 0 (fun b => decide (b < W.heap.size)) true 22 v d p := by
  obtain ⟨a0, l0, c0, rfl⟩ := hvs
  obtain ⟨fuel, hd⟩ := hd
  rcases open_ints Tryz.underlying22 Tryz.underlying3 cells3 hd with ⟨h1, h2⟩ | ⟨a, len, cap, zs, h1, hb, hl, hm, hz, h2, hcell, hw⟩
  · have e : Value.slice a0 l0 c0 = .slice none 0 0 := by simpa [Value.cells] using h1
    rw [e]
    cases h2
    exact ⟨[], fz0, fun _ h => h, fz0_lt h, ⟨none, 0, 0, rfl, rfl, .inl rfl⟩, fun W' _ => shut_slice_nil Tryz.underlying22⟩
  · have e : Value.slice a0 l0 c0 = .slice (some a) len cap := by simpa [Value.cells] using h1
    rw [e]
    have hz : zs.length = cap := by simpa using hz
    cases h2
    have hlt : 0 < zs.length → a.block < W.heap.size := fun h0 => by
      have hc := hcell 0 h0
      rcases Nat.lt_or_ge a.block W.heap.size with hh | hh
      · exact hh
      · have hbl : (a.add 0).block = a.block := block_add a 0
        simp [World.cell?, hbl, Array.getElem?_eq_none hh] at hc
    refine ⟨zs.take len, fun b => fz0 b ∨ (0 < zs.length ∧ b = a.block), fun _ h => .inl h, ?_, ⟨some a, len, cap, rfl, ?_, ?_⟩, fun W' hW => ?_⟩
    · rintro b (hb' | ⟨h0, rfl⟩)
      · exact fz0_lt h b hb'
      · exact hlt h0
    · rw [List.length_take]; omega
    · by_cases h0 : len = 0
      · left; rw [h0]; rfl
      · right
        have hpos : 0 < zs.length := by omega
        have hc := hcell 0 hpos
        have hsp : a.spot = none := by
          have := spot_none hc
          unfold Addr.add at this
          split at this
          · exact this
          · simp_all
        have ha : a = ⟨a.block, a.off, none⟩ := by
          cases a; simp at hsp; subst hsp; rfl
        refine ⟨a.block, a.off, by rw [← ha], .inr ⟨hpos, rfl⟩, fun i x hx => ?_⟩
        rw [List.getElem?_take] at hx
        split at hx
        case isFalse => cases hx
        have hi : i < zs.length := (List.getElem?_eq_some_iff.1 hx).1
        have := hcell i hi
        rw [ha, add_plain] at this
        rw [this, List.getD, hx]
        rfl
    · refine ⟨2, ?_⟩
      have := shut_ints (enc := enc) (P := Tryz.prog) (w := W') (base := 0) (spare := fun b => decide (b < W.heap.size)) (held := true) (t := 22) (a := a) (len := len) (cap := cap) (zs := zs) 0 Tryz.underlying22 Tryz.underlying3 cells3 (Nat.zero_le _) hl hm (by
        by_cases h0 : 0 < zs.length
        · rw [if_pos (by simpa using hlt h0)]; exact hz
        · split <;> omega) (fun i hi => by
          rw [← hcell i hi]
          have hbl : (a.add i).block = a.block := block_add a i
          simp only [World.cell?, hbl, hW _ (hlt (by omega))]) hw
      exact this

theorem whole_heap {k k' : K} {h' : AH} {w w' : World} (e : Ev k k' ⟨.e, 0⟩ h' w w') : ∀ b, b < w.heap.size → w'.heap[b]? = w.heap[b]? := fun b hb =>
  e.same b hb (fun o ob sh h => by rw [show (⟨.e, 0⟩ : AH).get o = none from T.get_e _ _] at h; cases h)

theorem evalElements_lifted (os : Os) (started : os.Started) (H : Type) (enc : TypeId × Value → H) :
    ReturnsInLeavingWide {} Tryz.checked os 4 .any (fun w args => (Rows.evalElementsSpec.pre enc Tryz.prog Tryz.f4 [] false w args ∧ laidMetH Tryz.prog kl w) ∧ sizedMet enc Tryz.prog Tryz.f4 (OpenSpec.ofChange Rows.evalElementsSpec) false w args)
      (Rows.evalElementsSpec.post enc Tryz.prog Tryz.f4 false true false false) := by
  refine leaving_of_change_and (C := Tryz.checked) (X := fun w _ => laidMetH Tryz.prog kl w) (fun _ _ _ hh h => h.of_heap hh) Tryz.own started (by kernel_rfl) Tryz.func4
    (ChangeSpec.witness_at (enc := enc) (C := Tryz.checked) (os := os) (X := fun w _ => laidMetH Tryz.prog kl w) false (laidW os) #[.slice none 0 0] 8 (World.layVars_os _ _ _) (by kernel_rfl) (by kernel_rfl) (by kernel_rfl) (by kernel_rfl) (by kernel_rfl) (laidW_met os _)) ?_
  intro W base args ds gs before hval0 hW _ _ hL _
  have hW' := hW
  obtain ⟨p, q, hA0, hV0, rfl, hfz, hnd⟩ := hW
  have hA : DataW.TrodAll enc Tryz.prog W 0 (fun _ => true) true Tryz.f4.params.toList args.toList ds p := hA0
  have hV : DataW.TrodVars enc Tryz.prog W (fun _ => true) [] gs q := hV0
  have hp3 : Tryz.f4.params = #[22] := by kernel_rfl
  rw [hp3] at hA
  obtain ⟨v, d, rfl, rfl, hd⟩ := trodAll_one hA
  have hok := hval0 0 22 v (by rw [hp3]; rfl) rfl
  obtain ⟨rfl, rfl⟩ : gs = [] ∧ q = [] := by
    cases gs with
    | nil => exact ⟨rfl, hV⟩
    | cons g r => exact absurd hV (by intro h; cases h)
  obtain ⟨xs, fz, hf, hlt, hn, hback⟩ := nums_read hL (okWide_slice Tryz.underlying22 hok) hd
  obtain ⟨c, hc, pr, hpr, hrun⟩ := el_prims xs
  have e1 : Rows.evalElementsSpec.fn H ([d] ++ []) = { results := [.lit (.bool true)], args := [d] } := by simp [Rows.evalElementsSpec]
  refine (bool_calls hL hc hpr hrun hf hlt hn).mono fun e W' ⟨he, k, k', h', hev⟩ => ?_
  subst he
  refine ⟨_, rfl, _, _, _, [], p, [], hW', ?_, ?_, ?_, kept_of_ev hev, fun h => by cases h⟩
  · rw [e1]; exact trodAll_mk1 (shut_bool Tryz.underlying4 true)
  · rw [e1, hp3]; exact trodAll_mk1 (hback W' (whole_heap hev))
  · rw [e1]; rfl
end Go.Proofs.YtcnhgomgppmeiaaGreatDoor
end
