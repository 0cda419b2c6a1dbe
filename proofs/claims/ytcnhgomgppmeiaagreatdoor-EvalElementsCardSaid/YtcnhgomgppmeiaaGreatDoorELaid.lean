/-
  What the row's listed variables give the run; a world in which they hold what the row says.
-/
import Derived.Test.YtcnhgomgppmeiaaGreatDoorTab
import Derived.Test.YtcnhgomgppmeiaaGreatDoorRows
import Derived.LaidSub
import Derived.LaidHandle
import Derived.Lay
import Derived.Lib.LaidU8

noncomputable section
namespace Go.Ab.Dz
open Go Go.Ab Go.Proofs Go.Proofs.YtcnhgomgppmeiaaGreatDoor
set_option maxRecDepth 1000000

abbrev kl : List (String × DataW Unit) := Rows.evalElementsRow.laid
abbrev hcell : Value := .iface 248 (.agg #[.pointer (some ⟨9, 88, none⟩)])

theorem et : Tryz.prog.globalNamed "errors.errorType" = some 0 := by kernel_rfl
theorem rt : (Tryz.prog.cutTypes.find? (·.1 == "internal/reflectlite.rtype")).map (·.2) = some 248 := by kernel_rfl
theorem tsize : Tryz.prog.types.size = 491 := by kernel_rfl
theorem oneRow : ((List.range 491).filter fun t => Tryz.prog.rowNamed t [101, 114, 114, 111, 114]) = [88] := by kernel_rfl

theorem handle_of_laid {W : World} (h : laidMetH Tryz.prog kl W) : W.cell? ⟨0, 0, none⟩ = some hcell := by
  obtain ⟨_, h2⟩ := laidMetH_iff.1 h
  have hmem : ("errors.errorType", Rows.laid_errors_errorType) ∈ kl.filter fun x => x.2.handleName?.isSome := by
    rw [show (kl.filter fun x => x.2.handleName?.isSome) = [("errors.errorType", Rows.laid_errors_errorType)] by kernel_rfl]
    exact List.mem_singleton.2 rfl
  obtain ⟨name, u, ty, e1, e2, e3, e4, e5⟩ := h2 _ hmem
  have en : name = [101, 114, 114, 111, 114] := (Option.some.inj e1).symm
  subst en
  obtain rfl := Option.some.inj (rt.symm.trans e2)
  have hm : ty ∈ (List.range 491).filter fun t => Tryz.prog.rowNamed t [101, 114, 114, 111, 114] := List.mem_filter.2 ⟨List.mem_range.2 (by rw [← tsize]; exact e3), e4⟩
  rw [oneRow] at hm
  obtain rfl := List.mem_singleton.1 hm
  have hh : typeHandle Tryz.prog 88 = .pointer (some ⟨9, 88, none⟩) := by kernel_rfl
  rw [hh] at e5
  simpa using World.var?_cell et e5 0

abbrev pows : List Int := [1, 10, 100, 1000, 10000, 100000, 1000000, 10000000, 100000000, 1000000000, 10000000000, 100000000000, 1000000000000, 10000000000000, 100000000000000, 1000000000000000, 10000000000000000, 100000000000000000, 1000000000000000000, 10000000000000000000]

theorem g6 : Tryz.prog.globalNamed "internal/strconv.uint64pow10" = some 6 := by kernel_rfl
theorem laid6 : (Rows.laid_internal_strconv_uint64pow10 : DataW Unit) = Lib.tabData .u64 pows := by kernel_rfl

theorem pow_of_laid {W : World} (h : laidMetH Tryz.prog kl W) : ∀ i : Nat, W.cell? ⟨6, i, none⟩ = (pows.map fun z => Value.int .u64 z)[i]? := by
  obtain ⟨h1, _⟩ := laidMetH_iff.1 h
  have hmem : ("internal/strconv.uint64pow10", Rows.laid_internal_strconv_uint64pow10) ∈ kl.filter fun x => x.2.handleName?.isNone := by
    refine List.mem_filter.2 ⟨?_, by kernel_rfl⟩
    exact List.mem_cons_of_mem _ (List.mem_cons_of_mem _ (List.mem_cons_self ..))
  obtain ⟨g, t, cs, fuel, p, hg, hty, hvar, hd⟩ := Go.Lib.laidMet.reads h1 hmem
  obtain rfl := Option.some.inj (g6.symm.trans hg)
  obtain rfl := Option.some.inj ((show (Tryz.prog.globals[6]?).map (·.type) = some 452 by kernel_rfl).symm.trans hty)
  rw [laid6] at hd
  have hcs := Lib.cells_of_tab (n := 20) (e := 48) (show Tryz.prog.underlying 452 = some (.array 20 48) by kernel_rfl) (show Tryz.prog.underlying 48 = some (.int .u64) by kernel_rfl) (by kernel_rfl) (by kernel_rfl) hd
  intro i
  have := World.var?_cell hg hvar i
  rw [this, ← Array.getElem?_toList, hcs]

/-- What is frozen at the start: the two variables that are read. -/
def fz0 (b : Nat) : Prop := b = 0 ∨ b = 6
theorem globs : globT.list = [(0, [.raw hcell]), (6, pows.map fun z => AV.int .u64 z)] := by kernel_rfl

theorem glob_ok {W : World} (h : laidMetH Tryz.prog kl W) (c : Cs) (kc : KC) (fz : Nat → Prop) (hf : ∀ b, fz0 b → fz b) : GlobOk (envC c) ⟨fun _ => none, fz, kc⟩ W := by
  have h0 : VRC ⟨fun _ => none, fz, kc⟩ W 0 [.raw hcell] 0 := by
    simp only [VRC, VR, and_true]
    exact ⟨_, handle_of_laid h, rfl⟩
  have h6 : VRC ⟨fun _ => none, fz, kc⟩ W 6 (pows.map fun z => AV.int .u64 z) 0 := by
    refine VRC.of_get fun i x hx => ?_
    rw [List.getElem?_map, Option.map_eq_some_iff] at hx
    obtain ⟨z, hz, rfl⟩ := hx
    refine ⟨.int .u64 z, ?_, by simp only [VR]⟩
    rw [Nat.zero_add, pow_of_laid h i, List.getElem?_map, hz]
    rfl
  intro g cells hc
  have hm : (g, cells) ∈ globT.list := T.list_mem (t := globT) (k := deepF) hc
  have hm' : (g, cells) = (6, pows.map fun z => AV.int .u64 z) ∨ (g, cells) = (0, [.raw hcell]) := by
    rw [globs] at hm
    simp only [List.mem_cons, List.not_mem_nil, or_false] at hm
    exact hm.symm
  rcases hm' with e | e <;> cases e
  · exact ⟨hf _ (.inr rfl), h6⟩
  · exact ⟨hf _ (.inl rfl), h0⟩

theorem fz0_lt {W : World} (h : laidMetH Tryz.prog kl W) : ∀ b, fz0 b → b < W.heap.size := by
  have key : ∀ (b : Nat) v, W.cell? ⟨b, 0, none⟩ = some v → b < W.heap.size := fun b v hv => by
    rcases Nat.lt_or_ge b W.heap.size with h | h
    · exact h
    · simp [World.cell?, Array.getElem?_eq_none h] at hv
  rintro b (rfl | rfl)
  · exact key _ _ (handle_of_laid h)
  · have := pow_of_laid h 0
    exact key _ _ this

/-- A world in which the variables hold what the row says. -/
noncomputable def laid0 (os : Os) : World :=
  let w := World.holding Tryz.prog os ⟨#[], #[], []⟩
  { w with heap := w.heap.modify 0 fun
      | .cells _ t fr => .cells #[hcell] t fr
      | o => o }
abbrev kd : List (String × DataW Unit) := kl.filter fun x => x.2.handleName?.isNone
abbrev kn : List String := ["math/bits.deBruijn32tab", "math/bits.deBruijn64tab", "internal/strconv.uint64pow10", "unicode/utf8.acceptRanges", "strconv.ErrRange", "strconv.ErrSyntax", "unicode/utf8.first"]
noncomputable def laidW (os : Os) : World := (laid0 os).layVars Tryz.prog (kd.filter fun x => kn.contains x.1)

theorem kd_all : (kd.filter fun x => !kn.contains x.1) = [] := by kernel_rfl
theorem laidW_met (os : Os) (args : Array Value) : laidMetH Tryz.prog kl ((laidW os).forCall (fun _ _ => 0) ⟨#[], args, []⟩).memory := by
  refine laidMetH_of_parts ?_ (by kernel_rfl)
  have h : laidMet Tryz.prog kd (laidW os) := laidMet_layVars (w0 := laid0 os) kn [] rfl (by kernel_rfl) (by kernel_rfl) (by rw [kd_all]; exact LaidIn.none)
  exact h.of_heap (by simp [World.memory, World.forCall, Input.heap])
end Go.Ab.Dz
end
