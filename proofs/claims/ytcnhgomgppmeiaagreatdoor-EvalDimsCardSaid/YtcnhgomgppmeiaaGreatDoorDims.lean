/-
  metewandlaw15.EvalDims over the tables returns true, whatever is drawn.
-/
import Derived.Test.YtcnhgomgppmeiaaGreatDoorAll
import Derived.Test.YtcnhgomgppmeiaaGreatDoorCs
import Derived.Test.YtcnhgomgppmeiaaGreatDoorPair1
import Derived.Test.YtcnhgomgppmeiaaGreatDoorPair2
import Derived.Test.YtcnhgomgppmeiaaGreatDoorPair3
import Derived.Test.YtcnhgomgppmeiaaGreatDoorPair4
import Derived.Test.YtcnhgomgppmeiaaGreatDoorPiece1
import Derived.Test.YtcnhgomgppmeiaaGreatDoorPiece2
import Derived.Test.YtcnhgomgppmeiaaGreatDoorPiece3
import Derived.Test.YtcnhgomgppmeiaaGreatDoorKind0
import Derived.Test.YtcnhgomgppmeiaaGreatDoorKind1
import Derived.Test.YtcnhgomgppmeiaaGreatDoorKind2
import Derived.Test.YtcnhgomgppmeiaaGreatDoorKind3
import Derived.Test.YtcnhgomgppmeiaaGreatDoorKind4

noncomputable section
namespace Go.Ab.Dz
open Go Go.Ab Go.Proofs Go.Ro
set_option maxRecDepth 1000000

theorem pr0 (c : Cs) : PrimOk Tryz.prog (withPrim (envC c) p0) := prim0_ok c
theorem pr1 (c : Cs) : PrimOk Tryz.prog (withPrim (envC c) p1) := memos_ok (env_ok c) (glob_pure c) (pr0 c) (m0 c)
theorem pr2 (c : Cs) : PrimOk Tryz.prog (withPrim (envC c) p2) := memos_ok (env_ok c) (glob_pure c) (pr1 c) (m1 c)
theorem pr3 (c : Cs) : PrimOk Tryz.prog (withPrim (envC c) p3) := memos_ok (env_ok c) (glob_pure c) (pr2 c) (m2 c)
theorem pr4 (c : Cs) : PrimOk Tryz.prog (withPrim (envC c) p4) := memos_ok (env_ok c) (glob_pure c) (pr3 c) (m3 c)
theorem pr5 (c : Cs) : PrimOk Tryz.prog (withPrim (envC c) p5) := memos_ok (env_ok c) (glob_pure c) (pr4 c) (m4 c)
theorem pr6 (c : Cs) : PrimOk Tryz.prog (withPrim (envC c) p6) := memos_ok (env_ok c) (glob_pure c) (pr5 c) (m5 c)
theorem pr7 (c : Cs) : PrimOk Tryz.prog (withPrim (envC c) p7) := memos_ok (env_ok c) (glob_pure c) (pr6 c) (m6 c)
theorem pr8 (c : Cs) : PrimOk Tryz.prog (withPrim (envC c) p8) := memos_ok (env_ok c) (glob_pure c) (pr7 c) (m7 c)
theorem pr9 (c : Cs) : PrimOk Tryz.prog (withPrim (envC c) p9) := memos_ok (env_ok c) (glob_pure c) (pr8 c) (m8 c)
theorem pr10 (c : Cs) : PrimOk Tryz.prog (withPrim (envC c) p10) := memos_ok (env_ok c) (glob_pure c) (pr9 c) (m9 c)
theorem pr11 (c : Cs) : PrimOk Tryz.prog (withPrim (envC c) p11) := memos_ok (env_ok c) (glob_pure c) (pr10 c) (m10 c)

theorem okIs_append : ∀ {l r : List (Fc × Bool)}, okIs l = true → okIs r = true → okIs (l ++ r) = true
  | [], r, _, h => h
  | q :: l, r, h1, h2 => by
    simp only [okIs, Bool.and_eq_true, List.cons_append] at h1 ⊢
    exact ⟨h1.1, okIs_append h1.2 h2⟩

theorem rats_len : rats.length = 67 := by kernel_rfl
theorem pairs_in (k : Nat) (h : pairsOk (5 * k) 5 = true) (i : Nat) (hi : i / 5 = k) (a b : Int × Int) (ha : rats[i]? = some a) (hb : b ∈ rats) : pairOk a b = true := by
  have hm : a ∈ (rats.drop (5 * k)).take 5 := by
    refine List.mem_of_getElem? (i := i % 5) ?_
    rw [List.getElem?_take, if_pos (Nat.mod_lt _ (by omega)), List.getElem?_drop, ← hi, Nat.div_add_mod, ha]
  exact List.all_eq_true.1 (List.all_eq_true.1 h a hm) b hb
theorem pairs_all (a b : Int × Int) (ha : a ∈ rats) (hb : b ∈ rats) : pairOk a b = true := by
  obtain ⟨i, hi⟩ := List.getElem?_of_mem ha
  have hl : i < 67 := by rw [← rats_len]; exact (List.getElem?_eq_some_iff.1 hi).1
  have hk : i / 5 < 14 := by omega
  generalize hk' : i / 5 = k at hk
  match k, hk with
  | 0, _ => exact pairs_in 0 pairs0 i hk' a b hi hb
  | 1, _ => exact pairs_in 1 pairs1 i hk' a b hi hb
  | 2, _ => exact pairs_in 2 pairs2 i hk' a b hi hb
  | 3, _ => exact pairs_in 3 pairs3 i hk' a b hi hb
  | 4, _ => exact pairs_in 4 pairs4 i hk' a b hi hb
  | 5, _ => exact pairs_in 5 pairs5 i hk' a b hi hb
  | 6, _ => exact pairs_in 6 pairs6 i hk' a b hi hb
  | 7, _ => exact pairs_in 7 pairs7 i hk' a b hi hb
  | 8, _ => exact pairs_in 8 pairs8 i hk' a b hi hb
  | 9, _ => exact pairs_in 9 pairs9 i hk' a b hi hb
  | 10, _ => exact pairs_in 10 pairs10 i hk' a b hi hb
  | 11, _ => exact pairs_in 11 pairs11 i hk' a b hi hb
  | 12, _ => exact pairs_in 12 pairs12 i hk' a b hi hb
  | 13, _ => exact pairs_in 13 pairs13 i hk' a b hi hb
  | k + 14, h => omega

theorem pqs_mem (p q : Int) (h1 : -9 ≤ p) (h2 : p ≤ 9) (h3 : 1 ≤ q) (h4 : q ≤ 5) : (p, q) ∈ pqs := by
  refine List.mem_flatMap.2 ⟨(p + 9).toNat, List.mem_range.2 (by omega), List.mem_map.2 ⟨(q - 1).toNat, List.mem_range.2 (by omega), ?_⟩⟩
  have e1 : Int.ofNat (p + 9).toNat - 9 = p := by
    show ((p + 9).toNat : Int) - 9 = p
    omega
  have e2 : Int.ofNat (q - 1).toNat + 1 = q := by
    show ((q - 1).toNat : Int) + 1 = q
    omega
  rw [e1, e2]
theorem low_mem (p q : Int) (h : (p, q) ∈ pqs) : (lowP p q, lowQ p q) ∈ rats := by
  have := List.all_eq_true.1 pqs_rats _ h
  simpa using this

theorem runs_all (c : Cs) (a b : Nat) (ha : a < 5) (hb : b < 5) (z : Bool) : dimsRun c a b z = true := by
  match a, ha with
  | 0, _ => match b, hb with
    | 0, _ => cases z; exact d_0_0_false c; exact d_0_0_true c
    | 1, _ => cases z; exact d_0_1_false c; exact d_0_1_true c
    | 2, _ => cases z; exact d_0_2_false c; exact d_0_2_true c
    | 3, _ => cases z; exact d_0_3_false c; exact d_0_3_true c
    | 4, _ => cases z; exact d_0_4_false c; exact d_0_4_true c
    | n + 5, h => omega
  | 1, _ => match b, hb with
    | 0, _ => cases z; exact d_1_0_false c; exact d_1_0_true c
    | 1, _ => cases z; exact d_1_1_false c; exact d_1_1_true c
    | 2, _ => cases z; exact d_1_2_false c; exact d_1_2_true c
    | 3, _ => cases z; exact d_1_3_false c; exact d_1_3_true c
    | 4, _ => cases z; exact d_1_4_false c; exact d_1_4_true c
    | n + 5, h => omega
  | 2, _ => match b, hb with
    | 0, _ => cases z; exact d_2_0_false c; exact d_2_0_true c
    | 1, _ => cases z; exact d_2_1_false c; exact d_2_1_true c
    | 2, _ => cases z; exact d_2_2_false c; exact d_2_2_true c
    | 3, _ => cases z; exact d_2_3_false c; exact d_2_3_true c
    | 4, _ => cases z; exact d_2_4_false c; exact d_2_4_true c
    | n + 5, h => omega
  | 3, _ => match b, hb with
    | 0, _ => cases z; exact d_3_0_false c; exact d_3_0_true c
    | 1, _ => cases z; exact d_3_1_false c; exact d_3_1_true c
    | 2, _ => cases z; exact d_3_2_false c; exact d_3_2_true c
    | 3, _ => cases z; exact d_3_3_false c; exact d_3_3_true c
    | 4, _ => cases z; exact d_3_4_false c; exact d_3_4_true c
    | n + 5, h => omega
  | 4, _ => match b, hb with
    | 0, _ => cases z; exact d_4_0_false c; exact d_4_0_true c
    | 1, _ => cases z; exact d_4_1_false c; exact d_4_1_true c
    | 2, _ => cases z; exact d_4_2_false c; exact d_4_2_true c
    | 3, _ => cases z; exact d_4_3_false c; exact d_4_3_true c
    | 4, _ => cases z; exact d_4_4_false c; exact d_4_4_true c
    | n + 5, h => omega
  | n + 5, h => omega

theorem numN0 (n1 d1 n2 d2 : Int) : numN n1 d1 n2 d2 0 = n1 := rfl
theorem numN1 (n1 d1 n2 d2 : Int) : numN n1 d1 n2 d2 1 = d1 := rfl
theorem numN2 (n1 d1 n2 d2 : Int) : numN n1 d1 n2 d2 2 = n2 := rfl
theorem numN3 (n1 d1 n2 d2 : Int) : numN n1 d1 n2 d2 3 = d2 := rfl
theorem item_at {l : List (Fc × Bool)} {p q n d p' q' n' d' : Int} (e : l = itemI p q n d) (h : okIs (itemI p' q' n' d') = true) (h1 : p = p') (h2 : q = q') (h3 : n = n') (h4 : d = d') : okIs l = true := by
  subst e h1 h2 h3 h4
  exact h

theorem dims_prims (xs : List Int) : ∃ c : Cs, (kcC c).sel 0 = numsOpq xs ∧ ∃ p, PrimOk Tryz.prog (withPrim (envC c) p) ∧ boolRun (withPrim (envC c) p) 1000000 3 [.sel 0] = true := by
  have r0 := drawN_range xs 0 4
  have r4 := drawN_range xs 4 4
  obtain ⟨a, ha⟩ : ∃ a : Nat, drawN xs 0 4 = (a : Int) := ⟨(drawN xs 0 4).toNat, by generalize drawN xs 0 4 = x at *; omega⟩
  obtain ⟨b, hb⟩ : ∃ b : Nat, drawN xs 4 4 = (b : Int) := ⟨(drawN xs 4 4).toNat, by generalize drawN xs 4 4 = x at *; omega⟩
  have ha5 : a < 5 := by rw [ha] at r0; omega
  have hb5 : b < 5 := by rw [hb] at r4; omega
  have m1 := pqs_mem (rvP xs 1) (rvQ xs 1) (rvP_in xs 1).1 (rvP_in xs 1).2 (rvQ_in xs 1).1 (rvQ_in xs 1).2
  have m2 := pqs_mem (rvP xs 5) (rvQ xs 5) (rvP_in xs 5).1 (rvP_in xs 5).2 (rvQ_in xs 5).1 (rvQ_in xs 5).2
  have v1 : vDims xs 1 = rvP xs 1 := by unfold vDims; rw [if_pos (by decide)]; exact rv0 xs 1
  have v3 : vDims xs 3 = rvQ xs 1 := by unfold vDims; rw [if_pos (by decide)]; exact rv2 xs 1
  have v5 : vDims xs 5 = rvP xs 5 := by unfold vDims; rw [if_neg (by decide)]; exact rv0 xs 5
  have v7 : vDims xs 7 = rvQ xs 5 := by unfold vDims; rw [if_neg (by decide)]; exact rv2 xs 5
  generalize hv : vDims xs = v at v1 v3 v5 v7
  generalize rvP xs 1 = P1 at *
  generalize rvQ xs 1 = Q1 at *
  generalize rvP xs 5 = P2 at *
  generalize rvQ xs 5 = Q2 at *
  have f1 := List.all_eq_true.1 items_ok _ m1
  have f2 := List.all_eq_true.1 items_ok _ m2
  have f3 := pairs_all _ _ (low_mem _ _ m1) (low_mem _ _ m2)
  unfold itemOk at f1 f2
  unfold pairOk okFacts at f3
  simp only at f1 f2 f3
  generalize lowP P1 Q1 = n1 at *
  generalize lowQ P1 Q1 = d1 at *
  generalize lowP P2 Q2 = n2 at *
  generalize lowQ P2 Q2 = d2 at *
  generalize hz : (n2 == 0) = z at f3
  have F : okFacts (sig v (numN n1 d1 n2 d2)) (tau (numN n1 d1 n2 d2)) (factsDims z) = true := by
    unfold okFacts factsDims
    rw [List.map_append, List.map_append]
    refine okIs_append ?_ (okIs_append ?_ ?_)
    · exact item_at (item0 v _) f1 v1 v3 (numN0 _ _ _ _) (numN1 _ _ _ _)
    · exact item_at (item1 v _) f2 v5 v7 (numN2 _ _ _ _) (numN3 _ _ _ _)
    · exact (congrArg okIs (pair_v v (fun _ => 0) _ z)).trans f3
  generalize hN : numN n1 d1 n2 d2 = N at F
  refine ⟨csOf xs (vDims xs) N, rfl, primR (scDims a b) (primL p11 (factsDims z)), ?_, ?_⟩
  · refine primR_ok (scDims_ok xs N ha hb) (primL_ok (pr11 _) ?_)
    rw [hv]
    exact facts_ok (chosen xs v N) (tabs_facts _) F
  · exact runs_all _ a b ha5 hb5 z
end Go.Ab.Dz
end
