/-
  metewandlaw15.EvalElements over the tables returns true, whatever is drawn.
-/
import Derived.Test.YtcnhgomgppmeiaaGreatDoorEAll
import Derived.Test.YtcnhgomgppmeiaaGreatDoorECs
import Derived.Test.YtcnhgomgppmeiaaGreatDoorEPair1
import Derived.Test.YtcnhgomgppmeiaaGreatDoorEPair2
import Derived.Test.YtcnhgomgppmeiaaGreatDoorEPair3
import Derived.Test.YtcnhgomgppmeiaaGreatDoorEPair4
import Derived.Test.YtcnhgomgppmeiaaGreatDoorEPiece1
import Derived.Test.YtcnhgomgppmeiaaGreatDoorEPiece2
import Derived.Test.YtcnhgomgppmeiaaGreatDoorEPiece3
import Derived.Test.YtcnhgomgppmeiaaGreatDoorEKind0
import Derived.Test.YtcnhgomgppmeiaaGreatDoorEKind1
import Derived.Test.YtcnhgomgppmeiaaGreatDoorEKind2
import Derived.Test.YtcnhgomgppmeiaaGreatDoorEKind3

noncomputable section
namespace Go.Ab.Dz
open Go Go.Ab Go.Proofs Go.Ro
set_option maxRecDepth 1000000

theorem pr0 (c : Cs) : PrimOk Tryz.prog (withPrim (envC c) p0) := prim0_ok c
theorem pr1 (c : Cs) : PrimOk Tryz.prog (withPrim (envC c) p1) := memos_ok (env_ok c) (glob_pure c) (pr0 c) (m0 c)
theorem pr2 (c : Cs) : PrimOk Tryz.prog (withPrim (envC c) p2) := memos_ok (env_ok c) (glob_pure c) (pr1 c) (m1 c)
theorem pr3 (c : Cs) : PrimOk Tryz.prog (withPrim (envC c) p3) := memos_ok (env_ok c) (glob_pure c) (pr2 c) (m2 c)
theorem pr4 (c : Cs) : PrimOk Tryz.prog (withPrim (envC c) p4) := memos_ok (env_ok c) (glob_pure c) (pr3 c) (m3 c)
theorem pr5 (c : Cs) : PrimOk Tryz.prog (withPrim (envC c) p5) := memos_ok (env_ok c) (glob_pure c) (pr4 c) (m4 c)
theorem pr6 (c : Cs) : PrimOk Tryz.prog (withPrim (envC c) p6) := memos_ok (env_ok c) (glob_pure c) (pr5 c) (m5 c)
theorem pr7 (c : Cs) : PrimOk Tryz.prog (withPrim (envC c) p7) := memos_ok (env_ok c) (glob_pure c) (pr6 c) (m6 c)
theorem pr8 (c : Cs) : PrimOk Tryz.prog (withPrim (envC c) p8) := memos_ok (env_ok c) (glob_pure c) (pr7 c) (m7 c)
theorem pr9 (c : Cs) : PrimOk Tryz.prog (withPrim (envC c) p9) := memos_ok (env_ok c) (glob_pure c) (pr8 c) (m8 c)
theorem pr10 (c : Cs) : PrimOk Tryz.prog (withPrim (envC c) p10) := memos_ok (env_ok c) (glob_pure c) (pr9 c) (m9 c)

theorem okIs_append : ∀ {l r : List (Fc × Bool)}, okIs l = true → okIs r = true → okIs (l ++ r) = true
  | [], r, _, h => h
  | q :: l, r, h1, h2 => by
    simp only [okIs, Bool.and_eq_true, List.cons_append] at h1 ⊢
    exact ⟨h1.1, okIs_append h1.2 h2⟩
theorem okFacts_append {σ : Nat → AV} {τ : Nat → List Nat} {l r : List Fc} (h1 : okFacts σ τ l = true) (h2 : okFacts σ τ r = true) : okFacts σ τ (l ++ r) = true := by
  unfold okFacts at *
  rw [List.map_append]
  exact okIs_append h1 h2

theorem rats_len : rats.length = 67 := by kernel_rfl
theorem slots_in (op k : Nat) (h : slotsOk op (10 * k) 10 = true) (i : Nat) (hi : i / 10 = k) (a b : Int × Int) (ha : rats[i]? = some a) (hb : b ∈ rats) : slotOk op a b = true := by
  have hm : a ∈ (rats.drop (10 * k)).take 10 := by
    refine List.mem_of_getElem? (i := i % 10) ?_
    rw [List.getElem?_take, if_pos (Nat.mod_lt _ (by omega)), List.getElem?_drop, ← hi, Nat.div_add_mod, ha]
  exact List.all_eq_true.1 (List.all_eq_true.1 h a hm) b hb
theorem slots_all (op : Nat) (ho : op < 4) (a b : Int × Int) (ha : a ∈ rats) (hb : b ∈ rats) : slotOk op a b = true := by
  obtain ⟨i, hi⟩ := List.getElem?_of_mem ha
  have hl : i < 67 := by rw [← rats_len]; exact (List.getElem?_eq_some_iff.1 hi).1
  have hk : i / 10 < 7 := by omega
  generalize hk' : i / 10 = k at hk
  match op, k, ho, hk with
  | 0, 0, _, _ => exact slots_in 0 0 slots0_0 i hk' a b hi hb
  | 0, 1, _, _ => exact slots_in 0 1 slots0_1 i hk' a b hi hb
  | 0, 2, _, _ => exact slots_in 0 2 slots0_2 i hk' a b hi hb
  | 0, 3, _, _ => exact slots_in 0 3 slots0_3 i hk' a b hi hb
  | 0, 4, _, _ => exact slots_in 0 4 slots0_4 i hk' a b hi hb
  | 0, 5, _, _ => exact slots_in 0 5 slots0_5 i hk' a b hi hb
  | 0, 6, _, _ => exact slots_in 0 6 slots0_6 i hk' a b hi hb
  | 1, 0, _, _ => exact slots_in 1 0 slots1_0 i hk' a b hi hb
  | 1, 1, _, _ => exact slots_in 1 1 slots1_1 i hk' a b hi hb
  | 1, 2, _, _ => exact slots_in 1 2 slots1_2 i hk' a b hi hb
  | 1, 3, _, _ => exact slots_in 1 3 slots1_3 i hk' a b hi hb
  | 1, 4, _, _ => exact slots_in 1 4 slots1_4 i hk' a b hi hb
  | 1, 5, _, _ => exact slots_in 1 5 slots1_5 i hk' a b hi hb
  | 1, 6, _, _ => exact slots_in 1 6 slots1_6 i hk' a b hi hb
  | 2, 0, _, _ => exact slots_in 2 0 slots2_0 i hk' a b hi hb
  | 2, 1, _, _ => exact slots_in 2 1 slots2_1 i hk' a b hi hb
  | 2, 2, _, _ => exact slots_in 2 2 slots2_2 i hk' a b hi hb
  | 2, 3, _, _ => exact slots_in 2 3 slots2_3 i hk' a b hi hb
  | 2, 4, _, _ => exact slots_in 2 4 slots2_4 i hk' a b hi hb
  | 2, 5, _, _ => exact slots_in 2 5 slots2_5 i hk' a b hi hb
  | 2, 6, _, _ => exact slots_in 2 6 slots2_6 i hk' a b hi hb
  | 3, 0, _, _ => exact slots_in 3 0 slots3_0 i hk' a b hi hb
  | 3, 1, _, _ => exact slots_in 3 1 slots3_1 i hk' a b hi hb
  | 3, 2, _, _ => exact slots_in 3 2 slots3_2 i hk' a b hi hb
  | 3, 3, _, _ => exact slots_in 3 3 slots3_3 i hk' a b hi hb
  | 3, 4, _, _ => exact slots_in 3 4 slots3_4 i hk' a b hi hb
  | 3, 5, _, _ => exact slots_in 3 5 slots3_5 i hk' a b hi hb
  | 3, 6, _, _ => exact slots_in 3 6 slots3_6 i hk' a b hi hb
  | n + 4, _, h, _ => omega
  | _, n + 7, _, h => omega

theorem pqs_mem (p q : Int) (h1 : -9 ≤ p) (h2 : p ≤ 9) (h3 : 1 ≤ q) (h4 : q ≤ 5) : (p, q) ∈ pqs := by
  refine List.mem_flatMap.2 ⟨(p + 9).toNat, List.mem_range.2 (by omega), List.mem_map.2 ⟨(q - 1).toNat, List.mem_range.2 (by omega), ?_⟩⟩
  have e1 : Int.ofNat (p + 9).toNat - 9 = p := by
    show ((p + 9).toNat : Int) - 9 = p
    omega
  have e2 : Int.ofNat (q - 1).toNat + 1 = q := by
    show ((q - 1).toNat : Int) + 1 = q
    omega
  rw [e1, e2]
theorem low_mem (p q : Int) (h : (p, q) ∈ pqs) : (lowP p q, lowQ p q) ∈ rats := by
  have := List.all_eq_true.1 pqs_rats _ h
  simpa using this

theorem runs_one (c : Cs) (o k : Nat) (ho : o < 4) (hk : k < 2) (z : Bool) : elRun c o k 0 (oneF o z) = true := by
  match o, k, ho, hk with
  | 0, 0, _, _ =>
    have e : oneF 0 z = oneF 0 false := rfl
    rw [e]; exact e_0_0_one_false c
  | 0, 1, _, _ =>
    have e : oneF 0 z = oneF 0 false := rfl
    rw [e]; exact e_0_1_one_false c
  | 1, 0, _, _ =>
    have e : oneF 1 z = oneF 1 false := rfl
    rw [e]; exact e_1_0_one_false c
  | 1, 1, _, _ =>
    have e : oneF 1 z = oneF 1 false := rfl
    rw [e]; exact e_1_1_one_false c
  | 2, 0, _, _ =>
    have e : oneF 2 z = oneF 2 false := rfl
    rw [e]; exact e_2_0_one_false c
  | 2, 1, _, _ =>
    have e : oneF 2 z = oneF 2 false := rfl
    rw [e]; exact e_2_1_one_false c
  | 3, 0, _, _ => cases z; exact e_3_0_one_false c; exact e_3_0_one_true c
  | 3, 1, _, _ => cases z; exact e_3_1_one_false c; exact e_3_1_one_true c
  | n + 4, _, h, _ => omega
  | _, n + 2, _, h => omega

theorem runs_each (c : Cs) (o k : Nat) (ho : o < 4) (hk : k < 2) (z0 z1 z2 : Bool) : elRun c o k 1 (eachF o z0 z1 z2) = true := by
  match o, k, ho, hk with
  | 0, 0, _, _ =>
    have e : eachF 0 z0 z1 z2 = eachF 0 false false false := rfl
    rw [e]; exact e_0_0_each c
  | 0, 1, _, _ =>
    have e : eachF 0 z0 z1 z2 = eachF 0 false false false := rfl
    rw [e]; exact e_0_1_each c
  | 1, 0, _, _ =>
    have e : eachF 1 z0 z1 z2 = eachF 1 false false false := rfl
    rw [e]; exact e_1_0_each c
  | 1, 1, _, _ =>
    have e : eachF 1 z0 z1 z2 = eachF 1 false false false := rfl
    rw [e]; exact e_1_1_each c
  | 2, 0, _, _ =>
    have e : eachF 2 z0 z1 z2 = eachF 2 false false false := rfl
    rw [e]; exact e_2_0_each c
  | 2, 1, _, _ =>
    have e : eachF 2 z0 z1 z2 = eachF 2 false false false := rfl
    rw [e]; exact e_2_1_each c
  | 3, 0, _, _ =>
    cases z0 <;> cases z1 <;> cases z2
    · exact e_3_0_each_false_false_false c
    · exact e_3_0_each_false_false_true c
    · exact e_3_0_each_false_true_false c
    · exact e_3_0_each_false_true_true c
    · exact e_3_0_each_true_false_false c
    · exact e_3_0_each_true_false_true c
    · exact e_3_0_each_true_true_false c
    · exact e_3_0_each_true_true_true c
  | 3, 1, _, _ =>
    cases z0 <;> cases z1 <;> cases z2
    · exact e_3_1_each_false_false_false c
    · exact e_3_1_each_false_false_true c
    · exact e_3_1_each_false_true_false c
    · exact e_3_1_each_false_true_true c
    · exact e_3_1_each_true_false_false c
    · exact e_3_1_each_true_false_true c
    · exact e_3_1_each_true_true_false c
    · exact e_3_1_each_true_true_true c
  | n + 4, _, h, _ => omega
  | _, n + 2, _, h => omega

theorem item_at {l : List (Fc × Bool)} {p q n d p' q' n' d' : Int} (e : l = itemI p q n d) (h : okIs (itemI p' q' n' d') = true) (h1 : p = p') (h2 : q = q') (h3 : n = n') (h4 : d = d') : okIs l = true := by
  subst e h1 h2 h3 h4
  exact h

/-- Six items that are drawn, and the numbers that they make. -/
structure Items (v it : Nat → Int) : Prop where
  pq : ∀ j, j < 6 → (v (2 + 3 * j), v (4 + 3 * j)) ∈ pqs
  num : ∀ j, j < 6 → it (2 * j) = lowP (v (2 + 3 * j)) (v (4 + 3 * j))
  den : ∀ j, j < 6 → it (2 * j + 1) = lowQ (v (2 + 3 * j)) (v (4 + 3 * j))
theorem Items.mem {v it : Nat → Int} (h : Items v it) (j : Nat) (hj : j < 6) : (it (2 * j), it (2 * j + 1)) ∈ rats := by
  rw [h.num j hj, h.den j hj]
  exact low_mem _ _ (h.pq j hj)

theorem item_ok {v it : Nat → Int} (h : Items v it) (y : Nat → Nat) (j : Nat) (hj : j < 6) : okFacts (sig v (numE it y)) (tau (numE it y)) (itemF j (2 + 3 * j)) = true := by
  have f := List.all_eq_true.1 items_ok _ (h.pq j hj)
  unfold itemOk at f
  exact item_at (itemE j hj v it y) f rfl rfl (h.num j hj) (h.den j hj)
theorem items_all {v it : Nat → Int} (h : Items v it) (y : Nat → Nat) : okFacts (sig v (numE it y)) (tau (numE it y)) itemsF = true :=
  okFacts_append (item_ok h y 0 (by omega)) (okFacts_append (item_ok h y 1 (by omega)) (okFacts_append (item_ok h y 2 (by omega)) (okFacts_append (item_ok h y 3 (by omega)) (okFacts_append (item_ok h y 4 (by omega)) (item_ok h y 5 (by omega))))))

theorem slot_at {l : List (Fc × Bool)} {op : Nat} {n1 d1 n2 d2 : Int} (e : l = slotI op n1 d1 n2 d2) (h : slotOk op (n1, d1) (n2, d2) = true) (hz : (Nat.beq op 3 && n2 == 0) = false) : okIs l = true := by
  subst e
  unfold slotOk at h
  rw [hz, Bool.false_or] at h
  exact h
theorem zero_at {l : List (Fc × Bool)} {n d : Int} {z : Bool} (e : l = zeroI n d z) (h : okIs (zeroI n d (n == 0)) = true) (hz : (n == 0) = z) : okIs l = true := by
  subst e hz
  exact h

theorem opF_ok {v it : Nat → Int} (h : Items v it) (y : Nat → Nat) {o s yy : Nat} {z : Bool} (ho : o < 4) (hs : s < 3) (hy : yy < 6) (hz : (it (2 * yy) == 0) = z)
    (heq : (slotE o s yy s).map (instF (sig v (numE it y)) (tau (numE it y))) = slotI o (it (2 * s)) (it (2 * s + 1)) (it (2 * yy)) (it (2 * yy + 1))) : okFacts (sig v (numE it y)) (tau (numE it y)) (opF o s yy z) = true := by
  have sl := slots_all o ho _ _ (h.mem s (by omega)) (h.mem yy hy)
  have zr := List.all_eq_true.1 zeros_ok _ (h.mem yy hy)
  unfold opF
  cases h3 : Nat.beq o 3 with
  | false =>
    simp only [cond_false]
    exact slot_at heq sl (by rw [h3]; rfl)
  | true =>
    simp only [cond_true]
    refine okFacts_append (zero_at (zeroE_eq yy hy z v it y) zr hz) ?_
    cases z with
    | true => rfl
    | false =>
      simp only [cond_false]
      exact slot_at heq sl (by rw [hz, Bool.and_false])

theorem one_ok {v it : Nat → Int} (h : Items v it) {o : Nat} (ho : o < 4) {z : Bool} (hz : (it 6 == 0) = z) : okFacts (sig v (numE it yOne)) (tau (numE it yOne)) (itemsF ++ oneF o z) = true :=
  okFacts_append (items_all h yOne) (okFacts_append (opF_ok h yOne ho (by omega) (by omega) hz (slot_one o 0 ho (by omega) v it))
    (okFacts_append (opF_ok h yOne ho (by omega) (by omega) hz (slot_one o 1 ho (by omega) v it)) (opF_ok h yOne ho (by omega) (by omega) hz (slot_one o 2 ho (by omega) v it))))
theorem each_ok {v it : Nat → Int} (h : Items v it) {o : Nat} (ho : o < 4) {z0 z1 z2 : Bool} (h0 : (it 6 == 0) = z0) (h1 : (it 8 == 0) = z1) (h2 : (it 10 == 0) = z2) : okFacts (sig v (numE it yEach)) (tau (numE it yEach)) (itemsF ++ eachF o z0 z1 z2) = true :=
  okFacts_append (items_all h yEach) (okFacts_append (opF_ok h yEach ho (by omega) (by omega) h0 (slot_each o 0 ho (by omega) v it))
    (okFacts_append (opF_ok h yEach ho (by omega) (by omega) h1 (slot_each o 1 ho (by omega) v it)) (opF_ok h yEach ho (by omega) (by omega) h2 (slot_each o 2 ho (by omega) v it))))

def itOf (v : Nat → Int) (i : Nat) : Int := if i % 2 = 0 then lowP (v (2 + 3 * (i / 2))) (v (4 + 3 * (i / 2))) else lowQ (v (2 + 3 * (i / 2))) (v (4 + 3 * (i / 2)))
theorem items_of (v : Nat → Int) (h : ∀ j, j < 6 → (v (2 + 3 * j), v (4 + 3 * j)) ∈ pqs) : Items v (itOf v) where
  pq := h
  num j hj := by
    unfold itOf
    have e1 : 2 * j % 2 = 0 := by omega
    have e2 : 2 * j / 2 = j := by omega
    rw [if_pos e1, e2]
  den j hj := by
    unfold itOf
    have e1 : ¬ (2 * j + 1) % 2 = 0 := by omega
    have e2 : (2 * j + 1) / 2 = j := by omega
    rw [if_neg e1, e2]
theorem drawn_pq (xs : List Int) (j : Nat) : (vEl xs (2 + 3 * j), vEl xs (4 + 3 * j)) ∈ pqs := by
  have e0 := vEl_at xs j 0 (by omega)
  have e2 := vEl_at xs j 2 (by omega)
  rw [rv0] at e0
  rw [rv2] at e2
  rw [show 2 + 3 * j + 0 = 2 + 3 * j from rfl] at e0
  rw [show 2 + 3 * j + 2 = 4 + 3 * j by omega] at e2
  rw [e0, e2]
  have h1 := rvP_in xs (2 + 3 * j)
  have h2 := rvQ_in xs (2 + 3 * j)
  exact pqs_mem _ _ h1.1 h1.2 h2.1 h2.2

theorem el_prims (xs : List Int) : ∃ c : Cs, (kcC c).sel 0 = numsOpq xs ∧ ∃ p, PrimOk Tryz.prog (withPrim (envC c) p) ∧ boolRun (withPrim (envC c) p) 1000000 4 [.sel 0] = true := by
  have r0 := drawN_range xs 0 3
  have r1 := drawN_range xs 1 1
  have r20 := drawN_range xs 20 1
  obtain ⟨o, ho⟩ : ∃ o : Nat, drawN xs 0 3 = (o : Int) := ⟨(drawN xs 0 3).toNat, by generalize drawN xs 0 3 = x at *; omega⟩
  obtain ⟨k, hk⟩ : ∃ k : Nat, drawN xs 1 1 = (k : Int) := ⟨(drawN xs 1 1).toNat, by generalize drawN xs 1 1 = x at *; omega⟩
  obtain ⟨s, hs⟩ : ∃ s : Nat, drawN xs 20 1 = (s : Int) := ⟨(drawN xs 20 1).toNat, by generalize drawN xs 20 1 = x at *; omega⟩
  have ho4 : o < 4 := by rw [ho] at r0; omega
  have hk2 : k < 2 := by rw [hk] at r1; omega
  have hs2 : s < 2 := by rw [hs] at r20; omega
  have hi := items_of (vEl xs) (fun j _ => drawn_pq xs j)
  have hsc := fun N => scEl_ok xs N ho hk hk2 hs
  generalize hv : vEl xs = v at hi hsc
  generalize itOf v = it at hi
  match s, hs2, hsc with
  | 0, _, hsc =>
    have F := one_ok hi ho4 (z := it 6 == 0) rfl
    refine ⟨csOf xs v (numE it yOne), rfl, primR (scEl o k 0) (primL p10 (itemsF ++ oneF o (it 6 == 0))), ?_, runs_one _ o k ho4 hk2 _⟩
    exact primR_ok (hsc _) (primL_ok (pr10 _) (facts_ok (chosen xs v _) (tabs_facts _) F))
  | 1, _, hsc =>
    have F := each_ok hi ho4 (z0 := it 6 == 0) (z1 := it 8 == 0) (z2 := it 10 == 0) rfl rfl rfl
    refine ⟨csOf xs v (numE it yEach), rfl, primR (scEl o k 1) (primL p10 (itemsF ++ eachF o (it 6 == 0) (it 8 == 0) (it 10 == 0))), ?_, runs_each _ o k ho4 hk2 _ _ _⟩
    exact primR_ok (hsc _) (primL_ok (pr10 _) (facts_ok (chosen xs v _) (tabs_facts _) F))
  | n + 2, h, _ => omega
end Go.Ab.Dz
end
