/-
  An evaluator over the model's memory, and its soundness (part 2): what it computes of a call is what the call does in the model, whatever the order of evaluation is; no condition.
-/
import Derived.Test.YtcnhgomgppmeiaaGreatDoorRun1
import Derived.Laws.BytesString
import Derived.Lib.UnsafeStr
import Derived.Orders

noncomputable section
namespace Go.Ab
open Go

section
variable {P : Program} {E : Env} {k : K} {h h' : AH} {w : World} {v' : AV} {ev : Operand → AV} {ρ : Operand → Value}

/-- What a builtin that hands back a value does. -/
def ValOut (k : K) (h : AH) (w : World) (v' : AV) (h' : AH) (r : Result Value) : Prop :=
  ∃ v w' k', r = .ok v w' ∧ VR k' w' v' v ∧ HR k' h' w' ∧ Ev k k' h h' w w'

theorem ValOut.pure (hr : HR k h w) {v : Value} (hv : VR k w v' v) : ValOut k h w v' h (.ok v w) := ⟨v, w, k, rfl, hv, hr, Ev.refl _ _ _⟩

theorem ValOut.op {s : Sem Value} (ho : ValOut k h w v' h' (s.run P w)) : OpOut k h w v' h' ((do Pure.pure (Next.value (← s)) : Sem Next).run P w) := by
  obtain ⟨v, w', k', h1, h2, h3, h4⟩ := ho
  exact .valG h1 h3 h4 h2

/-- append grows: a new row. -/
theorem grow_sound (hE : EnvOk P E) (hr : HR k h w) {el : TypeId} {ei : TI} (hel : E.ty el = some ei) {old new : List AV} {o : Nat} (ha : h.alloc (.cells el (old ++ new)) = some (o, h')) {vo vn : List Value}
    (ho : VRL k w old vo) (hn : VRL k w new vn) {len n nc : Nat} (hlo : old.length = len * ei.size) (hln : new.length = n * ei.size) (hnc : len + n ≤ nc) (d : Nat) :
    ∃ z : Value, (zeroValue el).run P { w with drawn := d } = .ok z { w with drawn := d } ∧
    ∃ (w' : World) (k' : K), (newRow el (vo.toArray ++ vn.toArray ++ Builtin.zeroCells z.cells (nc - (len + n)))).run P { w with drawn := d } = .ok ⟨w.heap.size, 0, none⟩ w' ∧
      VR k' w' (.sl o 0 (len + n) ei.size none) (.slice (some ⟨w.heap.size, 0, none⟩) (len + n) nc) ∧ HR k' h' w' ∧ Ev k k' h h' w w' := by
  obtain ⟨z, z1, z2, z3⟩ := run_zero hE hel { w with drawn := d }
  refine ⟨z, z1, ?_⟩
  have hlo' := ho.length
  have hln' := hn.length
  have hsz : (vo.toArray ++ vn.toArray ++ Builtin.zeroCells z.cells (nc - (len + n))).size = nc * ei.size := by
    simp only [Array.size_append, Builtin.zeroCells, Array.size_map, Array.size_range, z3, List.size_toArray, hlo', hln', hlo, hln]
    rw [← Nat.add_mul, ← Nat.add_mul]
    congr 1; omega
  have hmul : (len + n) * ei.size ≤ nc * ei.size := Nat.mul_le_mul_right _ hnc
  have hadd : (len + n) * ei.size = len * ei.size + n * ei.size := Nat.add_mul _ _ _
  obtain ⟨r1, r2, r3⟩ := hr.allocCells ha (vo.toArray ++ vn.toArray ++ Builtin.zeroCells z.cells (nc - (len + n))) d
    (by rw [hsz, List.length_append, hlo, hln]; omega)
    (fun i x hx => by
      have hap := ho.append hn
      obtain ⟨v, h1, h2⟩ := hap.get i x hx
      refine ⟨v, ?_, h2⟩
      have hlt := (List.getElem?_eq_some_iff.1 h1).1
      rw [Array.getElem?_append_left (by simpa using hlt)]
      have : (vo.toArray ++ vn.toArray) = (vo ++ vn).toArray := by simp
      rw [this]
      simpa using h1)
  refine ⟨_, _, by simp [newRow], ?_, r1, r2⟩
  simp only [VR]
  exact ⟨w.heap.size, 0, nc, _, el, (0, 0), K.with_self _ _ _, rfl, hnc, (fun n hn => by cases hn), r3, by rw [hsz]; omega⟩

theorem append_stay {sT xT ty el : TypeId} {sd : TypeDesc} {ei : TI} (hE : EnvOk P E) (hs : P.underlying sT = some (.slice el)) (hx : P.underlying xT = some sd) (hni : ∀ kd, sd ≠ .int kd) (hel : E.ty el = some ei)
    {base : Option Addr} {sLen sCap n : Nat} {x : Value} {vn : Array Value} (hlen : (Builtin.lenOf x).run P w = .ok n w) (hle : sLen + n ≤ sCap) (hnew : (Builtin.firstCells ei.size n x).run P w = .ok vn w) :
    (Builtin.append_ #[sT, xT] ty #[.slice base sLen sCap, x]).run P w = match base with
      | some a => ((storeCells (a.add (sLen * ei.size)) vn.toList).run P w).andThen fun _ w' => .ok (.slice base (sLen + n) sCap) w'
      | none => .ok (.slice none (sLen + n) sCap) w := by
  simp only [Builtin.append_, List.getElem?_toArray, List.getElem?_cons_zero, List.getElem?_cons_succ, Sem.run_bind, run_underlying hs, run_underlying hx, Result.andThen_ok, run_size hE hel, Sem.run_pure, hlen,
    Bool.false_eq_true, if_false, Bool.not_false, if_true]
  rw [if_pos hle]
  cases base <;> simp only [Sem.run_bind, hnew, Result.andThen_ok, Sem.run_pure]

theorem append_grow {sT xT ty el : TypeId} {sd : TypeDesc} {ei : TI} (hE : EnvOk P E) (hs : P.underlying sT = some (.slice el)) (hx : P.underlying xT = some sd) (hni : ∀ kd, sd ≠ .int kd) (hel : E.ty el = some ei)
    {base : Option Addr} {sLen sCap n : Nat} {x : Value} {vo vn : Array Value} (hlen : (Builtin.lenOf x).run P w = .ok n w) (hlt : sCap < sLen + n) (hb : ei.bytes ≤ 4096) (hb2 : sLen + n ≤ 33554432) :
    ∃ nc d, sLen + n ≤ nc ∧ ∀ z a w', (Builtin.firstCells ei.size sLen (.slice base sLen sCap)).run P { w with drawn := d } = .ok vo { w with drawn := d } → (Builtin.firstCells ei.size n x).run P { w with drawn := d } = .ok vn { w with drawn := d } →
      (zeroValue el).run P { w with drawn := d } = .ok z { w with drawn := d } → (newRow el (vo ++ vn ++ Builtin.zeroCells z.cells (nc - (sLen + n)))).run P { w with drawn := d } = .ok a w' →
      (Builtin.append_ #[sT, xT] ty #[.slice base sLen sCap, x]).run P w = .ok (.slice (some a) (sLen + n) nc) w' := by
  refine ⟨(sLen + n) + w.tape w.drawn (.appendCap (sLen + n) sCap el) % (2 ^ 63 - (sLen + n)), w.drawn + 1, by omega, fun z a w' h1 h2 h3 h4 => ?_⟩
  obtain ⟨inf, i1, i2, i3⟩ := run_bytes hE hel w
  obtain ⟨inf2, j1, j2, j3⟩ := run_bytes hE hel { w with drawn := w.drawn + 1 }
  have hc1 : ¬ (((sLen + n : Nat) : Int) > IntKind.i64.max ∧ (False ∨ inf.bytes = 0)) := by
    have : IntKind.i64.max = 9223372036854775807 := by decide
    rw [this]; omega
  have hc2 : ¬ (Builtin.nextslicecap (sLen + n) sCap * inf.bytes > 2 ^ 48) := by
    have h5 := nextcap_le hlt
    rw [i2]
    have : Builtin.nextslicecap (sLen + n) sCap * ei.bytes ≤ (2 * 33554432 + 192) * 4096 := Nat.mul_le_mul (by omega) hb
    omega
  simp only [Builtin.append_, List.getElem?_toArray, List.getElem?_cons_zero, List.getElem?_cons_succ, Sem.run_bind, run_underlying hs, run_underlying hx, Result.andThen_ok, run_size hE hel, Sem.run_pure, hlen,
    Bool.false_eq_true, if_false, Bool.not_false, if_true]
  rw [if_neg (by omega)]
  simp only [Sem.run_bind, i1, Result.andThen_ok]
  rw [if_neg hc1]
  simp only [Sem.run_bind, i1, Result.andThen_ok]
  rw [if_neg hc2]
  have hch : (choose (.appendCap (sLen + n) sCap el)).run P w = .ok ((sLen + n) + w.tape w.drawn (.appendCap (sLen + n) sCap el) % (2 ^ 63 - (sLen + n))) { w with drawn := w.drawn + 1 } := rfl
  simp only [Sem.run_bind, hch, Result.andThen_ok, j1, run_askRoom, h1, h2, h3, h4, Sem.run_pure]

theorem appendA_sound (hE : EnvOk P E) (hk : k.sz = ⟨P.cellsOf, E.sel, E.tok, E.str⟩) (hr : HR k h w) {sT xT ty el : TypeId} {sd : TypeDesc} {ei : TI} (hs : P.underlying sT = some (.slice el)) (hx : P.underlying xT = some sd) (hni : ∀ kd, sd ≠ .int kd) (hel : E.ty el = some ei)
    {s x : AV} {sv xv : Value} (hsv : VR k w s sv) (hxv : VR k w x xv) {n : Nat} {new : List AV} (hel2 : elemsOf h ei.size x = some (n, new)) (ho : appendA el ei h s n new = some (v', h')) :
    ValOut k h w v' h' ((Builtin.append_ #[sT, xT] ty #[sv, xv]).run P w) := by
  obtain ⟨l1, l2, l3⟩ := elemsOf_sound (P := P) hr hxv hel2
  obtain ⟨vn, l4, l5⟩ := l3 n (Nat.le_refl _)
  rw [← l2, List.take_length] at l5
  unfold appendA at ho
  simp only at ho
  cases hn0 : Nat.beq n 0 with
  | true =>
    obtain rfl := Nat.eq_of_beq_eq_true hn0
    simp only [hn0, cond_true] at ho
    have e0 : vn = [] := by
      have := l5.length
      rw [l2] at this
      simpa using this
    subst e0
    have run : ∀ {base : Option Addr} {len c : Nat}, sv = .slice base len c → len ≤ c → (Builtin.append_ #[sT, xT] ty #[sv, xv]).run P w = .ok sv w := by
      intro base len c hsl hle
      subst hsl
      rw [append_stay hE hs hx hni hel l1 (by omega) (l4 w.drawn)]
      cases base <;> simp [storeCells]
    have fin : v' = s → h' = h → ∀ {base : Option Addr} {len c : Nat}, sv = .slice base len c → len ≤ c → ValOut k h w v' h' ((Builtin.append_ #[sT, xT] ty #[sv, xv]).run P w) := by
      intro e1 e2 base len c e3 e4
      subst e1 e2
      rw [run e3 e4]
      exact .pure hr hsv
    cases s <;> simp only at ho <;> try (cases ho; done)
    all_goals
      simp only [Option.some.injEq, Prod.mk.injEq] at ho
      obtain ⟨e1, e2⟩ := ho
      have hsv' := hsv
      simp only [VR] at hsv
    case nils => exact fin e1.symm e2.symm hsv (Nat.le_refl _)
    case sl => obtain ⟨b, sh, c, arr, e, fr, _, h2, h3, _⟩ := hsv; exact fin e1.symm e2.symm h2 h3
    case psl => obtain ⟨b, sh, c, h2, h3, _⟩ := hsv; exact fin e1.symm e2.symm h2 h3
  | false =>
    simp only [hn0, cond_false] at ho
    have hn0 := Nat.ne_of_beq_eq_false hn0
    cases hb : (AV.allCell new && Nat.ble 1 ei.size && Nat.ble ei.bytes 4096 && Nat.ble n 16777216) with
    | false => simp only [hb, cond_false] at ho; cases ho
    | true =>
      simp only [hb, cond_true] at ho
      simp only [Bool.and_eq_true] at hb
      obtain ⟨⟨⟨hb1, hb2⟩, hb3⟩, hb4⟩ := hb
      have hb2 := Nat.le_of_ble_eq_true hb2
      have hb3 := Nat.le_of_ble_eq_true hb3
      have hb4 := Nat.le_of_ble_eq_true hb4
      -- a new row, out of the old elements and the new ones
      have grown : ∀ {len : Nat} {old : List AV} {base : Option Addr} {c : Nat} {h0 : AH}, HR k h0 w → Ev k k h h0 w w → sv = .slice base len c → c < len + n → old.length = len * ei.size →
          (∃ vo : List Value, VRL k w old vo ∧ ∀ d, (Builtin.firstCells ei.size len sv).run P { w with drawn := d } = .ok vo.toArray { w with drawn := d }) →
          (bif AV.allCell old && Nat.ble len 16777216 then match h0.alloc (.cells el (old ++ new)) with
            | some (o, h') => some (AV.sl o 0 (len + n) ei.size none, h')
            | none => none
          else none) = some (v', h') → ValOut k h w v' h' ((Builtin.append_ #[sT, xT] ty #[sv, xv]).run P w) := by
        intro len old base c h0 hr0 hev0 hsl hc hlo hvo hq
        obtain ⟨vo, v1, v2⟩ := hvo
        cases hbb : (AV.allCell old && Nat.ble len 16777216) with
        | false => simp only [hbb, cond_false] at hq; cases hq
        | true =>
          simp only [hbb, cond_true] at hq
          simp only [Bool.and_eq_true] at hbb
          have hbl := Nat.le_of_ble_eq_true hbb.2
          cases hal : h0.alloc (.cells el (old ++ new)) with
          | none => simp [hal] at hq
          | some p =>
            obtain ⟨o, h1⟩ := p
            simp only [hal, Option.some.injEq, Prod.mk.injEq] at hq
            obtain ⟨rfl, rfl⟩ := hq
            subst hsl
            obtain ⟨nc, d, hnc, hrun⟩ := append_grow (P := P) (vo := vo.toArray) (vn := vn.toArray) (ty := ty) (base := base) hE hs hx hni hel l1 hc hb3 (by omega)
            obtain ⟨z, z1, w', k', g1, g2, g3, g4⟩ := grow_sound (P := P) hE hr0 hel hal v1 l5 hlo l2 hnc d
            rw [hrun z _ w' (v2 d) (l4 d) z1 g1]
            exact ⟨_, w', k', rfl, g2, g3, hev0.trans g4⟩
      have vo_of : ∀ {len : Nat} {old : List AV}, elemsOf h ei.size s = some (len, old) → ∃ vo : List Value, VRL k w old vo ∧ ∀ d, (Builtin.firstCells ei.size len sv).run P { w with drawn := d } = .ok vo.toArray { w with drawn := d } := by
        intro len old hq
        obtain ⟨m1, m2, m3⟩ := elemsOf_sound (P := P) hr hsv hq
        obtain ⟨vo, m4, m5⟩ := m3 len (Nat.le_refl _)
        rw [← m2, List.take_length] at m5
        exact ⟨vo, m5, m4⟩
      cases s <;> (try simp only at ho) <;> (try (cases ho; done))
      case nils =>
        simp only [VR] at hsv
        exact grown hr (Ev.refl _ _ _) hsv (by omega) (by simp) (vo_of rfl) ho
      case psl cs len cap =>
        cases cap <;> simp only at ho <;> try (cases ho; done)
        rename_i c
        cases hc : Nat.blt c (len + n) with
        | false => simp only [hc, cond_false] at ho; cases ho
        | true =>
          simp only [hc, cond_true] at ho
          have hc : c < len + n := Nat.le_of_ble_eq_true hc
          cases hs2 : seg cs 0 (len * ei.size) with
          | none => simp [hs2] at ho
          | some old =>
            simp only [hs2] at ho
            have hsv' := hsv
            simp only [VR] at hsv
            obtain ⟨b, sh, c', h2, h3, h4, _⟩ := hsv
            have := h4 c rfl
            subst this
            exact grown hr (Ev.refl _ _ _) h2 hc (seg_get hs2).1 (vo_of (by simp [elemsOf, hs2])) ho
      case sl o off len s' cap =>
        cases hsz : Nat.beq s' ei.size with
        | false => simp only [hsz, cond_false] at ho; cases ho
        | true =>
          obtain rfl := Nat.eq_of_beq_eq_true hsz
          simp only [hsz, cond_true] at ho
          split at ho
          case h_2 => cases ho
          rename_i e cs hg
          have hsv' := hsv
          simp only [VR] at hsv
          obtain ⟨b, sh, c', arr, e2, fr, hρ, h2, h3, h4, h5, h6⟩ := hsv
          obtain ⟨b1, sh1, g1, arr1, fr1, g2, g3, g4, g5, g6⟩ := hr.obj o _ hg
          rw [hρ] at g1; cases g1
          rw [g2] at h5; cases h5
          cases cap with
          | some c =>
            have := h4 c rfl
            subst this
            try simp only at ho
            cases hc : Nat.blt c' (len + n) with
            | true =>
              simp only [hc, cond_true] at ho
              have hc : c' < len + n := Nat.le_of_ble_eq_true hc
              cases hs2 : seg cs off (len * ei.size) with
              | none => simp [hs2] at ho
              | some old =>
                simp only [hs2] at ho
                exact grown hr (Ev.refl _ _ _) h2 hc (seg_get hs2).1 (vo_of (by simp only [elemsOf, hsz, cond_true, hg, hs2, Option.map_some])) ho
            | false =>
              simp only [hc, cond_false] at ho
              have hc : ¬ c' < len + n := fun hlt => by
                have : Nat.blt c' (len + n) = true := Nat.ble_eq_true_of_le hlt
                rw [hc] at this; cases this
              cases hsp : splice cs (off + len * ei.size) new with
              | none => simp [hsp] at ho
              | some cs' =>
                simp only [hsp, Option.some.injEq, Prod.mk.injEq] at ho
                obtain ⟨rfl, rfl⟩ := ho
                subst h2
                have h1c : ∀ u ∈ vn, u.oneCell' = true := by
                  intro u hu
                  obtain ⟨i, hi⟩ := List.getElem?_of_mem hu
                  have hlt := (List.getElem?_eq_some_iff.1 hi).1
                  have hl5 := l5.length
                  obtain ⟨v, m1, m2⟩ := l5.get i (new[i]'(by omega)) (by rw [List.getElem?_eq_getElem])
                  rw [hi] at m1; cases m1
                  exact m2.oneCell (List.all_eq_true.1 hb1 _ (List.getElem_mem _))
                obtain ⟨r1, r2, r3⟩ := HR.setCells (P := P) hr hg hρ hsp l5 h1c
                rw [append_stay hE hs hx hni hel l1 (by omega) (l4 w.drawn)]
                simp only [add_off, Nat.add_assoc]
                rw [r1]
                refine ⟨_, _, k, rfl, ?_, r2, r3⟩
                have le := r3.le hr
                obtain ⟨arr', fr', q1, q2⟩ := le.shape _ _ _ _ g2
                simp only [VR]
                exact ⟨b, sh, c', arr', e, fr', hρ, rfl, by omega, (fun m hm => by cases hm; rfl), q1, by omega⟩
          | none =>
            try simp only at ho
            cases hcc : (Nat.beq e el && Nat.beq (off % ei.size) 0) with
            | false => simp only [hcc, cond_false] at ho; cases ho
            | true =>
              simp only [hcc, cond_true] at ho
              simp only [Bool.and_eq_true] at hcc
              obtain rfl := Nat.eq_of_beq_eq_true hcc.1
              have hmod := Nat.eq_of_beq_eq_true hcc.2
              cases hs2 : seg cs off (len * ei.size) with
              | none => simp [hs2] at ho
              | some old =>
                simp only [hs2] at ho
                by_cases hc : c' < len + n
                · obtain ⟨k1, k2⟩ := hr.kill o (AH.lt_of_get hg)
                  exact grown k1 k2 h2 hc (seg_get hs2).1 (vo_of (by simp only [elemsOf, hsz, cond_true, hg, hs2, Option.map_some])) ho
                · cases hbb : (AV.allCell old && Nat.ble len 16777216) with
                  | false => simp only [hbb, cond_false] at ho; cases ho
                  | true =>
                    simp only [hbb, cond_true] at ho
                    cases hal : (h.set o none).alloc (.cells e (old ++ new)) with
                    | none => simp [hal] at ho
                    | some p =>
                      obtain ⟨o', h1⟩ := p
                      simp only [hal, Option.some.injEq, Prod.mk.injEq] at ho
                      obtain ⟨rfl, rfl⟩ := ho
                      subst h2
                      obtain ⟨q1, q2⟩ := seg_get hs2
                      have hl5 := l5.length
                      have h1c : ∀ u ∈ vn, u.oneCell' = true := by
                        intro u hu
                        obtain ⟨i, hi⟩ := List.getElem?_of_mem hu
                        have hlt := (List.getElem?_eq_some_iff.1 hi).1
                        obtain ⟨v, m1, m2⟩ := l5.get i (new[i]'(by omega)) (by rw [List.getElem?_eq_getElem])
                        rw [hi] at m1; cases m1
                        exact m2.oneCell (List.all_eq_true.1 hb1 _ (List.getElem_mem _))
                      have hmul : (len + n) * ei.size ≤ c' * ei.size := Nat.mul_le_mul_right _ (by omega)
                      have hadd : (len + n) * ei.size = len * ei.size + n * ei.size := Nat.add_mul _ _ _
                      obtain ⟨c1, c2, c3, c4, c5, c6, _⟩ := setCells_heap b vn (sh + off + len * ei.size) w arr e _ g2
                      obtain ⟨r2, r3⟩ := hr.regrow (w' := w.setCells b (sh + off + len * ei.size) vn) (sh' := sh + off) hg hρ hal c4 c5 c6 c3 c2
                        (fun a3 e3 f3 hx3 => by rw [g2] at hx3; cases hx3; exact ⟨_, _, c1, setL_size _ _ _⟩)
                        (fun le => by
                          refine ⟨_, _, c1, by rw [setL_size, List.length_append, q1, l2]; omega, fun i x hxi => ?_, ?_, by rw [setL_size]; exact g6⟩
                          · rw [setL_get]
                            rw [List.getElem?_append] at hxi
                            by_cases hi : i < old.length
                            · rw [if_pos hi] at hxi
                              obtain ⟨v, m1, m2⟩ := g4 _ _ (q2 i x hxi)
                              refine ⟨v, ?_, VR.mono le _ _ m2⟩
                              rw [if_neg (by omega), Nat.add_assoc]
                              exact m1
                            · rw [if_neg hi] at hxi
                              obtain ⟨v, m1, m2⟩ := l5.get _ _ hxi
                              refine ⟨v, ?_, VR.mono le _ _ m2⟩
                              have hlt := (List.getElem?_eq_some_iff.1 hxi).1
                              rw [if_pos (by omega)]
                              rw [show sh + off + i - (sh + off + len * ei.size) = i - old.length by omega]
                              exact m1
                          · show (sh + off) % k.sz.sz e = 0
                            have hksz : k.sz.sz e = ei.size := by
                              obtain ⟨inf, z, i1, i2, _⟩ := (hE.ty e ei hel).info
                              rw [hk]; simp [Program.cellsOf, i1, i2]
                            rw [hksz] at g5 ⊢
                            rw [Nat.add_mod, g5, hmod]; simp)
                      rw [append_stay hE hs hx hni hel l1 (by omega) (l4 w.drawn)]
                      have hst := run_storeCells_cells (P := P) b (sh + off + len * ei.size) vn 0 w (fun j hj => by rw [cell_of_heap g2]; simp; omega) (fun j hj => not_frozen g2 g6 (by omega)) h1c
                      simp only [add_off]
                      rw [hst]
                      refine ⟨_, _, _, rfl, ?_, r2, r3⟩
                      simp only [VR]
                      refine ⟨b, sh + off, c', _, e, _, by simp [K.at], rfl, by omega, (fun m hm => by cases hm), c1, ?_⟩
                      rw [setL_size]; omega

end

end Go.Ab

namespace Go.Ab
open Go

section
variable {P : Program} {E : Env} {k : K} {h h' : AH} {w : World} {v' : AV} {ev : Operand → AV} {ρ : Operand → Value}


theorem allCell_one {xs : List AV} {vs : List Value} (hv : VRL k w xs vs) (hc : AV.allCell xs = true) : ∀ u ∈ vs, u.oneCell' = true := by
  intro u hu
  obtain ⟨i, hi⟩ := List.getElem?_of_mem hu
  have hlt := (List.getElem?_eq_some_iff.1 hi).1
  have hl := hv.length
  obtain ⟨v, m1, m2⟩ := hv.get i (xs[i]'(by omega)) (by rw [List.getElem?_eq_getElem])
  rw [hi] at m1; cases m1
  exact m2.oneCell (List.all_eq_true.1 hc _ (List.getElem_mem _))

theorem copy_sound (hE : EnvOk P E) (hr : HR k h w) {dT : TypeId} {at' : Array TypeId} (hat : at'[0]? = some dT) {ty el : TypeId} {ei : TI} (hd : P.underlying dT = some (.slice el)) (hel : E.ty el = some ei) {d x : AV} {dv xv : Value} (hdv : VR k w d dv) (hxv : VR k w x xv)
    {n : Nat} {new : List AV} (he : elemsOf h ei.size x = some (n, new))
    (ho : copyA ei h d n new = some (v', h')) : ValOut k h w v' h' ((Builtin.copy_ at' ty #[dv, xv]).run P w) := by
  obtain ⟨l1, l2, l3⟩ := elemsOf_sound (P := P) hr hxv he
  unfold copyA at ho
  cases d <;> (try simp only at ho) <;> (try (cases ho; done))
  case nils =>
    simp only [Option.some.injEq, Prod.mk.injEq] at ho
    obtain ⟨rfl, rfl⟩ := ho
    simp only [VR] at hdv
    subst hdv
    obtain ⟨vs, m1, m2⟩ := l3 0 (Nat.zero_le _)
    have hmin : Nat.min n 0 = 0 := Nat.min_zero n
    have e : (Builtin.copy_ at' ty #[.slice none 0 0, xv]).run P w = .ok (goInt 0) w := by
      simp only [Builtin.copy_, hat, List.getElem?_toArray, List.getElem?_cons_zero, List.getElem?_cons_succ, Sem.run_bind, run_underlying hd, Result.andThen_ok, l1, hmin, run_size hE hel, m1 w.drawn, Sem.run_pure]
      rfl
    rw [e]
    exact .pure hr (by simp only [VR]; rfl)
  case sl o off len s cap =>
    cases hb : (Nat.beq s ei.size && AV.allCell (new.take (Nat.min n len * s))) with
    | false => simp only [hb, cond_false] at ho; cases ho
    | true =>
      simp only [hb, cond_true] at ho
      simp only [Bool.and_eq_true] at hb
      obtain rfl := Nat.eq_of_beq_eq_true hb.1
      split at ho
      case h_2 => cases ho
      rename_i e cs hg
      cases hsp : splice cs off (new.take (Nat.min n len * ei.size)) with
      | none => simp [hsp] at ho
      | some cs' =>
        simp only [hsp, Option.some.injEq, Prod.mk.injEq] at ho
        obtain ⟨rfl, rfl⟩ := ho
        simp only [VR] at hdv
        obtain ⟨b, sh, c', arr, e2, fr, hρ, rfl, _⟩ := hdv
        obtain ⟨vs, m1, m2⟩ := l3 (Nat.min n len) (Nat.min_le_left _ _)
        obtain ⟨r1, r2, r3⟩ := HR.setCells (P := P) hr hg hρ hsp m2 (allCell_one m2 hb.2)
        refine ⟨goInt (Nat.min n len : Nat), _, k, ?_, by simp only [VR, goInt], r2, r3⟩
        simp only [Builtin.copy_, hat, List.getElem?_toArray, List.getElem?_cons_zero, List.getElem?_cons_succ, Sem.run_bind, run_underlying hd, Result.andThen_ok, l1, run_size hE hel, m1 w.drawn, r1, Sem.run_pure]

theorem zeroCells_row (n size : Nat) (z : Array Value) (hz : z.size = size) : Builtin.zeroCells z n = zeroRow n size z := by
  simp [Builtin.zeroCells, zeroRow, hz]

theorem clear_sound (hE : EnvOk P E) (hr : HR k h w) {dT : TypeId} {at' : Array TypeId} (hat : at'[0]? = some dT) {ty el : TypeId} {ei : TI} (hd : P.underlying dT = some (.slice el)) (hel : E.ty el = some ei) {o off len s : Nat} {cap : Option Nat} {xv : Value} (hxv : VR k w (.sl o off len s cap) xv)
    (ho : clearA ei h o off len s = some (v', h')) : ValOut k h w v' h' ((Builtin.clear_ at' ty #[xv]).run P w) := by
  have hund : VR k w undefA (.tuple #[]) := by simp only [undefA, VR]; exact ⟨_, rfl, by simp only [VRL]⟩
  simp only [VR] at hxv
  obtain ⟨b, sh, c', arr, e2, fr, hρ, rfl, _⟩ := hxv
  unfold clearA at ho
  cases hl : Nat.beq len 0 with
  | true =>
    obtain rfl := Nat.eq_of_beq_eq_true hl
    simp only [hl, cond_true, Option.some.injEq, Prod.mk.injEq] at ho
    obtain ⟨rfl, rfl⟩ := ho
    have e : (Builtin.clear_ at' ty #[.slice (some ⟨b, sh + off, none⟩) 0 c']).run P w = .ok (.tuple #[]) w := by
      simp [Builtin.clear_, hat, run_underlying hd]
    rw [e]
    exact .pure hr hund
  | false =>
    simp only [hl, cond_false] at ho
    have hl := Nat.ne_of_beq_eq_false hl
    cases hb : (Nat.beq s ei.size && AV.allCell ei.zero.cells) with
    | false => simp only [hb, cond_false] at ho; cases ho
    | true =>
      simp only [hb, cond_true] at ho
      simp only [Bool.and_eq_true] at hb
      obtain rfl := Nat.eq_of_beq_eq_true hb.1
      split at ho
      case h_2 => cases ho
      rename_i e cs hg
      cases hsp : splice cs off (repl ei.zero.cells len) with
      | none => simp [hsp] at ho
      | some cs' =>
        simp only [hsp, Option.some.injEq, Prod.mk.injEq] at ho
        obtain ⟨rfl, rfl⟩ := ho
        obtain ⟨z, z1, z2, z3⟩ := run_zero hE hel w
        have hz := ((z2 k w).cells (hE.ty el ei hel).zero).1
        have hrep := repl_VRL hz len
        rw [z3] at hrep
        have hall : ∀ u ∈ (Builtin.zeroCells z.cells len).toList, u.oneCell' = true := by
          intro u hu
          obtain ⟨_, h2⟩ := (z2 k w).cells (hE.ty el ei hel).zero
          simp only [Builtin.zeroCells, Array.toList_map, List.mem_map] at hu
          obtain ⟨i, hi, rfl⟩ := hu
          rcases Nat.eq_zero_or_pos z.cells.size with h0 | h0
          · simp [h0] at hi
          · have hlt : i % z.cells.size < z.cells.size := Nat.mod_lt _ h0
            rw [getElem!_pos z.cells (i % z.cells.size) hlt]
            exact h2 _ (by simp)
        obtain ⟨r1, r2, r3⟩ := HR.setCells (P := P) hr hg hρ hsp (vs := (Builtin.zeroCells z.cells len).toList) (by
          rw [zeroCells_row len ei.size z.cells z3]; unfold zeroRow; rw [z3]; exact hrep) hall
        refine ⟨.tuple #[], _, k, ?_, by simp only [undefA, VR]; exact ⟨_, rfl, by simp only [VRL]⟩, r2, r3⟩
        cases len with
        | zero => exact absurd rfl hl
        | succ len =>
          simp only [Builtin.clear_, hat, List.getElem?_toArray, List.getElem?_cons_zero, Sem.run_bind, run_underlying hd, Result.andThen_ok, z1, r1, Sem.run_pure]

theorem delete_sound (hE : EnvOk P E) (hr : HR k h w) {mT : TypeId} {at' : Array TypeId} (hat : at'[0]? = some mT) {ty kt et : TypeId} {ki : TI} (hd : P.underlying mT = some (.map kt et)) (hki : E.ty kt = some ki) {m kk : AV} {mv kv : Value} (hm : VR k w m mv) (hk : VR k w kk kv) (hp : plainKey ki.und kk = true)
    (ho : deleteA h m kk = some (v', h')) : ValOut k h w v' h' ((Builtin.delete_ at' ty #[mv, kv]).run P w) := by
  have hund : ∀ {k : K} {w : World}, VR k w undefA (.tuple #[]) := by intro k w; simp only [undefA, VR]; exact ⟨_, rfl, by simp only [VRL]⟩
  have hku := (hE.ty kt _ hki).und
  unfold deleteA at ho
  cases m <;> (try simp only at ho) <;> (try (cases ho; done))
  case nilm =>
    simp only [Option.some.injEq, Prod.mk.injEq] at ho
    obtain ⟨rfl, rfl⟩ := ho
    simp only [VR] at hm
    subst hm
    have e : (Builtin.delete_ at' ty #[.map none, kv]).run P w = .ok (.tuple #[]) w := by
      simp [Builtin.delete_, hat, run_underlying hd, checkKey_ok hku hp hk]
    rw [e]
    exact .pure hr hund
  case map o =>
    simp only [VR] at hm
    obtain ⟨b, hρ, rfl⟩ := hm
    split at ho
    case h_2 => cases ho
    rename_i es cl hg
    obtain ⟨b2, sh, h1, h2, ents, h3, h4⟩ := hr.obj o _ hg
    rw [hρ] at h1; cases h1
    have hgo : (getObj b).run P w = .ok (.map ents cl) w := run_getObj h3 (by simp)
    have hnc : ∀ arr e fr, Obj.map ents cl ≠ .cells arr e fr := by simp
    split at ho
    case h_1 j y hf =>
      obtain ⟨_, e, f1, f2, f3, f4, f5⟩ := findEntry_sound hp hk hf h4
      simp only [Option.some.injEq, Prod.mk.injEq] at ho
      obtain ⟨rfl, rfl⟩ := ho
      obtain ⟨r1, r2⟩ := hr.setObj (ob' := .map (es.eraseIdx j) cl) hg hρ h3 (by simp) (new := .map (ents.eraseIdxIfInBounds j) cl)
        (fun le hn => ⟨rfl, _, hn, by
          have := MR.erase j h4
          rw [Array.toList_eraseIdxIfInBounds]
          exact this.mono le⟩)
      refine ⟨.tuple #[], _, k, ?_, hund, r1, r2⟩
      simp only [Builtin.delete_, hat, List.getElem?_toArray, List.getElem?_cons_zero, List.getElem?_cons_succ, Sem.run_bind, run_underlying hd, Result.andThen_ok, hgo, checkKey_ok hku hp hk, run_findKey hku f2, run_setObj h3 hnc, Sem.run_pure]
    case h_2 hf =>
      have f2 := findEntry_sound hp hk hf h4
      simp only [Option.some.injEq, Prod.mk.injEq] at ho
      obtain ⟨rfl, rfl⟩ := ho
      obtain ⟨r1, r2⟩ := hr.setObj (ob' := .map es cl) hg hρ h3 (by simp) (new := .map ents cl) (fun le hn => ⟨rfl, _, hn, h4.mono le⟩)
      have hsame : ∀ (W : World), W.heap = w.heap.setIfInBounds b (.map ents cl) → W.tape = w.tape → W.drawn = w.drawn → W.os = w.os → W.output = w.output → W = w := by
        intro W e1 e2 e3 e4 e5
        have : w.heap.setIfInBounds b (.map ents cl) = w.heap := by
          apply Array.ext'
          simp only [Array.toList_setIfInBounds]
          apply List.ext_getElem?
          intro i
          rw [List.getElem?_set]
          by_cases hi : b = i
          · subst hi
            rw [if_pos rfl]
            have hlt := (Array.getElem?_eq_some_iff.1 h3).1
            rw [if_pos (by simpa using hlt)]
            simpa using h3.symm
          · rw [if_neg hi]
        cases W; cases w; simp_all
      refine ⟨.tuple #[], w, k, ?_, hund, hr, Ev.refl _ _ _⟩
      simp only [Builtin.delete_, hat, List.getElem?_toArray, List.getElem?_cons_zero, List.getElem?_cons_succ, Sem.run_bind, run_underlying hd, Result.andThen_ok, hgo, checkKey_ok hku hp hk, run_findKey hku f2, run_setObj h3 hnc, Sem.run_pure]
      congr 1
      exact hsame _ rfl rfl rfl rfl rfl
    case h_3 => cases ho

end

end Go.Ab

namespace Go.Ab
open Go

section
variable {P : Program} {E : Env} {k : K} {h h' : AH} {w : World} {v' : AV} {ev : Operand → AV} {ρ : Operand → Value}

/-- A live object's block is turned, and the object is forgotten. -/
theorem HR.drop {w' : World} (hr : HR k h w) {o : Nat} {ob : AO} {b sh : Nat} (hg : h.get o = some ob) (hρ : k.ρ o = some (b, sh))
    (hos : w'.os = w.os) (htape : w'.tape = w.tape) (hout : w'.output = w.output) (hsize : w'.heap.size = w.heap.size)
    (hsame : ∀ b', b' ≠ b → w'.heap[b']? = w.heap[b']?)
    (hshape : ∀ (arr : Array Value) (e : TypeId) (fr : Nat × Nat), w.heap[b]? = some (Obj.cells arr e fr) → ∃ (arr' : Array Value) (fr' : Nat × Nat), w'.heap[b]? = some (Obj.cells arr' e fr') ∧ arr'.size = arr.size) :
    HR k (h.set o none) w' ∧ Ev k k h (h.set o none) w w' := by
  have ho := AH.lt_of_get hg
  have back : ∀ {o' : Nat} {ob1 : AO}, (h.set o none).get o' = some ob1 → o' ≠ o ∧ h.get o' = some ob1 := by
    intro o' ob1 h1
    rw [AH.get_set h o o' _ ho] at h1
    by_cases e' : o' = o
    · rw [if_pos e'] at h1; cases h1
    · rw [if_neg e'] at h1; exact ⟨e', h1⟩
  have ev : Ev k k h (h.set o none) w w' := by
    refine ⟨rfl, hos, htape, hout, by omega, fun b' _ hn => hsame b' fun e => hn o ob sh hg (e ▸ hρ), fun b' arr e fr hx => ?_, fun _ _ h => h, fun _ h => h, fun o' ob1 b' sh' h1 h2 _ => ⟨o', ob1, sh', (back h1).2, h2⟩, Nat.le_refl _, fun _ _ => rfl, fun _ _ h => .inl h⟩
    by_cases e' : b' = b
    · subst e'; exact hshape arr e fr hx
    · exact ⟨arr, fr, (hsame b' e').trans hx, rfl⟩
  have le := ev.le hr
  refine ⟨⟨fun o' ob1 h1 => ?_, fun o1 o2 ob1 ob2 b' s1 s2 h1 h2 => hr.inj o1 o2 _ _ b' s1 s2 (back h1).2 (back h2).2, fun o' ob1 b' sh' h1 => hr.nfz o' _ b' sh' (back h1).2, hr.fresh, fun b' hb' => by rw [hsize]; exact hr.lt b' hb'⟩, ev⟩
  obtain ⟨b1, sh1, h2, h3⟩ := hr.obj o' ob1 (back h1).2
  have hne : b1 ≠ b := by
    intro e; subst e
    exact (back h1).1 (hr.inj o' o ob1 ob b1 sh1 sh (back h1).2 hg h2 hρ)
  exact ⟨b1, sh1, h2, h3.mono le (hsame b1 hne)⟩

theorem byteOf_sound {x : AV} {b : Nat} (hb : byteOf x = some b) {v : Value} (hv : VR k w x v) : b < 256 ∧ v = .int .u8 (b : Int) := by
  unfold byteOf at hb
  split at hb
  case h_2 => cases hb
  rename_i m
  cases hlt : Nat.blt m 256 with
  | false => simp only [hlt, cond_false] at hb; cases hb
  | true =>
    simp only [hlt, cond_true, Option.some.injEq] at hb
    subst hb
    have hlt : m < 256 := Nat.le_of_ble_eq_true hlt
    simp only [VR] at hv
    exact ⟨hlt, hv⟩

theorem bytesOf_sound : ∀ {xs : List AV} {bs : List Nat} {vs : List Value}, bytesOf xs = some bs → VRL k w xs vs → (∀ b ∈ bs, b < 256) ∧ vs = bs.map fun (b : Nat) => Value.int .u8 (b : Int)
  | [], bs, vs, hb, hv => by
    simp only [bytesOf, Option.some.injEq] at hb
    simp only [VRL] at hv
    subst hb hv
    exact ⟨by simp, rfl⟩
  | x :: xs, bs, vs, hb, hv => by
    simp only [bytesOf] at hb
    simp only [VRL] at hv
    obtain ⟨v, vs', rfl, h1, h2⟩ := hv
    split at hb
    case h_2 => cases hb
    rename_i b r hb1 hb2
    cases hb
    obtain ⟨e1, e2⟩ := byteOf_sound hb1 h1
    obtain ⟨e3, e4⟩ := bytesOf_sound hb2 h2
    refine ⟨fun c hc => ?_, by rw [e2, e4]; rfl⟩
    rcases List.mem_cons.1 hc with rfl | hc
    · exact e1
    · exact e3 c hc

theorem push_bytes : ∀ (l : List Nat) (s : ByteArray), ((l.map fun (b : Nat) => (b : Int)).foldl (fun r n => r.push (UInt8.ofNat n.toNat)) s).data.toList = s.data.toList ++ l.map fun b => UInt8.ofNat b
  | [], s => by simp
  | b :: l, s => by
    simp only [List.map_cons, List.foldl_cons]
    rw [push_bytes l]
    simp [ByteArray.push]

theorem toNat_ofNat_map {l : List Nat} (h : ∀ b ∈ l, b < 256) : (l.map fun b => UInt8.ofNat b).map UInt8.toNat = l := by
  induction l with
  | nil => rfl
  | cons b l ih =>
    simp only [List.map_cons]
    rw [ih fun c hc => h c (by simp [hc])]
    congr 1
    have := h b (by simp)
    simp; omega

theorem push_modify (heap : Array Obj) (o : Obj) (f : Obj → Obj) : (heap.push o).modify heap.size f = heap.push (f o) := by
  apply Array.ext'
  simp only [Array.toList_modify, Array.toList_push]
  rw [← Array.length_toList]
  generalize heap.toList = l
  induction l with
  | nil => rfl
  | cons x xs ih => simp only [List.cons_append, List.length_cons, List.modify_succ_cons, ih]

theorem elemsOf_slice {sz : Nat} {x : AV} {n : Nat} {cs : List AV} (hel : elemsOf h sz x = some (n, cs)) (hneg : ∀ s, x = .str s → False) {v : Value} (hx : VR k w x v) : ∃ base len c, v = .slice base len c ∧ (base = none → len = 0) := by
  cases x <;> simp only [elemsOf] at hel <;> try (cases hel; done)
  case str s => exact absurd rfl (hneg s)
  case nils => simp only [VR] at hx; exact ⟨_, _, _, hx, fun _ => rfl⟩
  case emp => simp only [VR] at hx; obtain ⟨a, c, hx⟩ := hx; exact ⟨_, _, _, hx, fun h => by cases h⟩
  case sl => simp only [VR] at hx; obtain ⟨_, _, _, _, _, _, _, hx, _⟩ := hx; exact ⟨_, _, _, hx, fun h => by cases h⟩
  case psl => simp only [VR] at hx; obtain ⟨_, _, _, hx, _⟩ := hx; exact ⟨_, _, _, hx, fun h => by cases h⟩

theorem convA_sound (hE : EnvOk P E) (hk : k.sz = ⟨P.cellsOf, E.sel, E.tok, E.str⟩) (hr : HR k h w) {src dst : TypeId} {x : AV} {xv : Value} (hx : VR k w x xv) (ho : convA E src dst x h = some (v', h')) : ValOut k h w v' h' ((convert src dst xv).run P w) := by
  unfold convA at ho
  split at ho
  case h_2 => cases ho
  rename_i d s hd hs
  have hud := (hE.ty dst _ hd).und
  have hus := (hE.ty src _ hs).und
  split at ho
  case h_1 kd kx n hund =>
    cases ho
    simp only [VR] at hx
    subst hx
    have e : (convert src dst (.int kx n)).run P w = .ok (.int kd (kd.wrap n)) w := by
      simp only [convert, Sem.run_bind, run_underlying hus, run_underlying hud, Result.andThen_ok, hund]
      cases s.und <;> rfl
    rw [e]
    exact .pure hr (by simp only [VR])
  case h_2 b hund =>
    cases ho
    have hx' := hx
    simp only [VR] at hx
    obtain ⟨bs, rfl, _⟩ := hx
    have e : (convert src dst (.string bs)).run P w = .ok (.string bs) w := by
      simp only [convert, Sem.run_bind, run_underlying hus, run_underlying hud, Result.andThen_ok, hund]
      cases s.und <;> rfl
    rw [e]
    exact .pure hr hx'
  case h_3 x1 hund hneg =>
    split at ho
    case h_2 => cases ho
    rename_i e hse
    split at ho
    case h_2 => cases ho
    rename_i _ _ _ _ _ hte
    have hue := (hE.ty e _ hte).und
    split at ho
    case h_2 => cases ho
    rename_i n cs hel
    split at ho
    case h_2 => cases ho
    rename_i b hb
    cases ho
    obtain ⟨l1, l2, l3⟩ := elemsOf_sound (P := P) hr hx hel
    obtain ⟨vs, l4, l5⟩ := l3 n (Nat.le_refl _)
    rw [← l2, List.take_length] at l5
    obtain ⟨b1, b2⟩ := bytesOf_sound hb l5
    have conv : ∀ {base : Option Addr} {len c : Nat}, xv = .slice base len c → (convert src dst xv).run P w = (Conv.bytesToString xv).run P w := by
      intro base len c hq
      subst hq
      rw [hse] at hus
      simp only [convert, Sem.run_bind, run_underlying hus, run_underlying hud, Result.andThen_ok, hund, run_underlying hue]
    have fin : ∀ {base : Option Addr} {len c : Nat}, xv = .slice base len c → (base = none → len = 0) → ValOut k h w (.str b) h ((convert src dst xv).run P w) := by
      intro base len c hq hz
      rw [conv hq]
      subst hq
      have hlen : len = n := by simpa [Builtin.lenOf] using l1
      subst hlen
      cases base with
      | none =>
        have := hz rfl
        subst this
        have hcs : cs = [] := List.eq_nil_of_length_eq_zero (by rw [l2])
        subst hcs
        simp only [bytesOf, Option.some.injEq] at hb
        subst hb
        have e1 : (Conv.bytesToString (.slice none 0 c)).run P w = .ok (.string .empty) w := rfl
        rw [e1]
        exact .pure hr (by simp only [VR]; exact ⟨_, rfl, rfl⟩)
      | some a =>
        have hl := l4 w.drawn
        simp only [Builtin.firstCells, Nat.mul_one] at hl
        have hl2 : (loadCells a len).run P w = .ok ((b.map fun (m : Nat) => (m : Int)).map (Value.int .u8)).toArray w := by
          have : (b.map fun (m : Nat) => (m : Int)).map (Value.int .u8) = vs := by rw [b2, List.map_map]; rfl
          rw [this]; exact hl
        rw [run_bytesToString w a len c _ hl2]
        refine .pure hr ?_
        simp only [VR]
        refine ⟨_, rfl, ?_⟩
        rw [push_bytes]
        have : (ByteArray.empty).data.toList = [] := rfl
        rw [this, List.nil_append]
        exact toNat_ofNat_map b1
    obtain ⟨base, len, c, e1, e2⟩ := elemsOf_slice hel hneg hx
    exact fin e1 e2
  case h_4 e b hund =>
    split at ho
    case h_2 => cases ho
    rename_i _ _ _ _ hte
    have hue := (hE.ty e _ hte).und
    cases hal : h.alloc (.cells e (b.map byteA)) with
    | none => rw [hal] at ho; cases ho
    | some p =>
      obtain ⟨o, h1⟩ := p
      rw [hal] at ho
      simp only [Option.some.injEq, Prod.mk.injEq] at ho
      obtain ⟨rfl, rfl⟩ := ho
      simp only [VR] at hx
      obtain ⟨bs, rfl, hbs⟩ := hx
      have hlen : bs.size = b.length := by rw [← hbs]; simp
      have hch : ∃ cap, bs.size ≤ cap ∧ (choose (.appendCap bs.size 0 e)).run P w = .ok cap { w with drawn := w.drawn + 1 } :=
        ⟨bs.size + w.tape w.drawn (.appendCap bs.size 0 e) % (2 ^ 63 - bs.size), by omega, rfl⟩
      obtain ⟨cap, hcap, hch⟩ := hch
      let arr : Array Value := bs.data.map (fun b => Value.int .u8 b.toNat) ++ Array.replicate (cap - bs.size) (.int .u8 0)
      have harr : arr.size = cap := by
        simp [arr]
        have : bs.data.size = bs.size := rfl
        omega
      have hcells : ∀ (i : Nat) (x : AV), (b.map byteA)[i]? = some x → ∃ v, arr[i]? = some v ∧ (∀ k w, VR k w x v) := by
        intro i x hxi
        rw [List.getElem?_map, ← hbs, List.getElem?_map] at hxi
        cases hd : bs.data.toList[i]? with
        | none => simp [hd] at hxi
        | some u =>
          simp only [hd, Option.map_some, Option.some.injEq] at hxi
          subst hxi
          refine ⟨.int .u8 u.toNat, ?_, fun k w => by simp only [byteA, VR]⟩
          have hlt := (List.getElem?_eq_some_iff.1 hd).1
          have hd' : bs.data[i]? = some u := by simpa using hd
          simp only [arr]
          rw [Array.getElem?_append_left (by simpa using hlt), Array.getElem?_map, hd']
          rfl
      obtain ⟨r1, r2, _⟩ := hr.alloc hal (.cells arr e (arr.size, arr.size + 1)) (w.drawn + 1) (fun le => ⟨arr, (arr.size, arr.size + 1), by simp, by
          rw [Nat.zero_add, List.length_map, harr, ← hlen]; exact hcap, (fun i x hxi => by
          obtain ⟨v, h3, h4⟩ := hcells i x hxi
          exact ⟨v, by simpa using h3, h4 _ _⟩), Nat.zero_mod _, .inr (Nat.le_refl _)⟩)
      have hrun : (convert src dst (.string bs)).run P w = .ok (.slice (some ⟨w.heap.size, 0, none⟩) bs.size cap) { w with heap := w.heap.push (.cells arr e (arr.size, arr.size + 1)), drawn := w.drawn + 1 } := by
        have e1 : (convert src dst (.string bs)).run P w = (Conv.stringToBytes e bs).run P w := by
          simp only [convert, Sem.run_bind, run_underlying hus, run_underlying hud, Result.andThen_ok, hund]
          cases s.und <;> simp only [run_underlying hue, Result.andThen_ok]
        rw [e1]
        simp only [Conv.stringToBytes, Sem.run_bind, hch, Result.andThen_ok, newRow, run_newObj, Sem.run_pure, markStringish, run_shape]
        have hsh : World.shape? { w with heap := w.heap.push (Obj.cells arr e), drawn := w.drawn + 1 } w.heap.size = some (e, arr.size) := by simp [World.shape?]
        show (Sem.run P (match World.shape? { w with heap := w.heap.push (Obj.cells arr e), drawn := w.drawn + 1 } w.heap.size with
          | some (_, n) => freeze { block := w.heap.size, off := n } 1
          | _ => Pure.pure ()) { w with heap := w.heap.push (Obj.cells arr e), drawn := w.drawn + 1 }).andThen _ = _
        rw [hsh]
        simp only [run_freeze, Result.andThen_ok, World.freeze]
        rw [if_neg (by omega), push_modify]
        simp
      refine ⟨_, _, _, hrun, ?_, r1, r2⟩
      simp only [VR]
      refine ⟨w.heap.size, 0, cap, arr, e, (arr.size, arr.size + 1), K.with_self _ _ _, by rw [hlen], by omega, (fun n hn => by cases hn), by simp, by rw [harr]; omega⟩
  case h_5 o off hund =>
    split at ho
    case h_2 => cases ho
    rename_i t hst
    rw [hst] at hus
    split at ho
    case h_2 => cases ho
    rename_i ti e cs hti hg
    cases hb : (Nat.ble 1 ti.size && Nat.blt off cs.length) with
    | false => simp only [hb, cond_false] at ho; cases ho
    | true =>
      simp only [hb, cond_true, Option.some.injEq, Prod.mk.injEq] at ho
      simp only [Bool.and_eq_true] at hb
      obtain ⟨rfl, rfl⟩ := ho
      have hb1 := Nat.le_of_ble_eq_true hb.1
      have hb2 : off < cs.length := Nat.le_of_ble_eq_true hb.2
      have hx' := hx
      simp only [VR] at hx
      obtain ⟨b, sh, hρ, rfl⟩ := hx
      obtain ⟨b1, sh1, g1, arr, fr, g2, g3, g4, g5, g6⟩ := hr.obj o _ hg
      rw [hρ] at g1; cases g1
      have hshape : w.shape? b = some (e, arr.size) := by simp [World.shape?, g2]
      have hseen : (Conv.seenAt ⟨b, sh + off, none⟩).run P w = .ok ⟨b, sh + off, none⟩ w := by
        simp [Conv.seenAt, viewAt, hshape]
      have e1 : (convert src dst (.pointer (some ⟨b, sh + off, none⟩))).run P w = .ok (.pointer (some ⟨b, sh + off, none⟩)) w := by
        have hne : ti.size ≠ 0 := by omega
        have hlt : ¬ arr.size ≤ sh + off := by omega
        simp only [convert, Sem.run_bind, run_underlying hus, run_underlying hud, Result.andThen_ok, hund]
        simp [Conv.unsafePointer, run_underlying hus, run_underlying hud, hund, hseen, cellsIn, hshape, run_size hE hti, hne, hlt]
      rw [e1]
      exact .pure hr hx'
  case h_6 u o off hund =>
    rw [hund] at hud
    split at ho
    case h_2 => cases ho
    rename_i hst
    rw [hst] at hus
    split at ho
    case h_2 => cases ho
    rename_i ui e cs hui hg
    cases hb : (Nat.ble 1 ui.size && Nat.beq e u && Nat.beq (off % ui.size) 0 && Nat.ble (off + ui.size) cs.length) with
    | false => simp only [hb, cond_false] at ho; cases ho
    | true =>
      simp only [hb, cond_true, Option.some.injEq, Prod.mk.injEq] at ho
      simp only [Bool.and_eq_true] at hb
      obtain ⟨rfl, rfl⟩ := ho
      obtain ⟨⟨⟨hb1, hb2⟩, hb3⟩, hb4⟩ := hb
      have hb1 := Nat.le_of_ble_eq_true hb1
      obtain rfl := Nat.eq_of_beq_eq_true hb2
      have hb3 := Nat.eq_of_beq_eq_true hb3
      have hb4 := Nat.le_of_ble_eq_true hb4
      have hx' := hx
      simp only [VR] at hx
      obtain ⟨b, sh, hρ, rfl⟩ := hx
      obtain ⟨b1, sh1, g1, arr, fr, g2, g3, g4, g5, g6⟩ := hr.obj o _ hg
      rw [hρ] at g1; cases g1
      have hshape : w.shape? b = some (e, arr.size) := by simp [World.shape?, g2]
      have hseen : (Conv.seenAt ⟨b, sh + off, none⟩).run P w = .ok ⟨b, sh + off, none⟩ w := by
        simp [Conv.seenAt, viewAt, hshape]
      have hcs : P.cellsOf e = ui.size := by
        obtain ⟨inf, z, i1, i2, _⟩ := (hE.ty e ui hui).info
        simp [Program.cellsOf, i1, i2]
      have hlies : (variablesAt ⟨b, sh + off, none⟩ e 1).run P w = .ok true w := by
        simp only [variablesAt, Sem.run_bind, run_program, run_shape, Result.andThen_ok, hshape, Sem.run_pure]
        congr 1
        obtain ⟨d, hd⟩ : ∃ d, P.depth = d + 1 := ⟨2 * (P.types.size + Made.depth) + 1, rfl⟩
        rw [hd]
        simp only [liesAt, Bool.or_eq_true]
        left
        rw [hd]
        simp only [rowAt, hcs]
        rw [if_neg (by omega)]
        rw [hk] at g5
        simp only [hcs] at g5
        have hmod : (sh + off) % ui.size = 0 := by rw [Nat.add_mod, g5, hb3]; simp
        have hdiv : (sh + off) / ui.size + 1 ≤ arr.size / ui.size := by
          have h1 : ((sh + off) / ui.size + 1) * ui.size ≤ arr.size := by
            have := Nat.div_add_mod (sh + off) ui.size
            rw [hmod] at this
            rw [Nat.add_mul, Nat.mul_comm ((sh + off) / ui.size)]
            omega
          exact (Nat.le_div_iff_mul_le (by omega)).2 h1
        simp [hmod, hdiv, sameLayout]
      have e1 : (convert src dst (.pointer (some ⟨b, sh + off, none⟩))).run P w = .ok (.pointer (some ⟨b, sh + off, none⟩)) w := by
        have hne : ui.size ≠ 0 := by omega
        simp only [convert, Sem.run_bind, run_underlying hus, run_underlying hud, Result.andThen_ok]
        simp [Conv.unsafePointer, run_underlying hus, run_underlying hud, hseen, run_size hE hui, hne, hlies]
      rw [e1]
      exact .pure hr hx'
  case h_7 => cases ho

end

end Go.Ab

namespace Go.Ab
open Go

section
variable {P : Program} {E : Env} {k : K} {h h' : AH} {w : World} {v' : AV} {ev : Operand → AV} {ρ : Operand → Value}

theorem undef_VR (k : K) (w : World) : VR k w undefA (.tuple #[]) := by simp only [undefA, VR]; exact ⟨_, rfl, by simp only [VRL]⟩

theorem len_sound (hE : EnvOk P E) (hr : HR k h w) {at' : Array TypeId} {ty : TypeId} {x : AV} {xv : Value} (hx : VR k w x xv) {n : Nat} (ho : lenA E at' h x = some n) :
    (Builtin.len_ at' ty #[xv]).run P w = .ok (.int .i64 (n : Int)) w := by
  unfold lenA at ho
  split at ho
  case h_1 => cases ho
  rename_i t hat
  split at ho
  case h_1 => cases ho
  rename_i i hi
  have hu := (hE.ty t _ hi).und
  split at ho
  case h_1 s hund =>
    cases ho
    simp only [VR] at hx
    obtain ⟨b, rfl, rfl⟩ := hx
    simp [Builtin.len_, hat, run_underlying hu, hund, goInt]
  case h_2 hund =>
    cases ho
    simp only [VR] at hx
    subst hx
    simp [Builtin.len_, hat, run_underlying hu, hund, goInt]
  case h_3 hund =>
    cases ho
    simp only [VR] at hx
    obtain ⟨a, c, rfl⟩ := hx
    simp [Builtin.len_, hat, run_underlying hu, hund, goInt]
  case h_4 hund =>
    cases ho
    simp only [VR] at hx
    obtain ⟨_, _, _, _, _, _, _, rfl, _⟩ := hx
    simp [Builtin.len_, hat, run_underlying hu, hund, goInt]
  case h_5 hund =>
    cases ho
    simp only [VR] at hx
    obtain ⟨_, _, _, rfl, _⟩ := hx
    simp [Builtin.len_, hat, run_underlying hu, hund, goInt]
  case h_6 hund =>
    cases ho
    simp only [VR] at hx
    subst hx
    simp [Builtin.len_, hat, run_underlying hu, hund, goInt]
  case h_7 o hund =>
    split at ho
    case h_2 => cases ho
    rename_i es cl hg
    cases ho
    simp only [VR] at hx
    obtain ⟨b, hρ, rfl⟩ := hx
    obtain ⟨b2, sh, h1, h2, ents, h3, h4⟩ := hr.obj o _ hg
    rw [hρ] at h1; cases h1
    have hgo : (getObj b).run P w = .ok (.map ents cl) w := run_getObj h3 (by simp)
    have hl := h4.length
    simp only [Array.length_toList] at hl
    simp [Builtin.len_, hat, run_underlying hu, hund, goInt, hgo, hl]
  case h_8 n' el hund =>
    cases ho
    have e : (Builtin.len_ at' ty #[xv]).run P w = (pure (goInt n) : Sem Value).run P w := by
      simp only [Builtin.len_, hat, List.getElem?_toArray, List.getElem?_cons_zero, Sem.run_bind, run_underlying hu, Result.andThen_ok, hund]
    rw [e]; rfl
  case h_9 a hund =>
    split at ho
    case h_2 => cases ho
    rename_i n' el _ _ _ _ ha
    cases ho
    have hua := (hE.ty a _ ha).und
    have e : (Builtin.len_ at' ty #[xv]).run P w = (pure (goInt n) : Sem Value).run P w := by
      simp only [Builtin.len_, hat, List.getElem?_toArray, List.getElem?_cons_zero, Sem.run_bind, run_underlying hu, Result.andThen_ok, hund]
      cases xv <;> simp only [run_underlying hua, Result.andThen_ok]
    rw [e]; rfl
  case h_10 => cases ho

theorem cap_sound (hE : EnvOk P E) {at' : Array TypeId} {ty : TypeId} {x : AV} {xv : Value} (hx : VR k w x xv) {n : Nat} (ho : capA E at' x = some n) :
    (Builtin.cap_ at' ty #[xv]).run P w = .ok (.int .i64 (n : Int)) w := by
  unfold capA at ho
  split at ho
  case h_1 => cases ho
  rename_i t hat
  split at ho
  case h_1 => cases ho
  rename_i i hi
  have hu := (hE.ty t _ hi).und
  split at ho
  case h_1 hund =>
    cases ho
    simp only [VR] at hx
    subst hx
    simp [Builtin.cap_, hat, run_underlying hu, hund, goInt]
  case h_2 hund =>
    cases ho
    simp only [VR] at hx
    obtain ⟨_, _, c, _, _, _, _, rfl, _, hc, _⟩ := hx
    have := hc _ rfl; subst this
    simp [Builtin.cap_, hat, run_underlying hu, hund, goInt]
  case h_3 hund =>
    cases ho
    simp only [VR] at hx
    obtain ⟨_, _, c, rfl, _, hc, _⟩ := hx
    have := hc _ rfl; subst this
    simp [Builtin.cap_, hat, run_underlying hu, hund, goInt]
  case h_4 => cases ho

theorem unsafeString_sound (hE : EnvOk P E) (hr : HR k h w) {at' : Array TypeId} {ty : TypeId} {p n : AV} {pv nv : Value} (hp : VR k w p pv) (hn : VR k w n nv) (ho : builtinA E .unsafeString at' ty [p, n] h = some (v', h')) :
    ValOut k h w v' h' ((Builtin.unsafeString_ at' ty #[pv, nv]).run P w) := by
  simp only [builtinA] at ho
  have hmax : IntKind.i64.max = 9223372036854775807 := by decide
  split at ho
  case h_1 hn0 =>
    obtain ⟨kd, rfl⟩ := asNat_int hn0 hn
    split at ho
    case h_2 => cases ho
    rename_i pt hat
    have fin : ∀ q : Option Addr, pv = .pointer q → v' = .str [] → h' = h → ValOut k h w v' h' ((Builtin.unsafeString_ at' ty #[pv, .int kd ((0 : Nat) : Int)]).run P w) := by
      intro q e1 e2 e3
      subst e1 e2 e3
      have e : (Builtin.unsafeString_ at' ty #[.pointer q, .int kd ((0 : Nat) : Int)]).run P w = .ok (.string .empty) w := by
        change ((asInt (.int kd ((0 : Nat) : Int)) >>= _ : Sem Value).run P w) = _
        cases q <;> simp [hat, asInt, asIntOf, hmax]
      rw [e]
      exact .pure hr (by simp only [VR]; exact ⟨_, rfl, rfl⟩)
    cases p <;> simp only at ho <;> try (cases ho; done)
    case ptr o off => simp only [VR] at hp; obtain ⟨b, sh, _, hp⟩ := hp; cases ho; exact fin _ hp rfl rfl
    case nilp => simp only [VR] at hp; cases ho; exact fin _ hp rfl rfl
  case h_2 m hne hn0 =>
    obtain ⟨kd, rfl⟩ := asNat_int hn0 hn
    split at ho
    case h_2 => cases ho
    rename_i o off
    split at ho
    case h_2 => cases ho
    rename_i e cs pt' hg hat'
    split at ho
    case h_2 => cases ho
    rename_i u _ _ _ _ hpt
    split at ho
    case h_2 => cases ho
    rename_i ui hui
    cases hb : (Nat.beq e u && Nat.beq ui.size 1 && Nat.ble m 16777216) with
    | false => simp only [hb, cond_false] at ho; cases ho
    | true =>
      simp only [hb, cond_true] at ho
      simp only [Bool.and_eq_true] at hb
      obtain rfl := Nat.eq_of_beq_eq_true hb.1.1
      have hu1 := Nat.eq_of_beq_eq_true hb.1.2
      have hm24 := Nat.le_of_ble_eq_true hb.2
      split at ho
      case h_2 => cases ho
      rename_i r hseg
      split at ho
      case h_2 => cases ho
      rename_i s hs
      simp only [Option.some.injEq, Prod.mk.injEq] at ho
      obtain ⟨rfl, rfl⟩ := ho
      simp only [VR] at hp
      obtain ⟨b, sh, hρ, rfl⟩ := hp
      obtain ⟨b1, sh1, g1, arr, fr, g2, g3, g4, g5, g6⟩ := hr.obj o _ hg
      rw [hρ] at g1; cases g1
      obtain ⟨q1, q2⟩ := seg_get hseg
      obtain ⟨vs, h10, h11⟩ := VRL.choose (k := k) (w := w) (cs := r) (fun j v => w.cell? ((⟨b, sh + off, none⟩ : Addr).add j) = some v) (fun j x hx => by
        obtain ⟨v, h12, h13⟩ := g4 _ _ (q2 j x hx)
        refine ⟨v, ?_, h13⟩
        rw [add_off, cell_of_heap g2, Nat.add_assoc]
        exact h12)
      obtain ⟨b2, b3⟩ := bytesOf_sound hs h10
      have hsl : s.length = m := by
        have := h10.length
        rw [b3, List.length_map, q1] at this; exact this
      have hm0 : m ≠ 0 := hne
      have hbig : m < 9223372036854775807 := by omega
      have hcs : P.cellsOf e = 1 := by
        obtain ⟨inf, z, i1, i2, _⟩ := (hE.ty e ui hui).info
        simp [Program.cellsOf, i1, i2, hu1]
      have hlen : off + m ≤ cs.length := by
        have := q2 (m - 1) (r[m - 1]'(by omega)) (by rw [List.getElem?_eq_getElem])
        have := (List.getElem?_eq_some_iff.1 this).1
        omega
      have hlies : (variablesAt ⟨b, sh + off, none⟩ e m).run P w = .ok true w := by
        have hshape : w.shape? b = some (e, arr.size) := by simp [World.shape?, g2]
        simp only [variablesAt, Sem.run_bind, run_program, run_shape, Result.andThen_ok, hshape, Sem.run_pure]
        congr 1
        obtain ⟨d, hd⟩ : ∃ d, P.depth = d + 1 := ⟨2 * (P.types.size + Made.depth) + 1, rfl⟩
        rw [hd]
        simp only [liesAt, Bool.or_eq_true]
        left
        rw [hd]
        simp only [rowAt, hcs]
        simp [Nat.mod_one, sameLayout]
        left
        omega
      have hcells : ∀ (j : Nat) (x : UInt8), (s.map fun b => UInt8.ofNat b)[j]? = some x → w.cell? ((⟨b, sh + off, none⟩ : Addr).add j) = some (.int .u8 x.toNat) := by
        intro j x hx
        rw [List.getElem?_map] at hx
        cases hsj : s[j]? with
        | none => simp [hsj] at hx
        | some c =>
          simp only [hsj, Option.map_some, Option.some.injEq] at hx
          subst hx
          have hc := b2 c (List.mem_of_getElem? hsj)
          have := h11 j (.int .u8 (c : Int)) (by rw [b3, List.getElem?_map, hsj]; rfl)
          rw [this]
          have e1 : (UInt8.ofNat c).toNat = c := by simp; omega
          rw [e1]
      have hlb := Lib.run_loadBytes (P := P) (w := w) (s.map fun b => UInt8.ofNat b) ⟨b, sh + off, none⟩ .empty hcells
      simp only [List.length_map, hsl] at hlb
      have hpu := (hE.ty pt' _ hpt).und
      obtain ⟨r1, r2⟩ := hr.drop (w' := w.freeze ⟨b, sh + off, none⟩ m) hg hρ (by simp [World.freeze, hm0]) (by simp [World.freeze, hm0]) (by simp [World.freeze, hm0]) (by simp [World.freeze, hm0])
        (fun b' hb' => by simp only [World.freeze, if_neg hm0, Array.getElem?_modify, if_neg (fun e => hb' (Eq.symm e))])
        (fun a2 e2 f2 hx2 => by
          rw [g2] at hx2; cases hx2
          simp only [World.freeze, if_neg hm0, Array.getElem?_modify, if_true, g2, Option.map_some]
          exact ⟨_, _, rfl, rfl⟩)
      refine ⟨.string ⟨(ByteArray.empty).data ++ (s.map fun b => UInt8.ofNat b).toArray⟩, _, k, ?_, ?_, r1, r2⟩
      · have hn1 : ¬ ((m : Int) < 0) := by omega
        have hn2 : ¬ ((m : Int) > IntKind.i64.max) := by rw [hmax]; omega
        have hn3 : ¬ ((m : Int) = 0) := by omega
        change ((asInt (.int kd (m : Int)) >>= _ : Sem Value).run P w) = _
        simp only [asInt, asIntOf, Sem.run_bind, Sem.run_pure, Result.andThen_ok, hat']
        rw [if_neg hn1, if_neg hn2, if_neg hn3]
        simp only [elemOf, Sem.run_bind, run_underlying hpu, Result.andThen_ok, Sem.run_pure, Int.toNat_natCast, hlies, if_true, hlb, run_freeze]
      · simp only [VR]
        refine ⟨_, rfl, ?_⟩
        have : ((ByteArray.empty).data ++ (s.map fun b => UInt8.ofNat b).toArray).toList = s.map fun b => UInt8.ofNat b := by simp
        rw [this]
        exact toNat_ofNat_map b2
  case h_3 => cases ho

theorem builtinA_sound (hE : EnvOk P E) (hk : k.sz = ⟨P.cellsOf, E.sel, E.tok, E.str⟩) (hr : HR k h w) {b : Builtin} {at' : Array TypeId} {ty : TypeId} {consts : Array Bool} {args : List AV} {vs : Array Value} (hv : VRL k w args vs.toList)
    (ho : builtinA E b at' ty args h = some (v', h')) : OpOut k h w v' h' ((builtin b at' ty consts vs).run P w) := by
  have vs1 : ∀ {x : AV}, args = [x] → ∃ v, vs = #[v] ∧ VR k w x v := by
    intro x hx
    subst hx
    simp only [VRL] at hv
    obtain ⟨v, vs', h1, h2, rfl⟩ := hv
    exact ⟨v, by rw [← Array.toArray_toList (xs := vs), h1], h2⟩
  have vs2 : ∀ {x y : AV}, args = [x, y] → ∃ v u, vs = #[v, u] ∧ VR k w x v ∧ VR k w y u := by
    intro x y hx
    subst hx
    simp only [VRL] at hv
    obtain ⟨v, vs', h1, h2, u, vs'', rfl, h3, rfl⟩ := hv
    exact ⟨v, u, by rw [← Array.toArray_toList (xs := vs), h1], h2, h3⟩
  unfold builtinA at ho
  split at ho
  case h_1 s x =>
    obtain ⟨sv, xv, rfl, hs, hx⟩ := vs2 rfl
    split at ho
    case h_2 => cases ho
    rename_i st hst
    split at ho
    case h_2 => cases ho
    rename_i el _ _ _ _ hty
    split at ho
    case h_2 => cases ho
    rename_i ei hel
    split at ho
    case h_2 => cases ho
    rename_i xt hxt
    split at ho
    case h_1 => cases ho
    case h_3 => cases ho
    rename_i xi hni hxi
    split at ho
    case h_2 => cases ho
    rename_i n new he
    have hat : at' = #[st, xt] ∨ True := .inr trivial
    refine ValOut.op ?_
    have e : (Builtin.append_ at' ty #[sv, xv]).run P w = (Builtin.append_ #[st, xt] ty #[sv, xv]).run P w := by
      simp only [Builtin.append_, hst, hxt]
      rfl
    rw [e]
    exact appendA_sound hE hk hr (hE.ty st _ hty).und (hE.ty xt _ hxi).und (fun kd hkd => by
      cases xi
      simp only at hkd
      subst hkd
      exact hni _ _ _ _ _ rfl) hel hs hx he ho
  case h_2 x =>
    obtain ⟨xv, rfl, hx⟩ := vs1 rfl
    refine ValOut.op ?_
    cases hl : lenA E at' h x with
    | none => simp [hl] at ho
    | some n =>
      rw [hl] at ho
      cases ho
      rw [len_sound hE hr hx hl]
      exact .pure hr (by simp only [VR])
  case h_3 x =>
    obtain ⟨xv, rfl, hx⟩ := vs1 rfl
    refine ValOut.op ?_
    cases hl : capA E at' x with
    | none => simp [hl] at ho
    | some n =>
      rw [hl] at ho
      cases ho
      rw [cap_sound hE hx hl]
      exact .pure hr (by simp only [VR])
  case h_4 d x =>
    obtain ⟨dv, xv, rfl, hd, hx⟩ := vs2 rfl
    split at ho
    case h_2 => cases ho
    rename_i st hst
    split at ho
    case h_2 => cases ho
    rename_i el _ _ _ _ hty
    split at ho
    case h_2 => cases ho
    rename_i ei hel
    split at ho
    case h_2 => cases ho
    rename_i n new he
    exact ValOut.op (copy_sound hE hr hst (hE.ty st _ hty).und hel hd hx he ho)
  case h_5 x =>
    obtain ⟨xv, rfl, hx⟩ := vs1 rfl
    refine ValOut.op ?_
    split at ho
    case h_2 => cases ho
    case h_1 o off len s cap =>
      split at ho
      case h_2 => cases ho
      rename_i st hst
      split at ho
      case h_2 => cases ho
      rename_i el _ _ _ _ hty
      split at ho
      case h_2 => cases ho
      rename_i ei hel
      exact clear_sound hE hr hst (hE.ty st _ hty).und hel hx ho
  case h_6 m kk =>
    obtain ⟨mv, kv, rfl, hm, hkk⟩ := vs2 rfl
    split at ho
    case h_2 => cases ho
    rename_i st hst
    split at ho
    case h_2 => cases ho
    rename_i kt et _ _ _ _ hty
    split at ho
    case h_2 => cases ho
    rename_i ki hki
    cases hp : plainKey ki.und kk with
    | false => simp only [hp, cond_false] at ho; cases ho
    | true =>
      simp only [hp, cond_true] at ho
      exact ValOut.op (delete_sound hE hr hst (hE.ty st _ hty).und hki hm hkk hp ho)
  case h_7 x y =>
    obtain ⟨xv, yv, rfl, hx, hy⟩ := vs2 rfl
    refine ValOut.op ?_
    split at ho
    case h_2 => cases ho
    cases ho
    simp only [VR] at hx hy
    subst hx hy
    refine ⟨_, w, k, by simp [Builtin.max_, Builtin.max2]; rfl, by simp only [VR], hr, Ev.refl _ _ _⟩
  case h_8 x y =>
    obtain ⟨xv, yv, rfl, hx, hy⟩ := vs2 rfl
    refine ValOut.op ?_
    split at ho
    case h_2 => cases ho
    cases ho
    simp only [VR] at hx hy
    subst hx hy
    refine ⟨_, w, k, by simp [Builtin.min_, Builtin.min2]; rfl, by simp only [VR], hr, Ev.refl _ _ _⟩
  case h_9 x =>
    obtain ⟨xv, rfl, hx⟩ := vs1 rfl
    refine ValOut.op ?_
    split at ho
    case h_3 => cases ho
    case h_1 =>
      cases ho
      simp only [VR] at hx
      subst hx
      have e : (Builtin.unsafeSliceData_ at' ty #[.slice none 0 0]).run P w = .ok (.pointer none) w := rfl
      rw [e]
      exact .pure hr (by simp only [VR])
    case h_2 o off len s cap =>
      cases hb : Nat.blt 0 len with
      | false => simp only [hb, cond_false] at ho; cases ho
      | true =>
        simp only [hb, cond_true, Option.some.injEq, Prod.mk.injEq] at ho
        obtain ⟨rfl, rfl⟩ := ho
        have hlt : 0 < len := Nat.le_of_ble_eq_true hb
        simp only [VR] at hx
        obtain ⟨b, sh, c, arr, e, fr, hρ, rfl, hle, _⟩ := hx
        have e : (Builtin.unsafeSliceData_ at' ty #[.slice (some ⟨b, sh + off, none⟩) len c]).run P w = .ok (.pointer (some ⟨b, sh + off, none⟩)) w := by
          obtain ⟨c', rfl⟩ : ∃ c', c = c' + 1 := ⟨c - 1, by omega⟩
          rfl
        rw [e]
        exact .pure hr (by simp only [VR]; exact ⟨b, sh, hρ, rfl⟩)
  case h_10 p n =>
    obtain ⟨pv, nv, rfl, hp, hn⟩ := vs2 rfl
    refine ValOut.op ?_
    exact unsafeString_sound hE hr hp hn (by simp only [builtinA]; exact ho)
  case h_11 => cases ho

end

end Go.Ab

namespace Go.Ab
open Go

section
variable {P : Program} {E : Env} {k : K} {h h' : AH} {w : World} {v' : AV} {ev : Operand → AV} {ρ : Operand → Value}

theorem opA_sound (hE : EnvOk P E) (hk : k.sz = ⟨P.cellsOf, E.sel, E.tok, E.str⟩) (hr : HR k h w) (hev : ∀ x, VR k w (ev x) (ρ x)) {o : Oper} (ho : opA E o.op ev h = some (v', h')) : OpOut k h w v' h' ((execOp ρ o).run P w) := by
  obtain ⟨dst, op, ty, pos, after, guard⟩ := o
  simp only at ho
  cases op
  case move x => simp only [opA] at ho; cases ho; exact .pure hr (hev x)
  case assign x => simp only [opA] at ho; cases ho; exact .pure hr (hev x)
  case pick => exact op_pick hr hev ho
  case alloc => exact op_alloc hE hr ho
  case box => exact op_box hr hev ho
  case build => exact op_build hE hr hev ho
  case buildSlice => exact op_buildSlice hE hr hev ho
  case insert t m kk x => exact mapUpd_sound hE hr hev (t := t) (m := m) (kk := kk) (x := x) (by simp only [opA] at ho ⊢; exact ho)
  case load => exact op_load hE hr hev ho
  case store => exact op_store hE hr hev ho
  case nilCheck => exact op_nilCheck hr hev rfl ho
  case binOp => exact op_bin hE hr hev ho
  case unOp => exact op_un hr hev ho
  case convert s d x => simp only [opA] at ho; exact ValOut.op (convA_sound hE hk hr (hev x) ho)
  case makeInterface => exact op_makeInterface hE hr hev ho
  case makeFunc => exact op_makeFunc hr hev ho
  case makeMap => exact op_makeMap hr ho
  case makeSlice => exact op_makeSlice hE hr hev ho
  case slice => exact op_slice hE hr hev ho
  case fieldAddr => exact op_fieldAddr hE hr hev ho
  case field => exact op_field hE hr hev ho
  case indexAddr => exact op_indexAddr hE hr hev ho
  case index => exact op_index hE hr hev ho
  case lookup => exact op_lookup hE hr hev ho
  case mapUpdate => exact mapUpd_sound hE hr hev ho
  case range => exact op_range hE hr hev ho
  case next it b => cases b with
    | true => exact op_next hr hev ho
    | false => simp only [opA] at ho; cases ho
  case typeAssert => exact op_typeAssert hE hr hev ho
  case extract => exact op_extract hr hev ho
  all_goals (simp only [opA] at ho; cases ho)

/-! Frames -/

def DR (k : K) (w : World) : AD → Deferred → Prop
  | .mark o, d => ∃ b, k.ρ o = some (b, 0) ∧ d = { target := .collected b, args := #[] }
  | .call f args, d => ∃ (fv : Value) (vs : Array Value), VR k w f fv ∧ VRL k w args vs.toList ∧
      (match fv with
        | .func fn first captured => d = { target := .fn fn captured, args := first ++ vs }
        | _ => False)
def DRL (k : K) (w : World) : List AD → List Deferred → Prop
  | [], ds => ds = []
  | x :: xs, ds => ∃ d ds', ds = d :: ds' ∧ DR k w x d ∧ DRL k w xs ds'

theorem DR.mono {k k' : K} {w w' : World} (h : Le k k' w w') : ∀ {x : AD} {d : Deferred}, DR k w x d → DR k' w' x d
  | .mark o, d, hd => let ⟨b, h1, h2⟩ := hd; ⟨b, h.rho _ _ h1, h2⟩
  | .call f args, d, hd => by
    obtain ⟨fv, vs, h1, h2, h3⟩ := hd
    exact ⟨fv, vs, VR.mono h _ _ h1, VRL.mono h _ _ h2, h3⟩
theorem DRL.mono {k k' : K} {w w' : World} (h : Le k k' w w') : ∀ {xs : List AD} {ds : List Deferred}, DRL k w xs ds → DRL k' w' xs ds
  | [], ds, hd => hd
  | x :: xs, ds, hd => by
    obtain ⟨d, ds', h1, h2, h3⟩ := hd
    exact ⟨d, ds', h1, h2.mono h, DRL.mono h h3⟩
theorem DRL.append {k : K} {w : World} : ∀ {xs ys : List AD} {ds es : List Deferred}, DRL k w xs ds → DRL k w ys es → DRL k w (xs ++ ys) (ds ++ es)
  | [], ys, ds, es, h1, h2 => by simp only [DRL] at h1; subst h1; exact h2
  | x :: xs, ys, ds, es, h1, h2 => by
    obtain ⟨d, ds', rfl, h3, h4⟩ := h1
    exact ⟨d, ds' ++ es, rfl, h3, DRL.append h4 h2⟩

/-- What is to be done, told of the abstract objects, and as it is. -/
def IR (k : K) : List Item → List Item → Prop
  | [], k' => k' = []
  | .inRangeFunc l :: r, k' => ∃ b r', k' = .inRangeFunc b :: r' ∧ k.ρ l = some (b, 0) ∧ IR k r r'
  | .endRangeFunc l :: r, k' => ∃ b r', k' = .endRangeFunc b :: r' ∧ k.ρ l = some (b, 0) ∧ IR k r r'
  | x :: r, k' => ∃ r', k' = x :: r' ∧ IR k r r'

theorem IR.mono {k k' : K} {w w' : World} (h : Le k k' w w') : ∀ {xs ys : List Item}, IR k xs ys → IR k' xs ys
  | [], ys, hd => hd
  | x :: xs, ys, hd => by
    cases x <;> simp only [IR] at hd ⊢
    case inRangeFunc l => obtain ⟨b, r', h1, h2, h3⟩ := hd; exact ⟨b, r', h1, h.rho _ _ h2, IR.mono h h3⟩
    case endRangeFunc l => obtain ⟨b, r', h1, h2, h3⟩ := hd; exact ⟨b, r', h1, h.rho _ _ h2, IR.mono h h3⟩
    all_goals obtain ⟨r', h1, h3⟩ := hd; exact ⟨r', h1, IR.mono h h3⟩

def CR (k : K) (w : World) : List (AV × Bool) → List PanicEntry → Prop
  | [], c => c = []
  | (v, r) :: xs, c => ∃ e c', c = e :: c' ∧ VR k w v e.v ∧ (e.recovered = false ∧ r = false) ∧ e.goexit = false ∧ CR k w xs c'

theorem CR.mono {k k' : K} {w w' : World} (h : Le k k' w w') : ∀ {xs : List (AV × Bool)} {c : List PanicEntry}, CR k w xs c → CR k' w' xs c
  | [], _, hd => hd
  | (v, r) :: xs, _, hd => by
    obtain ⟨e, c', h1, h2, h3, h4, h5⟩ := hd
    exact ⟨e, c', h1, VR.mono h _ _ h2, h3, h4, CR.mono h h5⟩

/-- A frame that is at work. -/
structure FR (k : K) (w : World) (c : Ctx) (tmps : T AV) (todo : List Item) (defs : List AD) (fr : Frame) : Prop where
  fn : fr.fn = c.fn
  tmps : TR k w c.n tmps fr.tmps
  todo : IR k todo fr.todo
  defs : DRL k w defs fr.defers
  mode : fr.mode = .run
  kind : fr.kind = c.kind
  round : match c.round with
    | none => fr.roundOf = none
    | some l => ∃ b, k.ρ l = some (b, 0) ∧ fr.roundOf = some b
  early : c.kind = .normal ∨ c.kind = .deferred

theorem FR.mono {k k' : K} {w w' : World} (h : Le k k' w w') {c : Ctx} {tmps : T AV} {todo : List Item} {defs : List AD} {fr : Frame} (f : FR k w c tmps todo defs fr) : FR k' w' c tmps todo defs fr := by
  refine ⟨f.fn, f.tmps.mono h, f.todo.mono h, f.defs.mono h, f.mode, f.kind, ?_, f.early⟩
  have := f.round
  cases hr : c.round with
  | none => rw [hr] at this; exact this
  | some l => rw [hr] at this; obtain ⟨b, h1, h2⟩ := this; exact ⟨b, h.rho _ _ h1, h2⟩

theorem aeval_sound {c : Ctx} {tmps : T AV} {todo : List Item} {defs : List AD} {fr : Frame} (hg : GlobOk E k w) (f : FR k w c tmps todo defs fr) (x : Operand) : VR k w (aeval E tmps x) (fr.eval x) := by
  cases x with
  | tmp t => exact f.tmps.2 t
  | const v => exact ofConst_ok k w v
  | global g =>
    simp only [aeval, Frame.eval]
    cases hgl : E.glob g with
    | none => simp only [VR]
    | some cells =>
      simp only [VR]
      exact ⟨g, 0, rfl, (hg g cells hgl).1, (hg g cells hgl).2⟩
  | func fid =>
    simp only [aeval, Frame.eval, VR]
    exact ⟨#[], #[], rfl, by simp only [VRL], by simp only [VRL]⟩

end

end Go.Ab

namespace Go.Ab
open Go

section
variable {P : Program} {w w' : World} {fr : Frame} {cs : List Frame}

abbrev gor (fr : Frame) (cs : List Frame) : Goroutine := { frame := fr, callers := cs, status := .running, dying := none }

theorem st (hm : fr.mode = .run) : stepG P true (gor fr cs) w = stepG.exec P true true fr cs none w := by
  obtain ⟨fn, tmps, todo, defers, mode, kind, ro⟩ := fr
  simp only at hm
  subst hm
  rfl

theorem one_go {fr' : Frame} {cs' : List Frame} (h : (stepG P true (gor fr cs) w).bare = .go (gor fr' cs') w') : Steps P (lone fr cs w) (lone fr' cs' w') := .one (step_lone_go h)

theorem st_pass {x : Item} {kk : List Item} (hm : fr.mode = .run) (ht : fr.todo = x :: kk) (hx : x = .code .skip ∨ (∃ l, x = .code (.label l)) ∨ (∃ l, x = .inBlock l) ∨ (∃ l, x = .inScope l) ∨ (∃ ops, x = .inRegion ops [])) :
    Steps P (lone fr cs w) (lone { fr with todo := kk } cs w) := by
  apply one_go
  rw [st hm]
  rcases hx with rfl | ⟨_, rfl⟩ | ⟨_, rfl⟩ | ⟨_, rfl⟩ | ⟨_, rfl⟩ <;> simp [stepG.exec, ht]

theorem st_seq {a b : Code} {kk : List Item} (hm : fr.mode = .run) (ht : fr.todo = .code (.seq a b) :: kk) : Steps P (lone fr cs w) (lone { fr with todo := .code a :: .code b :: kk } cs w) := by
  apply one_go; rw [st hm]; simp [stepG.exec, ht]
theorem st_cond {x : Operand} {a b : Code} {t : Bool} {kk : List Item} (hm : fr.mode = .run) (ht : fr.todo = .code (.cond x a b) :: kk) (hx : fr.eval x = .bool t) : Steps P (lone fr cs w) (lone { fr with todo := .code (bif t then a else b) :: kk } cs w) := by
  apply one_go; rw [st hm]; cases t <;> simp [stepG.exec, ht, hx]
theorem st_block {id : Nat} {a : Code} {kk : List Item} (hm : fr.mode = .run) (ht : fr.todo = .code (.block id a) :: kk) : Steps P (lone fr cs w) (lone { fr with todo := .code a :: .inBlock id :: kk } cs w) := by
  apply one_go; rw [st hm]; simp [stepG.exec, ht]
theorem st_loop {a : Code} {kk : List Item} (hm : fr.mode = .run) (ht : fr.todo = .code (.loop a) :: kk ∨ fr.todo = .inLoop a :: kk) : Steps P (lone fr cs w) (lone { fr with todo := .code a :: .inLoop a :: kk } cs w) := by
  apply one_go; rw [st hm]; rcases ht with ht | ht <;> simp [stepG.exec, ht]
theorem st_scope {a : Code} {kk : List Item} (hm : fr.mode = .run) (ht : fr.todo = .code (.scope a) :: kk) : Steps P (lone fr cs w) (lone { fr with todo := .code a :: .inScope a :: kk } cs w) := by
  apply one_go; rw [st hm]; simp [stepG.exec, ht]
theorem st_exit {id : Nat} {kk k' : List Item} (hm : fr.mode = .run) (ht : fr.todo = .code (.exit id) :: kk) (hx : exitTo id kk = some k') : Steps P (lone fr cs w) (lone { fr with todo := k' } cs w) := by
  apply one_go; rw [st hm]; simp [stepG.exec, ht, hx]
theorem st_goto {id : Nat} {kk k' : List Item} (hm : fr.mode = .run) (ht : fr.todo = .code (.goto id) :: kk) (hx : gotoIn id kk = some k') : Steps P (lone fr cs w) (lone { fr with todo := k' } cs w) := by
  apply one_go; rw [st hm]; simp [stepG.exec, ht, hx]
theorem st_region {id : Nat} {ops : Array Oper} {kk : List Item} (hm : fr.mode = .run) (ht : fr.todo = .code (.region id ops false) :: kk) : Steps P (lone fr cs w) (lone { fr with todo := .inRegion ops (List.range ops.size) :: kk } cs w) := by
  apply one_go; rw [st hm]; simp [stepG.exec, ht]
theorem st_draw {id : Nat} {ops : Array Oper} {kk : List Item} (hm : fr.mode = .run) (ht : fr.todo = .code (.region id ops true) :: kk) (hmx : P.follows .mixedOrders = true) :
    ∃ t, Steps P (lone fr cs w) (lone { fr with todo := .inRegion ops (Region.linearise .any ops t) :: kk } cs { w with drawn := w.drawn + 1 }) := by
  refine ⟨w.tape w.drawn (.order fr.fn id), ?_⟩
  apply one_go; rw [st hm]
  simp [stepG.exec, ht, choose, Sem.run, Question.forced, Question.cut, Region.schedule, hmx]

/-- Leaving a frame of a function. -/
theorem st_leave (hm : fr.mode = .run) (ht : fr.todo = [] ∨ ∃ kk, fr.todo = .code .ret :: kk) (hr : fr.roundOf = none) : Steps P (lone fr cs w) (lone { fr with mode := .returning } cs w) := by
  apply one_go; rw [st hm]
  rcases ht with ht | ⟨kk, ht⟩ <;> simp [stepG.exec, ht, hr]

theorem st_leave_round {jump : Option Code} {l : Nat} {v : Value} {c : Frame} (hm : fr.mode = .run)
    (ht : (fr.todo = [] ∧ jump = none) ∨ (∃ kk, fr.todo = .code .ret :: kk ∧ jump = some .ret) ∨ (∃ id kk, fr.todo = .code (.exit id) :: kk ∧ exitTo id kk = none ∧ jump = some (.exit id)) ∨ (∃ id kk, fr.todo = .code (.goto id) :: kk ∧ gotoIn id kk = none ∧ jump = some (.goto id)))
    (hr : fr.roundOf = some l) (hk : fr.kind = .normal) (he : (Instr.endRound l jump).run P w = .ok v w') : Steps P (lone fr (c :: cs) w) (lone (c.finish v) cs w') := by
  apply one_go; rw [st hm]
  rcases ht with ⟨ht, rfl⟩ | ⟨kk, ht, rfl⟩ | ⟨id, kk, ht, hx, rfl⟩ | ⟨id, kk, ht, hx, rfl⟩ <;> simp [stepG.exec, ht, hr, he, doReturn, hk] <;> simp [hx]

theorem st_skip {ops : Array Oper} {i : Nat} {rest : List Nat} {kk : List Item} {o : Oper} (hm : fr.mode = .run) (ht : fr.todo = .inRegion ops (i :: rest) :: kk) (ho : ops[i]? = some o) (hw : Region.wanted o (yielded ops fr.tmps) = false) :
    Steps P (lone fr cs w) (lone (fr.finish undef) cs w) := by
  apply one_go; rw [st hm]; simp [stepG.exec, ht, ho, hw]

theorem st_oper {ops : Array Oper} {i : Nat} {rest : List Nat} {kk : List Item} {o : Oper} (hm : fr.mode = .run) (ht : fr.todo = .inRegion ops (i :: rest) :: kk) (ho : ops[i]? = some o) (hw : Region.wanted o (yielded ops fr.tmps) = true)
    (hd : fr.roundOf = none ∨ ∀ c, o.op ≠ .defer c) : stepG P true (gor fr cs) w = stepG.apply P true fr cs none (execOp fr.eval o) w := by
  rw [st hm]
  have hop : fr.oper? = some o := by simp [Frame.oper?, ht, ho]
  simp only [stepG.exec, ht, ho, hw, Option.map_some, Option.getD_some, if_true, stepG.oper, hop]
  rcases hd with hd | hd
  · rw [hd]
  · cases hro : fr.roundOf with
    | none => rfl
    | some l =>
      cases hoo : o.op <;> first | rfl | exact absurd hoo (hd _)

theorem ap_value {s : Sem Next} {v : Value} (hs : s.run P w = .ok (.value v) w') : (stepG.apply P true fr cs none s w).bare = .go (gor (fr.finish v) cs) w' := by
  simp [stepG.apply, hs]
theorem ap_skip {s : Sem Next} (hs : s.run P w = .ok .skip w') : (stepG.apply P true fr cs none s w).bare = .go (gor (fr.finish undef) cs) w' := by
  simp [stepG.apply, hs]
theorem ap_defer {s : Sem Next} {d : Deferred} (hs : s.run P w = .ok (.defer d) w') : (stepG.apply P true fr cs none s w).bare = .go (gor (({ fr with defers := d :: fr.defers } : Frame).finish undef) cs) w' := by
  simp [stepG.apply, hs]
theorem ap_panic {s : Sem Next} {v : Value} (hs : s.run P w = .halt (.panic v) w') : (stepG.apply P true fr cs none s w).bare = .go (gor (fr.raise [{ v, recovered := false }]) cs) w' := by
  simp [stepG.apply, hs]
theorem ap_enter {s : Sem Next} {f : FuncId} {args : Array Value} (hs : s.run P w = .ok (.enter f args) w') (hk : ∀ d wr r sv kk, fr.todo ≠ .call d wr r sv :: kk) :
    (stepG.apply P true fr cs none s w).bare = .go (gor (Frame.enter P f args .normal) (fr :: cs)) w' := by
  simp only [stepG.apply, Sem.runT_eq, hs]
  cases ht : fr.todo with
  | nil => simp
  | cons x kk => cases x <;> first | exact absurd ht (hk _ _ _ _ _) | simp
theorem ap_round {s : Sem Next} {l : Nat} {f : FuncId} {tmps : Array Value} {a b : Code} (hs : s.run P w = .ok (.round l f tmps a b) w') : (stepG.apply P true fr cs none s w).bare = .go (gor (Frame.round l f tmps a b .normal) (fr :: cs)) w' := by
  simp [stepG.apply, hs]
theorem ap_recover {s : Sem Next} (hs : s.run P w = .ok .recover w') (hr : fr.roundOf = none) : (stepG.apply P true fr cs none s w).bare = match tryRecover fr cs with
    | some (v, callers) => .go (gor (fr.finish v) callers) w'
    | none => .go (gor (fr.finish .nilIface) cs) w' := by
  simp only [stepG.apply, Sem.runT_eq, hs, hr, if_true, GStep.bare_after]
  cases tryRecover fr cs with
  | none => rfl
  | some p => cases p; rfl

end

end Go.Ab

namespace Go.Ab
open Go

section
variable {P : Program} {E : Env} {k : K} {h h' : AH} {w : World} {v' : AV} {ev ev' : Operand → AV} {ρ : Operand → Value}

theorem evParts_congr {ps : Array (Nat × Operand)} (hx : ∀ a b, (a, b) ∈ ps → ev b = ev' b) : evParts ev ps = evParts ev' ps := by
  unfold evParts
  refine List.map_congr_left fun p hp => ?_
  rw [hx p.1 p.2 (by simpa using hp)]

theorem opt_congr {x : Option Operand} (hx : ∀ a, x = some a → ev a = ev' a) : x.map ev = x.map ev' := by
  cases x with
  | none => rfl
  | some a => simp [hx a rfl]

theorem map_congr' {xs : Array Operand} (hx : ∀ a ∈ xs, ev a = ev' a) : xs.toList.map ev = xs.toList.map ev' :=
  List.map_congr_left fun a ha => hx a (by simpa using ha)

theorem opA_congr {op : Op} (hx : ∀ x ∈ op.operands, ev x = ev' x) : opA E op ev h = opA E op ev' h := by
  cases op
  case build t ps =>
    have e := evParts_congr (ev := ev) (ev' := ev') (ps := ps) fun a b hab => hx b (by simp only [Op.operands]; simp; exact ⟨a, hab⟩)
    simp only [opA, e]
  case buildSlice t len ps =>
    have e := evParts_congr (ev := ev) (ev' := ev') (ps := ps) fun a b hab => hx b (by simp only [Op.operands]; simp; exact ⟨a, hab⟩)
    simp only [opA, e]
  case makeFunc fn first cap =>
    have e1 := map_congr' (ev := ev) (ev' := ev') (xs := first) fun a ha => hx a (by simp [Op.operands, ha])
    have e2 := map_congr' (ev := ev) (ev' := ev') (xs := cap) fun a ha => hx a (by simp [Op.operands, ha])
    simp only [opA, e1, e2]
  case slice t x lo hi mx =>
    have e0 := hx x (by simp [Op.operands])
    have e1 := opt_congr (ev := ev) (ev' := ev') (x := lo) fun a ha => hx a (by simp [Op.operands, ha])
    have e2 := opt_congr (ev := ev) (ev' := ev') (x := hi) fun a ha => hx a (by simp [Op.operands, ha])
    have e3 := opt_congr (ev := ev) (ev' := ev') (x := mx) fun a ha => hx a (by simp [Op.operands, ha])
    simp only [opA, e0, e1, e2, e3]
  case next it b =>
    have e0 := hx it (by simp [Op.operands])
    cases b <;> simp only [opA, e0]
  all_goals first
    | rfl
    | (simp [Op.operands] at hx; simp only [opA, hx])

theorem askA_congr {o : Oper} (hx : ∀ x ∈ o.op.operands, ev x = ev' x) : askA E o ev h = askA E o ev' h := by
  obtain ⟨dst, op, ty, pos, after, guard⟩ := o
  simp only at hx
  cases op
  case call c =>
    have hc : ∀ x ∈ c.operands, ev x = ev' x := by simpa only [Op.operands] using hx
    obtain ⟨cal, args, at'⟩ := c
    have ea := map_congr' (ev := ev) (ev' := ev') (xs := args) fun a ha => hc a (by cases cal <;> simp [Call.operands, ha])
    cases cal with
    | builtin b =>
      cases b
      case panic =>
        simp only [askA]
        generalize hl : args.toList = l
        cases l with
        | nil => rfl
        | cons x r => cases r with
          | nil =>
            have := hc x (by simp [Call.operands]; simpa using (show x ∈ args.toList by simp [hl]))
            simp only [this]
          | cons _ _ => rfl
      all_goals simp only [askA, ea]
    | invoke r name =>
      have := hc r (by simp [Call.operands])
      simp only [askA, ea, this]
    | value f =>
      have := hc f (by simp [Call.operands])
      simp only [askA, ea, this]
  case defer c =>
    have hc : ∀ x ∈ c.operands, ev x = ev' x := by simpa only [Op.operands] using hx
    obtain ⟨cal, args, at'⟩ := c
    have ea := map_congr' (ev := ev) (ev' := ev') (xs := args) fun a ha => hc a (by cases cal <;> simp [Call.operands, ha])
    cases cal with
    | builtin b => rfl
    | invoke r name =>
      have := hc r (by simp [Call.operands])
      simp only [askA, ea, this]
    | value f =>
      have := hc f (by simp [Call.operands])
      simp only [askA, ea, this]
  case panic x =>
    have := hx x (by simp [Op.operands])
    simp only [askA, this]
  all_goals
    simp only [askA]
    rw [opA_congr (E := E) (h := h) hx]

/-- What an operation's work is, of what is asked. -/
def AskOut (P : Program) (k : K) (h : AH) (w : World) : Ask → Result Next → Prop
  | .val v h', r => OpOut k h w v h' r
  | .call fv args, r => ∃ (fn : Fn) (first captured vs : Array Value), VR k w fv (.func fn first captured) ∧ VRL k w args vs.toList ∧ r = (invoke (.fn fn captured) (first ++ vs)).run P w
  | .defer d, r => ∃ dd, r = .ok (.defer dd) w ∧ DR k w d dd
  | .recover, r => r = .ok .recover w
  | .panic v, r => ∃ u, r = .halt (.panic u) w ∧ VR k w v u

theorem VRL.of_map {xs : Array Operand} (hev : ∀ x ∈ xs, VR k w (ev x) (ρ x)) : VRL k w (xs.toList.map ev) (xs.map ρ).toList := by
  have key : ∀ l : List Operand, (∀ x ∈ l, VR k w (ev x) (ρ x)) → VRL k w (l.map ev) (l.map ρ) := by
    intro l
    induction l with
    | nil => intro _; simp only [List.map_nil, VRL]
    | cons x r ih =>
      intro hl
      simp only [List.map_cons, VRL]
      exact ⟨_, _, rfl, hl x (by simp), ih fun y hy => hl y (by simp [hy])⟩
  rw [Array.toList_map]
  exact key _ fun x hx => hev x (by simpa using hx)

theorem askA_sound_all (hE : EnvOk P E) (hk : k.sz = ⟨P.cellsOf, E.sel, E.tok, E.str⟩) (hr : HR k h w) {o : Oper} (hev : ∀ x, VR k w (ev x) (ρ x)) {a : Ask} (ho : askA E o ev h = some a) : AskOut P k h w a ((execOp ρ o).run P w) := by
  have old : ∀ {v h'}, opA E o.op ev h = some (v, h') → AskOut P k h w (.val v h') ((execOp ρ o).run P w) := fun h1 => opA_sound hE hk hr hev h1
  obtain ⟨dst, op, ty, pos, after, guard⟩ := o
  simp only at old
  have callCase : ∀ {f : Operand} {c : Call} {fn : Fn} {x y : List AV}, ev f = .func fn x y → ∃ (first captured : Array Value) (fn' : Fn), ρ f = .func fn' first captured ∧ VR k w (.func fn x y) (.func fn' first captured) := by
    intro f c fn x y hf
    have hv := hev f
    rw [hf] at hv
    have hv' := hv
    cases fn <;> simp only [VR] at hv
    case yield => obtain ⟨b, _, h2, _⟩ := hv; exact ⟨_, _, _, h2, by rw [← h2]; exact hv'⟩
    all_goals obtain ⟨_, _, h2, _⟩ := hv; exact ⟨_, _, _, h2, by rw [← h2]; exact hv'⟩
  cases op
  case call c =>
    obtain ⟨cal, args, at'⟩ := c
    have ha : VRL k w (args.toList.map ev) (args.map ρ).toList := VRL.of_map fun x _ => hev x
    cases cal with
    | builtin b =>
      have gen : ∀ {v h'}, builtinA E b at' ty (args.toList.map ev) h = some (v, h') → AskOut P k h w (.val v h') ((execOp ρ ⟨dst, .call ⟨.builtin b, args, at'⟩, ty, pos, after, guard⟩).run P w) := by
        intro v h' hb
        simp only [execOp, resolve, invoke, AskOut, Sem.run_bind, Sem.run_pure, Result.andThen_ok]
        exact builtinA_sound hE hk hr ha hb
      cases b
      case recover =>
        simp only [askA, Option.some.injEq] at ho
        subst ho
        simp [AskOut, execOp, resolve, invoke, builtin]
      case panic =>
        simp only [askA] at ho
        split at ho
        case h_2 => cases ho
        rename_i x hl
        split at ho
        case h_2 => cases ho
        rename_i t u hx
        simp only [Option.some.injEq] at ho
        subst ho
        have hv := hev x
        rw [hx] at hv
        have hv' := hv
        simp only [VR] at hv
        obtain ⟨y, h1, h2⟩ := hv
        refine ⟨ρ x, ?_, hv'⟩
        have e1 : args.map ρ = #[ρ x] := by
          apply Array.toList_inj.1
          simp [hl]
        simp [execOp, resolve, invoke, builtin, e1, h1, Instr.panic]
      all_goals
        simp only [askA] at ho
        split at ho
        case h_2 => cases ho
        rename_i hb
        simp only [Option.some.injEq] at ho
        subst ho
        exact gen hb
    | invoke r name =>
      simp only [askA, Option.some.injEq] at ho
      subst ho
      refine ⟨.method name, #[], #[], #[ρ r] ++ args.map ρ, ?_, ?_, ?_⟩
      · simp only [VR]; exact ⟨_, _, rfl, by simp [VRL], by simp [VRL]⟩
      · simp only [Array.toList_append, List.cons_append, List.nil_append, VRL]; exact ⟨_, _, rfl, hev r, ha⟩
      · simp [execOp, resolve]
    | value f =>
      simp only [askA] at ho
      split at ho
      case h_2 => cases ho
      rename_i fn x y hf
      simp only [Option.some.injEq] at ho
      subst ho
      obtain ⟨first, captured, fn', h1, h2⟩ := callCase (c := default) hf
      exact ⟨fn', first, captured, args.map ρ, h2, ha, by simp [execOp, resolve, h1, Deferred.ofValue]⟩
  case defer c =>
    obtain ⟨cal, args, at'⟩ := c
    have ha : VRL k w (args.toList.map ev) (args.map ρ).toList := VRL.of_map fun x _ => hev x
    cases cal with
    | builtin b => simp only [askA] at ho; cases ho
    | invoke r name =>
      simp only [askA, Option.some.injEq] at ho
      subst ho
      refine ⟨{ target := .fn (.method name) #[], args := #[ρ r] ++ args.map ρ }, by simp [execOp, resolve], ?_⟩
      refine ⟨.func (.method name) #[] #[], #[ρ r] ++ args.map ρ, ?_, ?_, by simp⟩
      · simp only [VR]; exact ⟨_, _, rfl, by simp [VRL], by simp [VRL]⟩
      · simp only [Array.toList_append, List.cons_append, List.nil_append, VRL]; exact ⟨_, _, rfl, hev r, ha⟩
    | value f =>
      simp only [askA] at ho
      split at ho
      case h_2 => cases ho
      rename_i fn x y hf
      simp only [Option.some.injEq] at ho
      subst ho
      obtain ⟨first, captured, fn', h1, h2⟩ := callCase (c := default) hf
      exact ⟨{ target := .fn fn' captured, args := first ++ args.map ρ }, by simp [execOp, resolve, h1, Deferred.ofValue], .func fn' first captured, args.map ρ, h2, ha, rfl⟩
  case panic x =>
    simp only [askA] at ho
    split at ho
    case h_2 => cases ho
    rename_i t u hx
    simp only [Option.some.injEq] at ho
    subst ho
    have hv := hev x
    rw [hx] at hv
    have hv' := hv
    simp only [VR] at hv
    obtain ⟨y, h1, h2⟩ := hv
    exact ⟨ρ x, by simp [execOp, h1, Instr.panic], hv'⟩
  all_goals
    simp only [askA] at ho
    split at ho
    case h_2 => cases ho
    rename_i hb
    simp only [Option.some.injEq] at ho
    subst ho
    exact old hb

open Classical in
theorem askA_sound (hE : EnvOk P E) (hk : k.sz = ⟨P.cellsOf, E.sel, E.tok, E.str⟩) (hr : HR k h w) {o : Oper} (hev : ∀ x ∈ o.op.operands, VR k w (ev x) (ρ x)) {a : Ask} (ho : askA E o ev h = some a) : AskOut P k h w a ((execOp ρ o).run P w) := by
  refine askA_sound_all hE hk hr (ev := fun x => if x ∈ o.op.operands then ev x else .any) (fun x => ?_) (a := a) ?_
  · by_cases hx : x ∈ o.op.operands
    · simp only [if_pos hx]; exact hev x hx
    · simp only [if_neg hx, VR]
  · rw [← ho]
    refine (askA_congr fun x hx => ?_).symm
    simp only [if_pos hx]

end
end Go.Ab

namespace Go.Ab
open Go

section
variable {P : Program} {E : Env} {k k' k1 : K} {h h' h1 : AH} {w w' w1 : World} {v' : AV} {ev ev' : Operand → AV} {ρ : Operand → Value}

inductive Starts (P : Program) (kind : CallKind) : Next → Frame → Prop
  | enter (f : FuncId) (args : Array Value) : Starts P kind (.enter f args) (Frame.enter P f args kind)
  | round (l : Nat) (f : FuncId) (tmps : Array Value) (a b : Code) : Starts P kind (.round l f tmps a b) (Frame.round l f tmps a b kind)

/-- A frame over a caller comes to its end. -/
def Ret (P : Program) (k : K) (w1 : World) (fr0 caller : Frame) (cs : List Frame) (w : World) : ARes → Prop
  | .ret x => ∃ v, VR k w1 x v ∧ Steps P (lone fr0 (caller :: cs) w) (lone (caller.finish v) cs w1)
  | .pan ch => ∃ chain, CR k w1 ch chain ∧ Steps P (lone fr0 (caller :: cs) w) (lone (caller.raise chain) cs w1)

def CallN (P : Program) (k : K) (h : AH) (w : World) (res : ARes) (h' : AH) (r : Result Next) : Prop :=
  ∃ nx w1, r = .ok nx w1 ∧
    ((∃ x v k', res = .ret x ∧ nx = .value v ∧ VR k' w1 x v ∧ HR k' h' w1 ∧ Ev k k' h h' w w1) ∨
     (∃ fr0, Starts P .normal nx fr0 ∧ ∀ caller cs, ∃ k' w', HR k' h' w' ∧ Ev k k' h h' w w' ∧ Ret P k' w' fr0 caller cs w1 res))

def ModeR (k : K) (w : World) : AMode → FrameMode → Prop
  | .ret, m => m = .returning
  | .pan ch, m => ∃ chain, m = .panicking chain ∧ CR k w ch chain

def CallDf (P : Program) (k : K) (h : AH) (w : World) (m : AMode) (h' : AH) (rc' : RC) (r : Result Next) : Prop :=
  ∃ nx w1 fr0, r = .ok nx w1 ∧ Starts P .deferred nx fr0 ∧ ∀ caller cs, ModeR k w m caller.mode → ∃ k' w' mode', HR k' h' w' ∧ Ev k k' h h' w w' ∧ ModeR k' w' (settle m rc') mode' ∧
    Steps P (lone fr0 (caller :: cs) w1) (lone { caller with mode := mode' } cs w')

structure FU (k : K) (w : World) (c : Ctx) (m : AMode) (tmps : T AV) (defs : List AD) (fr : Frame) : Prop where
  fn : fr.fn = c.fn
  tmps : TR k w c.n tmps fr.tmps
  defs : DRL k w defs fr.defers
  mode : ModeR k w m fr.mode
  kind : fr.kind = c.kind
  round : match c.round with
    | none => fr.roundOf = none
    | some l => ∃ b, k.ρ l = some (b, 0) ∧ fr.roundOf = some b
  early : c.kind = .normal ∨ c.kind = .deferred

def NoRec (m : FrameMode) : Prop := ∀ v older, m ≠ .panicking ({ v, recovered := false, goexit := false } :: older)

def RCR (k : K) (w : World) (rc : RC) (kind : CallKind) (cs : List Frame) : Prop :=
  match rc with
  | .can v => kind = .deferred ∧ ∃ caller rest u older, cs = caller :: rest ∧ caller.mode = .panicking ({ v := u, recovered := false, goexit := false } :: older) ∧ VR k w v u
  | _ => kind = .deferred → ∀ caller rest, cs = caller :: rest → NoRec caller.mode

theorem RCR.mono (hle : Le k k' w w') {rc : RC} {kind : CallKind} {cs : List Frame} (hr : RCR k w rc kind cs) : RCR k' w' rc kind cs := by
  cases rc with
  | can v =>
    obtain ⟨h1, caller, rest, u, older, h2, h3, h4⟩ := hr
    exact ⟨h1, caller, rest, u, older, h2, h3, VR.mono hle _ _ h4⟩
  | no => exact hr
  | used => exact hr

/-- What has become of the callers. -/
def After (rc : RC) (cs : List Frame) (rc' : RC) (cs' : List Frame) : Prop :=
  (rc' = rc ∧ cs' = cs) ∨ (∃ v caller rest u older, rc = .can v ∧ rc' = .used ∧ cs = caller :: rest ∧ caller.mode = .panicking ({ v := u, recovered := false, goexit := false } :: older) ∧
    cs' = { caller with mode := .panicking ({ v := u, recovered := true, goexit := false } :: older) } :: rest)

def Ends (P : Program) (k : K) (w : World) (c : Ctx) (res : ARes) (fr : Frame) : Prop :=
  fr.fn = c.fn ∧ fr.kind = c.kind ∧ fr.roundOf = none ∧ fr.defers = [] ∧ ∃ F, P.funcs[c.fn]? = some F ∧ match res with
    | .ret x => fr.mode = .returning ∧ ∃ v, (results F fr.tmps).run P w = .ok v w ∧ VR k w x v
    | .pan ch => ∃ chain, fr.mode = .panicking chain ∧ CR k w ch chain

def RunOut (P : Program) (k : K) (h : AH) (w : World) (c : Ctx) (rc : RC) (cs : List Frame) (fr : Frame) (res : ARes) (h' : AH) (rc' : RC) : Prop :=
  ∃ k' w', HR k' h' w' ∧ Ev k k' h h' w w' ∧ match c.round with
    | none => ∃ cs' fr', After rc cs rc' cs' ∧ Steps P (lone fr cs w) (lone fr' cs' w') ∧ Ends P k' w' c res fr'
    | some _ => ∀ caller rest, cs = caller :: rest → Ret P k' w' fr caller rest w res

theorem Ret.pre {fr0 fr1 caller : Frame} {cs : List Frame} {w0 : World} {res : ARes} (hs : Steps P (lone fr0 (caller :: cs) w0) (lone fr1 (caller :: cs) w)) (hr : Ret P k' w' fr1 caller cs w res) : Ret P k' w' fr0 caller cs w0 res := by
  cases res with
  | ret x => obtain ⟨v, h1, h2⟩ := hr; exact ⟨v, h1, hs.trans h2⟩
  | pan ch => obtain ⟨v, h1, h2⟩ := hr; exact ⟨v, h1, hs.trans h2⟩

/-- One stretch ahead of the rest. -/
theorem RunOut.pre {c : Ctx} {rc rc' : RC} {cs : List Frame} {fr fr1 : Frame} {res : ARes} (he : Ev k k1 h h1 w w1) (hs : Steps P (lone fr cs w) (lone fr1 cs w1)) (ho : RunOut P k1 h1 w1 c rc cs fr1 res h' rc') : RunOut P k h w c rc cs fr res h' rc' := by
  obtain ⟨k2, w2, r2, e2, h2⟩ := ho
  refine ⟨k2, w2, r2, he.trans e2, ?_⟩
  cases hcr : c.round with
  | none =>
    rw [hcr] at h2
    obtain ⟨cs', fr', a1, a2, a3⟩ := h2
    exact ⟨cs', fr', a1, hs.trans a2, a3⟩
  | some l =>
    rw [hcr] at h2
    intro caller rest hcs
    have := h2 caller rest hcs
    subst hcs
    exact this.pre hs

/-- The frame after an operation. -/
theorem FR.fin {c : Ctx} {tmps tmps' : T AV} {ops : Array Oper} {i : Nat} {rest : List Nat} {kk : List Item} {defs : List AD} {fr : Frame} {o : Oper} {x : AV} {v : Value}
    (f : FR k w c tmps (.inRegion ops (i :: rest) :: kk) defs fr) (ho : ops[i]? = some o) (hd : setDst c.n o.dst x tmps = some tmps') (hv : VR k w x v) : FR k w c tmps' (.inRegion ops rest :: kk) defs (fr.finish v) := by
  have ht := f.todo
  simp only [IR] at ht
  obtain ⟨kk', h1, h2⟩ := ht
  have e : fr.finish v = { fr with tmps := match o.dst with | some d => fr.tmps.setIfInBounds d v | none => fr.tmps, todo := .inRegion ops rest :: kk' } := by
    simp only [Frame.finish, h1, ho, Option.bind_some]
    cases o.dst <;> rfl
  rw [e]
  refine ⟨f.fn, ?_, ?_, f.defs, f.mode, f.kind, f.round, f.early⟩
  · cases hdst : o.dst with
    | none =>
      rw [hdst] at hd
      simp only [setDst, Option.some.injEq] at hd
      subst hd
      exact f.tmps
    | some d =>
      rw [hdst] at hd
      simp only [setDst] at hd
      cases hb : (Nat.blt d c.n && Nat.blt d limF) with
      | false => rw [hb] at hd; cases hd
      | true =>
        rw [hb] at hd
        simp only [cond_true, Option.some.injEq] at hd
        subst hd
        simp only [Bool.and_eq_true] at hb
        have hb1 : d < c.n := Nat.le_of_ble_eq_true hb.1
        have hb2 : d < limF := Nat.le_of_ble_eq_true hb.2
        have hsz : fr.tmps.size = c.n := f.tmps.1
        have hd3 : d < fr.tmps.size := by rw [hsz]; exact hb1
        refine ⟨by simp [hsz], fun j => ?_⟩
        rw [T.get_put' 10 tmps d j (some x) (by simpa using hb2)]
        by_cases e : j = d
        · subst e
          rw [if_pos rfl]
          have : (fr.tmps.setIfInBounds j v).getD j undef = v := by
            simp [Array.getD, hd3]
          simp only [this, Option.getD_some]
          exact hv
        · rw [if_neg e]
          have : (fr.tmps.setIfInBounds d v).getD j undef = fr.tmps.getD j undef := by
            have e' : d ≠ j := fun x => e x.symm
            simp only [Array.getD_eq_getD_getElem?, Array.getElem?_setIfInBounds_ne e']
          rw [this]
          exact f.tmps.2 j
  · simp only [IR]; exact ⟨kk', rfl, h2⟩

/-- Whether an operation's guard lets it be done. -/
theorem wanted_sound {ops : Array Oper} {o : Oper} {tmps : T AV} {ts : Array Value} (ht : ∀ j want d, o.guard = some (j, want) → (ops[j]?).bind (·.dst) = some d → VR k w ((T.get deepF tmps d).getD (.tup [])) (ts.getD d undef)) {b : Bool} (hw : wantedA ops o tmps = some b) : Region.wanted o (yielded ops ts) = b := by
  unfold wantedA at hw
  unfold Region.wanted
  cases hg : o.guard with
  | none => rw [hg] at hw; cases hw; rfl
  | some p =>
    obtain ⟨j, want⟩ := p
    rw [hg] at hw
    try simp only at hw
    unfold yielded
    cases hd : (ops[j]?).bind (·.dst) with
    | none => rw [hd] at hw; cases hw; simp only [hd]; rfl
    | some d =>
      simp only [hd]
      rw [hd] at hw
      have hv := ht j want d hg hd
      try simp only [Option.bind_some]
      try simp only at hw
      have tupCase : ts.getD d undef = .tuple #[] → b = false → ((match ts[d]? with | some (.bool b) => some b | _ => none) == some want) = b := by
        intro h1 h2
        subst h2
        cases he : ts[d]? with
        | none => rfl
        | some u =>
          have : ts.getD d undef = u := by simp [Array.getD_eq_getD_getElem?, he]
          rw [this] at h1
          subst h1
          rfl
      cases hx : T.get deepF tmps d with
      | none =>
        rw [hx] at hw hv
        cases hw
        simp only [Option.getD_none, VR] at hv
        obtain ⟨vs, h1, h2⟩ := hv
        simp only [VRL] at h2
        have : vs = #[] := by apply Array.toList_inj.1; simpa using h2
        subst this
        exact tupCase h1 rfl
      | some x =>
        rw [hx] at hw hv
        simp only [Option.getD_some] at hv
        cases x <;> (try simp only at hw) <;> try (cases hw; done)
        case bool c =>
          cases hw
          simp only [VR] at hv
          cases he : ts[d]? with
          | none =>
            simp only [Array.getD_eq_getD_getElem?, he, Option.getD_none, undef] at hv
            cases hv
          | some u =>
            simp only [Array.getD_eq_getD_getElem?, he, Option.getD_some] at hv
            subst hv
            rfl
        case tup cs =>
          cases cs with
          | cons _ _ => cases hw
          | nil =>
            cases hw
            simp only [VR] at hv
            obtain ⟨vs, h1, h2⟩ := hv
            simp only [VRL] at h2
            have : vs = #[] := by apply Array.toList_inj.1; simpa using h2
            subst this
            exact tupCase h1 rfl

/-- The operation at hand is left out. -/
theorem IR.head {x : Item} {r : List Item} {kk : List Item} (hx : (∀ l, x ≠ .inRangeFunc l) ∧ (∀ l, x ≠ .endRangeFunc l)) (h : IR k (x :: r) kk) : ∃ r', kk = x :: r' ∧ IR k r r' := by
  cases x <;> simp only [IR] at h <;> first | exact h | exact absurd rfl (hx.1 _) | exact absurd rfl (hx.2 _)

theorem IR.cons {x : Item} {r r' : List Item} (hx : (∀ l, x ≠ .inRangeFunc l) ∧ (∀ l, x ≠ .endRangeFunc l)) (h : IR k r r') : IR k (x :: r) (x :: r') := by
  cases x <;> simp only [IR] <;> first | exact ⟨_, rfl, h⟩ | exact absurd rfl (hx.1 _) | exact absurd rfl (hx.2 _)

theorem FR.to {c : Ctx} {tmps : T AV} {todo todo' : List Item} {defs : List AD} {fr : Frame} {kk : List Item} (f : FR k w c tmps todo defs fr) (hi : IR k todo' kk) : FR k w c tmps todo' defs { fr with todo := kk } :=
  ⟨f.fn, f.tmps, hi, f.defs, f.mode, f.kind, f.round, f.early⟩

theorem exitTo_IR {id : Nat} : ∀ {x y r : List Item}, IR k x y → exitTo id x = some r → ∃ r', exitTo id y = some r' ∧ IR k r r'
  | [], y, r, _, h => by simp [exitTo] at h
  | a :: x, y, r, hi, h => by
    by_cases ha : (∀ l, a ≠ .inRangeFunc l) ∧ (∀ l, a ≠ .endRangeFunc l)
    · obtain ⟨y', rfl, h2⟩ := hi.head ha
      cases a
      case inBlock id' =>
        simp only [exitTo] at h ⊢
        by_cases e : (id' == id) = true
        · rw [if_pos e] at h ⊢
          cases h
          exact ⟨_, rfl, h2⟩
        · rw [if_neg e] at h ⊢
          exact exitTo_IR h2 h
      all_goals
        simp only [exitTo] at h ⊢
        exact exitTo_IR h2 h
    · cases a <;> simp only [IR] at hi
      case inRangeFunc l =>
        obtain ⟨b, y', rfl, _, h2⟩ := hi
        simp only [exitTo] at h ⊢
        exact exitTo_IR h2 h
      case endRangeFunc l =>
        obtain ⟨b, y', rfl, _, h2⟩ := hi
        simp only [exitTo] at h ⊢
        exact exitTo_IR h2 h
      all_goals exact absurd ⟨fun l => (by intro h; cases h), fun l => (by intro h; cases h)⟩ ha

theorem exitTo_IR_none {id : Nat} : ∀ {x y : List Item}, IR k x y → exitTo id x = none → exitTo id y = none
  | [], y, hi, h => by simp only [IR] at hi; subst hi; rfl
  | a :: x, y, hi, h => by
    by_cases ha : (∀ l, a ≠ .inRangeFunc l) ∧ (∀ l, a ≠ .endRangeFunc l)
    · obtain ⟨y', rfl, h2⟩ := hi.head ha
      cases a
      case inBlock id' =>
        simp only [exitTo] at h ⊢
        by_cases e : (id' == id) = true
        · rw [if_pos e] at h; cases h
        · rw [if_neg e] at h ⊢
          exact exitTo_IR_none h2 h
      all_goals
        simp only [exitTo] at h ⊢
        exact exitTo_IR_none h2 h
    · cases a <;> simp only [IR] at hi
      case inRangeFunc l =>
        obtain ⟨b, y', rfl, _, h2⟩ := hi
        simp only [exitTo] at h ⊢
        exact exitTo_IR_none h2 h
      case endRangeFunc l =>
        obtain ⟨b, y', rfl, _, h2⟩ := hi
        simp only [exitTo] at h ⊢
        exact exitTo_IR_none h2 h
      all_goals exact absurd ⟨fun l => (by intro h; cases h), fun l => (by intro h; cases h)⟩ ha

theorem gotoIn_IR {id : Nat} : ∀ {x y : List Item}, IR k x y → (∀ r, gotoIn id x = some r → ∃ r', gotoIn id y = some r' ∧ IR k r r') ∧ (gotoIn id x = none → gotoIn id y = none)
  | [], y, hi => by simp only [IR] at hi; subst hi; exact ⟨fun r h => by simp [gotoIn] at h, fun _ => rfl⟩
  | a :: x, y, hi => by
    by_cases ha : (∀ l, a ≠ .inRangeFunc l) ∧ (∀ l, a ≠ .endRangeFunc l)
    · obtain ⟨y', rfl, h2⟩ := hi.head ha
      cases a
      case inScope body =>
        simp only [gotoIn]
        cases hf : findLabel body id with
        | none => exact gotoIn_IR h2
        | some rest => exact ⟨fun r h => by cases h; exact ⟨_, rfl, .cons ⟨nofun, nofun⟩ (.cons ⟨nofun, nofun⟩ h2)⟩, nofun⟩
      all_goals
        simp only [gotoIn]
        exact gotoIn_IR h2
    · cases a <;> simp only [IR] at hi
      case inRangeFunc l =>
        obtain ⟨b, y', rfl, _, h2⟩ := hi
        simp only [gotoIn]
        exact gotoIn_IR h2
      case endRangeFunc l =>
        obtain ⟨b, y', rfl, _, h2⟩ := hi
        simp only [gotoIn]
        exact gotoIn_IR h2
      all_goals exact absurd ⟨fun l => (by intro h; cases h), fun l => (by intro h; cases h)⟩ ha

end
end Go.Ab

namespace Go.Ab
open Go

section
variable {P : Program} {E : Env} {k k' k1 : K} {h h' h1 : AH} {w w' w1 : World} {v' : AV}

theorem get_putArgs : ∀ (xs : List AV) (i : Nat) (t : T AV) (j : Nat), i + xs.length ≤ limF → T.get deepF (putArgs i xs t) j = if i ≤ j ∧ j < i + xs.length then xs[j - i]? else T.get deepF t j
  | [], i, t, j, _ => by
    simp only [putArgs, List.length_nil, Nat.add_zero]
    rw [if_neg (by omega)]
  | x :: xs, i, t, j, hl => by
    simp only [List.length_cons] at hl
    simp only [putArgs, List.length_cons]
    rw [get_putArgs xs (i + 1) _ j (by omega), T.get_put' 10 t i j (some x) (by simp only [limF] at hl; omega)]
    by_cases e : j = i
    · subst e
      rw [if_neg (by omega), if_pos rfl, if_pos (by omega)]
      simp
    · by_cases e2 : i + 1 ≤ j ∧ j < i + 1 + xs.length
      · rw [if_pos e2, if_pos (by omega), show j - i = (j - (i + 1)) + 1 by omega]
        simp
      · rw [if_neg e2, if_neg e, if_neg (by omega)]

theorem putArgs_sound {xs : List AV} {vs : Array Value} (hv : VRL k w xs vs.toList) {n : Nat} (hn : xs.length ≤ n) (hl : n < limF) : TR k w n (putArgs 0 xs .e) (vs ++ Array.replicate (n - vs.size) undef) := by
  have hs : vs.size = xs.length := by have := hv.length; simpa using this
  refine ⟨by simp [hs]; omega, fun j => ?_⟩
  rw [get_putArgs xs 0 _ j (by omega), T.get_e]
  by_cases e : j < xs.length
  · rw [if_pos (by omega)]
    have hx : xs[j - 0]? = some xs[j] := by simp [e]
    obtain ⟨v, h1, h2⟩ := hv.get j xs[j] (by simp [e])
    rw [hx]
    have : (vs ++ Array.replicate (n - vs.size) undef).getD j undef = v := by
      rw [Array.getD_eq_getD_getElem?, Array.getElem?_append_left (by omega)]
      rw [Array.getElem?_toList] at h1
      rw [h1]; rfl
    rw [this]
    exact h2
  · rw [if_neg (by omega)]
    have : (vs ++ Array.replicate (n - vs.size) undef).getD j undef = undef := by
      rw [Array.getD_eq_getD_getElem?, Array.getElem?_append_right (by omega)]
      by_cases e2 : j - vs.size < n - vs.size
      · simp [e2]
      · simp [e2]
    rw [this]
    simp only [Option.getD_none, VR]
    exact ⟨#[], rfl, by simp only [VRL]⟩

theorem TR.put {n : Nat} {t : T AV} {tmps : Array Value} (ht : TR k w n t tmps) {d : Nat} {x : AV} {v : Value} (hv : VR k w x v) (h1 : d < n) (h2 : d < limF) : TR k w n (T.put deepF t d (some x)) (tmps.setIfInBounds d v) := by
  refine ⟨by simp [ht.1], fun j => ?_⟩
  rw [T.get_put' 10 t d j (some x) (by simpa using h2)]
  have hs := ht.1
  by_cases e : j = d
  · subst e
    rw [if_pos rfl]
    have : (tmps.setIfInBounds j v).getD j undef = v := by simp [Array.getD, show j < tmps.size by rw [hs]; exact h1]
    rw [this]; exact hv
  · rw [if_neg e]
    have : (tmps.setIfInBounds d v).getD j undef = tmps.getD j undef := by
      simp only [Array.getD_eq_getD_getElem?, Array.getElem?_setIfInBounds_ne (fun x => e x.symm)]
    rw [this]; exact ht.2 j

theorem putParams_sound {n : Nat} : ∀ {ps : List Nat} {xs : List AV} {vs : List Value} {t : T AV} {tmps : Array Value}, TR k w n t tmps → VRL k w xs vs → (ps.all (fun p => Nat.blt p n && Nat.blt p limF)) = true →
    TR k w n (putParams ps xs t) ((ps.zip vs).foldl (fun tmps (t, a) => tmps.setIfInBounds t a) tmps)
  | [], xs, vs, t, tmps, ht, _, _ => by simpa [putParams] using ht
  | p :: ps, [], vs, t, tmps, ht, hv, _ => by simp only [VRL] at hv; subst hv; simpa [putParams] using ht
  | p :: ps, x :: xs, vs, t, tmps, ht, hv, hp => by
    simp only [VRL] at hv
    obtain ⟨v, vs', rfl, h1, h2⟩ := hv
    simp only [List.all_cons, Bool.and_eq_true] at hp
    simp only [putParams, List.zip_cons_cons, List.foldl_cons]
    exact putParams_sound (ht.put h1 (Nat.le_of_ble_eq_true hp.1.1) (Nat.le_of_ble_eq_true hp.1.2)) h2 hp.2

/-! Loops over functions -/

theorem loop_at (hr : HR k h w) {l : Nat} {st : LoopState} {pend : Option Code} {fn n : Nat} {ts : T AV} {ps : List Nat} {as' bd : Code} {d : Nat} (hg : h.get l = some (.loop st pend fn n ts ps as' bd d)) {b : Nat} {sh : Nat} (hb : k.ρ l = some (b, sh)) :
    sh = 0 ∧ ∃ (r : Loop) (db : Nat), w.heap[b]? = some (.loop r) ∧ r.state = st ∧ r.pending = pend ∧ r.fn = fn ∧ r.params.toList = ps ∧ r.assign = as' ∧ r.body = bd ∧ TR k w n ts r.tmps ∧ k.ρ d = some (db, 0) ∧ r.defers = db := by
  obtain ⟨b', sh', h1, h2⟩ := hr.obj l _ hg
  rw [hb] at h1
  cases h1
  exact h2

theorem run_getLoop {b : Nat} {r : Loop} (hb : w.heap[b]? = some (.loop r)) : (Instr.getLoop b).run P w = .ok r w := by
  simp [Instr.getLoop, getObj, Sem.run, hb]

/-- The loop's object is laid anew, with another state. -/
theorem loop_set (hr : HR k h w) {l : Nat} {st st' : LoopState} {pend pend' : Option Code} {fn n : Nat} {ts : T AV} {ps : List Nat} {as' bd : Code} {d : Nat} (hg : h.get l = some (.loop st pend fn n ts ps as' bd d)) {b : Nat} (hb : k.ρ l = some (b, 0)) {r : Loop} (hw : w.heap[b]? = some (.loop r)) :
    (Go.setObj b (.loop { r with state := st', pending := pend' })).run P w = .ok () { w with heap := w.heap.setIfInBounds b (.loop { r with state := st', pending := pend' }) } ∧
    HR k (h.set l (some (.loop st' pend' fn n ts ps as' bd d))) { w with heap := w.heap.setIfInBounds b (.loop { r with state := st', pending := pend' }) } ∧
    Ev k k h (h.set l (some (.loop st' pend' fn n ts ps as' bd d))) w { w with heap := w.heap.setIfInBounds b (.loop { r with state := st', pending := pend' }) } := by
  obtain ⟨_, r0, db, g1, g2, g3, g4, g5, g6, g7, g8, g9, g10⟩ := loop_at hr hg hb
  rw [hw] at g1
  cases g1
  refine ⟨run_setObj hw (by simp), ?_⟩
  exact hr.setObj (ob' := .loop st' pend' fn n ts ps as' bd d) hg hb hw (by simp) fun le hnew => ⟨rfl, { r with state := st', pending := pend' }, db, hnew, rfl, rfl, g4, g5, g6, g7, g8.mono le, g9, g10⟩

theorem yield_sound (hr : HR k h w) {l : Nat} {st : LoopState} {pend : Option Code} {fn n : Nat} {ts : T AV} {ps : List Nat} {as' bd : Code} {d : Nat} (hg : h.get l = some (.loop st pend fn n ts ps as' bd d)) {b : Nat} (hb : k.ρ l = some (b, 0))
    {args : List AV} {vs : Array Value} (hv : VRL k w args vs.toList) (hl : args.length = ps.length) (hp : (ps.all (fun p => Nat.blt p n && Nat.blt p limF)) = true) :
    ∃ tmps, (Instr.yield b vs).run P w = .ok (.round b fn tmps as' bd) w ∧ TR k w n (putParams ps args ts) tmps := by
  obtain ⟨_, r, db, g1, g2, g3, g4, g5, g6, g7, g8, g9, g10⟩ := loop_at hr hg hb
  have hs : vs.size = args.length := by have := hv.length; simpa using this
  have hps : r.params.size = ps.length := by rw [← g5]; simp
  refine ⟨(r.params.zip vs).foldl (fun tmps (t, a) => tmps.setIfInBounds t a) r.tmps, ?_, ?_⟩
  · simp only [Instr.yield, Sem.run_bind, run_getLoop g1, Result.andThen_ok]
    rw [if_neg (by omega)]
    simp [g4, g6, g7]
  · have := putParams_sound (vs := vs.toList) g8 hv hp
    rw [← g5] at this
    have e : (r.params.zip vs).foldl (fun tmps (x : Nat × Value) => tmps.setIfInBounds x.1 x.2) r.tmps = (r.params.toList.zip vs.toList).foldl (fun tmps (x : Nat × Value) => tmps.setIfInBounds x.1 x.2) r.tmps := by
      rw [← Array.foldl_toList, Array.toList_zip]
    rw [g5] at this
    show TR k w n _ ((r.params.zip vs).foldl (fun tmps (x : Nat × Value) => tmps.setIfInBounds x.1 x.2) r.tmps)
    rw [e, g5]
    exact this

theorem run_newObj (ob : Obj) : (newObj ob).run P w = .ok w.heap.size { w with heap := w.heap.push ob } := by
  simp [newObj, Sem.run]

theorem loop_new (hr : HR k h w) {fn n : Nat} {ts : T AV} {tmps : Array Value} (ht : TR k w n ts tmps) {ps : Array Tmp} {as' bd : Code} {d db l : Nat} (hd : k.ρ d = some (db, 0)) (ha : h.alloc (.loop .ready none fn n ts ps.toList as' bd d) = some (l, h')) :
    ∃ k' w', (newObj (.loop { state := .ready, pending := none, fn, tmps, params := ps, assign := as', body := bd, defers := db })).run P w = .ok w.heap.size w' ∧ k'.ρ l = some (w.heap.size, 0) ∧ HR k' h' w' ∧ Ev k k' h h' w w' := by
  obtain ⟨r1, r2, _⟩ := hr.alloc ha (.loop { state := .ready, pending := none, fn, tmps, params := ps, assign := as', body := bd, defers := db }) w.drawn fun le => ⟨rfl, { state := .ready, pending := none, fn, tmps, params := ps, assign := as', body := bd, defers := db }, db, by simp, rfl, rfl, rfl, rfl, rfl, rfl, ht.mono le, le.rho _ _ hd, rfl⟩
  exact ⟨_, _, run_newObj _, K.with_self _ _ _, r1, r2⟩

theorem enter_none (hr : HR k h w) {fn n : Nat} {ts : T AV} {tmps : Array Value} (ht : TR k w n ts tmps) {ps : Array Tmp} {as' bd : Code} {d l : Nat} (ha : h.alloc (.dfr true) = some (d, h1)) (hb : h1.alloc (.loop .ready none fn n ts ps.toList as' bd d) = some (l, h')) :
    ∃ k' w' lb mark, (Instr.enterLoop fn tmps ps as' bd none).run P w = .ok (lb, mark) w' ∧ k'.ρ l = some (lb, 0) ∧ HR k' h' w' ∧ Ev k k' h h' w w' ∧ DRL k' w' [.mark d] mark := by
  obtain ⟨r1, r2, _⟩ := hr.alloc ha (.deferred (some [])) w.drawn fun le => ⟨rfl, by simp⟩
  obtain ⟨k2, w2, g1, g2, g3, g4⟩ := loop_new (P := P) r1 (ht.mono (r2.le hr)) (db := w.heap.size) (K.with_self _ _ _) hb
  refine ⟨k2, w2, _, [{ target := .collected w.heap.size, args := #[] }], ?_, g2, g3, r2.trans g4, ?_⟩
  · simp only [Instr.enterLoop, Sem.run_bind, run_newObj, Result.andThen_ok, Sem.run_pure]
    rw [run_newObj] at g1
    cases g1
    rfl
  · exact ⟨_, _, rfl, ⟨_, g4.rho _ _ (K.with_self _ _ _), rfl⟩, rfl⟩

theorem enter_some (hr : HR k h w) {fn n : Nat} {ts : T AV} {tmps : Array Value} (ht : TR k w n ts tmps) {ps : Array Tmp} {as' bd : Code} {l0 l : Nat} {st : LoopState} {pend : Option Code} {fn0 n0 : Nat} {ts0 : T AV} {ps0 : List Nat} {as0 bd0 : Code} {d : Nat}
    (hg : h.get l0 = some (.loop st pend fn0 n0 ts0 ps0 as0 bd0 d)) {b0 : Nat} (hb0 : k.ρ l0 = some (b0, 0)) (hb : h.alloc (.loop .ready none fn n ts ps.toList as' bd d) = some (l, h')) :
    ∃ k' w' lb mark, (Instr.enterLoop fn tmps ps as' bd (some b0)).run P w = .ok (lb, mark) w' ∧ k'.ρ l = some (lb, 0) ∧ HR k' h' w' ∧ Ev k k' h h' w w' ∧ DRL k' w' [] mark := by
  obtain ⟨_, r, db, e1, e2, e3, e4, e5, e6, e7, e8, e9, e10⟩ := loop_at hr hg hb0
  obtain ⟨k2, w2, g1, g2, g3, g4⟩ := loop_new (P := P) hr ht e9 hb
  refine ⟨k2, w2, _, [], ?_, g2, g3, g4, rfl⟩
  simp only [Instr.enterLoop, Sem.run_bind, run_getLoop e1, Result.andThen_ok, Sem.run_pure, e10, run_newObj]
  rw [run_newObj] at g1
  cases g1
  rfl

theorem take_sound (hr : HR k h w) {o b : Nat} (hg : h.get o = some (.dfr true)) (hb : k.ρ o = some (b, 0)) :
    ∃ w', (Instr.takeDeferred b).run P w = .ok [] w' ∧ HR k (h.set o (some (.dfr false))) w' ∧ Ev k k h (h.set o (some (.dfr false))) w w' := by
  obtain ⟨b', sh', h1, h2, h3⟩ := hr.obj o _ hg
  rw [hb] at h1
  cases h1
  simp only [if_true] at h3
  obtain ⟨r1, r2⟩ := hr.setObj (ob' := .dfr false) hg hb h3 (by simp) (new := .deferred none) fun le hnew => ⟨rfl, by simpa using hnew⟩
  refine ⟨_, ?_, r1, r2⟩
  simp only [Instr.takeDeferred, Sem.run_bind, run_getObj h3 (show ∀ arr e fr, Obj.deferred (some []) ≠ .cells arr e fr by simp), run_setObj h3 (show ∀ arr e fr, Obj.deferred (some []) ≠ .cells arr e fr by simp), Result.andThen_ok, Sem.run_pure]

theorem st_rf {fr : Frame} {cs : List Frame} (hm : fr.mode = .run) {f : Operand} {ps : Array Tmp} {as' bd : Code} {kk : List Item} (ht : fr.todo = .code (.rangeFunc f ps as' bd) :: kk) {lb : Nat} {mark : List Deferred}
    (hen : (Instr.enterLoop fr.fn fr.tmps ps as' bd fr.roundOf).run P w = .ok (lb, mark) w1) {fn : Fn} {first captured : Array Value} (hv : fr.eval f = .func fn first captured) :
    ∃ s : Sem Next, (stepG P true (gor fr cs) w).bare = (stepG.apply P true { fr with todo := .inRangeFunc lb :: kk, defers := mark ++ fr.defers } cs none s w1).bare ∧
      s.run P w1 = (invoke (.fn fn captured) (first ++ #[.func (.yield lb) #[] #[]])).run P w1 := by
  refine ⟨do let d ← resolve ({ fr with todo := .inRangeFunc lb :: kk, defers := mark ++ fr.defers } : Frame).eval { callee := .value f, args := #[.const (.func (.yield lb) #[] #[])], argTypes := #[] } 0; invoke d.target d.args, ?_, ?_⟩
  · rw [st hm]
    simp [stepG.exec, ht, hen]
  · have : ({ fr with todo := .inRangeFunc lb :: kk, defers := mark ++ fr.defers } : Frame).eval f = .func fn first captured := by
      rw [← hv]
      cases f <;> rfl
    have e : Array.map ({ fr with todo := .inRangeFunc lb :: kk, defers := mark ++ fr.defers } : Frame).eval #[Operand.const (.func (.yield lb) #[] #[])] = #[.func (.yield lb) #[] #[]] := by
      apply Array.toList_inj.1
      simp [Frame.eval]
    simp only [resolve, this, Deferred.ofValue, Sem.run_bind, Sem.run_pure, Result.andThen_ok, e]

theorem st_erf {fr : Frame} {cs : List Frame} (hm : fr.mode = .run) {l : Nat} {kk : List Item} (ht : fr.todo = .endRangeFunc l :: kk) {jump : Option Code} (he : (Instr.endLoop l).run P w = .ok jump w1) :
    Steps P (lone fr cs w) (lone { fr with todo := (jump.map Item.code).toList ++ kk } cs w1) := by
  apply one_go
  rw [st hm]
  simp [stepG.exec, ht, he]

theorem st_begin {fr : Frame} {cs : List Frame} (hm : fr.mode = .run) {kk : List Item} (ht : fr.todo = .beginRound :: kk) {l : Nat} (hl : fr.roundOf = some l) (he : (Instr.beginRound l).run P w = .ok () w1) :
    Steps P (lone fr cs w) (lone { fr with todo := kk } cs w1) := by
  apply one_go
  rw [st hm]
  simp only [stepG.exec, ht, hl, Option.elim]
  rw [ap_skip (w' := w1) (by simp [he])]
  simp [Frame.finish, ht, hl]

/-! Unwinding -/

theorem st_unw {fr : Frame} {cs : List Frame} (hm : fr.mode ≠ .run) : stepG P true (gor fr cs) w = unwind P true fr cs none w := by
  obtain ⟨fn, tmps, todo, defers, mode, kind, ro⟩ := fr
  simp only at hm
  cases mode <;> first | exact absurd rfl hm | rfl

theorem st_unw_mark {fr : Frame} {cs : List Frame} (hm : fr.mode ≠ .run) {b : Nat} {args : Array Value} {ds : List Deferred} (hd : fr.defers = { target := .collected b, args := args } :: ds) (ht : (Instr.takeDeferred b).run P w = .ok [] w') :
    Steps P (lone fr cs w) (lone { fr with defers := ds } cs w') := by
  apply one_go
  rw [st_unw hm]
  simp [unwind, hd, ht]

theorem st_unw_call {fr fr0 : Frame} {cs : List Frame} (hm : fr.mode ≠ .run) {fn : Fn} {captured args : Array Value} {ds : List Deferred} (hd : fr.defers = { target := .fn fn captured, args := args } :: ds) {nx : Next} (hi : (invoke (.fn fn captured) args).run P w = .ok nx w') (hs : Starts P .deferred nx fr0) :
    Steps P (lone fr cs w) (lone fr0 ({ fr with defers := ds } :: cs) w') := by
  apply one_go
  rw [st_unw hm]
  cases hs <;> simp [unwind, hd, callDeferred, hi]

theorem st_ret_deferred {fr c : Frame} {cs : List Frame} (hm : fr.mode = .returning) (hd : fr.defers = []) (hk : fr.kind = .deferred) {F : Func} (hf : P.funcs[fr.fn]? = some F) {v : Value} (hv : (results F fr.tmps).run P w = .ok v w) {c' : Frame}
    (hc : (∃ v chain, c.mode = .panicking ({ v, recovered := true, goexit := false } :: chain) ∧ (∀ e ∈ chain, e.goexit = false) ∧ c' = { c with mode := .returning }) ∨ ((∀ e chain, c.mode = .panicking (e :: chain) → e.recovered = false) ∧ c' = c)) :
    Steps P (lone fr (c :: cs) w) (lone c' cs w) := by
  apply one_go
  rw [st_unw (by simp [hm])]
  simp only [unwind, hd, hm, hf, doReturn, hk, Sem.runT_eq, hv]
  rcases hc with ⟨u, chain, h1, h2, rfl⟩ | ⟨h1, rfl⟩
  · have : chain.dropWhile (fun x => !x.goexit) = [] := by
      have : ∀ l : List PanicEntry, (∀ e ∈ l, e.goexit = false) → l.dropWhile (fun x => !x.goexit) = [] := by
        intro l
        induction l with
        | nil => intro _; rfl
        | cons a l ih => intro hl; simp [List.dropWhile, hl a (by simp), ih fun e he => hl e (by simp [he])]
      exact this _ h2
    simp [h1, this]
  · cases hmode : c'.mode with
    | run => simp
    | returning => simp
    | panicking chain =>
      cases chain with
      | nil => simp
      | cons e chain =>
        have := h1 e chain hmode
        obtain ⟨v, r, g⟩ := e
        simp only at this
        subst this
        simp

end
end Go.Ab

namespace Go.Ab
open Go

section
variable {P : Program} {E : Env}

def PrimOk (P : Program) (E : Env) : Prop := ∀ f p, E.prim f = some p → ∀ k h w args (vs : Array Value) v' h', k.sz = ⟨P.cellsOf, E.sel, E.tok, E.str⟩ → HR k h w → GlobOk E k w → VRL k w args vs.toList → p args h = some (v', h') → CallN P k h w (.ret v') h' ((callFunc f vs).run P w)

def CallOk (P : Program) (E : Env) (fv : AV) (args : List AV) (kind : CallKind) (h : AH) (rc : RC) (res : ARes) (h' : AH) (rc' : RC) : Prop :=
  ∀ k w fn (first captured vs : Array Value), k.sz = ⟨P.cellsOf, E.sel, E.tok, E.str⟩ → HR k h w → GlobOk E k w → VR k w fv (.func fn first captured) → VRL k w args vs.toList →
    (kind = .normal → rc = .no → CallN P k h w res h' ((invoke (.fn fn captured) (first ++ vs)).run P w)) ∧
    (kind = .deferred → ∀ m x, rc = rcOf m → res = .ret x → CallDf P k h w m h' rc' ((invoke (.fn fn captured) (first ++ vs)).run P w))

def RunOk (P : Program) (E : Env) (c : Ctx) (tmps : T AV) (todo : List Item) (defs : List AD) (h : AH) (rc : RC) (res : ARes) (h' : AH) (rc' : RC) : Prop :=
  ∀ k w fr cs, k.sz = ⟨P.cellsOf, E.sel, E.tok, E.str⟩ → HR k h w → GlobOk E k w → FR k w c tmps todo defs fr → RCR k w rc c.kind cs → (c.round.isSome = true → c.kind = .normal) → RunOut P k h w c rc cs fr res h' rc'

def UnwOk (P : Program) (E : Env) (c : Ctx) (m : AMode) (tmps : T AV) (defs : List AD) (h : AH) (rc : RC) (res : ARes) (h' : AH) (rc' : RC) : Prop :=
  ∀ k w fr cs, k.sz = ⟨P.cellsOf, E.sel, E.tok, E.str⟩ → HR k h w → GlobOk E k w → FU k w c m tmps defs fr → RCR k w rc c.kind cs → (c.round.isSome = true → c.kind = .normal) → RunOut P k h w c rc cs fr res h' rc'

def CmdOk (P : Program) (E : Env) : Cmd → AH → RC → ARes → AH → RC → Prop
  | .run c tmps todo defs => RunOk P E c tmps todo defs
  | .unw c m tmps defs => UnwOk P E c m tmps defs
  | .call fv args kind => CallOk P E fv args kind

def DrawOk (P : Program) (E : Env) : Prop :=
  ∀ (callf : AV → List AV → AH → Option (ARes × AH × RC)), (∀ fv args h res h' rc', callf fv args h = some (res, h', rc') → CallOk P E fv args .normal h .no res h' rc') →
  ∀ c ops tmps h tmps' h' p, drawRun E callf c.n ops tmps h = some (tmps', h', p) → ∀ id kk defs k w fr cs, k.sz = ⟨P.cellsOf, E.sel, E.tok, E.str⟩ → HR k h w → GlobOk E k w → FR k w c tmps (.code (.region id ops true) :: kk) defs fr →
    ∃ k' w' fr', HR k' h' w' ∧ Ev k k' h h' w w' ∧ Steps P (lone fr cs w) (lone fr' cs w') ∧ match p with
      | none => FR k' w' c tmps' kk defs fr'
      | some ch => FU k' w' c (.pan ch) tmps' defs fr'

theorem FR.toFU {k : K} {w : World} {c : Ctx} {tmps : T AV} {todo : List Item} {defs : List AD} {fr : Frame} (f : FR k w c tmps todo defs fr) {m : AMode} {mode : FrameMode} (hm : ModeR k w m mode) : FU k w c m tmps defs { fr with mode := mode } :=
  ⟨f.fn, f.tmps, f.defs, hm, f.kind, f.round, f.early⟩

def stOf : Option Code → LoopState
  | none => .ready
  | some _ => .done

section
theorem leave_fn {n : Nat} (ih : ∀ cmd h rc res h' rc', ev E n cmd h rc = some (res, h', rc') → CmdOk P E cmd h rc res h' rc') {c : Ctx} {tmps : T AV} {todo : List Item} {defs : List AD} {h : AH} {rc : RC} {res : ARes} {h' : AH} {rc' : RC} {k : K} {w : World} {fr : Frame} {cs : List Frame} (hk : k.sz = ⟨P.cellsOf, E.sel, E.tok, E.str⟩) (hr : HR k h w) (hg : GlobOk E k w) (hf : FR k w c tmps todo defs fr) (hrc : RCR k w rc c.kind cs) (hround : c.round.isSome = true → c.kind = .normal) (hcr : c.round = none) (he : ev E n (.unw c .ret tmps defs) h rc = some (res, h', rc')) (ht : fr.todo = [] ∨ ∃ kk, fr.todo = .code .ret :: kk) : RunOut P k h w c rc cs fr res h' rc' := by
  have hro := hf.round
  rw [hcr] at hro
  exact RunOut.pre (Ev.refl _ _ _) (st_leave hf.mode ht hro) (ih _ _ _ _ _ _ he k w _ cs hk hr hg (hf.toFU (m := .ret) rfl) hrc hround)

theorem leave_rd {c : Ctx} {tmps : T AV} {todo : List Item} {defs : List AD} {h : AH} {rc : RC} {res : ARes} {h' : AH} {rc' : RC} {k : K} {w : World} {fr : Frame} {cs : List Frame} (hr : HR k h w) (hf : FR k w c tmps todo defs fr) (hround : c.round.isSome = true → c.kind = .normal) {l : Nat} (hcr : c.round = some l) {jump : Option Code}
    (he : (match (generalizing := false) defs with
      | [] => match (generalizing := false) h.get l with
        | some (.loop _ _ fn k ts ps as' bd d) =>
            some (ARes.ret (.bool jump.isNone), h.set l (some (.loop (stOf jump) jump fn k ts ps as' bd d)), rc)
        | _ => none
      | _ => none) = some (res, h', rc'))
    (ht : (fr.todo = [] ∧ jump = none) ∨ (∃ kk, fr.todo = .code .ret :: kk ∧ jump = some .ret) ∨ (∃ id kk, fr.todo = .code (.exit id) :: kk ∧ exitTo id kk = none ∧ jump = some (.exit id)) ∨ (∃ id kk, fr.todo = .code (.goto id) :: kk ∧ gotoIn id kk = none ∧ jump = some (.goto id))) :
    RunOut P k h w c rc cs fr res h' rc' := by
  have hro := hf.round
  rw [hcr] at hro
  obtain ⟨b, hb, hro⟩ := hro
  have hkind : fr.kind = .normal := by rw [hf.kind]; exact hround (by rw [hcr]; rfl)
  have hmode := hf.mode
  cases defs with
  | cons _ _ => cases he
  | nil =>
  simp only at he
  split at he
  case h_2 => cases he
  rename_i st pend fn m ts ps as' bd d hgl
  simp only [Option.some.injEq, Prod.mk.injEq] at he
  obtain ⟨rfl, rfl, rfl⟩ := he
  obtain ⟨_, r, db, g1, _⟩ := loop_at hr hgl hb
  obtain ⟨s1, s2, s3⟩ := loop_set (P := P) hr (st' := stOf jump) (pend' := jump) hgl hb g1
  have hend : (Instr.endRound b jump).run P w = .ok (.bool jump.isNone) { w with heap := w.heap.setIfInBounds b (.loop { r with state := stOf jump, pending := jump }) } := by
    simp only [Instr.endRound, Sem.run_bind, run_getLoop g1, Result.andThen_ok, Sem.run_pure]
    cases jump <;> simp only [stOf] at s1 ⊢ <;> simp [s1]
  refine ⟨k, _, s2, s3, ?_⟩
  rw [hcr]
  intro caller rest hcs
  subst hcs
  exact ⟨.bool jump.isNone, by simp only [VR], st_leave_round hmode ht hro hkind hend⟩

end

theorem call_func {n : Nat} {fv : AV} {args : List AV} {kind : CallKind} {h : AH} {rc : RC} {x : ARes × AH × RC} (he : ev E n (.call fv args kind) h rc = some x) : ∃ fn a b, fv = .func fn a b := by
  cases n with
  | zero => simp only [ev] at he; cases he
  | succ n =>
    cases fv
    case func fn a b => exact ⟨_, _, _, rfl⟩
    all_goals (simp only [ev] at he; cases he)

theorem run_step (hE : EnvOk P E) (_ : PrimOk P E) (hD : DrawOk P E) {n : Nat} (ih : ∀ cmd h rc res h' rc', ev E n cmd h rc = some (res, h', rc') → CmdOk P E cmd h rc res h' rc')
    {c : Ctx} {tmps : T AV} {todo : List Item} {defs : List AD} {h : AH} {rc : RC} {res : ARes} {h' : AH} {rc' : RC} (he : ev E (n + 1) (.run c tmps todo defs) h rc = some (res, h', rc')) : RunOk P E c tmps todo defs h rc res h' rc' := by
  intro k w fr cs hk hr hg hf hrc hround
  have htodo := hf.todo
  -- goes on with other items
  have pass : ∀ {todo' : List Item} {kk' : List Item}, Steps P (lone fr cs w) (lone { fr with todo := kk' } cs w) → IR k todo' kk' → ev E n (.run c tmps todo' defs) h rc = some (res, h', rc') → RunOut P k h w c rc cs fr res h' rc' :=
    fun hs hi he => RunOut.pre (Ev.refl _ _ _) hs (ih _ _ _ _ _ _ he k w _ cs hk hr hg (hf.to hi) hrc hround)
  have pass2 : ∀ {k1 : K} {h1 : AH} {w1 : World} {fr1 : Frame} {tmps1 : T AV} {todo1 : List Item} {defs1 : List AD}, Ev k k1 h h1 w w1 → HR k1 h1 w1 → Steps P (lone fr cs w) (lone fr1 cs w1) → FR k1 w1 c tmps1 todo1 defs1 fr1 → ev E n (.run c tmps1 todo1 defs1) h1 rc = some (res, h', rc') → RunOut P k h w c rc cs fr res h' rc' :=
    fun e1 r1 hs f1 he => RunOut.pre e1 hs (ih _ _ _ _ _ _ he _ _ _ cs (e1.sz.trans hk) r1 (hg.mono (e1.le hr)) f1 (hrc.mono (e1.le hr)) hround)
  have punw : ∀ {k1 : K} {h1 : AH} {w1 : World} {fr1 : Frame} {m : AMode} {tmps1 : T AV} {defs1 : List AD}, Ev k k1 h h1 w w1 → HR k1 h1 w1 → Steps P (lone fr cs w) (lone fr1 cs w1) → FU k1 w1 c m tmps1 defs1 fr1 → ev E n (.unw c m tmps1 defs1) h1 rc = some (res, h', rc') → RunOut P k h w c rc cs fr res h' rc' :=
    fun e1 r1 hs f1 he => RunOut.pre e1 hs (ih _ _ _ _ _ _ he _ _ _ cs (e1.sz.trans hk) r1 (hg.mono (e1.le hr)) f1 (hrc.mono (e1.le hr)) hround)
  have raise : ∀ chain, fr.raise chain = { fr with mode := .panicking chain } := fun chain => by simp only [Frame.raise, hf.mode]
  cases todo with
  | nil =>
    simp only [IR] at htodo
    cases hcr : c.round with
    | none =>
      simp only [ev, hcr] at he
      exact leave_fn ih hk hr hg hf hrc hround hcr he (.inl htodo)
    | some l =>
      simp only [ev, hcr] at he
      exact leave_rd hr hf hround hcr (jump := none) he (.inl ⟨htodo, rfl⟩)
  | cons x kk =>
    cases x with
    | code cd =>
      obtain ⟨kk', ht, hi⟩ := htodo.head (by constructor <;> intro _ e <;> cases e)
      cases cd with
      | ret =>
        cases hcr : c.round with
        | none =>
          simp only [ev, hcr] at he
          exact leave_fn ih hk hr hg hf hrc hround hcr he (.inr ⟨_, ht⟩)
        | some l =>
          simp only [ev, hcr] at he
          exact leave_rd hr hf hround hcr (jump := some .ret) he (.inr (.inl ⟨_, ht, rfl⟩))
      | skip => simp only [ev] at he; exact pass (st_pass hf.mode ht (.inl rfl)) hi he
      | label l => simp only [ev] at he; exact pass (st_pass hf.mode ht (.inr (.inl ⟨_, rfl⟩))) hi he
      | seq a b => simp only [ev] at he; exact pass (st_seq hf.mode ht) (.cons ⟨fun _ e => (nomatch e), fun _ e => (nomatch e)⟩ (.cons ⟨fun _ e => (nomatch e), fun _ e => (nomatch e)⟩ hi)) he
      | cond x a b =>
        simp only [ev] at he
        split at he
        case h_2 => cases he
        rename_i t hx
        have hv := aeval_sound hg hf x
        rw [hx] at hv
        simp only [VR] at hv
        exact pass (st_cond hf.mode ht hv) (.cons ⟨fun _ e => (nomatch e), fun _ e => (nomatch e)⟩ hi) he
      | block id a => simp only [ev] at he; exact pass (st_block hf.mode ht) (.cons ⟨fun _ e => (nomatch e), fun _ e => (nomatch e)⟩ (.cons ⟨fun _ e => (nomatch e), fun _ e => (nomatch e)⟩ hi)) he
      | loop a => simp only [ev] at he; exact pass (st_loop hf.mode (.inl ht)) (.cons ⟨fun _ e => (nomatch e), fun _ e => (nomatch e)⟩ (.cons ⟨fun _ e => (nomatch e), fun _ e => (nomatch e)⟩ hi)) he
      | scope a => simp only [ev] at he; exact pass (st_scope hf.mode ht) (.cons ⟨fun _ e => (nomatch e), fun _ e => (nomatch e)⟩ (.cons ⟨fun _ e => (nomatch e), fun _ e => (nomatch e)⟩ hi)) he
      | exit id =>
        simp only [ev] at he
        cases hx : exitTo id kk with
        | some k' =>
          simp only [hx] at he
          obtain ⟨r', h1, h2⟩ := exitTo_IR hi hx
          exact pass (st_exit hf.mode ht h1) h2 he
        | none =>
          simp only [hx] at he
          cases hcr : c.round with
          | none => simp only [hcr] at he; cases he
          | some l =>
            simp only [hcr] at he
            exact leave_rd hr hf hround hcr (jump := some (.exit id)) he (.inr (.inr (.inl ⟨_, _, ht, exitTo_IR_none hi hx, rfl⟩)))
      | goto id =>
        simp only [ev] at he
        cases hx : gotoIn id kk with
        | some k' =>
          simp only [hx] at he
          obtain ⟨r', h1, h2⟩ := (gotoIn_IR hi).1 _ hx
          exact pass (st_goto hf.mode ht h1) h2 he
        | none =>
          simp only [hx] at he
          cases hcr : c.round with
          | none => simp only [hcr] at he; cases he
          | some l =>
            simp only [hcr] at he
            exact leave_rd hr hf hround hcr (jump := some (.goto id)) he (.inr (.inr (.inr ⟨_, _, ht, (gotoIn_IR hi).2 hx, rfl⟩)))
      | region id ops draw =>
        cases draw with
        | false => simp only [ev] at he; exact pass (st_region hf.mode ht) (.cons ⟨fun _ e => (nomatch e), fun _ e => (nomatch e)⟩ hi) he
        | true =>
          simp only [ev] at he
          split at he
          case h_3 => cases he
          · rename_i tmps1 h1 hd
            obtain ⟨k1, w1, fr1, r1, e1, s1, f1⟩ := hD _ (fun fv args h res h' rc' hc => ih (.call fv args .normal) h .no res h' rc' hc) c ops tmps h tmps1 h1 none hd id kk defs k w fr cs hk hr hg hf
            exact pass2 e1 r1 s1 f1 he
          · rename_i tmps1 h1 ch hd
            obtain ⟨k1, w1, fr1, r1, e1, s1, f1⟩ := hD _ (fun fv args h res h' rc' hc => ih (.call fv args .normal) h .no res h' rc' hc) c ops tmps h tmps1 h1 (some ch) hd id kk defs k w fr cs hk hr hg hf
            exact punw e1 r1 s1 f1 he
      | rangeFunc f ps as' bd =>
        simp only [ev] at he
        split at he
        case h_1 => cases he
        rename_i d mark h1 hd
        split at he
        case h_1 => cases he
        rename_i l h2 hl
        have hround' := hf.round
        have enter : ∃ k' w' lb mark', (Instr.enterLoop fr.fn fr.tmps ps as' bd fr.roundOf).run P w = .ok (lb, mark') w' ∧ k'.ρ l = some (lb, 0) ∧ HR k' h2 w' ∧ Ev k k' h h2 w w' ∧ DRL k' w' mark mark' := by
          rw [hf.fn]
          cases hcr : c.round with
          | none =>
            rw [hcr] at hd hround'
            simp only at hd hround'
            cases ha : h.alloc (.dfr true) with
            | none => rw [ha] at hd; cases hd
            | some p =>
              obtain ⟨o, h0⟩ := p
              rw [ha] at hd
              cases hd
              rw [hround']
              exact enter_none hr hf.tmps ha hl
          | some l0 =>
            rw [hcr] at hd hround'
            simp only at hd hround'
            obtain ⟨b0, hb0, hro⟩ := hround'
            split at hd
            case h_2 => cases hd
            rename_i hgl
            cases hd
            rw [hro]
            exact enter_some hr hf.tmps hgl hb0 hl
        obtain ⟨k1, w1, lb, mark', hen, hlb, r1, e1, hmk⟩ := enter
        have le1 := e1.le hr
        have hfn := fun {x} (hc : ev E n (.call (aeval E tmps f) [.func (.yield l) [] []] .normal) h2 .no = some x) => call_func hc
        have hv := aeval_sound hg hf f
        have gen : ∀ {x : ARes} {h3 : AH} {rc3 : RC}, ev E n (.call (aeval E tmps f) [.func (.yield l) [] []] .normal) h2 .no = some (x, h3, rc3) →
            ∃ k3 w3, HR k3 h3 w3 ∧ Ev k k3 h h3 w w3 ∧ Le k1 k3 w1 w3 ∧ match x with
              | .ret y => ∃ v, VR k3 w3 y v ∧ Steps P (lone fr cs w) (lone (({ fr with todo := .inRangeFunc lb :: kk', defers := mark' ++ fr.defers } : Frame).finish v) cs w3)
              | .pan ch => ∃ chain, CR k3 w3 ch chain ∧ Steps P (lone fr cs w) (lone (({ fr with todo := .inRangeFunc lb :: kk', defers := mark' ++ fr.defers } : Frame).raise chain) cs w3) := by
          intro x h3 rc3 hc
          obtain ⟨fn, a, b, hfv⟩ := hfn hc
          rw [hfv] at hv
          have hv' : ∃ fn' first captured, fr.eval f = .func fn' first captured := by
            have hv2 := hv
            cases fn <;> simp only [VR] at hv2
            case yield => obtain ⟨b, _, h2, _⟩ := hv2; exact ⟨_, _, _, h2⟩
            all_goals obtain ⟨_, _, h2, _⟩ := hv2; exact ⟨_, _, _, h2⟩
          obtain ⟨fn', first, captured, hev⟩ := hv'
          rw [hev] at hv
          rw [hfv] at hc
          obtain ⟨s, g1, g2⟩ := st_rf (cs := cs) hf.mode ht hen hev
          have hargs : VRL k1 w1 [AV.func (.yield l) [] []] (#[Value.func (.yield lb) #[] #[]]).toList := by
            simp only [VRL]
            exact ⟨_, _, rfl, by simp [VR, hlb], rfl⟩
          obtain ⟨nx, w2, q1, q2⟩ := (ih (.call (.func fn a b) _ .normal) h2 .no _ _ _ hc k1 w1 fn' first captured #[.func (.yield lb) #[] #[]] (e1.sz.trans hk) r1 (hg.mono le1) (VR.mono le1 _ _ hv) hargs).1 rfl rfl
          rcases q2 with ⟨y, v, k3, rfl, rfl, hy, r3, e3⟩ | ⟨fr0, hs, q2⟩
          · refine ⟨k3, w2, r3, e1.trans e3, e3.le r1, v, hy, one_go ?_⟩
            rw [g1]
            exact ap_value (g2.trans q1)
          · obtain ⟨k3, w3, r3, e3, q3⟩ := q2 { fr with todo := .inRangeFunc lb :: kk', defers := mark' ++ fr.defers } cs
            refine ⟨k3, w3, r3, e1.trans e3, e3.le r1, ?_⟩
            have s0 : Steps P (lone fr cs w) (lone fr0 ({ fr with todo := .inRangeFunc lb :: kk', defers := mark' ++ fr.defers } :: cs) w2) := by
              refine .one ?_
              cases hs with
              | enter => exact step_lone_go (by show (stepG P true (gor fr cs) w).bare = _; rw [g1]; exact ap_enter (g2.trans q1) (by simp))
              | round => exact step_lone_go (by show (stepG P true (gor fr cs) w).bare = _; rw [g1]; exact ap_round (g2.trans q1))
            cases x with
            | ret y => obtain ⟨v, hy, s1⟩ := q3; exact ⟨v, hy, s0.trans s1⟩
            | pan ch => obtain ⟨chain, hy, s1⟩ := q3; exact ⟨chain, hy, s0.trans s1⟩
        split at he
        · rename_i y h3 rc3 hc
          obtain ⟨k3, w3, r3, e3, le3, v, hy, s1⟩ := gen hc
          have hf3 := hf.mono (e3.le hr)
          refine pass2 e3 r3 s1 (tmps1 := tmps) (todo1 := .endRangeFunc l :: kk) (defs1 := mark ++ defs) ?_ he
          simp only [Frame.finish]
          refine ⟨hf3.fn, hf3.tmps, ?_, DRL.append (hmk.mono le3) hf3.defs, hf3.mode, hf3.kind, hf3.round, hf3.early⟩
          simp only [IR]
          exact ⟨lb, kk', rfl, le3.rho _ _ hlb, hi.mono (e3.le hr)⟩
        · rename_i ch h3 rc3 hc
          obtain ⟨k3, w3, r3, e3, le3, chain, hy, s1⟩ := gen hc
          have hf3 := hf.mono (e3.le hr)
          refine punw e3 r3 s1 (m := .pan ch) (tmps1 := tmps) (defs1 := mark ++ defs) ?_ he
          simp only [Frame.raise, hf.mode]
          exact ⟨hf3.fn, hf3.tmps, DRL.append (hmk.mono le3) hf3.defs, ⟨chain, rfl, hy⟩, hf3.kind, hf3.round, hf3.early⟩
        · cases he
      | refuse why => simp only [ev] at he; cases he
    | inBlock id =>
      obtain ⟨kk', ht, hi⟩ := htodo.head (by constructor <;> intro _ e <;> cases e)
      simp only [ev] at he; exact pass (st_pass hf.mode ht (.inr (.inr (.inl ⟨_, rfl⟩)))) hi he
    | inScope id =>
      obtain ⟨kk', ht, hi⟩ := htodo.head (by constructor <;> intro _ e <;> cases e)
      simp only [ev] at he; exact pass (st_pass hf.mode ht (.inr (.inr (.inr (.inl ⟨_, rfl⟩))))) hi he
    | inLoop a =>
      obtain ⟨kk', ht, hi⟩ := htodo.head (by constructor <;> intro _ e <;> cases e)
      simp only [ev] at he; exact pass (st_loop hf.mode (.inr ht)) (.cons ⟨fun _ e => (nomatch e), fun _ e => (nomatch e)⟩ (.cons ⟨fun _ e => (nomatch e), fun _ e => (nomatch e)⟩ hi)) he
    | inRegion ops is =>
      obtain ⟨kk', ht, hi⟩ := htodo.head (by constructor <;> intro _ e <;> cases e)
      cases is with
      | nil => simp only [ev] at he; exact pass (st_pass hf.mode ht (.inr (.inr (.inr (.inr ⟨_, rfl⟩))))) hi he
      | cons i rest =>
        simp only [ev] at he
        split at he
        case h_1 => cases he
        rename_i o ho
        have hfin := fun {x : AV} {v : Value} {t : T AV} {k1 : K} {w1 : World} (hle : Le k k1 w w1) (hd : setDst c.n o.dst x tmps = some t) (hv : VR k1 w1 x v) => (hf.mono hle).fin ho hd hv
        have hle0 := (Ev.refl k h w).le hr
        have hund : VR k w undefA undef := by simp only [undefA, VR]; exact ⟨#[], rfl, by simp only [VRL]⟩
        split at he
        · cases he
        · rename_i hw
          have hw' := wanted_sound (ts := fr.tmps) (fun j want d _ _ => hf.tmps.2 d) hw
          split at he
          case h_2 => cases he
          rename_i t hd
          exact pass2 (Ev.refl _ _ _) hr (st_skip hf.mode ht ho hw') (hfin hle0 hd hund) he
        · rename_i hw
          have hw' := wanted_sound (ts := fr.tmps) (fun j want d _ _ => hf.tmps.2 d) hw
          have hask := fun {a : Ask} (ha : askA E o (aeval E tmps) h = some a) => askA_sound hE hk hr (o := o) (ev := aeval E tmps) (ρ := fr.eval) (fun x _ => aeval_sound hg hf x) ha
          have nodefer : ∀ {a : Ask}, askA E o (aeval E tmps) h = some a → (∀ d, a ≠ .defer d) → ∀ cl, o.op ≠ .defer cl := by
            intro a ha hn cl hop
            simp only [askA, hop] at ha
            split at ha
            · cases ha
            · cases ha; exact hn _ rfl
            · split at ha
              · cases ha; exact hn _ rfl
              · cases ha
          have notcall : ∀ d wr r sv kk, fr.todo ≠ .call d wr r sv :: kk := by intro d wr r sv kk; rw [ht]; simp
          split at he
          · -- a value
            rename_i v h1 ha
            have hst := st_oper (P := P) (w := w) (cs := cs) hf.mode ht ho hw' (.inr (nodefer ha nofun))
            obtain ⟨nx, w1, k1, e1, e2, r1, e3⟩ := hask ha
            split at he
            case h_2 => cases he
            rename_i t hd
            rcases e2 with ⟨u, rfl, hu⟩ | ⟨rfl, rfl⟩
            · exact pass2 e3 r1 (one_go (by rw [hst]; exact ap_value e1)) (hfin (e3.le hr) hd hu) he
            · exact pass2 e3 r1 (one_go (by rw [hst]; exact ap_skip e1)) (hfin (e3.le hr) hd (VR.mono (e3.le hr) _ _ hund)) he
          · -- a call
            rename_i fv args ha
            have hst := st_oper (P := P) (w := w) (cs := cs) hf.mode ht ho hw' (.inr (nodefer ha nofun))
            obtain ⟨fn, first, captured, vs, g1, g2, g3⟩ := hask ha
            split at he
            · rename_i v h1 _ hc
              obtain ⟨nx, w1, e1, e2⟩ := (ih (.call fv args .normal) h .no _ _ _ hc k w fn first captured vs hk hr hg g1 g2).1 rfl rfl
              split at he
              case h_2 => cases he
              rename_i t hd
              rcases e2 with ⟨x, u, k1, q1, rfl, hu, r1, e3⟩ | ⟨fr0, hs, e2⟩
              · cases q1
                exact pass2 e3 r1 (one_go (by rw [hst]; exact ap_value (g3.trans e1))) (hfin (e3.le hr) hd hu) he
              · obtain ⟨k1, w2, r1, e3, u, hu, s1⟩ := e2 fr cs
                refine pass2 e3 r1 (.trans (.one ?_) s1) (hfin (e3.le hr) hd hu) he
                cases hs with
                | enter => exact step_lone_go (by show (stepG P true (gor fr cs) w).bare = _; rw [hst]; exact ap_enter (g3.trans e1) notcall)
                | round => exact step_lone_go (by show (stepG P true (gor fr cs) w).bare = _; rw [hst]; exact ap_round (g3.trans e1))
            · rename_i ch h1 _ hc
              obtain ⟨nx, w1, e1, e2⟩ := (ih (.call fv args .normal) h .no _ _ _ hc k w fn first captured vs hk hr hg g1 g2).1 rfl rfl
              rcases e2 with ⟨x, u, k1, q1, _⟩ | ⟨fr0, hs, e2⟩
              · cases q1
              · obtain ⟨k1, w2, r1, e3, chain, hu, s1⟩ := e2 fr cs
                rw [raise] at s1
                refine punw e3 r1 (.trans (.one ?_) s1) ((hf.mono (e3.le hr)).toFU (m := .pan ch) ⟨chain, rfl, hu⟩) he
                cases hs with
                | enter => exact step_lone_go (by show (stepG P true (gor fr cs) w).bare = _; rw [hst]; exact ap_enter (g3.trans e1) notcall)
                | round => exact step_lone_go (by show (stepG P true (gor fr cs) w).bare = _; rw [hst]; exact ap_round (g3.trans e1))
            · cases he
          · -- a call put off
            rename_i d ha
            split at he
            case h_2 => cases he
            rename_i t hcr hd
            have hro := hf.round
            rw [hcr] at hro
            have hst := st_oper (P := P) (w := w) (cs := cs) hf.mode ht ho hw' (.inl hro)
            obtain ⟨dd, e1, e2⟩ := hask ha
            have hf2 : FR k w c tmps (.inRegion ops (i :: rest) :: kk) (d :: defs) { fr with defers := dd :: fr.defers } := ⟨hf.fn, hf.tmps, hf.todo, ⟨_, _, rfl, e2, hf.defs⟩, hf.mode, hf.kind, hf.round, hf.early⟩
            exact pass2 (Ev.refl _ _ _) hr (one_go (by rw [hst]; exact ap_defer e1)) (hf2.fin ho hd hund) he
          · -- recover
            rename_i ha
            split at he
            · cases he
            rename_i hcr
            have hro := hf.round
            rw [hcr] at hro
            have hst := st_oper (P := P) (w := w) (cs := cs) hf.mode ht ho hw' (.inl hro)
            have e1 := hask ha
            simp only [AskOut] at e1
            have none_case : (∀ v, rc ≠ .can v) → tryRecover fr cs = none := by
              intro hn
              have hk' := hf.kind
              unfold tryRecover
              rcases hf.early with e | e
              · rw [hk', e]
              · rw [hk', e]
                cases cs with
                | nil => rfl
                | cons caller rest2 =>
                  have : NoRec caller.mode := by
                    cases rc with
                    | can v => exact absurd rfl (hn v)
                    | no => exact hrc e caller rest2 rfl
                    | used => exact hrc e caller rest2 rfl
                  simp only
                  split
                  · rename_i v older hm; exact absurd hm (this v older)
                  · rfl
            split at he
            · rename_i v
              split at he
              case h_2 => cases he
              rename_i t hd
              obtain ⟨hkd, caller, rest2, u, older, rfl, hm, hu⟩ := hrc
              have htr : tryRecover fr (caller :: rest2) = some (u, { caller with mode := .panicking ({ v := u, recovered := true } :: older) } :: rest2) := by
                have hk' := hf.kind
                rw [hkd] at hk'
                simp only [tryRecover, hk', hm]
              have s1 : Steps P (lone fr (caller :: rest2) w) (lone (fr.finish u) ({ caller with mode := .panicking ({ v := u, recovered := true } :: older) } :: rest2) w) := one_go (by rw [hst, ap_recover e1 hro, htr])
              have f1 := hfin hle0 hd hu
              obtain ⟨k2, w2, r2, e2, q⟩ := ih _ _ _ _ _ _ he k w _ ({ caller with mode := .panicking ({ v := u, recovered := true } :: older) } :: rest2) hk hr hg f1 (fun _ caller' rest' hcs => by
                cases hcs
                intro v' older' hm'
                cases hm') hround
              rw [hcr] at q
              obtain ⟨cs', fr', a1, a2, a3⟩ := q
              refine ⟨k2, w2, r2, e2, ?_⟩
              rw [hcr]
              refine ⟨cs', fr', ?_, s1.trans a2, a3⟩
              rcases a1 with ⟨rfl, rfl⟩ | ⟨_, _, _, _, _, a, _⟩
              · exact .inr ⟨v, caller, rest2, u, older, rfl, rfl, rfl, hm, rfl⟩
              · cases a
            · rename_i hn
              split at he
              case h_2 => cases he
              rename_i t hd
              have htr := none_case (fun v e => hn v e)
              exact pass2 (Ev.refl _ _ _) hr (one_go (by rw [hst, ap_recover e1 hro, htr])) (hfin hle0 hd (by simp only [VR])) he
          · -- a panic
            rename_i v ha
            have hst := st_oper (P := P) (w := w) (cs := cs) hf.mode ht ho hw' (.inr (nodefer ha nofun))
            obtain ⟨u, e1, hu⟩ := hask ha
            refine punw (Ev.refl _ _ _) hr (one_go (by rw [hst, ap_panic e1, raise])) (hf.toFU (m := .pan [(v, false)]) ⟨_, rfl, ⟨_, _, rfl, hu, ⟨rfl, rfl⟩, rfl, rfl⟩⟩) he
          · cases he
    | endRangeFunc l =>
      simp only [IR] at htodo
      obtain ⟨b, kk', ht, hb, hi⟩ := htodo
      simp only [ev] at he
      split at he
      case h_2 => cases he
      rename_i stt pend fn m ts ps as' bd d hgl
      obtain ⟨_, r, db, g1, g2, g3, g4⟩ := loop_at hr hgl hb
      obtain ⟨s1, s2, s3⟩ := loop_set (P := P) hr (st' := .exhausted) (pend' := pend) hgl hb g1
      have hend : stt ≠ .busy → (Instr.endLoop b).run P w = .ok pend { w with heap := w.heap.setIfInBounds b (.loop { r with state := .exhausted, pending := pend }) } := by
        intro hne
        have : (r.state == LoopState.busy) = false := by rw [g2]; cases stt <;> first | rfl | exact absurd rfl hne
        simp only [Instr.endLoop, Sem.run_bind, run_getLoop g1, Result.andThen_ok, this, g3]
        simp [s1]
      have fin : stt ≠ .busy → ev E n (.run c tmps (match (generalizing := false) pend with | some j => .code j :: kk | none => kk) defs) (h.set l (some (.loop .exhausted pend fn m ts ps as' bd d))) rc = some (res, h', rc') → RunOut P k h w c rc cs fr res h' rc' := by
        intro hne he
        refine pass2 s3 s2 (st_erf hf.mode ht (hend hne)) ((hf.mono (s3.le hr)).to ?_) he
        cases pend with
        | none => simpa using hi.mono (s3.le hr)
        | some j => exact IR.cons (by constructor <;> intro _ e <;> cases e) (hi.mono (s3.le hr))
      cases stt with
      | busy => cases he
      | ready => exact fin nofun (by cases pend <;> exact he)
      | done => exact fin nofun (by cases pend <;> exact he)
      | exhausted => exact fin nofun (by cases pend <;> exact he)
    | beginRound =>
      obtain ⟨kk', ht, hi⟩ := htodo.head (by constructor <;> intro _ e <;> cases e)
      have hro := hf.round
      simp only [ev] at he
      cases hcr : c.round with
      | none => rw [hcr] at he; cases he
      | some l =>
        simp only [hcr] at he hro
        obtain ⟨b, hb, hro⟩ := hro
        split at he
        case h_2 => cases he
        rename_i pend fn m ts ps as' bd d hgl
        obtain ⟨_, r, db, g1, g2, g3, g4⟩ := loop_at hr hgl hb
        obtain ⟨s1, s2, s3⟩ := loop_set (P := P) hr (st' := .busy) (pend' := pend) hgl hb g1
        have hbeg : (Instr.beginRound b).run P w = .ok () { w with heap := w.heap.setIfInBounds b (.loop { r with state := .busy, pending := pend }) } := by
          simp only [Instr.beginRound, Sem.run_bind, run_getLoop g1, Result.andThen_ok, g3, s1, g2, Sem.run_pure]
        exact pass2 s3 s2 (st_begin hf.mode ht hro hbeg) ((hf.mono (s3.le hr)).to (hi.mono (s3.le hr))) he
    | inRangeFunc l => simp only [ev] at he; cases he
    | call => simp only [ev] at he; cases he
    | extern => simp only [ev] at he; cases he

end
end Go.Ab

namespace Go.Ab
open Go

section
variable {P : Program} {E : Env} {k : K} {h h' : AH} {w : World}

def resF (ts : Array Value) : ResultVar → Sem Value
  | .tmp t => pure (ts.getD t undef)
  | .cell a t => do loadVar t (← asAddr (ts.getD a undef))

theorem results_eq (F : Func) (ts : Array Value) : results F ts = (do let vs ← F.results.mapM (resF ts); pure (if h : vs.size = 1 then vs[0] else .tuple vs)) := by
  have : resF ts = (fun (r : ResultVar) => match r with
    | .tmp t => pure (ts.getD t undef)
    | .cell a t => do loadVar t (← asAddr (ts.getD a undef))) := by
    funext x
    cases x <;> rfl
  rw [this]
  rfl

theorem results_list (hE : EnvOk P E) (hr : HR k h w) {n : Nat} {tmps : T AV} {ts : Array Value} (ht : TR k w n tmps ts) : ∀ {rs : List ResultVar} {vs : List AV}, resultsA E h tmps rs = some vs →
    ∃ us, (rs.mapM (resF ts)).run P w = .ok us w ∧ VRL k w vs us
  | [], vs, hv => by
    simp only [resultsA, Option.some.injEq] at hv
    subst hv
    exact ⟨[], by simp, by simp only [VRL]⟩
  | .tmp t :: r, vs, hv => by
    simp only [resultsA] at hv
    split at hv
    case h_2 => cases hv
    rename_i vs' hr'
    cases hv
    obtain ⟨us, h1, h2⟩ := results_list hE hr ht hr'
    refine ⟨ts.getD t undef :: us, ?_, ?_⟩
    · simp only [List.mapM_cons, resF, Sem.run_bind, Sem.run_pure, Result.andThen_ok, h1]
    · simp only [VRL]; exact ⟨_, _, rfl, ht.2 t, h2⟩
  | .cell a t :: r, vs, hv => by
    simp only [resultsA] at hv
    split at hv
    case h_2 => cases hv
    rename_i i hi
    split at hv
    case h_2 => cases hv
    rename_i v vs' hl hr'
    cases hv
    obtain ⟨us, h1, h2⟩ := results_list hE hr ht hr'
    obtain ⟨ad, u, g1, g2, g3⟩ := loadA_sound hE hi hr (ht.2 a) hl
    refine ⟨u :: us, ?_, ?_⟩
    · simp only [List.mapM_cons, resF, Sem.run_bind, Sem.run_pure, Result.andThen_ok, h1, g1, asAddr, g2]
    · simp only [VRL]; exact ⟨_, _, rfl, g3, h2⟩

theorem results_sound (hE : EnvOk P E) (hr : HR k h w) {n : Nat} {tmps : T AV} {ts : Array Value} (ht : TR k w n tmps ts) {F : Func} {vs : List AV} (hv : resultsA E h tmps F.results.toList = some vs) :
    ∃ v, (results F ts).run P w = .ok v w ∧ VR k w (oneRes vs) v := by
  obtain ⟨us, h1, h2⟩ := results_list hE hr ht hv
  have hrun : (results F ts).run P w = .ok (if hs : us.toArray.size = 1 then us.toArray[0] else .tuple us.toArray) w := by
    rw [results_eq, Array.mapM_eq_mapM_toList]
    simp only [Sem.run_bind, Sem.run_map, h1, Result.andThen_ok, Sem.run_pure]
  refine ⟨_, hrun, ?_⟩
  cases vs with
  | nil =>
    simp only [VRL] at h2
    subst h2
    simp only [oneRes, VR]
    exact ⟨_, rfl, by simp [VRL]⟩
  | cons x r => cases r with
    | nil =>
      simp only [VRL] at h2
      obtain ⟨v, _, rfl, h3, rfl⟩ := h2
      exact h3
    | cons y r =>
      have hl := h2.length
      simp only [List.length_cons] at hl
      rw [dif_neg (by simp [hl])]
      simp only [oneRes, VR]
      exact ⟨_, rfl, by simpa using h2⟩

theorem unw_step (hE : EnvOk P E) {n : Nat} (ih : ∀ cmd h rc res h' rc', ev E n cmd h rc = some (res, h', rc') → CmdOk P E cmd h rc res h' rc')
    {c : Ctx} {m : AMode} {tmps : T AV} {defs : List AD} {h : AH} {rc : RC} {res : ARes} {h' : AH} {rc' : RC} (he : ev E (n + 1) (.unw c m tmps defs) h rc = some (res, h', rc')) : UnwOk P E c m tmps defs h rc res h' rc' := by
  intro k w fr cs hk hr hg hf hrc hround
  have hd := hf.defs
  have hm := hf.mode
  have hne : fr.mode ≠ .run := by
    intro e
    cases m with
    | ret => simp only [ModeR] at hm; rw [e] at hm; cases hm
    | pan ch => obtain ⟨chain, h1, _⟩ := hm; rw [e] at h1; cases h1
  have punw : ∀ {k1 : K} {h1 : AH} {w1 : World} {fr1 : Frame} {m1 : AMode} {defs1 : List AD}, Ev k k1 h h1 w w1 → HR k1 h1 w1 → Steps P (lone fr cs w) (lone fr1 cs w1) → FU k1 w1 c m1 tmps defs1 fr1 → ev E n (.unw c m1 tmps defs1) h1 rc = some (res, h', rc') → RunOut P k h w c rc cs fr res h' rc' :=
    fun e1 r1 hs f1 he => RunOut.pre e1 hs (ih _ _ _ _ _ _ he _ _ _ cs (e1.sz.trans hk) r1 (hg.mono (e1.le hr)) f1 (hrc.mono (e1.le hr)) hround)
  cases hcr : c.round with
  | some l =>
    simp only [ev, hcr] at he
    split at he
    case h_2 => cases he
    rename_i ch F hF
    cases he
    simp only [DRL] at hd
    obtain ⟨chain, h1, h2⟩ := hm
    refine ⟨k, w, hr, Ev.refl _ _ _, ?_⟩
    rw [hcr]
    intro caller rest hcs
    subst hcs
    exact ⟨chain, h2, .one (step_leave_panicked ⟨h1, hd, F, by rw [hf.fn]; exact (hE.fn _ _ hF).1⟩)⟩
  | none =>
    have hro := hf.round
    rw [hcr] at hro
    cases defs with
    | nil =>
      simp only [DRL] at hd
      cases m with
      | ret =>
        simp only [ev, hcr] at he
        split at he
        case h_2 => cases he
        rename_i F hF
        split at he
        case h_2 => cases he
        rename_i vs hv
        cases he
        obtain ⟨v, h1, h2⟩ := results_sound hE hr hf.tmps hv
        refine ⟨k, w, hr, Ev.refl _ _ _, ?_⟩
        rw [hcr]
        exact ⟨cs, fr, .inl ⟨rfl, rfl⟩, .refl _ _, hf.fn, hf.kind, hro, hd, F, (hE.fn _ _ hF).1, hm, v, h1, h2⟩
      | pan ch =>
        simp only [ev, hcr] at he
        split at he
        case h_2 => cases he
        rename_i F hF
        cases he
        refine ⟨k, w, hr, Ev.refl _ _ _, ?_⟩
        rw [hcr]
        exact ⟨cs, fr, .inl ⟨rfl, rfl⟩, .refl _ _, hf.fn, hf.kind, hro, hd, F, (hE.fn _ _ hF).1, hm⟩
    | cons d ds =>
      obtain ⟨dd, ds', hdd, h1, h2⟩ := hd
      cases d with
      | mark o =>
        simp only [ev, hcr] at he
        split at he
        case h_2 => cases he
        rename_i hgo
        obtain ⟨b, hb, rfl⟩ := h1
        obtain ⟨w1, t1, t2, t3⟩ := take_sound (P := P) hr hgo hb
        have le := t3.le hr
        refine punw t3 t2 (st_unw_mark hne hdd t1) ⟨hf.fn, hf.tmps.mono le, h2.mono le, ?_, hf.kind, by rw [hcr]; exact hro, hf.early⟩ he
        cases m with
        | ret => exact hm
        | pan ch => obtain ⟨chain, q1, q2⟩ := hm; exact ⟨chain, q1, q2.mono le⟩
      | call fv args =>
        simp only [ev, hcr] at he
        split at he
        · rename_i x h1' rc1 hc
          obtain ⟨fv', vs, g1, g2, g3⟩ := h1
          cases fv' <;> simp only at g3
          rename_i fn first captured
          subst g3
          obtain ⟨nx, w1, fr0, q1, q2, q3⟩ := (ih (.call fv args .deferred) h (rcOf m) _ _ _ hc k w fn first captured vs hk hr hg g1 g2).2 rfl m x rfl rfl
          obtain ⟨k2, w2, mode', r2, e2, m2, s2⟩ := q3 { fr with defers := ds' } cs hm
          have le := e2.le hr
          refine punw e2 r2 ((st_unw_call hne hdd q1 q2).trans s2) ⟨hf.fn, hf.tmps.mono le, h2.mono le, m2, hf.kind, by rw [hcr]; exact hro, hf.early⟩ he
        · cases he
        · cases he

theorem callFunc_enter (hE : EnvOk P E) {f : FuncId} {F : Func} (hF : E.fn f = some F) {b : Code} (hb : F.body = some b) {vs : Array Value} : (callFunc f vs).run P w = .ok (.enter f vs) w := by
  obtain ⟨h1, h2⟩ := hE.fn f F hF
  simp [callFunc, h1, h2, hb]

theorem enter_ok (hE : EnvOk P E) (hP : PrimOk P E) {n : Nat} (ih : ∀ cmd h rc res h' rc', ev E n cmd h rc = some (res, h', rc') → CmdOk P E cmd h rc res h' rc')
    {f : FuncId} {args : List AV} {kind : CallKind} {rc : RC} {res : ARes} {rc' : RC}
    (he : (match (generalizing := false) primA E f kind args h with
      | some (v, h') => some (ARes.ret v, h', rc)
      | none => match E.fn f with
        | some F => match F.body with
          | some b => bif Nat.ble args.length F.ntmps && Nat.blt F.ntmps limF then ev E n (.run ⟨f, F.ntmps, kind, none⟩ (putArgs 0 args .e) [.code b] []) h rc else none
          | none => none
        | none => none) = some (res, h', rc'))
    (hk : k.sz = ⟨P.cellsOf, E.sel, E.tok, E.str⟩) (hr : HR k h w) (hg : GlobOk E k w) {vs : Array Value} (hv : VRL k w args vs.toList) :
    (kind = .normal → rc = .no → CallN P k h w res h' ((callFunc f vs).run P w)) ∧ (kind = .deferred → ∀ m x, rc = rcOf m → res = .ret x → CallDf P k h w m h' rc' ((callFunc f vs).run P w)) := by
  cases hp : primA E f kind args h with
  | some q =>
    obtain ⟨v, h1⟩ := q
    rw [hp] at he
    cases he
    unfold primA at hp
    cases hpf : E.prim f with
    | none => rw [hpf] at hp; cases hp
    | some p =>
      rw [hpf] at hp
      cases kind <;> simp only at hp <;> try (cases hp; done)
      exact ⟨fun _ _ => hP f p hpf k h w args vs v h' hk hr hg hv hp, nofun⟩
  | none =>
    rw [hp] at he
    simp only at he
    split at he
    case h_2 => cases he
    rename_i F hF
    split at he
    case h_2 => cases he
    rename_i b hb
    cases hc : (Nat.ble args.length F.ntmps && Nat.blt F.ntmps limF) with
    | false => rw [hc] at he; cases he
    | true =>
      rw [hc] at he
      simp only [cond_true] at he
      simp only [Bool.and_eq_true] at hc
      have hn1 := Nat.le_of_ble_eq_true hc.1
      have hn2 : F.ntmps < limF := Nat.le_of_ble_eq_true hc.2
      have hrun := callFunc_enter (w := w) hE hF hb (vs := vs)
      have hPF := (hE.fn f F hF).1
      have hbegin : (kind = .normal ∨ kind = .deferred) → ∀ cs, RCR k w rc kind cs → RunOut P k h w ⟨f, F.ntmps, kind, none⟩ rc cs (Frame.enter P f vs kind) res h' rc' := by
        intro hkind cs hrc
        refine ih _ _ _ _ _ _ he k w (Frame.enter P f vs kind) cs hk hr hg ⟨rfl, ?_, ?_, rfl, rfl, rfl, rfl, hkind⟩ hrc nofun
        · simp only [Frame.enter, hPF, Option.map_some, Option.getD_some]
          exact putArgs_sound hv hn1 hn2
        · simp [Frame.enter, hPF, hb, IR]
      constructor
      · intro hkind hrc
        subst hkind hrc
        refine ⟨_, w, hrun, .inr ⟨_, .enter f vs, fun caller cs => ?_⟩⟩
        obtain ⟨k', w', r1, e1, cs', fr', a1, s1, q1, q2, q3, q4, F', q5, q6⟩ := hbegin (.inl rfl) (caller :: cs) nofun
        obtain ⟨rfl, rfl⟩ : rc' = .no ∧ cs' = caller :: cs := by
          rcases a1 with h1 | ⟨_, _, _, _, _, h1, _⟩
          · exact h1
          · cases h1
        refine ⟨k', w', r1, e1, ?_⟩
        cases res with
        | ret x =>
          obtain ⟨q6, v, q7, q8⟩ := q6
          exact ⟨v, q8, s1.trans (.one (step_leave_returned ⟨q6, q4, q2, F', by rw [q1]; exact q5, q7⟩))⟩
        | pan ch =>
          obtain ⟨chain, q6, q7⟩ := q6
          exact ⟨chain, q7, s1.trans (.one (step_leave_panicked ⟨q6, q4, F', by rw [q1]; exact q5⟩))⟩
      · intro hkind m x hrc hres
        subst hkind hrc hres
        refine ⟨_, w, _, hrun, .enter f vs, fun caller cs hm => ?_⟩
        have noRec : ∀ {ch : List (AV × Bool)} {chain : List PanicEntry}, CR k w ch chain → (∀ e ∈ chain, e.recovered = false ∧ e.goexit = false) := by
          intro ch
          induction ch with
          | nil => intro chain hc e he; simp only [CR] at hc; subst hc; cases he
          | cons p ch ihc =>
            intro chain hc e he
            obtain ⟨v, r⟩ := p
            obtain ⟨e', c', rfl, _, h3, h4, h5⟩ := hc
            rcases List.mem_cons.1 he with rfl | he
            · exact ⟨h3.1, h4⟩
            · exact ihc h5 e he
        have hRCR : RCR k w (rcOf m) .deferred (caller :: cs) := by
          cases m with
          | ret =>
            simp only [rcOf, RCR]
            intro _ c' r' hcs v older hmode
            cases hcs
            simp only [ModeR] at hm
            rw [hm] at hmode
            cases hmode
          | pan ch =>
            obtain ⟨chain, h1, h2⟩ := hm
            cases ch with
            | nil =>
              simp only [CR] at h2
              subst h2
              simp only [rcOf, lastTrue, RCR]
              intro _ c' r' hcs v older hmode
              cases hcs
              rw [h1] at hmode
              cases hmode
            | cons p ch =>
              obtain ⟨v, r⟩ := p
              obtain ⟨e', c', rfl, g2, ⟨g3, rfl⟩, g4, g5⟩ := h2
              simp only [rcOf, lastTrue, RCR]
              obtain ⟨u, r, ge⟩ := e'
              simp only at g2 g3 g4
              subst g3 g4
              exact ⟨trivial, caller, cs, u, c', rfl, h1, g2⟩
        obtain ⟨k', w', r1, e1, cs', fr', a1, s1, q1, q2, q3, q4, F', q5, q6, v, q7, q8⟩ := hbegin (.inr rfl) (caller :: cs) hRCR
        have le := e1.le hr
        rcases a1 with ⟨rfl, rfl⟩ | ⟨v1, caller1, rest1, u1, older1, b1, rfl, b3, b4, rfl⟩
        · refine ⟨k', w', caller.mode, r1, e1, ?_, s1.trans (st_ret_deferred q6 q4 q2 (by rw [q1]; exact q5) q7 (.inr ⟨?_, rfl⟩))⟩
          · have : settle m (rcOf m) = m := by
              cases m with
              | ret => rfl
              | pan ch =>
                simp only [rcOf]
                cases hl : lastTrue ch <;> rfl
            rw [this]
            cases m with
            | ret => exact hm
            | pan ch => obtain ⟨chain, h1, h2⟩ := hm; exact ⟨chain, h1, h2.mono le⟩
          · intro e chain hmode
            cases m with
            | ret => simp only [ModeR] at hm; rw [hm] at hmode; cases hmode
            | pan ch =>
              obtain ⟨chain', h1, h2⟩ := hm
              rw [h1] at hmode
              cases hmode
              exact (noRec h2 e (by simp)).1
        · cases b3
          refine ⟨k', w', .returning, r1, e1, rfl, s1.trans (st_ret_deferred q6 q4 q2 (by rw [q1]; exact q5) q7 (.inl ⟨u1, older1, rfl, ?_, rfl⟩))⟩
          intro e hmem
          cases m with
          | ret => simp only [ModeR] at hm; rw [hm] at b4; cases b4
          | pan ch =>
            obtain ⟨chain', h1, h2⟩ := hm
            rw [h1] at b4
            cases b4
            exact (noRec h2 e (List.mem_cons_of_mem _ hmem)).2

theorem call_step (hE : EnvOk P E) (hP : PrimOk P E) {n : Nat} (ih : ∀ cmd h rc res h' rc', ev E n cmd h rc = some (res, h', rc') → CmdOk P E cmd h rc res h' rc')
    {fv : AV} {args : List AV} {kind : CallKind} {h : AH} {rc : RC} {res : ARes} {h' : AH} {rc' : RC} (he : ev E (n + 1) (.call fv args kind) h rc = some (res, h', rc')) : CallOk P E fv args kind h rc res h' rc' := by
  intro k w fn first captured vs hk hr hg hfv hv
  obtain ⟨fn0, a, b, rfl⟩ := call_func he
  cases fn0 with
  | func f =>
    simp only [VR] at hfv
    obtain ⟨fs, cs, h1, h2, h3⟩ := hfv
    cases h1
    simp only [ev] at he
    have e : invoke (.fn (.func f) captured) (first ++ vs) = callFunc f ((first ++ vs) ++ captured) := by
      rfl
    rw [e]
    refine enter_ok hE hP ih he hk hr hg ?_
    rw [Array.toList_append, Array.toList_append, List.append_assoc]
    exact h2.append (hv.append h3)
  | method name =>
    simp only [VR] at hfv
    obtain ⟨fs, cs, h1, h2, h3⟩ := hfv
    cases h1
    simp only [ev] at he
    split at he
    case h_2 => cases he
    rename_i t x rest hargs
    split at he
    case h_2 => cases he
    rename_i f hm
    have hall := h2.append hv
    rw [hargs] at hall
    simp only [VRL, VR] at hall
    obtain ⟨v0, vs0, e0, ⟨y, rfl, hy⟩, hrest⟩ := hall
    have e1 : first ++ vs = (Value.iface t y :: vs0).toArray := by
      apply Array.toList_inj.1
      simp [e0]
    have e2 : (invoke (.fn (.method name) captured) (first ++ vs)).run P w = (callFunc f (#[y] ++ vs0.toArray)).run P w := by
      rw [e1]
      have e3 : (Value.iface t y :: vs0).toArray.extract 1 (Value.iface t y :: vs0).toArray.size = vs0.toArray := by
        apply Array.toList_inj.1
        simp
      simp only [invoke]
      have e4 : (Value.iface t y :: vs0).toArray[0]? = some (Value.iface t y) := by simp
      rw [e4]
      simp only [e3]
      have := hE.meth t name f hm y w
      simp [callMethod, this]
    rw [e2]
    refine enter_ok hE hP ih he hk hr hg ?_
    simp only [Array.toList_append, List.cons_append, List.nil_append, VRL]
    exact ⟨_, _, rfl, hy, hrest⟩
  | methodOf t name => simp only [ev] at he; cases he
  | via t p f q => simp only [ev] at he; cases he
  | yield l =>
    simp only [VR] at hfv
    obtain ⟨lb, hb, h1, _, _⟩ := hfv
    cases h1
    cases kind <;> simp only [ev] at he <;> try (cases he; done)
    refine ⟨fun _ hrc => ?_, nofun⟩
    subst hrc
    split at he
    case h_2 => cases he
    rename_i st pend fnn m ts ps as' bd d hgl
    cases hc : (Nat.beq args.length ps.length && ps.all fun p => Nat.blt p m && Nat.blt p limF) with
    | false => rw [hc] at he; cases he
    | true =>
      rw [hc] at he
      simp only [cond_true] at he
      simp only [Bool.and_eq_true] at hc
      obtain ⟨tmps, g1, g2⟩ := yield_sound (P := P) hr hgl hb hv (Nat.eq_of_beq_eq_true hc.1) hc.2
      refine ⟨_, w, ?_, .inr ⟨_, .round lb fnn tmps as' bd, fun caller cs => ?_⟩⟩
      · rw [← g1]
        simp [invoke]
      · obtain ⟨k', w', r1, e1, q⟩ := ih _ _ _ _ _ _ he k w (Frame.round lb fnn tmps as' bd .normal) (caller :: cs) hk hr hg
          ⟨rfl, g2, by simp [Frame.round, IR], rfl, rfl, rfl, ⟨lb, hb, rfl⟩, .inl rfl⟩ nofun (fun _ => rfl)
        exact ⟨k', w', r1, e1, q caller cs rfl⟩

theorem ev_sound (hE : EnvOk P E) (hP : PrimOk P E) (hD : DrawOk P E) : ∀ n cmd h rc res h' rc', ev E n cmd h rc = some (res, h', rc') → CmdOk P E cmd h rc res h' rc'
  | 0, cmd, h, rc, res, h', rc', he => by cases cmd <;> (simp only [ev] at he; cases he)
  | n + 1, cmd, h, rc, res, h', rc', he => by
    have ih := ev_sound hE hP hD n
    cases cmd with
    | run c tmps todo defs => exact run_step hE hP hD ih he
    | unw c m tmps defs => exact unw_step hE ih he
    | call fv args kind => exact call_step hE hP ih he

end
end Go.Ab

namespace Go.Ab
open Go

theorem inner_spec (acc : Array Nat) (j : Nat) : ∀ (l : List Edge) (s : Nat), (l.foldl (fun s e => if Region.binds .any e then s ||| 2 ^ e.on ||| acc.getD e.on 0 else s) s).testBit j = true →
    s.testBit j = true ∨ ∃ e ∈ l, Region.binds .any e = true ∧ (j = e.on ∨ (acc.getD e.on 0).testBit j = true)
  | [], s, h => .inl h
  | e :: l, s, h => by
    simp only [List.foldl_cons] at h
    rcases inner_spec acc j l _ h with h1 | ⟨e', h1, h2⟩
    · by_cases hb : Region.binds .any e = true
      · rw [if_pos hb] at h1
        simp only [Nat.testBit_or, Bool.or_eq_true, Nat.testBit_two_pow, decide_eq_true_eq] at h1
        rcases h1 with (h1 | h1) | h1
        · exact .inl h1
        · exact .inr ⟨e, by simp, hb, .inl h1.symm⟩
        · exact .inr ⟨e, by simp, hb, .inr h1⟩
      · rw [if_neg hb] at h1
        exact .inl h1
    · exact .inr ⟨e', by simp [h1], h2⟩

theorem before_spec (ops : Array Oper) {i j : Nat} (h : bitOf (Region.before ops) i j = true) :
    ∃ o, ops[i]? = some o ∧ ∃ e ∈ o.after, Region.binds .any e = true ∧ (j = e.on ∨ bitOf (Region.before ops) e.on j = true) := by
  have key : (Region.before ops).size = ops.size ∧ ∀ i j, ((Region.before ops).getD i 0).testBit j = true → ∃ o, ops[i]? = some o ∧ ∃ e ∈ o.after, Region.binds .any e = true ∧ (j = e.on ∨ ((Region.before ops).getD e.on 0).testBit j = true) := by
    unfold Region.before
    refine Array.foldl_induction (as := ops) (motive := fun k (acc : Array Nat) => acc.size = k ∧ ∀ i j, (acc.getD i 0).testBit j = true → ∃ o, ops[i]? = some o ∧ ∃ e ∈ o.after, Region.binds .any e = true ∧ (j = e.on ∨ (acc.getD e.on 0).testBit j = true)) ⟨rfl, fun i j h => by simp at h⟩ ?_
    intro i acc ⟨hs, hacc⟩
    refine ⟨by simp [hs], fun m j h => ?_⟩
    have old : ∀ (x m : Nat), m < acc.size → (acc.push x).getD m 0 = acc.getD m 0 := by
      intro x m hm
      simp only [Array.getD_eq_getD_getElem?, Array.getElem?_push, if_neg (show m ≠ acc.size by omega)]
    have mono : ∀ (x m : Nat), (acc.getD m 0).testBit j = true → ((acc.push x).getD m 0).testBit j = true := by
      intro x m hm
      by_cases hlt : m < acc.size
      · rw [old x m hlt]; exact hm
      · rw [Array.getD_eq_getD_getElem?, Array.getElem?_eq_none (by omega)] at hm
        simp at hm
    by_cases hm : m < acc.size
    · rw [old _ m hm] at h
      obtain ⟨o, h1, e, h2, h3, h4⟩ := hacc m j h
      exact ⟨o, h1, e, h2, h3, h4.imp_right (mono _ _)⟩
    · by_cases hm2 : m = acc.size
      · subst hm2
        have hi : ops[acc.size]? = some ops[i] := by
          rw [hs]; simp
        refine ⟨ops[i], hi, ?_⟩
        rw [Array.getD_eq_getD_getElem?, Array.getElem?_push, if_pos rfl, Option.getD_some] at h
        rw [← Array.foldl_toList] at h
        rcases inner_spec acc j _ _ h with h1 | ⟨e, h1, h2, h3⟩
        · simp at h1
        · exact ⟨e, by simpa using h1, h2, h3.imp_right (mono _ _)⟩
      · rw [Array.getD_eq_getD_getElem?, Array.getElem?_eq_none (by simp; omega)] at h
        simp at h
  exact key.2 i j h

/-- What is fixed of a drawn statement's operations. -/
structure Apart (ops : Array Oper) (bs : Array Nat) : Prop where
  down : ∀ (j : Nat) (q : Oper), ops[j]? = some q → ∀ e ∈ q.after, Region.binds .any e = true → e.on < j
  one : ∀ (i j : Nat) (o q : Oper) (t : Nat), ops[i]? = some o → ops[j]? = some q → o.dst = some t → q.dst = some t → i = j
  look : ∀ (i j : Nat) (o q : Oper) (t : Nat), ops[i]? = some o → ops[j]? = some q → q.dst = some t → t ∈ looksA ops o → (j < i ∧ bitOf bs i j = true) ∨ (i ≤ j ∧ (j = i ∨ bitOf bs j i = true))

theorem apart_spec {ops : Array Oper} {bs : Array Nat} (h : apartOk ops bs = true) : Apart ops bs := by
  unfold apartOk at h
  rw [List.all_eq_true] at h
  have lt : ∀ {i : Nat} {o : Oper}, ops[i]? = some o → i ∈ List.range ops.size := fun ho => List.mem_range.2 (Array.getElem?_eq_some_iff.1 ho).1
  have both : ∀ (i j : Nat) (o q : Oper) (t : Nat), ops[i]? = some o → ops[j]? = some q → q.dst = some t →
      ((!(looksA ops o).contains t || bif Nat.blt j i then bitOf bs i j else Nat.beq i j || bitOf bs j i) && (Nat.beq i j || !decide (o.dst = some t))) = true := by
    intro i j o q t hi hj ht
    have h1 := h j (lt hj)
    rw [hj] at h1
    simp only [ht, Bool.and_eq_true, List.all_eq_true] at h1
    have h2 := h1.2 i (lt hi)
    rw [hi] at h2
    simpa using h2
  refine ⟨fun j q hj e he hb => ?_, fun i j o q t hi hj h1 h2 => ?_, fun i j o q t hi hj h1 h2 => ?_⟩
  · have h1 := h j (lt hj)
    rw [hj] at h1
    simp only [Bool.and_eq_true, Array.all_eq_true_iff_forall_mem] at h1
    have h2 := h1.1 e he
    simp only [hb, Bool.not_true, Bool.false_or] at h2
    exact Nat.le_of_ble_eq_true h2
  · have := both i j o q t hi hj h2
    simp only [h1, Bool.and_eq_true, Bool.or_eq_true] at this
    rcases this.2 with h3 | h3
    · exact Nat.eq_of_beq_eq_true h3
    · simp at h3
  · have := both i j o q t hi hj h1
    simp only [Bool.and_eq_true, Bool.or_eq_true] at this
    have hc : (looksA ops o).contains t = true := by simpa using h2
    have h3 := this.1.resolve_left (by rw [hc]; decide)
    by_cases hlt : j < i
    · have : Nat.blt j i = true := Nat.ble_eq_true_of_le hlt
      rw [this] at h3
      exact .inl ⟨hlt, h3⟩
    · have : Nat.blt j i = false := by
        cases hb : Nat.blt j i with
        | false => rfl
        | true => exact absurd (Nat.le_of_ble_eq_true hb) hlt
      rw [this] at h3
      simp only [cond_false, Bool.or_eq_true] at h3
      refine .inr ⟨by omega, ?_⟩
      rcases h3 with h3 | h3
      · exact .inl (Nat.eq_of_beq_eq_true h3).symm
      · exact .inr h3

/-- Bits point down. -/
theorem bit_lt {ops : Array Oper} (ha : Apart ops (Region.before ops)) : ∀ (i j : Nat), bitOf (Region.before ops) i j = true → j < i := by
  intro i
  induction i using Nat.strongRecOn with
  | _ i ih =>
    intro j h
    obtain ⟨o, h1, e, h2, h3, h4⟩ := before_spec ops h
    have hlt := ha.down i o h1 e h2 h3
    rcases h4 with rfl | h4
    · exact hlt
    · have := ih _ hlt _ h4; omega

end Go.Ab

namespace Go.Ab
open Go

theorem setDst_spec {cn : Nat} {dst : Option Nat} {v : AV} {t t' : T AV} (h : setDst cn dst v t = some t') :
    (∀ x, dst ≠ some x → T.get deepF t' x = T.get deepF t x) ∧ (∀ d, dst = some d → d < cn ∧ d < limF ∧ T.get deepF t' d = some v) := by
  cases dst with
  | none =>
    simp only [setDst, Option.some.injEq] at h
    subst h
    exact ⟨fun _ _ => rfl, fun d hd => by cases hd⟩
  | some d =>
    simp only [setDst] at h
    cases hb : (Nat.blt d cn && Nat.blt d limF) with
    | false => rw [hb] at h; cases h
    | true =>
      rw [hb] at h
      simp only [cond_true, Option.some.injEq] at h
      subst h
      simp only [Bool.and_eq_true] at hb
      have h1 : d < cn := Nat.le_of_ble_eq_true hb.1
      have h2 : d < limF := Nat.le_of_ble_eq_true hb.2
      have hg : ∀ x, T.get deepF (T.put deepF t d (some v)) x = if x = d then some v else T.get deepF t x := fun x => T.get_put' 10 t d x _ (by simpa using h2)
      refine ⟨fun x hx => ?_, fun d' hd => ?_⟩
      · rw [hg, if_neg (fun e => hx (by rw [e]))]
      · cases hd
        exact ⟨h1, h2, by rw [hg, if_pos rfl]⟩

section
variable {E : Env} {callf : AV → List AV → AH → Option (ARes × AH × RC)} {cn : Nat} {ops : Array Oper} {bs : Array Nat} {base : Nat}

/-- One operation of the pass. -/
inductive Step1 (E : Env) (callf : AV → List AV → AH → Option (ARes × AH × RC)) (cn : Nat) (ops : Array Oper) (bs : Array Nat) (base i : Nat) (s : DSt) : DSt → Prop
  | dead : deadIn bs s.pan i = true → Step1 E callf cn ops bs base i s s
  | skip {o t} : ops[i]? = some o → wantedA ops o s.tmps = some false → setDst cn o.dst undefA s.tmps = some t → Step1 E callf cn ops bs base i s { s with log := (i, s.tmps) :: s.log, tmps := t }
  | f {o t v} : ops[i]? = some o → wantedA ops o s.tmps = some true → kindOf E o.op = .f → setDst cn o.dst v s.tmps = some t → Step1 E callf cn ops bs base i s { s with log := (i, s.tmps) :: s.log, tmps := t }
  | a {o t x f} : ops[i]? = some o → wantedA ops o s.tmps = some true → kindOf E o.op = .a → allocOf E o.op (aeval E s.tmps) = some (x, f) → setDst cn o.dst (f (base + i)) s.tmps = some t →
      Step1 E callf cn ops bs base i s { s with log := (i, s.tmps) :: s.log, tmps := t, pend := (i, base + i, x) :: s.pend }
  | e {o t v h'} : ops[i]? = some o → wantedA ops o s.tmps = some true → kindOf E o.op = .e → s.pan = none → (s.old.all fun p => bitOf bs i p.1) = true →
      (askA E o (aeval E s.tmps) (AH.lay s.h (s.pend.filter fun p => bitOf bs i p.1)) = some (.val v h') ∨ ∃ fv args rc, askA E o (aeval E s.tmps) (AH.lay s.h (s.pend.filter fun p => bitOf bs i p.1)) = some (.call fv args) ∧ callf fv args (AH.lay s.h (s.pend.filter fun p => bitOf bs i p.1)) = some (.ret v, h', rc)) →
      setDst cn o.dst v s.tmps = some t →
      Step1 E callf cn ops bs base i s { s with log := (i, s.tmps) :: s.log, tmps := t, h := h', rd := h', pend := s.pend.filter fun p => !bitOf bs i p.1, old := (i, s.h) :: s.old }
  | p {o ch h' fv args rc} : ops[i]? = some o → wantedA ops o s.tmps = some true → kindOf E o.op = .e → s.pan = none → (s.old.all fun p => bitOf bs i p.1) = true →
      askA E o (aeval E s.tmps) (AH.lay s.h (s.pend.filter fun p => bitOf bs i p.1)) = some (.call fv args) → callf fv args (AH.lay s.h (s.pend.filter fun p => bitOf bs i p.1)) = some (.pan ch, h', rc) →
      Step1 E callf cn ops bs base i s { s with log := (i, s.tmps) :: s.log, h := h', pend := s.pend.filter fun p => !bitOf bs i p.1, old := (i, s.h) :: s.old, pan := some (i, ch) }

theorem drawGo_cons {i : Nat} {rest : List Nat} {s sf : DSt} (h : drawGo E callf cn ops bs base (i :: rest) s = some sf) : ∃ s1, Step1 E callf cn ops bs base i s s1 ∧ drawGo E callf cn ops bs base rest s1 = some sf := by
  simp only [drawGo] at h
  cases hd : deadIn bs s.pan i with
  | true => rw [hd] at h; exact ⟨s, .dead hd, h⟩
  | false =>
    rw [hd] at h
    simp only [cond_false] at h
    split at h
    case h_1 => cases h
    rename_i o ho
    split at h
    · cases h
    · rename_i hw
      split at h
      case h_2 => cases h
      rename_i t ht
      exact ⟨_, .skip ho hw ht, h⟩
    · rename_i hw
      split at h
      · cases h
      · rename_i hk
        split at h
        case h_1 => cases h
        rename_i v _
        split at h
        case h_2 => cases h
        rename_i t ht
        exact ⟨_, .f ho hw hk ht, h⟩
      · rename_i hk
        split at h
        case h_1 => cases h
        rename_i x f ha
        split at h
        case h_2 => cases h
        rename_i t ht
        exact ⟨_, .a ho hw hk ha ht, h⟩
      · rename_i hk
        cases hc : (s.pan.isNone && s.old.all fun p => bitOf bs i p.1) with
        | false => rw [hc] at h; cases h
        | true =>
          rw [hc] at h
          simp only [cond_true] at h
          simp only [Bool.and_eq_true] at hc
          have hp : s.pan = none := by simpa using hc.1
          split at h
          · rename_i v h' ha
            split at h
            case h_2 => cases h
            rename_i t ht
            exact ⟨_, .e ho hw hk hp hc.2 (.inl ha) ht, h⟩
          · rename_i fv args ha
            split at h
            · rename_i v h' rc hcf
              split at h
              case h_2 => cases h
              rename_i t ht
              exact ⟨_, .e ho hw hk hp hc.2 (.inr ⟨_, _, _, ha, hcf⟩) ht, h⟩
            · rename_i ch h' rc hcf
              exact ⟨_, .p ho hw hk hp hc.2 ha hcf, h⟩
            · cases h
          · cases h

/-- What the pass leaves as it was. -/
theorem drawGo_keep : ∀ (m i0 : Nat) (s sf : DSt), drawGo E callf cn ops bs base (List.range' i0 m) s = some sf →
    (∀ t, (∀ j q, i0 ≤ j → ops[j]? = some q → q.dst ≠ some t) → T.get deepF sf.tmps t = T.get deepF s.tmps t) ∧ (∀ p ∈ s.log, p ∈ sf.log) ∧ (∀ x, s.pan = some x → sf.pan = some x ∧ sf.h = s.h ∧ sf.old = s.old)
  | 0, i0, s, sf, h => by
    simp only [List.range'_zero, drawGo, Option.some.injEq] at h
    subst h
    exact ⟨fun _ _ => rfl, fun _ h => h, fun _ h => ⟨h, rfl, rfl⟩⟩
  | m + 1, i0, s, sf, h => by
    rw [List.range'_succ] at h
    obtain ⟨s1, hs, h⟩ := drawGo_cons h
    obtain ⟨c1, c2, c3⟩ := drawGo_keep m (i0 + 1) s1 sf h
    have c1' : ∀ t, (∀ j q, i0 ≤ j → ops[j]? = some q → q.dst ≠ some t) → T.get deepF sf.tmps t = T.get deepF s1.tmps t := fun t ht => c1 t fun j q hj => ht j q (by omega)
    cases hs with
    | dead hd => exact ⟨c1', c2, c3⟩
    | skip ho hw ht => exact ⟨fun t h1 => (c1' t h1).trans ((setDst_spec ht).1 t (h1 i0 _ (Nat.le_refl _) ho)), fun p hp => c2 p (by simp [hp]), c3⟩
    | f ho hw hk ht => exact ⟨fun t h1 => (c1' t h1).trans ((setDst_spec ht).1 t (h1 i0 _ (Nat.le_refl _) ho)), fun p hp => c2 p (by simp [hp]), c3⟩
    | a ho hw hk ha ht => exact ⟨fun t h1 => (c1' t h1).trans ((setDst_spec ht).1 t (h1 i0 _ (Nat.le_refl _) ho)), fun p hp => c2 p (by simp [hp]), c3⟩
    | e ho hw hk hp hall ha ht => exact ⟨fun t h1 => (c1' t h1).trans ((setDst_spec ht).1 t (h1 i0 _ (Nat.le_refl _) ho)), fun p hp => c2 p (by simp [hp]), fun x hx => by rw [hp] at hx; cases hx⟩
    | p ho hw hk hp hall ha hc => exact ⟨c1', fun p hp => c2 p (by simp [hp]), fun x hx => by rw [hp] at hx; cases hx⟩

/-- What an operation found, told of what was there ahead and of what is there at the end. -/
def View (ops : Array Oper) (τ0 T' : T AV) (i : Nat) (Ti : T AV) : Prop :=
  (∀ t, (∀ (j : Nat) (q : Oper), j < i → ops[j]? = some q → q.dst ≠ some t) → T.get deepF Ti t = T.get deepF τ0 t) ∧
  (∀ t, (∀ (j : Nat) (q : Oper), i ≤ j → ops[j]? = some q → q.dst ≠ some t) → T.get deepF T' t = T.get deepF Ti t)

def dstOk (cn : Nat) (T' : T AV) (dst : Option Nat) (v : AV) : Prop := ∀ d, dst = some d → d < cn ∧ d < limF ∧ T.get deepF T' d = some v

def PendOk (E : Env) (ops : Array Oper) (base : Nat) (τ0 T' : T AV) (p : Nat × Nat × AO) : Prop :=
  p.2.1 = base + p.1 ∧ ∃ o Ti f, ops[p.1]? = some o ∧ View ops τ0 T' p.1 Ti ∧ wantedA ops o Ti = some true ∧ kindOf E o.op = .a ∧ allocOf E o.op (aeval E Ti) = some (p.2.2, f)

def DueOk (E : Env) (ops : Array Oper) (bs : Array Nat) (base : Nat) (τ0 T' : T AV) (laid : List Nat) (e : Nat) (due : List (Nat × Nat × AO)) : Prop :=
  (∀ p ∈ due, PendOk E ops base τ0 T' p ∧ p.1 ∉ laid ∧ bitOf bs e p.1 = true) ∧ (due.map (·.1)).Nodup

inductive FCh (E : Env) (callf : AV → List AV → AH → Option (ARes × AH × RC)) (cn : Nat) (ops : Array Oper) (bs : Array Nat) (base : Nat) (τ0 T' : T AV) : List Nat → AH → List (Nat × AH) → AH → Option (Nat × List (AV × Bool)) → List Nat → Prop
  | done (laid : List Nat) (g : AH) : FCh E callf cn ops bs base τ0 T' laid g [] g none laid
  | eff {laid : List Nat} {g : AH} {e : Nat} {due : List (Nat × Nat × AO)} {o : Oper} {Te : T AV} {v : AV} {h1 : AH} {st : List (Nat × AH)} {hend : AH} {pan : Option (Nat × List (AV × Bool))} {laidEnd : List Nat} :
      DueOk E ops bs base τ0 T' laid e due → ops[e]? = some o → View ops τ0 T' e Te → wantedA ops o Te = some true → kindOf E o.op = .e →
      (askA E o (aeval E Te) (AH.lay g due) = some (.val v h1) ∨ ∃ fv args rc, askA E o (aeval E Te) (AH.lay g due) = some (.call fv args) ∧ callf fv args (AH.lay g due) = some (.ret v, h1, rc)) →
      dstOk cn T' o.dst v → FCh E callf cn ops bs base τ0 T' (due.map (·.1) ++ laid) h1 st hend pan laidEnd → FCh E callf cn ops bs base τ0 T' laid g ((e, g) :: st) hend pan laidEnd
  | pan {laid : List Nat} {g : AH} {e : Nat} {due : List (Nat × Nat × AO)} {o : Oper} {Te : T AV} {h1 : AH} {ch : List (AV × Bool)} {fv : AV} {args : List AV} {rc : RC} (laidEnd : List Nat) :
      DueOk E ops bs base τ0 T' laid e due → ops[e]? = some o → View ops τ0 T' e Te → wantedA ops o Te = some true → kindOf E o.op = .e →
      askA E o (aeval E Te) (AH.lay g due) = some (.call fv args) → callf fv args (AH.lay g due) = some (.pan ch, h1, rc) → FCh E callf cn ops bs base τ0 T' laid g [(e, g)] h1 (some (e, ch)) laidEnd

end
end Go.Ab

namespace Go.Ab
open Go

section
variable {E : Env} {callf : AV → List AV → AH → Option (ARes × AH × RC)} {cn : Nat} {ops : Array Oper} {bs : Array Nat} {base : Nat} {τ0 : T AV}

theorem drawGo_facts (ha : Apart ops bs) : ∀ (m i0 : Nat) (s sf : DSt), drawGo E callf cn ops bs base (List.range' i0 m) s = some sf →
    (∀ t, (∀ (j : Nat) (q : Oper), j < i0 → ops[j]? = some q → q.dst ≠ some t) → T.get deepF s.tmps t = T.get deepF τ0 t) →
    (∀ i, i0 ≤ i → i < i0 + m → deadIn bs sf.pan i = true ∨ ∃ Ti, (i, Ti) ∈ sf.log ∧ View ops τ0 sf.tmps i Ti ∧ ((∀ o d, ops[i]? = some o → o.dst = some d → d < cn ∧ d < limF) ∨ ∃ ch, sf.pan = some (i, ch))) ∧
    (s.old.Pairwise (fun b a => bitOf bs b.1 a.1 = true) → sf.old.Pairwise (fun b a => bitOf bs b.1 a.1 = true)) ∧
    (s.pan = none → ∀ laid : List Nat, (∀ p ∈ s.pend, PendOk E ops base τ0 sf.tmps p ∧ p.1 ∉ laid ∧ p.1 < i0) → (s.pend.map (·.1)).Nodup → (∀ x ∈ laid, x < i0) →
      ∃ stages laidEnd, sf.old.reverse = s.old.reverse ++ stages ∧ FCh E callf cn ops bs base τ0 sf.tmps laid s.h stages sf.h sf.pan laidEnd ∧
        (sf.pan = none → (∀ p ∈ sf.pend, PendOk E ops base τ0 sf.tmps p ∧ p.1 ∉ laidEnd) ∧ (sf.pend.map (·.1)).Nodup))
  | 0, i0, s, sf, h, _ => by
    simp only [List.range'_zero, drawGo, Option.some.injEq] at h
    subst h
    refine ⟨fun i h1 h2 => by omega, fun h => h, fun hp laid h1 h2 _ => ⟨[], laid, by simp, ?_, fun _ => ⟨fun p hp => ⟨(h1 p hp).1, (h1 p hp).2.1⟩, h2⟩⟩⟩
    rw [hp]
    exact .done laid s.h
  | m + 1, i0, s, sf, h, H1 => by
    obtain ⟨c1, c2, c3⟩ := drawGo_keep _ _ _ _ h
    rw [List.range'_succ] at h
    obtain ⟨s1, hs, h⟩ := drawGo_cons h
    obtain ⟨d1, d2, d3⟩ := drawGo_keep _ _ _ _ h
    have hview : View ops τ0 sf.tmps i0 s.tmps := ⟨H1, c1⟩
    have ih := drawGo_facts ha m (i0 + 1) s1 sf h
    -- the head's own place in the log
    have head : ∀ {o : Oper}, ops[i0]? = some o → (i0, s.tmps) ∈ sf.log → ((∀ d, o.dst = some d → d < cn ∧ d < limF) ∨ ∃ ch, sf.pan = some (i0, ch)) → deadIn bs sf.pan i0 = true ∨ ∃ Ti, (i0, Ti) ∈ sf.log ∧ View ops τ0 sf.tmps i0 Ti ∧ ((∀ o d, ops[i0]? = some o → o.dst = some d → d < cn ∧ d < limF) ∨ ∃ ch, sf.pan = some (i0, ch)) := by
      intro o ho hl hd
      refine .inr ⟨_, hl, hview, hd.imp_left fun hd o' d ho' => ?_⟩
      rw [ho] at ho'
      cases ho'
      exact hd d
    have split : (deadIn bs sf.pan i0 = true ∨ ∃ Ti, (i0, Ti) ∈ sf.log ∧ View ops τ0 sf.tmps i0 Ti ∧ ((∀ o d, ops[i0]? = some o → o.dst = some d → d < cn ∧ d < limF) ∨ ∃ ch, sf.pan = some (i0, ch))) →
        (∀ i, i0 + 1 ≤ i → i < i0 + 1 + m → deadIn bs sf.pan i = true ∨ ∃ Ti, (i, Ti) ∈ sf.log ∧ View ops τ0 sf.tmps i Ti ∧ ((∀ o d, ops[i]? = some o → o.dst = some d → d < cn ∧ d < limF) ∨ ∃ ch, sf.pan = some (i, ch))) →
        ∀ i, i0 ≤ i → i < i0 + (m + 1) → deadIn bs sf.pan i = true ∨ ∃ Ti, (i, Ti) ∈ sf.log ∧ View ops τ0 sf.tmps i Ti ∧ ((∀ o d, ops[i]? = some o → o.dst = some d → d < cn ∧ d < limF) ∨ ∃ ch, sf.pan = some (i, ch)) := by
      intro h1 h2 i h3 h4
      by_cases e : i = i0
      · subst e; exact h1
      · exact h2 i (by omega) (by omega)
    have last : ∀ {o : Oper} {d : Nat}, ops[i0]? = some o → o.dst = some d → T.get deepF sf.tmps d = T.get deepF s1.tmps d := by
      intro o d ho hd
      refine d1 d fun j q hj hq he => ?_
      have := ha.one i0 j o q d ho hq hd he
      omega
    have H1' : ∀ {o : Oper} {v : AV} {t : T AV}, ops[i0]? = some o → setDst cn o.dst v s.tmps = some t → ∀ x, (∀ (j : Nat) (q : Oper), j < i0 + 1 → ops[j]? = some q → q.dst ≠ some x) → T.get deepF t x = T.get deepF τ0 x := by
      intro o v t ho ht x hx
      rw [(setDst_spec ht).1 x (hx i0 o (by omega) ho)]
      exact H1 x fun j q hj => hx j q (by omega)
    have older : ∀ {laid : List Nat}, (∀ p ∈ s.pend, PendOk E ops base τ0 sf.tmps p ∧ p.1 ∉ laid ∧ p.1 < i0) → ∀ p ∈ s.pend, PendOk E ops base τ0 sf.tmps p ∧ p.1 ∉ laid ∧ p.1 < i0 + 1 :=
      fun h p hp => ⟨(h p hp).1, (h p hp).2.1, by have := (h p hp).2.2; omega⟩
    cases hs with
    | dead hd =>
      obtain ⟨i1, i2, i3⟩ := ih fun x hx => H1 x fun j q hj => hx j q (by omega)
      have hdf : deadIn bs sf.pan i0 = true := by
        cases hp : s.pan with
        | none => rw [hp] at hd; cases hd
        | some x => rw [(c3 x hp).1, ← hp]; exact hd
      refine ⟨split (.inl hdf) i1, i2, fun hp => ?_⟩
      rw [hp] at hd; cases hd
    | skip ho hw ht =>
      obtain ⟨i1, i2, i3⟩ := ih (H1' ho ht)
      exact ⟨split (head ho (d2 _ (by simp)) (.inl fun d hd => ⟨((setDst_spec ht).2 d hd).1, ((setDst_spec ht).2 d hd).2.1⟩)) i1, i2, fun hp laid h1 h2 h3 => i3 hp laid (older h1) h2 fun x hx => by have := h3 x hx; omega⟩
    | f ho hw hk ht =>
      obtain ⟨i1, i2, i3⟩ := ih (H1' ho ht)
      exact ⟨split (head ho (d2 _ (by simp)) (.inl fun d hd => ⟨((setDst_spec ht).2 d hd).1, ((setDst_spec ht).2 d hd).2.1⟩)) i1, i2, fun hp laid h1 h2 h3 => i3 hp laid (older h1) h2 fun x hx => by have := h3 x hx; omega⟩
    | @a o t x f ho hw hk hal ht =>
      obtain ⟨i1, i2, i3⟩ := ih (H1' ho ht)
      refine ⟨split (head ho (d2 _ (by simp)) (.inl fun d hd => ⟨((setDst_spec ht).2 d hd).1, ((setDst_spec ht).2 d hd).2.1⟩)) i1, i2, fun hp laid h1 h2 h3 => ?_⟩
      have hl : i0 ∉ laid := fun hm => Nat.lt_irrefl _ (h3 i0 hm)
      refine i3 hp laid (fun p hp' => ?_) ?_ ?_
      · rcases List.mem_cons.1 hp' with rfl | hp'
        · exact ⟨⟨rfl, o, s.tmps, f, ho, hview, hw, hk, hal⟩, hl, Nat.lt_succ_self _⟩
        · exact older h1 p hp'
      · simp only [List.map_cons, List.nodup_cons]
        refine ⟨fun hm => ?_, h2⟩
        obtain ⟨p, hp1, hp2⟩ := List.mem_map.1 hm
        have := (h1 p hp1).2.2
        omega
      · intro x hx
        have := h3 x hx
        omega
    | @e o t v h' ho hw hk hp hall hask ht =>
      obtain ⟨i1, i2, i3⟩ := ih (H1' ho ht)
      refine ⟨split (head ho (d2 _ (by simp)) (.inl fun d hd => ⟨((setDst_spec ht).2 d hd).1, ((setDst_spec ht).2 d hd).2.1⟩)) i1, fun hpw => i2 ?_, fun hp laid h1 h2 h3 => ?_⟩
      · rw [List.pairwise_cons]
        refine ⟨fun a ha' => ?_, hpw⟩
        rw [List.all_eq_true] at hall
        exact hall a ha'
      · have hdue : DueOk E ops bs base τ0 sf.tmps laid i0 (s.pend.filter fun p => bitOf bs i0 p.1) :=
          ⟨fun p hp' => by
            obtain ⟨q1, q2⟩ := List.mem_filter.1 hp'
            exact ⟨(h1 p q1).1, (h1 p q1).2.1, q2⟩, h2.sublist (List.Sublist.map _ List.filter_sublist)⟩
        obtain ⟨st, le, q1, q2, q3⟩ := i3 hp (((s.pend.filter fun p => bitOf bs i0 p.1).map (·.1)) ++ laid) (fun p hp' => by
          obtain ⟨r1, r2⟩ := List.mem_filter.1 hp'
          refine ⟨(h1 p r1).1, ?_, by have := (h1 p r1).2.2; omega⟩
          rw [List.mem_append]
          rintro (hm | hm)
          · obtain ⟨q, hq1, hq2⟩ := List.mem_map.1 hm
            have := (List.mem_filter.1 hq1).2
            rw [hq2] at this
            rw [this] at r2
            cases r2
          · exact (h1 p r1).2.1 hm) (h2.sublist (List.Sublist.map _ List.filter_sublist)) (fun x hx => by
          rcases List.mem_append.1 hx with hx | hx
          · obtain ⟨q, hq1, rfl⟩ := List.mem_map.1 hx
            have := (h1 q (List.mem_filter.1 hq1).1).2.2
            omega
          · have := h3 x hx; omega)
        refine ⟨(i0, s.h) :: st, le, ?_, .eff hdue ho hview hw hk hask ?_ q2, q3⟩
        · rw [q1]; simp
        · intro d hd
          obtain ⟨r1, r2, r3⟩ := (setDst_spec ht).2 d hd
          exact ⟨r1, r2, by rw [last ho hd]; exact r3⟩
    | @p o ch h' fv args rc ho hw hk hp hall hask hcf =>
      obtain ⟨i1, i2, i3⟩ := ih fun x hx => H1 x fun j q hj => hx j q (by omega)
      obtain ⟨e1, e2, e3⟩ := d3 _ rfl
      refine ⟨split (head ho (d2 _ (by simp)) (.inr ⟨ch, e1⟩)) i1, fun hpw => i2 ?_, fun hp laid h1 h2 h3 => ?_⟩
      · rw [List.pairwise_cons]
        refine ⟨fun a ha' => ?_, hpw⟩
        rw [List.all_eq_true] at hall
        exact hall a ha'
      · have hdue : DueOk E ops bs base τ0 sf.tmps laid i0 (s.pend.filter fun p => bitOf bs i0 p.1) :=
          ⟨fun p hp' => by
            obtain ⟨q1, q2⟩ := List.mem_filter.1 hp'
            exact ⟨(h1 p q1).1, (h1 p q1).2.1, q2⟩, h2.sublist (List.Sublist.map _ List.filter_sublist)⟩
        refine ⟨[(i0, s.h)], [], ?_, ?_, fun hn => by rw [e1] at hn; cases hn⟩
        · rw [e3]; simp
        · rw [e1, e2]
          exact .pan [] hdue ho hview hw hk hask hcf

end
end Go.Ab

namespace Go.Ab
open Go

section
variable {P : Program} {E : Env} {k k' : K} {h h' : AH} {w w' : World} {ev ev' : Operand → AV} {ρ : Operand → Value}

theorem allocOf_congr {op : Op} (hx : ∀ x ∈ op.operands, ev x = ev' x) : allocOf E op ev = allocOf E op ev' := by
  cases op
  case buildSlice t len ps =>
    have e := evParts_congr (ev := ev) (ev' := ev') (ps := ps) fun a b hab => hx b (by simp only [Op.operands]; simp; exact ⟨a, hab⟩)
    simp only [allocOf, e]
  case makeMap t r => cases r <;> rfl
  all_goals first
    | rfl
    | (simp [Op.operands] at hx; simp only [allocOf, hx])

def NewOk (k : K) (w : World) (x : AO) (f : Nat → AV) (r : Result Next) : Prop :=
  ∃ v obj, r = .ok (.value v) { w with heap := w.heap.push obj } ∧ ∀ (k' : K) (w' : World) nm, Le k k' w w' → w'.heap[w.heap.size]? = some obj → k'.ρ nm = some (w.heap.size, 0) → ObR k' w' w.heap.size 0 x ∧ VR k' w' (f nm) v

theorem new_cells {el : TypeId} {cs : List AV} {arr : Array Value} (hv : VRL k w cs arr.toList) {b : Nat} (le : Le k k' w w') (hb : w'.heap[b]? = some (.cells arr el (0, 0))) : ObR k' w' b 0 (.cells el cs) := by
  obtain ⟨hl, hg⟩ := hv.of_list
  refine ⟨arr, (0, 0), hb, by omega, fun i x hx => ?_, Nat.zero_mod _, .inl rfl⟩
  obtain ⟨v, h3, h4⟩ := hg i x hx
  exact ⟨v, by simpa using h3, VR.mono le _ _ h4⟩

theorem run_val {s : Sem Value} {v : Value} (hs : s.run P w = .ok v w') : ((do pure (Next.value (← s)) : Sem Next).run P w) = .ok (.value v) w' := by
  simp only [Sem.run_bind, hs, Result.andThen_ok, Sem.run_pure]

theorem allocOf_sound_all (hE : EnvOk P E) {o : Oper} (hev : ∀ x, VR k w (ev x) (ρ x)) {x : AO} {f : Nat → AV} (ho : allocOf E o.op ev = some (x, f)) : NewOk k w x f ((execOp ρ o).run P w) := by
  obtain ⟨dst, op, ty, pos, after, guard⟩ := o
  simp only at ho
  cases op
  case alloc e =>
    simp only [allocOf] at ho
    split at ho
    case h_2 => cases ho
    rename_i i ht
    simp only [Option.some.injEq, Prod.mk.injEq] at ho
    obtain ⟨rfl, rfl⟩ := ho
    obtain ⟨z, h1, h2, h3⟩ := run_zero hE ht w
    have hz := ((h2 k w).cells (hE.ty e i ht).zero).1
    refine ⟨.pointer (some ⟨w.heap.size, 0, none⟩), .cells z.cells e, by simp [execOp, Instr.alloc, h1, run_newVar], fun k' w' nm le hb hn => ⟨new_cells hz le hb, ?_⟩⟩
    simp only [VR]
    exact ⟨_, _, hn, rfl⟩
  case box e y =>
    simp only [allocOf] at ho
    cases hb : AV.allCell (ev y).cells with
    | false => rw [hb] at ho; cases ho
    | true =>
      simp only [hb, cond_true, Option.some.injEq, Prod.mk.injEq] at ho
      obtain ⟨rfl, rfl⟩ := ho
      have hz := ((hev y).cells hb).1
      refine ⟨.pointer (some ⟨w.heap.size, 0, none⟩), .cells (ρ y).cells e, by simp [execOp, Instr.box, run_newVar], fun k' w' nm le hb hn => ⟨new_cells hz le hb, ?_⟩⟩
      simp only [VR]
      exact ⟨_, _, hn, rfl⟩
  case buildSlice t len ps =>
    simp only [allocOf] at ho
    split at ho
    case h_2 => cases ho
    rename_i el _ _ _ _ ht
    have hu := run_und hE ht w
    cases hel : E.ty el with
    | none => simp [hel] at ho
    | some ei =>
      simp only [hel] at ho
      cases hf : fillA (fun j => some (j * ei.size, ei.size)) (repl ei.zero.cells len) (evParts ev ps) with
      | none => simp [hf] at ho
      | some cs =>
        simp only [hf] at ho
        cases hb : (AV.allCell cs && Nat.ble (len * ei.size) 65536) with
        | false => simp only [hb, cond_false] at ho; cases ho
        | true =>
          simp only [hb, cond_true, Option.some.injEq, Prod.mk.injEq] at ho
          simp only [Bool.and_eq_true] at hb
          have hle := Nat.le_of_ble_eq_true hb.2
          obtain ⟨rfl, rfl⟩ := ho
          obtain ⟨z, z0, z1, z2, z3⟩ := run_zeroRow (P := P) hE hel len w
          have hp := partsR_map hev ps
          obtain ⟨arr, h4, h5⟩ := fillA_sound hf (z2 k w) hp
          have hrun : (Instr.buildSlice t len (ps.map fun (i, x) => (i, ρ x))).run P w = .ok (.slice (some ⟨w.heap.size, 0, none⟩) len len) { w with heap := w.heap.push (.cells arr el) } := by
            simp only [Instr.buildSlice, Sem.run_bind, hu, Result.andThen_ok, run_size hE hel]
            rw [if_neg (by omega)]
            unfold zeroRow at h4
            by_cases h0 : len * ei.size = 0
            · have := z0 h0; subst this
              rw [if_pos h0]
              simp only [Sem.run_bind, Sem.run_pure, Result.andThen_ok]
              rw [ps_list, h4]
              simp [newRow]
            · obtain ⟨zv, z4, rfl⟩ := z1 h0
              rw [if_neg h0]
              simp only [Sem.run_bind, Sem.run_pure, Result.andThen_ok, z4]
              rw [ps_list, h4]
              simp [newRow]
          refine ⟨_, .cells arr el, run_val hrun, fun k' w' nm le hb hn => ⟨new_cells h5 le hb, ?_⟩⟩
          simp only [VR]
          refine ⟨w.heap.size, 0, len, arr, el, (0, 0), hn, rfl, Nat.le_refl _, (fun n hn => by cases hn; rfl), hb, ?_⟩
          have e1 := h5.length
          have e2 := (z2 k w).length
          have e3 := fillA_length hf
          simp only [Array.length_toList] at e1 e2
          rw [z3] at e2
          omega
  case makeSlice t l c =>
    simp only [allocOf] at ho
    split at ho
    case h_2 => cases ho
    rename_i el _ _ _ _ ht
    have hu := run_und hE ht w
    cases hel : E.ty el with
    | none => simp [hel] at ho
    | some ei =>
      simp only [hel] at ho
      cases hln : asNat (ev l) with
      | none => simp [hln] at ho
      | some ln =>
      cases hcn : asNat (ev c) with
      | none => simp [hln, hcn] at ho
      | some cn =>
        simp only [hln, hcn] at ho
        cases hb : (Nat.ble ln cn && Nat.ble cn 1048576 && Nat.ble ei.bytes 4096 && AV.allCell ei.zero.cells) with
        | false => simp only [hb, cond_false] at ho; cases ho
        | true =>
          simp only [hb, cond_true, Option.some.injEq, Prod.mk.injEq] at ho
          obtain ⟨rfl, rfl⟩ := ho
          simp only [Bool.and_eq_true] at hb
          obtain ⟨⟨⟨hb1, hb2⟩, hb3⟩, hb4⟩ := hb
          have hb1 := Nat.le_of_ble_eq_true hb1
          have hb2 := Nat.le_of_ble_eq_true hb2
          have hb3 := Nat.le_of_ble_eq_true hb3
          obtain ⟨z, z0, z1, z2, z3⟩ := run_zeroRow (P := P) hE hel cn w
          obtain ⟨kl, el1⟩ := asNat_int hln (hev l)
          obtain ⟨kc, ec1⟩ := asNat_int hcn (hev c)
          obtain ⟨inf, i1, i2, i3⟩ := run_bytes hE hel w
          have hbn : ((inf.bytes : Int) * cn) ≤ 2 ^ 48 := by
            rw [i2]
            have : ei.bytes * cn ≤ 4096 * 1048576 := Nat.mul_le_mul hb3 hb2
            have h2 : ((ei.bytes * cn : Nat) : Int) ≤ 4096 * 1048576 := by omega
            rw [Int.natCast_mul] at h2
            omega
          have hrun : (Instr.makeSlice t (ρ l) (ρ c)).run P w = .ok (.slice (some ⟨w.heap.size, 0, none⟩) ln cn) { w with heap := w.heap.push (.cells (zeroRow cn ei.size z) el) } := by
            simp only [Instr.makeSlice, Sem.run_bind, hu, Result.andThen_ok, el1, ec1, asInt, asIntOf, Sem.run_pure, i1, wrap_small (show ln < 2 ^ 62 by omega), wrap_small (show cn < 2 ^ 62 by omega)]
            rw [if_neg (by
              simp only [Bool.or_eq_true, decide_eq_true_eq, not_or, Int.not_lt]
              refine ⟨⟨⟨by omega, hbn⟩, by omega⟩, by omega⟩)]
            simp only [Sem.run_bind, run_askRoom, run_size hE hel, Result.andThen_ok, Int.toNat_natCast]
            by_cases h0 : cn * ei.size = 0
            · have := z0 h0; subst this
              rw [if_pos h0]
              simp [newRow, zeroRow]
            · obtain ⟨zv, z4, rfl⟩ := z1 h0
              rw [if_neg h0]
              simp [newRow, zeroRow, z4]
          refine ⟨_, .cells (zeroRow cn ei.size z) el, run_val hrun, fun k' w' nm le hb hn => ⟨new_cells (z2 k w) le hb, ?_⟩⟩
          simp only [VR]
          refine ⟨w.heap.size, 0, cn, zeroRow cn ei.size z, el, (0, 0), hn, rfl, hb1, (fun n hn => by cases hn; rfl), hb, ?_⟩
          rw [z3]; omega
  case makeMap t r =>
    cases r with
    | some r => simp only [allocOf] at ho; cases ho
    | none =>
      simp only [allocOf] at ho
      split at ho
      case h_2 => cases ho
      simp only [Option.some.injEq, Prod.mk.injEq] at ho
      obtain ⟨rfl, rfl⟩ := ho
      refine ⟨.map (some w.heap.size), .map #[] 0, by simp [execOp, Instr.makeMap], fun k' w' nm le hb hn => ⟨⟨rfl, #[], hb, by simp [MR]⟩, ?_⟩⟩
      simp only [VR]; exact ⟨_, hn, rfl⟩
  all_goals (simp only [allocOf] at ho; cases ho)

open Classical in
theorem allocOf_sound (hE : EnvOk P E) {o : Oper} (hev : ∀ x ∈ o.op.operands, VR k w (ev x) (ρ x)) {x : AO} {f : Nat → AV} (ho : allocOf E o.op ev = some (x, f)) : NewOk k w x f ((execOp ρ o).run P w) := by
  refine allocOf_sound_all hE (ev := fun x => if x ∈ o.op.operands then ev x else .any) (fun x => ?_) ?_
  · by_cases hx : x ∈ o.op.operands
    · simp only [if_pos hx]; exact hev x hx
    · simp only [if_neg hx, VR]
  · rw [← ho]
    refine (allocOf_congr fun x hx => ?_).symm
    simp only [if_pos hx]

theorem one_same {x : Option AV} {v : AV} (ho : one h x = some (v, h')) : h' = h := by
  cases x with
  | none => simp only [one, Option.map_none] at ho; cases ho
  | some u => simp only [one, Option.map_some] at ho; cases ho; rfl

theorem map_same {α : Type} {x : Option α} {f : α → AV} {v : AV} (ho : (x.map fun n => (f n, h)) = some (v, h')) : h' = h := by
  cases x with
  | none => simp only [Option.map_none] at ho; cases ho
  | some u => simp only [Option.map_some] at ho; cases ho; rfl

theorem askA_op {o : Oper} (hc : ∀ c, o.op ≠ .call c) {v : AV} (ho : askA E o ev h = some (.val v h')) : opA E o.op ev h = some (v, h') := by
  obtain ⟨dst, op, ty, pos, after, guard⟩ := o
  cases op
  case call c => exact absurd rfl (hc c)
  case defer c =>
    obtain ⟨cal, args, at'⟩ := c
    cases cal <;> simp only [askA] at ho
    · split at ho <;> cases ho
    · cases ho
    · cases ho
  case panic x =>
    simp only [askA] at ho
    split at ho <;> cases ho
  all_goals
    simp only [askA] at ho
    split at ho
    · rename_i hb; cases ho; exact hb
    · cases ho

/-- What only reads leaves the heap. -/
theorem readA_same {o : Oper} (hk : kindOf E o.op = .f) {v : AV} (ho : askA E o ev h = some (.val v h')) : h' = h := by
  by_cases hc : ∀ c, o.op ≠ .call c
  · have ho := askA_op hc ho
    revert hk ho
    generalize o.op = op at hc
    intro hk ho
    cases op <;> simp only [kindOf] at hk <;> try (cases hk; done)
    case call c => exact absurd rfl (hc c)
    case convert s d x =>
      simp only [opA, convA] at ho
      split at ho
      case h_2 => cases ho
      rename_i di si hd hs
      simp only [hd] at hk
      obtain ⟨und, size, bytes, zero, agg⟩ := di
      simp only at ho hk
      simp only [Bool.cond_eq_ite] at ho
      (repeat' (split at ho)) <;> first
        | (cases ho; done)
        | (cases ho; rfl)
        | (cases hk; done)
        | skip
    all_goals
      simp only [opA, Bool.cond_eq_ite] at ho
      (repeat' (split at ho)) <;> first
        | (cases ho; done)
        | (cases ho; rfl)
        | exact one_same ho
        | exact map_same ho
        | skip
  · have hc : ∃ c, o.op = .call c := Classical.byContradiction fun hn => hc fun c e => hn ⟨c, e⟩
    obtain ⟨c, hc⟩ := hc
    obtain ⟨dst, op, ty, pos, after, guard⟩ := o
    simp only at hc hk
    subst hc
    obtain ⟨cal, args, at'⟩ := c
    cases cal <;> simp only [kindOf] at hk <;> try (cases hk; done)
    rename_i b
    cases b <;> simp only [builtinK] at hk <;> try (cases hk; done)
    all_goals
      simp only [askA] at ho
      split at ho
      case h_2 => cases ho
      rename_i hb
      cases ho
      simp only [builtinA, Bool.cond_eq_ite] at hb
      (repeat' (split at hb)) <;> first
        | contradiction
        | (cases hb; done)
        | (cases hb; rfl)
        | exact map_same hb
        | exact one_same hb
        | skip

end
end Go.Ab

namespace Go.Ab
open Go

theorem bytesEqA_eq : ∀ (a b : List Nat), bytesEqA a b = true → a = b
  | [], [], _ => rfl
  | [], _ :: _, h => by simp [bytesEqA] at h
  | _ :: _, [], h => by simp [bytesEqA] at h
  | x :: a, y :: b, h => by
    simp only [bytesEqA, Bool.and_eq_true] at h
    have h1 : x = y := by simpa [T.beq_eq] using h.1
    rw [h1, bytesEqA_eq a b h.2]

mutual
theorem eqv_eq : ∀ (a b : AV), eqv a b = true → a = b := by
  intro a b h
  cases a <;> cases b <;> simp only [eqv] at h <;> try (cases h; done)
  case str.str => rw [bytesEqA_eq _ _ h]
  case pptr.pptr c i c' i' =>
    simp only [Bool.and_eq_true] at h
    rw [eqvs_eq _ _ h.2, Nat.eq_of_beq_eq_true h.1]
  case psl.psl =>
    simp only [Bool.and_eq_true, decide_eq_true_eq] at h
    rw [eqvs_eq _ _ h.2, Nat.eq_of_beq_eq_true h.1.1, h.1.2]
  case func.func =>
    simp only [Bool.and_eq_true, decide_eq_true_eq] at h
    rw [eqvs_eq _ _ h.2, eqvs_eq _ _ h.1.2, h.1.1]
  case iface.iface =>
    simp only [Bool.and_eq_true] at h
    rw [eqv_eq _ _ h.2, Nat.eq_of_beq_eq_true h.1]
  case agg.agg => rw [eqvs_eq _ _ h]
  case tup.tup => rw [eqvs_eq _ _ h]
  case tok.tok => rw [Nat.eq_of_beq_eq_true h]
  case one.one => rw [eqvs_eq _ _ h]
  case sel.sel => rw [Nat.eq_of_beq_eq_true h]
  case stok.stok => rw [Nat.eq_of_beq_eq_true h]
  case bool.bool => simp at h; rw [h]
  case int.int => simp only [Bool.and_eq_true, decide_eq_true_eq] at h; rw [h.1, h.2]
  case ptr.ptr => simp only [Bool.and_eq_true] at h; rw [Nat.eq_of_beq_eq_true h.1, Nat.eq_of_beq_eq_true h.2]
  case sl.sl =>
    simp only [Bool.and_eq_true, decide_eq_true_eq] at h
    obtain ⟨⟨⟨⟨h1, h2⟩, h3⟩, h4⟩, h5⟩ := h
    rw [Nat.eq_of_beq_eq_true h1, Nat.eq_of_beq_eq_true h2, Nat.eq_of_beq_eq_true h3, Nat.eq_of_beq_eq_true h4, h5]
  case map.map => rw [Nat.eq_of_beq_eq_true h]
  all_goals rfl
theorem eqvs_eq : ∀ (a b : List AV), eqvs a b = true → a = b
  | [], [], _ => rfl
  | [], _ :: _, h => by simp [eqvs] at h
  | _ :: _, [], h => by simp [eqvs] at h
  | x :: a, y :: b, h => by
    simp only [eqvs, Bool.and_eq_true] at h
    rw [eqv_eq x y h.1, eqvs_eq a b h.2]
end

section
variable {k k' k0 : K} {h h' h0 : AH} {w w' w0 : World}

/-- An object that is made and not yet told of. -/
def Gh (k : K) (h : AH) (w : World) (b0 o : Nat) (x : AO) : Prop :=
  ∃ b, k.ρ o = some (b, 0) ∧ b0 ≤ b ∧ ObR k w b 0 x ∧ ¬ k.fz b ∧ ∀ o' ob sh, h.get o' = some ob → k.ρ o' ≠ some (b, sh)

theorem Gh.mono (hr : HR k h w) (e : Ev k k' h h' w w') {b0 o : Nat} {x : AO} (g : Gh k h w b0 o x) : Gh k' h' w' b0 o x := by
  obtain ⟨b, h1, h2, h3, h4, h5⟩ := g
  have hlt := h3.lt
  refine ⟨b, e.rho _ _ h1, h2, h3.mono (e.le hr) (e.same b hlt h5), fun hf => ?_, fun o' ob sh g1 g2 => ?_⟩
  · rcases e.nfz b hlt hf with q | ⟨o', ob, sh, q1, q2⟩
    · exact h4 q
    · exact h5 _ _ _ q1 q2
  · obtain ⟨o2, ob2, sh2, q1, q2⟩ := e.live o' ob b sh g1 g2 hlt
    exact h5 _ _ _ q1 q2

theorem Gh.lay (hr : HR k h w) (acc : Ev k0 k h0 h w0 w) {o : Nat} {x : AO} (ho : o < limH) (hon : o < h.next) (g : Gh k h w w0.heap.size o x) :
    HR k (h.set o (some x)) w ∧ Ev k0 k h0 (h.set o (some x)) w0 w ∧ (∀ o2 x2, (∀ b, k.ρ o2 = some (b, 0) → k.ρ o ≠ some (b, 0)) → Gh k h w w0.heap.size o2 x2 → Gh k (h.set o (some x)) w w0.heap.size o2 x2) := by
  obtain ⟨b, h1, h2, h3, h4, h5⟩ := g
  have hget : ∀ j, (h.set o (some x)).get j = if j = o then some x else h.get j := fun j => AH.get_set h o j _ ho
  have old : ∀ {j ob}, (h.set o (some x)).get j = some ob → j ≠ o → h.get j = some ob := by
    intro j ob hj hne
    rwa [hget, if_neg hne] at hj
  refine ⟨⟨fun j ob hj => ?_, fun o1 o2 ob1 ob2 b' s1 s2 g1 g2 g3 g4 => ?_, fun j ob b' sh g1 g2 => ?_, fun j hj => hr.fresh j hj, hr.lt⟩,
    ⟨acc.sz, acc.os, acc.tape, acc.output, acc.size, acc.same, acc.shape, acc.rho, acc.fz, fun j ob b' sh g1 g2 g3 => ?_, acc.next, acc.keep, acc.nfz⟩, fun o2 x2 hne g2 => ?_⟩
  · by_cases e : j = o
    · subst e
      rw [hget, if_pos rfl] at hj
      cases hj
      exact ⟨b, 0, h1, h3⟩
    · exact hr.obj j ob (old hj e)
  · by_cases e1 : o1 = o <;> by_cases e2 : o2 = o
    · rw [e1, e2]
    · subst e1
      rw [h1] at g3
      cases g3
      exact absurd g4 (h5 _ _ _ (old g2 e2))
    · subst e2
      rw [h1] at g4
      cases g4
      exact absurd g3 (h5 _ _ _ (old g1 e1))
    · exact hr.inj o1 o2 ob1 ob2 b' s1 s2 (old g1 e1) (old g2 e2) g3 g4
  · by_cases e : j = o
    · subst e
      rw [h1] at g2
      cases g2
      exact h4
    · exact hr.nfz j ob b' sh (old g1 e) g2
  · by_cases e : j = o
    · subst e
      rw [h1] at g2
      cases g2
      omega
    · exact acc.live j ob b' sh (old g1 e) g2 g3
  · obtain ⟨b2, q1, q2, q3, q4, q5⟩ := g2
    refine ⟨b2, q1, q2, q3, q4, fun o' ob sh p1 p2 => ?_⟩
    by_cases e : o' = o
    · subst e
      rw [h1] at p2
      cases p2
      exact hne b q1 h1
    · exact q5 o' ob sh (old p1 e) p2

theorem lay_next : ∀ (l : List (Nat × Nat × AO)) (h : AH), (AH.lay h l).next = h.next
  | [], _ => rfl
  | p :: l, h => by
    obtain ⟨i, o, x⟩ := p
    simp only [AH.lay]
    rw [lay_next l]
    rfl

theorem lay_all : ∀ (l : List (Nat × Nat × AO)) (h : AH), HR k h w → Ev k0 k h0 h w0 w → (∀ p ∈ l, p.2.1 < limH ∧ p.2.1 < h.next ∧ Gh k h w w0.heap.size p.2.1 p.2.2) →
    l.Pairwise (fun p q => ∀ b, k.ρ p.2.1 = some (b, 0) → k.ρ q.2.1 ≠ some (b, 0)) →
    HR k (AH.lay h l) w ∧ Ev k0 k h0 (AH.lay h l) w0 w ∧ (∀ o2 x2, (∀ p ∈ l, ∀ b, k.ρ o2 = some (b, 0) → k.ρ p.2.1 ≠ some (b, 0)) → Gh k h w w0.heap.size o2 x2 → Gh k (AH.lay h l) w w0.heap.size o2 x2)
  | [], h, hr, acc, _, _ => ⟨hr, acc, fun _ _ _ g => g⟩
  | p :: l, h, hr, acc, hg, hp => by
    obtain ⟨i, o, x⟩ := p
    obtain ⟨g1, g2, g3⟩ := hg (i, o, x) (by simp)
    obtain ⟨q1, q2, q3⟩ := g3.lay hr acc g1 g2
    rw [List.pairwise_cons] at hp
    obtain ⟨r1, r2, r3⟩ := lay_all l (h.set o (some x)) q1 q2 (fun p hpl => by
      obtain ⟨s1, s2, s3⟩ := hg p (by simp [hpl])
      refine ⟨s1, s2, q3 _ _ (fun b hb1 hb2 => hp.1 p hpl b hb2 hb1) s3⟩) hp.2
    exact ⟨r1, r2, fun o2 x2 hne g => r3 o2 x2 (fun p hpl => hne p (by simp [hpl])) (q3 o2 x2 (hne (i, o, x) (by simp)) g)⟩

/-- A new object in a new block, under a name that waits for it. -/
theorem HR.ghost (hr : HR k h w) (acc : Ev k0 k h0 h w0 w) {o : Nat} (ho : k.ρ o = none) (hlo : h0.next ≤ o) (hon : o < h.next) (obj : Obj) (d : Nat) :
    HR (k.with o w.heap.size) h { w with heap := w.heap.push obj, drawn := d } ∧ Ev k0 (k.with o w.heap.size) h0 h w0 { w with heap := w.heap.push obj, drawn := d } ∧
    Le k (k.with o w.heap.size) w { w with heap := w.heap.push obj, drawn := d } ∧
    (∀ o2 x2, Gh k h w w0.heap.size o2 x2 → Gh (k.with o w.heap.size) h { w with heap := w.heap.push obj, drawn := d } w0.heap.size o2 x2) := by
  have hold : ∀ b, b < w.heap.size → (w.heap.push obj)[b]? = w.heap[b]? := fun b hb => by rw [Array.getElem?_push, if_neg (by omega)]
  have hρ : ∀ j p, k.ρ j = some p → (k.with o w.heap.size).ρ j = some p := by
    intro j p hj
    have : j ≠ o := by intro e; rw [e, ho] at hj; cases hj
    simp only [K.with, if_neg this, hj]
  have back : ∀ {j p}, j ≠ o → (k.with o w.heap.size).ρ j = some p → k.ρ j = some p := by
    intro j p hne hj
    simpa only [K.with, if_neg hne] using hj
  have live : ∀ {j ob}, h.get j = some ob → j ≠ o := by
    intro j ob hj e
    obtain ⟨b, sh, h1, _⟩ := hr.obj j ob hj
    rw [e, ho] at h1; cases h1
  have le : Le k (k.with o w.heap.size) w { w with heap := w.heap.push obj, drawn := d } :=
    ⟨rfl, hρ, fun _ h => h, fun b hb => hold b (hr.lt b hb), fun b arr e fr hx => ⟨arr, fr, (hold b (Array.getElem?_eq_some_iff.1 hx).1).trans hx, rfl⟩⟩
  refine ⟨⟨fun j ob hj => ?_, fun o1 o2 ob1 ob2 b s1 s2 g1 g2 g3 g4 => hr.inj o1 o2 ob1 ob2 b s1 s2 g1 g2 (back (live g1) g3) (back (live g2) g4), fun j ob b sh g1 g2 => hr.nfz j ob b sh g1 (back (live g1) g2), fun j hj => ?_, fun b hb => ?_⟩,
    ⟨acc.sz, acc.os, acc.tape, acc.output, ?_, fun b hb hn => ?_, fun b arr e fr hx => ?_, fun j p hj => hρ _ _ (acc.rho _ _ hj), acc.fz, fun j ob b sh g1 g2 g3 => acc.live j ob b sh g1 (back (live g1) g2) g3, acc.next, fun j hj => ?_, acc.nfz⟩, le, fun o2 x2 g => ?_⟩
  · obtain ⟨b, sh, h1, h2⟩ := hr.obj j ob hj
    exact ⟨b, sh, hρ _ _ h1, h2.mono le (hold b h2.lt)⟩
  · have : j ≠ o := by omega
    simp only [K.with, if_neg this]
    exact hr.fresh j hj
  · have := hr.lt b hb
    simp; omega
  · have := acc.size
    simp; omega
  · exact (hold b (Nat.lt_of_lt_of_le hb acc.size)).trans (acc.same b hb hn)
  · obtain ⟨a1, f1, q1, q2⟩ := acc.shape b arr e fr hx
    exact ⟨a1, f1, (hold b (Array.getElem?_eq_some_iff.1 q1).1).trans q1, q2⟩
  · have : j ≠ o := by omega
    simp only [K.with, if_neg this]
    exact acc.keep j hj
  · obtain ⟨b, h1, h2, h3, h4, h5⟩ := g
    exact ⟨b, hρ _ _ h1, h2, h3.mono le (hold b h3.lt), h4, fun o' ob sh g1 g2 => h5 o' ob sh g1 (back (live g1) g2)⟩

end
end Go.Ab

namespace Go.Ab
open Go

theorem count_set {p p' : Nat → Bool} {i : Nat} (hp : ∀ x, p' x = (p x && !decide (x = i))) (hi : p i = true) : ∀ l : List Nat, l.Nodup → i ∈ l → l.countP p' + 1 = l.countP p
  | [], _, h => by cases h
  | x :: l, hn, hm => by
    rw [List.nodup_cons] at hn
    rw [List.countP_cons, List.countP_cons]
    by_cases e : x = i
    · subst e
      have h1 : p' x = false := by rw [hp]; simp
      have h2 : l.countP p' = l.countP p := by
        refine List.countP_congr fun y hy => ?_
        have : y ≠ x := fun e => hn.1 (e ▸ hy)
        rw [hp]; simp [this]
      rw [h1, hi, h2]; simp
    · have hm' : i ∈ l := (List.mem_cons.1 hm).resolve_left (fun h => e h.symm)
      have ih := count_set hp hi l hn.2 hm'
      have : p' x = p x := by rw [hp]; simp [e]
      rw [this]
      omega

section
variable {P : Program} {E : Env} {callf : AV → List AV → AH → Option (ARes × AH × RC)} {c : Ctx} {ops : Array Oper} {base : Nat} {τ0 T' : T AV} {k0 : K} {h0 : AH} {w0 : World}
  {stages : List (Nat × AH)} {hend : AH} {pan : Option (Nat × List (AV × Bool))} {laidEnd : List Nat} {pend : List (Nat × Nat × AO)}

structure Stat (P : Program) (E : Env) (callf : AV → List AV → AH → Option (ARes × AH × RC)) (c : Ctx) (ops : Array Oper) (base : Nat) (τ0 T' : T AV) (h0 : AH) (stages : List (Nat × AH)) (hend : AH) (pan : Option (Nat × List (AV × Bool))) (laidEnd : List Nat) (pend : List (Nat × Nat × AO)) : Prop where
  env : EnvOk P E
  call : ∀ fv args h res h' rc', callf fv args h = some (res, h', rc') → CallOk P E fv args .normal h .no res h' rc'
  apart : Apart ops (Region.before ops)
  cov : ∀ i, i < ops.size → deadIn (Region.before ops) pan i = true ∨ ∃ Ti, View ops τ0 T' i Ti ∧ ((∀ o d, ops[i]? = some o → o.dst = some d → d < c.n ∧ d < limF) ∨ ∃ ch, pan = some (i, ch)) ∧
    operOk E ops (Region.before ops) base T' (match pan with | some _ => none | none => some hend) stages i Ti = true
  pw : stages.Pairwise (fun a b => bitOf (Region.before ops) b.1 a.1 = true)
  pendOk : pan = none → (∀ p ∈ pend, PendOk E ops base τ0 T' p ∧ p.1 ∉ laidEnd) ∧ (pend.map (·.1)).Nodup
  same : ∀ t, (∀ (j : Nat) (q : Oper), ops[j]? = some q → q.dst ≠ some t) → T.get deepF T' t = T.get deepF τ0 t
  hbase : base = h0.next
  hlim : base + ops.size < limH

structure Sim (P : Program) (E : Env) (callf : AV → List AV → AH → Option (ARes × AH × RC)) (c : Ctx) (ops : Array Oper) (base : Nat) (τ0 T' : T AV) (k0 : K) (h0 : AH) (w0 : World) (stages : List (Nat × AH)) (hend : AH) (pan : Option (Nat × List (AV × Bool))) (laidEnd : List Nat)
    (defs : List AD) (kk : List Item) (D : Nat → Prop) (laid : List Nat) (g : AH) (pre st : List (Nat × AH)) (k : K) (w : World) (fr : Frame) (is : List Nat) : Prop where
  down : ∀ i j, D i → bitOf (Region.before ops) i j = true → D j
  dlt : ∀ i, D i → i < ops.size
  nopan : ∀ i ch, pan = some (i, ch) → ¬ D i
  stg : stages = pre ++ st
  hpre : ∀ p ∈ pre, D p.1
  hst : ∀ p ∈ st, ¬ D p.1
  fch : FCh E callf c.n ops (Region.before ops) base τ0 T' laid g st hend pan laidEnd
  sz : k.sz = ⟨P.cellsOf, E.sel, E.tok, E.str⟩
  heap : HR k g w
  acc : Ev k0 k h0 g w0 w
  glob : GlobOk E k w
  gn : base + ops.size ≤ g.next
  gh : ∀ a o Ta x f, D a → a ∉ laid → ops[a]? = some o → View ops τ0 T' a Ta → wantedA ops o Ta = some true → kindOf E o.op = .a → allocOf E o.op (aeval E Ta) = some (x, f) → Gh k g w w0.heap.size (base + a) x
  ghd : ∀ a a' b, D a → D a' → k.ρ (base + a) = some (b, 0) → k.ρ (base + a') = some (b, 0) → a = a'
  rlt : ∀ a b, D a → k.ρ (base + a) = some (b, 0) → b < w.heap.size
  un : ∀ a, a < ops.size → ¬ D a → k.ρ (base + a) = none
  laidD : ∀ a ∈ laid, D a
  tsz : fr.tmps.size = c.n
  tin : ∀ t j q, D j → ops[j]? = some q → q.dst = some t → t < c.n ∧ t < limF ∧ VR k w ((T.get deepF T' t).getD undefA) (fr.tmps.getD t undef)
  tout : ∀ t, (∀ (j : Nat) (q : Oper), D j → ops[j]? = some q → q.dst ≠ some t) → VR k w ((T.get deepF τ0 t).getD undefA) (fr.tmps.getD t undef)
  fn : fr.fn = c.fn
  todo : IR k (.inRegion ops is :: kk) fr.todo
  defs : DRL k w defs fr.defers
  mode : fr.mode = .run
  kind : fr.kind = c.kind
  round : match c.round with
    | none => fr.roundOf = none
    | some l => ∃ b, k.ρ l = some (b, 0) ∧ fr.roundOf = some b
  early : c.kind = .normal ∨ c.kind = .deferred

theorem view_names {bs : Array Nat} (ha : Apart ops bs) {i : Nat} {o : Oper} {Ta Tb : T AV} (hi : ops[i]? = some o) (va : View ops τ0 T' i Ta) (vb : View ops τ0 T' i Tb) {t : Nat} (ht : t ∈ looksA ops o) : T.get deepF Ta t = T.get deepF Tb t := by
  by_cases hw : ∃ (j : Nat) (q : Oper), ops[j]? = some q ∧ q.dst = some t
  · obtain ⟨j, q, hj, hq⟩ := hw
    rcases ha.look i j o q t hi hj hq ht with ⟨hlt, _⟩ | ⟨hle, _⟩
    · have hn : ∀ (j' : Nat) (q' : Oper), i ≤ j' → ops[j']? = some q' → q'.dst ≠ some t := fun j' q' hle hj' he => by
        have := ha.one j' j q' q t hj' hj he hq; omega
      rw [← va.2 t hn, ← vb.2 t hn]
    · have hn : ∀ (j' : Nat) (q' : Oper), j' < i → ops[j']? = some q' → q'.dst ≠ some t := fun j' q' hlt hj' he => by
        have := ha.one j' j q' q t hj' hj he hq; omega
      rw [va.1 t hn, vb.1 t hn]
  · have hn : ∀ (j' : Nat) (q' : Oper), j' < i → ops[j']? = some q' → q'.dst ≠ some t := fun j' q' _ hj' he => hw ⟨j', q', hj', he⟩
    rw [va.1 t hn, vb.1 t hn]

theorem looks_op {o : Oper} {t : Nat} (h : Operand.tmp t ∈ o.op.operands) : t ∈ looksA ops o := by
  unfold looksA
  rw [List.mem_append]
  refine .inr (List.mem_filterMap.2 ⟨.tmp t, by simpa using h, rfl⟩)

theorem view_aeval {bs : Array Nat} (ha : Apart ops bs) {i : Nat} {o : Oper} {Ta Tb : T AV} (hi : ops[i]? = some o) (va : View ops τ0 T' i Ta) (vb : View ops τ0 T' i Tb) : ∀ x ∈ o.op.operands, aeval E Ta x = aeval E Tb x := by
  intro x hx
  cases x with
  | tmp t => simp only [aeval, view_names ha hi va vb (looks_op hx)]
  | const v => rfl
  | global g => rfl
  | func f => rfl

theorem view_wanted {bs : Array Nat} (ha : Apart ops bs) {i : Nat} {o : Oper} {Ta Tb : T AV} (hi : ops[i]? = some o) (va : View ops τ0 T' i Ta) (vb : View ops τ0 T' i Tb) : wantedA ops o Ta = wantedA ops o Tb := by
  unfold wantedA
  cases hg : o.guard with
  | none => rfl
  | some p =>
    obtain ⟨j, want⟩ := p
    simp only
    cases hd : (ops[j]?).bind (·.dst) with
    | none => rfl
    | some d =>
      have : d ∈ looksA ops o := by
        unfold looksA
        rw [hg, List.mem_append]
        exact .inl (by simp only [hd]; simp)
      simp only [view_names ha hi va vb this]

variable {defs : List AD} {kk : List Item} {D : Nat → Prop} {laid : List Nat} {g : AH} {pre st : List (Nat × AH)} {k : K} {w : World} {fr : Frame} {is : List Nat}

/-- What the operation at hand looks at. -/
theorem Sim.names (S : Stat P E callf c ops base τ0 T' h0 stages hend pan laidEnd pend) (m : Sim P E callf c ops base τ0 T' k0 h0 w0 stages hend pan laidEnd defs kk D laid g pre st k w fr is)
    {i : Nat} {o : Oper} {Ti : T AV} (hD : ¬ D i) (hready : ∀ j, bitOf (Region.before ops) i j = true → D j) (hi : ops[i]? = some o) (va : View ops τ0 T' i Ti) {t : Nat} (ht : t ∈ looksA ops o) :
    VR k w ((T.get deepF Ti t).getD undefA) (fr.tmps.getD t undef) := by
  by_cases hw : ∃ (j : Nat) (q : Oper), ops[j]? = some q ∧ q.dst = some t
  · obtain ⟨j, q, hj, hq⟩ := hw
    rcases S.apart.look i j o q t hi hj hq ht with ⟨hlt, hb⟩ | ⟨hle, hb⟩
    · have hn : ∀ (j' : Nat) (q' : Oper), i ≤ j' → ops[j']? = some q' → q'.dst ≠ some t := fun j' q' hle hj' he => by
        have := S.apart.one j' j q' q t hj' hj he hq; omega
      rw [← va.2 t hn]
      exact (m.tin t j q (hready j hb) hj hq).2.2
    · have hnD : ¬ D j := by
        intro hj'
        rcases hb with rfl | hb
        · exact hD hj'
        · exact hD (m.down j i hj' hb)
      have hn : ∀ (j' : Nat) (q' : Oper), j' < i → ops[j']? = some q' → q'.dst ≠ some t := fun j' q' hlt hj' he => by
        have := S.apart.one j' j q' q t hj' hj he hq; omega
      rw [va.1 t hn]
      refine m.tout t fun j' q' hd hj' he => ?_
      have := S.apart.one j' j q' q t hj' hj he hq
      subst this
      exact hnD hd
  · have hn : ∀ (j' : Nat) (q' : Oper), j' < i → ops[j']? = some q' → q'.dst ≠ some t := fun j' q' _ hj' he => hw ⟨j', q', hj', he⟩
    rw [va.1 t hn]
    exact m.tout t fun j' q' _ hj' he => hw ⟨j', q', hj', he⟩

theorem Sim.eval (S : Stat P E callf c ops base τ0 T' h0 stages hend pan laidEnd pend) (m : Sim P E callf c ops base τ0 T' k0 h0 w0 stages hend pan laidEnd defs kk D laid g pre st k w fr is)
    {i : Nat} {o : Oper} {Ti : T AV} (hD : ¬ D i) (hready : ∀ j, bitOf (Region.before ops) i j = true → D j) (hi : ops[i]? = some o) (va : View ops τ0 T' i Ti) : ∀ x ∈ o.op.operands, VR k w (aeval E Ti x) (fr.eval x) := by
  intro x hx
  cases x with
  | tmp t => exact m.names S hD hready hi va (looks_op hx)
  | const v => exact ofConst_ok k w v
  | global g =>
    simp only [aeval, Frame.eval]
    cases hgl : E.glob g with
    | none => simp only [VR]
    | some cells =>
      simp only [VR]
      exact ⟨g, 0, rfl, (m.glob g cells hgl).1, (m.glob g cells hgl).2⟩
  | func fid =>
    simp only [aeval, Frame.eval, VR]
    exact ⟨#[], #[], rfl, by simp only [VRL], by simp only [VRL]⟩

theorem Sim.wanted (S : Stat P E callf c ops base τ0 T' h0 stages hend pan laidEnd pend) (m : Sim P E callf c ops base τ0 T' k0 h0 w0 stages hend pan laidEnd defs kk D laid g pre st k w fr is)
    {i : Nat} {o : Oper} {Ti : T AV} (hD : ¬ D i) (hready : ∀ j, bitOf (Region.before ops) i j = true → D j) (hi : ops[i]? = some o) (va : View ops τ0 T' i Ti) {b : Bool} (hw : wantedA ops o Ti = some b) :
    Region.wanted o (yielded ops fr.tmps) = b := by
  refine wanted_sound (k := k) (w := w) (ts := fr.tmps) (fun j want d hg hd => ?_) hw
  refine m.names S hD hready hi va ?_
  unfold looksA
  rw [hg, List.mem_append]
  exact .inl (by simp only [hd]; simp)

end
end Go.Ab

namespace Go.Ab
open Go

section
variable {P : Program} {E : Env} {callf : AV → List AV → AH → Option (ARes × AH × RC)} {c : Ctx} {ops : Array Oper} {base : Nat} {τ0 T' : T AV} {k0 : K} {h0 : AH} {w0 : World}
  {stages : List (Nat × AH)} {hend : AH} {pan : Option (Nat × List (AV × Bool))} {laidEnd : List Nat} {pend : List (Nat × Nat × AO)}
  {defs : List AD} {kk : List Item} {D : Nat → Prop} {laid laid' : List Nat} {g g' : AH} {pre st pre' st' : List (Nat × AH)} {k k' : K} {w w' : World} {fr : Frame} {is : List Nat}

theorem fch_pan {e : Nat} {ch : List (AV × Bool)} {bs : Array Nat} {cn : Nat} {p : Option (Nat × List (AV × Bool))} (f : FCh E callf cn ops bs base τ0 T' laid g st hend p laidEnd) (hp : p = some (e, ch)) :
    ∃ o Te, ops[e]? = some o ∧ View ops τ0 T' e Te ∧ wantedA ops o Te = some true ∧ kindOf E o.op = .e := by
  induction f with
  | done => cases hp
  | eff _ _ _ _ _ _ _ _ ih => exact ih hp
  | pan _ hd ho hv hw hk _ _ => cases hp; exact ⟨_, _, ho, hv, hw, hk⟩

theorem fch_all {bs : Array Nat} {cn : Nat} {p : Option (Nat × List (AV × Bool))} (f : FCh E callf cn ops bs base τ0 T' laid g st hend p laidEnd) :
    ∀ q ∈ st, ∃ o Te, ops[q.1]? = some o ∧ View ops τ0 T' q.1 Te ∧ wantedA ops o Te = some true ∧ kindOf E o.op = .e := by
  induction f with
  | done => intro q hq; cases hq
  | eff hd ho hv hw hk _ _ _ ih =>
    intro q hq
    rcases List.mem_cons.1 hq with rfl | hq
    · exact ⟨_, _, ho, hv, hw, hk⟩
    · exact ih q hq
  | pan _ hd ho hv hw hk _ _ =>
    intro q hq
    rcases List.mem_cons.1 hq with rfl | hq
    · exact ⟨_, _, ho, hv, hw, hk⟩
    · cases hq

/-- One operation is done, with a value. -/
theorem Sim.adv (S : Stat P E callf c ops base τ0 T' h0 stages hend pan laidEnd pend) {i : Nat} {rest : List Nat} (m : Sim P E callf c ops base τ0 T' k0 h0 w0 stages hend pan laidEnd defs kk D laid g pre st k w fr (i :: rest))
    {o : Oper} (hD : ¬ D i) (hready : ∀ j, bitOf (Region.before ops) i j = true → D j) (hi : ops[i]? = some o) (le : Le k k' w w') (hpan : ∀ ch, pan ≠ some (i, ch))
    (stg : stages = pre' ++ st') (hpre : ∀ p ∈ pre', D p.1 ∨ p.1 = i) (hst : ∀ p ∈ st', ¬ D p.1 ∧ p.1 ≠ i) (fch : FCh E callf c.n ops (Region.before ops) base τ0 T' laid' g' st' hend pan laidEnd)
    (heap : HR k' g' w') (acc : Ev k0 k' h0 g' w0 w') (gn : base + ops.size ≤ g'.next)
    (gh : ∀ a o Ta x f, (D a ∨ a = i) → a ∉ laid' → ops[a]? = some o → View ops τ0 T' a Ta → wantedA ops o Ta = some true → kindOf E o.op = .a → allocOf E o.op (aeval E Ta) = some (x, f) → Gh k' g' w' w0.heap.size (base + a) x)
    (ghd : ∀ a a' b, (D a ∨ a = i) → (D a' ∨ a' = i) → k'.ρ (base + a) = some (b, 0) → k'.ρ (base + a') = some (b, 0) → a = a')
    (rlt : ∀ a b, (D a ∨ a = i) → k'.ρ (base + a) = some (b, 0) → b < w'.heap.size) (un : ∀ a, a < ops.size → ¬ D a → a ≠ i → k'.ρ (base + a) = none) (laidD : ∀ a ∈ laid', D a ∨ a = i)
    {v : Value} (hv : ∀ d, o.dst = some d → d < c.n ∧ d < limF ∧ VR k' w' ((T.get deepF T' d).getD undefA) v) :
    Sim P E callf c ops base τ0 T' k0 h0 w0 stages hend pan laidEnd defs kk (fun x => D x ∨ x = i) laid' g' pre' st' k' w' (fr.finish v) rest := by
  obtain ⟨kk', ht, hik⟩ := m.todo.head (by constructor <;> intro _ e <;> cases e)
  have e : fr.finish v = { fr with tmps := match o.dst with | some d => fr.tmps.setIfInBounds d v | none => fr.tmps, todo := .inRegion ops rest :: kk' } := by
    simp only [Frame.finish, ht, hi, Option.bind_some]
    cases o.dst <;> rfl
  have hget : ∀ t, o.dst ≠ some t → (fr.finish v).tmps.getD t undef = fr.tmps.getD t undef := by
    intro t hne
    rw [e]
    cases hd : o.dst with
    | none => rfl
    | some d =>
      have : d ≠ t := fun x => hne (by rw [hd, x])
      simp only [Array.getD_eq_getD_getElem?, Array.getElem?_setIfInBounds_ne this]
  have hsz : (fr.finish v).tmps.size = c.n := by
    rw [e]
    cases hd : o.dst with
    | none => exact m.tsz
    | some d => simp [m.tsz]
  have hown : ∀ d, o.dst = some d → (fr.finish v).tmps.getD d undef = v := by
    intro d hd
    rw [e]
    have := (hv d hd).1
    have h2 : d < fr.tmps.size := by rw [m.tsz]; exact this
    simp [hd, Array.getD, h2]
  have hlt : i < ops.size := (Array.getElem?_eq_some_iff.1 hi).1
  refine ⟨fun a b hab hb => ?_, fun a ha => ?_, fun a ch hp ha => ?_, stg, hpre, fun p hp hd => ?_, fch, le.sz.trans m.sz, heap, acc, m.glob.mono le, gn, gh, ghd, rlt, fun a ha hn => un a ha (fun h => hn (.inl h)) (fun h => hn (.inr h)), laidD, hsz, fun t j q hj hq hd => ?_, fun t hn => ?_, ?_, ?_, ?_, ?_, ?_, ?_, m.early⟩
  · rcases hab with h | rfl
    · exact .inl (m.down a b h hb)
    · exact .inl (hready b hb)
  · rcases ha with h | rfl
    · exact m.dlt a h
    · exact hlt
  · rcases ha with h | rfl
    · exact m.nopan a ch hp h
    · exact hpan ch hp
  · rcases hd with h | h
    · exact (hst p hp).1 h
    · exact (hst p hp).2 h
  · rcases hj with hj | rfl
    · obtain ⟨q1, q2, q3⟩ := m.tin t j q hj hq hd
      refine ⟨q1, q2, ?_⟩
      rw [hget t fun he => ?_]
      · exact VR.mono le _ _ q3
      · have := S.apart.one j i q o t hq hi hd he
        subst this
        exact hD hj
    · rw [hi] at hq
      cases hq
      obtain ⟨q1, q2, q3⟩ := hv t hd
      exact ⟨q1, q2, by rw [hown t hd]; exact q3⟩
  · rw [hget t (hn i o (.inr rfl) hi)]
    exact VR.mono le _ _ (m.tout t fun j q hj => hn j q (.inl hj))
  · rw [e]; exact m.fn
  · rw [e]; simp only [IR]; exact ⟨kk', rfl, hik.mono le⟩
  · rw [e]; exact m.defs.mono le
  · rw [e]; exact m.mode
  · rw [e]; exact m.kind
  · have hr := m.round
    rw [e]
    cases hcr : c.round with
    | none => rw [hcr] at hr; exact hr
    | some l => rw [hcr] at hr; obtain ⟨b, q1, q2⟩ := hr; exact ⟨b, le.rho _ _ q1, q2⟩

theorem kind_nodefer {o : Oper} (hk : kindOf E o.op ≠ .no) : ∀ cl, o.op ≠ .defer cl := by
  intro cl e
  rw [e] at hk
  exact hk rfl

theorem dstIs_spec {dst : Option Nat} {v : AV} (h : dstIs T' dst v = true) : ∀ d, dst = some d → T.get deepF T' d = some v := by
  intro d hd
  subst hd
  simp only [dstIs] at h
  split at h
  · rename_i u hu
    rw [hu, eqv_eq _ _ h]
  · cases h

theorem stages_at {bs : Array Nat} {i : Nat} {o : Oper} {tmps : T AV} {he : Option AH} : ∀ {l : List (Nat × AH)} {acc : List Nat}, stagesOk E bs i o tmps T' he acc l = true → ∀ l1 l2, l = l1 ++ l2 → (∀ p ∈ l1, bitOf bs p.1 i = false) → (∀ e ∈ acc, bitOf bs e i = false) → (∀ p ∈ l2, bitOf bs i p.1 = false) →
      readIs E o tmps T' (match l2 with | [] => he | (_, g) :: _ => some g) = true
  | [], acc, h, l1, l2, hl, h1, ha, h2 => by
    obtain ⟨rfl, rfl⟩ : l1 = [] ∧ l2 = [] := by simpa using hl.symm
    simp only [stagesOk, stageOk, Bool.or_eq_true, List.any_eq_true] at h
    rcases h with ⟨e, q1, q2⟩ | ⟨e, q1, q2⟩ | h
    · rw [ha e q1] at q2; cases q2
    · cases q1
    · exact h
  | (e, g) :: l, acc, h, l1, l2, hl, h1, ha, h2 => by
    simp only [stagesOk, Bool.and_eq_true] at h
    cases l1 with
    | nil =>
      simp only [List.nil_append] at hl
      subst hl
      have h := h.1
      simp only [stageOk, Bool.or_eq_true, List.any_eq_true] at h
      rcases h with ⟨e', q1, q2⟩ | ⟨e', q1, q2⟩ | h
      · rw [ha e' q1] at q2; cases q2
      · rcases List.mem_cons.1 q1 with rfl | q1
        · rw [h2 (e', g) (by simp)] at q2; cases q2
        · obtain ⟨p, q3, rfl⟩ := List.mem_map.1 q1
          rw [h2 p (by simp [q3])] at q2; cases q2
      · exact h
    | cons p l1 =>
      simp only [List.cons_append, List.cons.injEq] at hl
      obtain ⟨rfl, rfl⟩ := hl
      exact stages_at h.2 l1 l2 rfl (fun p hp => h1 p (by simp [hp])) (fun e' he' => by
        rcases List.mem_cons.1 he' with rfl | he'
        · exact h1 (e', g) (by simp)
        · exact ha e' he') h2

end
end Go.Ab
end
