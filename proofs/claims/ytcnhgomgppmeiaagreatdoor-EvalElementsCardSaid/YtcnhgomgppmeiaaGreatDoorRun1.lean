/-
  An evaluator over the model's memory, and its soundness (part 1): what it computes of a call is what the call does in the model, whatever the order of evaluation is; no condition.
-/
import Derived.Calls
import Derived.Laws.World
import Derived.Laws.Cells
import Derived.Laws.IdiomCopy
import Derived.Laws.Entries
import Derived.Laws.Strings
import Derived.Lib.Strings

noncomputable section
namespace Go.Ab
open Go

/-! Abstract values, heaps, and what it is for memory to be as they say. -/

inductive AV where
  | any
  | bool (b : Bool)
  | int (k : IntKind) (n : Int)
  | str (s : List Nat)
  | nilp
  | ptr (o off : Nat)
  | pptr (cells : List AV) (off : Nat)
  | nils
  | sl (o off len sz : Nat) (cap : Option Nat)
  | psl (cells : List AV) (len : Nat) (cap : Option Nat)
  | emp
  | nilm
  | map (o : Nat)
  | func (fn : Fn) (first captured : List AV)
  | nilf
  | iface (t : TypeId) (v : AV)
  | nili
  | agg (cs : List AV)
  | tup (vs : List AV)
  | raw (v : Value)
  | sel (i : Nat)
  | tok (i : Nat)
  | stok (i : Nat)
  | one (xs : List AV)
  deriving Inhabited

/-- A trie over numbers. -/
inductive T (α : Type) where
  | e
  | n (l : T α) (v : Option α) (r : T α)
  deriving Inhabited

namespace T
variable {α : Type}
def getC : Nat → T α → Nat → Option α
  | 0, _, _ => none
  | _ + 1, .e, _ => none
  | k + 1, .n l v r, i => bif Nat.beq i 0 then v else bif Nat.beq (i % 2) 0 then getC k l (i / 2 - 1) else getC k r (i / 2)
def putC : Nat → T α → Nat → Option α → T α
  | 0, t, _, _ => t
  | k + 1, .e, i, a => bif Nat.beq i 0 then .n .e a .e else bif Nat.beq (i % 2) 0 then .n (putC k .e (i / 2 - 1) a) none .e else .n .e none (putC k .e (i / 2) a)
  | k + 1, .n l v r, i, a => bif Nat.beq i 0 then .n l a r else bif Nat.beq (i % 2) 0 then .n (putC k l (i / 2 - 1) a) v r else .n l v (putC k r (i / 2) a)
/- spelt by recursors: so it is quick for the kernel -/
def get (k : Nat) : T α → Nat → Option α :=
  Nat.rec (fun _ _ => none) (fun _ ih t => T.rec (fun _ => none) (fun l v r _ _ i => Nat.rec v (fun j _ => Nat.rec (ih r (Nat.div j 2)) (fun _ _ => ih l (Nat.div j 2)) (Nat.mod j 2)) i) t) k
noncomputable def putP (k : Nat) : T α → Nat → Option α → (T α → T α) → T α :=
  Nat.rec (fun t _ _ c => c t) (fun _ ih t i a c =>
    T.rec (Nat.rec (c (T.n .e a .e)) (fun j _ => Nat.rec (ih .e (Nat.div j 2) a fun r => c (T.n .e none r)) (fun _ _ => ih .e (Nat.div j 2) a fun l => c (T.n l none .e)) (Nat.mod j 2)) i)
      (fun l v r _ _ => Nat.rec (c (T.n l a r)) (fun j _ => Nat.rec (ih r (Nat.div j 2) a fun r => c (T.n l v r)) (fun _ _ => ih l (Nat.div j 2) a fun l => c (T.n l v r)) (Nat.mod j 2)) i) t) k
def put (k : Nat) (t : T α) (i : Nat) (a : Option α) : T α := putP k t i a fun t => t

theorem parity {β : Type} (j : Nat) (x y : β) : (Nat.rec x (fun _ _ => y) (Nat.mod j 2) : β) = bif Nat.beq ((j + 1) % 2) 0 then y else x := by
  rcases Nat.mod_two_eq_zero_or_one j with h | h
  · have e : (j + 1) % 2 = 1 := by omega
    rw [e, show Nat.mod j 2 = 0 from h]
    rfl
  · have e : (j + 1) % 2 = 0 := by omega
    rw [e, show Nat.mod j 2 = 1 from h]
    rfl

theorem get_0 (t : T α) (i : Nat) : get 0 t i = none := rfl
theorem get_se (k i : Nat) : get (k + 1) (.e : T α) i = none := rfl
theorem get_sn (k : Nat) (l r : T α) (v : Option α) (i : Nat) : get (k + 1) (.n l v r) i = bif Nat.beq i 0 then v else bif Nat.beq (i % 2) 0 then get k l (i / 2 - 1) else get k r (i / 2) := by
  cases i with
  | zero => rfl
  | succ j =>
    have h1 : get (k + 1) (.n l v r) (j + 1) = (Nat.rec (get k r (Nat.div j 2)) (fun _ _ => get k l (Nat.div j 2)) (Nat.mod j 2) : Option α) := rfl
    rw [h1, parity]
    simp only [show Nat.beq (j + 1) 0 = false from rfl, cond_false]
    rcases Nat.mod_two_eq_zero_or_one j with h | h
    · have e : (j + 1) % 2 = 1 := by omega
      simp only [e, show Nat.beq 1 0 = false from rfl, cond_false]
      rw [show Nat.div j 2 = (j + 1) / 2 from (by show j / 2 = _; omega)]
    · have e : (j + 1) % 2 = 0 := by omega
      simp only [e, show Nat.beq 0 0 = true from rfl, cond_true]
      rw [show Nat.div j 2 = (j + 1) / 2 - 1 from (by show j / 2 = _; omega)]
theorem putP_c (k : Nat) : ∀ (t : T α) (i : Nat) (a : Option α) (c : T α → T α), putP k t i a c = c (put k t i a) := by
  induction k with
  | zero => intro t i a c; rfl
  | succ k ih =>
    intro t i a c
    have d : ∀ (j : Nat) (f g : T α → T α) (l r : T α), (Nat.rec (putP k r (Nat.div j 2) a fun r => c (f r)) (fun _ _ => putP k l (Nat.div j 2) a fun l => c (g l)) (Nat.mod j 2) : T α) =
        c (Nat.rec (putP k r (Nat.div j 2) a f) (fun _ _ => putP k l (Nat.div j 2) a g) (Nat.mod j 2) : T α) := by
      intro j f g l r
      cases Nat.mod j 2 with
      | zero =>
        show putP k r (Nat.div j 2) a (fun r => c (f r)) = c (putP k r (Nat.div j 2) a f)
        rw [ih, ih r _ _ f]
      | succ m =>
        show putP k l (Nat.div j 2) a (fun l => c (g l)) = c (putP k l (Nat.div j 2) a g)
        rw [ih, ih l _ _ g]
    cases t with
    | e => cases i with
      | zero => rfl
      | succ j => exact d j (fun r => T.n .e none r) (fun l => T.n l none .e) .e .e
    | n l v r => cases i with
      | zero => rfl
      | succ j => exact d j (fun r => T.n l v r) (fun l => T.n l v r) l r

theorem put_0 (t : T α) (i : Nat) (a : Option α) : put 0 t i a = t := rfl
theorem put_se (k i : Nat) (a : Option α) : put (k + 1) (.e : T α) i a = bif Nat.beq i 0 then .n .e a .e else bif Nat.beq (i % 2) 0 then .n (put k .e (i / 2 - 1) a) none .e else .n .e none (put k .e (i / 2) a) := by
  cases i with
  | zero => rfl
  | succ j =>
    have h1 : put (k + 1) (.e : T α) (j + 1) a = (Nat.rec (putP k .e (Nat.div j 2) a fun r => T.n .e none r) (fun _ _ => putP k .e (Nat.div j 2) a fun l => T.n l none .e) (Nat.mod j 2) : T α) := rfl
    rw [h1, parity, putP_c, putP_c]
    simp only [show Nat.beq (j + 1) 0 = false from rfl, cond_false]
    rcases Nat.mod_two_eq_zero_or_one j with h | h
    · have e : (j + 1) % 2 = 1 := by omega
      simp only [e, show Nat.beq 1 0 = false from rfl, cond_false]
      rw [show Nat.div j 2 = (j + 1) / 2 from (by show j / 2 = _; omega)]
    · have e : (j + 1) % 2 = 0 := by omega
      simp only [e, show Nat.beq 0 0 = true from rfl, cond_true]
      rw [show Nat.div j 2 = (j + 1) / 2 - 1 from (by show j / 2 = _; omega)]
theorem put_sn (k : Nat) (l r : T α) (v : Option α) (i : Nat) (a : Option α) : put (k + 1) (.n l v r) i a = bif Nat.beq i 0 then .n l a r else bif Nat.beq (i % 2) 0 then .n (put k l (i / 2 - 1) a) v r else .n l v (put k r (i / 2) a) := by
  cases i with
  | zero => rfl
  | succ j =>
    have h1 : put (k + 1) (.n l v r) (j + 1) a = (Nat.rec (putP k r (Nat.div j 2) a fun r => T.n l v r) (fun _ _ => putP k l (Nat.div j 2) a fun l => T.n l v r) (Nat.mod j 2) : T α) := rfl
    rw [h1, parity, putP_c, putP_c]
    simp only [show Nat.beq (j + 1) 0 = false from rfl, cond_false]
    rcases Nat.mod_two_eq_zero_or_one j with h | h
    · have e : (j + 1) % 2 = 1 := by omega
      simp only [e, show Nat.beq 1 0 = false from rfl, cond_false]
      rw [show Nat.div j 2 = (j + 1) / 2 from (by show j / 2 = _; omega)]
    · have e : (j + 1) % 2 = 0 := by omega
      simp only [e, show Nat.beq 0 0 = true from rfl, cond_true]
      rw [show Nat.div j 2 = (j + 1) / 2 - 1 from (by show j / 2 = _; omega)]

theorem get_e (k i : Nat) : get k (.e : T α) i = none := by cases k <;> rfl

theorem beq_eq (a b : Nat) : Nat.beq a b = decide (a = b) := by
  cases h : Nat.beq a b
  · have := Nat.ne_of_beq_eq_false h; simp [this]
  · have := Nat.eq_of_beq_eq_true h; simp [this]

theorem get_put (k : Nat) : ∀ (t : T α) (i j : Nat) (a : Option α), i < 2 ^ k - 1 → j < 2 ^ k - 1 → get k (put k t i a) j = if j = i then a else get k t j := by
  induction k with
  | zero => intro t i j a hi; simp at hi
  | succ k ih =>
    intro t i j a hi hj
    have h2 : 2 ^ (k + 1) = 2 * 2 ^ k := by rw [Nat.pow_succ]; omega
    rw [h2] at hi hj
    cases t with
    | e =>
      simp only [put_se, get_se, beq_eq]
      by_cases h0 : i = 0
      · subst h0
        simp only [decide_true, cond_true, get_sn, beq_eq]
        by_cases hj0 : j = 0
        · simp [hj0]
        · simp [hj0, get_e]
      · simp only [h0, decide_false, cond_false]
        by_cases hp : i % 2 = 0
        · simp only [hp, decide_true, cond_true, get_sn, beq_eq]
          by_cases hj0 : j = 0
          · simp [hj0, Ne.symm h0]
          · by_cases hjp : j % 2 = 0
            · simp only [hj0, hjp, decide_false, decide_true, cond_true, cond_false]
              rw [ih _ _ _ _ (by omega) (by omega), get_e]
              by_cases e : j = i
              · simp [e]
              · rw [if_neg e, if_neg (by omega)]
            · simp only [hj0, hjp, decide_false, cond_false, get_e]
              rw [if_neg (by intro e; subst e; exact hjp hp)]
        · simp only [hp, decide_false, cond_false, get_sn, beq_eq]
          by_cases hj0 : j = 0
          · simp [hj0, Ne.symm h0]
          · by_cases hjp : j % 2 = 0
            · simp only [hj0, hjp, decide_false, decide_true, cond_true, cond_false, get_e]
              rw [if_neg (by intro e; subst e; exact hp hjp)]
            · simp only [hj0, hjp, decide_false, cond_false]
              rw [ih _ _ _ _ (by omega) (by omega), get_e]
              by_cases e : j = i
              · simp [e]
              · rw [if_neg e, if_neg (by omega)]
    | n l v r =>
      simp only [put_sn, get_sn, beq_eq]
      by_cases h0 : i = 0
      · subst h0
        simp only [decide_true, cond_true, get_sn, beq_eq]
        by_cases hj0 : j = 0
        · simp [hj0]
        · simp [hj0]
      · simp only [h0, decide_false, cond_false]
        by_cases hp : i % 2 = 0
        · simp only [hp, decide_true, cond_true, get_sn, beq_eq]
          by_cases hj0 : j = 0
          · simp [hj0, Ne.symm h0]
          · by_cases hjp : j % 2 = 0
            · simp only [hj0, hjp, decide_false, decide_true, cond_true, cond_false]
              rw [ih _ _ _ _ (by omega) (by omega)]
              by_cases e : j = i
              · simp [e]
              · rw [if_neg e, if_neg (by omega)]
            · simp only [hj0, hjp, decide_false, cond_false]
              rw [if_neg (by intro e; subst e; exact hjp hp)]
        · simp only [hp, decide_false, cond_false, get_sn, beq_eq]
          by_cases hj0 : j = 0
          · simp [hj0, Ne.symm h0]
          · by_cases hjp : j % 2 = 0
            · simp only [hj0, hjp, decide_false, decide_true, cond_true, cond_false]
              rw [if_neg (by intro e; subst e; exact hp hjp)]
            · simp only [hj0, hjp, decide_false, cond_false]
              rw [ih _ _ _ _ (by omega) (by omega)]
              by_cases e : j = i
              · simp [e]
              · rw [if_neg e, if_neg (by omega)]
end T

/-- A deferred call: its target (a function value) and its arguments; 'mark o': the calls that are collected in object o. -/
inductive AD where
  | call (f : AV) (args : List AV)
  | mark (o : Nat)
  deriving Inhabited

inductive AO where
  | cells (e : TypeId) (cs : List AV)
  | map (es : List (AV × AV × Nat)) (clock : Nat)
  | loop (st : LoopState) (pend : Option Code) (fn : FuncId) (n : Nat) (tmps : T AV) (params : List Nat) (assign body : Code) (dfr : Nat)
  | dfr (on : Bool)
  | siter (s : List Nat) (pos : Nat)
  deriving Inhabited

structure AH where
  m : T AO
  next : Nat
  deriving Inhabited

abbrev deepH : Nat := 24
abbrev deepF : Nat := 10
def AH.get (h : AH) (o : Nat) : Option AO := T.get deepH h.m o
def AH.set (h : AH) (o : Nat) (x : Option AO) : AH := ⟨T.put deepH h.m o x, h.next⟩

/-- What is said of a value that nobody looks into: it holds as long as the frozen memory stays. -/
structure Opq where
  P : (Nat → Prop) → World → Value → Prop
  mono : ∀ (fz fz' : Nat → Prop) (w w' : World) (v : Value), (∀ b, fz b → fz' b) → (∀ b, fz b → w'.heap[b]? = w.heap[b]?) → P fz w v → P fz' w' v

structure KC where
  sz : TypeId → Nat
  sel : Nat → Opq
  tok : Nat → Value
  str : Nat → ByteArray
structure K where
  ρ : Nat → Option (Nat × Nat)
  fz : Nat → Prop
  sz : KC

mutual
def VR (k : K) (w : World) : AV → Value → Prop
  | .any, _ => True
  | .bool b, v => v = .bool b
  | .int kd n, v => v = .int kd n
  | .str s, v => ∃ b : ByteArray, v = .string b ∧ b.data.toList.map UInt8.toNat = s
  | .nilp, v => v = .pointer none
  | .ptr o off, v => ∃ b sh, k.ρ o = some (b, sh) ∧ v = .pointer (some ⟨b, sh + off, none⟩)
  | .pptr cells off, v => ∃ b sh, v = .pointer (some ⟨b, sh + off, none⟩) ∧ k.fz b ∧ VRC k w b cells sh
  | .nils, v => v = .slice none 0 0
  | .sl o off len sz cap, v => ∃ b sh c arr e fr, k.ρ o = some (b, sh) ∧ v = .slice (some ⟨b, sh + off, none⟩) len c ∧ len ≤ c ∧ (∀ n, cap = some n → c = n) ∧
      w.heap[b]? = some (.cells arr e fr) ∧ sh + off + c * sz ≤ arr.size
  | .psl cells len cap, v => ∃ b sh c, v = .slice (some ⟨b, sh, none⟩) len c ∧ len ≤ c ∧ (∀ n, cap = some n → c = n) ∧ k.fz b ∧ VRC k w b cells sh
  | .emp, v => ∃ a c, v = .slice (some a) 0 c
  | .nilm, v => v = .map none
  | .map o, v => ∃ b, k.ρ o = some (b, 0) ∧ v = .map (some b)
  | .func fn first captured, v =>
      match fn with
      | .yield l => ∃ b, k.ρ l = some (b, 0) ∧ v = .func (.yield b) #[] #[] ∧ first = [] ∧ captured = []
      | fn => ∃ fs cs : Array Value, v = .func fn fs cs ∧ VRL k w first fs.toList ∧ VRL k w captured cs.toList
  | .nilf, v => v = .nilFunc
  | .iface t x, v => ∃ y, v = .iface t y ∧ VR k w x y
  | .nili, v => v = .nilIface
  | .agg cs, v => ∃ vs : Array Value, v = .agg vs ∧ VRL k w cs vs.toList
  | .tup cs, v => ∃ vs : Array Value, v = .tuple vs ∧ VRL k w cs vs.toList
  | .raw x, v => v = x
  | .sel i, v => (k.sz.sel i).P k.fz w v ∧ v.oneCell' = true
  | .stok i, v => v = .string (k.sz.str i)
  | .tok i, v => v = k.sz.tok i ∧ v.oneCell' = true
  | .one xs, v => VRO k w xs v ∧ v.oneCell' = true
def VRO (k : K) (w : World) : List AV → Value → Prop
  | [], _ => False
  | x :: xs, v => VR k w x v ∨ VRO k w xs v
def VRL (k : K) (w : World) : List AV → List Value → Prop
  | [], vs => vs = []
  | x :: xs, vs => ∃ v vs', vs = v :: vs' ∧ VR k w x v ∧ VRL k w xs vs'
def VRC (k : K) (w : World) (b : Nat) : List AV → Nat → Prop
  | [], _ => True
  | x :: xs, i => (∃ v, w.cell? ⟨b, i, none⟩ = some v ∧ VR k w x v) ∧ VRC k w b xs (i + 1)
end

/-- What stays as memory and the renaming go on: enough for values to read as they did. -/
structure Le (k k' : K) (w w' : World) : Prop where
  sz : k'.sz = k.sz
  rho : ∀ o p, k.ρ o = some p → k'.ρ o = some p
  fz : ∀ b, k.fz b → k'.fz b
  same : ∀ b, k.fz b → w'.heap[b]? = w.heap[b]?
  shape : ∀ (b : Nat) (arr : Array Value) (e : TypeId) (fr : Nat × Nat), w.heap[b]? = some (Obj.cells arr e fr) → ∃ (arr' : Array Value) (fr' : Nat × Nat), w'.heap[b]? = some (Obj.cells arr' e fr') ∧ arr'.size = arr.size

theorem Le.cell {k k' : K} {w w' : World} (h : Le k k' w w') {b i : Nat} (hb : k.fz b) : w'.cell? ⟨b, i, none⟩ = w.cell? ⟨b, i, none⟩ := by
  simp only [World.cell?, h.same b hb]

mutual
theorem VR.mono {k k' : K} {w w' : World} (h : Le k k' w w') : ∀ (x : AV) (v : Value), VR k w x v → VR k' w' x v
  | .any, _, _ => by simp only [VR]
  | .bool b, v, hv => by simpa only [VR] using hv
  | .int kd n, v, hv => by simpa only [VR] using hv
  | .str s, v, hv => by simpa only [VR] using hv
  | .nilp, v, hv => by simpa only [VR] using hv
  | .ptr o off, v, hv => by
    simp only [VR] at hv ⊢
    obtain ⟨b, sh, h1, h2⟩ := hv
    exact ⟨b, sh, h.rho _ _ h1, h2⟩
  | .pptr cells off, v, hv => by
    simp only [VR] at hv ⊢
    obtain ⟨b, sh, h1, h2, h3⟩ := hv
    exact ⟨b, sh, h1, h.fz _ h2, VRC.mono h b h2 cells sh h3⟩
  | .nils, v, hv => by simpa only [VR] using hv
  | .sl o off len sz cap, v, hv => by
    simp only [VR] at hv ⊢
    obtain ⟨b, sh, c, arr, e, fr, h1, h2, h3, h4, h5, h6⟩ := hv
    obtain ⟨arr', fr', h7, h8⟩ := h.shape _ _ _ _ h5
    exact ⟨b, sh, c, arr', e, fr', h.rho _ _ h1, h2, h3, h4, h7, by omega⟩
  | .psl cells len cap, v, hv => by
    simp only [VR] at hv ⊢
    obtain ⟨b, sh, c, h1, h2, h3, h4, h5⟩ := hv
    exact ⟨b, sh, c, h1, h2, h3, h.fz _ h4, VRC.mono h b h4 cells sh h5⟩
  | .emp, v, hv => by simpa only [VR] using hv
  | .nilm, v, hv => by simpa only [VR] using hv
  | .map o, v, hv => by
    simp only [VR] at hv ⊢
    obtain ⟨b, h1, h2⟩ := hv
    exact ⟨b, h.rho _ _ h1, h2⟩
  | .func fn first captured, v, hv => by
    cases fn <;> simp only [VR] at hv ⊢
    case yield l =>
      obtain ⟨b, h1, h2⟩ := hv
      exact ⟨b, h.rho _ _ h1, h2⟩
    all_goals
      obtain ⟨fs, cs, h1, h2, h3⟩ := hv
      exact ⟨fs, cs, h1, VRL.mono h _ _ h2, VRL.mono h _ _ h3⟩
  | .nilf, v, hv => by simpa only [VR] using hv
  | .iface t x, v, hv => by
    simp only [VR] at hv ⊢
    obtain ⟨y, h1, h2⟩ := hv
    exact ⟨y, h1, VR.mono h _ _ h2⟩
  | .nili, v, hv => by simpa only [VR] using hv
  | .agg cs, v, hv => by
    simp only [VR] at hv ⊢
    obtain ⟨vs, h1, h2⟩ := hv
    exact ⟨vs, h1, VRL.mono h _ _ h2⟩
  | .tup cs, v, hv => by
    simp only [VR] at hv ⊢
    obtain ⟨vs, h1, h2⟩ := hv
    exact ⟨vs, h1, VRL.mono h _ _ h2⟩
  | .raw x, v, hv => by simpa only [VR] using hv
  | .sel i, v, hv => by
    simp only [VR] at hv ⊢
    rw [h.sz]
    exact ⟨(k.sz.sel i).mono _ _ _ _ v h.fz h.same hv.1, hv.2⟩
  | .stok i, v, hv => by
    simp only [VR] at hv ⊢
    rw [h.sz]
    exact hv
  | .tok i, v, hv => by
    simp only [VR] at hv ⊢
    rw [h.sz]
    exact hv
  | .one xs, v, hv => by
    simp only [VR] at hv ⊢
    exact ⟨VRO.mono h xs v hv.1, hv.2⟩
theorem VRO.mono {k k' : K} {w w' : World} (h : Le k k' w w') : ∀ (xs : List AV) (v : Value), VRO k w xs v → VRO k' w' xs v
  | [], _, hv => by simp only [VRO] at hv
  | x :: xs, v, hv => by
    simp only [VRO] at hv ⊢
    rcases hv with hv | hv
    · exact .inl (VR.mono h x v hv)
    · exact .inr (VRO.mono h xs v hv)
theorem VRL.mono {k k' : K} {w w' : World} (h : Le k k' w w') : ∀ (xs : List AV) (vs : List Value), VRL k w xs vs → VRL k' w' xs vs
  | [], vs, hv => by simpa only [VRL] using hv
  | x :: xs, vs, hv => by
    simp only [VRL] at hv ⊢
    obtain ⟨v, vs', h1, h2, h3⟩ := hv
    exact ⟨v, vs', h1, VR.mono h x v h2, VRL.mono h xs vs' h3⟩
theorem VRC.mono {k k' : K} {w w' : World} (h : Le k k' w w') (b : Nat) (hb : k.fz b) : ∀ (xs : List AV) (i : Nat), VRC k w b xs i → VRC k' w' b xs i
  | [], i, _ => by simp only [VRC]
  | x :: xs, i, hv => by
    simp only [VRC] at hv ⊢
    obtain ⟨⟨v, h1, h2⟩, h3⟩ := hv
    exact ⟨⟨v, by rw [h.cell hb]; exact h1, VR.mono h x v h2⟩, VRC.mono h b hb xs (i + 1) h3⟩
end

theorem VRL.length {k : K} {w : World} : ∀ {xs : List AV} {vs : List Value}, VRL k w xs vs → vs.length = xs.length
  | [], vs, h => by simp only [VRL] at h; simp [h]
  | x :: xs, vs, h => by
    simp only [VRL] at h
    obtain ⟨v, vs', rfl, _, h3⟩ := h
    simp [VRL.length h3]

theorem VRL.get {k : K} {w : World} : ∀ {xs : List AV} {vs : List Value}, VRL k w xs vs → ∀ (i : Nat) (x : AV), xs[i]? = some x → ∃ v, vs[i]? = some v ∧ VR k w x v
  | [], vs, _, i, x, hx => by simp at hx
  | y :: xs, vs, h, i, x, hx => by
    simp only [VRL] at h
    obtain ⟨v, vs', rfl, h2, h3⟩ := h
    cases i with
    | zero => simp at hx; subst hx; exact ⟨v, by simp, h2⟩
    | succ i => simp at hx; simpa using VRL.get h3 i x hx

theorem VRL.of_get {k : K} {w : World} : ∀ {xs : List AV} {vs : List Value}, vs.length = xs.length → (∀ (i : Nat) x v, xs[i]? = some x → vs[i]? = some v → VR k w x v) → VRL k w xs vs
  | [], vs, h, _ => by simp only [VRL]; exact List.eq_nil_of_length_eq_zero h
  | x :: xs, [], h, _ => by simp at h
  | x :: xs, v :: vs, h, hg => by
    simp only [VRL]
    exact ⟨v, vs, rfl, hg 0 x v (by simp) (by simp), VRL.of_get (by simpa using h) fun i x' v' h1 h2 => hg (i + 1) x' v' (by simpa using h1) (by simpa using h2)⟩

theorem VRL.append {k : K} {w : World} {xs ys : List AV} {vs us : List Value} (h : VRL k w xs vs) (h' : VRL k w ys us) : VRL k w (xs ++ ys) (vs ++ us) := by
  induction xs generalizing vs with
  | nil => simp only [VRL] at h; subst h; simpa using h'
  | cons x xs ih =>
    simp only [VRL] at h
    obtain ⟨v, vs', rfl, h2, h3⟩ := h
    simp only [List.cons_append, VRL]
    exact ⟨v, vs' ++ us, rfl, h2, ih h3⟩

theorem VRC.get {k : K} {w : World} {b : Nat} : ∀ {xs : List AV} {s : Nat}, VRC k w b xs s → ∀ (i : Nat) (x : AV), xs[i]? = some x → ∃ v, w.cell? ⟨b, s + i, none⟩ = some v ∧ VR k w x v
  | [], s, _, i, x, hx => by simp at hx
  | y :: xs, s, h, i, x, hx => by
    simp only [VRC] at h
    obtain ⟨⟨v, h1, h2⟩, h3⟩ := h
    cases i with
    | zero => simp at hx; subst hx; exact ⟨v, by simpa using h1, h2⟩
    | succ i =>
      simp at hx
      have := VRC.get h3 i x hx
      rwa [show s + 1 + i = s + (i + 1) by omega] at this

theorem VRC.of_get {k : K} {w : World} {b : Nat} : ∀ {xs : List AV} {s : Nat}, (∀ (i : Nat) x, xs[i]? = some x → ∃ v, w.cell? ⟨b, s + i, none⟩ = some v ∧ VR k w x v) → VRC k w b xs s
  | [], s, _ => by simp only [VRC]
  | y :: xs, s, h => by
    simp only [VRC]
    refine ⟨?_, VRC.of_get fun i x hx => ?_⟩
    · simpa using h 0 y (by simp)
    · have := h (i + 1) x (by simpa using hx)
      rwa [show s + (i + 1) = s + 1 + i by omega] at this

/-- May stand in one cell. -/
def AV.cell : AV → Bool
  | .any | .agg _ | .tup _ => false
  | .raw v => v.oneCell'
  | _ => true

theorem VR.oneCell {k : K} {w : World} {x : AV} {v : Value} (h : VR k w x v) (hx : x.cell = true) : v.oneCell' = true := by
  cases x <;> simp only [AV.cell] at hx <;> simp only [VR] at h
  case any => cases hx
  case agg => cases hx
  case tup => cases hx
  case func fn f c =>
    cases fn <;> simp only at h
    case yield => obtain ⟨b, _, h, _⟩ := h; subst h; rfl
    all_goals obtain ⟨_, _, h, _⟩ := h; subst h; rfl
  case raw => subst h; exact hx
  case sel => exact h.2
  case tok => exact h.2
  case one => exact h.2
  case str => obtain ⟨_, h, _⟩ := h; subst h; rfl
  case ptr => obtain ⟨_, _, _, h⟩ := h; subst h; rfl
  case pptr => obtain ⟨_, _, h, _⟩ := h; subst h; rfl
  case sl => obtain ⟨_, _, _, _, _, _, _, h, _⟩ := h; subst h; rfl
  case psl => obtain ⟨_, _, _, h, _⟩ := h; subst h; rfl
  case emp => obtain ⟨_, _, h⟩ := h; subst h; rfl
  case map => obtain ⟨_, _, h⟩ := h; subst h; rfl
  case iface => obtain ⟨_, h, _⟩ := h; subst h; rfl
  all_goals subst h; rfl

/-- The cells of a value. -/
def AV.cells : AV → List AV
  | .agg cs => cs
  | v => [v]

theorem VR.cells {k : K} {w : World} {x : AV} {v : Value} (h : VR k w x v) (hx : x.cells.all AV.cell = true) : VRL k w x.cells v.cells.toList ∧ ∀ u ∈ v.cells.toList, u.oneCell' = true := by
  have key : ∀ {xs : List AV} {vs : List Value}, VRL k w xs vs → xs.all AV.cell = true → ∀ u ∈ vs, u.oneCell' = true := by
    intro xs
    induction xs with
    | nil => intro vs h _ u hu; simp only [VRL] at h; subst h; simp at hu
    | cons y ys ih =>
      intro vs h hc u hu
      simp only [VRL] at h
      obtain ⟨v', vs', rfl, h2, h3⟩ := h
      simp only [List.all_cons, Bool.and_eq_true] at hc
      rcases List.mem_cons.1 hu with rfl | hu
      · exact h2.oneCell hc.1
      · exact ih h3 hc.2 u hu
  by_cases hagg : ∃ cs, x = .agg cs
  · obtain ⟨cs, rfl⟩ := hagg
    simp only [VR] at h
    obtain ⟨vs, rfl, h2⟩ := h
    simp only [AV.cells, Value.cells] at *
    exact ⟨h2, key h2 hx⟩
  · have hc : x.cells = [x] := by cases x <;> first | rfl | (exact absurd ⟨_, rfl⟩ hagg)
    rw [hc] at hx ⊢
    simp only [List.all_cons, List.all_nil, Bool.and_true] at hx
    have h1 := h.oneCell hx
    have hv : v.cells = #[v] := by cases v <;> first | rfl | (simp [Value.oneCell'] at h1)
    rw [hv]
    refine ⟨?_, ?_⟩
    · simp only [VRL]; exact ⟨v, [], rfl, h, rfl⟩
    · intro u hu; simp at hu; subst hu; exact h1

/-- One object of the abstract heap, as it lies in block b from cell sh on. -/
def TR (k : K) (w : World) (n : Nat) (t : T AV) (tmps : Array Value) : Prop :=
  tmps.size = n ∧ ∀ i, VR k w ((T.get deepF t i).getD (.tup [])) (tmps.getD i undef)

def MR (k : K) (w : World) : List (AV × AV × Nat) → List MapEntry → Prop
  | [], es => es = []
  | (x, y, n) :: r, es => ∃ e es', es = e :: es' ∧ VR k w x e.key ∧ VR k w y e.val ∧ e.born = n ∧ MR k w r es'

def ObR (k : K) (w : World) (b sh : Nat) : AO → Prop
  | .cells e cs => ∃ (arr : Array Value) (fr : Nat × Nat), w.heap[b]? = some (.cells arr e fr) ∧ sh + cs.length ≤ arr.size ∧ (∀ (i : Nat) (x : AV), cs[i]? = some x → ∃ v, arr[sh + i]? = some v ∧ VR k w x v) ∧ sh % k.sz.sz e = 0 ∧ (fr.2 = 0 ∨ arr.size ≤ fr.1)
  | .map es clock => sh = 0 ∧ ∃ ents : Array MapEntry, w.heap[b]? = some (.map ents clock) ∧ MR k w es ents.toList
  | .loop st pend fn n tmps params assign body d => sh = 0 ∧ ∃ (l : Loop) (db : Nat), w.heap[b]? = some (.loop l) ∧ l.state = st ∧ l.pending = pend ∧ l.fn = fn ∧ l.params.toList = params ∧
      l.assign = assign ∧ l.body = body ∧ TR k w n tmps l.tmps ∧ k.ρ d = some (db, 0) ∧ l.defers = db
  | .dfr on => sh = 0 ∧ w.heap[b]? = some (.deferred (if on then some [] else none))
  | .siter s pos => sh = 0 ∧ ∃ bs : ByteArray, w.heap[b]? = some (.stringIter bs pos) ∧ bs.data.toList.map UInt8.toNat = s

structure HR (k : K) (h : AH) (w : World) : Prop where
  obj : ∀ o ob, h.get o = some ob → ∃ b sh, k.ρ o = some (b, sh) ∧ ObR k w b sh ob
  inj : ∀ o₁ o₂ ob₁ ob₂ b s₁ s₂, h.get o₁ = some ob₁ → h.get o₂ = some ob₂ → k.ρ o₁ = some (b, s₁) → k.ρ o₂ = some (b, s₂) → o₁ = o₂
  nfz : ∀ o ob b sh, h.get o = some ob → k.ρ o = some (b, sh) → ¬ k.fz b
  fresh : ∀ o, h.next ≤ o → k.ρ o = none
  lt : ∀ b, k.fz b → b < w.heap.size

/-- How memory goes on: only what is live is written. -/
structure Ev (k k' : K) (h h' : AH) (w w' : World) : Prop where
  sz : k'.sz = k.sz
  os : w'.os = w.os
  tape : w'.tape = w.tape
  output : w'.output = w.output
  size : w.heap.size ≤ w'.heap.size
  same : ∀ b, b < w.heap.size → (∀ o ob sh, h.get o = some ob → k.ρ o ≠ some (b, sh)) → w'.heap[b]? = w.heap[b]?
  shape : ∀ (b : Nat) (arr : Array Value) (e : TypeId) (fr : Nat × Nat), w.heap[b]? = some (Obj.cells arr e fr) → ∃ (arr' : Array Value) (fr' : Nat × Nat), w'.heap[b]? = some (Obj.cells arr' e fr') ∧ arr'.size = arr.size
  rho : ∀ o p, k.ρ o = some p → k'.ρ o = some p
  fz : ∀ b, k.fz b → k'.fz b
  live : ∀ o ob b sh, h'.get o = some ob → k'.ρ o = some (b, sh) → b < w.heap.size → ∃ o' ob' sh', h.get o' = some ob' ∧ k.ρ o' = some (b, sh')
  next : h.next ≤ h'.next
  keep : ∀ o, o < h.next → k'.ρ o = k.ρ o
  nfz : ∀ b, b < w.heap.size → k'.fz b → k.fz b ∨ ∃ o ob sh, h.get o = some ob ∧ k.ρ o = some (b, sh)

theorem Ev.refl (k : K) (h : AH) (w : World) : Ev k k h h w w :=
  ⟨rfl, rfl, rfl, rfl, Nat.le_refl _, fun _ _ _ => rfl, fun _ _ _ _ h => ⟨_, _, h, rfl⟩, fun _ _ h => h, fun _ h => h, fun o ob _ sh h1 h2 _ => ⟨o, ob, sh, h1, h2⟩, Nat.le_refl _, fun _ _ => rfl, fun _ _ h => .inl h⟩

theorem Ev.le {k k' : K} {h h' : AH} {w w' : World} (e : Ev k k' h h' w w') (hr : HR k h w) : Le k k' w w' :=
  ⟨e.sz, e.rho, e.fz, fun b hb => e.same b (hr.lt b hb) fun o ob sh h1 h2 => hr.nfz o ob b sh h1 h2 hb, e.shape⟩

theorem Ev.trans {k k' k'' : K} {h h' h'' : AH} {w w' w'' : World} (e : Ev k k' h h' w w') (f : Ev k' k'' h' h'' w' w'') : Ev k k'' h h'' w w'' := by
  refine ⟨f.sz.trans e.sz, f.os.trans e.os, f.tape.trans e.tape, f.output.trans e.output, Nat.le_trans e.size f.size, fun b hb hn => ?_, fun b arr el fr hx => ?_, fun o p hp => f.rho _ _ (e.rho _ _ hp),
    fun b hb => f.fz _ (e.fz _ hb), fun o ob b sh h1 h2 hb => ?_, Nat.le_trans e.next f.next, fun o ho => (f.keep o (Nat.lt_of_lt_of_le ho e.next)).trans (e.keep o ho), fun b hb hf => ?_⟩
  · rw [f.same b (Nat.lt_of_lt_of_le hb e.size) fun o ob sh h1 h2 => ?_, e.same b hb hn]
    obtain ⟨o', ob', sh', h3, h4⟩ := e.live o ob b sh h1 h2 hb
    exact hn o' ob' sh' h3 h4
  · obtain ⟨a1, f1, h1, h2⟩ := e.shape _ _ _ _ hx
    obtain ⟨a2, f2, h3, h4⟩ := f.shape _ _ _ _ h1
    exact ⟨a2, f2, h3, h4.trans h2⟩
  · obtain ⟨o', ob', sh', h3, h4⟩ := f.live o ob b sh h1 h2 (Nat.lt_of_lt_of_le hb e.size)
    exact e.live o' ob' b sh' h3 h4 hb
  · rcases f.nfz b (Nat.lt_of_lt_of_le hb e.size) hf with h1 | ⟨o, ob, sh, h1, h2⟩
    · exact e.nfz b hb h1
    · exact .inr (e.live o ob b sh h1 h2 hb)

end Go.Ab

namespace Go.Ab
open Go

theorem T.get_big {α : Type} (k : Nat) : ∀ (t : T α) (i : Nat), 2 ^ k - 1 ≤ i → T.get k t i = none := by
  induction k with
  | zero => intro t i _; rfl
  | succ k ih =>
    intro t i hi
    have h2 : 2 ^ (k + 1) = 2 * 2 ^ k := by rw [Nat.pow_succ]; omega
    have h1 : 1 ≤ 2 ^ k := Nat.one_le_two_pow
    rw [h2] at hi
    cases t with
    | e => rfl
    | n l v r =>
      simp only [T.get_sn, T.beq_eq]
      have h0 : i ≠ 0 := by omega
      simp only [h0, decide_false, cond_false]
      by_cases hp : i % 2 = 0
      · simp only [hp, decide_true, cond_true]; exact ih _ _ (by omega)
      · simp only [hp, decide_false, cond_false]; exact ih _ _ (by omega)

theorem T.get_put' {α : Type} (k : Nat) (t : T α) (i j : Nat) (a : Option α) (hi : i < 2 ^ k - 1) : T.get k (T.put k t i a) j = if j = i then a else T.get k t j := by
  by_cases hj : j < 2 ^ k - 1
  · exact T.get_put k t i j a hi hj
  · rw [T.get_big k _ j (by omega), T.get_big k _ j (by omega), if_neg (by omega)]

abbrev limH : Nat := 16777215
abbrev limF : Nat := 1023

theorem AH.get_set (h : AH) (o j : Nat) (x : Option AO) (ho : o < limH) : (h.set o x).get j = if j = o then x else h.get j :=
  T.get_put' 24 h.m o j x (by simpa using ho)

theorem AH.lt_of_get {h : AH} {o : Nat} {x : AO} (hg : h.get o = some x) : o < limH := by
  by_cases hl : o < limH
  · exact hl
  · have := T.get_big 24 h.m o (by simp at hl; simpa using hl)
    simp [AH.get, this] at hg

theorem TR.mono {k k' : K} {w w' : World} (h : Le k k' w w') {n : Nat} {t : T AV} {a : Array Value} (ht : TR k w n t a) : TR k' w' n t a :=
  ⟨ht.1, fun i => VR.mono h _ _ (ht.2 i)⟩

theorem MR.mono {k k' : K} {w w' : World} (h : Le k k' w w') : ∀ {es : List (AV × AV × Nat)} {ents : List MapEntry}, MR k w es ents → MR k' w' es ents
  | [], _, hm => hm
  | (x, y, n) :: r, _, hm => by
    obtain ⟨e, es', h1, h2, h3, h4, h5⟩ := hm
    exact ⟨e, es', h1, VR.mono h _ _ h2, VR.mono h _ _ h3, h4, MR.mono h h5⟩

theorem ObR.mono {k k' : K} {w w' : World} (h : Le k k' w w') {b sh : Nat} (hb : w'.heap[b]? = w.heap[b]?) : ∀ {ob : AO}, ObR k w b sh ob → ObR k' w' b sh ob
  | .cells e cs, ho => by
    obtain ⟨arr, fr, h1, h2, h3, h6, h7⟩ := ho
    exact ⟨arr, fr, hb.trans h1, h2, (fun i x hx => let ⟨v, h4, h5⟩ := h3 i x hx; ⟨v, h4, VR.mono h _ _ h5⟩), by rw [h.sz]; exact h6, h7⟩
  | .map es clock, ho => by
    obtain ⟨h0, ents, h1, h2⟩ := ho
    exact ⟨h0, ents, hb.trans h1, MR.mono h h2⟩
  | .loop st pend fn n tmps params assign body d, ho => by
    obtain ⟨h0, l, db, h1, h2, h3, h4, h5, h6, h7, h8, h9, h10⟩ := ho
    exact ⟨h0, l, db, hb.trans h1, h2, h3, h4, h5, h6, h7, h8.mono h, h.rho _ _ h9, h10⟩
  | .dfr on, ho => ⟨ho.1, hb.trans ho.2⟩
  | .siter s pos, ho => by
    obtain ⟨h0, bs, h1, h2⟩ := ho
    exact ⟨h0, bs, hb.trans h1, h2⟩

theorem ObR.lt {k : K} {w : World} {b sh : Nat} {ob : AO} (h : ObR k w b sh ob) : b < w.heap.size := by
  have key : ∀ {x : Obj}, w.heap[b]? = some x → b < w.heap.size := fun hx => (Array.getElem?_eq_some_iff.1 hx).1
  cases ob with
  | cells e cs => obtain ⟨arr, fr, h1, _⟩ := h; exact key h1
  | map es c => obtain ⟨_, e, h1, _⟩ := h; exact key h1
  | loop => obtain ⟨_, l, d, h1, _⟩ := h; exact key h1
  | dfr on => exact key h.2
  | siter s p => obtain ⟨_, l, h1, _⟩ := h; exact key h1

theorem HR.lt_of {k : K} {h : AH} {w : World} (hr : HR k h w) {o : Nat} {ob : AO} {b sh : Nat} (hg : h.get o = some ob) (hρ : k.ρ o = some (b, sh)) : b < w.heap.size := by
  obtain ⟨b', sh', h1, h2⟩ := hr.obj o ob hg
  rw [hρ] at h1
  cases h1
  exact h2.lt

/-- One live object is written. -/
theorem HR.write {k : K} {h : AH} {w w' : World} (hr : HR k h w) {o : Nat} {ob ob' : AO} {b sh : Nat} (hg : h.get o = some ob) (hρ : k.ρ o = some (b, sh))
    (hos : w'.os = w.os) (htape : w'.tape = w.tape) (hout : w'.output = w.output) (hsize : w'.heap.size = w.heap.size)
    (hsame : ∀ b', b' ≠ b → w'.heap[b']? = w.heap[b']?)
    (hshape : ∀ (arr : Array Value) (e : TypeId) (fr : Nat × Nat), w.heap[b]? = some (Obj.cells arr e fr) → ∃ (arr' : Array Value) (fr' : Nat × Nat), w'.heap[b]? = some (Obj.cells arr' e fr') ∧ arr'.size = arr.size)
    (hob : Le k k w w' → ObR k w' b sh ob') :
    HR k (h.set o (some ob')) w' ∧ Ev k k h (h.set o (some ob')) w w' := by
  have ho := AH.lt_of_get hg
  have ev : Ev k k h (h.set o (some ob')) w w' := by
    refine ⟨rfl, hos, htape, hout, by omega, fun b' _ hn => hsame b' fun e => hn o ob sh hg (e ▸ hρ), fun b' arr e fr hx => ?_, fun _ _ h => h, fun _ h => h, fun o' ob1 b' sh' h1 h2 _ => ?_, Nat.le_refl _, fun _ _ => rfl, fun _ _ h => .inl h⟩
    · by_cases e' : b' = b
      · subst e'; exact hshape arr e fr hx
      · exact ⟨arr, fr, (hsame b' e').trans hx, rfl⟩
    · rw [AH.get_set h o o' _ ho] at h1
      by_cases e' : o' = o
      · subst e'; exact ⟨o', ob, sh', hg, h2⟩
      · rw [if_neg e'] at h1; exact ⟨o', ob1, sh', h1, h2⟩
  have le := ev.le hr
  have back : ∀ {o' : Nat} {ob1 : AO}, (h.set o (some ob')).get o' = some ob1 → ∃ ob2, h.get o' = some ob2 := by
    intro o' ob1 h1
    rw [AH.get_set h o o' _ ho] at h1
    by_cases e' : o' = o
    · subst e'; exact ⟨_, hg⟩
    · rw [if_neg e'] at h1; exact ⟨_, h1⟩
  refine ⟨⟨fun o' ob1 h1 => ?_, fun o1 o2 ob1 ob2 b' s1 s2 h1 h2 h3 h4 => ?_, fun o' ob1 b' sh' h1 h2 => ?_, hr.fresh, fun b' hb' => by rw [hsize]; exact hr.lt b' hb'⟩, ev⟩
  · rw [AH.get_set h o o' _ ho] at h1
    by_cases e' : o' = o
    · subst e'
      rw [if_pos rfl] at h1; cases h1
      exact ⟨b, sh, hρ, hob le⟩
    · rw [if_neg e'] at h1
      obtain ⟨b1, sh1, h2, h3⟩ := hr.obj o' ob1 h1
      have hne : b1 ≠ b := by
        intro e; subst e
        exact e' (hr.inj o' o ob1 ob b1 sh1 sh h1 hg h2 hρ)
      exact ⟨b1, sh1, h2, h3.mono le (hsame b1 hne)⟩
  · obtain ⟨ob1', h1'⟩ := back h1
    obtain ⟨ob2', h2'⟩ := back h2
    exact hr.inj o1 o2 _ _ b' s1 s2 h1' h2' h3 h4
  · obtain ⟨ob1', h1'⟩ := back h1
    exact hr.nfz o' _ b' sh' h1' h2

/-- An object is forgotten. -/
theorem HR.kill {k : K} {h : AH} {w : World} (hr : HR k h w) (o : Nat) (ho : o < limH) : HR k (h.set o none) w ∧ Ev k k h (h.set o none) w w := by
  have back : ∀ {o' : Nat} {ob1 : AO}, (h.set o none).get o' = some ob1 → h.get o' = some ob1 := by
    intro o' ob1 h1
    rw [AH.get_set h o o' _ ho] at h1
    by_cases e' : o' = o
    · rw [if_pos e'] at h1; cases h1
    · rwa [if_neg e'] at h1
  refine ⟨⟨fun o' ob1 h1 => hr.obj o' ob1 (back h1), fun o1 o2 ob1 ob2 b' s1 s2 h1 h2 => hr.inj o1 o2 _ _ b' s1 s2 (back h1) (back h2), fun o' ob1 b' sh' h1 => hr.nfz o' _ b' sh' (back h1), hr.fresh, hr.lt⟩, ?_⟩
  exact ⟨rfl, rfl, rfl, rfl, Nat.le_refl _, fun _ _ _ => rfl, fun b arr e fr hx => ⟨arr, fr, hx, rfl⟩, fun _ _ h => h, fun _ h => h, fun o' ob1 b' sh' h1 h2 _ => ⟨o', ob1, sh', back h1, h2⟩, Nat.le_refl _, fun _ _ => rfl, fun _ _ h => .inl h⟩

def AH.alloc (h : AH) (x : AO) : Option (Nat × AH) :=
  bif Nat.blt h.next limH then some (h.next, ⟨T.put deepH h.m h.next (some x), h.next + 1⟩) else none

def K.with (k : K) (o b : Nat) : K := ⟨fun x => if x = o then some (b, 0) else k.ρ x, k.fz, k.sz⟩

theorem K.with_self (k : K) (o b : Nat) : (k.with o b).ρ o = some (b, 0) := by simp [K.with]

/-- A new object in a new block. -/
theorem HR.alloc {k : K} {h h' : AH} {w : World} (hr : HR k h w) {o : Nat} {ob : AO} (ha : h.alloc ob = some (o, h')) (obj : Obj) (d : Nat)
    (hob : Le k (k.with o w.heap.size) w { w with heap := w.heap.push obj, drawn := d } → ObR (k.with o w.heap.size) { w with heap := w.heap.push obj, drawn := d } w.heap.size 0 ob) :
    HR (k.with o w.heap.size) h' { w with heap := w.heap.push obj, drawn := d } ∧ Ev k (k.with o w.heap.size) h h' w { w with heap := w.heap.push obj, drawn := d } ∧ o = h.next ∧ k.ρ o = none := by
  unfold AH.alloc at ha
  cases hlt : Nat.blt h.next limH with
  | false => rw [hlt] at ha; cases ha
  | true =>
    rw [hlt] at ha
    simp only [cond_true, Option.some.injEq, Prod.mk.injEq] at ha
    obtain ⟨rfl, rfl⟩ := ha
    have hlt' : h.next < limH := Nat.le_of_ble_eq_true hlt
    have hfr : k.ρ h.next = none := hr.fresh _ (Nat.le_refl _)
    have hget : ∀ j, (⟨T.put deepH h.m h.next (some ob), h.next + 1⟩ : AH).get j = if j = h.next then some ob else h.get j := fun j => T.get_put' 24 h.m h.next j _ (by simpa using hlt')
    have hold : ∀ b, b < w.heap.size → (w.heap.push obj)[b]? = w.heap[b]? := fun b hb => by rw [Array.getElem?_push]; rw [if_neg (by omega)]
    have hρne : ∀ o p, k.ρ o = some p → o ≠ h.next := by intro o p hp e; subst e; rw [hfr] at hp; cases hp
    have ev : Ev k (k.with h.next w.heap.size) h ⟨T.put deepH h.m h.next (some ob), h.next + 1⟩ w { w with heap := w.heap.push obj, drawn := d } := by
      refine ⟨rfl, rfl, rfl, rfl, by simp, fun b hb _ => hold b hb, fun b arr e fr hx => ?_, fun o p hp => ?_, fun _ h => h, fun o ob1 b sh h1 h2 hb => ?_, Nat.le_succ _, fun o ho => by simp only [K.with, if_neg (show o ≠ h.next by omega)], fun _ _ h => .inl h⟩
      · have hb := (Array.getElem?_eq_some_iff.1 hx).1
        exact ⟨arr, fr, (hold b hb).trans hx, rfl⟩
      · simp only [K.with, if_neg (hρne o p hp), hp]
      · rw [hget] at h1
        by_cases e : o = h.next
        · subst e
          simp only [K.with, if_true, Option.some.injEq, Prod.mk.injEq] at h2
          omega
        · rw [if_neg e] at h1
          simp only [K.with, if_neg e] at h2
          exact ⟨o, ob1, sh, h1, h2⟩
    have le := ev.le hr
    refine ⟨⟨fun o ob1 h1 => ?_, fun o1 o2 ob1 ob2 b s1 s2 h1 h2 h3 h4 => ?_, fun o ob1 b sh h1 h2 => ?_, fun o ho => ?_, fun b hb => ?_⟩, ev, rfl, hfr⟩
    · rw [hget] at h1
      by_cases e : o = h.next
      · subst e
        rw [if_pos rfl] at h1; cases h1
        exact ⟨w.heap.size, 0, K.with_self _ _ _, hob le⟩
      · rw [if_neg e] at h1
        obtain ⟨b, sh, h2, h3⟩ := hr.obj o ob1 h1
        exact ⟨b, sh, by simp only [K.with, if_neg e, h2], h3.mono le (hold b h3.lt)⟩
    · rw [hget] at h1 h2
      by_cases e1 : o1 = h.next <;> by_cases e2 : o2 = h.next
      · exact e1.trans e2.symm
      · rw [if_neg e2] at h2
        simp only [K.with, if_neg e2] at h4
        subst e1
        simp only [K.with, if_true, Option.some.injEq, Prod.mk.injEq] at h3
        have := hr.lt_of h2 h4
        omega
      · rw [if_neg e1] at h1
        simp only [K.with, if_neg e1] at h3
        subst e2
        simp only [K.with, if_true, Option.some.injEq, Prod.mk.injEq] at h4
        have := hr.lt_of h1 h3
        omega
      · rw [if_neg e1] at h1; rw [if_neg e2] at h2
        simp only [K.with, if_neg e1] at h3
        simp only [K.with, if_neg e2] at h4
        exact hr.inj o1 o2 _ _ b s1 s2 h1 h2 h3 h4
    · rw [hget] at h1
      by_cases e : o = h.next
      · subst e
        simp only [K.with, if_true, Option.some.injEq, Prod.mk.injEq] at h2
        intro hf
        have := hr.lt b hf
        omega
      · rw [if_neg e] at h1
        simp only [K.with, if_neg e] at h2
        exact hr.nfz o ob1 b sh h1 h2
    · have : o ≠ h.next := by have : h.next + 1 ≤ o := ho; omega
      simp only [K.with, if_neg this]
      exact hr.fresh o (by have : h.next + 1 ≤ o := ho; omega)
    · have := hr.lt b hb
      simp; omega

/-- An object is frozen: from now on it is data. -/
theorem HR.freeze {k : K} {h : AH} {w : World} (hr : HR k h w) {o : Nat} {ob : AO} {b sh : Nat} (hg : h.get o = some ob) (hρ : k.ρ o = some (b, sh)) :
    HR ⟨k.ρ, fun x => x = b ∨ k.fz x, k.sz⟩ (h.set o none) w ∧ Ev k ⟨k.ρ, fun x => x = b ∨ k.fz x, k.sz⟩ h (h.set o none) w w ∧ Le k ⟨k.ρ, fun x => x = b ∨ k.fz x, k.sz⟩ w w := by
  have ho := AH.lt_of_get hg
  have back : ∀ {o' : Nat} {ob1 : AO}, (h.set o none).get o' = some ob1 → o' ≠ o ∧ h.get o' = some ob1 := by
    intro o' ob1 h1
    rw [AH.get_set h o o' _ ho] at h1
    by_cases e' : o' = o
    · rw [if_pos e'] at h1; cases h1
    · rw [if_neg e'] at h1; exact ⟨e', h1⟩
  have le : Le k ⟨k.ρ, fun x => x = b ∨ k.fz x, k.sz⟩ w w := ⟨rfl, fun _ _ h => h, fun _ h => .inr h, fun _ _ => rfl, fun b arr e fr hx => ⟨arr, fr, hx, rfl⟩⟩
  refine ⟨⟨fun o' ob1 h1 => ?_, fun o1 o2 ob1 ob2 b' s1 s2 h1 h2 => hr.inj o1 o2 _ _ b' s1 s2 (back h1).2 (back h2).2, fun o' ob1 b' sh' h1 h2 => ?_, hr.fresh, fun b' hb' => ?_⟩, ?_, le⟩
  · obtain ⟨b1, sh1, h2, h3⟩ := hr.obj o' ob1 (back h1).2
    exact ⟨b1, sh1, h2, h3.mono le rfl⟩
  · rintro (rfl | hf)
    · exact (back h1).1 (hr.inj o' o _ _ b' sh' sh (back h1).2 hg h2 hρ)
    · exact hr.nfz o' _ b' sh' (back h1).2 h2 hf
  · rcases hb' with rfl | hb'
    · exact hr.lt_of hg hρ
    · exact hr.lt b' hb'
  · exact ⟨rfl, rfl, rfl, rfl, Nat.le_refl _, fun _ _ _ => rfl, fun b arr e fr hx => ⟨arr, fr, hx, rfl⟩, fun _ _ h => h, fun _ h => .inr h, fun o' ob1 b' sh' h1 h2 _ => ⟨o', ob1, sh', (back h1).2, h2⟩, Nat.le_refl _, fun _ _ => rfl, fun x _ hx => by
    rcases hx with rfl | hx
    · exact .inr ⟨o, ob, sh, hg, hρ⟩
    · exact .inl hx⟩

end Go.Ab

namespace Go.Ab
open Go

/-! The abstract run: definitions alone. -/

structure TI where
  und : TypeDesc
  size : Nat
  bytes : Nat
  zero : AV
  agg : Bool
  deriving Inhabited

structure Env where
  ty : TypeId → Option TI
  fn : FuncId → Option Func
  glob : Nat → Option (List AV)
  meth : TypeId → String → Option FuncId
  impl : TypeId → TypeId → Option Bool
  eqt : TypeId → Option (List TypeDesc)
  prim : FuncId → Option (List AV → AH → Option (AV × AH))
  sel : Nat → Opq := fun _ => ⟨fun _ _ _ => False, fun _ _ _ _ _ _ _ h => h⟩
  tok : Nat → Value := fun _ => .bool false
  str : Nat → ByteArray := fun _ => ByteArray.empty

def ofConst1 : Value → AV
  | .bool b => .bool b
  | .int k n => .int k n
  | .string b => .str (b.data.toList.map UInt8.toNat)
  | .pointer none => .nilp
  | .slice none 0 0 => .nils
  | .map none => .nilm
  | .nilFunc => .nilf
  | .nilIface => .nili
  | v => .raw v
def ofConst : Value → AV
  | .agg cs => .agg (cs.toList.map ofConst1)
  | .tuple cs => .tup (cs.toList.map ofConst1)
  | v => ofConst1 v

def undefA : AV := .tup []
def aeval (E : Env) (tmps : T AV) : Operand → AV
  | .tmp t => (T.get deepF tmps t).getD undefA
  | .const v => ofConst v
  | .global g => match E.glob g with
    | some cells => .pptr cells 0
    | none => .raw (.pointer (some ⟨g, 0, none⟩))
  | .func f => .func (.func f) [] []

/-- n cells from off on. -/
def segC (cs : List AV) (off n : Nat) : Option (List AV) :=
  let r := (cs.drop off).take n
  bif Nat.beq r.length n then some r else none
def spliceC (cs : List AV) (off : Nat) (xs : List AV) : Option (List AV) :=
  bif Nat.ble (off + xs.length) cs.length then some (cs.take off ++ (xs ++ cs.drop (off + xs.length))) else none
noncomputable section
def dropR (l : List AV) : Nat → List AV := List.rec (fun _ => []) (fun x xs ih i => Nat.rec (x :: xs) (fun j _ => ih j) i) l
def takeR (n : Nat) : List AV → (List AV → Option (List AV)) → Option (List AV) :=
  Nat.rec (fun _ c => c []) (fun _ ih l c => List.rec none (fun x xs _ => ih xs fun ys => c (x :: ys)) l) n
def replR (xs : List AV) : List AV → (List AV → Option (List AV)) → Option (List AV) :=
  List.rec (fun cs c => c cs) (fun x _ ih cs c => List.rec none (fun _ r _ => ih r fun ys => c (x :: ys)) cs) xs
def splR (off : Nat) (xs : List AV) : List AV → (List AV → Option (List AV)) → Option (List AV) :=
  Nat.rec (replR xs) (fun _ ih cs c => List.rec none (fun x r _ => ih r fun ys => c (x :: ys)) cs) off
end
def seg (cs : List AV) (off n : Nat) : Option (List AV) := takeR n (dropR cs off) some
def splice (cs : List AV) (off : Nat) (xs : List AV) : Option (List AV) := splR off xs cs some

theorem dropR_eq : ∀ (l : List AV) (i : Nat), dropR l i = l.drop i
  | [], i => by simp [dropR]
  | x :: l, 0 => rfl
  | x :: l, i + 1 => by
    have : dropR (x :: l) (i + 1) = dropR l i := rfl
    rw [this, dropR_eq l i]; rfl
theorem takeR_eq : ∀ (n : Nat) (l : List AV) (c : List AV → Option (List AV)), takeR n l c = bif Nat.beq (l.take n).length n then c (l.take n) else none
  | 0, l, c => rfl
  | n + 1, [], c => rfl
  | n + 1, x :: l, c => by
    have : takeR (n + 1) (x :: l) c = takeR n l fun ys => c (x :: ys) := rfl
    rw [this, takeR_eq n l]
    simp only [List.take_succ_cons, List.length_cons]
    rfl
theorem seg_eq (cs : List AV) (off n : Nat) : seg cs off n = segC cs off n := by
  unfold seg segC
  rw [takeR_eq, dropR_eq]
theorem replR_eq : ∀ (xs cs : List AV) (c : List AV → Option (List AV)), replR xs cs c = bif Nat.ble xs.length cs.length then c (xs ++ cs.drop xs.length) else none
  | [], cs, c => by
    have : Nat.ble 0 cs.length = true := Nat.ble_eq_true_of_le (Nat.zero_le _)
    show c cs = bif Nat.ble 0 cs.length then c cs else none
    rw [this]; rfl
  | x :: xs, [], c => rfl
  | x :: xs, y :: cs, c => by
    have : replR (x :: xs) (y :: cs) c = replR xs cs fun ys => c (x :: ys) := rfl
    rw [this, replR_eq xs cs]
    simp only [List.length_cons, List.cons_append, List.drop_succ_cons]
    rfl
theorem splR_eq : ∀ (off : Nat) (xs cs : List AV) (c : List AV → Option (List AV)), splR off xs cs c = bif Nat.ble (off + xs.length) cs.length then c (cs.take off ++ (xs ++ cs.drop (off + xs.length))) else none
  | 0, xs, cs, c => by
    have : splR 0 xs cs c = replR xs cs c := rfl
    rw [this, replR_eq]; simp
  | off + 1, xs, [], c => by
    have h1 : splR (off + 1) xs [] c = none := rfl
    have h2 : Nat.ble (off + 1 + xs.length) ([] : List AV).length = false := by
      cases h : Nat.ble (off + 1 + xs.length) ([] : List AV).length with
      | false => rfl
      | true => have := Nat.le_of_ble_eq_true h; simp at this
    rw [h1, h2]; rfl
  | off + 1, xs, x :: cs, c => by
    have h1 : splR (off + 1) xs (x :: cs) c = splR off xs cs fun ys => c (x :: ys) := rfl
    rw [h1, splR_eq off xs cs]
    have e : off + 1 + xs.length = (off + xs.length) + 1 := by omega
    rw [e]
    simp only [List.length_cons, List.take_succ_cons, List.cons_append, List.drop_succ_cons]
    rfl
theorem splice_eq (cs : List AV) (off : Nat) (xs : List AV) : splice cs off xs = spliceC cs off xs := by
  unfold splice spliceC
  rw [splR_eq]
def AV.allCell (xs : List AV) : Bool := xs.all AV.cell

/-- The cells behind an address. -/
def readAt (h : AH) (a : AV) (n : Nat) : Option (List AV) :=
  match a with
  | .ptr o off => match h.get o with
    | some (.cells _ cs) => seg cs off n
    | _ => none
  | .pptr cs off => seg cs off n
  | _ => none
def packA (agg : Bool) (cs : List AV) : Option AV :=
  bif agg then some (.agg cs) else match cs with
    | [c] => some c
    | _ => none
def loadA (i : TI) (h : AH) (a : AV) : Option AV :=
  match readAt h a i.size with
  | some cs => packA i.agg cs
  | none => none
def storeA (i : TI) (h : AH) (a x : AV) : Option AH :=
  let xs := x.cells
  bif Nat.beq xs.length i.size && AV.allCell xs then
    match a with
    | .ptr o off => match h.get o with
      | some (.cells e cs) => match splice cs off xs with
        | some cs' => some (h.set o (some (.cells e cs')))
        | none => none
      | _ => none
    | _ => none
  else none

def partA (E : Env) (t : TypeId) (cs : List AV) (off : Nat) : Option AV :=
  match E.ty t with
  | some i => bif i.agg then match seg cs off i.size with
      | some r => some (.agg r)
      | none => none
    else cs[off]?
  | none => none

def fillA (place : Nat → Option (Nat × Nat)) (cells : List AV) : List (Nat × AV) → Option (List AV)
  | [] => some cells
  | (i, v) :: rest => match place i with
    | some (off, size) => bif Nat.beq v.cells.length size && AV.allCell v.cells then match splice cells off v.cells with
        | some cs => fillA place cs rest
        | none => none
      else none
    | none => none

def byteA (n : Nat) : AV := .int .u8 n

def repl (z : List AV) : Nat → List AV
  | 0 => []
  | n + 1 => z ++ repl z n

def inRange (k : IntKind) (n : Int) : Bool := decide (k.wrap n = n)

def asNat : AV → Option Nat
  | .int _ (.ofNat n) => some n
  | _ => none

def bytesLessA : List Nat → List Nat → Bool
  | _, [] => false
  | [], _ :: _ => true
  | a :: x, b :: y => Nat.blt a b || (Nat.beq a b && bytesLessA x y)
def bytesEqA : List Nat → List Nat → Bool
  | [], [] => true
  | a :: x, b :: y => Nat.beq a b && bytesEqA x y
  | _, _ => false

def keyEq : AV → AV → Option Bool
  | .int k a, .int k' b => bif decide (k = k') then some (a == b) else none
  | .str a, .str b => some (bytesEqA a b)
  | .bool a, .bool b => some (a == b)
  | .stok i, .stok j => bif Nat.beq i j then some true else none
  | _, _ => none

def plainKey : TypeDesc → AV → Bool
  | .string, .str _ => true
  | .string, .stok _ => true
  | .int _, .int _ _ => true
  | .bool, .bool _ => true
  | _, _ => false

/-- Equality of the cells of two structs or arrays of plain things. -/
def cellsEq : List TypeDesc → List AV → List AV → Option Bool
  | [], [], [] => some true
  | d :: ds, a :: x, b :: y => bif plainKey d a && plainKey d b then
      match keyEq a b with
      | some true => cellsEq ds x y
      | some false => some false
      | none => none
    else none
  | _, _, _ => none

def aggEq (E : Env) (t : TypeId) (a b : List AV) : Option Bool :=
  match E.eqt t with
  | some ds => bif Nat.beq a.length ds.length && Nat.beq b.length ds.length then cellsEq ds a b else none
  | none => none

def eqA (E : Env) (t : TypeId) (x y : AV) : Option Bool :=
  match E.ty t with
  | none => none
  | some i => match i.und, x, y with
    | .bool, .bool a, .bool b => some (a == b)
    | .slice _, .nils, .nils => some true
    | .slice _, .sl .., .nils | .slice _, .psl .., .nils | .slice _, .nils, .sl .. | .slice _, .nils, .psl .. | .slice _, .emp, .nils | .slice _, .nils, .emp => some false
    | .map _ _, .nilm, .nilm => some true
    | .map _ _, .map _, .nilm | .map _ _, .nilm, .map _ => some false
    | .func _ _ _, .nilf, .nilf => some true
    | .pointer _, .nilp, .nilp => some true
    | .pointer _, .ptr .., .nilp | .pointer _, .nilp, .ptr .. | .pointer _, .pptr .., .nilp | .pointer _, .nilp, .pptr .. => some false
    | .pointer e, .ptr o a, .ptr o' b => match E.ty e with
      | some ei => bif Nat.ble 1 ei.size && Nat.beq o o' then some (Nat.beq a b) else none
      | none => none
    | .interface _, .iface .., .nili | .interface _, .nili, .iface .. => some false
    | .struct _, .agg a, .agg b | .array _ _, .agg a, .agg b => aggEq E t a b
    | _, _, _ => none

def binA (E : Env) (op : BinOp) (t : TypeId) (x y : AV) : Option AV :=
  match x, y with
  | .int k a, .int k' b => match op with
    | .shl => bif decide (0 ≤ b) then some (.int k (k.wrap (a * 2 ^ (min b.toNat k.bits)))) else none
    | .shr => bif decide (0 ≤ b) then some (.int k (a.fdiv (2 ^ (min b.toNat k.bits)))) else none
    | _ => bif decide (k = k') then match op with
      | .add => some (.int k (k.wrap (a + b)))
      | .sub => some (.int k (k.wrap (a - b)))
      | .mul => some (.int k (k.wrap (a * b)))
      | .quo => bif decide (b = 0) then none else some (.int k (k.wrap (a.tdiv b)))
      | .rem => bif decide (b = 0) then none else some (.int k (a.tmod b))
      | .and => some (.int k (k.wrap (BitVec.ofInt k.bits a &&& BitVec.ofInt k.bits b).toNat))
      | .or => some (.int k (k.wrap (BitVec.ofInt k.bits a ||| BitVec.ofInt k.bits b).toNat))
      | .xor => some (.int k (k.wrap (BitVec.ofInt k.bits a ^^^ BitVec.ofInt k.bits b).toNat))
      | .andNot => some (.int k (k.wrap (BitVec.ofInt k.bits a &&& ~~~ BitVec.ofInt k.bits b).toNat))
      | .eql => some (.bool (a == b))
      | .neq => some (.bool (a != b))
      | .lss => some (.bool (decide (a < b)))
      | .leq => some (.bool (decide (a ≤ b)))
      | .gtr => some (.bool (decide (a > b)))
      | .geq => some (.bool (decide (a ≥ b)))
      | _ => none
    else none
  | .str a, .str b => match op with
    | .add => bif Nat.blt (a.length + b.length) (2 ^ 47) then some (.str (a ++ b)) else none
    | .eql => some (.bool (bytesEqA a b))
    | .neq => some (.bool (!bytesEqA a b))
    | .lss => some (.bool (bytesLessA a b))
    | .leq => some (.bool (bytesLessA a b || bytesEqA a b))
    | .gtr => some (.bool (!(bytesLessA a b || bytesEqA a b)))
    | .geq => some (.bool (!bytesLessA a b))
    | _ => none
  | x, y => match op with
    | .eql => (eqA E t x y).map AV.bool
    | .neq => (eqA E t x y).map fun b => AV.bool (!b)
    | _ => none

def unA (op : UnOp) : AV → Option AV
  | .int k n => match op with
    | .neg => some (.int k (k.wrap (0 - n)))
    | .xor => some (.int k (k.wrap (BitVec.ofInt k.bits (if k.signed then -1 else k.max) ^^^ BitVec.ofInt k.bits n).toNat))
    | _ => none
  | .bool b => match op with
    | .not => some (.bool (!b))
    | _ => none
  | _ => none

def findEntry (k : AV) : List (AV × AV × Nat) → Nat → Option (Option (Nat × AV))
  | [], _ => some none
  | (x, y, _) :: r, i => match keyEq k x with
    | some true => some (some (i, y))
    | some false => findEntry k r (i + 1)
    | none => none

/-- All cells of a slice or string, and how many elements. -/
def elemsOf (h : AH) (sz : Nat) : AV → Option (Nat × List AV)
  | .nils | .emp => some (0, [])
  | .sl o off len s _ => bif Nat.beq s sz then match h.get o with
      | some (.cells _ cs) => (seg cs off (len * sz)).map fun r => (len, r)
      | _ => none
    else none
  | .psl cs len _ => (seg cs 0 (len * sz)).map fun r => (len, r)
  | .str s => bif Nat.beq sz 1 then some (s.length, s.map byteA) else none
  | _ => none

def numA (d : Nat) : Option AV → Option Nat
  | none => some d
  | some v => asNat v

/-- The new bounds: low, high, and the capacity that is told for a slice of 'len' elements and a capacity that may be known. -/
def boundsA (len : Nat) (cap : Option Nat) (lo hi mx : Option AV) : Option (Nat × Nat × Option Nat) :=
  match numA 0 lo, numA len hi with
  | some l, some u => match mx with
    | some mv => match asNat mv with
      | some m => bif Nat.ble l u && Nat.ble u m && Nat.ble m (cap.getD len) && hi.isSome then some (l, u, some m) else none
      | none => none
    | none => bif Nat.ble l u && Nat.ble u (cap.getD len) then some (l, u, cap) else none
  | _, _ => none

def sliceA (E : Env) (t : TypeId) (x : AV) (lo hi mx : Option AV) (h : AH) : Option AV :=
  match x with
  | .str s => match E.ty t with
    | some { und := .string, .. } => (match boundsA s.length (some s.length) lo hi mx, mx with
      | some (l, u, _), none => some (.str ((s.drop l).take (u - l)))
      | _, _ => none)
    | _ => none
  | .nils => match boundsA 0 (some 0) lo hi mx with
    | some _ => match E.ty t with
      | some { und := .slice el, .. } => match E.ty el with
        | some _ => some .nils
        | none => none
      | _ => none
    | none => none
  | .sl o off len sz cap => match E.ty t with
    | some { und := .slice el, .. } => match E.ty el with
      | some ei => bif Nat.beq ei.size sz then
          match boundsA len cap lo hi mx with
          | some (l, u, some m) => bif Nat.beq m l then some (.sl o off 0 sz (some 0)) else some (.sl o (off + l * sz) (u - l) sz (some (m - l)))
          | some (l, u, none) => bif Nat.blt l len then some (.sl o (off + l * sz) (u - l) sz none) else some .emp
          | none => none
        else none
      | none => none
    | _ => none
  | .psl cs len cap => match E.ty t with
    | some { und := .slice el, .. } => match E.ty el with
      | some ei =>
          match boundsA len cap lo hi mx with
          | some (l, u, some m) => bif Nat.beq m l then some (.psl cs 0 (some 0)) else some (.psl (cs.drop (l * ei.size)) (u - l) (some (m - l)))
          | some (l, u, none) => bif Nat.blt l len then some (.psl (cs.drop (l * ei.size)) (u - l) none) else some .emp
          | none => none
      | none => none
    | _ => none
  | .ptr o off => match E.ty t with
    | some { und := .array n el, .. } => match E.ty el, h.get o with
      | some ei, some (.cells _ cs) => bif Nat.ble (off + n * ei.size) cs.length then
          match boundsA n (some n) lo hi mx with
          | some (l, u, some m) => bif Nat.beq m l then some (.sl o off 0 ei.size (some 0)) else some (.sl o (off + l * ei.size) (u - l) ei.size (some (m - l)))
          | _ => none
        else none
      | _, _ => none
    | _ => none
  | _ => none

def byteOf : AV → Option Nat
  | .int .u8 (.ofNat m) => bif Nat.blt m 256 then some m else none
  | _ => none
def bytesOf : List AV → Option (List Nat)
  | [] => some []
  | x :: xs => match byteOf x, bytesOf xs with
    | some b, some r => some (b :: r)
    | _, _ => none

def two (r : Option AH) : Option (AV × AH) := r.map fun h => (undefA, h)
def one (h : AH) (r : Option AV) : Option (AV × AH) := r.map fun v => (v, h)

def allocA (h : AH) (x : AO) : Option (AV × AH) :=
  match h.alloc x with
  | some (o, h') => some (.ptr o 0, h')
  | none => none

def appendA (el : TypeId) (ei : TI) (h : AH) (s : AV) (n : Nat) (new : List AV) : Option (AV × AH) :=
  let sz := ei.size
  bif Nat.beq n 0 then (match s with
    | .nils | .sl .. | .psl .. => some (s, h)
    | _ => none)
  else bif AV.allCell new && Nat.ble 1 sz && Nat.ble ei.bytes 4096 && Nat.ble n 16777216 then
    let grow (len : Nat) (old : List AV) (h : AH) : Option (AV × AH) :=
      bif AV.allCell old && Nat.ble len 16777216 then
        match h.alloc (.cells el (old ++ new)) with
        | some (o, h') => some (.sl o 0 (len + n) sz none, h')
        | none => none
      else none
    match s with
    | .nils => grow 0 [] h
    | .psl cs len (some c) => bif Nat.blt c (len + n) then match seg cs 0 (len * sz) with
        | some old => grow len old h
        | none => none
      else none
    | .sl o off len s' cap => bif Nat.beq s' sz then match h.get o with
        | some (.cells e cs) => match cap with
          | some c => bif Nat.blt c (len + n) then match seg cs off (len * sz) with
              | some old => grow len old h
              | none => none
            else match splice cs (off + len * sz) new with
              | some cs' => some (.sl o off (len + n) sz (some c), h.set o (some (.cells e cs')))
              | none => none
          | none => bif Nat.beq e el && Nat.beq (off % sz) 0 then match seg cs off (len * sz) with
              | some old => grow len old (h.set o none)
              | none => none
            else none
        | _ => none
      else none
    | _ => none
  else none

def copyA (ei : TI) (h : AH) (d : AV) (n : Nat) (new : List AV) : Option (AV × AH) :=
  match d with
  | .nils => some (.int .i64 0, h)
  | .sl o off len s _ =>
    let m := Nat.min n len
    bif Nat.beq s ei.size && AV.allCell (new.take (m * s)) then match h.get o with
      | some (.cells e cs) => match splice cs off (new.take (m * s)) with
        | some cs' => some (.int .i64 m, h.set o (some (.cells e cs')))
        | none => none
      | _ => none
    else none
  | _ => none

def clearA (ei : TI) (h : AH) (o off len s : Nat) : Option (AV × AH) :=
  bif Nat.beq len 0 then some (undefA, h) else bif Nat.beq s ei.size && AV.allCell ei.zero.cells then match h.get o with
    | some (.cells e cs) => match splice cs off (repl ei.zero.cells len) with
      | some cs' => some (undefA, h.set o (some (.cells e cs')))
      | none => none
    | _ => none
  else none

def deleteA (h : AH) (m k : AV) : Option (AV × AH) :=
  match m with
  | .nilm => some (undefA, h)
  | .map o => match h.get o with
    | some (.map es c) => match findEntry k es 0 with
      | some (some (i, _)) => some (undefA, h.set o (some (.map (es.eraseIdx i) c)))
      | some none => some (undefA, h)
      | none => none
    | _ => none
  | _ => none

def lenA (E : Env) (at' : Array TypeId) (h : AH) (x : AV) : Option Nat :=
  match at'[0]? with
  | none => none
  | some t => match E.ty t with
    | none => none
    | some i => match i.und, x with
      | .string, .str s => some s.length
      | .slice _, .nils | .slice _, .emp => some 0
      | .slice _, .sl _ _ len _ _ => some len
      | .slice _, .psl _ len _ => some len
      | .map _ _, .nilm => some 0
      | .map _ _, .map o => match h.get o with
        | some (.map es _) => some es.length
        | _ => none
      | .array n _, _ => some n
      | .pointer a, _ => match E.ty a with
        | some { und := .array n _, .. } => some n
        | _ => none
      | _, _ => none

def capA (E : Env) (at' : Array TypeId) (x : AV) : Option Nat :=
  match at'[0]? with
  | none => none
  | some t => match E.ty t with
    | none => none
    | some i => match i.und, x with
      | .slice _, .nils => some 0
      | .slice _, .sl _ _ _ _ (some c) => some c
      | .slice _, .psl _ _ (some c) => some c
      | _, _ => none

def builtinA (E : Env) (b : Builtin) (at' : Array TypeId) (_ty : TypeId) (args : List AV) (h : AH) : Option (AV × AH) :=
  match b, args with
  | .append, [s, x] => match at'[0]? with
    | some st => match E.ty st with
      | some { und := .slice el, .. } => match E.ty el with
        | some ei => match at'[1]? with
          | some xt => match E.ty xt with
            | some { und := .int _, .. } => none
            | some _ => match elemsOf h ei.size x with
              | some (n, new) => appendA el ei h s n new
              | none => none
            | none => none
          | none => none
        | none => none
      | _ => none
    | none => none
  | .len, [x] => (lenA E at' h x).map fun n => (.int .i64 n, h)
  | .cap, [x] => (capA E at' x).map fun n => (.int .i64 n, h)
  | .copy, [d, x] => match at'[0]? with
    | some st => match E.ty st with
      | some { und := .slice el, .. } => match E.ty el with
        | some ei => match elemsOf h ei.size x with
          | some (n, new) => copyA ei h d n new
          | none => none
        | none => none
      | _ => none
    | none => none
  | .clear, [x] => match x with
    | .sl o off len s _ => match at'[0]? with
      | some st => match E.ty st with
        | some { und := .slice el, .. } => match E.ty el with
          | some ei => clearA ei h o off len s
          | none => none
        | _ => none
      | none => none
    | _ => none
  | .delete, [m, k] => match at'[0]? with
    | some mt => match E.ty mt with
      | some { und := .map kt _, .. } => match E.ty kt with
        | some ki => bif plainKey ki.und k then deleteA h m k else none
        | none => none
      | _ => none
    | none => none
  | .max, [x, y] => match x, y with
    | .int k a, .int _ b => some (.int k (if b > a then b else a), h)
    | _, _ => none
  | .min, [x, y] => match x, y with
    | .int k a, .int _ b => some (.int k (if b < a then b else a), h)
    | _, _ => none
  | .unsafeSliceData, [x] => match x with
    | .nils => some (.nilp, h)
    | .sl o off len _ _ => bif Nat.blt 0 len then some (.ptr o off, h) else none
    | _ => none
  | .unsafeString, [p, n] => match asNat n with
    | some 0 => match at'[0]? with
      | some _ => (match p with
        | .ptr _ _ | .nilp => some (.str [], h)
        | _ => none)
      | none => none
    | some n => match p with
      | .ptr o off => match h.get o, at'[0]? with
        | some (.cells e cs), some pt => match E.ty pt with
          | some { und := .pointer u, .. } => match E.ty u with
            | some ui => bif Nat.beq e u && Nat.beq ui.size 1 && Nat.ble n 16777216 then match seg cs off n with
              | some r => match bytesOf r with
                | some s => some (.str s, h.set o none)
                | none => none
              | none => none
              else none
            | none => none
          | _ => none
        | _, _ => none
      | _ => none
    | none => none
  | _, _ => none

def isConstO : Operand → Bool
  | .const _ => true
  | _ => false


def convA (E : Env) (src dst : TypeId) (x : AV) (h : AH) : Option (AV × AH) :=
  match E.ty dst, E.ty src with
  | some d, some s => match d.und, x with
    | .int k, .int _ n => some (.int k (k.wrap n), h)
    | .string, .str b => some (.str b, h)
    | .string, x => match s.und with
      | .slice e => match E.ty e with
        | some { und := .int .u8, .. } => match elemsOf h 1 x with
          | some (_, cs) => match bytesOf cs with
            | some b => some (.str b, h)
            | none => none
          | none => none
        | _ => none
      | _ => none
    | .slice e, .str b => match E.ty e with
      | some { und := .int .u8, size := 1, .. } => match h.alloc (.cells e (b.map byteA)) with
        | some (o, h') => some (.sl o 0 b.length 1 none, h')
        | none => none
      | _ => none
    | .unsafePointer, .ptr o off => match s.und with
      | .pointer t => match E.ty t, h.get o with
        | some ti, some (.cells _ cs) => bif Nat.ble 1 ti.size && Nat.blt off cs.length then some (.ptr o off, h) else none
        | _, _ => none
      | _ => none
    | .pointer u, .ptr o off => match s.und with
      | .unsafePointer => match E.ty u, h.get o with
        | some ui, some (.cells e cs) => bif Nat.ble 1 ui.size && Nat.beq e u && Nat.beq (off % ui.size) 0 && Nat.ble (off + ui.size) cs.length then some (.ptr o off, h) else none
        | _, _ => none
      | _ => none
    | _, _ => none
  | _, _ => none

def structPlace (E : Env) (fields : Array Field) (j : Nat) : Option (Nat × Nat) :=
  match fields[j]? with
  | some f => some (f.offset, ((E.ty f.type).map (·.size)).getD 0)
  | none => none
def evParts (ev : Operand → AV) (ps : Array (Nat × Operand)) : List (Nat × AV) := ps.toList.map fun p => (p.1, ev p.2)

def opA (E : Env) (op : Op) (ev : Operand → AV) (h : AH) : Option (AV × AH) :=
  match op with
  | .move x | .assign x => some (ev x, h)
  | .pick c a b => match ev c with
    | .bool t => some (bif t then ev a else ev b, h)
    | _ => none
  | .alloc e => match E.ty e with
    | some i => allocA h (.cells e i.zero.cells)
    | none => none
  | .box e x => let xs := (ev x).cells; bif AV.allCell xs then allocA h (.cells e xs) else none
  | .build t ps => match E.ty t with
    | some i => match i.und with
      | .struct fields => bif fields.toList.all fun f => (E.ty f.type).isSome then (fillA (structPlace E fields) i.zero.cells (evParts ev ps)).map fun cs => (.agg cs, h) else none
      | .array _ el => match E.ty el with
        | some ei => (fillA (fun j => some (j * ei.size, ei.size)) i.zero.cells (evParts ev ps)).map fun cs => (.agg cs, h)
        | none => none
      | _ => none
    | none => none
  | .buildSlice t len ps => match E.ty t with
    | some { und := .slice el, .. } => match E.ty el with
      | some ei => match fillA (fun j => some (j * ei.size, ei.size)) (repl ei.zero.cells len) (evParts ev ps) with
        | some cs => bif AV.allCell cs && Nat.ble (len * ei.size) 65536 then match h.alloc (.cells el cs) with
            | some (o, h') => some (.sl o 0 len ei.size (some len), h')
            | none => none
          else none
        | none => none
      | none => none
    | _ => none
  | .load t a => match E.ty t with
    | some i => one h (loadA i h (ev a))
    | none => none
  | .store t a x => match E.ty t with
    | some i => two (storeA i h (ev a) (ev x))
    | none => none
  | .nilCheck x => match ev x with
    | .ptr o off => some (.ptr o off, h)
    | .pptr cs off => some (.pptr cs off, h)
    | .iface t v => some (.iface t v, h)
    | .func (.func f) a b => some (.func (.func f) a b, h)
    | _ => none
  | .binOp op t x y _ => match ev x, ev y with
    | .nili, .nili => bif isConstO x || isConstO y then (match E.ty t with
        | some { und := .interface _, .. } => (match op with
          | .eql => some (.bool true, h)
          | .neq => some (.bool false, h)
          | _ => none)
        | _ => none) else none
    | a, b => one h (binA E op t a b)
  | .unOp op _ x => one h (unA op (ev x))
  | .convert s d x => convA E s d (ev x) h
  | .makeInterface t x => match E.ty t with
    | some i => (match i.und with
      | .interface _ => none
      | _ => some (.iface t (ev x), h))
    | none => none
  | .makeFunc fn first cap => match fn with
    | .yield _ => none
    | _ => some (.func fn (first.toList.map ev) (cap.toList.map ev), h)
  | .makeMap t r => match E.ty t with
    | some { und := .map _ _, .. } => (match r with
      | none => match h.alloc (.map [] 0) with
        | some (o, h') => some (.map o, h')
        | none => none
      | some _ => none)
    | _ => none
  | .makeSlice t l c => match E.ty t with
    | some { und := .slice el, .. } => match E.ty el with
      | some ei => match asNat (ev l), asNat (ev c) with
        | some l, some c => bif Nat.ble l c && Nat.ble c 1048576 && Nat.ble ei.bytes 4096 && AV.allCell ei.zero.cells then match h.alloc (.cells el (repl ei.zero.cells c)) with
            | some (o, h') => some (.sl o 0 l ei.size (some c), h')
            | none => none
          else none
        | _, _ => none
      | none => none
    | _ => none
  | .slice t x lo hi mx => one h (sliceA E t (ev x) (lo.map ev) (hi.map ev) (mx.map ev) h)
  | .fieldAddr s x f => match E.ty s with
    | some { und := .struct fields, .. } => match fields[f]? with
      | some fl => match E.ty fl.type with
        | some fi => bif Nat.ble 1 fi.size then (match ev x with
          | .ptr o off => some (.ptr o (off + fl.offset), h)
          | .pptr cs off => some (.pptr cs (off + fl.offset), h)
          | _ => none) else none
        | none => none
      | none => none
    | _ => none
  | .field t x f => match E.ty t with
    | some { und := .struct fields, .. } => match fields[f]?, ev x with
      | some fl, .agg cs => one h (partA E fl.type cs fl.offset)
      | _, _ => none
    | _ => none
  | .indexAddr t x ix => match E.ty t, asNat (ev ix) with
    | some ti, some i => match ti.und, ev x with
      | .slice el, .sl o off len sz _ => match E.ty el with
        | some ei => bif Nat.blt i len && Nat.beq ei.size sz then some (.ptr o (off + i * sz), h) else none
        | none => none
      | .slice el, .psl cs len _ => match E.ty el with
        | some ei => bif Nat.blt i len then some (.pptr cs (i * ei.size), h) else none
        | none => none
      | .array n el, .ptr o off => match E.ty el with
        | some ei => bif Nat.blt i n then some (.ptr o (off + i * ei.size), h) else none
        | none => none
      | .array n el, .pptr cs off => match E.ty el with
        | some ei => bif Nat.blt i n then some (.pptr cs (off + i * ei.size), h) else none
        | none => none
      | _, _ => none
    | _, _ => none
  | .index t x ix => match E.ty t, asNat (ev ix) with
    | some ti, some i => match ti.und, ev x with
      | .string, .str s => (s[i]?).map fun c => (.int .u8 c, h)
      | .array n el, .agg cs => match E.ty el with
        | some ei => bif Nat.blt i n then one h (partA E el cs (i * ei.size)) else none
        | none => none
      | _, _ => none
    | _, _ => none
  | .lookup t x ix ok => match E.ty t with
    | some { und := .map kt et, .. } => match E.ty kt, E.ty et with
      | some ki, some ei => bif plainKey ki.und (ev ix) then
          let fin (v : AV) (b : Bool) : Option (AV × AH) := some (bif ok then .tup [v, .bool b] else v, h)
          match ev x with
          | .nilm => fin ei.zero false
          | .map o => match h.get o with
            | some (.map es _) => match findEntry (ev ix) es 0 with
              | some (some (_, v)) => fin v true
              | some none => fin ei.zero false
              | none => none
            | _ => none
          | _ => none
        else none
      | _, _ => none
    | _ => none
  | .mapUpdate t m k x | .insert t m k x => match E.ty t with
    | some { und := .map kt _, .. } => match E.ty kt with
      | some ki => bif plainKey ki.und (ev k) then match ev m with
          | .map o => match h.get o with
            | some (.map es c) => match findEntry (ev k) es 0 with
              | some (some (i, _)) => some (undefA, h.set o (some (.map (es.modify i fun (_, _, n) => (ev k, ev x, n)) c)))
              | some none => some (undefA, h.set o (some (.map (es ++ [(ev k, ev x, c)]) (c + 1))))
              | none => none
            | _ => none
          | _ => none
        else none
      | none => none
    | _ => none
  | .range t x => match E.ty t, ev x with
    | some { und := .string, .. }, .str s => allocA h (.siter s 0)
    | _, _ => none
  | .next it true => match ev it with
    | .ptr o 0 => match h.get o with
      | some (.siter s pos) => bif Nat.blt pos s.length then match s[pos]? with
          | some c => bif Nat.blt c 128 then some (.tup [.bool true, .int .i64 pos, .int .i32 c], h.set o (some (.siter s (pos + 1)))) else none
          | none => none
        else some (.tup [.bool false], h)
      | _ => none
    | _ => none
  | .typeAssert x _ as' ok => match E.ty as' with
    | some ai => 
      let holds (v : AV) : Option (AV × AH) := some (bif ok then .tup [v, .bool true] else v, h)
      let fails : Option (AV × AH) := bif ok then some (.tup [ai.zero, .bool false], h) else none
      match ai.und, ev x with
      | .interface _, .nili => fails
      | .interface _, .iface t v => match E.impl t as' with
        | some true => holds (.iface t v)
        | some false => fails
        | none => none
      | _, .nili => fails
      | _, .iface t v => bif Nat.beq t as' then holds v else fails
      | _, _ => none
    | none => none
  | .extract t i => match ev t with
    | .tup vs => (vs[i]?).map fun v => (v, h)
    | _ => none
  | _ => none

end Go.Ab

namespace Go.Ab
open Go

inductive AMode where
  | ret
  | pan (chain : List (AV × Bool))
  deriving Inhabited
inductive RC where
  | no
  | can (v : AV)
  | used
  deriving Inhabited
inductive ARes where
  | ret (v : AV)
  | pan (chain : List (AV × Bool))
  deriving Inhabited
structure Ctx where
  fn : FuncId
  n : Nat
  kind : CallKind
  round : Option Nat
  deriving Inhabited
inductive Cmd where
  | run (c : Ctx) (tmps : T AV) (todo : List Item) (defs : List AD)
  | unw (c : Ctx) (m : AMode) (tmps : T AV) (defs : List AD)
  | call (fv : AV) (args : List AV) (kind : CallKind)
  deriving Inhabited

def putArgs : Nat → List AV → T AV → T AV
  | _, [], t => t
  | i, x :: xs, t => putArgs (i + 1) xs (T.put deepF t i (some x))

def putParams : List Nat → List AV → T AV → T AV
  | p :: ps, a :: as', t => putParams ps as' (T.put deepF t p (some a))
  | _, _, t => t

def resultsA (E : Env) (h : AH) (tmps : T AV) : List ResultVar → Option (List AV)
  | [] => some []
  | .tmp t :: r => match resultsA E h tmps r with
    | some vs => some ((T.get deepF tmps t).getD undefA :: vs)
    | none => none
  | .cell a t :: r => match E.ty t with
    | some i => match loadA i h ((T.get deepF tmps a).getD undefA), resultsA E h tmps r with
      | some v, some vs => some (v :: vs)
      | _, _ => none
    | none => none

def oneRes : List AV → AV
  | [v] => v
  | vs => .tup vs

/-- Whether an operation's guard lets it be done; none: it can't be told. -/
def wantedA (ops : Array Oper) (o : Oper) (tmps : T AV) : Option Bool :=
  match o.guard with
  | none => some true
  | some (j, want) => match (ops[j]?).bind (·.dst) with
    | some d => match T.get deepF tmps d with
      | some (.bool b) => some (b == want)
      | some (.tup []) => some false
      | none => some false
      | _ => none
    | none => some false

def setDst (n : Nat) (dst : Option Nat) (v : AV) (tmps : T AV) : Option (T AV) :=
  match dst with
  | none => some tmps
  | some d => bif Nat.blt d n && Nat.blt d limF then some (T.put deepF tmps d (some v)) else none

/-- What an operation asks for. -/
inductive Ask where
  | val (v : AV) (h : AH)
  | call (fv : AV) (args : List AV)
  | defer (d : AD)
  | recover
  | panic (v : AV)

def askA (E : Env) (o : Oper) (ev : Operand → AV) (h : AH) : Option Ask :=
  match o.op with
  | .call c => match c.callee with
    | .builtin .recover => some .recover
    | .builtin .panic => match c.args.toList with
      | [x] => match ev x with
        | .iface t v => some (.panic (.iface t v))
        | _ => none
      | _ => none
    | .builtin b => match builtinA E b c.argTypes o.type (c.args.toList.map ev) h with
      | some (v, h') => some (.val v h')
      | none => none
    | .invoke r name => some (.call (.func (.method name) [] []) (ev r :: c.args.toList.map ev))
    | .value f => match ev f with
      | .func fn a b => some (.call (.func fn a b) (c.args.toList.map ev))
      | _ => none
  | .defer c => match c.callee with
    | .builtin _ => none
    | .invoke r name => some (.defer (.call (.func (.method name) [] []) (ev r :: c.args.toList.map ev)))
    | .value f => match ev f with
      | .func fn a b => some (.defer (.call (.func fn a b) (c.args.toList.map ev)))
      | _ => none
  | .panic x => match ev x with
    | .iface t v => some (.panic (.iface t v))
    | _ => none
  | op => match opA E op ev h with
    | some (v, h') => some (.val v h')
    | none => none

def lastTrue : List (AV × Bool) → Option AV
  | (v, false) :: _ => some v
  | _ => none

def settle (m : AMode) (rc : RC) : AMode :=
  match rc with
  | .used => .ret
  | _ => m

def rcOf : AMode → RC
  | .ret => .no
  | .pan chain => match lastTrue chain with
    | some v => .can v
    | none => .no

/-! A statement whose order is open: run in the order of the text, and held against every other order. -/

mutual
def eqv : AV → AV → Bool
  | .bool a, .bool b => a == b
  | .int k a, .int k' b => decide (k = k') && decide (a = b)
  | .str a, .str b => bytesEqA a b
  | .nilp, .nilp => true
  | .ptr o a, .ptr o' b => Nat.beq o o' && Nat.beq a b
  | .pptr c a, .pptr c' b => Nat.beq a b && eqvs c c'
  | .nils, .nils => true
  | .sl o a l z c, .sl o' a' l' z' c' => Nat.beq o o' && Nat.beq a a' && Nat.beq l l' && Nat.beq z z' && decide (c = c')
  | .psl c l p, .psl c' l' p' => Nat.beq l l' && decide (p = p') && eqvs c c'
  | .emp, .emp => true
  | .nilm, .nilm => true
  | .map o, .map o' => Nat.beq o o'
  | .func f a b, .func f' a' b' => decide (f = f') && eqvs a a' && eqvs b b'
  | .nilf, .nilf => true
  | .iface t v, .iface t' v' => Nat.beq t t' && eqv v v'
  | .nili, .nili => true
  | .agg a, .agg b => eqvs a b
  | .tup a, .tup b => eqvs a b
  | .sel i, .sel j => Nat.beq i j
  | .stok i, .stok j => Nat.beq i j
  | .tok i, .tok j => Nat.beq i j
  | .one a, .one b => eqvs a b
  | _, _ => false
def eqvs : List AV → List AV → Bool
  | [], [] => true
  | a :: as', b :: bs => eqv a b && eqvs as' bs
  | _, _ => false
end

inductive DK where
  | f | a | e | no

def builtinK : Builtin → DK
  | .len | .cap | .max | .min | .unsafeSliceData => .f
  | .append | .copy | .delete | .clear | .unsafeString => .e
  | _ => .no

def kindOf (E : Env) : Op → DK
  | .move _ | .assign _ | .pick .. | .build .. | .load .. | .nilCheck _ | .binOp .. | .unOp .. | .makeInterface .. | .makeFunc .. | .slice .. | .fieldAddr .. | .field .. | .indexAddr .. | .index .. | .lookup .. | .typeAssert .. | .extract .. => .f
  | .convert _ d _ => match E.ty d with
    | some { und := .slice _, .. } => .no
    | _ => .f
  | .alloc _ | .box .. | .buildSlice .. | .makeSlice .. | .makeMap .. => .a
  | .store .. | .mapUpdate .. => .e
  | .call c => match c.callee with
    | .builtin b => builtinK b
    | _ => .e
  | _ => .no

/-- What a new object is, and the value that names it. -/
def allocOf (E : Env) (op : Op) (ev : Operand → AV) : Option (AO × (Nat → AV)) :=
  match op with
  | .alloc e => match E.ty e with
    | some i => some (.cells e i.zero.cells, fun o => .ptr o 0)
    | none => none
  | .box e x => let xs := (ev x).cells; bif AV.allCell xs then some (.cells e xs, fun o => .ptr o 0) else none
  | .buildSlice t len ps => match E.ty t with
    | some { und := .slice el, .. } => match E.ty el with
      | some ei => match fillA (fun j => some (j * ei.size, ei.size)) (repl ei.zero.cells len) (evParts ev ps) with
        | some cs => bif AV.allCell cs && Nat.ble (len * ei.size) 65536 then some (.cells el cs, fun o => .sl o 0 len ei.size (some len)) else none
        | none => none
      | none => none
    | _ => none
  | .makeSlice t l c => match E.ty t with
    | some { und := .slice el, .. } => match E.ty el with
      | some ei => match asNat (ev l), asNat (ev c) with
        | some l, some c => bif Nat.ble l c && Nat.ble c 1048576 && Nat.ble ei.bytes 4096 && AV.allCell ei.zero.cells then some (.cells el (repl ei.zero.cells c), fun o => .sl o 0 l ei.size (some c)) else none
        | _, _ => none
      | none => none
    | _ => none
  | .makeMap t none => match E.ty t with
    | some { und := .map _ _, .. } => some (.map [] 0, fun o => .map o)
    | _ => none
  | _ => none

/-- What an operation reads as that changes nothing. -/
def readA (E : Env) (o : Oper) (tmps : T AV) (h : AH) : Option AV :=
  match kindOf E o.op with
  | .f => match askA E o (aeval E tmps) h with
    | some (.val v _) => some v
    | _ => none
  | _ => none

structure DSt where
  tmps : T AV
  h : AH
  rd : AH                            -- what may be read
  pend : List (Nat × Nat × AO)       -- allocations that are not laid: the operation's place, the object's name, the object
  old : List (Nat × AH)              -- the operations that write, the last one first, each with the heap before it
  pan : Option (Nat × List (AV × Bool))  -- the operation that panicked
  log : List (Nat × T AV)            -- the operations done, each with what it found

def bitOf (bs : Array Nat) (i j : Nat) : Bool := (bs.getD i 0).testBit j

def AH.lay (h : AH) : List (Nat × Nat × AO) → AH
  | [] => h
  | (_, o, x) :: r => AH.lay (h.set o (some x)) r

def deadIn (bs : Array Nat) (pan : Option (Nat × List (AV × Bool))) (i : Nat) : Bool :=
  match pan with
  | some (e, _) => bitOf bs i e
  | none => false

/-- The operations in the order of the text. -/
def drawGo (E : Env) (callf : AV → List AV → AH → Option (ARes × AH × RC)) (cn : Nat) (ops : Array Oper) (bs : Array Nat) (base : Nat) : List Nat → DSt → Option DSt
  | [], s => some s
  | i :: rest, s => bif deadIn bs s.pan i then drawGo E callf cn ops bs base rest s else match ops[i]? with
    | none => none
    | some o => match wantedA ops o s.tmps with
      | none => none
      | some false => match setDst cn o.dst undefA s.tmps with
        | some t => drawGo E callf cn ops bs base rest { s with log := (i, s.tmps) :: s.log, tmps := t }
        | none => none
      | some true => match kindOf E o.op with
        | .no => none
        | .f => match readA E o s.tmps s.rd with
          | none => none
          | some v => match setDst cn o.dst v s.tmps with
              | some t => drawGo E callf cn ops bs base rest { s with log := (i, s.tmps) :: s.log, tmps := t }
              | none => none
        | .a => match allocOf E o.op (aeval E s.tmps) with
          | none => none
          | some (x, f) => match setDst cn o.dst (f (base + i)) s.tmps with
            | some t => drawGo E callf cn ops bs base rest { s with log := (i, s.tmps) :: s.log, tmps := t, pend := (i, base + i, x) :: s.pend }
            | none => none
        | .e =>
          bif s.pan.isNone && s.old.all fun p => bitOf bs i p.1 then
            let due := s.pend.filter fun p => bitOf bs i p.1
            let left := s.pend.filter fun p => !bitOf bs i p.1
            let h := AH.lay s.h due
            match askA E o (aeval E s.tmps) h with
            | some (.val v h') => match setDst cn o.dst v s.tmps with
              | some t => drawGo E callf cn ops bs base rest { s with log := (i, s.tmps) :: s.log, tmps := t, h := h', rd := h', pend := left, old := (i, s.h) :: s.old }
              | none => none
            | some (.call fv args) => match callf fv args h with
              | some (.ret v, h', _) => match setDst cn o.dst v s.tmps with
                | some t => drawGo E callf cn ops bs base rest { s with log := (i, s.tmps) :: s.log, tmps := t, h := h', rd := h', pend := left, old := (i, s.h) :: s.old }
                | none => none
              | some (.pan ch, h', _) => drawGo E callf cn ops bs base rest { s with log := (i, s.tmps) :: s.log, h := h', pend := left, old := (i, s.h) :: s.old, pan := some (i, ch) }
              | none => none
            | _ => none
          else none

/-- What an operation looks at. -/
def looksA (ops : Array Oper) (o : Oper) : List Nat :=
  (match o.guard with
    | some (j, _) => ((ops[j]?).bind (·.dst)).toList
    | none => []) ++ (o.op.operands.toList.filterMap fun | .tmp t => some t | _ => none)

/-- Whoever looks at what another one writes comes behind it, or ahead of it; no two write one place. -/
def apartOk (ops : Array Oper) (bs : Array Nat) : Bool :=
  (List.range ops.size).all fun j => match ops[j]? with
    | some q => (q.after.all fun e => !Region.binds .any e || Nat.blt e.on j) && match q.dst with
      | some t => (List.range ops.size).all fun i => match ops[i]? with
        | some o => (!(looksA ops o).contains t || bif Nat.blt j i then bitOf bs i j else Nat.beq i j || bitOf bs j i) && (Nat.beq i j || !decide (o.dst = some t))
        | none => true
      | none => true
    | none => true

def dstIs (T' : T AV) (dst : Option Nat) (v : AV) : Bool :=
  match dst with
  | none => true
  | some d => match T.get deepF T' d with
    | some u => eqv v u
    | none => false

def readIs (E : Env) (o : Oper) (tmps T' : T AV) : Option AH → Bool
  | none => true
  | some h => match readA E o tmps h with
    | some v => dstIs T' o.dst v
    | none => false

def stageOk (E : Env) (bs : Array Nat) (i : Nat) (o : Oper) (tmps T' : T AV) (pre suf : List Nat) (h : Option AH) : Bool :=
  pre.any (fun e => bitOf bs e i) || (suf.any (fun e => bitOf bs i e) || readIs E o tmps T' h)

def stagesOk (E : Env) (bs : Array Nat) (i : Nat) (o : Oper) (tmps T' : T AV) (hend : Option AH) : List Nat → List (Nat × AH) → Bool
  | pre, [] => stageOk E bs i o tmps T' pre [] hend
  | pre, (e, h) :: r => stageOk E bs i o tmps T' pre (e :: r.map (·.1)) (some h) && stagesOk E bs i o tmps T' hend (e :: pre) r

/-- The operation does the same wherever the drawn order puts it. -/
def operOk (E : Env) (ops : Array Oper) (bs : Array Nat) (base : Nat) (T' : T AV) (hend : Option AH) (st : List (Nat × AH)) (i : Nat) (tmps : T AV) : Bool :=
  match ops[i]? with
    | none => false
    | some o => match wantedA ops o tmps with
      | none => false
      | some false => dstIs T' o.dst undefA
      | some true => match kindOf E o.op with
        | .no => false
        | .f => stagesOk E bs i o tmps T' hend [] st
        | .a => match allocOf E o.op (aeval E tmps) with
          | some (_, f) => dstIs T' o.dst (f (base + i))
          | none => false
        | .e => st.any fun p => Nat.beq p.1 i

def forget (ops : List Oper) (t : T AV) : T AV := ops.foldl (fun t o => match o.dst with | some d => bif Nat.blt d limF then T.put deepF t d (some .any) else t | none => t) t

def drawRun (E : Env) (callf : AV → List AV → AH → Option (ARes × AH × RC)) (cn : Nat) (ops : Array Oper) (tmps : T AV) (h : AH) : Option (T AV × AH × Option (List (AV × Bool))) :=
  let bs := Region.before ops
  let h0 : AH := ⟨h.m, h.next + ops.size⟩
  bif apartOk ops bs && Nat.blt (h.next + ops.size) limH then
    match drawGo E callf cn ops bs h.next (List.range ops.size) ⟨tmps, h0, h0, [], [], none, []⟩ with
    | some s =>
      let hend := match s.pan with | some _ => none | none => some s.h
      bif s.log.all (fun p => operOk E ops bs h.next s.tmps hend s.old.reverse p.1 p.2) then
        match s.pan with
        | none => some (s.tmps, AH.lay s.h s.pend, none)
        | some (_, ch) => some (forget ops.toList tmps, s.h, some ch)
      else none
    | none => none
  else none

def primA (E : Env) (f : FuncId) (kind : CallKind) (args : List AV) (h : AH) : Option (AV × AH) :=
  match E.prim f with
  | some p => match kind with
    | .normal => p args h
    | _ => none
  | none => none

def ev (E : Env) : Nat → Cmd → AH → RC → Option (ARes × AH × RC)
  | 0, _, _, _ => none
  | n + 1, .run c tmps todo defs, h, rc =>
    let leave (jump : Option Code) : Option (ARes × AH × RC) :=
      match c.round with
      | none => match jump with
        | none | some .ret => ev E n (.unw c .ret tmps defs) h rc
        | _ => none
      | some l => match defs with
        | [] => match h.get l with
          | some (.loop _ _ fn k ts ps as' bd d) =>
            some (.ret (.bool jump.isNone), h.set l (some (.loop (match jump with | none => .ready | some _ => .done) jump fn k ts ps as' bd d)), rc)
          | _ => none
        | _ => none
    match todo with
    | [] => leave none
    | .code .ret :: _ => leave (some .ret)
    | .code .skip :: k | .code (.label _) :: k | .inBlock _ :: k | .inScope _ :: k => ev E n (.run c tmps k defs) h rc
    | .code (.seq a b) :: k => ev E n (.run c tmps (.code a :: .code b :: k) defs) h rc
    | .code (.cond x a b) :: k => match aeval E tmps x with
      | .bool t => ev E n (.run c tmps (.code (bif t then a else b) :: k) defs) h rc
      | _ => none
    | .code (.block id body) :: k => ev E n (.run c tmps (.code body :: .inBlock id :: k) defs) h rc
    | .code (.loop body) :: k | .inLoop body :: k => ev E n (.run c tmps (.code body :: .inLoop body :: k) defs) h rc
    | .code (.scope body) :: k => ev E n (.run c tmps (.code body :: .inScope body :: k) defs) h rc
    | .code (.exit id) :: k => match exitTo id k with
      | some k' => ev E n (.run c tmps k' defs) h rc
      | none => leave (some (.exit id))
    | .code (.goto l) :: k => match gotoIn l k with
      | some k' => ev E n (.run c tmps k' defs) h rc
      | none => leave (some (.goto l))
    | .code (.region _ ops false) :: k => ev E n (.run c tmps (.inRegion ops (List.range ops.size) :: k) defs) h rc
    | .code (.region _ ops true) :: k => match drawRun E (fun fv args h => ev E n (.call fv args .normal) h .no) c.n ops tmps h with
      | some (tmps', h', none) => ev E n (.run c tmps' k defs) h' rc
      | some (tmps', h', some ch) => ev E n (.unw c (.pan ch) tmps' defs) h' rc
      | none => none
    | .inRegion _ [] :: k => ev E n (.run c tmps k defs) h rc
    | .inRegion ops (i :: rest) :: k => match ops[i]? with
      | none => none
      | some o => match wantedA ops o tmps with
        | none => none
        | some false => match setDst c.n o.dst undefA tmps with
          | some tmps' => ev E n (.run c tmps' (.inRegion ops rest :: k) defs) h rc
          | none => none
        | some true => match askA E o (aeval E tmps) h with
          | some (.val v h') => match setDst c.n o.dst v tmps with
            | some tmps' => ev E n (.run c tmps' (.inRegion ops rest :: k) defs) h' rc
            | none => none
          | some (.call fv args) => match ev E n (.call fv args .normal) h .no with
            | some (.ret v, h', _) => match setDst c.n o.dst v tmps with
              | some tmps' => ev E n (.run c tmps' (.inRegion ops rest :: k) defs) h' rc
              | none => none
            | some (.pan ch, h', _) => ev E n (.unw c (.pan ch) tmps defs) h' rc
            | none => none
          | some (.defer d) => match c.round, setDst c.n o.dst undefA tmps with
            | none, some tmps' => ev E n (.run c tmps' (.inRegion ops rest :: k) (d :: defs)) h rc
            | _, _ => none
          | some .recover => match c.round with
            | some _ => none
            | none => match rc with
              | .can v => match setDst c.n o.dst v tmps with
                | some tmps' => ev E n (.run c tmps' (.inRegion ops rest :: k) defs) h .used
                | none => none
              | rc => match setDst c.n o.dst .nili tmps with
                | some tmps' => ev E n (.run c tmps' (.inRegion ops rest :: k) defs) h rc
                | none => none
          | some (.panic v) => ev E n (.unw c (.pan [(v, false)]) tmps defs) h rc
          | none => none
    | .code (.rangeFunc f ps as' bd) :: k =>
      match (match c.round with
        | none => match h.alloc (.dfr true) with
          | some (o, h') => some (o, [AD.mark o], h')
          | none => none
        | some l => match h.get l with
          | some (.loop _ _ _ _ _ _ _ _ d) => some (d, [], h)
          | _ => none) with
      | none => none
      | some (d, mark, h1) => match h1.alloc (.loop .ready none c.fn c.n tmps ps.toList as' bd d) with
        | none => none
        | some (l, h2) => match ev E n (.call (aeval E tmps f) [.func (.yield l) [] []] .normal) h2 .no with
          | some (.ret _, h3, _) => ev E n (.run c tmps (.endRangeFunc l :: k) (mark ++ defs)) h3 rc
          | some (.pan ch, h3, _) => ev E n (.unw c (.pan ch) tmps (mark ++ defs)) h3 rc
          | none => none
    | .endRangeFunc l :: k => match h.get l with
      | some (.loop st pend fn m ts ps as' bd d) => match st with
        | .busy => none
        | _ => ev E n (.run c tmps (match pend with | some j => .code j :: k | none => k) defs) (h.set l (some (.loop .exhausted pend fn m ts ps as' bd d))) rc
      | _ => none
    | .beginRound :: k => match c.round with
      | some l => match h.get l with
        | some (.loop .ready pend fn m ts ps as' bd d) => ev E n (.run c tmps k defs) (h.set l (some (.loop .busy pend fn m ts ps as' bd d))) rc
        | _ => none
      | none => none
    | _ => none
  | n + 1, .unw c m tmps defs, h, rc => match c.round with
    | some _ => match m, defs, E.fn c.fn with
      | .pan ch, [], some _ => some (.pan ch, h, rc)
      | _, _, _ => none
    | none => match defs with
      | [] => match m with
        | .ret => match E.fn c.fn with
          | some F => match resultsA E h tmps F.results.toList with
            | some vs => some (.ret (oneRes vs), h, rc)
            | none => none
          | none => none
        | .pan ch => match E.fn c.fn with
          | some _ => some (.pan ch, h, rc)
          | none => none
      | .mark o :: ds => match h.get o with
        | some (.dfr true) => ev E n (.unw c m tmps ds) (h.set o (some (.dfr false))) rc
        | _ => none
      | .call fv args :: ds => match ev E n (.call fv args .deferred) h (rcOf m) with
        | some (.ret _, h', rc') => ev E n (.unw c (settle m rc') tmps ds) h' rc
        | some (.pan _, _, _) => none
        | none => none
  | n + 1, .call fv args kind, h, rc =>
    let enter (f : FuncId) (args : List AV) : Option (ARes × AH × RC) :=
      match primA E f kind args h with
      | some (v, h') => some (.ret v, h', rc)
      | none => match E.fn f with
        | some F => match F.body with
          | some b => bif Nat.ble args.length F.ntmps && Nat.blt F.ntmps limF then ev E n (.run ⟨f, F.ntmps, kind, none⟩ (putArgs 0 args .e) [.code b] []) h rc else none
          | none => none
        | none => none
    match fv with
    | .func (.func f) first cap => enter f (first ++ (args ++ cap))
    | .func (.method name) first _ => match first ++ args with
      | .iface t v :: rest => match E.meth t name with
        | some f => enter f (v :: rest)
        | none => none
      | _ => none
    | .func (.yield l) _ _ => match kind with
      | .normal => match h.get l with
        | some (.loop _ _ fn m ts ps as' bd _) => bif Nat.beq args.length ps.length && ps.all (fun p => Nat.blt p m && Nat.blt p limF) then ev E n (.run ⟨fn, m, .normal, some l⟩ (putParams ps args ts) [.code as', .beginRound, .code bd] []) h rc else none
        | _ => none
      | _ => none
    | _ => none

end Go.Ab

namespace Go.Ab
open Go

structure TyOk (P : Program) (t : TypeId) (i : TI) : Prop where
  und : P.underlying t = some i.und
  info : ∃ inf z, P.info? t = some inf ∧ inf.size = i.size ∧ inf.bytes = i.bytes ∧ inf.zero = some z ∧ (∀ k w, VR k w i.zero z) ∧ z.cells.size = i.size
  agg : i.agg = (match i.und with | .struct _ | .array _ _ => true | _ => false)
  zero : AV.allCell i.zero.cells = true

structure EnvOk (P : Program) (E : Env) : Prop where
  ty : ∀ t i, E.ty t = some i → TyOk P t i
  fn : ∀ f F, E.fn f = some F → P.funcs[f]? = some F ∧ F.name ≠ "runtime.NumGoroutine"
  meth : ∀ t name f, E.meth t name = some f → ∀ v w, (method (P.types.size + Made.depth) t v name).run P w = .ok (f, v) w
  impl : ∀ t a b, E.impl t a = some b → ∃ want inf, P.underlying a = some (.interface want) ∧ P.info? t = some inf ∧ (Instr.missingMethod want inf.methods).isNone = b
  eqt : ∀ t ds, E.eqt t = some ds → ∀ (w : World) (xs ys : Array Value) (k : K) (as bs : List AV) (r : Bool), VRL k w as xs.toList → VRL k w bs ys.toList → as.length = ds.length → bs.length = ds.length → cellsEq ds as bs = some r →
    P.eqGuardType P.depth t = false ∧ (Op.equal t (.agg xs) (.agg ys)).run P w = .ok r w
  mixed : P.follows .mixedOrders = true

def GlobOk (E : Env) (k : K) (w : World) : Prop := ∀ g cells, E.glob g = some cells → k.fz g ∧ VRC k w g cells 0

theorem GlobOk.mono {E : Env} {k k' : K} {w w' : World} (h : Le k k' w w') (g : GlobOk E k w) : GlobOk E k' w' :=
  fun x cells hc => ⟨h.fz _ (g x cells hc).1, VRC.mono h _ (g x cells hc).1 _ _ (g x cells hc).2⟩

theorem run_und {P : Program} {E : Env} (hE : EnvOk P E) {t : TypeId} {i : TI} (h : E.ty t = some i) (w : World) : (underlying t).run P w = .ok i.und w :=
  run_underlying (hE.ty t i h).und w

theorem run_size {P : Program} {E : Env} (hE : EnvOk P E) {t : TypeId} {i : TI} (h : E.ty t = some i) (w : World) : (sizeOf t).run P w = .ok i.size w := by
  obtain ⟨inf, z, h1, h2, _⟩ := (hE.ty t i h).info
  simp [sizeOf, typeInfo, h1, h2]

theorem run_bytes {P : Program} {E : Env} (hE : EnvOk P E) {t : TypeId} {i : TI} (h : E.ty t = some i) (w : World) : ∃ inf : TypeInfo, (typeInfo t).run P w = .ok inf w ∧ inf.bytes = i.bytes ∧ inf.size = i.size := by
  obtain ⟨inf, z, h1, h2, h3, _⟩ := (hE.ty t i h).info
  exact ⟨inf, by simp [typeInfo, h1], h3, h2⟩

theorem run_agg {P : Program} {E : Env} (hE : EnvOk P E) {t : TypeId} {i : TI} (h : E.ty t = some i) (w : World) : (isAgg t).run P w = .ok i.agg w := by
  have hu := run_und hE h w
  have ha := (hE.ty t i h).agg
  simp only [isAgg, Sem.run_bind, hu, Result.andThen_ok]
  rw [ha]
  cases i.und <;> rfl

theorem run_zero {P : Program} {E : Env} (hE : EnvOk P E) {t : TypeId} {i : TI} (h : E.ty t = some i) (w : World) :
    ∃ z, (zeroValue t).run P w = .ok z w ∧ (∀ k w, VR k w i.zero z) ∧ z.cells.size = i.size := by
  obtain ⟨inf, z, h1, h2, h3, h4, h5, h6⟩ := (hE.ty t i h).info
  exact ⟨z, by simp [zeroValue, typeInfo, h1, h4], h5, h6⟩

theorem VRL.choose {k : K} {w : World} : ∀ {cs : List AV} (Q : Nat → Value → Prop), (∀ (j : Nat) (x : AV), cs[j]? = some x → ∃ v, Q j v ∧ VR k w x v) →
    ∃ vs, VRL k w cs vs ∧ ∀ (j : Nat) (v : Value), vs[j]? = some v → Q j v
  | [], _, _ => ⟨[], by simp only [VRL], fun j v h => by simp at h⟩
  | x :: xs, Q, h => by
    obtain ⟨v, h1, h2⟩ := h 0 x (by simp)
    obtain ⟨vs, h3, h4⟩ := VRL.choose (cs := xs) (fun j v => Q (j + 1) v) (fun j y hy => h (j + 1) y (by simpa using hy))
    refine ⟨v :: vs, ?_, fun j u hu => ?_⟩
    · simp only [VRL]; exact ⟨v, vs, rfl, h2, h3⟩
    · cases j with
      | zero => simp at hu; subst hu; exact h1
      | succ j => exact h4 j u (by simpa using hu)

theorem seg_get {cs r : List AV} {off n : Nat} (h : seg cs off n = some r) : r.length = n ∧ ∀ (j : Nat) (x : AV), r[j]? = some x → cs[off + j]? = some x := by
  rw [seg_eq] at h
  unfold segC at h
  cases hb : Nat.beq ((cs.drop off).take n).length n with
  | false => simp only [hb, cond_false] at h; cases h
  | true =>
    simp only [hb, cond_true, Option.some.injEq] at h
    subst h
    refine ⟨Nat.eq_of_beq_eq_true hb, fun j x hx => ?_⟩
    rw [List.getElem?_take] at hx
    split at hx
    · rwa [List.getElem?_drop] at hx
    · cases hx

theorem add_off (b s j : Nat) : (⟨b, s, none⟩ : Addr).add j = ⟨b, s + j, none⟩ := by unfold Addr.add; split <;> simp_all

theorem cell_of_heap {w : World} {b i : Nat} {arr : Array Value} {e : TypeId} {fr : Nat × Nat} (h : w.heap[b]? = some (.cells arr e fr)) : w.cell? ⟨b, i, none⟩ = arr[i]? := by
  simp [World.cell?, h]

theorem readAt_sound {k : K} {w : World} {h : AH} (hr : HR k h w) {a : AV} {va : Value} (ha : VR k w a va) {n : Nat} {cs : List AV} (hc : readAt h a n = some cs) :
    ∃ (ad : Addr) (vs : List Value), va = .pointer (some ad) ∧ cs.length = n ∧ VRL k w cs vs ∧ ∀ (j : Nat) (v : Value), vs[j]? = some v → w.cell? (ad.add j) = some v := by
  cases a <;> simp only [readAt] at hc <;> try (cases hc; done)
  case ptr o off =>
    simp only [VR] at ha
    obtain ⟨b, sh, h1, h2⟩ := ha
    cases hg : h.get o with
    | none => simp [hg] at hc
    | some ob =>
      cases ob <;> simp only [hg] at hc <;> try (cases hc; done)
      rename_i e cells
      obtain ⟨b', sh', h3, h4⟩ := hr.obj o _ hg
      rw [h1] at h3; cases h3
      obtain ⟨arr, fr, h5, h6, h7, _⟩ := h4
      obtain ⟨h8, h9⟩ := seg_get hc
      obtain ⟨vs, h10, h11⟩ := VRL.choose (k := k) (w := w) (cs := cs) (fun j v => w.cell? ((⟨b, sh + off, none⟩ : Addr).add j) = some v) (fun j x hx => by
        obtain ⟨v, h12, h13⟩ := h7 _ _ (h9 j x hx)
        refine ⟨v, ?_, h13⟩
        rw [add_off, cell_of_heap h5, Nat.add_assoc]
        exact h12)
      exact ⟨_, vs, h2, h8, h10, h11⟩
  case pptr cells off =>
    simp only [VR] at ha
    obtain ⟨b, sh, h1, h2, h3⟩ := ha
    obtain ⟨h8, h9⟩ := seg_get hc
    obtain ⟨vs, h10, h11⟩ := VRL.choose (k := k) (w := w) (cs := cs) (fun j v => w.cell? ((⟨b, sh + off, none⟩ : Addr).add j) = some v) (fun j x hx => by
        obtain ⟨v, h12, h13⟩ := VRC.get h3 _ _ (h9 j x hx)
        refine ⟨v, ?_, h13⟩
        rw [add_off, Nat.add_assoc]
        exact h12)
    exact ⟨_, vs, h1, h8, h10, h11⟩

theorem packA_sound {k : K} {w : World} {g : Bool} {cs : List AV} {v' : AV} {vs : List Value} (h : packA g cs = some v') (hv : VRL k w cs vs) :
    (g = true ∧ VR k w v' (.agg vs.toArray)) ∨ (g = false ∧ ∃ v, vs = [v] ∧ VR k w v' v) := by
  cases g with
  | true => simp only [packA, cond_true, Option.some.injEq] at h; subst h; left; exact ⟨rfl, by simp only [VR]; exact ⟨_, rfl, by simpa using hv⟩⟩
  | false =>
    right
    refine ⟨rfl, ?_⟩
    match cs, h with
    | [c], h =>
      simp only [packA, cond_false, Option.some.injEq] at h
      subst h
      simp only [VRL] at hv
      obtain ⟨v, vs', rfl, h1, h2⟩ := hv
      exact ⟨v, by simp [h2], h1⟩
    | [], h => simp [packA] at h
    | _ :: _ :: _, h => simp [packA] at h

theorem run_loadVar_of {P : Program} {E : Env} (hE : EnvOk P E) {t : TypeId} {i : TI} (ht : E.ty t = some i) {w : World} {k : K} {ad : Addr} {cs : List AV} {vs : List Value} {v' : AV}
    (hn : cs.length = i.size) (hv : VRL k w cs vs) (hc : ∀ (j : Nat) (v : Value), vs[j]? = some v → w.cell? (ad.add j) = some v) (hp : packA i.agg cs = some v') :
    ∃ v, (loadVar t ad).run P w = .ok v w ∧ VR k w v' v := by
  have hl := hv.length
  rcases packA_sound hp hv with ⟨hg, h1⟩ | ⟨hg, v, rfl, h1⟩
  · refine ⟨_, ?_, h1⟩
    have := run_loadCells_list (P := P) w ad vs hc
    rw [hl, hn] at this
    simp [loadVar, run_agg hE ht, hg, run_size hE ht, this]
  · refine ⟨v, ?_, h1⟩
    have := hc 0 v (by simp)
    rw [Addr.add_zero'] at this
    simp [loadVar, run_agg hE ht, hg, this]

theorem loadA_sound {P : Program} {E : Env} (hE : EnvOk P E) {t : TypeId} {i : TI} (ht : E.ty t = some i) {w : World} {k : K} {h : AH} (hr : HR k h w) {a : AV} {va : Value} (ha : VR k w a va)
    {v' : AV} (hl : loadA i h a = some v') : ∃ (ad : Addr) (v : Value), va = .pointer (some ad) ∧ (loadVar t ad).run P w = .ok v w ∧ VR k w v' v := by
  unfold loadA at hl
  cases hc : readAt h a i.size with
  | none => simp [hc] at hl
  | some cs =>
    simp only [hc] at hl
    obtain ⟨ad, vs, h1, h2, h3, h4⟩ := readAt_sound hr ha hc
    obtain ⟨v, h5, h6⟩ := run_loadVar_of hE ht h2 h3 h4 hl
    exact ⟨ad, v, h1, h5, h6⟩

def setL : Array Value → Nat → List Value → Array Value
  | arr, _, [] => arr
  | arr, o, v :: r => setL (arr.setIfInBounds o v) (o + 1) r

theorem setL_size : ∀ (vs : List Value) (arr : Array Value) (o : Nat), (setL arr o vs).size = arr.size
  | [], _, _ => rfl
  | v :: r, arr, o => by rw [setL, setL_size r]; simp

theorem setL_get : ∀ (vs : List Value) (arr : Array Value) (o j : Nat), (setL arr o vs)[j]? = if o ≤ j ∧ j < o + vs.length ∧ j < arr.size then vs[j - o]? else arr[j]?
  | [], arr, o, j => by simp [setL]; intro h1 h2; omega
  | v :: r, arr, o, j => by
    rw [setL, setL_get r]
    simp only [Array.size_setIfInBounds, List.length_cons, Array.getElem?_setIfInBounds]
    by_cases h : o + 1 ≤ j ∧ j < o + 1 + r.length ∧ j < arr.size
    · rw [if_pos h, if_pos (by omega)]
      rw [show j - o = (j - (o + 1)) + 1 by omega]
      simp
    · rw [if_neg h]
      by_cases e : o = j
      · subst e
        by_cases hs : o < arr.size
        · rw [if_pos rfl, if_pos hs, if_pos (by omega)]; simp
        · rw [if_pos rfl, if_neg hs, if_neg (by omega)]
          rw [Array.getElem?_eq_none (by omega)]
      · rw [if_neg e, if_neg (by omega)]

theorem setCells_heap (b : Nat) : ∀ (vs : List Value) (o : Nat) (w : World) (arr : Array Value) (e : TypeId) (fr : Nat × Nat), w.heap[b]? = some (.cells arr e fr) →
    (w.setCells b o vs).heap[b]? = some (.cells (setL arr o vs) e fr) ∧ (∀ b', b' ≠ b → (w.setCells b o vs).heap[b']? = w.heap[b']?) ∧ (w.setCells b o vs).heap.size = w.heap.size ∧
    (w.setCells b o vs).os = w.os ∧ (w.setCells b o vs).tape = w.tape ∧ (w.setCells b o vs).output = w.output ∧ (w.setCells b o vs).drawn = w.drawn
  | [], o, w, arr, e, fr, h => ⟨h, fun _ _ => rfl, rfl, rfl, rfl, rfl, rfl⟩
  | v :: r, o, w, arr, e, fr, h => by
    have h1 : (w.setCell ⟨b, o, none⟩ v).heap[b]? = some (.cells (arr.setIfInBounds o v) e fr) := by
      simp [World.setCell, Array.getElem?_modify, h]
    obtain ⟨h2, h3, h4, h5, h6, h7, h8⟩ := setCells_heap b r (o + 1) (w.setCell ⟨b, o, none⟩ v) _ _ _ h1
    refine ⟨h2, fun b' hb => ?_, ?_, h5, h6, h7, h8⟩
    · rw [World.setCells, h3 b' hb]
      simp only [World.setCell, Array.getElem?_modify]
      rw [if_neg (fun e => hb e.symm)]
    · rw [World.setCells, h4]; simp

theorem not_frozen {w : World} {b i : Nat} {arr : Array Value} {e : TypeId} {fr : Nat × Nat} (h : w.heap[b]? = some (.cells arr e fr)) (hf : fr.2 = 0 ∨ arr.size ≤ fr.1) (hi : i < arr.size) : w.frozen? ⟨b, i, none⟩ = false := by
  obtain ⟨lo, hi'⟩ := fr
  simp only [World.frozen?, h]
  simp only at hf
  rcases hf with rfl | hf
  · simp
  · simp; omega

theorem splice_get {cs xs r : List AV} {off : Nat} (h : splice cs off xs = some r) : off + xs.length ≤ cs.length ∧ r.length = cs.length ∧
    ∀ (j : Nat), r[j]? = if off ≤ j ∧ j < off + xs.length then xs[j - off]? else cs[j]? := by
  rw [splice_eq] at h
  unfold spliceC at h
  cases hb : Nat.ble (off + xs.length) cs.length with
  | false => simp [hb] at h
  | true =>
    simp only [hb, cond_true, Option.some.injEq] at h
    subst h
    have hle := Nat.le_of_ble_eq_true hb
    refine ⟨hle, by simp; omega, fun j => ?_⟩
    rw [List.getElem?_append, List.length_take, Nat.min_eq_left (by omega)]
    by_cases h1 : j < off
    · rw [if_pos h1, if_neg (by omega), List.getElem?_take, if_pos h1]
    · rw [if_neg h1, List.getElem?_append]
      by_cases h2 : j - off < xs.length
      · rw [if_pos h2, if_pos (by omega)]
      · rw [if_neg h2, if_neg (by omega), List.getElem?_drop]
        congr 1; omega

/-- Values go over the cells of a live object. -/
theorem HR.setCells {P : Program} {k : K} {h : AH} {w : World} (hr : HR k h w) {o : Nat} {e : TypeId} {cs : List AV} (hg : h.get o = some (.cells e cs)) {b sh : Nat} (hρ : k.ρ o = some (b, sh))
    {off : Nat} {xs : List AV} {cs' : List AV} (hs : splice cs off xs = some cs') {vs : List Value} (hv : VRL k w xs vs) (h1 : ∀ u ∈ vs, u.oneCell' = true) :
    (storeCells ⟨b, sh + off, none⟩ vs).run P w = .ok () (w.setCells b (sh + off) vs) ∧
    HR k (h.set o (some (.cells e cs'))) (w.setCells b (sh + off) vs) ∧ Ev k k h (h.set o (some (.cells e cs'))) w (w.setCells b (sh + off) vs) := by
  obtain ⟨b', sh', h2, arr, fr, h3, h4, h5, h10, h11⟩ := hr.obj o _ hg
  rw [hρ] at h2; cases h2
  obtain ⟨g1, g2, g3⟩ := splice_get hs
  have hl := hv.length
  obtain ⟨c1, c2, c3, c4, c5, c6, _⟩ := setCells_heap b vs (sh + off) w arr e fr h3
  refine ⟨?_, ?_⟩
  · have := run_storeCells_cells (P := P) b (sh + off) vs 0 w (fun j hj => by rw [cell_of_heap h3]; simp; omega) (fun j hj => not_frozen h3 h11 (by omega)) h1
    simpa using this
  · refine hr.write hg hρ c4 c5 c6 c3 c2 (fun arr' e' fr hx => ?_) (fun le => ?_)
    · rw [h3] at hx; cases hx
      exact ⟨_, _, c1, setL_size _ _ _⟩
    · refine ⟨_, fr, c1, by rw [setL_size, g2]; exact h4, fun i x hx => ?_, h10, by rw [setL_size]; exact h11⟩
      rw [g3] at hx
      by_cases hi : off ≤ i ∧ i < off + xs.length
      · rw [if_pos hi] at hx
        obtain ⟨v, h6, h7⟩ := hv.get _ _ hx
        refine ⟨v, ?_, VR.mono le _ _ h7⟩
        rw [setL_get, if_pos (by omega)]
        rw [show sh + i - (sh + off) = i - off by omega]
        exact h6
      · rw [if_neg hi] at hx
        obtain ⟨v, h6, h7⟩ := h5 i x hx
        refine ⟨v, ?_, VR.mono le _ _ h7⟩
        rw [setL_get, if_neg (by omega)]
        exact h6

theorem storeA_sound {P : Program} {E : Env} (hE : EnvOk P E) {t : TypeId} {i : TI} (ht : E.ty t = some i) {w : World} {k : K} {h h' : AH} (hr : HR k h w) {a x : AV} {va vx : Value} (ha : VR k w a va) (hx : VR k w x vx)
    (hs : storeA i h a x = some h') : ∃ (ad : Addr) (w' : World), va = .pointer (some ad) ∧ (storeVar t ad vx).run P w = .ok () w' ∧ HR k h' w' ∧ Ev k k h h' w w' := by
  unfold storeA at hs
  cases hb : (Nat.beq x.cells.length i.size && AV.allCell x.cells) with
  | false => simp [hb] at hs
  | true =>
    simp only [hb, cond_true] at hs
    simp only [Bool.and_eq_true] at hb
    have hn := Nat.eq_of_beq_eq_true hb.1
    obtain ⟨hc, h1⟩ := hx.cells hb.2
    cases a <;> simp only at hs <;> try (cases hs; done)
    rename_i o off
    cases hg : h.get o with
    | none => simp [hg] at hs
    | some ob =>
      cases ob <;> simp only [hg] at hs <;> try (cases hs; done)
      rename_i e cs
      cases hsp : splice cs off x.cells with
      | none => simp [hsp] at hs
      | some cs' =>
        simp only [hsp, Option.some.injEq] at hs
        subst hs
        simp only [VR] at ha
        obtain ⟨b, sh, hρ, rfl⟩ := ha
        obtain ⟨r1, r2, r3⟩ := HR.setCells (P := P) hr hg hρ hsp hc h1
        refine ⟨_, _, rfl, ?_, r2, r3⟩
        have hlen : vx.cells.size = i.size := by
          have := hc.length
          simpa [hn] using this
        simp [storeVar, run_size hE ht, hlen, r1]

end Go.Ab

namespace Go.Ab
open Go

def OpOut (k : K) (h : AH) (w : World) (v' : AV) (h' : AH) (r : Result Next) : Prop :=
  ∃ nx w' k', r = .ok nx w' ∧ ((∃ v, nx = .value v ∧ VR k' w' v' v) ∨ (nx = .skip ∧ v' = undefA)) ∧ HR k' h' w' ∧ Ev k k' h h' w w'

theorem OpOut.pure {k : K} {h : AH} {w : World} {v' : AV} {v : Value} (hr : HR k h w) (hv : VR k w v' v) : OpOut k h w v' h (.ok (.value v) w) :=
  ⟨_, w, k, rfl, .inl ⟨v, rfl, hv⟩, hr, Ev.refl _ _ _⟩

/-! Operations of two values -/

theorem bytesEq_spec : ∀ (a b : List UInt8), bytesEqA (a.map UInt8.toNat) (b.map UInt8.toNat) = (a == b)
  | [], [] => rfl
  | [], _ :: _ => rfl
  | _ :: _, [] => rfl
  | x :: a, y :: b => by
    have ih := bytesEq_spec a b
    simp only [List.map_cons, bytesEqA, ih]
    show _ = ((x == y) && (a == b))
    congr 1
    rw [T.beq_eq, Bool.eq_iff_iff]
    simp [UInt8.toNat_inj]

theorem bytesLess_spec : ∀ (a b : List UInt8), bytesLessA (a.map UInt8.toNat) (b.map UInt8.toNat) = Op.bytesLess a b
  | [], [] => rfl
  | [], _ :: _ => rfl
  | _ :: _, [] => rfl
  | x :: a, y :: b => by
    have ih := bytesLess_spec a b
    simp only [List.map_cons, bytesLessA, Op.bytesLess, ih]
    have h1 : Nat.blt x.toNat y.toNat = decide (x < y) := by
      rw [Bool.eq_iff_iff]; simp [UInt8.lt_iff_toNat_lt]
    have h2 : Nat.beq x.toNat y.toNat = (x == y) := by
      rw [T.beq_eq, Bool.eq_iff_iff]; simp [UInt8.toNat_inj]
    rw [h1, h2]

theorem ba_eq (a b : ByteArray) : (a == b) = (a.data.toList == b.data.toList) := by
  cases a with | mk x => cases b with | mk y =>
  show (ByteArray.beq ⟨x⟩ ⟨y⟩) = _
  unfold ByteArray.beq
  rw [Bool.eq_iff_iff]
  simp

theorem run_equal_of {P : Program} {t : TypeId} {x y : Value} {w : World} {r : Result Bool} (h : ∀ d, (Op.equalIn (d + 1) t x y).run P w = r) : (Op.equal t x y).run P w = r := h 9999

structure EqOut (P : Program) (t : TypeId) (a b : Value) (r : Bool) (w : World) : Prop where
  eql : (binOp .eql t a b).run P w = .ok (.bool r) w
  neq : (binOp .neq t a b).run P w = .ok (.bool (!r)) w
  agg : ∀ xs ys, a = .agg xs → b = .agg ys → P.eqGuardType P.depth t = false
  nil : ¬ (a = .nilIface ∧ b = .nilIface)

theorem EqOut.mk' {P : Program} {t : TypeId} {a b : Value} {r : Bool} {w : World} (hq : (Op.equal t a b).run P w = .ok r w) (h1 : binOp .eql t a b = do pure (.bool (← Op.equal t a b)))
    (h2 : binOp .neq t a b = do pure (.bool (!(← Op.equal t a b)))) (h3 : ∀ xs ys, a = .agg xs → b = .agg ys → P.eqGuardType P.depth t = false) (h4 : ¬ (a = .nilIface ∧ b = .nilIface)) : EqOut P t a b r w :=
  ⟨by rw [h1]; simp [hq], by rw [h2]; simp [hq], h3, h4⟩

theorem cond_someF {α : Type} {b : Bool} {x : Option α} {y : α} (h : (bif b then x else none) = some y) : b = true ∧ x = some y := by
  cases b with
  | false => cases h
  | true => exact ⟨rfl, h⟩

theorem eqA_sound {P : Program} {E : Env} (hE : EnvOk P E) {t : TypeId} {x y : AV} {r : Bool} (h : eqA E t x y = some r) {k : K} {w : World} {a b : Value} (ha : VR k w x a) (hb : VR k w y b) :
    EqOut P t a b r w := by
  unfold eqA at h
  cases ht : E.ty t with
  | none => simp [ht] at h
  | some i =>
    have hu := run_und hE ht w
    simp only [ht] at h
    split at h <;> (try simp only [Option.some.injEq] at h)
    case h_1 a' b' hund =>
      simp only [VR] at ha hb; subst ha hb h
      exact .mk' (run_equal_of fun d => by simp [Op.equalIn, hu, hund]) rfl rfl (by simp) (by simp)
    case h_2 hund =>
      simp only [VR] at ha hb; subst ha hb h
      exact .mk' (run_equal_of fun d => by simp [Op.equalIn, hu, hund]) rfl rfl (by simp) (by simp)
    case h_3 hund =>
      simp only [VR] at ha hb
      obtain ⟨_, _, _, _, _, _, _, rfl, _⟩ := ha; subst hb h
      exact .mk' (run_equal_of fun d => by simp [Op.equalIn, hu, hund]) rfl rfl (by simp) (by simp)
    case h_4 hund =>
      simp only [VR] at ha hb
      obtain ⟨_, _, _, rfl, _⟩ := ha; subst hb h
      exact .mk' (run_equal_of fun d => by simp [Op.equalIn, hu, hund]) rfl rfl (by simp) (by simp)
    case h_5 hund =>
      simp only [VR] at ha hb
      obtain ⟨_, _, _, _, _, _, _, rfl, _⟩ := hb; subst ha h
      exact .mk' (run_equal_of fun d => by simp [Op.equalIn, hu, hund]) rfl rfl (by simp) (by simp)
    case h_6 hund =>
      simp only [VR] at ha hb
      obtain ⟨_, _, _, rfl, _⟩ := hb; subst ha h
      exact .mk' (run_equal_of fun d => by simp [Op.equalIn, hu, hund]) rfl rfl (by simp) (by simp)
    case h_7 hund =>
      simp only [VR] at ha hb
      obtain ⟨_, _, rfl⟩ := ha; subst hb h
      exact .mk' (run_equal_of fun d => by simp [Op.equalIn, hu, hund]) rfl rfl (by simp) (by simp)
    case h_8 hund =>
      simp only [VR] at ha hb
      obtain ⟨_, _, rfl⟩ := hb; subst ha h
      exact .mk' (run_equal_of fun d => by simp [Op.equalIn, hu, hund]) rfl rfl (by simp) (by simp)
    case h_9 hund =>
      simp only [VR] at ha hb; subst ha hb h
      exact .mk' (run_equal_of fun d => by simp [Op.equalIn, hu, hund]) rfl rfl (by simp) (by simp)
    case h_10 hund =>
      simp only [VR] at ha hb
      obtain ⟨_, _, rfl⟩ := ha; subst hb h
      exact .mk' (run_equal_of fun d => by simp [Op.equalIn, hu, hund]) rfl rfl (by simp) (by simp)
    case h_11 hund =>
      simp only [VR] at ha hb
      obtain ⟨_, _, rfl⟩ := hb; subst ha h
      exact .mk' (run_equal_of fun d => by simp [Op.equalIn, hu, hund]) rfl rfl (by simp) (by simp)
    case h_12 hund =>
      simp only [VR] at ha hb; subst ha hb h
      exact .mk' (run_equal_of fun d => by simp [Op.equalIn, hu, hund]) rfl rfl (by simp) (by simp)
    case h_13 hund =>
      simp only [VR] at ha hb; subst ha hb h
      exact .mk' (run_equal_of fun d => by simp [Op.equalIn, hu, hund]) rfl rfl (by simp) (by simp)
    case h_14 hund =>
      simp only [VR] at ha hb
      obtain ⟨_, _, _, rfl⟩ := ha; subst hb h
      exact .mk' (run_equal_of fun d => by simp [Op.equalIn, hu, hund]) rfl rfl (by simp) (by simp)
    case h_15 hund =>
      simp only [VR] at ha hb
      obtain ⟨_, _, _, rfl⟩ := hb; subst ha h
      exact .mk' (run_equal_of fun d => by simp [Op.equalIn, hu, hund]) rfl rfl (by simp) (by simp)
    case h_16 hund =>
      simp only [VR] at ha hb
      obtain ⟨_, _, rfl, _⟩ := ha; subst hb h
      exact .mk' (run_equal_of fun d => by simp [Op.equalIn, hu, hund]) rfl rfl (by simp) (by simp)
    case h_17 hund =>
      simp only [VR] at ha hb
      obtain ⟨_, _, rfl, _⟩ := hb; subst ha h
      exact .mk' (run_equal_of fun d => by simp [Op.equalIn, hu, hund]) rfl rfl (by simp) (by simp)
    case h_18 e o a' o' b' hund =>
      cases he : E.ty e with
      | none => simp [he] at h
      | some ei =>
        simp only [he] at h
        cases hc : (Nat.ble 1 ei.size && Nat.beq o o') with
        | false => simp [hc] at h
        | true =>
          simp only [hc, cond_true, Option.some.injEq] at h
          simp only [Bool.and_eq_true] at hc
          obtain rfl := Nat.eq_of_beq_eq_true hc.2
          have hs : ei.size ≠ 0 := by have := Nat.le_of_ble_eq_true hc.1; omega
          simp only [VR] at ha hb
          obtain ⟨b1, sh, h1, rfl⟩ := ha
          obtain ⟨b2, sh2, h2, rfl⟩ := hb
          rw [h1] at h2; cases h2
          refine .mk' (run_equal_of fun d => ?_) rfl rfl (by simp) (by simp)
          have e1 : ((⟨b1, sh + a', none⟩ : Addr) == ⟨b1, sh + b', none⟩) = r := by
            subst h
            rw [T.beq_eq, Bool.eq_iff_iff]
            simp
          simp [Op.equalIn, hu, hund, run_size hE he, hs, sameAddr, e1]
    case h_19 hund =>
      simp only [VR] at ha hb
      obtain ⟨_, rfl, _⟩ := ha; subst hb h
      exact .mk' (run_equal_of fun d => by simp [Op.equalIn, hu, hund]) rfl rfl (by simp) (by simp)
    case h_20 hund =>
      simp only [VR] at ha hb
      obtain ⟨_, rfl, _⟩ := hb; subst ha h
      exact .mk' (run_equal_of fun d => by simp [Op.equalIn, hu, hund]) rfl rfl (by simp) (by simp)
    case h_21 fs a' b' hund =>
      unfold aggEq at h
      cases he : E.eqt t with
      | none => simp [he] at h
      | some ds =>
        simp only [he] at h
        obtain ⟨hl, h⟩ := cond_someF h
        simp only [Bool.and_eq_true] at hl
        simp only [VR] at ha hb
        obtain ⟨xs, rfl, h1⟩ := ha
        obtain ⟨ys, rfl, h2⟩ := hb
        obtain ⟨h3, h4⟩ := hE.eqt t ds he w xs ys k a' b' r h1 h2 (Nat.eq_of_beq_eq_true hl.1) (Nat.eq_of_beq_eq_true hl.2) h
        exact .mk' h4 rfl rfl (fun _ _ _ _ => h3) (by simp)
    case h_22 fs a' b' hund =>
      unfold aggEq at h
      cases he : E.eqt t with
      | none => simp [he] at h
      | some ds =>
        simp only [he] at h
        obtain ⟨hl, h⟩ := cond_someF h
        simp only [Bool.and_eq_true] at hl
        simp only [VR] at ha hb
        obtain ⟨xs, rfl, h1⟩ := ha
        obtain ⟨ys, rfl, h2⟩ := hb
        obtain ⟨h3, h4⟩ := hE.eqt t ds he w xs ys k a' b' r h1 h2 (Nat.eq_of_beq_eq_true hl.1) (Nat.eq_of_beq_eq_true hl.2) h
        exact .mk' h4 rfl rfl (fun _ _ _ _ => h3) (by simp)
    case h_23 => cases h

end Go.Ab

namespace Go.Ab
open Go

theorem fdiv_ok (a : Int) (n : Nat) : a.fdiv (2 ^ n) = a.fdiv (2 ^ n) := rfl

theorem bin_int {P : Program} {op : BinOp} {k k' : IntKind} {a b : Int} {E : Env} {t : TypeId} {v' : AV} (h : binA E op t (.int k a) (.int k' b) = some v') (w : World) :
    ∃ v, (binOp op t (.int k a) (.int k' b)).run P w = .ok v w ∧ (∀ kk ww, VR kk ww v' v) := by
  unfold binA at h
  cases op <;> simp only at h
  case shl =>
    cases hd : decide (0 ≤ b) <;> simp only [hd, cond_true, cond_false] at h <;> cases h
    have hb : 0 ≤ b := by simpa using hd
    exact ⟨_, by simp [binOp, Op.shift, show ¬ b < 0 by omega]; rfl, fun _ _ => by simp only [VR]⟩
  case shr =>
    cases hd : decide (0 ≤ b) <;> simp only [hd, cond_true, cond_false] at h <;> cases h
    have hb : 0 ≤ b := by simpa using hd
    exact ⟨_, by simp [binOp, Op.shift, show ¬ b < 0 by omega]; rfl, fun _ _ => by simp only [VR]⟩
  all_goals
    cases hd : decide (k = k') <;> simp only [hd, cond_true, cond_false] at h
    · cases h
    · have hk : k = k' := by simpa using hd
      subst hk
      first
        | (cases h; exact ⟨_, by simp [binOp, Op.intArith, Op.intBits, Op.intCmp]; rfl, fun _ _ => by simp [VR]⟩)
        | (cases hz : decide (b = 0) <;> simp only [hz, cond_true, cond_false] at h <;> cases h
           have hb : b ≠ 0 := by simpa using hz
           exact ⟨_, by simp [binOp, Op.intDiv, hb]; rfl, fun _ _ => by simp [VR]⟩)

theorem str_eq {s : List Nat} {b : ByteArray} (h : b.data.toList.map UInt8.toNat = s) : b.toList.map UInt8.toNat = s := by rw [ByteArray.toList_eq]; exact h

theorem bin_str {P : Program} {op : BinOp} {a b : ByteArray} {E : Env} {t : TypeId} {v' : AV} (h : binA E op t (.str (a.data.toList.map UInt8.toNat)) (.str (b.data.toList.map UInt8.toNat)) = some v') (w : World) :
    ∃ v, (binOp op t (.string a) (.string b)).run P w = .ok v w ∧ (∀ kk ww, VR kk ww v' v) := by
  unfold binA at h
  cases op <;> simp only [bytesEq_spec, bytesLess_spec] at h <;> try (cases h; done)
  case add =>
    simp only [List.length_map] at h
    cases hd : Nat.blt (a.data.toList.length + b.data.toList.length) (2 ^ 47) <;> simp only [hd, cond_true, cond_false] at h <;> cases h
    have hlt : a.data.toList.length + b.data.toList.length < 2 ^ 47 := Nat.le_of_ble_eq_true hd
    have hsz : ¬ ((a.size + b.size : Nat) : Int) > IntKind.i64.max := by
      have e1 : a.size = a.data.toList.length := by simp
      have e2 : b.size = b.data.toList.length := by simp
      have : IntKind.i64.max = 9223372036854775807 := by decide
      rw [this, e1, e2]; omega
    refine ⟨.string (a ++ b), by simp only [binOp, Op.stringOp]; rw [if_neg hsz]; rfl, fun _ _ => ?_⟩
    simp only [VR]
    exact ⟨_, rfl, by simp⟩
  all_goals
    cases h
    exact ⟨_, by simp only [binOp, Op.stringOp, ByteArray.toList_eq]; rfl, fun _ _ => by simp [VR]⟩

theorem guard_none {P : Program} {op : BinOp} {t : TypeId} {x y : Operand} {a b : Value} (w : World) (h1 : ∀ xs ys, a = .agg xs → b = .agg ys → P.eqGuardType P.depth t = false) (h2 : ¬ (a = .nilIface ∧ b = .nilIface)) :
    (eqGuard op t x y a b).run P w = .ok () w := by
  cases op <;> first
    | rfl
    | (cases a <;> cases b <;> first
        | rfl
        | exact absurd ⟨rfl, rfl⟩ h2
        | (rename_i xs ys; simp [eqGuard, h1 xs ys rfl rfl]))

theorem binA_else {E : Env} {op : BinOp} {t : TypeId} {xa ya : AV} (hi : ¬ ((∃ k a, xa = .int k a) ∧ (∃ k a, ya = .int k a))) (hs : ¬ ((∃ a, xa = .str a) ∧ (∃ a, ya = .str a))) :
    binA E op t xa ya = match op with
      | .eql => (eqA E t xa ya).map AV.bool
      | .neq => (eqA E t xa ya).map fun b => AV.bool (!b)
      | _ => none := by
  unfold binA
  split
  · exact absurd ⟨⟨_, _, rfl⟩, ⟨_, _, rfl⟩⟩ hi
  · exact absurd ⟨⟨_, rfl⟩, ⟨_, rfl⟩⟩ hs
  · rfl

theorem binA_sound {P : Program} {E : Env} (hE : EnvOk P E) {op : BinOp} {t : TypeId} {x y : Operand} {xa ya v' : AV} {a b : Value} {k : K} {w : World} (ha : VR k w xa a) (hb : VR k w ya b) (h : binA E op t xa ya = some v') :
    ∃ v, (do eqGuard op t x y a b; binOp op t a b : Sem Value).run P w = .ok v w ∧ VR k w v' v := by
  have fin : ∀ {v}, (∀ xs ys, a = .agg xs → b = .agg ys → P.eqGuardType P.depth t = false) → ¬ (a = .nilIface ∧ b = .nilIface) → (binOp op t a b).run P w = .ok v w →
      (do eqGuard op t x y a b; binOp op t a b : Sem Value).run P w = .ok v w := by
    intro v h1 h2 h3
    simp [guard_none w h1 h2, h3]
  by_cases hi : (∃ k a, xa = .int k a) ∧ (∃ k a, ya = .int k a)
  · obtain ⟨⟨k1, a1, rfl⟩, ⟨k2, a2, rfl⟩⟩ := hi
    simp only [VR] at ha hb
    subst ha hb
    obtain ⟨v, h1, h2⟩ := bin_int (P := P) h w
    exact ⟨v, fin (by simp) (by simp) h1, h2 _ _⟩
  by_cases hs : (∃ a, xa = .str a) ∧ (∃ a, ya = .str a)
  · obtain ⟨⟨a1, rfl⟩, ⟨a2, rfl⟩⟩ := hs
    simp only [VR] at ha hb
    obtain ⟨b1, rfl, rfl⟩ := ha
    obtain ⟨b2, rfl, rfl⟩ := hb
    obtain ⟨v, h1, h2⟩ := bin_str (P := P) h w
    exact ⟨v, fin (by simp) (by simp) h1, h2 _ _⟩
  have h' := h
  rw [binA_else hi hs] at h'
  cases op <;> simp only at h' <;> try (cases h'; done)
  case eql =>
    cases he : eqA E t xa ya with
    | none => simp [he] at h'
    | some r =>
      simp only [he, Option.map_some, Option.some.injEq] at h'
      have ho := eqA_sound hE he ha hb
      exact ⟨.bool r, fin ho.agg ho.nil ho.eql, by subst h'; simp only [VR]⟩
  case neq =>
    cases he : eqA E t xa ya with
    | none => simp [he] at h'
    | some r =>
      simp only [he, Option.map_some, Option.some.injEq] at h'
      have ho := eqA_sound hE he ha hb
      exact ⟨.bool (!r), fin ho.agg ho.nil ho.neq, by subst h'; simp only [VR]⟩

theorem unA_sound {P : Program} {op : UnOp} {x v' : AV} {a : Value} {k : K} {w : World} (ha : VR k w x a) (h : unA op x = some v') : ∃ v, (Op.unary op a).run P w = .ok v w ∧ VR k w v' v := by
  cases x <;> simp only [unA] at h <;> try (cases h; done)
  all_goals
    simp only [VR] at ha
    subst ha
    cases op <;> simp only at h <;> cases h
    all_goals exact ⟨_, by simp [Op.unary, Op.intArith, Op.intBits]; rfl, by simp [VR]⟩

theorem ofConst1_ok (k : K) (w : World) (v : Value) : VR k w (ofConst1 v) v := by
  unfold ofConst1
  split <;> simp only [VR]
  exact ⟨_, rfl, rfl⟩

theorem ofConst_ok (k : K) (w : World) (v : Value) : VR k w (ofConst v) v := by
  have key : ∀ l : List Value, VRL k w (l.map ofConst1) l := by
    intro l
    induction l with
    | nil => simp only [List.map_nil, VRL]
    | cons x xs ih => simp only [List.map_cons, VRL]; exact ⟨x, xs, rfl, ofConst1_ok k w x, ih⟩
  unfold ofConst
  split
  · simp only [VR]; exact ⟨_, rfl, key _⟩
  · simp only [VR]; exact ⟨_, rfl, key _⟩
  · exact ofConst1_ok k w _

theorem partA_sound {P : Program} {E : Env} (hE : EnvOk P E) {t : TypeId} {cs : List AV} {off : Nat} {v' : AV} (h : partA E t cs off = some v') {k : K} {w : World} {vs : Array Value} (hv : VRL k w cs vs.toList) :
    ∃ v, (part t vs off).run P w = .ok v w ∧ VR k w v' v := by
  unfold partA at h
  cases ht : E.ty t with
  | none => simp [ht] at h
  | some i =>
    simp only [ht] at h
    cases hg : i.agg with
    | true =>
      simp only [hg, cond_true] at h
      cases hs : seg cs off i.size with
      | none => simp [hs] at h
      | some r =>
        simp only [hs, Option.some.injEq] at h
        subst h
        obtain ⟨h1, h2⟩ := seg_get hs
        refine ⟨.agg (vs.extract off (off + i.size)), by simp [part, run_agg hE ht, hg, run_size hE ht], ?_⟩
        simp only [VR]
        refine ⟨_, rfl, VRL.of_get ?_ fun j x v hx hv' => ?_⟩
        · have hl := hv.length
          have : cs[off + (i.size - 1)]? = none → i.size = 0 := by
            intro hn
            by_cases h0 : i.size = 0
            · exact h0
            · have := h2 (i.size - 1) (r[i.size - 1]'(by omega)) (by rw [List.getElem?_eq_getElem])
              rw [hn] at this; cases this
          have hle : i.size = 0 ∨ off + i.size ≤ cs.length := by
            by_cases h0 : i.size = 0
            · exact .inl h0
            · right
              cases hx : cs[off + (i.size - 1)]? with
              | none => exact absurd (this hx) h0
              | some y => have := (List.getElem?_eq_some_iff.1 hx).1; omega
          have hsz : vs.size = cs.length := by simpa using hl
          simp [hsz, h1]
          omega
        · obtain ⟨u, hu, hr⟩ := hv.get _ _ (h2 j x hx)
          have : (vs.extract off (off + i.size)).toList[j]? = some v := hv'
          simp only [Array.getElem?_toList, Array.getElem?_extract] at this
          split at this
          · have e : vs[off + j]? = some u := by simpa using hu
            rw [e] at this; cases this; exact hr
          · cases this
    | false =>
      simp only [hg, cond_false] at h
      obtain ⟨v, h1, h2⟩ := hv.get _ _ h
      have e : vs[off]? = some v := by simpa using h1
      exact ⟨v, by simp [part, run_agg hE ht, hg, e], h2⟩

end Go.Ab

namespace Go.Ab
open Go

/-- A new row of cells. -/
theorem HR.allocCells {k : K} {h h' : AH} {w : World} (hr : HR k h w) {o : Nat} {el : TypeId} {cs : List AV} (ha : h.alloc (.cells el cs) = some (o, h')) (arr : Array Value) (d : Nat)
    (hl : cs.length ≤ arr.size) (hv : ∀ (i : Nat) (x : AV), cs[i]? = some x → ∃ v, arr[i]? = some v ∧ VR k w x v) :
    HR (k.with o w.heap.size) h' { w with heap := w.heap.push (.cells arr el), drawn := d } ∧ Ev k (k.with o w.heap.size) h h' w { w with heap := w.heap.push (.cells arr el), drawn := d } ∧
    ({ w with heap := w.heap.push (Obj.cells arr el), drawn := d } : World).heap[w.heap.size]? = some (.cells arr el (0, 0)) := by
  have hget : ({ w with heap := w.heap.push (Obj.cells arr el), drawn := d } : World).heap[w.heap.size]? = some (.cells arr el (0, 0)) := by simp
  obtain ⟨h1, h2, _⟩ := hr.alloc ha (.cells arr el) d (fun le => ⟨arr, (0, 0), hget, by omega, (fun i x hx => by
    obtain ⟨v, h3, h4⟩ := hv i x hx
    exact ⟨v, by simpa using h3, VR.mono le _ _ h4⟩), Nat.zero_mod _, .inl rfl⟩)
  exact ⟨h1, h2, hget⟩

theorem VRL.of_list {k : K} {w : World} {cs : List AV} {arr : Array Value} (h : VRL k w cs arr.toList) : cs.length ≤ arr.size ∧ ∀ (i : Nat) (x : AV), cs[i]? = some x → ∃ v, arr[i]? = some v ∧ VR k w x v := by
  refine ⟨by have := h.length; simp at this; omega, fun i x hx => ?_⟩
  obtain ⟨v, h1, h2⟩ := h.get i x hx
  exact ⟨v, by simpa using h1, h2⟩

theorem run_newVar {P : Program} (t : TypeId) (v : Value) (w : World) : (newVar t v).run P w = .ok ⟨w.heap.size, 0, none⟩ { w with heap := w.heap.push (.cells v.cells t) } := by
  simp [newVar, newRow]

theorem allocA_sound {P : Program} {k : K} {h h' : AH} {w : World} (hr : HR k h w) {el : TypeId} {cs : List AV} {v' : AV} (ha : allocA h (.cells el cs) = some (v', h')) {v : Value} (hv : VRL k w cs v.cells.toList) :
    OpOut k h w v' h' ((do pure (Next.value (.pointer (some (← newVar el v)))) : Sem Next).run P w) := by
  unfold allocA at ha
  cases hal : h.alloc (.cells el cs) with
  | none => simp [hal] at ha
  | some p =>
    obtain ⟨o, h1⟩ := p
    simp only [hal, Option.some.injEq, Prod.mk.injEq] at ha
    obtain ⟨rfl, rfl⟩ := ha
    obtain ⟨hl, hg⟩ := hv.of_list
    obtain ⟨r1, r2, r3⟩ := hr.allocCells hal v.cells w.drawn hl hg
    refine ⟨.value (.pointer (some ⟨w.heap.size, 0, none⟩)), _, _, by simp [run_newVar], .inl ⟨_, rfl, ?_⟩, r1, r2⟩
    simp only [VR]
    exact ⟨w.heap.size, 0, K.with_self _ _ _, rfl⟩

theorem foldl_setL : ∀ (vs : List Value) (cells : Array Value) (off j : Nat), (vs.zipIdx j).foldl (fun (cs : Array Value) (p : Value × Nat) => cs.setIfInBounds (off + p.2) p.1) cells = setL cells (off + j) vs
  | [], _, _, _ => rfl
  | v :: r, cells, off, j => by
    rw [List.zipIdx_cons, List.foldl_cons, foldl_setL r _ off (j + 1), setL]
    congr 1

theorem foldl_setL' (vs : Array Value) (cells : Array Value) (off : Nat) : vs.zipIdx.foldl (fun cs (c, j) => cs.setIfInBounds (off + j) c) cells = setL cells off vs.toList := by
  rw [← Array.foldl_toList]
  have := foldl_setL vs.toList cells off 0
  simpa using this

theorem setL_VRL {k : K} {w : World} {cs xs r : List AV} {off : Nat} (h : splice cs off xs = some r) {arr : Array Value} {vs : List Value} (h1 : VRL k w cs arr.toList) (h2 : VRL k w xs vs) : VRL k w r (setL arr off vs).toList := by
  obtain ⟨g1, g2, g3⟩ := splice_get h
  have l1 := h1.length
  have l2 := h2.length
  simp only [Array.length_toList] at l1
  refine VRL.of_get (by simp [setL_size, g2, l1]) fun i x v hx hv => ?_
  rw [g3] at hx
  have hv' : (setL arr off vs)[i]? = some v := by simpa using hv
  rw [setL_get] at hv'
  by_cases hi : off ≤ i ∧ i < off + xs.length
  · rw [if_pos hi] at hx
    rw [if_pos (by omega)] at hv'
    obtain ⟨u, h3, h4⟩ := h2.get _ _ hx
    rw [h3] at hv'; cases hv'; exact h4
  · rw [if_neg hi] at hx
    rw [if_neg (by omega)] at hv'
    obtain ⟨u, h3, h4⟩ := h1.get _ _ hx
    have : arr[i]? = some u := by simpa using h3
    rw [this] at hv'; cases hv'; exact h4

def PartsR (k : K) (w : World) : List (Nat × AV) → List (Nat × Value) → Prop
  | [], ps => ps = []
  | (i, x) :: r, ps => ∃ v ps', ps = (i, v) :: ps' ∧ VR k w x v ∧ PartsR k w r ps'

theorem fillA_sound {k : K} {w : World} {place : Nat → Option (Nat × Nat)} : ∀ {ps : List (Nat × AV)} {cells r : List AV} {qs : List (Nat × Value)} {arr : Array Value}, fillA place cells ps = some r → VRL k w cells arr.toList → PartsR k w ps qs →
    ∃ arr', Instr.fill place arr qs = some arr' ∧ VRL k w r arr'.toList
  | [], cells, r, qs, arr, h, hc, hp => by
    simp only [fillA, Option.some.injEq] at h
    simp only [PartsR] at hp
    subst h hp
    exact ⟨arr, rfl, hc⟩
  | (i, x) :: ps, cells, r, qs, arr, h, hc, hp => by
    simp only [PartsR] at hp
    obtain ⟨v, qs', rfl, hv, hp'⟩ := hp
    simp only [fillA] at h
    cases hpl : place i with
    | none => simp [hpl] at h
    | some os =>
      obtain ⟨off, size⟩ := os
      simp only [hpl] at h
      cases hb : (Nat.beq x.cells.length size && AV.allCell x.cells) with
      | false => simp [hb] at h
      | true =>
        simp only [hb, cond_true] at h
        simp only [Bool.and_eq_true] at hb
        obtain ⟨hcl, _⟩ := hv.cells hb.2
        have hn := Nat.eq_of_beq_eq_true hb.1
        cases hs : splice cells off x.cells with
        | none => simp [hs] at h
        | some cs =>
          simp only [hs] at h
          obtain ⟨arr', h1, h2⟩ := fillA_sound h (setL_VRL hs hc hcl) hp'
          refine ⟨arr', ?_, h2⟩
          have hlen := hcl.length
          obtain ⟨g1, _, _⟩ := splice_get hs
          have hcc := hc.length
          simp only [Array.length_toList] at hlen hcc
          simp only [Instr.fill, hpl]
          rw [if_neg (by simp; omega), foldl_setL']
          exact h1

theorem partsR_map' {k : K} {w : World} {ev : Operand → AV} {ρ : Operand → Value} (hev : ∀ x, VR k w (ev x) (ρ x)) : ∀ ps : List (Nat × Operand), PartsR k w (ps.map fun p => (p.1, ev p.2)) (ps.map fun p => (p.1, ρ p.2))
  | [] => by simp only [List.map_nil, PartsR]
  | (j, x) :: r => by simp only [List.map_cons, PartsR]; exact ⟨_, _, rfl, hev x, partsR_map' hev r⟩
theorem partsR_map {k : K} {w : World} {ev : Operand → AV} {ρ : Operand → Value} (hev : ∀ x, VR k w (ev x) (ρ x)) (ps : Array (Nat × Operand)) : PartsR k w (evParts ev ps) (ps.toList.map fun p => (p.1, ρ p.2)) := partsR_map' hev _

theorem repl_get (z : List AV) : ∀ (n i : Nat), i < n * z.length → (repl z n)[i]? = z[i % z.length]?
  | 0, i, h => by simp at h
  | n + 1, i, h => by
    rw [repl, List.getElem?_append]
    have h2 : (n + 1) * z.length = n * z.length + z.length := by rw [Nat.succ_mul]
    by_cases hi : i < z.length
    · rw [if_pos hi, Nat.mod_eq_of_lt hi]
    · rw [if_neg hi, repl_get z n _ (by omega)]
      rw [← Nat.mod_eq_sub_mod (by omega)]

theorem repl_length (z : List AV) : ∀ n, (repl z n).length = n * z.length
  | 0 => by simp [repl]
  | n + 1 => by rw [repl, List.length_append, repl_length z n, Nat.succ_mul]; omega

theorem repl_VRL {k : K} {w : World} {zc : List AV} {z : Array Value} (hz : VRL k w zc z.toList) (n : Nat) : VRL k w (repl zc n) ((Array.range (n * z.size)).map (z[· % z.size]!)).toList := by
  have hl := hz.length
  simp only [Array.length_toList] at hl
  refine VRL.of_get (by simp [repl_length, hl]) fun i x v hx hv => ?_
  have hi : i < n * z.size := by
    have := (List.getElem?_eq_some_iff.1 hx).1
    rw [repl_length, ← hl] at this; exact this
  rw [repl_get zc n i (by rw [← hl]; exact hi)] at hx
  have hpos : 0 < z.size := by
    rcases Nat.eq_zero_or_pos z.size with h0 | h0
    · rw [h0] at hi; simp at hi
    · exact h0
  obtain ⟨u, h1, h2⟩ := hz.get _ _ hx
  have hlt : i % z.size < z.size := Nat.mod_lt _ hpos
  have e : v = z[i % z.size]! := by
    simp [hi] at hv
    rw [← hv]
  rw [← hl] at h1
  have : z[i % z.size]? = some u := by simpa using h1
  rw [e, getElem!_pos z _ hlt]
  rw [Array.getElem?_eq_getElem hlt] at this
  cases this
  exact h2

end Go.Ab

namespace Go.Ab
open Go

section
variable {P : Program} {E : Env} {k : K} {h h' : AH} {w : World} {v' : AV}

theorem OpOut.val (hr : HR k h w) {s : Sem Value} {v : Value} (hs : s.run P w = .ok v w) (hv : VR k w v' v) : OpOut k h w v' h ((do Pure.pure (Next.value (← s)) : Sem Next).run P w) :=
  ⟨_, w, k, by simp [hs], .inl ⟨v, rfl, hv⟩, hr, Ev.refl _ _ _⟩

theorem OpOut.val' (hr : HR k h w) {s : Sem Value} (hs : ∃ v, s.run P w = .ok v w ∧ VR k w v' v) : OpOut k h w v' h ((do Pure.pure (Next.value (← s)) : Sem Next).run P w) :=
  let ⟨_, h1, h2⟩ := hs; .val hr h1 h2

theorem OpOut.unit {k' : K} {w' : World} {s : Sem Unit} (hs : s.run P w = .ok () w') (hr : HR k' h' w') (he : Ev k k' h h' w w') : OpOut k h w undefA h' ((do s; Pure.pure Next.skip : Sem Next).run P w) :=
  ⟨_, w', k', by simp [hs], .inr ⟨rfl, rfl⟩, hr, he⟩

theorem OpOut.valG {k' : K} {w' : World} {s : Sem Value} {v : Value} (hs : s.run P w = .ok v w') (hr : HR k' h' w') (he : Ev k k' h h' w w') (hv : VR k' w' v' v) : OpOut k h w v' h' ((do Pure.pure (Next.value (← s)) : Sem Next).run P w) :=
  ⟨_, w', k', by simp [hs], .inl ⟨v, rfl, hv⟩, hr, he⟩

variable {ev : Operand → AV} {ρ : Operand → Value}

theorem op_alloc (hE : EnvOk P E) (hr : HR k h w) {e : TypeId} (ho : opA E (.alloc e) ev h = some (v', h')) : OpOut k h w v' h' ((do pure (Next.value (← Instr.alloc e true (.tuple #[]))) : Sem Next).run P w) := by
  simp only [opA] at ho
  cases ht : E.ty e with
  | none => simp [ht] at ho
  | some i =>
    simp only [ht] at ho
    obtain ⟨z, h1, h2, h3⟩ := run_zero hE ht w
    have hz := ((h2 k w).cells (hE.ty e i ht).zero).1
    have := allocA_sound (P := P) hr ho hz
    simpa [Instr.alloc, h1] using this

theorem op_box (hr : HR k h w) (hev : ∀ x, VR k w (ev x) (ρ x)) {e : TypeId} {x : Operand} (ho : opA E (.box e x) ev h = some (v', h')) : OpOut k h w v' h' ((do pure (Next.value (← Instr.box e (ρ x))) : Sem Next).run P w) := by
  simp only [opA] at ho
  cases hb : AV.allCell (ev x).cells with
  | false => simp [hb] at ho
  | true =>
    simp only [hb, cond_true] at ho
    have := allocA_sound (P := P) hr ho ((hev x).cells hb).1
    simpa [Instr.box] using this

theorem mapM_sizes (hE : EnvOk P E) : ∀ (fs : List Field), fs.all (fun f => (E.ty f.type).isSome) = true → (fs.mapM (fun f => do pure (f.offset, ← sizeOf f.type) : Field → Sem (Nat × Nat))).run P w = .ok (fs.map fun f => (f.offset, ((E.ty f.type).map (·.size)).getD 0)) w
  | [], _ => by simp
  | f :: fs, hf => by
    simp only [List.all_cons, Bool.and_eq_true] at hf
    obtain ⟨i, hi⟩ := Option.isSome_iff_exists.1 hf.1
    have ih := mapM_sizes hE fs hf.2
    simp only [List.mapM_cons, Sem.run_bind, run_size hE hi, Result.andThen_ok, Sem.run_pure, ih, List.map_cons, hi, Option.map_some, Option.getD_some]

theorem ps_list (ρ : Operand → Value) (ps : Array (Nat × Operand)) : (ps.map fun (i, x) => (i, ρ x)).toList = ps.toList.map fun p => (p.1, ρ p.2) := by simp

theorem op_build (hE : EnvOk P E) (hr : HR k h w) (hev : ∀ x, VR k w (ev x) (ρ x)) {t : TypeId} {ps : Array (Nat × Operand)} (ho : opA E (.build t ps) ev h = some (v', h')) :
    OpOut k h w v' h' ((do pure (Next.value (← Instr.build t (ps.map fun (i, x) => (i, ρ x)))) : Sem Next).run P w) := by
  simp only [opA] at ho
  cases ht : E.ty t with
  | none => simp [ht] at ho
  | some i =>
    simp only [ht] at ho
    obtain ⟨z, h1, h2, h3⟩ := run_zero hE ht w
    have hz := ((h2 k w).cells (hE.ty t i ht).zero).1
    have hu := run_und hE ht w
    have hp := partsR_map hev ps
    cases hund : i.und <;> simp only [hund] at ho <;> try (cases ho; done)
    case array n el =>
      cases hel : E.ty el with
      | none => simp [hel] at ho
      | some ei =>
        simp only [hel] at ho
        cases hf : fillA (fun j => some (j * ei.size, ei.size)) i.zero.cells (evParts ev ps) with
        | none => simp [hf] at ho
        | some cs =>
          simp only [hf, Option.map_some, Option.some.injEq, Prod.mk.injEq] at ho
          obtain ⟨rfl, rfl⟩ := ho
          obtain ⟨arr, h4, h5⟩ := fillA_sound hf hz hp
          refine .val hr (v := .agg arr) ?_ (by simp only [VR]; exact ⟨_, rfl, h5⟩)
          simp only [Instr.build, Sem.run_bind, h1, Result.andThen_ok, hu, hund, run_size hE hel]
          rw [ps_list, h4]
          rfl
    case struct fields =>
      cases hall : fields.toList.all fun f => (E.ty f.type).isSome with
      | false => simp only [hall, cond_false] at ho; cases ho
      | true =>
        simp only [hall, cond_true] at ho
        cases hf : fillA (structPlace E fields) i.zero.cells (evParts ev ps) with
        | none => simp [hf] at ho
        | some cs =>
          simp only [hf, Option.map_some, Option.some.injEq, Prod.mk.injEq] at ho
          obtain ⟨rfl, rfl⟩ := ho
          obtain ⟨arr, h4, h5⟩ := fillA_sound hf hz hp
          refine .val hr (v := .agg arr) ?_ (by simp only [VR]; exact ⟨_, rfl, h5⟩)
          have hm := mapM_sizes (P := P) (w := w) hE fields.toList hall
          have hm' : (fields.mapM (fun f => do pure (f.offset, ← sizeOf f.type) : Field → Sem (Nat × Nat))).run P w = .ok ((fields.toList.map fun f => (f.offset, ((E.ty f.type).map (·.size)).getD 0)).toArray) w := by
            rw [Array.mapM_eq_mapM_toList, Sem.run_map, hm]
            rfl
          simp only [Instr.build, Sem.run_bind, h1, Result.andThen_ok, hu, hund, hm']
          rw [ps_list]
          have e : (fun x => (fields.toList.map fun f => (f.offset, ((E.ty f.type).map (·.size)).getD 0)).toArray[x]?) = structPlace E fields := by
            funext j
            simp [structPlace]
            cases fields[j]? <;> rfl
          rw [e, h4]
          rfl

theorem fillA_length {place : Nat → Option (Nat × Nat)} : ∀ {ps : List (Nat × AV)} {cells r : List AV}, fillA place cells ps = some r → r.length = cells.length
  | [], cells, r, hh => by simp only [fillA, Option.some.injEq] at hh; rw [hh]
  | (qi, qx) :: qs, cells, r, hh => by
    simp only [fillA] at hh
    cases hpl : place qi with
    | none => simp [hpl] at hh
    | some os =>
      simp only [hpl] at hh
      cases hbb : (Nat.beq qx.cells.length os.2 && AV.allCell qx.cells) with
      | false => simp only [hbb, cond_false] at hh; cases hh
      | true =>
        simp only [hbb, cond_true] at hh
        cases hs : splice cells os.1 qx.cells with
        | none => simp [hs] at hh
        | some c2 => simp only [hs] at hh; rw [fillA_length hh, (splice_get hs).2.1]

/-- The new row of 'len' elements, by the model's own words. -/
def zeroRow (len size : Nat) (z : Array Value) : Array Value := (Array.range (len * size)).map (z[· % z.size]!)

theorem run_zeroRow (hE : EnvOk P E) {el : TypeId} {ei : TI} (hel : E.ty el = some ei) (len : Nat) (w : World) :
    ∃ z : Array Value, (len * ei.size = 0 → z = #[]) ∧ (len * ei.size ≠ 0 → ∃ zv : Value, (zeroValue el).run P w = .ok zv w ∧ z = zv.cells) ∧
      (∀ k w, VRL k w (repl ei.zero.cells len) (zeroRow len ei.size z).toList) ∧ (zeroRow len ei.size z).size = len * ei.size := by
  obtain ⟨z, z1, z2, z3⟩ := run_zero hE hel w
  by_cases h0 : len * ei.size = 0
  · refine ⟨#[], fun _ => rfl, fun h => absurd h0 h, fun k w => ?_, by simp [zeroRow]⟩
    have hl : (repl ei.zero.cells len) = [] := by
      apply List.eq_nil_of_length_eq_zero
      rw [repl_length]
      have := ((z2 k w).cells (hE.ty el ei hel).zero).1.length
      simp only [Array.length_toList] at this
      rw [← this, z3, h0]
    rw [hl]
    simp only [VRL, zeroRow, h0]
    simp
  · refine ⟨z.cells, fun h => absurd h h0, fun _ => ⟨z, z1, rfl⟩, fun k w => ?_, by simp [zeroRow]⟩
    have hz := ((z2 k w).cells (hE.ty el ei hel).zero).1
    have := repl_VRL hz len
    rw [z3] at this
    unfold zeroRow
    rw [z3]
    exact this

theorem op_buildSlice (hE : EnvOk P E) (hr : HR k h w) (hev : ∀ x, VR k w (ev x) (ρ x)) {t : TypeId} {len : Nat} {ps : Array (Nat × Operand)} (ho : opA E (.buildSlice t len ps) ev h = some (v', h')) :
    OpOut k h w v' h' ((do pure (Next.value (← Instr.buildSlice t len (ps.map fun (i, x) => (i, ρ x)))) : Sem Next).run P w) := by
  simp only [opA] at ho
  split at ho
  case h_2 => cases ho
  rename_i el _ _ _ _ ht
  have hu := run_und hE ht w
  cases hel : E.ty el with
  | none => simp [hel] at ho
  | some ei =>
    simp only [hel] at ho
    cases hf : fillA (fun j => some (j * ei.size, ei.size)) (repl ei.zero.cells len) (evParts ev ps) with
    | none => simp [hf] at ho
    | some cs =>
      simp only [hf] at ho
      cases hb : (AV.allCell cs && Nat.ble (len * ei.size) 65536) with
      | false => simp only [hb, cond_false] at ho; cases ho
      | true =>
        simp only [hb, cond_true] at ho
        simp only [Bool.and_eq_true] at hb
        have hle := Nat.le_of_ble_eq_true hb.2
        cases hal : h.alloc (.cells el cs) with
        | none => simp [hal] at ho
        | some p =>
          obtain ⟨o, h1⟩ := p
          simp only [hal, Option.some.injEq, Prod.mk.injEq] at ho
          obtain ⟨rfl, rfl⟩ := ho
          obtain ⟨z, z0, z1, z2, z3⟩ := run_zeroRow (P := P) hE hel len w
          have hp := partsR_map hev ps
          obtain ⟨arr, h4, h5⟩ := fillA_sound hf (z2 k w) hp
          obtain ⟨hl, hg⟩ := h5.of_list
          obtain ⟨r1, r2, r3⟩ := hr.allocCells hal arr w.drawn hl hg
          have hrun : (Instr.buildSlice t len (ps.map fun (i, x) => (i, ρ x))).run P w = .ok (.slice (some ⟨w.heap.size, 0, none⟩) len len) { w with heap := w.heap.push (.cells arr el) } := by
            simp only [Instr.buildSlice, Sem.run_bind, hu, Result.andThen_ok, run_size hE hel]
            rw [if_neg (by omega)]
            unfold zeroRow at h4
            by_cases h0 : len * ei.size = 0
            · have := z0 h0; subst this
              rw [if_pos h0]
              simp only [Sem.run_bind, Sem.run_pure, Result.andThen_ok]
              rw [ps_list, h4]
              simp [newRow]
            · obtain ⟨zv, z4, rfl⟩ := z1 h0
              rw [if_neg h0]
              simp only [Sem.run_bind, Sem.run_pure, Result.andThen_ok, z4]
              rw [ps_list, h4]
              simp [newRow]
          refine .valG hrun r1 r2 ?_
          simp only [VR]
          refine ⟨w.heap.size, 0, len, arr, el, (0, 0), K.with_self _ _ _, rfl, Nat.le_refl _, (fun n hn => by cases hn; rfl), r3, ?_⟩
          have e1 := h5.length
          have e2 := (z2 k w).length
          have e3 := fillA_length hf
          simp only [Array.length_toList] at e1 e2
          rw [z3] at e2
          omega

end

end Go.Ab

namespace Go.Ab
open Go

section
variable {P : Program} {E : Env} {k : K} {h h' : AH} {w : World} {v' : AV} {ev : Operand → AV} {ρ : Operand → Value}

theorem op_load (hE : EnvOk P E) (hr : HR k h w) (hev : ∀ x, VR k w (ev x) (ρ x)) {t : TypeId} {a : Operand} (ho : opA E (.load t a) ev h = some (v', h')) :
    OpOut k h w v' h' ((do pure (Next.value (← Instr.loadAt t (ρ a))) : Sem Next).run P w) := by
  simp only [opA] at ho
  cases ht : E.ty t with
  | none => simp [ht] at ho
  | some i =>
    simp only [ht, one] at ho
    cases hl : loadA i h (ev a) with
    | none => simp [hl] at ho
    | some v =>
      simp only [hl, Option.map_some, Option.some.injEq, Prod.mk.injEq] at ho
      obtain ⟨rfl, rfl⟩ := ho
      obtain ⟨ad, u, h1, h2, h3⟩ := loadA_sound hE ht hr (hev a) hl
      exact .val hr (by simp [Instr.loadAt, Instr.sureAddr, h1, h2]) h3

theorem op_store (hE : EnvOk P E) (hr : HR k h w) (hev : ∀ x, VR k w (ev x) (ρ x)) {t : TypeId} {a x : Operand} (ho : opA E (.store t a x) ev h = some (v', h')) :
    OpOut k h w v' h' ((do Instr.storeAt t (ρ a) (ρ x); pure Next.skip : Sem Next).run P w) := by
  simp only [opA] at ho
  cases ht : E.ty t with
  | none => simp [ht] at ho
  | some i =>
    simp only [ht, two] at ho
    cases hl : storeA i h (ev a) (ev x) with
    | none => simp [hl] at ho
    | some h1 =>
      simp only [hl, Option.map_some, Option.some.injEq, Prod.mk.injEq] at ho
      obtain ⟨rfl, rfl⟩ := ho
      obtain ⟨ad, w', e1, e2, e3, e4⟩ := storeA_sound hE ht hr (hev a) (hev x) hl
      exact .unit (by simp [Instr.storeAt, Instr.sureAddr, e1, e2]) e3 e4

theorem op_nilCheck (hr : HR k h w) (hev : ∀ x, VR k w (ev x) (ρ x)) {x : Operand} {o : Oper} (hop : o.op = .nilCheck x) (ho : opA E (.nilCheck x) ev h = some (v', h')) :
    OpOut k h w v' h' ((execOp ρ o).run P w) := by
  have hx := hev x
  simp only [opA] at ho
  simp only [execOp, hop]
  split at ho
  case h_1 o off he =>
    cases ho
    rw [he] at hx
    simp only [VR] at hx
    obtain ⟨b, sh, h1, h2⟩ := hx
    rw [h2]
    exact .pure hr (by simp only [VR]; exact ⟨b, sh, h1, rfl⟩)
  case h_2 cs off he =>
    cases ho
    rw [he] at hx
    have hx' := hx
    simp only [VR] at hx
    obtain ⟨b, sh, h1, _⟩ := hx
    rw [h1] at hx' ⊢
    exact .pure hr hx'
  case h_3 t v he =>
    cases ho
    rw [he] at hx
    have hx' := hx
    simp only [VR] at hx
    obtain ⟨y, h1, _⟩ := hx
    rw [h1] at hx' ⊢
    exact .pure hr hx'
  case h_4 f a b he =>
    cases ho
    rw [he] at hx
    have hx' := hx
    simp only [VR] at hx
    obtain ⟨y, z, h1, _⟩ := hx
    rw [h1] at hx' ⊢
    exact .pure hr hx'
  case h_5 => cases ho

theorem guard_const {op : BinOp} {t : TypeId} {x y : Operand} (hc : (isConstO x || isConstO y) = true) (w : World) : (eqGuard op t x y .nilIface .nilIface).run P w = .ok () w := by
  cases op <;> first
    | rfl
    | (cases x <;> cases y <;> first | (simp [isConstO] at hc; done) | (simp [eqGuard]; done) | rfl)

theorem op_bin (hE : EnvOk P E) (hr : HR k h w) (hev : ∀ x, VR k w (ev x) (ρ x)) {op : BinOp} {t t2 : TypeId} {x y : Operand} (ho : opA E (.binOp op t x y t2) ev h = some (v', h')) :
    OpOut k h w v' h' ((do pure (Next.value (← (do eqGuard op t x y (ρ x) (ρ y); binOp op t (ρ x) (ρ y) : Sem Value))) : Sem Next).run P w) := by
  have hx := hev x
  have hy := hev y
  simp only [opA] at ho
  split at ho
  case h_1 he1 he2 =>
    rw [he1] at hx; rw [he2] at hy
    simp only [VR] at hx hy
    rw [hx, hy]
    cases hc : (isConstO x || isConstO y) with
    | false => simp only [hc, cond_false] at ho; cases ho
    | true =>
      simp only [hc, cond_true] at ho
      split at ho
      case h_2 => cases ho
      rename_i ms _ _ _ _ ht
      have hu := run_und hE ht w
      have hg : ∀ op, (eqGuard op t x y .nilIface .nilIface).run P w = .ok () w := fun op => guard_const hc w
      have hq : (Op.equal t .nilIface .nilIface).run P w = .ok true w := run_equal_of fun d => by simp [Op.equalIn, hu]
      split at ho
      case h_1 =>
        cases ho
        refine .val hr (v := .bool true) ?_ (by simp only [VR])
        simp only [Sem.run_bind, hg, Result.andThen_ok]
        show (do pure (Value.bool (← Op.equal t .nilIface .nilIface)) : Sem Value).run P w = _
        simp [hq]
      case h_2 =>
        cases ho
        refine .val hr (v := .bool false) ?_ (by simp only [VR])
        simp only [Sem.run_bind, hg, Result.andThen_ok]
        show (do pure (Value.bool (!(← Op.equal t .nilIface .nilIface))) : Sem Value).run P w = _
        simp [hq]
      case h_3 => cases ho
  case h_2 =>
    simp only [one] at ho
    cases hb : binA E op t (ev x) (ev y) with
    | none => simp [hb] at ho
    | some v =>
      simp only [hb, Option.map_some, Option.some.injEq, Prod.mk.injEq] at ho
      obtain ⟨rfl, rfl⟩ := ho
      exact .val' hr (binA_sound hE hx hy hb)

theorem op_un (hr : HR k h w) (hev : ∀ x, VR k w (ev x) (ρ x)) {op : UnOp} {t : TypeId} {x : Operand} (ho : opA E (.unOp op t x) ev h = some (v', h')) :
    OpOut k h w v' h' ((do pure (Next.value (← Op.unary op (ρ x))) : Sem Next).run P w) := by
  simp only [opA, one] at ho
  cases hb : unA op (ev x) with
  | none => simp [hb] at ho
  | some v =>
    simp only [hb, Option.map_some, Option.some.injEq, Prod.mk.injEq] at ho
    obtain ⟨rfl, rfl⟩ := ho
    exact .val' hr (unA_sound (hev x) hb)

theorem op_makeInterface (hE : EnvOk P E) (hr : HR k h w) (hev : ∀ x, VR k w (ev x) (ρ x)) {t : TypeId} {x : Operand} (ho : opA E (.makeInterface t x) ev h = some (v', h')) :
    OpOut k h w v' h' ((do pure (Next.value (← Instr.makeInterface t (ρ x))) : Sem Next).run P w) := by
  simp only [opA] at ho
  cases ht : E.ty t with
  | none => simp [ht] at ho
  | some i =>
    simp only [ht] at ho
    have hu := run_und hE ht w
    have hx := hev x
    have fin : (∀ ms, i.und ≠ .interface ms) → v' = .iface t (ev x) → h' = h → OpOut k h w v' h' ((do pure (Next.value (← Instr.makeInterface t (ρ x))) : Sem Next).run P w) := by
      intro h1 h2 h3
      subst h2 h3
      refine .val hr (v := .iface t (ρ x)) ?_ (by simp only [VR]; exact ⟨_, rfl, hx⟩)
      simp only [Instr.makeInterface, Sem.run_bind, hu, Result.andThen_ok]
      cases hund : i.und <;> first | rfl | exact absurd hund (h1 _)
    cases hund : i.und <;> simp only [hund] at ho <;> first
      | (cases ho; done)
      | (simp only [Option.some.injEq, Prod.mk.injEq] at ho; exact fin (by simp [hund]) ho.1.symm ho.2.symm)

theorem VRL.map (hev : ∀ x, VR k w (ev x) (ρ x)) : ∀ xs : List Operand, VRL k w (xs.map ev) (xs.map ρ)
  | [] => by simp only [List.map_nil, VRL]
  | x :: xs => by simp only [List.map_cons, VRL]; exact ⟨_, _, rfl, hev x, VRL.map hev xs⟩

theorem op_makeFunc (hr : HR k h w) (hev : ∀ x, VR k w (ev x) (ρ x)) {fn : Fn} {first cap : Array Operand} (ho : opA E (.makeFunc fn first cap) ev h = some (v', h')) :
    OpOut k h w v' h' ((do pure (Next.value (← Instr.makeFunc fn (first.map ρ) (cap.map ρ))) : Sem Next).run P w) := by
  simp only [opA] at ho
  cases fn <;> simp only at ho <;> try (cases ho; done)
  all_goals
    simp only [Option.some.injEq, Prod.mk.injEq] at ho
    obtain ⟨rfl, rfl⟩ := ho
    refine .val hr (v := .func _ (first.map ρ) (cap.map ρ)) rfl ?_
    simp only [VR]
    exact ⟨_, _, rfl, by simpa using VRL.map hev first.toList, by simpa using VRL.map hev cap.toList⟩

theorem op_makeMap (hr : HR k h w) {t : TypeId} {r : Option Operand} (ho : opA E (.makeMap t r) ev h = some (v', h')) :
    OpOut k h w v' h' ((do pure (Next.value (← Instr.makeMap t (r.map ρ))) : Sem Next).run P w) := by
  simp only [opA] at ho
  split at ho
  case h_2 => cases ho
  split at ho
  case h_2 => cases ho
  cases hal : h.alloc (.map [] 0) with
  | none => simp [hal] at ho
  | some p =>
    obtain ⟨o, h1⟩ := p
    simp only [hal, Option.some.injEq, Prod.mk.injEq] at ho
    obtain ⟨rfl, rfl⟩ := ho
    obtain ⟨r1, r2, _⟩ := hr.alloc hal (.map #[] 0) w.drawn (fun le => ⟨rfl, #[], by simp, by simp [MR]⟩)
    refine .valG (v := .map (some w.heap.size)) ?_ r1 r2 ?_
    · simp [Instr.makeMap]
    · simp only [VR]; exact ⟨_, K.with_self _ _ _, rfl⟩

theorem asNat_int {x : AV} {n : Nat} (hx : asNat x = some n) {v : Value} (hv : VR k w x v) : ∃ kd, v = .int kd (n : Int) := by
  cases x <;> simp only [asNat] at hx <;> try (cases hx; done)
  rename_i kd m
  cases m with
  | ofNat m => simp only [Option.some.injEq] at hx; subst hx; simp only [VR] at hv; exact ⟨kd, hv⟩
  | negSucc m => simp at hx

theorem wrap_small {n : Nat} (hn : n < 2 ^ 62) : IntKind.i64.wrap (n : Int) = n := by
  unfold IntKind.wrap
  have h1 : (n : Int) % (2 ^ IntKind.i64.bits : Int) = n := by
    apply Int.emod_eq_of_lt (by omega)
    show (n : Int) < 18446744073709551616
    omega
  simp only [h1]
  rw [if_neg]
  simp
  intro _
  show (n : Int) < 9223372036854775808
  omega

theorem op_makeSlice (hE : EnvOk P E) (hr : HR k h w) (hev : ∀ x, VR k w (ev x) (ρ x)) {t : TypeId} {l c : Operand} (ho : opA E (.makeSlice t l c) ev h = some (v', h')) :
    OpOut k h w v' h' ((do pure (Next.value (← Instr.makeSlice t (ρ l) (ρ c))) : Sem Next).run P w) := by
  simp only [opA] at ho
  split at ho
  case h_2 => cases ho
  rename_i el _ _ _ _ ht
  have hu := run_und hE ht w
  cases hel : E.ty el with
  | none => simp [hel] at ho
  | some ei =>
    simp only [hel] at ho
    cases hln : asNat (ev l) with
    | none => simp [hln] at ho
    | some ln =>
    cases hcn : asNat (ev c) with
    | none => simp [hln, hcn] at ho
    | some cn =>
      simp only [hln, hcn] at ho
      cases hb : (Nat.ble ln cn && Nat.ble cn 1048576 && Nat.ble ei.bytes 4096 && AV.allCell ei.zero.cells) with
      | false => simp only [hb, cond_false] at ho; cases ho
      | true =>
        simp only [hb, cond_true] at ho
        simp only [Bool.and_eq_true] at hb
        obtain ⟨⟨⟨hb1, hb2⟩, hb3⟩, hb4⟩ := hb
        have hb1 := Nat.le_of_ble_eq_true hb1
        have hb2 := Nat.le_of_ble_eq_true hb2
        have hb3 := Nat.le_of_ble_eq_true hb3
        cases hal : h.alloc (.cells el (repl ei.zero.cells cn)) with
        | none => simp [hal] at ho
        | some p =>
          obtain ⟨o, h1⟩ := p
          simp only [hal, Option.some.injEq, Prod.mk.injEq] at ho
          obtain ⟨rfl, rfl⟩ := ho
          obtain ⟨z, z0, z1, z2, z3⟩ := run_zeroRow (P := P) hE hel cn w
          obtain ⟨hl, hg⟩ := (z2 k w).of_list
          obtain ⟨r1, r2, r3⟩ := hr.allocCells hal (zeroRow cn ei.size z) w.drawn hl hg
          obtain ⟨kl, el1⟩ := asNat_int hln (hev l)
          obtain ⟨kc, ec1⟩ := asNat_int hcn (hev c)
          obtain ⟨inf, i1, i2, i3⟩ := run_bytes hE hel w
          have hbn : ((inf.bytes : Int) * cn) ≤ 2 ^ 48 := by
            rw [i2]
            have : ei.bytes * cn ≤ 4096 * 1048576 := Nat.mul_le_mul hb3 hb2
            have h2 : ((ei.bytes * cn : Nat) : Int) ≤ 4096 * 1048576 := by omega
            rw [Int.natCast_mul] at h2
            omega
          have hrun : (Instr.makeSlice t (ρ l) (ρ c)).run P w = .ok (.slice (some ⟨w.heap.size, 0, none⟩) ln cn) { w with heap := w.heap.push (.cells (zeroRow cn ei.size z) el) } := by
            simp only [Instr.makeSlice, Sem.run_bind, hu, Result.andThen_ok, el1, ec1, asInt, asIntOf, Sem.run_pure, i1, wrap_small (show ln < 2 ^ 62 by omega), wrap_small (show cn < 2 ^ 62 by omega)]
            rw [if_neg (by
              simp only [Bool.or_eq_true, decide_eq_true_eq, not_or, Int.not_lt]
              refine ⟨⟨⟨by omega, hbn⟩, by omega⟩, by omega⟩)]
            simp only [Sem.run_bind, run_askRoom, run_size hE hel, Result.andThen_ok, Int.toNat_natCast]
            by_cases h0 : cn * ei.size = 0
            · have := z0 h0; subst this
              rw [if_pos h0]
              simp [newRow, zeroRow]
            · obtain ⟨zv, z4, rfl⟩ := z1 h0
              rw [if_neg h0]
              simp [newRow, zeroRow, z4]
          refine .valG hrun r1 r2 ?_
          simp only [VR]
          refine ⟨w.heap.size, 0, cn, zeroRow cn ei.size z, el, (0, 0), K.with_self _ _ _, rfl, hb1, (fun n hn => by cases hn; rfl), r3, ?_⟩
          rw [z3]; omega

end

end Go.Ab

namespace Go.Ab
open Go

section
variable {P : Program} {E : Env} {k : K} {h h' : AH} {w : World} {v' : AV} {ev : Operand → AV} {ρ : Operand → Value}

def NumR (d n : Nat) (v : Option Value) : Prop := (v = none ∧ n = d) ∨ ∃ kd, v = some (.int kd (n : Int))

theorem numA_sound (hev : ∀ x, VR k w (ev x) (ρ x)) {d n : Nat} {x : Option Operand} (hn : numA d (x.map ev) = some n) : NumR d n (x.map ρ) := by
  cases x with
  | none => simp only [Option.map_none, numA, Option.some.injEq] at hn; exact .inl ⟨rfl, hn.symm⟩
  | some x =>
    simp only [Option.map_some, numA] at hn
    obtain ⟨kd, h1⟩ := asNat_int hn (hev x)
    exact .inr ⟨kd, by simp [h1]⟩

theorem run_sliceBound {kd : IntKind} {n y : Nat} {code : BoundsCode} (hn : n ≤ y) : (Instr.sliceBound (.int kd (n : Int)) y code).run P w = .ok n w := by
  simp only [Instr.sliceBound, asIntOf, Sem.run_bind, Sem.run_pure, Result.andThen_ok]
  rw [if_pos (by omega)]
  simp

theorem bounds_run {s : Bool} {lo hi mx : Option Value} {l u m len cap : Nat} (hl : NumR 0 l lo) (hu : NumR len u hi) (hm : NumR cap m mx) (hx : mx.isSome = true → hi.isSome = true) (h1 : l ≤ u) (h2 : u ≤ m) (h3 : m ≤ cap) :
    (Instr.sliceBounds s len cap lo hi mx).run P w = .ok (l, u, m) w := by
  rcases hl with ⟨rfl, rfl⟩ | ⟨k1, rfl⟩ <;> rcases hu with ⟨rfl, rfl⟩ | ⟨k2, rfl⟩ <;> rcases hm with ⟨rfl, rfl⟩ | ⟨k3, rfl⟩ <;> (try (simp at hx; done)) <;>
    simp only [Instr.sliceBounds, Sem.run_bind, Sem.run_pure, Result.andThen_ok, run_sliceBound h1, run_sliceBound h2, run_sliceBound h3]

theorem boundsA_sound (hev : ∀ x, VR k w (ev x) (ρ x)) {len : Nat} {cap : Option Nat} {lo hi mx : Option Operand} {l u : Nat} {m : Option Nat} (hb : boundsA len cap (lo.map ev) (hi.map ev) (mx.map ev) = some (l, u, m))
    {c : Nat} (hc : ∀ n, cap = some n → c = n) (hlc : len ≤ c) {s : Bool} : ∃ mm, (Instr.sliceBounds s len c (lo.map ρ) (hi.map ρ) (mx.map ρ)).run P w = .ok (l, u, mm) w ∧ l ≤ u ∧ u ≤ mm ∧ mm ≤ c ∧ (∀ n, m = some n → mm = n) ∧ (m = none → mm = c ∧ cap = none ∧ u ≤ len) := by
  have hg : cap.getD len ≤ c := by cases cap with
    | none => simpa using hlc
    | some n => simp [hc n rfl]
  unfold boundsA at hb
  cases h1 : numA 0 (lo.map ev) with
  | none => simp [h1] at hb
  | some l1 =>
  cases h2 : numA len (hi.map ev) with
  | none => simp [h1, h2] at hb
  | some u1 =>
    simp only [h1, h2] at hb
    have r1 := numA_sound hev h1
    have r2 := numA_sound hev h2
    cases mx with
    | none =>
      simp only [Option.map_none] at hb
      cases hbb : (Nat.ble l1 u1 && Nat.ble u1 (cap.getD len)) with
      | false => simp only [hbb, cond_false] at hb; cases hb
      | true =>
        simp only [hbb, cond_true, Option.some.injEq, Prod.mk.injEq] at hb
        simp only [Bool.and_eq_true] at hbb
        obtain ⟨rfl, rfl, rfl⟩ := hb
        have b1 := Nat.le_of_ble_eq_true hbb.1
        have b2 := Nat.le_of_ble_eq_true hbb.2
        refine ⟨c, bounds_run r1 r2 (.inl ⟨rfl, rfl⟩) (by simp) b1 (by omega) (Nat.le_refl _), b1, by omega, Nat.le_refl _, hc, fun hn => ⟨rfl, hn, ?_⟩⟩
        subst hn; simpa using b2
    | some mv =>
      simp only [Option.map_some] at hb
      cases h3 : asNat (ev mv) with
      | none => simp [h3] at hb
      | some m1 =>
        simp only [h3] at hb
        cases hbb : (Nat.ble l1 u1 && Nat.ble u1 m1 && Nat.ble m1 (cap.getD len) && (hi.map ev).isSome) with
        | false => simp only [hbb, cond_false] at hb; cases hb
        | true =>
          simp only [hbb, cond_true, Option.some.injEq, Prod.mk.injEq] at hb
          simp only [Bool.and_eq_true] at hbb
          obtain ⟨rfl, rfl, rfl⟩ := hb
          obtain ⟨⟨⟨b1, b2⟩, b3⟩, b4⟩ := hbb
          have b1 := Nat.le_of_ble_eq_true b1
          have b2 := Nat.le_of_ble_eq_true b2
          have b3 := Nat.le_of_ble_eq_true b3
          obtain ⟨kd, e⟩ := asNat_int h3 (hev mv)
          refine ⟨m1, bounds_run r1 r2 (.inr ⟨kd, by simp [e]⟩) (fun _ => by simpa using b4) b1 b2 (by omega), b1, b2, by omega, fun n hn => by cases hn; rfl, fun hn => by cases hn⟩

theorem sliceAt_slice {t : TypeId} {d : TypeDesc} (hu : P.underlying t = some d) (hd : ∀ n e, d ≠ .array n e) {x : Value} {lo hi mx : Option Value} : (Instr.sliceAt t x lo hi mx).run P w = (Instr.slice t x lo hi mx).run P w := by
  simp only [Instr.sliceAt, Sem.run_bind, run_underlying hu, Result.andThen_ok]

theorem op_slice (hE : EnvOk P E) (hr : HR k h w) (hev : ∀ x, VR k w (ev x) (ρ x)) {t : TypeId} {x : Operand} {lo hi mx : Option Operand} (ho : opA E (.slice t x lo hi mx) ev h = some (v', h')) :
    OpOut k h w v' h' ((do pure (Next.value (← Instr.sliceAt t (ρ x) (lo.map ρ) (hi.map ρ) (mx.map ρ))) : Sem Next).run P w) := by
  simp only [opA, one] at ho
  cases hs : sliceA E t (ev x) (lo.map ev) (hi.map ev) (mx.map ev) h with
  | none => simp [hs] at ho
  | some v =>
    simp only [hs, Option.map_some, Option.some.injEq, Prod.mk.injEq] at ho
    obtain ⟨rfl, rfl⟩ := ho
    have hx := hev x
    refine .val' hr ?_
    unfold sliceA at hs
    split at hs
    case h_1 s he =>
      rw [he] at hx
      simp only [VR] at hx
      obtain ⟨b, hb, hbs⟩ := hx
      split at hs
      case h_2 => cases hs
      rename_i _ _ _ _ _ ht
      have hu := (hE.ty t _ ht).und
      split at hs
      case h_2 => cases hs
      rename_i l u _ hbd hmx
      cases hs
      have hlen : b.size = s.length := by rw [← hbs]; simp
      have hmx' : mx = none := by cases mx <;> simp at hmx ⊢
      subst hmx'
      obtain ⟨mm, h1, h2, h3, h4, h5, h6⟩ := boundsA_sound (P := P) (s := false) hev hbd (c := s.length) (fun n hn => by cases hn; rfl) (Nat.le_refl _)
      refine ⟨.string (b.extract l u), ?_, ?_⟩
      · rw [sliceAt_slice hu (by simp)]
        simp only [Instr.slice, Sem.run_bind, run_underlying hu, Result.andThen_ok, hb, Option.map_none, Option.isSome_none]
        rw [hlen]
        simp only [Option.map_none] at h1
        simp [h1]
      · simp only [VR]
        refine ⟨_, rfl, ?_⟩
        rw [Lib.extract_data, List.map_take, List.map_drop, hbs]
    case h_2 he =>
      rw [he] at hx
      simp only [VR] at hx
      split at hs
      case h_2 => cases hs
      rename_i p hbd
      obtain ⟨l, u, m⟩ := p
      split at hs
      case h_2 => cases hs
      rename_i el _ _ _ _ ht
      split at hs
      case h_2 => cases hs
      rename_i ei hel
      cases hs
      have hu := (hE.ty t _ ht).und
      obtain ⟨mm, h1, h2, h3, h4, h5, h6⟩ := boundsA_sound (P := P) (s := true) hev hbd (c := 0) (fun n hn => by cases hn; rfl) (Nat.le_refl _)
      refine ⟨.slice none 0 0, ?_, by simp only [VR]⟩
      rw [sliceAt_slice hu (by simp)]
      simp only [Instr.slice, Sem.run_bind, run_underlying hu, Result.andThen_ok, hx, h1, run_size hE hel, Sem.run_pure]
      have : mm = 0 := by omega
      have : u = 0 := by omega
      have : l = 0 := by omega
      subst_vars
      simp
    case h_3 o off len sz cap he =>
      rw [he] at hx
      simp only [VR] at hx
      obtain ⟨b, sh, c, arr, e, fr, hρ, hv, hlc, hcap, hhp, hbnd⟩ := hx
      split at hs
      case h_2 => cases hs
      rename_i el _ _ _ _ ht
      split at hs
      case h_2 => cases hs
      rename_i ei hel
      have hu := (hE.ty t _ ht).und
      cases hsz : Nat.beq ei.size sz with
      | false => simp only [hsz, cond_false] at hs; cases hs
      | true =>
        obtain rfl := Nat.eq_of_beq_eq_true hsz
        simp only [hsz, cond_true] at hs
        have run : ∀ {l u mm : Nat}, (Instr.sliceBounds true len c (lo.map ρ) (hi.map ρ) (mx.map ρ)).run P w = .ok (l, u, mm) w →
            (Instr.sliceAt t (ρ x) (lo.map ρ) (hi.map ρ) (mx.map ρ)).run P w = .ok (.slice (if mm = l then some ⟨b, sh + off, none⟩ else some ⟨b, sh + off + l * ei.size, none⟩) (u - l) (mm - l)) w := by
          intro l u mm h1
          rw [sliceAt_slice hu (by simp)]
          simp only [Instr.slice, Sem.run_bind, run_underlying hu, Result.andThen_ok, hv, h1, run_size hE hel, Sem.run_pure]
          simp [add_off]
        split at hs
        case h_1 l u m hbd =>
          obtain ⟨mm, h1, h2, h3, h4, h5, h6⟩ := boundsA_sound (P := P) (s := true) hev hbd hcap hlc
          obtain rfl := h5 m rfl
          refine ⟨_, run h1, ?_⟩
          cases hml : Nat.beq mm l with
          | true =>
            obtain rfl := Nat.eq_of_beq_eq_true hml
            simp only [hml, cond_true, Option.some.injEq] at hs
            subst hs
            simp only [VR, if_true]
            have : u - mm = 0 := by omega
            exact ⟨b, sh, 0, arr, e, fr, hρ, by simp [this], Nat.le_refl _, (fun n hn => by cases hn; rfl), hhp, by omega⟩
          | false =>
            simp only [hml, cond_false, Option.some.injEq] at hs
            subst hs
            have hne := Nat.ne_of_beq_eq_false hml
            rw [if_neg hne]
            simp only [VR]
            refine ⟨b, sh, mm - l, arr, e, fr, hρ, by rw [Nat.add_assoc], by omega, (fun n hn => by cases hn; rfl), hhp, ?_⟩
            have hmul : mm * ei.size ≤ c * ei.size := Nat.mul_le_mul_right _ h4
            have hsub : l * ei.size + (mm - l) * ei.size = mm * ei.size := by rw [← Nat.add_mul]; congr 1; omega
            omega
        case h_2 l u hbd =>
          obtain ⟨mm, h1, h2, h3, h4, h5, h6⟩ := boundsA_sound (P := P) (s := true) hev hbd hcap hlc
          obtain ⟨rfl, rfl, h7⟩ := h6 rfl
          refine ⟨_, run h1, ?_⟩
          cases hll : Nat.blt l len with
          | true =>
            have hlt : l < len := Nat.le_of_ble_eq_true hll
            simp only [hll, cond_true, Option.some.injEq] at hs
            subst hs
            rw [if_neg (by omega)]
            simp only [VR]
            refine ⟨b, sh, mm - l, arr, e, fr, hρ, by rw [Nat.add_assoc], by omega, (fun n hn => by cases hn), hhp, ?_⟩
            have hsub : l * ei.size + (mm - l) * ei.size = mm * ei.size := by rw [← Nat.add_mul]; congr 1; omega
            omega
          | false =>
            simp only [hll, cond_false, Option.some.injEq] at hs
            subst hs
            have hge : ¬ l < len := fun hlt => by
              have : Nat.blt l len = true := Nat.ble_eq_true_of_le hlt
              rw [hll] at this; cases this
            have hul : u - l = 0 := by omega
            simp only [VR]
            rw [hul]
            split <;> exact ⟨_, _, rfl⟩
        case h_3 => cases hs
    case h_4 cs len cap he =>
      rw [he] at hx
      simp only [VR] at hx
      obtain ⟨b, sh, c, hv, hlc, hcap, hfz, hcs⟩ := hx
      split at hs
      case h_2 => cases hs
      rename_i el _ _ _ _ ht
      split at hs
      case h_2 => cases hs
      rename_i ei hel
      have hu := (hE.ty t _ ht).und
      have run : ∀ {l u mm : Nat}, (Instr.sliceBounds true len c (lo.map ρ) (hi.map ρ) (mx.map ρ)).run P w = .ok (l, u, mm) w →
            (Instr.sliceAt t (ρ x) (lo.map ρ) (hi.map ρ) (mx.map ρ)).run P w = .ok (.slice (if mm = l then some ⟨b, sh, none⟩ else some ⟨b, sh + l * ei.size, none⟩) (u - l) (mm - l)) w := by
          intro l u mm h1
          rw [sliceAt_slice hu (by simp)]
          simp only [Instr.slice, Sem.run_bind, run_underlying hu, Result.andThen_ok, hv, h1, run_size hE hel, Sem.run_pure]
          simp [add_off]
      have hdrop : ∀ n, VRC k w b (cs.drop n) (sh + n) := fun n => VRC.of_get fun i y hy => by
        rw [List.getElem?_drop] at hy
        have := hcs.get _ _ hy
        rwa [show sh + (n + i) = sh + n + i by omega] at this
      split at hs
      case h_1 l u m hbd =>
        obtain ⟨mm, h1, h2, h3, h4, h5, h6⟩ := boundsA_sound (P := P) (s := true) hev hbd hcap hlc
        obtain rfl := h5 m rfl
        refine ⟨_, run h1, ?_⟩
        cases hml : Nat.beq mm l with
        | true =>
          obtain rfl := Nat.eq_of_beq_eq_true hml
          simp only [hml, cond_true, Option.some.injEq] at hs
          subst hs
          simp only [VR, if_true]
          have : u - mm = 0 := by omega
          exact ⟨b, sh, 0, by simp [this], Nat.le_refl _, (fun n hn => by cases hn; rfl), hfz, hcs⟩
        | false =>
          simp only [hml, cond_false, Option.some.injEq] at hs
          subst hs
          have hne := Nat.ne_of_beq_eq_false hml
          rw [if_neg hne]
          simp only [VR]
          exact ⟨b, _, mm - l, rfl, by omega, (fun n hn => by cases hn; rfl), hfz, hdrop _⟩
      case h_2 l u hbd =>
        obtain ⟨mm, h1, h2, h3, h4, h5, h6⟩ := boundsA_sound (P := P) (s := true) hev hbd hcap hlc
        obtain ⟨rfl, rfl, h7⟩ := h6 rfl
        refine ⟨_, run h1, ?_⟩
        cases hll : Nat.blt l len with
        | true =>
          have hlt : l < len := Nat.le_of_ble_eq_true hll
          simp only [hll, cond_true, Option.some.injEq] at hs
          subst hs
          rw [if_neg (by omega)]
          simp only [VR]
          exact ⟨b, _, mm - l, rfl, by omega, (fun n hn => by cases hn), hfz, hdrop _⟩
        | false =>
          simp only [hll, cond_false, Option.some.injEq] at hs
          subst hs
          have hge : ¬ l < len := fun hlt => by
            have : Nat.blt l len = true := Nat.ble_eq_true_of_le hlt
            rw [hll] at this; cases this
          have hul : u - l = 0 := by omega
          simp only [VR]
          rw [hul]
          split <;> exact ⟨_, _, rfl⟩
      case h_3 => cases hs
    case h_5 o off he =>
      rw [he] at hx
      simp only [VR] at hx
      obtain ⟨b, sh, hρ, hv⟩ := hx
      split at hs
      case h_2 => cases hs
      rename_i n el _ _ _ _ ht
      split at hs
      case h_2 => cases hs
      rename_i ei e cs hel hg
      have hu := (hE.ty t _ ht).und
      cases hle : Nat.ble (off + n * ei.size) cs.length with
      | false => simp only [hle, cond_false] at hs; cases hs
      | true =>
        simp only [hle, cond_true] at hs
        have hle := Nat.le_of_ble_eq_true hle
        obtain ⟨b2, sh2, h7, arr, fr, h8, h9, h10, _⟩ := hr.obj o _ hg
        rw [hρ] at h7; cases h7
        split at hs
        case h_2 => cases hs
        rename_i l u m hbd
        obtain ⟨mm, h1, h2, h3, h4, h5, h6⟩ := boundsA_sound (P := P) (s := false) hev hbd (c := n) (fun n hn => by cases hn; rfl) (Nat.le_refl _)
        obtain rfl := h5 m rfl
        have run : (Instr.sliceAt t (ρ x) (lo.map ρ) (hi.map ρ) (mx.map ρ)).run P w = .ok (.slice (some (if mm = l then ⟨b, sh + off, none⟩ else ⟨b, sh + off + l * ei.size, none⟩)) (u - l) (mm - l)) w := by
          simp only [Instr.sliceAt, Sem.run_bind, run_underlying hu, Result.andThen_ok, hv, Instr.sureAddr, h1, run_size hE hel, Sem.run_pure, add_off]
        refine ⟨_, run, ?_⟩
        cases hml : Nat.beq mm l with
        | true =>
          obtain rfl := Nat.eq_of_beq_eq_true hml
          simp only [hml, cond_true, Option.some.injEq] at hs
          subst hs
          simp only [VR, if_true]
          have : u - mm = 0 := by omega
          exact ⟨b, sh, 0, arr, e, fr, hρ, by simp [this], Nat.le_refl _, (fun n hn => by cases hn; rfl), h8, by omega⟩
        | false =>
          simp only [hml, cond_false, Option.some.injEq] at hs
          subst hs
          have hne := Nat.ne_of_beq_eq_false hml
          rw [if_neg hne]
          simp only [VR]
          refine ⟨b, sh, mm - l, arr, e, fr, hρ, by rw [Nat.add_assoc], by omega, (fun n hn => by cases hn; rfl), h8, ?_⟩
          have hmul : mm * ei.size ≤ n * ei.size := Nat.mul_le_mul_right _ h4
          have hsub : l * ei.size + (mm - l) * ei.size = mm * ei.size := by rw [← Nat.add_mul]; congr 1; omega
          omega
    case h_6 => cases hs

end

end Go.Ab

namespace Go.Ab
open Go

section
variable {P : Program} {E : Env} {k : K} {h h' : AH} {w : World} {v' : AV} {ev : Operand → AV} {ρ : Operand → Value}

theorem op_pick (hr : HR k h w) (hev : ∀ x, VR k w (ev x) (ρ x)) {c a b : Operand} (ho : opA E (.pick c a b) ev h = some (v', h')) :
    OpOut k h w v' h' ((do pure (Next.value (if ← asBool (ρ c) then ρ a else ρ b)) : Sem Next).run P w) := by
  simp only [opA] at ho
  split at ho
  case h_2 => cases ho
  rename_i t hc
  simp only [Option.some.injEq, Prod.mk.injEq] at ho
  obtain ⟨rfl, rfl⟩ := ho
  have h1 := hev c
  rw [hc] at h1
  simp only [VR] at h1
  have e : (do pure (Next.value (if ← asBool (ρ c) then ρ a else ρ b)) : Sem Next).run P w = .ok (.value (if t then ρ a else ρ b)) w := by
    simp [h1, asBool]
  rw [e]
  refine .pure hr ?_
  cases t
  · exact hev b
  · exact hev a

theorem op_fieldAddr (hE : EnvOk P E) (hr : HR k h w) (hev : ∀ x, VR k w (ev x) (ρ x)) {s : TypeId} {x : Operand} {f : Nat} (ho : opA E (.fieldAddr s x f) ev h = some (v', h')) :
    OpOut k h w v' h' ((do pure (Next.value (← Instr.fieldAt s (ρ x) f)) : Sem Next).run P w) := by
  simp only [opA] at ho
  split at ho
  case h_2 => cases ho
  rename_i fields _ _ _ _ ht
  have hu := (hE.ty s _ ht).und
  split at ho
  case h_2 => cases ho
  rename_i fl hfl
  split at ho
  case h_2 => cases ho
  rename_i fi hfi
  cases hb : Nat.ble 1 fi.size with
  | false => simp only [hb, cond_false] at ho; cases ho
  | true =>
    simp only [hb, cond_true] at ho
    have hne : fi.size ≠ 0 := by have := Nat.le_of_ble_eq_true hb; omega
    have hx := hev x
    have run : ∀ a : Addr, ρ x = .pointer (some a) → (Instr.fieldAt s (ρ x) f).run P w = .ok (.pointer (some (a.add fl.offset))) w := by
      intro a ha
      simp [Instr.fieldAt, run_underlying hu, hfl, ha, Instr.sureAddr, fieldPlace, run_size hE hfi, hne]
    split at ho
    case h_1 o off he =>
      cases ho
      rw [he] at hx
      simp only [VR] at hx
      obtain ⟨b, sh, h1, h2⟩ := hx
      refine .val hr (run _ h2) ?_
      simp only [VR]
      exact ⟨b, sh, h1, by rw [add_off, Nat.add_assoc]⟩
    case h_2 cs off he =>
      cases ho
      rw [he] at hx
      simp only [VR] at hx
      obtain ⟨b, sh, h2, h3, h4⟩ := hx
      refine .val hr (run _ h2) ?_
      simp only [VR]
      exact ⟨b, sh, by rw [add_off, Nat.add_assoc], h3, h4⟩
    case h_3 => cases ho

theorem op_field (hE : EnvOk P E) (hr : HR k h w) (hev : ∀ x, VR k w (ev x) (ρ x)) {t : TypeId} {x : Operand} {f : Nat} (ho : opA E (.field t x f) ev h = some (v', h')) :
    OpOut k h w v' h' ((do pure (Next.value (← Instr.field t (ρ x) f)) : Sem Next).run P w) := by
  simp only [opA] at ho
  split at ho
  case h_2 => cases ho
  rename_i fields _ _ _ _ ht
  have hu := (hE.ty t _ ht).und
  split at ho
  case h_2 => cases ho
  rename_i fl cs hfl he
  simp only [one] at ho
  cases hp : partA E fl.type cs fl.offset with
  | none => simp [hp] at ho
  | some v =>
    simp only [hp, Option.map_some, Option.some.injEq, Prod.mk.injEq] at ho
    obtain ⟨rfl, rfl⟩ := ho
    have hx := hev x
    rw [he] at hx
    simp only [VR] at hx
    obtain ⟨vs, h1, h2⟩ := hx
    obtain ⟨u, h3, h4⟩ := partA_sound (P := P) hE hp h2
    exact .val hr (by simp [Instr.field, run_underlying hu, hfl, h1, asAgg, h3]) h4

theorem op_indexAddr (hE : EnvOk P E) (hr : HR k h w) (hev : ∀ x, VR k w (ev x) (ρ x)) {t : TypeId} {x ix : Operand} (ho : opA E (.indexAddr t x ix) ev h = some (v', h')) :
    OpOut k h w v' h' ((do pure (Next.value (← Instr.indexAt t (ρ x) (ρ ix))) : Sem Next).run P w) := by
  simp only [opA] at ho
  split at ho
  case h_2 => cases ho
  rename_i ti i ht hi
  have hu := (hE.ty t _ ht).und
  obtain ⟨kd, hix⟩ := asNat_int hi (hev ix)
  have hx := hev x
  have lt_of : ∀ {n : Nat}, Nat.blt i n = true → i < n := fun hb => Nat.le_of_ble_eq_true hb
  split at ho
  case h_1 el o off len sz cap hund he =>
    rw [hund] at hu
    split at ho
    case h_2 => cases ho
    rename_i ei hel
    cases hb : (Nat.blt i len && Nat.beq ei.size sz) with
    | false => simp only [hb, cond_false] at ho; cases ho
    | true =>
      simp only [hb, cond_true, Option.some.injEq, Prod.mk.injEq] at ho
      simp only [Bool.and_eq_true] at hb
      obtain ⟨rfl, rfl⟩ := ho
      obtain rfl := Nat.eq_of_beq_eq_true hb.2
      have hlt := lt_of hb.1
      rw [he] at hx
      simp only [VR] at hx
      obtain ⟨b, sh, c, arr, e, fr, hρ, hv, _⟩ := hx
      refine .val hr (v := .pointer (some ⟨b, sh + off + i * ei.size, none⟩)) ?_ (by simp only [VR]; exact ⟨b, sh, hρ, by rw [Nat.add_assoc]⟩)
      simp only [Instr.indexAt, Sem.run_bind, hix, hv, asIntOf, Sem.run_pure, Result.andThen_ok, run_underlying hu]
      rw [if_pos (by omega)]
      simp [run_size hE hel, add_off]
  case h_2 el cs len cap hund he =>
    rw [hund] at hu
    split at ho
    case h_2 => cases ho
    rename_i ei hel
    cases hb : Nat.blt i len with
    | false => simp only [hb, cond_false] at ho; cases ho
    | true =>
      simp only [hb, cond_true, Option.some.injEq, Prod.mk.injEq] at ho
      obtain ⟨rfl, rfl⟩ := ho
      have hlt := lt_of hb
      rw [he] at hx
      simp only [VR] at hx
      obtain ⟨b, sh, c, hv, h1, h2, h3, h4⟩ := hx
      refine .val hr (v := .pointer (some ⟨b, sh + i * ei.size, none⟩)) ?_ (by simp only [VR]; exact ⟨b, sh, rfl, h3, h4⟩)
      simp only [Instr.indexAt, Sem.run_bind, hix, hv, asIntOf, Sem.run_pure, Result.andThen_ok, run_underlying hu]
      rw [if_pos (by omega)]
      simp [run_size hE hel, add_off]
  case h_3 n el o off hund he =>
    rw [hund] at hu
    split at ho
    case h_2 => cases ho
    rename_i ei hel
    cases hb : Nat.blt i n with
    | false => simp only [hb, cond_false] at ho; cases ho
    | true =>
      simp only [hb, cond_true, Option.some.injEq, Prod.mk.injEq] at ho
      obtain ⟨rfl, rfl⟩ := ho
      have hlt := lt_of hb
      rw [he] at hx
      simp only [VR] at hx
      obtain ⟨b, sh, hρ, hv⟩ := hx
      refine .val hr (v := .pointer (some ⟨b, sh + off + i * ei.size, none⟩)) ?_ (by simp only [VR]; exact ⟨b, sh, hρ, by rw [Nat.add_assoc]⟩)
      simp only [Instr.indexAt, Sem.run_bind, hix, hv, asIntOf, Sem.run_pure, Result.andThen_ok, run_underlying hu, Instr.sureAddr]
      rw [if_pos (by omega)]
      simp [run_size hE hel, add_off]
  case h_4 n el cs off hund he =>
    rw [hund] at hu
    split at ho
    case h_2 => cases ho
    rename_i ei hel
    cases hb : Nat.blt i n with
    | false => simp only [hb, cond_false] at ho; cases ho
    | true =>
      simp only [hb, cond_true, Option.some.injEq, Prod.mk.injEq] at ho
      obtain ⟨rfl, rfl⟩ := ho
      have hlt := lt_of hb
      rw [he] at hx
      simp only [VR] at hx
      obtain ⟨b, sh, hv, h3, h4⟩ := hx
      refine .val hr (v := .pointer (some ⟨b, sh + off + i * ei.size, none⟩)) ?_ (by simp only [VR]; exact ⟨b, sh, by rw [Nat.add_assoc], h3, h4⟩)
      simp only [Instr.indexAt, Sem.run_bind, hix, hv, asIntOf, Sem.run_pure, Result.andThen_ok, run_underlying hu, Instr.sureAddr]
      rw [if_pos (by omega)]
      simp [run_size hE hel, add_off]
  case h_5 => cases ho

theorem op_index (hE : EnvOk P E) (hr : HR k h w) (hev : ∀ x, VR k w (ev x) (ρ x)) {t : TypeId} {x ix : Operand} (ho : opA E (.index t x ix) ev h = some (v', h')) :
    OpOut k h w v' h' ((do pure (Next.value (← Instr.index t (ρ x) (ρ ix))) : Sem Next).run P w) := by
  simp only [opA] at ho
  split at ho
  case h_2 => cases ho
  rename_i ti i ht hi
  have hu := (hE.ty t _ ht).und
  obtain ⟨kd, hix⟩ := asNat_int hi (hev ix)
  have hx := hev x
  split at ho
  case h_1 s hund he =>
    rw [hund] at hu
    cases hs : s[i]? with
    | none => simp [hs] at ho
    | some c =>
      rw [hs] at ho
      cases ho
      rw [he] at hx
      simp only [VR] at hx
      obtain ⟨b, hv, hbs⟩ := hx
      rw [← hbs, List.getElem?_map] at hs
      cases hd : b.data.toList[i]? with
      | none => simp [hd] at hs
      | some u =>
        simp only [hd, Option.map_some, Option.some.injEq] at hs
        subst hs
        have hb : b[i]? = some u := by
          have hlt := (List.getElem?_eq_some_iff.1 hd).1
          have hlt' : i < b.size := by simpa using hlt
          rw [getElem?_pos b i hlt']
          have := (List.getElem?_eq_some_iff.1 hd).2
          simp only [Array.getElem_toList] at this
          exact congrArg some this
        refine .val hr (v := .int .u8 (u.toNat : Int)) ?_ (by simp only [VR])
        simp only [Instr.index, Sem.run_bind, hix, hv, asIntOf, Sem.run_pure, Result.andThen_ok, run_underlying hu]
        rw [if_pos (by omega)]
        simp [hb]
  case h_2 n el cs hund he =>
    rw [hund] at hu
    split at ho
    case h_2 => cases ho
    rename_i ei hel
    cases hb : Nat.blt i n with
    | false => simp only [hb, cond_false] at ho; cases ho
    | true =>
      have hlt : i < n := Nat.le_of_ble_eq_true hb
      simp only [hb, cond_true, one] at ho
      cases hp : partA E el cs (i * ei.size) with
      | none => simp [hp] at ho
      | some v =>
        simp only [hp, Option.map_some, Option.some.injEq, Prod.mk.injEq] at ho
        obtain ⟨rfl, rfl⟩ := ho
        rw [he] at hx
        simp only [VR] at hx
        obtain ⟨vs, h1, h2⟩ := hx
        obtain ⟨u, h3, h4⟩ := partA_sound (P := P) hE hp h2
        refine .val hr ?_ h4
        simp only [Instr.index, Sem.run_bind, hix, h1, asIntOf, Sem.run_pure, Result.andThen_ok, run_underlying hu]
        rw [if_pos (by omega)]
        simp [run_size hE hel, h3]
  case h_3 => cases ho

theorem op_extract (hr : HR k h w) (hev : ∀ x, VR k w (ev x) (ρ x)) {t : Operand} {i : Nat} (ho : opA E (.extract t i) ev h = some (v', h')) :
    OpOut k h w v' h' ((do pure (Next.value (← Instr.extract (ρ t) i)) : Sem Next).run P w) := by
  simp only [opA] at ho
  split at ho
  case h_2 => cases ho
  rename_i vs he
  cases hv : vs[i]? with
  | none => simp [hv] at ho
  | some x =>
    simp only [hv, Option.map_some, Option.some.injEq, Prod.mk.injEq] at ho
    obtain ⟨rfl, rfl⟩ := ho
    have hx := hev t
    rw [he] at hx
    simp only [VR] at hx
    obtain ⟨us, h1, h2⟩ := hx
    obtain ⟨u, h3, h4⟩ := h2.get _ _ hv
    have e : us[i]? = some u := by simpa using h3
    exact .val hr (by simp [Instr.extract, h1, e]) h4

theorem op_typeAssert (hE : EnvOk P E) (hr : HR k h w) (hev : ∀ x, VR k w (ev x) (ρ x)) {x : Operand} {xt as' : TypeId} {ok : Bool} (ho : opA E (.typeAssert x xt as' ok) ev h = some (v', h')) :
    OpOut k h w v' h' ((do pure (Next.value (← Instr.typeAssert (ρ x) xt as' ok)) : Sem Next).run P w) := by
  simp only [opA] at ho
  cases ht : E.ty as' with
  | none => simp [ht] at ho
  | some ai =>
    simp only [ht] at ho
    have hu := (hE.ty as' _ ht).und
    obtain ⟨z, z1, z2, z3⟩ := run_zero hE ht w
    have hx := hev x
    have good : ∀ {v : AV} {u : Value}, VR k w v u → (some (bif ok then AV.tup [v, .bool true] else v, h) = some (v', h')) → (Instr.typeAssert (ρ x) xt as' ok).run P w = .ok (if ok then .tuple #[u, .bool true] else u) w →
        OpOut k h w v' h' ((do pure (Next.value (← Instr.typeAssert (ρ x) xt as' ok)) : Sem Next).run P w) := by
      intro v u hv he hrun
      simp only [Option.some.injEq, Prod.mk.injEq] at he
      obtain ⟨rfl, rfl⟩ := he
      refine .val hr hrun ?_
      cases ok
      · exact hv
      · simp only [cond_true, VR, if_true]
        exact ⟨_, rfl, by simp only [VRL]; exact ⟨_, _, rfl, hv, _, _, rfl, by simp only [VR], rfl⟩⟩
    have bad : ((bif ok then some (AV.tup [ai.zero, .bool false], h) else none) = some (v', h')) → (ok = true → (Instr.typeAssert (ρ x) xt as' ok).run P w = .ok (.tuple #[z, .bool false]) w) →
        OpOut k h w v' h' ((do pure (Next.value (← Instr.typeAssert (ρ x) xt as' ok)) : Sem Next).run P w) := by
      intro he hrun
      cases ok with
      | false => simp at he
      | true =>
        simp only [cond_true, Option.some.injEq, Prod.mk.injEq] at he
        obtain ⟨rfl, rfl⟩ := he
        refine .val hr (hrun rfl) ?_
        simp only [VR]
        exact ⟨_, rfl, by simp only [VRL]; exact ⟨_, _, rfl, z2 k w, _, _, rfl, by simp only [VR], rfl⟩⟩
    split at ho
    case h_1 ms hund he =>
      rw [hund] at hu
      rw [he] at hx; simp only [VR] at hx
      refine bad ho fun hok => ?_
      simp [Instr.typeAssert, run_underlying hu, hx, hok, z1]
    case h_2 ms t v hund he =>
      rw [hund] at hu
      rw [he] at hx
      have hx' := hx
      simp only [VR] at hx
      obtain ⟨y, h1, h2⟩ := hx
      cases hi : E.impl t as' with
      | none => simp [hi] at ho
      | some r =>
        obtain ⟨want, inf, i1, i2, i3⟩ := hE.impl t as' r hi
        rw [hu] at i1; cases i1
        have hti : (typeInfo t).run P w = .ok inf w := by simp [typeInfo, i2]
        cases r with
        | true =>
          simp only [hi] at ho
          refine good hx' ho ?_
          have : Instr.missingMethod ms inf.methods = none := by simpa using i3
          simp only [Instr.typeAssert, Sem.run_bind, run_underlying hu, Result.andThen_ok, h1, hti, this, Sem.run_pure]
        | false =>
          simp only [hi] at ho
          refine bad ho fun hok => ?_
          obtain ⟨m, hm⟩ : ∃ m, Instr.missingMethod ms inf.methods = some m := by
            cases hmm : Instr.missingMethod ms inf.methods with
            | none => simp [hmm] at i3
            | some m => exact ⟨m, rfl⟩
          simp only [Instr.typeAssert, Sem.run_bind, run_underlying hu, Result.andThen_ok, h1, hti, hm, hok, if_true, z1, Sem.run_pure]
    case h_3 he hneg =>
      rw [he] at hx; simp only [VR] at hx
      refine bad ho fun hok => ?_
      simp only [Instr.typeAssert, Sem.run_bind, run_underlying hu, Result.andThen_ok, hx, hok, if_true]
      cases hund : ai.und <;> simp [z1]
    case h_4 t v he hneg =>
      rw [he] at hx
      simp only [VR] at hx
      obtain ⟨y, h1, h2⟩ := hx
      have hnoi : ∀ ms, ai.und ≠ .interface ms := fun ms hm => hneg ms hm
      cases hb : Nat.beq t as' with
      | true =>
        obtain rfl := Nat.eq_of_beq_eq_true hb
        simp only [hb, cond_true] at ho
        refine good h2 ho ?_
        simp only [Instr.typeAssert, Sem.run_bind, run_underlying hu, Result.andThen_ok, h1]
        cases hund : ai.und <;> first | exact absurd hund (hnoi _) | simp
      | false =>
        simp only [hb, cond_false] at ho
        have hne := Nat.ne_of_beq_eq_false hb
        refine bad ho fun hok => ?_
        simp only [Instr.typeAssert, Sem.run_bind, run_underlying hu, Result.andThen_ok, h1, hok, if_true]
        cases hund : ai.und <;> first | exact absurd hund (hnoi _) | simp [hne, z1]
    case h_5 => cases ho

end

end Go.Ab

namespace Go.Ab
open Go

section
variable {P : Program} {E : Env} {k : K} {h h' : AH} {w : World} {v' : AV} {ev : Operand → AV} {ρ : Operand → Value}

/-- A live object that is no row of cells is laid anew. -/
theorem HR.setObj (hr : HR k h w) {o : Nat} {ob ob' : AO} {b sh : Nat} (hg : h.get o = some ob) (hρ : k.ρ o = some (b, sh)) {old new : Obj} (hold : w.heap[b]? = some old) (hnc : ∀ arr e fr, old ≠ .cells arr e fr)
    (hob : Le k k w { w with heap := w.heap.setIfInBounds b new } → ({ w with heap := w.heap.setIfInBounds b new } : World).heap[b]? = some new → ObR k { w with heap := w.heap.setIfInBounds b new } b sh ob') :
    HR k (h.set o (some ob')) { w with heap := w.heap.setIfInBounds b new } ∧ Ev k k h (h.set o (some ob')) w { w with heap := w.heap.setIfInBounds b new } := by
  have hlt := (Array.getElem?_eq_some_iff.1 hold).1
  refine hr.write hg hρ rfl rfl rfl (by simp) (fun b' hb => ?_) (fun arr e fr hx => ?_) (fun le => hob le ?_)
  · show (w.heap.setIfInBounds b new)[b']? = _
    rw [Array.getElem?_setIfInBounds, if_neg (fun e => hb e.symm)]
  · rw [hold] at hx; cases hx; exact absurd rfl (hnc _ _ _)
  · show (w.heap.setIfInBounds b new)[b]? = _
    rw [Array.getElem?_setIfInBounds, if_pos rfl, if_pos hlt]

theorem run_getObj {b : Nat} {ob : Obj} (h : w.heap[b]? = some ob) (hnc : ∀ arr e fr, ob ≠ .cells arr e fr) : (getObj b).run P w = .ok ob w := by
  simp only [getObj, Sem.run, h]

theorem run_setObj {b : Nat} {ob new : Obj} (h : w.heap[b]? = some ob) (hnc : ∀ arr e fr, ob ≠ .cells arr e fr) : (Go.setObj b new).run P w = .ok () { w with heap := w.heap.setIfInBounds b new } := by
  simp only [Go.setObj, Sem.run, h]

theorem checkKey_ok {kt : TypeId} {d : TypeDesc} (hd : P.underlying kt = some d) {kA : AV} (hp : plainKey d kA = true) {kv : Value} (hk : VR k w kA kv) (e : Bool) (W : World) : (Instr.checkKey e 10000 kt kv).run P W = .ok () W := by
  show (Instr.checkKey e (9999 + 1) kt kv).run P W = .ok () W
  generalize 9999 = n
  cases d <;> cases kA <;> simp only [plainKey] at hp <;> try (cases hp; done)
  all_goals
    simp only [VR] at hk
    first
      | (subst hk; simp [Instr.checkKey, run_underlying hd])
      | (obtain ⟨b, rfl, _⟩ := hk; simp [Instr.checkKey, run_underlying hd])

theorem keyEq_sound {d : TypeDesc} {kA x : AV} {r : Bool} (he : keyEq kA x = some r) (hp : plainKey d kA = true) {kv v : Value} (hk : VR k w kA kv) (hv : VR k w x v) :
    Instr.sameNow d kv v = some r ∧ (r = true → v = kv) ∧ ∀ n, Instr.sameBits n kv kv = true := by
  cases d <;> cases kA <;> simp only [plainKey] at hp <;> try (cases hp; done)
  case bool b =>
    cases x <;> simp only [keyEq] at he <;> try (cases he; done)
    cases he
    simp only [VR] at hk hv
    subst hk hv
    refine ⟨rfl, fun h => ?_, fun n => by simp [Instr.sameBits]⟩
    rw [beq_iff_eq] at h; rw [h]
  case int kd1 kd a =>
    cases x <;> simp only [keyEq] at he <;> try (cases he; done)
    rename_i kd' b
    simp only [VR] at hk hv
    subst hk hv
    cases hd : decide (kd = kd') with
    | false => simp only [hd, cond_false] at he; cases he
    | true =>
      obtain rfl : kd = kd' := by simpa using hd
      simp only [decide_true, cond_true, Option.some.injEq] at he
      refine ⟨by simp [Instr.sameNow, he], fun h => ?_, fun n => by simp [Instr.sameBits]⟩
      rw [h, beq_iff_eq] at he; rw [he]
  case string.stok i =>
    cases x <;> simp only [keyEq] at he <;> try (cases he; done)
    obtain ⟨h1, h2⟩ := cond_someF he
    obtain rfl := Nat.eq_of_beq_eq_true h1
    cases h2
    simp only [VR] at hk hv
    subst hk hv
    exact ⟨by simp [Instr.sameNow, ba_eq], fun _ => rfl, fun n => by simp [Instr.sameBits, ba_eq]⟩
  case string.str s =>
    cases x <;> simp only [keyEq] at he <;> try (cases he; done)
    cases he
    simp only [VR] at hk hv
    obtain ⟨b1, rfl, rfl⟩ := hk
    obtain ⟨b2, rfl, rfl⟩ := hv
    rw [bytesEq_spec]
    refine ⟨by simp only [Instr.sameNow, ba_eq], fun h => ?_, fun n => by simp [Instr.sameBits, ba_eq]⟩
    rw [beq_iff_eq] at h
    cases b1; cases b2; simp_all

theorem findEntry_sound {d : TypeDesc} {kA : AV} (hp : plainKey d kA = true) {kv : Value} (hk : VR k w kA kv) : ∀ {es : List (AV × AV × Nat)} {ents : List MapEntry} {i : Nat} {r : Option (Nat × AV)}, findEntry kA es i = some r → MR k w es ents →
    (match r with
    | none => Instr.findNow d kv ents i = some none
    | some (j, y) => i ≤ j ∧ ∃ e, ents[j - i]? = some e ∧ Instr.findNow d kv ents i = some (some (j, e.val)) ∧ VR k w y e.val ∧ e.key = kv ∧ ∀ n, Instr.sameBits n kv kv = true)
  | [], ents, i, r, hf, hm => by
    simp only [findEntry, Option.some.injEq] at hf
    simp only [MR] at hm
    subst hf hm
    rfl
  | (x, y, n) :: es, ents, i, r, hf, hm => by
    simp only [MR] at hm
    obtain ⟨e, es', rfl, h1, h2, h3, h4⟩ := hm
    simp only [findEntry] at hf
    cases hq : keyEq kA x with
    | none => simp [hq] at hf
    | some b =>
      obtain ⟨q1, q2, q3⟩ := keyEq_sound hq hp hk h1
      cases b with
      | true =>
        simp only [hq, Option.some.injEq] at hf
        subst hf
        exact ⟨Nat.le_refl _, e, by simp, by simp [Instr.findNow, q1], h2, q2 rfl, q3⟩
      | false =>
        simp only [hq] at hf
        have ih := findEntry_sound hp hk hf h4
        cases r with
        | none =>
          show Instr.findNow d kv (e :: es') i = some none
          simp only [Instr.findNow, q1]; exact ih
        | some jy =>
          obtain ⟨j, y'⟩ := jy
          obtain ⟨i1, e', i2, i3, i4⟩ := ih
          refine ⟨by omega, e', ?_, by simp only [Instr.findNow, q1]; exact i3, i4⟩
          rw [show j - i = (j - (i + 1)) + 1 by omega]
          simpa using i2

theorem run_findKey {kt : TypeId} {d : TypeDesc} (hd : P.underlying kt = some d) {kv : Value} {l : List MapEntry} {a : Option (Nat × Value)} (h : Instr.findNow d kv l 0 = some a) (W : World) : (Instr.findKey kt kv l).run P W = .ok a W := by
  simp only [Instr.findKey, Sem.run_bind, run_underlying hd, Result.andThen_ok, h, Sem.run_pure]

theorem MR.length : ∀ {es : List (AV × AV × Nat)} {ents : List MapEntry}, MR k w es ents → ents.length = es.length
  | [], _, hm => by simp only [MR] at hm; subst hm; rfl
  | (x, y, n) :: r, _, hm => by
    simp only [MR] at hm
    obtain ⟨e, es', rfl, _, _, _, h4⟩ := hm
    simp [MR.length h4]

theorem MR.push {kA x : AV} {kv v : Value} {n : Nat} (hk : VR k w kA kv) (hv : VR k w x v) : ∀ {es : List (AV × AV × Nat)} {ents : List MapEntry}, MR k w es ents → MR k w (es ++ [(kA, x, n)]) (ents ++ [{ key := kv, val := v, born := n }])
  | [], ents, hm => by
    simp only [MR] at hm; subst hm
    simp only [List.nil_append, MR]
    exact ⟨_, _, rfl, hk, hv, rfl, rfl⟩
  | (a, b, c) :: r, ents, hm => by
    simp only [MR] at hm
    obtain ⟨e, es', rfl, h1, h2, h3, h4⟩ := hm
    simp only [List.cons_append, MR]
    exact ⟨_, _, rfl, h1, h2, h3, MR.push hk hv h4⟩

theorem MR.modify {kA x : AV} {kv v : Value} (hk : VR k w kA kv) (hv : VR k w x v) : ∀ {es : List (AV × AV × Nat)} {ents : List MapEntry} (j : Nat), MR k w es ents → MR k w (es.modify j fun (_, _, n) => (kA, x, n)) (ents.modify j fun e => { e with key := kv, val := v })
  | [], ents, j, hm => by
    simp only [MR] at hm; subst hm
    cases j <;> simp [MR]
  | (a, b, c) :: r, ents, 0, hm => by
    simp only [MR] at hm
    obtain ⟨e, es', rfl, h1, h2, h3, h4⟩ := hm
    simp only [List.modify_zero_cons, MR]
    exact ⟨_, _, rfl, hk, hv, h3, h4⟩
  | (a, b, c) :: r, ents, j + 1, hm => by
    simp only [MR] at hm
    obtain ⟨e, es', rfl, h1, h2, h3, h4⟩ := hm
    simp only [List.modify_succ_cons, MR]
    exact ⟨_, _, rfl, h1, h2, h3, MR.modify hk hv j h4⟩

theorem MR.erase : ∀ {es : List (AV × AV × Nat)} {ents : List MapEntry} (j : Nat), MR k w es ents → MR k w (es.eraseIdx j) (ents.eraseIdx j)
  | [], ents, j, hm => by simp only [MR] at hm; subst hm; simp [MR]
  | (a, b, c) :: r, ents, 0, hm => by
    simp only [MR] at hm
    obtain ⟨e, es', rfl, h1, h2, h3, h4⟩ := hm
    simpa using h4
  | (a, b, c) :: r, ents, j + 1, hm => by
    simp only [MR] at hm
    obtain ⟨e, es', rfl, h1, h2, h3, h4⟩ := hm
    simp only [List.eraseIdx_cons_succ, MR]
    exact ⟨_, _, rfl, h1, h2, h3, MR.erase j h4⟩

theorem op_lookup (hE : EnvOk P E) (hr : HR k h w) (hev : ∀ x, VR k w (ev x) (ρ x)) {t : TypeId} {x ix : Operand} {ok : Bool} (ho : opA E (.lookup t x ix ok) ev h = some (v', h')) :
    OpOut k h w v' h' ((do pure (Next.value (← Instr.lookup t (ρ x) (ρ ix) ok)) : Sem Next).run P w) := by
  simp only [opA] at ho
  split at ho
  case h_2 => cases ho
  rename_i kt et _ _ _ _ ht
  have hu := (hE.ty t _ ht).und
  split at ho
  case h_2 => cases ho
  rename_i ki ei hki hei
  have hku := (hE.ty kt _ hki).und
  cases hp : plainKey ki.und (ev ix) with
  | false => simp only [hp, cond_false] at ho; cases ho
  | true =>
    simp only [hp, cond_true] at ho
    have hx := hev x
    have hix := hev ix
    obtain ⟨z, z1, z2, z3⟩ := run_zero hE hei w
    have fin : ∀ {v : AV} {u : Value} {b : Bool}, VR k w v u → (some (bif ok then AV.tup [v, .bool b] else v, h) = some (v', h')) → (Instr.lookup t (ρ x) (ρ ix) ok).run P w = .ok (if ok then .tuple #[u, .bool b] else u) w →
        OpOut k h w v' h' ((do pure (Next.value (← Instr.lookup t (ρ x) (ρ ix) ok)) : Sem Next).run P w) := by
      intro v u b hv he hrun
      simp only [Option.some.injEq, Prod.mk.injEq] at he
      obtain ⟨rfl, rfl⟩ := he
      refine .val hr hrun ?_
      cases ok
      · exact hv
      · simp only [cond_true, VR, if_true]
        exact ⟨_, rfl, by simp only [VRL]; exact ⟨_, _, rfl, hv, _, _, rfl, by simp only [VR], rfl⟩⟩
    split at ho
    case h_1 he =>
      rw [he] at hx; simp only [VR] at hx
      refine fin (z2 k w) ho ?_
      simp only [Instr.lookup, Sem.run_bind, run_underlying hu, Result.andThen_ok, hx, Sem.run_pure, checkKey_ok hku hp hix,
        run_findKey hku (show Instr.findNow ki.und (ρ ix) (#[] : Array MapEntry).toList 0 = some none from rfl), z1]
    case h_2 o he =>
      rw [he] at hx; simp only [VR] at hx
      obtain ⟨b, hρ, hv⟩ := hx
      split at ho
      case h_2 => cases ho
      rename_i es cl hg
      obtain ⟨b2, sh, h1, h2, ents, h3, h4⟩ := hr.obj o _ hg
      rw [hρ] at h1; cases h1
      have hgo : (getObj b).run P w = .ok (.map ents cl) w := run_getObj h3 (by simp)
      split at ho
      case h_1 j y hf =>
        obtain ⟨_, e, f1, f2, f3, _⟩ := findEntry_sound hp hix hf h4
        refine fin f3 ho ?_
        simp only [Instr.lookup, Sem.run_bind, run_underlying hu, Result.andThen_ok, hv, hgo, Sem.run_pure, checkKey_ok hku hp hix, run_findKey hku f2]
      case h_2 hf =>
        have f2 := findEntry_sound hp hix hf h4
        refine fin (z2 k w) ho ?_
        simp only [Instr.lookup, Sem.run_bind, run_underlying hu, Result.andThen_ok, hv, hgo, Sem.run_pure, checkKey_ok hku hp hix, run_findKey hku f2, z1]
      case h_3 => cases ho
    case h_3 => cases ho

theorem mapUpd_sound (hE : EnvOk P E) (hr : HR k h w) (hev : ∀ x, VR k w (ev x) (ρ x)) {t : TypeId} {m kk x : Operand} (ho : opA E (.mapUpdate t m kk x) ev h = some (v', h')) :
    OpOut k h w v' h' ((do Instr.mapUpdate t (ρ m) (ρ kk) (ρ x); pure Next.skip : Sem Next).run P w) := by
  simp only [opA] at ho
  split at ho
  case h_2 => cases ho
  rename_i kt et _ _ _ _ ht
  have hu := (hE.ty t _ ht).und
  split at ho
  case h_2 => cases ho
  rename_i ki hki
  have hku := (hE.ty kt _ hki).und
  cases hp : plainKey ki.und (ev kk) with
  | false => simp only [hp, cond_false] at ho; cases ho
  | true =>
    simp only [hp, cond_true] at ho
    have hm := hev m
    have hk := hev kk
    have hx := hev x
    split at ho
    case h_2 => cases ho
    rename_i o he
    rw [he] at hm; simp only [VR] at hm
    obtain ⟨b, hρ, hv⟩ := hm
    split at ho
    case h_2 => cases ho
    rename_i es cl hg
    obtain ⟨b2, sh, h1, h2, ents, h3, h4⟩ := hr.obj o _ hg
    rw [hρ] at h1; cases h1
    have hgo : (getObj b).run P w = .ok (.map ents cl) w := run_getObj h3 (by simp)
    split at ho
    case h_1 j y hf =>
      obtain ⟨_, e, f1, f2, f3, f4, f5⟩ := findEntry_sound hp hk hf h4
      simp only [Option.some.injEq, Prod.mk.injEq] at ho
      obtain ⟨rfl, rfl⟩ := ho
      obtain ⟨r1, r2⟩ := hr.setObj (ob' := .map (es.modify j fun (_, _, n) => (ev kk, ev x, n)) cl) hg hρ h3 (by simp) (new := .map (ents.modify j fun e => { e with key := ρ kk, val := ρ x }) cl)
        (fun le hn => ⟨rfl, _, hn, by
          have := MR.modify hk hx j h4
          rw [Array.toList_modify]
          exact this.mono le⟩)
      refine .unit ?_ r1 r2
      have hej : ents[j]? = some e := by simpa using f1
      have hst : (Instr.keyThatStays (((ents[j]?).map (·.key)).getD (ρ kk)) (ρ kk)).run P w = .ok (ρ kk) w := by
        simp [Instr.keyThatStays, hej, f4, f5]
      simp only [Instr.mapUpdate, Sem.run_bind, run_underlying hu, Result.andThen_ok, hv, hgo, checkKey_ok hku hp hk, run_findKey hku f2, hst, run_setObj h3 (show ∀ arr e fr, Obj.map ents cl ≠ .cells arr e fr by simp)]
    case h_2 hf =>
      have f2 := findEntry_sound hp hk hf h4
      simp only [Option.some.injEq, Prod.mk.injEq] at ho
      obtain ⟨rfl, rfl⟩ := ho
      obtain ⟨r1, r2⟩ := hr.setObj (ob' := .map (es ++ [(ev kk, ev x, cl)]) (cl + 1)) hg hρ h3 (by simp) (new := .map (ents.push { key := ρ kk, val := ρ x, born := cl }) (cl + 1))
        (fun le hn => ⟨rfl, _, hn, by
          have := MR.push (n := cl) hk hx h4
          rw [Array.toList_push]
          exact this.mono le⟩)
      refine .unit ?_ r1 r2
      simp only [Instr.mapUpdate, Sem.run_bind, run_underlying hu, Result.andThen_ok, hv, hgo, checkKey_ok hku hp hk, run_findKey hku f2, run_setObj h3 (show ∀ arr e fr, Obj.map ents cl ≠ .cells arr e fr by simp)]
    case h_3 => cases ho

theorem op_range (hE : EnvOk P E) (hr : HR k h w) (hev : ∀ x, VR k w (ev x) (ρ x)) {t : TypeId} {x : Operand} (ho : opA E (.range t x) ev h = some (v', h')) :
    OpOut k h w v' h' ((do pure (Next.value (← Instr.range t (ρ x))) : Sem Next).run P w) := by
  simp only [opA] at ho
  split at ho
  case h_2 => cases ho
  rename_i ht he
  have hu := (hE.ty t _ ht).und
  have hx := hev x
  rw [he] at hx; simp only [VR] at hx
  obtain ⟨b, hv, hb⟩ := hx
  unfold allocA at ho
  cases hal : h.alloc (.siter _ 0) with
  | none => rw [hal] at ho; cases ho
  | some p =>
    obtain ⟨o, h1⟩ := p
    rw [hal] at ho
    simp only [Option.some.injEq, Prod.mk.injEq] at ho
    obtain ⟨rfl, rfl⟩ := ho
    obtain ⟨r1, r2, _⟩ := hr.alloc hal (.stringIter b 0) w.drawn (fun le => ⟨rfl, b, by simp, hb⟩)
    refine .valG (v := .pointer (some ⟨w.heap.size, 0, none⟩)) ?_ r1 r2 (by simp only [VR]; exact ⟨_, _, K.with_self _ _ _, rfl⟩)
    simp [Instr.range, run_underlying hu, hv]

theorem op_next (hr : HR k h w) (hev : ∀ x, VR k w (ev x) (ρ x)) {it : Operand} {ty : TypeId} (ho : opA E (.next it true) ev h = some (v', h')) :
    OpOut k h w v' h' ((do pure (Next.value (← Instr.next (ρ it) true ty)) : Sem Next).run P w) := by
  simp only [opA] at ho
  split at ho
  case h_2 => cases ho
  rename_i o he
  have hx := hev it
  rw [he] at hx; simp only [VR] at hx
  obtain ⟨b, sh, hρ, hv⟩ := hx
  split at ho
  case h_2 => cases ho
  rename_i s pos hg
  obtain ⟨b2, sh2, h1, h2, bs, h3, h4⟩ := hr.obj o _ hg
  rw [hρ] at h1; cases h1
  subst h2
  have hgo : (getObj b).run P w = .ok (.stringIter bs pos) w := run_getObj h3 (by simp)
  have hlen : bs.size = s.length := by rw [← h4]; simp
  cases hb : Nat.blt pos s.length with
  | false =>
    simp only [hb, cond_false, Option.some.injEq, Prod.mk.injEq] at ho
    obtain ⟨rfl, rfl⟩ := ho
    have hge : ¬ pos < bs.size := by
      rw [hlen]
      intro hlt
      have : Nat.blt pos s.length = true := Nat.ble_eq_true_of_le hlt
      rw [hb] at this; cases this
    refine .val hr (v := .tuple #[.bool false]) ?_ (by simp only [VR]; exact ⟨_, rfl, by simp only [VRL]; exact ⟨_, _, rfl, by simp only [VR], rfl⟩⟩)
    simp only [Instr.next, hv, Nat.add_zero, Sem.run_bind, hgo, Result.andThen_ok]
    rw [if_neg hge]
    rfl
  | true =>
    simp only [hb, cond_true] at ho
    have hlt : pos < s.length := Nat.le_of_ble_eq_true hb
    split at ho
    case h_2 => cases ho
    rename_i c hc
    cases hc2 : Nat.blt c 128 with
    | false => simp only [hc2, cond_false] at ho; cases ho
    | true =>
      simp only [hc2, cond_true, Option.some.injEq, Prod.mk.injEq] at ho
      obtain ⟨rfl, rfl⟩ := ho
      have hclt : c < 128 := Nat.le_of_ble_eq_true hc2
      have hdec : Utf8.decode bs pos = (c, 1) := by
        have hd : (bs.get! (pos + 0)).toNat = c := by
          rw [← h4, List.getElem?_map] at hc
          cases hd : bs.data.toList[pos]? with
          | none => simp [hd] at hc
          | some u =>
            simp only [hd, Option.map_some, Option.some.injEq] at hc
            have hlt' : pos < bs.data.size := by have := hlen; simp at this ⊢; omega
            have e := (List.getElem?_eq_some_iff.1 hd).2
            simp only [Array.getElem_toList] at e
            rw [← hc, ← e]
            show (bs.data[pos + 0]!).toNat = _
            simp only [Nat.add_zero]
            rw [getElem!_pos bs.data pos hlt']
        simp only [Utf8.decode, hd]
        rw [if_pos hclt]
      obtain ⟨r1, r2⟩ := hr.setObj (ob' := .siter s (pos + 1)) hg hρ h3 (by simp) (new := .stringIter bs (pos + 1)) (fun le hn => ⟨rfl, bs, hn, h4⟩)
      refine .valG (v := .tuple #[.bool true, goInt pos, .int .i32 c]) ?_ r1 r2 ?_
      · simp only [Instr.next, hv, Nat.add_zero, Sem.run_bind, hgo, Result.andThen_ok]
        rw [if_pos (by omega)]
        simp only [hdec, Sem.run_bind, run_setObj h3 (show ∀ arr e fr, Obj.stringIter bs pos ≠ .cells arr e fr by simp), Result.andThen_ok, Sem.run_pure]
      · simp only [VR, goInt]
        exact ⟨_, rfl, by simp only [VRL]; exact ⟨_, _, rfl, by simp only [VR], _, _, rfl, by simp only [VR], _, _, rfl, by simp only [VR], rfl⟩⟩

end

end Go.Ab

namespace Go.Ab
open Go

section
variable {P : Program} {E : Env} {k : K} {h h' : AH} {w : World} {v' : AV} {ev : Operand → AV} {ρ : Operand → Value}

theorem HR.drawn (hr : HR k h w) (d : Nat) : HR k h { w with drawn := d } ∧ Ev k k h h w { w with drawn := d } := by
  have ev : Ev k k h h w { w with drawn := d } := ⟨rfl, rfl, rfl, rfl, Nat.le_refl _, fun _ _ _ => rfl, fun b arr e fr hx => ⟨arr, fr, hx, rfl⟩, fun _ _ h => h, fun _ h => h, fun o ob b sh h1 h2 _ => ⟨o, ob, sh, h1, h2⟩, Nat.le_refl _, fun _ _ => rfl, fun _ _ h => .inl h⟩
  have le := ev.le hr
  exact ⟨⟨fun o ob h1 => let ⟨b, sh, h2, h3⟩ := hr.obj o ob h1; ⟨b, sh, h2, h3.mono le rfl⟩, hr.inj, hr.nfz, hr.fresh, hr.lt⟩, ev⟩

/-- Loads of a list of cells. -/
theorem run_loads {a : Addr} {vs : List Value} (hc : ∀ (j : Nat) (v : Value), vs[j]? = some v → w.cell? (a.add j) = some v) {n : Nat} (hn : vs.length = n) : (loadCells a n).run P w = .ok vs.toArray w := by
  have := run_loadCells_list (P := P) w a vs hc
  rwa [hn] at this

theorem VRL.take {xs : List AV} {vs : List Value} (hv : VRL k w xs vs) (n : Nat) : VRL k w (xs.take n) (vs.take n) := by
  have hl := hv.length
  refine VRL.of_get (by simp [hl]) fun i x v hx hv' => ?_
  rw [List.getElem?_take] at hx hv'
  split at hx
  · rename_i hi
    rw [if_pos hi] at hv'
    obtain ⟨u, h1, h2⟩ := hv.get i x hx
    rw [h1] at hv'; cases hv'; exact h2
  · cases hx

theorem elemsOf_sound (hr : HR k h w) {sz : Nat} {x : AV} {v : Value} (hx : VR k w x v) {n : Nat} {cs : List AV} (he : elemsOf h sz x = some (n, cs)) :
    (Builtin.lenOf v).run P w = .ok n w ∧ cs.length = n * sz ∧ ∀ m, m ≤ n → ∃ vs : List Value, (∀ d, (Builtin.firstCells sz m v).run P { w with drawn := d } = .ok vs.toArray { w with drawn := d }) ∧ VRL k w (cs.take (m * sz)) vs := by
  cases x <;> simp only [elemsOf] at he <;> try (cases he; done)
  case str s =>
    cases hb : Nat.beq sz 1 with
    | false => simp only [hb, cond_false] at he; cases he
    | true =>
      obtain rfl := Nat.eq_of_beq_eq_true hb
      simp only [hb, cond_true, Option.some.injEq, Prod.mk.injEq] at he
      obtain ⟨rfl, rfl⟩ := he
      simp only [VR] at hx
      obtain ⟨b, rfl, rfl⟩ := hx
      have hsz : b.size = b.data.toList.length := by simp
      refine ⟨by simp [Builtin.lenOf], by simp, fun m hm => ⟨((b.extract 0 m).data.map fun b => Value.int .u8 b.toNat).toList, fun d => by simp only [Builtin.firstCells, Sem.run_pure, Array.toArray_toList], ?_⟩⟩
      have e1 : ((b.extract 0 m).data.map fun b => Value.int .u8 b.toNat).toList = (b.data.toList.take m).map fun b => Value.int .u8 (b.toNat : Int) := by
        rw [Array.toList_map, Lib.extract_data]
        simp
      rw [e1, Nat.mul_one]
      have key : ∀ l : List UInt8, VRL k w ((l.map UInt8.toNat).map byteA) (l.map fun b => Value.int .u8 (b.toNat : Int)) := by
        intro l
        induction l with
        | nil => simp only [List.map_nil, VRL]
        | cons u l ih => simp only [List.map_cons, VRL]; exact ⟨_, _, rfl, by simp only [byteA, VR], ih⟩
      rw [← List.map_take, ← List.map_take]
      exact key _
  case nils =>
    cases he
    simp only [VR] at hx
    subst hx
    exact ⟨by simp [Builtin.lenOf], by simp, fun m hm => ⟨[], fun d => by simp [Builtin.firstCells], by simp [VRL]⟩⟩
  case emp =>
    cases he
    simp only [VR] at hx
    obtain ⟨a, c, rfl⟩ := hx
    refine ⟨by simp [Builtin.lenOf], by simp, fun m hm => ⟨[], fun d => ?_, by simp [VRL]⟩⟩
    have : m = 0 := by omega
    subst this
    simp only [Builtin.firstCells, Nat.zero_mul]
    exact run_loads (fun j v hj => by simp at hj) rfl
  case sl o off len s cap =>
    cases hb : Nat.beq s sz with
    | false => simp only [hb, cond_false] at he; cases he
    | true =>
      obtain rfl := Nat.eq_of_beq_eq_true hb
      simp only [hb, cond_true] at he
      split at he
      case h_2 => cases he
      rename_i e cells hg
      cases hs : seg cells off (len * s) with
      | none => simp [hs] at he
      | some r =>
        simp only [hs, Option.map_some, Option.some.injEq, Prod.mk.injEq] at he
        obtain ⟨rfl, rfl⟩ := he
        simp only [VR] at hx
        obtain ⟨b, sh, c, arr, e2, fr, hρ, rfl, _⟩ := hx
        obtain ⟨g1, g2⟩ := seg_get hs
        obtain ⟨b', sh', h3, arr', fr', h5, h6, h7, _⟩ := hr.obj o _ hg
        rw [hρ] at h3; cases h3
        refine ⟨by simp [Builtin.lenOf], g1, fun m hm => ?_⟩
        obtain ⟨vs, h10, h11⟩ := VRL.choose (k := k) (w := w) (cs := r) (fun j v => w.cell? ((⟨b, sh + off, none⟩ : Addr).add j) = some v) (fun j x hx => by
          obtain ⟨v, h12, h13⟩ := h7 _ _ (g2 j x hx)
          refine ⟨v, ?_, h13⟩
          rw [add_off, cell_of_heap h5, Nat.add_assoc]
          exact h12)
        have hl := h10.length
        have hmul : m * s ≤ len * s := Nat.mul_le_mul_right _ hm
        refine ⟨vs.take (m * s), fun d => ?_, h10.take _⟩
        simp only [Builtin.firstCells]
        refine run_loads (fun j v hj => ?_) (by rw [List.length_take, hl, g1]; exact Nat.min_eq_left hmul)
        rw [List.getElem?_take] at hj
        split at hj
        · exact h11 j v hj
        · cases hj
  case psl cells len cap =>
    cases hs : seg cells 0 (len * sz) with
    | none => simp [hs] at he
    | some r =>
      simp only [hs, Option.map_some, Option.some.injEq, Prod.mk.injEq] at he
      obtain ⟨rfl, rfl⟩ := he
      simp only [VR] at hx
      obtain ⟨b, sh, c, rfl, _, _, _, hcs⟩ := hx
      obtain ⟨g1, g2⟩ := seg_get hs
      refine ⟨by simp [Builtin.lenOf], g1, fun m hm => ?_⟩
      obtain ⟨vs, h10, h11⟩ := VRL.choose (k := k) (w := w) (cs := r) (fun j v => w.cell? ((⟨b, sh, none⟩ : Addr).add j) = some v) (fun j x hx => by
        have := g2 j x hx
        rw [Nat.zero_add] at this
        obtain ⟨v, h12, h13⟩ := hcs.get _ _ this
        exact ⟨v, by rw [add_off]; exact h12, h13⟩)
      have hl := h10.length
      have hmul : m * sz ≤ len * sz := Nat.mul_le_mul_right _ hm
      refine ⟨vs.take (m * sz), fun d => ?_, h10.take _⟩
      simp only [Builtin.firstCells]
      refine run_loads (fun j v hj => ?_) (by rw [List.length_take, hl, g1]; exact Nat.min_eq_left hmul)
      rw [List.getElem?_take] at hj
      split at hj
      · exact h11 j v hj
      · cases hj

def K.at (k : K) (o b sh : Nat) : K := ⟨fun x => if x = o then some (b, sh) else k.ρ x, k.fz, k.sz⟩

/-- An object goes on in its own block under a new name. -/
theorem HR.regrow (hr : HR k h w) {w' : World} {o o' : Nat} {ob ob' : AO} {b sh sh' : Nat} (hg : h.get o = some ob) (hρ : k.ρ o = some (b, sh)) (ha : (h.set o none).alloc ob' = some (o', h'))
    (hos : w'.os = w.os) (htape : w'.tape = w.tape) (hout : w'.output = w.output) (hsize : w'.heap.size = w.heap.size)
    (hsame : ∀ b', b' ≠ b → w'.heap[b']? = w.heap[b']?)
    (hshape : ∀ (arr : Array Value) (e : TypeId) (fr : Nat × Nat), w.heap[b]? = some (Obj.cells arr e fr) → ∃ (arr' : Array Value) (fr' : Nat × Nat), w'.heap[b]? = some (Obj.cells arr' e fr') ∧ arr'.size = arr.size)
    (hob : Le k (k.at o' b sh') w w' → ObR (k.at o' b sh') w' b sh' ob') :
    HR (k.at o' b sh') h' w' ∧ Ev k (k.at o' b sh') h h' w w' := by
  have ho := AH.lt_of_get hg
  unfold AH.alloc at ha
  cases hlt : Nat.blt (h.set o none).next limH with
  | false => rw [hlt] at ha; cases ha
  | true =>
    rw [hlt] at ha
    simp only [cond_true, Option.some.injEq, Prod.mk.injEq] at ha
    obtain ⟨rfl, rfl⟩ := ha
    have hnext : (h.set o none).next = h.next := rfl
    rw [hnext] at *
    have hlt' : h.next < limH := Nat.le_of_ble_eq_true hlt
    have hfr : k.ρ h.next = none := hr.fresh _ (Nat.le_refl _)
    have hne : o ≠ h.next := by intro e; rw [e] at hρ; rw [hfr] at hρ; cases hρ
    have hget : ∀ j, (⟨T.put deepH (h.set o none).m h.next (some ob'), h.next + 1⟩ : AH).get j = if j = h.next then some ob' else if j = o then none else h.get j := fun j => by
      have := T.get_put' 24 (h.set o none).m h.next j (some ob') (by simpa using hlt')
      show T.get deepH (T.put deepH (h.set o none).m h.next (some ob')) j = _
      rw [this]
      split
      · rfl
      · have := AH.get_set h o j none ho
        exact this
    have hρne : ∀ o p, k.ρ o = some p → o ≠ h.next := by intro o p hp e; subst e; rw [hfr] at hp; cases hp
    have back : ∀ {j : Nat} {ob1 : AO}, (⟨T.put deepH (h.set o none).m h.next (some ob'), h.next + 1⟩ : AH).get j = some ob1 → (j = h.next ∧ ob1 = ob') ∨ (j ≠ h.next ∧ j ≠ o ∧ h.get j = some ob1) := by
      intro j ob1 h1
      rw [hget] at h1
      by_cases e : j = h.next
      · rw [if_pos e] at h1; cases h1; exact .inl ⟨e, rfl⟩
      · rw [if_neg e] at h1
        by_cases e2 : j = o
        · rw [if_pos e2] at h1; cases h1
        · rw [if_neg e2] at h1; exact .inr ⟨e, e2, h1⟩
    have ev : Ev k (k.at h.next b sh') h ⟨T.put deepH (h.set o none).m h.next (some ob'), h.next + 1⟩ w w' := by
      refine ⟨rfl, hos, htape, hout, by omega, fun b' _ hn => hsame b' fun e => hn o ob sh hg (e ▸ hρ), fun b' arr e fr hx => ?_, fun o1 p hp => ?_, fun _ h => h, fun j ob1 b' s1 h1 h2 hb => ?_, Nat.le_succ _, fun j hj => by simp only [K.at, if_neg (show j ≠ h.next by omega)], fun _ _ h => .inl h⟩
      · by_cases e' : b' = b
        · subst e'; exact hshape arr e fr hx
        · exact ⟨arr, fr, (hsame b' e').trans hx, rfl⟩
      · simp only [K.at, if_neg (hρne o1 p hp), hp]
      · rcases back h1 with ⟨rfl, rfl⟩ | ⟨e1, e2, h3⟩
        · simp only [K.at, if_true, Option.some.injEq, Prod.mk.injEq] at h2
          obtain ⟨rfl, rfl⟩ := h2
          exact ⟨o, ob, sh, hg, hρ⟩
        · simp only [K.at, if_neg e1] at h2
          exact ⟨j, ob1, s1, h3, h2⟩
    have le := ev.le hr
    refine ⟨⟨fun j ob1 h1 => ?_, fun o1 o2 ob1 ob2 b' s1 s2 h1 h2 h3 h4 => ?_, fun j ob1 b' s1 h1 h2 => ?_, fun j hj => ?_, fun b' hb => by rw [hsize]; exact hr.lt b' hb⟩, ev⟩
    · rcases back h1 with ⟨rfl, rfl⟩ | ⟨e1, e2, h3⟩
      · exact ⟨b, sh', by simp [K.at], hob le⟩
      · obtain ⟨b1, s1, h4, h5⟩ := hr.obj j ob1 h3
        have hbne : b1 ≠ b := by intro e; subst e; exact e2 (hr.inj j o ob1 ob b1 s1 sh h3 hg h4 hρ)
        exact ⟨b1, s1, by simp only [K.at, if_neg e1, h4], h5.mono le (hsame b1 hbne)⟩
    · rcases back h1 with ⟨rfl, rfl⟩ | ⟨e1, e2, h5⟩ <;> rcases back h2 with ⟨e3, rfl⟩ | ⟨e3, e4, h6⟩
      · exact e3.symm
      · simp only [K.at, if_true, Option.some.injEq, Prod.mk.injEq] at h3
        simp only [K.at, if_neg e3] at h4
        obtain ⟨rfl, rfl⟩ := h3
        exact absurd (hr.inj o2 o _ _ _ _ _ h6 hg h4 hρ) e4
      · subst e3
        simp only [K.at, if_true, Option.some.injEq, Prod.mk.injEq] at h4
        simp only [K.at, if_neg e1] at h3
        obtain ⟨rfl, rfl⟩ := h4
        exact absurd (hr.inj o1 o _ _ _ _ _ h5 hg h3 hρ) e2
      · simp only [K.at, if_neg e1] at h3
        simp only [K.at, if_neg e3] at h4
        exact hr.inj o1 o2 _ _ b' s1 s2 h5 h6 h3 h4
    · rcases back h1 with ⟨rfl, rfl⟩ | ⟨e1, e2, h3⟩
      · simp only [K.at, if_true, Option.some.injEq, Prod.mk.injEq] at h2
        obtain ⟨rfl, rfl⟩ := h2
        exact hr.nfz o ob _ sh hg hρ
      · simp only [K.at, if_neg e1] at h2
        exact hr.nfz j ob1 b' s1 h3 h2
    · have : h.next + 1 ≤ j := hj
      simp only [K.at, if_neg (show j ≠ h.next by omega)]
      exact hr.fresh j (by omega)

theorem growBy_le (newLen : Nat) : ∀ (r c : Nat), Builtin.growBy newLen r c ≤ max c (newLen + (newLen + 768) / 4)
  | 0, c => by simp [Builtin.growBy]; omega
  | r + 1, c => by
    simp only [Builtin.growBy]
    split
    · omega
    · have := growBy_le newLen r (c + (c + 768) / 4)
      omega

theorem nextcap_le {need c : Nat} (hc : c < need) : Builtin.nextslicecap need c ≤ 2 * need + 192 := by
  unfold Builtin.nextslicecap
  split
  · omega
  · split
    · omega
    · have := growBy_le need 4 c
      omega

end

end Go.Ab
end
