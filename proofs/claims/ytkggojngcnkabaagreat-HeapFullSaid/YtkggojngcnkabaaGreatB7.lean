/-
  What the evaluator's memory says of a world: tries, the map of names, the relation, and how it is kept.
-/
import Derived.Test.YtkggojngcnkabaaGreatB6
import Derived.Test.YtkggojngcnkabaaGreatB3
set_option linter.unusedVariables false
set_option linter.unusedSimpArgs false
namespace Go.Kx
open Go.Sl

/-! Tries. -/
theorem sel_zero {α : Type} {c : Nat} (h : c = 0) (l r : Nat → α) (x : Nat) : sel c l r x = l x := by subst h; rfl
theorem sel_pos {α : Type} {c : Nat} (h : c ≠ 0) (l r : Nat → α) (x : Nat) : sel c l r x = r x := by
  cases c with
  | zero => exact absurd rfl h
  | succ c => rfl
theorem TV.get_zero (v : V) (l r : TV) : (TV.node v l r).get 0 = .ok v := rfl
theorem TV.get_even (v : V) (l r : TV) {m : Nat} (h : m % 2 = 0) : (TV.node v l r).get (m + 1) = l.get (m / 2) := sel_zero h _ _ _
theorem TV.get_odd (v : V) (l r : TV) {m : Nat} (h : m % 2 ≠ 0) : (TV.node v l r).get (m + 1) = r.get (m / 2) := sel_pos h _ _ _
theorem TV.set_nil0 (x : V) : TV.nil.set 0 x = .node x .nil .nil := rfl
theorem TV.set_nil1 (m : Nat) (x : V) : TV.nil.set (m + 1) x = .nil := rfl
theorem TV.set_zero (v x : V) (l r : TV) : (TV.node v l r).set 0 x = .node x l r := rfl
theorem TV.setM_zero {c : Nat} (h : c = 0) (v : V) (l r : TV) (il ir : Nat → V → TV) (m : Nat) (x : V) : TV.setM c v l r il ir m x = .node v (il m x) r := by subst h; rfl
theorem TV.setM_pos {c : Nat} (h : c ≠ 0) (v : V) (l r : TV) (il ir : Nat → V → TV) (m : Nat) (x : V) : TV.setM c v l r il ir m x = .node v l (ir m x) := by
  cases c with
  | zero => exact absurd rfl h
  | succ c => rfl
theorem TV.set_even (v x : V) (l r : TV) {m : Nat} (h : m % 2 = 0) : (TV.node v l r).set (m + 1) x = .node v (l.set (m / 2) x) r := TV.setM_zero h _ _ _ _ _ _ _
theorem TV.set_odd (v x : V) (l r : TV) {m : Nat} (h : m % 2 ≠ 0) : (TV.node v l r).set (m + 1) x = .node v l (r.set (m / 2) x) := TV.setM_pos h _ _ _ _ _ _ _
theorem TV.get_set (t : TV) : ∀ (i j : Nat) (x y : V), (t.set i x).get j = .ok y → (j = i ∧ y = x) ∨ (j ≠ i ∧ t.get j = .ok y) := by
  induction t with
  | nil =>
    intro i j x y h
    cases i with
    | zero =>
      rw [TV.set_nil0] at h
      cases j with
      | zero => rw [TV.get_zero] at h; cases h; exact .inl ⟨rfl, rfl⟩
      | succ j =>
        by_cases c : j % 2 = 0
        · rw [TV.get_even _ _ _ c] at h; cases h
        · rw [TV.get_odd _ _ _ c] at h; cases h
    | succ i => rw [TV.set_nil1] at h; cases h
  | node v l r ihl ihr =>
    intro i j x y h
    cases i with
    | zero =>
      rw [TV.set_zero] at h
      cases j with
      | zero => rw [TV.get_zero] at h; cases h; exact .inl ⟨rfl, rfl⟩
      | succ j =>
        refine .inr ⟨by omega, ?_⟩
        by_cases c : j % 2 = 0
        · rw [TV.get_even _ _ _ c] at h ⊢; exact h
        · rw [TV.get_odd _ _ _ c] at h ⊢; exact h
    | succ i =>
      by_cases ci : i % 2 = 0
      · rw [TV.set_even _ _ _ _ ci] at h
        cases j with
        | zero => exact .inr ⟨by omega, h⟩
        | succ j =>
          by_cases c : j % 2 = 0
          · rw [TV.get_even _ _ _ c] at h ⊢
            rcases ihl _ _ _ _ h with ⟨e, f⟩ | ⟨e, f⟩
            · exact .inl ⟨by omega, f⟩
            · exact .inr ⟨by omega, f⟩
          · rw [TV.get_odd _ _ _ c] at h ⊢
            exact .inr ⟨fun e => by omega, h⟩
      · rw [TV.set_odd _ _ _ _ ci] at h
        cases j with
        | zero => exact .inr ⟨by omega, h⟩
        | succ j =>
          by_cases c : j % 2 = 0
          · rw [TV.get_even _ _ _ c] at h ⊢
            exact .inr ⟨fun e => by omega, h⟩
          · rw [TV.get_odd _ _ _ c] at h ⊢
            rcases ihr _ _ _ _ h with ⟨e, f⟩ | ⟨e, f⟩
            · exact .inl ⟨by omega, f⟩
            · exact .inr ⟨by omega, f⟩

theorem TB.get_zero (v : Blk) (l r : TB) : (TB.node v l r).get 0 = .ok v := rfl
theorem TB.get_even (v : Blk) (l r : TB) {m : Nat} (h : m % 2 = 0) : (TB.node v l r).get (m + 1) = l.get (m / 2) := sel_zero h _ _ _
theorem TB.get_odd (v : Blk) (l r : TB) {m : Nat} (h : m % 2 ≠ 0) : (TB.node v l r).get (m + 1) = r.get (m / 2) := sel_pos h _ _ _
theorem TB.set_nil0 (x : Blk) : TB.nil.set 0 x = .node x .nil .nil := rfl
theorem TB.set_nil1 (m : Nat) (x : Blk) : TB.nil.set (m + 1) x = .nil := rfl
theorem TB.set_zero (v x : Blk) (l r : TB) : (TB.node v l r).set 0 x = .node x l r := rfl
theorem TB.setM_zero {c : Nat} (h : c = 0) (v : Blk) (l r : TB) (il ir : Nat → Blk → TB) (m : Nat) (x : Blk) : TB.setM c v l r il ir m x = .node v (il m x) r := by subst h; rfl
theorem TB.setM_pos {c : Nat} (h : c ≠ 0) (v : Blk) (l r : TB) (il ir : Nat → Blk → TB) (m : Nat) (x : Blk) : TB.setM c v l r il ir m x = .node v l (ir m x) := by
  cases c with
  | zero => exact absurd rfl h
  | succ c => rfl
theorem TB.set_even (v x : Blk) (l r : TB) {m : Nat} (h : m % 2 = 0) : (TB.node v l r).set (m + 1) x = .node v (l.set (m / 2) x) r := TB.setM_zero h _ _ _ _ _ _ _
theorem TB.set_odd (v x : Blk) (l r : TB) {m : Nat} (h : m % 2 ≠ 0) : (TB.node v l r).set (m + 1) x = .node v l (r.set (m / 2) x) := TB.setM_pos h _ _ _ _ _ _ _
theorem TB.get_set (t : TB) : ∀ (i j : Nat) (x y : Blk), (t.set i x).get j = .ok y → (j = i ∧ y = x) ∨ (j ≠ i ∧ t.get j = .ok y) := by
  induction t with
  | nil =>
    intro i j x y h
    cases i with
    | zero =>
      rw [TB.set_nil0] at h
      cases j with
      | zero => rw [TB.get_zero] at h; cases h; exact .inl ⟨rfl, rfl⟩
      | succ j =>
        by_cases c : j % 2 = 0
        · rw [TB.get_even _ _ _ c] at h; cases h
        · rw [TB.get_odd _ _ _ c] at h; cases h
    | succ i => rw [TB.set_nil1] at h; cases h
  | node v l r ihl ihr =>
    intro i j x y h
    cases i with
    | zero =>
      rw [TB.set_zero] at h
      cases j with
      | zero => rw [TB.get_zero] at h; cases h; exact .inl ⟨rfl, rfl⟩
      | succ j =>
        refine .inr ⟨by omega, ?_⟩
        by_cases c : j % 2 = 0
        · rw [TB.get_even _ _ _ c] at h ⊢; exact h
        · rw [TB.get_odd _ _ _ c] at h ⊢; exact h
    | succ i =>
      by_cases ci : i % 2 = 0
      · rw [TB.set_even _ _ _ _ ci] at h
        cases j with
        | zero => exact .inr ⟨by omega, h⟩
        | succ j =>
          by_cases c : j % 2 = 0
          · rw [TB.get_even _ _ _ c] at h ⊢
            rcases ihl _ _ _ _ h with ⟨e, f⟩ | ⟨e, f⟩
            · exact .inl ⟨by omega, f⟩
            · exact .inr ⟨by omega, f⟩
          · rw [TB.get_odd _ _ _ c] at h ⊢
            exact .inr ⟨fun e => by omega, h⟩
      · rw [TB.set_odd _ _ _ _ ci] at h
        cases j with
        | zero => exact .inr ⟨by omega, h⟩
        | succ j =>
          by_cases c : j % 2 = 0
          · rw [TB.get_even _ _ _ c] at h ⊢
            exact .inr ⟨fun e => by omega, h⟩
          · rw [TB.get_odd _ _ _ c] at h ⊢
            rcases ihr _ _ _ _ h with ⟨e, f⟩ | ⟨e, f⟩
            · exact .inl ⟨by omega, f⟩
            · exact .inr ⟨by omega, f⟩

/-! Lists. -/
theorem lenL_eq (l : List V) : lenL l = l.length := by
  induction l with
  | nil => rfl
  | cons v l ih => show Nat.succ (lenL l) = _; rw [ih]; rfl
theorem nth_of {l : List V} : ∀ {i : Nat} {v : V}, nth l i = .ok v → l[i]? = some v := by
  induction l with
  | nil => intro i v h; cases h
  | cons u l ih =>
    intro i v h
    cases i with
    | zero => cases h; rfl
    | succ i => exact ih h
theorem nthN_of {l : List Nat} : ∀ {i : Nat} {v : Nat}, nthN l i = .ok v → l[i]? = some v := by
  induction l with
  | nil => intro i v h; cases h
  | cons u l ih =>
    intro i v h
    cases i with
    | zero => cases h; rfl
    | succ i => exact ih h
theorem nthN_no {l : List Nat} : ∀ {i : Nat}, nthN l i = .no → l[i]? = none := by
  induction l with
  | nil => intro i h; rfl
  | cons u l ih =>
    intro i h
    cases i with
    | zero => cases h
    | succ i => exact ih h
theorem nth_lt {l : List V} : ∀ {i : Nat}, i < l.length → ∃ v, nth l i = .ok v ∧ l[i]? = some v := by
  induction l with
  | nil => intro i h; simp at h
  | cons u l ih =>
    intro i h
    cases i with
    | zero => exact ⟨u, rfl, rfl⟩
    | succ i => exact ih (by simpa using h)
theorem appL_eq (l r : List V) : appL l r = l ++ r := by
  induction l with
  | nil => rfl
  | cons v l ih => show v :: appL l r = _; rw [ih]; rfl
theorem repL_succ (z : List V) (n : Nat) : repL z (n + 1) = z ++ repL z n := appL_eq _ _
theorem tab_get (l : List V) (fuel : Nat) : ∀ (n a c i : Nat) (v : V), (tab l fuel n a c).get i = .ok v → i < n ∧ v = ofOV (nth l (c + a * i)) := by
  induction fuel with
  | zero => intro n a c i v h; cases h
  | succ fuel ih =>
    intro n a c i v h
    cases n with
    | zero => cases h
    | succ n =>
      have e : tab l (fuel + 1) (n + 1) a c = .node (ofOV (nth l c)) (tab l fuel ((n + 1) / 2) (a + a) (c + a)) (tab l fuel (n / 2) (a + a) (c + (a + a))) := rfl
      rw [e] at h
      cases i with
      | zero => rw [TV.get_zero] at h; cases h; exact ⟨by omega, by simp⟩
      | succ i =>
        by_cases ci : i % 2 = 0
        · rw [TV.get_even _ _ _ ci] at h
          obtain ⟨h1, h2⟩ := ih _ _ _ _ _ h
          refine ⟨by omega, ?_⟩
          rw [h2]
          have : i = 2 * (i / 2) := by omega
          congr 2
          have e2 : (a + a) * (i / 2) = a * i := by
            conv => rhs; rw [this]
            rw [← Nat.two_mul, Nat.mul_assoc, Nat.mul_left_comm]
          rw [e2, Nat.mul_succ]; omega
        · rw [TV.get_odd _ _ _ ci] at h
          obtain ⟨h1, h2⟩ := ih _ _ _ _ _ h
          refine ⟨by omega, ?_⟩
          rw [h2]
          have : i = 2 * (i / 2) + 1 := by omega
          congr 2
          have e2 : (a + a) * (i / 2) + a = a * i := by
            conv => rhs; rw [this]
            rw [Nat.mul_succ, ← Nat.two_mul, Nat.mul_assoc, Nat.mul_left_comm]
          rw [Nat.mul_succ]; omega
theorem ofL_get {l : List V} {i : Nat} {v : V} (h : (ofL l).get i = .ok v) : l[i]? = some v := by
  obtain ⟨h1, h2⟩ := tab_get _ _ _ _ _ _ _ h
  rw [lenL_eq] at h1
  obtain ⟨u, h3, h4⟩ := nth_lt h1
  rw [Nat.zero_add, Nat.one_mul, h3] at h2
  rw [h4, h2]; rfl
theorem rep1_get (x : V) (fuel : Nat) : ∀ (n i : Nat) (v : V), (rep1 x fuel n).get i = .ok v → i < n ∧ v = x := by
  induction fuel with
  | zero => intro n i v h; cases h
  | succ fuel ih =>
    intro n i v h
    cases n with
    | zero => cases h
    | succ n =>
      have e : rep1 x (fuel + 1) (n + 1) = .node x (rep1 x fuel ((n + 1) / 2)) (rep1 x fuel (n / 2)) := rfl
      rw [e] at h
      cases i with
      | zero => rw [TV.get_zero] at h; cases h; exact ⟨by omega, rfl⟩
      | succ i =>
        by_cases ci : i % 2 = 0
        · rw [TV.get_even _ _ _ ci] at h
          obtain ⟨h1, h2⟩ := ih _ _ _ h
          exact ⟨by omega, h2⟩
        · rw [TV.get_odd _ _ _ ci] at h
          obtain ⟨h1, h2⟩ := ih _ _ _ h
          exact ⟨by omega, h2⟩

/-! Values. -/
abbrev Mp := Nat → Option (Nat × Nat × Nat)
def Le (m m' : Mp) : Prop := ∀ k r, m k = some r → m' k = some r
theorem Le.refl (m : Mp) : Le m m := fun _ _ h => h
theorem Le.trans {a b c : Mp} (x : Le a b) (y : Le b c) : Le a c := fun k r h => y k r (x k r h)
def bytes (l : List Nat) : ByteArray := ⟨(l.map UInt8.ofNat).toArray⟩
def capOf (cap : Nat) : Cap → Nat
  | .ex c => c
  | .up j => cap - j
mutual
def toV (m : Mp) : V → Option Value
  | .b x => some (.bool x)
  | .i n => some (.int .i64 n)
  | .k kd n => some (.int kd n)
  | .f x => some (.float .f64 x)
  | .z a b => some (.complex .f64 a b)
  | .s l => some (.string (bytes l))
  | .p b o => match m b with
    | some (r, base, _) => some (.pointer (some ⟨r, base + o, none⟩))
    | none => none
  | .np => some (.pointer none)
  | .sl b o n c => match m b with
    | some (r, base, cap) => if n ≤ capOf cap c then some (.slice (some ⟨r, base + o, none⟩) n (capOf cap c)) else none
    | none => none
  | .se b o mv j => match m b with
    | some (r, base, cap) => if j ≤ cap then some (.slice (some ⟨r, if cap = j then base + o else base + (o + mv), none⟩) 0 (cap - j)) else none
    | none => none
  | .ns => some (.slice none 0 0)
  | .m b => match m b with
    | some (r, _, _) => some (.map (some r))
    | none => none
  | .nm => some (.map none)
  | .fn f u w => match toVs m u with
    | some us => match toVs m w with
      | some ws => some (.func (.func f) us.toArray ws.toArray)
      | none => none
    | none => none
  | .nf => some .nilFunc
  | .a l => match toVs m l with
    | some vs => some (.agg vs.toArray)
    | none => none
  | .t l => match toVs m l with
    | some vs => some (.tuple vs.toArray)
    | none => none
def toVs (m : Mp) : List V → Option (List Value)
  | [] => some []
  | v :: l => match toV m v with
    | some u => match toVs m l with
      | some us => some (u :: us)
      | none => none
    | none => none
end
theorem toVs_nil (m : Mp) : toVs m [] = some [] := by simp [toVs]
theorem toVs_cons {m : Mp} {v : V} {l : List V} {us : List Value} : toVs m (v :: l) = some us ↔ ∃ u r, toV m v = some u ∧ toVs m l = some r ∧ us = u :: r := by
  simp only [toVs]
  constructor
  · intro h
    split at h
    · rename_i u hu
      split at h
      · rename_i r hr
        simp only [Option.some.injEq] at h
        exact ⟨u, r, hu, hr, h.symm⟩
      · cases h
    · cases h
  · rintro ⟨u, r, h1, h2, rfl⟩
    simp [h1, h2]
mutual
theorem toV_le {m m' : Mp} (h : Le m m') : ∀ (v : V) {u : Value}, toV m v = some u → toV m' v = some u
  | .b _, _, e => e
  | .i _, _, e => e
  | .k _ _, _, e => e
  | .f _, _, e => e
  | .z _ _, _, e => e
  | .s _, _, e => e
  | .np, _, e => e
  | .ns, _, e => e
  | .nm, _, e => e
  | .nf, _, e => e
  | .p b o, u, e => by
    simp only [toV] at e ⊢
    split at e
    · rename_i hm; rw [h _ _ hm]; exact e
    · cases e
  | .sl b o n c, u, e => by
    simp only [toV] at e ⊢
    split at e
    · rename_i hm; rw [h _ _ hm]; exact e
    · cases e
  | .se b o mv j, u, e => by
    simp only [toV] at e ⊢
    split at e
    · rename_i hm; rw [h _ _ hm]; exact e
    · cases e
  | .m b, u, e => by
    simp only [toV] at e ⊢
    split at e
    · rename_i hm; rw [h _ _ hm]; exact e
    · cases e
  | .fn f us ws, u, e => by
    simp only [toV] at e ⊢
    split at e
    · rename_i a ha
      split at e
      · rename_i b hb
        rw [toVs_le h us ha, toVs_le h ws hb]; exact e
      · cases e
    · cases e
  | .a l, u, e => by
    simp only [toV] at e ⊢
    split at e
    · rename_i a ha; rw [toVs_le h l ha]; exact e
    · cases e
  | .t l, u, e => by
    simp only [toV] at e ⊢
    split at e
    · rename_i a ha; rw [toVs_le h l ha]; exact e
    · cases e
theorem toVs_le {m m' : Mp} (h : Le m m') : ∀ (l : List V) {us : List Value}, toVs m l = some us → toVs m' l = some us
  | [], _, e => by simpa [toVs] using e
  | v :: l, us, e => by
    obtain ⟨u, r, h1, h2, rfl⟩ := toVs_cons.1 e
    exact toVs_cons.2 ⟨u, r, toV_le h v h1, toVs_le h l h2, rfl⟩
end
theorem toVs_len {m : Mp} : ∀ {l : List V} {us : List Value}, toVs m l = some us → us.length = l.length := by
  intro l
  induction l with
  | nil => intro us h; simp [toVs] at h; subst h; rfl
  | cons v l ih =>
    intro us h
    obtain ⟨u, r, _, h2, rfl⟩ := toVs_cons.1 h
    simp [ih h2]
theorem toVs_get {m : Mp} : ∀ {l : List V} {us : List Value}, toVs m l = some us → ∀ {i : Nat} {v : V}, l[i]? = some v → ∃ u, us[i]? = some u ∧ toV m v = some u := by
  intro l
  induction l with
  | nil => intro us h i v hv; simp at hv
  | cons v l ih =>
    intro us h i x hx
    obtain ⟨u, r, h1, h2, rfl⟩ := toVs_cons.1 h
    cases i with
    | zero => simp only [List.getElem?_cons_zero, Option.some.injEq] at hx; subst hx; exact ⟨u, rfl, h1⟩
    | succ i => exact ih h2 (by simpa using hx)
theorem toVs_append {m : Mp} : ∀ {a b : List V} {us ws : List Value}, toVs m a = some us → toVs m b = some ws → toVs m (a ++ b) = some (us ++ ws) := by
  intro a
  induction a with
  | nil => intro b us ws h1 h2; simp [toVs] at h1; subst h1; simpa using h2
  | cons v a ih =>
    intro b us ws h1 h2
    obtain ⟨u, r, h3, h4, rfl⟩ := toVs_cons.1 h1
    exact toVs_cons.2 ⟨u, _, h3, ih h4 h2, rfl⟩
end Go.Kx

namespace Go.Kx
open Go.Sl

def Blk.alive : Blk → Prop
  | .dead => False
  | _ => True
/-- The entries of a map. -/
def MLRel (m : Mp) : ML → List MapEntry → Prop
  | .nil, [] => True
  | .cons k v r, e :: es => e.key = .int .i64 k ∧ toV m v = some e.val ∧ MLRel m r es
  | _, _ => False
def BlkRel (m : Mp) (o : Obj) (base cap : Nat) : Blk → Prop
  | .c n sz t => ∃ arr ty, o = .cells arr ty (0, 0) ∧ base + n ≤ arr.size ∧ (∀ i v, t.get i = .ok v → i < n ∧ ∃ u, toV m v = some u ∧ arr[base + i]? = some u) ∧ (sz ≠ 0 → base + cap * sz ≤ arr.size ∧ n ≤ cap * sz)
  | .mp l => ∃ es clock, o = .map es clock ∧ MLRel m l es.toList
  | .it l pos => base = 0 ∧ o = .stringIter (bytes l) pos
  | .dead => False
theorem MLRel.le {m m' : Mp} (h : Le m m') : ∀ {l : ML} {es : List MapEntry}, MLRel m l es → MLRel m' l es
  | .nil, [], _ => trivial
  | .cons _ v _, _ :: _, ⟨a, b, c⟩ => ⟨a, toV_le h v b, MLRel.le h c⟩
theorem BlkRel.le {m m' : Mp} (h : Le m m') {o : Obj} {base cap : Nat} {b : Blk} (x : BlkRel m o base cap b) : BlkRel m' o base cap b := by
  cases b with
  | c n sz t =>
    obtain ⟨arr, ty, h1, h2, h3, h4⟩ := x
    exact ⟨arr, ty, h1, h2, fun i v hv => let ⟨l, u, a, b⟩ := h3 i v hv; ⟨l, u, toV_le h v a, b⟩, h4⟩
  | mp l => exact let ⟨es, c, a, b⟩ := x; ⟨es, c, a, b.le h⟩
  | it l pos => exact x
  | dead => exact x

structure HCp (m : Mp) (s : St) (h : PH) : Prop where
  blk : ∀ k b, s.h.get k = .ok b → b.alive → ∃ r base cap o, m k = some (r, base, cap) ∧ h r = some o ∧ BlkRel m o base cap b
  inj : ∀ k k' b b', s.h.get k = .ok b → s.h.get k' = .ok b' → b.alive → b'.alive → ∀ r x x', m k = some (r, x) → m k' = some (r, x') → k = k'
  fresh : ∀ k, s.nx ≤ k → m k = none
  known : ∀ k, k < s.nx → ∃ r, m k = some r
def HC (m : Mp) (s : St) : Chunk := ⟨fun h _ => HCp m s h, fun _ h => h⟩
/-- All but the object at r, which is o. -/
def HCx (m : Mp) (s : St) (r : Nat) (o : Obj) : Chunk := ⟨fun h _ => h r = none ∧ HCp m s (fun x => if x = r then some o else h x), fun _ h => h⟩

section
variable {w0 w : World} {m m' : Mp} {s s' : St} {R : List Chunk} {k r base cap : Nat} {b : Blk} {o o' : Obj}

theorem HC.heap (H : Holds w0 w (HC m s :: R)) : ∃ h, HCp m s h ∧ ∀ x y, h x = some y → w0.heap.size ≤ x ∧ w.heap[x]? = some y := by
  obtain ⟨h, z, ⟨h1, h2, sp, a, _⟩, p, _⟩ := H.ex
  exact ⟨h1, a, fun x y hx => let q := p x y (sp.left hx); ⟨q.1, q.2.1⟩⟩
/-- What is known of a block. -/
theorem HC.get (H : Holds w0 w (HC m s :: R)) (hb : s.h.get k = .ok b) (ha : b.alive) : ∃ r base cap o, m k = some (r, base, cap) ∧ w0.heap.size ≤ r ∧ w.heap[r]? = some o ∧ BlkRel m o base cap b := by
  obtain ⟨h, hc, hp⟩ := HC.heap H
  obtain ⟨r, base, cap, o, h1, h2, h3⟩ := hc.blk k b hb ha
  exact ⟨r, base, cap, o, h1, (hp _ _ h2).1, (hp _ _ h2).2, h3⟩
theorem HC.at (H : Holds w0 w (HC m s :: R)) (hb : s.h.get k = .ok b) (ha : b.alive) (hm : m k = some (r, base, cap)) : ∃ o, w.heap[r]? = some o ∧ BlkRel m o base cap b := by
  obtain ⟨r', base', cap', o, h1, _, h2, h3⟩ := HC.get H hb ha
  rw [hm] at h1; cases h1
  exact ⟨o, h2, h3⟩
theorem HC.open_ (hb : s.h.get k = .ok b) (ha : b.alive) (hm : m k = some (r, base, cap)) (H : Holds w0 w (HC m s :: R)) (ho : w.heap[r]? = some o) : Holds w0 w (own r o :: HCx m s r o :: R) := by
  obtain ⟨h, z, ⟨h1, h2, sp, a, c⟩, p, q⟩ := H.ex
  obtain ⟨r', base', cap', o1, e1, e2, e3⟩ := a.blk k b hb ha
  rw [hm] at e1; cases e1
  have e4 := (p r o1 (sp.left e2)).2.1
  rw [ho] at e4; cases e4
  refine ⟨⟨h, z, ⟨fun x => if x = r then some o else none, fun x => if x = r then none else h x, ?_, fun x => rfl, fun x => if x = r then none else h1 x, h2, ?_, ⟨by simp, ?_⟩, c⟩, p, q⟩, H.old, H.size, H.os, H.out, H.tape⟩
  · intro x
    by_cases cx : x = r
    · subst cx; exact .inr ⟨by simp, by simp [sp.left e2]⟩
    · exact .inl ⟨by simp [cx], by simp [cx]⟩
  · intro x
    by_cases cx : x = r
    · subst cx
      rcases sp x with ⟨u, _⟩ | ⟨u, _⟩
      · rw [e2] at u; cases u
      · exact .inr ⟨u, by simp⟩
    · rcases sp x with ⟨u, v⟩ | ⟨u, v⟩
      · exact .inl ⟨by simp [cx, u], by simp [cx, v]⟩
      · exact .inr ⟨u, by simp [cx, v]⟩
  · have : (fun x => if x = r then some o else if x = r then none else h1 x) = h1 := funext fun x => by
      by_cases cx : x = r
      · subst cx; simp [e2]
      · simp [cx]
    rw [this]; exact a
theorem HC.close (H : Holds w0 w (own r o' :: HCx m s r o :: R)) (f : ∀ h : PH, h r = none → HCp m s (fun x => if x = r then some o else h x) → HCp m' s' (fun x => if x = r then some o' else h x)) : Holds w0 w (HC m' s' :: R) := by
  obtain ⟨h, z, ⟨h1, h2, sp, a, h3, h4, sp', ⟨b1, b2⟩, c⟩, p, q⟩ := H.ex
  refine ⟨⟨h, z, ⟨fun x => if x = r then some o' else h3 x, h4, ?_, ?_, c⟩, p, q⟩, H.old, H.size, H.os, H.out, H.tape⟩
  · intro x
    have ax := a x
    rcases sp x with ⟨u, v⟩ | ⟨u, v⟩
    · rw [u] at ax
      have cx : ¬ x = r := fun e => by simp [e] at ax
      rcases sp' x with ⟨u', v'⟩ | ⟨u', v'⟩
      · exact .inl ⟨by simp [cx, u'], by rw [v, v']⟩
      · exact .inr ⟨u', by simp [cx, v, v']⟩
    · by_cases cx : x = r
      · subst cx
        rcases sp' x with ⟨u', v'⟩ | ⟨u', v'⟩
        · exact .inr ⟨by rw [← v', u], by rw [v, ax]; simp⟩
        · exact .inr ⟨u', by rw [v, ax]; simp⟩
      · rw [if_neg cx] at ax
        rcases sp' x with ⟨u', v'⟩ | ⟨u', v'⟩
        · exact .inl ⟨by simp [cx, u'], by rw [v, ax, ← v', u]⟩
        · exact .inr ⟨u', by rw [v, ax]; simp only [cx, if_false]; rw [← v', u]⟩
  · exact f h3 b1 b2
/-- A block is turned. -/
theorem HC.turn (H : Holds w0 w (HC m s :: R)) (hb : s.h.get k = .ok b) (ha : b.alive) (hm : m k = some (r, base, cap)) (ho : w.heap[r]? = some o) {w' : World} (hw : ∀ x, w'.heap[x]? = if x = r then some o' else w.heap[x]?)
    (hz : w'.heap.size = w.heap.size) (h1 : w'.os = w.os) (h2 : w'.output = w.output) (h3 : w'.tape = w.tape)
    (f : ∀ h : PH, h r = none → HCp m s (fun x => if x = r then some o else h x) → HCp m' s' (fun x => if x = r then some o' else h x)) : Holds w0 w' (HC m' s' :: R) :=
  HC.close ((HC.open_ hb ha hm H ho).put (o' := o') .here hw hz h1 h2 h3) f
theorem HC.new (H : Holds w0 w (HC m s :: R)) (o : Obj) (f : ∀ h : PH, h w.heap.size = none → HCp m s h → HCp m' s' (fun x => if x = w.heap.size then some o else h x)) : Holds w0 { w with heap := w.heap.push o } (HC m' s' :: R) := by
  obtain ⟨h, z, ⟨h1, h2, sp, a, h3, h4, sp', b, c⟩, p, q⟩ := (H.new o).ex
  refine ⟨⟨h, z, ⟨fun x => if x = w.heap.size then some o else h3 x, h4, ?_, ?_, c⟩, p, q⟩, (H.new o).old, (H.new o).size, H.os, H.out, H.tape⟩
  · intro x
    have ax := a x
    rcases sp x with ⟨u, v⟩ | ⟨u, v⟩
    · rw [u] at ax
      have cx : ¬ x = w.heap.size := fun e => by simp [e] at ax
      rcases sp' x with ⟨u', v'⟩ | ⟨u', v'⟩
      · exact .inl ⟨by simp [cx, u'], by rw [v, v']⟩
      · exact .inr ⟨u', by simp [cx, v, v']⟩
    · by_cases cx : x = w.heap.size
      · subst cx
        rcases sp' w.heap.size with ⟨u', v'⟩ | ⟨u', v'⟩
        · exact .inr ⟨by rw [← v', u], by rw [v, ax]; simp⟩
        · exact .inr ⟨u', by rw [v, ax]; simp⟩
      · rw [if_neg cx] at ax
        rcases sp' x with ⟨u', v'⟩ | ⟨u', v'⟩
        · exact .inl ⟨by simp [cx, u'], by rw [v, ax, ← v', u]⟩
        · exact .inr ⟨u', by rw [v, ax]; simp only [cx, if_false]; rw [← v', u]⟩
  · refine f h3 ?_ b
    have ax := a w.heap.size
    simp only [if_true] at ax
    rcases sp w.heap.size with ⟨u, _⟩ | ⟨u, _⟩
    · rw [ax] at u; cases u
    · rcases sp' w.heap.size with ⟨u', _⟩ | ⟨u', v'⟩
      · exact u'
      · rw [u] at v'; exact v'.symm
end

/-- The map with one name more. -/
def ext (m : Mp) (k : Nat) (r : Nat × Nat × Nat) : Mp := fun x => if x = k then some r else m x
theorem ext_le {m : Mp} {k : Nat} {r : Nat × Nat × Nat} (h : m k = none) : Le m (ext m k r) := fun x y hx => by
  unfold ext
  split
  · rename_i e; rw [e, h] at hx; cases hx
  · exact hx

section
variable {m : Mp} {s : St} {h : PH} {k r base cap : Nat} {b b' : Blk} {o o' : Obj}
/-- The step of the relation where a block is turned in place, names as before. -/
theorem HCp.set (H : HCp m s (fun x => if x = r then some o else h x)) (hb : s.h.get k = .ok b) (ha : b.alive) (hm : m k = some (r, base, cap)) (hn : b'.alive → BlkRel m o' base cap b') :
    HCp m ⟨s.nx, s.h.set k b'⟩ (fun x => if x = r then some o' else h x) where
  blk := fun k' c hc hca => by
    rcases TB.get_set _ _ _ _ _ hc with ⟨rfl, rfl⟩ | ⟨hne, hc'⟩
    · exact ⟨r, base, cap, o', hm, by simp, hn hca⟩
    · obtain ⟨r', x, y, o2, e1, e2, e3⟩ := H.blk k' c hc' hca
      refine ⟨r', x, y, o2, e1, ?_, e3⟩
      by_cases cr : r' = r
      · subst cr
        exact absurd (H.inj _ _ _ _ hc' hb hca ha _ _ _ e1 hm) hne
      · simpa [cr] using e2
  inj := fun k1 k2 c1 c2 h1 h2 a1 a2 => by
    rcases TB.get_set _ _ _ _ _ h1 with ⟨rfl, rfl⟩ | ⟨n1, h1'⟩
    · rcases TB.get_set _ _ _ _ _ h2 with ⟨rfl, rfl⟩ | ⟨n2, h2'⟩
      · intros; rfl
      · exact H.inj _ _ _ _ hb h2' ha a2
    · rcases TB.get_set _ _ _ _ _ h2 with ⟨rfl, rfl⟩ | ⟨n2, h2'⟩
      · exact H.inj _ _ _ _ h1' hb a1 ha
      · exact H.inj _ _ _ _ h1' h2' a1 a2
  fresh := H.fresh
  known := H.known
/-- A block's name is given up. -/
theorem HCp.kill (H : HCp m s h) (k : Nat) : HCp m ⟨s.nx, s.h.set k .dead⟩ h where
  blk := fun k' c hc hca => by
    rcases TB.get_set _ _ _ _ _ hc with ⟨rfl, rfl⟩ | ⟨hne, hc'⟩
    · exact hca.elim
    · exact H.blk k' c hc' hca
  inj := fun k1 k2 c1 c2 h1 h2 a1 a2 => by
    rcases TB.get_set _ _ _ _ _ h1 with ⟨rfl, rfl⟩ | ⟨n1, h1'⟩
    · exact a1.elim
    · rcases TB.get_set _ _ _ _ _ h2 with ⟨rfl, rfl⟩ | ⟨n2, h2'⟩
      · exact a2.elim
      · exact H.inj _ _ _ _ h1' h2' a1 a2
  fresh := H.fresh
  known := H.known
/-- A name for an object that has none. -/
theorem HCp.name (H : HCp m s h) (hr : h r = some o) (hno : ∀ k b, s.h.get k = .ok b → b.alive → ∀ x, m k ≠ some (r, x)) (hn : b.alive → BlkRel (ext m s.nx (r, base, cap)) o base cap b) :
    HCp (ext m s.nx (r, base, cap)) ⟨s.nx + 1, s.h.set s.nx b⟩ h where
  blk := fun k' c hc hca => by
    rcases TB.get_set _ _ _ _ _ hc with ⟨rfl, rfl⟩ | ⟨hne, hc'⟩
    · exact ⟨r, base, cap, o, by simp [ext], hr, hn hca⟩
    · obtain ⟨r', x, y, o2, e1, e2, e3⟩ := H.blk k' c hc' hca
      exact ⟨r', x, y, o2, by simp [ext, hne, e1], e2, e3.le (ext_le (H.fresh _ (Nat.le_refl _)))⟩
  inj := fun k1 k2 c1 c2 h1 h2 a1 a2 r1 x1 x2 e1 e2 => by
    rcases TB.get_set _ _ _ _ _ h1 with ⟨rfl, rfl⟩ | ⟨n1, h1'⟩
    · rcases TB.get_set _ _ _ _ _ h2 with ⟨rfl, rfl⟩ | ⟨n2, h2'⟩
      · rfl
      · simp only [ext, n2, if_false, if_true, Option.some.injEq, Prod.mk.injEq] at e1 e2
        exact absurd (e1.1 ▸ e2) (hno _ _ h2' a2 _)
    · rcases TB.get_set _ _ _ _ _ h2 with ⟨rfl, rfl⟩ | ⟨n2, h2'⟩
      · simp only [ext, n1, if_false, if_true, Option.some.injEq, Prod.mk.injEq] at e1 e2
        exact absurd (e2.1 ▸ e1) (hno _ _ h1' a1 _)
      · simp only [ext, n1, n2, if_false] at e1 e2
        exact H.inj _ _ _ _ h1' h2' a1 a2 _ _ _ e1 e2
  fresh := fun k hk => by
    have : ¬ k = s.nx := by have : s.nx + 1 ≤ k := hk; omega
    simp only [ext, this, if_false]
    exact H.fresh k (by have : s.nx + 1 ≤ k := hk; omega)
  known := fun k hk => by
    by_cases c : k = s.nx
    · exact ⟨(r, base, cap), by simp [ext, c]⟩
    · obtain ⟨x, hx⟩ := H.known k (by have : k < s.nx + 1 := hk; omega)
      exact ⟨x, by simp [ext, c, hx]⟩
/-- A new block. -/
theorem HCp.push (H : HCp m s h) (hr : h r = none) (hn : b.alive → BlkRel (ext m s.nx (r, base, cap)) o base cap b) :
    HCp (ext m s.nx (r, base, cap)) ⟨s.nx + 1, s.h.set s.nx b⟩ (fun x => if x = r then some o else h x) where
  blk := fun k' c hc hca => by
    rcases TB.get_set _ _ _ _ _ hc with ⟨rfl, rfl⟩ | ⟨hne, hc'⟩
    · exact ⟨r, base, cap, o, by simp [ext], by simp, hn hca⟩
    · obtain ⟨r', x, y, o2, e1, e2, e3⟩ := H.blk k' c hc' hca
      refine ⟨r', x, y, o2, by simp [ext, hne, e1], ?_, e3.le (ext_le (H.fresh _ (Nat.le_refl _)))⟩
      have : ¬ r' = r := fun e => by rw [e, hr] at e2; cases e2
      simp [this, e2]
  inj := fun k1 k2 c1 c2 h1 h2 a1 a2 r1 x1 x2 e1 e2 => by
    rcases TB.get_set _ _ _ _ _ h1 with ⟨rfl, rfl⟩ | ⟨n1, h1'⟩
    · rcases TB.get_set _ _ _ _ _ h2 with ⟨rfl, rfl⟩ | ⟨n2, h2'⟩
      · rfl
      · obtain ⟨r', x, y, o2, f1, f2, _⟩ := H.blk k2 c2 h2' a2
        simp only [ext, n2, if_false, if_true, Option.some.injEq, Prod.mk.injEq] at e1 e2
        rw [e2] at f1; simp only [Option.some.injEq, Prod.mk.injEq] at f1
        rw [← f1.1, ← e1.1, hr] at f2; cases f2
    · obtain ⟨r', x, y, o2, f1, f2, _⟩ := H.blk k1 c1 h1' a1
      rcases TB.get_set _ _ _ _ _ h2 with ⟨rfl, rfl⟩ | ⟨n2, h2'⟩
      · simp only [ext, n1, if_false, if_true, Option.some.injEq, Prod.mk.injEq] at e1 e2
        rw [e1] at f1; simp only [Option.some.injEq, Prod.mk.injEq] at f1
        rw [← f1.1, ← e2.1, hr] at f2; cases f2
      · simp only [ext, n1, n2, if_false] at e1 e2
        exact H.inj _ _ _ _ h1' h2' a1 a2 _ _ _ e1 e2
  fresh := fun k hk => by
    have : ¬ k = s.nx := by have : s.nx + 1 ≤ k := hk; omega
    simp only [ext, this, if_false]
    exact H.fresh k (by have : s.nx + 1 ≤ k := hk; omega)
  known := fun k hk => by
    by_cases c : k = s.nx
    · exact ⟨(r, base, cap), by simp [ext, c]⟩
    · obtain ⟨x, hx⟩ := H.known k (by have : k < s.nx + 1 := hk; omega)
      exact ⟨x, by simp [ext, c, hx]⟩
/-- The map is settled by the memory that it names. -/
theorem HCp.map_eq {m' : Mp} {h' : PH} (H : HCp m s h) (H' : HCp m' s h') (l : Le m m') : m' = m := funext fun k => by
  by_cases c : k < s.nx
  · obtain ⟨x, hx⟩ := H.known k c
    rw [hx, l k x hx]
  · rw [H.fresh k (by omega), H'.fresh k (by omega)]
theorem HC.map_eq {w0 w w0' w' : World} {m' : Mp} {R R' : List Chunk} (H : Holds w0 w (HC m s :: R)) (H' : Holds w0' w' (HC m' s :: R')) (l : Le m m') : m' = m :=
  let ⟨_, a, _⟩ := HC.heap H
  let ⟨_, b, _⟩ := HC.heap H'
  a.map_eq b l
end
end Go.Kx

namespace Go.Kx
open Go.Sl

/-! What a run that ends well has gone through. -/
theorem oV_ok {o : OV} {k : V → St → R} {u : V} {s s' : St} (h : oV o k s = .ok u s') : ∃ v, o = .ok v ∧ k v s = .ok u s' := by
  cases o with
  | no => cases h
  | ok v => exact ⟨v, rfl, h⟩
theorem oL_ok {o : OL} {k : List V → St → R} {u : V} {s s' : St} (h : oL o k s = .ok u s') : ∃ v, o = .ok v ∧ k v s = .ok u s' := by
  cases o with
  | no => cases h
  | ok v => exact ⟨v, rfl, h⟩
theorem oN_ok {o : ON} {k : Nat → St → R} {u : V} {s s' : St} (h : oN o k s = .ok u s') : ∃ v, o = .ok v ∧ k v s = .ok u s' := by
  cases o with
  | no => cases h
  | ok v => exact ⟨v, rfl, h⟩
theorem oB_ok {o : OB} {k : Blk → St → R} {u : V} {s s' : St} (h : oB o k s = .ok u s') : ∃ v, o = .ok v ∧ k v s = .ok u s' := by
  cases o with
  | no => cases h
  | ok v => exact ⟨v, rfl, h⟩
theorem onC_ok {k : Nat → Nat → TV → St → R} {b : Blk} {u : V} {s s' : St} (h : onC k b s = .ok u s') : ∃ n sz t, b = .c n sz t ∧ k n sz t s = .ok u s' := by
  cases b <;> first | exact ⟨_, _, _, rfl, h⟩ | cases h
theorem onMp_ok {k : ML → St → R} {b : Blk} {u : V} {s s' : St} (h : onMp k b s = .ok u s') : ∃ l, b = .mp l ∧ k l s = .ok u s' := by
  cases b <;> first | exact ⟨_, rfl, h⟩ | cases h
theorem onIt_ok {k : List Nat → Nat → St → R} {b : Blk} {u : V} {s s' : St} (h : onIt k b s = .ok u s') : ∃ l p, b = .it l p ∧ k l p s = .ok u s' := by
  cases b <;> first | exact ⟨_, _, rfl, h⟩ | cases h
theorem bR_ok {b : Bool} {k : St → R} {u : V} {s s' : St} (h : bR b k s = .ok u s') : b = true ∧ k s = .ok u s' := by
  cases b with
  | true => exact ⟨rfl, h⟩
  | false => cases h
theorem bE_ok {b : Bool} {k k' : St → R} {u : V} {s s' : St} (h : bE b k k' s = .ok u s') : (b = true ∧ k s = .ok u s') ∨ (b = false ∧ k' s = .ok u s') := by
  cases b with
  | true => exact .inl ⟨rfl, h⟩
  | false => exact .inr ⟨rfl, h⟩
theorem onAny_ok {k : Int → St → R} {v u : V} {s s' : St} (h : onAny k v s = .ok u s') : ∃ kd n, (v = .i n ∧ kd = .i64 ∨ v = .k kd n) ∧ k n s = .ok u s' := by
  cases v <;> first | exact ⟨.i64, _, .inl ⟨rfl, rfl⟩, h⟩ | exact ⟨_, _, .inr rfl, h⟩ | cases h
theorem onSl3_ok {k : Nat → Nat → Nat → St → R} {v u : V} {s s' : St} (h : onSl3 k v s = .ok u s') : ∃ b o n c, v = .sl b o n c ∧ k b o n s = .ok u s' := by
  cases v <;> first | exact ⟨_, _, _, _, rfl, h⟩ | cases h
theorem onB_ok {k : ((Bool) → St → R)} {v u : V} {s s' : St} (h : onB k v s = .ok u s') : ∃ x, v = .b x ∧ k x s = .ok u s' := by
  cases v <;> first | exact ⟨_, rfl, h⟩ | cases h
theorem onI_ok {k : ((Int) → St → R)} {v u : V} {s s' : St} (h : onI k v s = .ok u s') : ∃ n, v = .i n ∧ k n s = .ok u s' := by
  cases v <;> first | exact ⟨_, rfl, h⟩ | cases h
theorem onK_ok {k : ((IntKind) → (Int) → St → R)} {v u : V} {s s' : St} (h : onK k v s = .ok u s') : ∃ kd, ∃ n, v = .k kd n ∧ k kd n s = .ok u s' := by
  cases v <;> first | exact ⟨_, _, rfl, h⟩ | cases h
theorem onF_ok {k : ((Nat) → St → R)} {v u : V} {s s' : St} (h : onF k v s = .ok u s') : ∃ x, v = .f x ∧ k x s = .ok u s' := by
  cases v <;> first | exact ⟨_, rfl, h⟩ | cases h
theorem onZ_ok {k : ((Nat) → (Nat) → St → R)} {v u : V} {s s' : St} (h : onZ k v s = .ok u s') : ∃ re, ∃ im, v = .z re im ∧ k re im s = .ok u s' := by
  cases v <;> first | exact ⟨_, _, rfl, h⟩ | cases h
theorem onS_ok {k : ((List Nat) → St → R)} {v u : V} {s s' : St} (h : onS k v s = .ok u s') : ∃ x, v = .s x ∧ k x s = .ok u s' := by
  cases v <;> first | exact ⟨_, rfl, h⟩ | cases h
theorem onP_ok {k : ((Nat) → (Nat) → St → R)} {v u : V} {s s' : St} (h : onP k v s = .ok u s') : ∃ b, ∃ o, v = .p b o ∧ k b o s = .ok u s' := by
  cases v <;> first | exact ⟨_, _, rfl, h⟩ | cases h
theorem onM_ok {k : ((Nat) → St → R)} {v u : V} {s s' : St} (h : onM k v s = .ok u s') : ∃ b, v = .m b ∧ k b s = .ok u s' := by
  cases v <;> first | exact ⟨_, rfl, h⟩ | cases h
theorem onFn_ok {k : (Nat) → (List V) → (List V) → St → R} {v y : V} {s s' : St} (h : onFn k v s = .ok y s') : ∃ f, ∃ u, ∃ w, v = .fn f u w ∧ k f u w s = .ok y s' := by
  cases v <;> first | exact ⟨_, _, _, rfl, h⟩ | cases h
theorem onA_ok {k : ((List V) → St → R)} {v u : V} {s s' : St} (h : onA k v s = .ok u s') : ∃ l, v = .a l ∧ k l s = .ok u s' := by
  cases v <;> first | exact ⟨_, rfl, h⟩ | cases h
theorem onT_ok {k : ((List V) → St → R)} {v u : V} {s s' : St} (h : onT k v s = .ok u s') : ∃ l, v = .t l ∧ k l s = .ok u s' := by
  cases v <;> first | exact ⟨_, rfl, h⟩ | cases h
/-! Integers. -/
theorem ltI_eq (a b : Int) : ltI a b = decide (a < b) := by
  cases a <;> cases b
  · rename_i x y
    show Nat.blt x y = decide ((x : Int) < (y : Int))
    rw [show Nat.blt x y = decide (x < y) by rw [Bool.eq_iff_iff]; simp [Nat.blt_eq]]
    simp
  · rename_i x y; show false = decide ((x : Int) < Int.negSucc y); simp; omega
  · rename_i x y; show true = decide (Int.negSucc x < (y : Int)); simp; omega
  · rename_i x y
    show Nat.blt y x = decide (Int.negSucc x < Int.negSucc y)
    rw [show Nat.blt y x = decide (y < x) by rw [Bool.eq_iff_iff]; simp [Nat.blt_eq]]
    rw [Bool.eq_iff_iff]; simp only [decide_eq_true_eq]; omega
theorem eqI_eq (a b : Int) : eqI a b = decide (a = b) := by
  cases a <;> cases b
  · rename_i x y
    show Nat.beq x y = decide ((x : Int) = (y : Int))
    rw [Bool.eq_iff_iff, Nat.beq_eq, decide_eq_true_eq]; omega
  · rename_i x y; show false = decide ((x : Int) = Int.negSucc y); simp
  · rename_i x y; show false = decide (Int.negSucc x = (y : Int)); simp
  · rename_i x y
    show Nat.beq y x = decide (Int.negSucc x = Int.negSucc y)
    rw [Bool.eq_iff_iff, Nat.beq_eq]; simp only [decide_eq_true_eq, Int.negSucc.injEq]; exact eq_comm
theorem neg_eq (b : Bool) : neg b = !b := by cases b <;> rfl
theorem eqB_eq (a b : Bool) : eqB a b = (a == b) := by cases a <;> cases b <;> rfl
theorem frc_eq (n : Nat) : frc n = (n : Int) := by cases n <;> rfl
theorem addI_eq (a b : Int) : addI a b = a + b := by
  cases a <;> cases b
  · rename_i x y; show frc (Nat.add x y) = _; rw [frc_eq]; rfl
  · rfl
  · rfl
  · rfl
theorem subI_eq (a b : Int) : subI a b = a - b := by
  cases a <;> cases b
  · rename_i x y
    show subB (Nat.ble y x) x y = _
    cases h : Nat.ble y x with
    | false => rfl
    | true =>
      show frc (Nat.sub x y) = _
      rw [frc_eq]
      have := Nat.le_of_ble_eq_true h
      show ((x - y : Nat) : Int) = (x : Int) - (y : Int)
      omega
  · rfl
  · rfl
  · rfl
def arB : Ar → BinOp
  | .add => .add
  | .sub => .sub
  | .mul => .mul
def cmB : Cm → BinOp
  | .eq => .eql
  | .ne => .neq
  | .lt => .lss
  | .le => .leq
  | .gt => .gtr
  | .ge => .geq
theorem arI_eq (o : Ar) (a b : Int) : arithOf (arB o) a b = some (arI o a b) := by
  cases o
  · show some (a + b) = some (addI a b); rw [addI_eq]
  · show some (a - b) = some (subI a b); rw [subI_eq]
  · rfl
theorem cmI_eq (o : Cm) (a b : Int) : cmpOf (cmB o) a b = some (cmI o a b) := by
  cases o
  · show some (a == b) = some (eqI a b); rw [eqI_eq, Bool.beq_eq_decide_eq]
  · show some (a != b) = some (neg (eqI a b)); rw [eqI_eq, neg_eq, bne, Bool.beq_eq_decide_eq]
  · show some (decide (a < b)) = some (ltI a b); rw [ltI_eq]
  · show some (decide (a ≤ b)) = some (neg (ltI b a)); rw [ltI_eq, neg_eq]; congr 1; rw [Bool.eq_iff_iff]; simp
  · show some (decide (b < a)) = some (ltI b a); rw [ltI_eq]
  · show some (decide (b ≤ a)) = some (neg (ltI a b)); rw [ltI_eq, neg_eq]; congr 1; rw [Bool.eq_iff_iff]; simp
theorem wrapI_eq (n : Int) : wrapI n = IntKind.i64.wrap n := by
  cases n with
  | ofNat m =>
    show wrB (Nat.blt m 9223372036854775808) (.ofNat m) = _
    cases h : Nat.blt m 9223372036854775808 with
    | false => rfl
    | true =>
      rw [Nat.blt_eq] at h
      show (m : Int) = IntKind.i64.wrap (m : Int)
      rw [wrap64_of (by omega) (by omega)]
  | negSucc m =>
    show wrB (Nat.blt m 9223372036854775808) (.negSucc m) = _
    cases h : Nat.blt m 9223372036854775808 with
    | false => rfl
    | true =>
      rw [Nat.blt_eq] at h
      show Int.negSucc m = IntKind.i64.wrap (Int.negSucc m)
      rw [wrap64_of (by omega) (by omega)]
theorem nat_ok {n : Int} {i : Nat} (h : nat n = .ok i) : n = (i : Int) := by
  cases n with
  | ofNat m => cases h; rfl
  | negSucc m => cases h
theorem mkI_V (m : Mp) (k : IntKind) (n : Int) : toV m (mkI k n) = some (.int k n) := by cases k <;> rfl

/-! The environment. -/
def ER (m : Mp) (env : KEnv) (E : Env) : Prop := ∀ t v, klk env t = .ok v → ∃ u, lk E t = some u ∧ toV m v = some u
theorem klk_cons {d t : Nat} {v : V} {r : KEnv} : klk (.cons d v r) t = if d = t then .ok v else klk r t := by
  show (@Bool.rec (fun _ => (Nat → OV) → V → Nat → OV) (fun ih _ t => ih t) (fun _ v _ => .ok v) (Nat.beq d t) (klk r) v t) = _
  cases h : Nat.beq d t with
  | true => rw [if_pos (Nat.eq_of_beq_eq_true h)]
  | false => rw [if_neg (fun e => by rw [e, Nat.beq_refl] at h; cases h)]
theorem ER.nil {m : Mp} {E : Env} : ER m .nil E := fun t v h => by cases h
theorem ER.cons {m : Mp} {d : Nat} {v : V} {u : Value} {r : KEnv} {E : Env} (h : toV m v = some u) (e : ER m r E) : ER m (.cons d v r) ((d, u) :: E) := fun t w hw => by
  rw [klk_cons] at hw
  rw [lk_cons]
  by_cases c : d = t
  · rw [if_pos c] at hw ⊢; cases hw; exact ⟨u, rfl, h⟩
  · rw [if_neg c] at hw ⊢; exact e t w hw
theorem ER.le {m m' : Mp} (h : Le m m') {env : KEnv} {E : Env} (e : ER m env E) : ER m' env E := fun t v hv =>
  let ⟨u, a, b⟩ := e t v hv
  ⟨u, a, toV_le h _ b⟩
theorem klk_ok {m : Mp} {env : KEnv} {E : Env} (e : ER m env E) {t : Nat} {v : V} (h : klk env t = .ok v) : ∃ u, lk E t = some u ∧ toV m v = some u := e t v h
def m0 : Mp := fun _ => none
theorem m0_le (m : Mp) : Le m0 m := fun _ _ h => by cases h
inductive OpdOk : Operand → O → Prop
  | tmp {t : Nat} : OpdOk (.tmp t) (.t t)
  | const {v : V} {u : Value} : toV m0 v = some u → OpdOk (.const u) (.c v)
  | func {f : Nat} : OpdOk (.func f) (.c (.fn f [] []))
theorem eO_ok {m : Mp} {env : KEnv} {E : Env} (e : ER m env E) {x : Operand} {y : O} (hx : OpdOk x y) {v : V} (h : eO y env = .ok v) : ∃ u, ev E x = some u ∧ toV m v = some u := by
  cases hx with
  | tmp => exact klk_ok e h
  | const hu => cases h; exact ⟨_, rfl, toV_le (m0_le m) _ hu⟩
  | func => cases h; exact ⟨_, rfl, by simp [toV, toVs]⟩
inductive OpdsOk : List Operand → List O → Prop
  | nil : OpdsOk [] []
  | cons {x : Operand} {y : O} {xs : List Operand} {ys : List O} : OpdOk x y → OpdsOk xs ys → OpdsOk (x :: xs) (y :: ys)
theorem eOs_ok {m : Mp} {env : KEnv} {E : Env} (e : ER m env E) {xs : List Operand} {ys : List O} (hx : OpdsOk xs ys) : ∀ {vs : List V}, eOs ys env = .ok vs → ∃ us, evs E xs = some us ∧ toVs m vs = some us := by
  induction hx with
  | nil => intro vs h; cases h; exact ⟨[], rfl, by simp [toVs]⟩
  | @cons x y xs ys a _ ih =>
    intro vs h
    have h' : (@OV.rec (fun _ => (KEnv → OL) → KEnv → OL) (fun _ _ => .no) (fun v ih env => @OL.rec (fun _ => V → OL) (fun _ => .no) (fun l v => .ok (v :: l)) (ih env) v) (eO y env) (eOs ys) env) = OL.ok vs := h
    cases hv : eO y env with
    | no => rw [hv] at h'; cases h'
    | ok v =>
      rw [hv] at h'
      have h2 : (@OL.rec (fun _ => V → OL) (fun _ => .no) (fun l v => .ok (v :: l)) (eOs ys env) v) = OL.ok vs := h'
      cases hl : eOs ys env with
      | no => rw [hl] at h2; cases h2
      | ok l =>
        rw [hl] at h2
        cases h2
        obtain ⟨u, e1, e2⟩ := eO_ok e a hv
        obtain ⟨us, e3, e4⟩ := ih hl
        exact ⟨u :: us, by simp [evs, e1, e3], toVs_cons.2 ⟨u, us, e2, e4, rfl⟩⟩

/-- What calls give. -/
def ClOk (P : Program) (cl : Cl) : Prop := ∀ f args s v s', cl f args s = .ok v s' → ∀ m vals, toVs m args = some vals → ∀ R, Spec P f vals (HC m s :: R) fun val post => ∃ m', Le m m' ∧ toV m' v = some val ∧ post = HC m' s' :: R
abbrev KPost (m : Mp) (R : List Chunk) (v : V) (s' : St) : Value → List Chunk → Prop := fun val cs' => ∃ m', Le m m' ∧ toV m' v = some val ∧ cs' = HC m' s' :: R
/-- The evaluator's operation is the model's. -/
def Good (P : Program) (op : Op) (ty : TypeId) (k : Kp) : Prop := ∀ env s cl v s', eKp k env s cl = .ok v s' → ClOk P cl → ∀ m E w0 R, ER m env E →
  ∀ d pos af gd, OpT P w0 ⟨d, op, ty, pos, af, gd⟩ E (HC m s :: R) (KPost m R v s')

section
variable {P : Program} {ty : TypeId} {x y z : Operand} {x' y' z' : O}
theorem KPost.same {m : Mp} {R : List Chunk} {v : V} {s : St} {u : Value} (h : toV m v = some u) : KPost m R v s u (HC m s :: R) := ⟨m, Le.refl m, h, rfl⟩
theorem good_move (hx : OpdOk x x') : Good P (.move x) ty (.mv x') := fun env s cl v s' h hc m E w0 R e d pos af gd => by
  obtain ⟨u, h1, h2⟩ := oV_ok (show oV (eO x' env) Kx.R.ok s = _ from h)
  cases h2
  obtain ⟨w, a, b⟩ := eO_ok e hx h1
  exact OpT.move (KPost.same b) a
theorem good_assign (hx : OpdOk x x') : Good P (.assign x) ty (.mv x') := fun env s cl v s' h hc m E w0 R e d pos af gd => by
  obtain ⟨u, h1, h2⟩ := oV_ok (show oV (eO x' env) Kx.R.ok s = _ from h)
  cases h2
  obtain ⟨w, a, b⟩ := eO_ok e hx h1
  exact OpT.assign (KPost.same b) a
theorem toV_p {m : Mp} {b o : Nat} {u : Value} (h : toV m (.p b o) = some u) : ∃ r base cap, m b = some (r, base, cap) ∧ u = .pointer (some ⟨r, base + o, none⟩) := by
  simp only [toV] at h
  split at h
  · rename_i r base cap hm
    exact ⟨r, base, cap, hm, by simpa using h.symm⟩
  · cases h
theorem good_ck (hx : OpdOk x x') : Good P (.nilCheck x) ty (.ck x') := fun env s cl v s' h hc m E w0 R e d pos af gd => by
  obtain ⟨u, h1, h2⟩ := oV_ok (show oV (eO x' env) ckV s = _ from h)
  obtain ⟨w, a, b⟩ := eO_ok e hx h1
  cases u <;> try cases h2
  · obtain ⟨r, base, cap, _, rfl⟩ := toV_p b
    exact OpT.nilCheck (KPost.same b) a
  · have b' := b
    simp only [toV] at b'
    split at b'
    · split at b'
      · cases b'
        exact OpT.nilCheck_func (KPost.same b) a
      · cases b'
    · cases b'
theorem good_off {st f off : Nat} {ft : TypeId} (hf : fldOf P st f = some (off, ft)) (hx : OpdOk x x') : Good P (.fieldAddr st x f) ty (.off x' off) := fun env s cl v s' h hc m E w0 R e d pos af gd => by
  obtain ⟨u, h1, h2⟩ := oV_ok (show oV (eO x' env) (onP (offP off)) s = _ from h)
  obtain ⟨w, a, b⟩ := eO_ok e hx h1
  obtain ⟨bb, o, rfl, h3⟩ := onP_ok h2
  cases h3
  obtain ⟨r, base, cap, hm, rfl⟩ := toV_p b
  refine OpT.fieldAddr (hf := ⟨hf⟩) (KPost.same ?_) a
  show toV m (.p bb (o + off)) = _
  simp only [toV, hm, Nat.add_assoc]
theorem alive_c {n sz : Nat} {t : TV} : (Blk.c n sz t).alive := trivial
/-- A cell that the evaluator knows. -/
theorem HC.cell {w0 w : World} {m : Mp} {s : St} {R : List Chunk} {b n sz r base cap : Nat} {t : TV} (H : Holds w0 w (HC m s :: R)) (hb : s.h.get b = .ok (.c n sz t)) (hm : m b = some (r, base, cap)) {o : Nat} {v : V} (hv : t.get o = .ok v) :
    ∃ u, toV m v = some u ∧ w.cell? ⟨r, base + o, none⟩ = some u := by
  obtain ⟨ob, h1, arr, ty, rfl, _, h3, _⟩ := HC.at H hb alive_c hm
  obtain ⟨_, u, h4, h5⟩ := h3 _ _ hv
  exact ⟨u, h4, by simp [World.cell?, h1, h5]⟩
theorem good_ld {t : TypeId} (ha : aggOf P t = some false) (hx : OpdOk x x') : Good P (.load t x) ty (.ld x') := fun env s cl v s' h hc m E w0 R e d pos af gd => by
  obtain ⟨u, h1, h2⟩ := oV_ok (show oV (eO x' env) (onP ldP) s = _ from h)
  obtain ⟨w, a, b⟩ := eO_ok e hx h1
  obtain ⟨bb, o, rfl, h3⟩ := onP_ok h2
  obtain ⟨r, base, cap, hm, rfl⟩ := toV_p b
  obtain ⟨blk, h4, h5⟩ := oB_ok (show oB (s.h.get bb) (onC (ldC o)) s = _ from h3)
  obtain ⟨n, sz, tv, rfl, h6⟩ := onC_ok h5
  obtain ⟨u, h7, h8⟩ := oV_ok (show oV (tv.get o) Kx.R.ok s = _ from h6)
  cases h8
  intro ρ w rr H
  obtain ⟨val, h9, h10⟩ := HC.cell H h4 hm h7
  have : (execOp ρ ⟨d, .load t x, ty, pos, af, gd⟩).run P w = .ok (.value val) w := by
    simp [execOp, rr x (by simp [Op.operands]) _ a, run_bind, run_pure, Instr.loadAt, Instr.sureAddr, loadVar, run_isAgg ha, load, Sem.run, h10]
  rw [this]
  exact ⟨_, H, KPost.same h9⟩
theorem getN_ok {t : TV} : ∀ {n i : Nat} {l : List V}, getN t n i = .ok l → l.length = n ∧ ∀ j v, l[j]? = some v → t.get (i + j) = .ok v := by
  intro n
  induction n with
  | zero => intro i l h; cases h; exact ⟨rfl, fun j v hv => by simp at hv⟩
  | succ n ih =>
    intro i l h
    have h' : gN1 (t.get i) (getN t n) i = .ok l := h
    cases hv : t.get i with
    | no => rw [hv] at h'; cases h'
    | ok v =>
      rw [hv] at h'
      have h2 : gN2 (getN t n (i + 1)) v = .ok l := h'
      cases hl : getN t n (i + 1) with
      | no => rw [hl] at h2; cases h2
      | ok l' =>
        rw [hl] at h2; cases h2
        obtain ⟨e1, e2⟩ := ih hl
        refine ⟨by simp [e1], fun j u hu => ?_⟩
        cases j with
        | zero => simp only [List.getElem?_cons_zero, Option.some.injEq] at hu; subst hu; exact hv
        | succ j => have := e2 j u (by simpa using hu); rw [← this]; congr 1; omega
/-- Some cells that the evaluator knows. -/
theorem HC.cells {w0 w : World} {m : Mp} {s : St} {R : List Chunk} {b n sz r base cap : Nat} {t : TV} (H : Holds w0 w (HC m s :: R)) (hb : s.h.get b = .ok (.c n sz t)) (hm : m b = some (r, base, cap)) : ∀ {k o : Nat} {l : List V}, getN t k o = .ok l →
    ∃ us, toVs m l = some us ∧ us.length = k ∧ ∀ j u, us[j]? = some u → w.cell? ⟨r, base + o + j, none⟩ = some u := by
  intro k
  induction k with
  | zero => intro o l h; cases h; exact ⟨[], by simp [toVs], rfl, fun j u hu => by simp at hu⟩
  | succ k ih =>
    intro o l h
    have h' : gN1 (t.get o) (getN t k) o = .ok l := h
    cases hv : t.get o with
    | no => rw [hv] at h'; cases h'
    | ok v =>
      rw [hv] at h'
      have h2 : gN2 (getN t k (o + 1)) v = .ok l := h'
      cases hl : getN t k (o + 1) with
      | no => rw [hl] at h2; cases h2
      | ok l' =>
        rw [hl] at h2; cases h2
        obtain ⟨us, e1, e2, e3⟩ := ih hl
        obtain ⟨u, e4, e5⟩ := HC.cell H hb hm hv
        refine ⟨u :: us, toVs_cons.2 ⟨u, us, e4, e1, rfl⟩, by simp [e2], fun j w hw => ?_⟩
        cases j with
        | zero => simp only [List.getElem?_cons_zero, Option.some.injEq] at hw; subst hw; simpa using e5
        | succ j => have := e3 j w (by simpa using hw); rw [← this]; congr 2; omega
theorem good_ldn {t : TypeId} {n : Nat} (ha : aggOf P t = some true) (hs : (P.info? t).map (·.size) = some n) (hx : OpdOk x x') : Good P (.load t x) ty (.ldn x' n) := fun env s cl v s' h hc m E w0 R e d pos af gd => by
  obtain ⟨u, h1, h2⟩ := oV_ok (show oV (eO x' env) (onP (ldnP n)) s = _ from h)
  obtain ⟨w, a, b⟩ := eO_ok e hx h1
  obtain ⟨bb, o, rfl, h3⟩ := onP_ok h2
  obtain ⟨r, base, cap, hm, rfl⟩ := toV_p b
  obtain ⟨blk, h4, h5⟩ := oB_ok (show oB (s.h.get bb) (onC (ldnC n o)) s = _ from h3)
  obtain ⟨k, sz, tv, rfl, h6⟩ := onC_ok h5
  obtain ⟨l, h7, h8⟩ := oL_ok (show oL (getN tv n o) okA s = _ from h6)
  cases h8
  intro ρ w rr H
  obtain ⟨us, h9, h10, h11⟩ := HC.cells H h4 hm h7
  have hl : (loadCells ⟨r, base + o, none⟩ n).run P w = .ok us.toArray w := by
    unfold loadCells
    rw [run_loadCells n (base + o) 0 #[] us h10 (fun j hj => by
      have : us[j]? = some us[j] := List.getElem?_eq_getElem (by omega)
      rw [this, Nat.add_zero]; exact h11 j _ this)]
    simp
  have : (execOp ρ ⟨d, .load t x, ty, pos, af, gd⟩).run P w = .ok (.value (.agg us.toArray)) w := by
    simp [execOp, rr x (by simp [Op.operands]) _ a, run_bind, run_pure, Instr.loadAt, Instr.sureAddr, loadVar, run_isAgg ha, run_sizeOf hs, hl]
  rw [this]
  exact ⟨_, H, KPost.same (by simp [toV, h9])⟩
end
end Go.Kx
