/-
  Rules for slices that are made and that grow: make, slice literals, append, copy, clear; and for maps of integers.
-/
import Derived.Test.YtkggojngcnkabaaGreatB3
import Derived.Laws.AppendOwn
set_option linter.unusedVariables false
set_option linter.unusedSimpArgs false
namespace Go.Sl

/-- A vector of one's own: n elements of sz cells each. -/
def VecC (v : Value) (sz n : Nat) (xs : List Value) : Chunk := ex fun (o : Option Addr ⊕ (Nat × Nat × List Value)) => match o with
  | .inl a => pur (v = .slice a 0 0 ∧ n = 0 ∧ xs = [])
  | .inr (b, cap, rest) => all [pur (v = .slice (some ⟨b, 0, none⟩) n cap ∧ xs.length = n * sz ∧ rest.length = (cap - n) * sz ∧ n ≤ cap), blk b (xs ++ rest)]

theorem wr_append (xs ys rest : List Value) : ∀ (k : Nat), k = xs.length → ys.length ≤ rest.length → wr (xs ++ rest) k ys = xs ++ ys ++ rest.drop ys.length := by
  induction ys generalizing xs rest with
  | nil => intro k _ _; simp [wr]
  | cons y ys ih =>
    intro k hk hl
    match rest, hl with
    | r :: rest, hl =>
      simp only [wr]
      have : (xs ++ r :: rest).set k y = (xs ++ [y]) ++ rest := by
        subst hk
        rw [List.set_append_right _ _ (Nat.le_refl _)]; simp
      rw [this, ih (xs ++ [y]) rest (k + 1) (by simp [hk]) (by simpa using hl)]
      simp

section
variable {P : Program} {w0 : World} {env : Env} {cs : List Chunk} {K : Value → List Chunk → Prop} {d : Option Nat} {ty : TypeId} {pos : String} {af : Array Edge} {gd : Option (Nat × Bool)}

theorem cells_at {w : World} {b off m : Nat} {l ys : List Value} (m' : Cel b l cs) (H : Holds w0 w cs) (hy : (l.drop off).take m = ys) : ∀ j v, ys[j]? = some v → w.cell? ((⟨b, off, none⟩ : Addr).add j) = some v := by
  intro j v hv
  rw [addr_add, m'.cell H, ← hv, ← hy, List.getElem?_take]
  split
  · simp
  · rename_i hj
    rw [← hy, List.getElem?_take, if_neg hj] at hv; cases hv

/-- append: what is appended may be read of any cells. -/
theorem OpT.append {args : List Operand} {t e sz by_ n m c b off : Nat} {z v : Value} {xs ys l : List Value} {R : List Chunk} [ht : TDesc P t (.slice e)] [hs : TSize P e sz] [hb : TBytes P e by_] [hz : TZero P e z]
    (h : ∀ v', K v' (VecC v' sz (n + m) (xs ++ ys) :: R)) (hx : evs env args = some [v, .slice (some ⟨b, off, none⟩) m c] := by rfl)
    (r : Rem (VecC v sz n xs) cs R := by repeat (first | exact Rem.here | apply Rem.there)) (mc : Cel b l cs := by repeat (first | exact .blk | exact .ro | apply Cel.there)) (hy : (l.drop off).take (m * sz) = ys := by rfl) (hyl : ys.length = m * sz := by rfl)
    (h1 : oneCells ys = true := by rfl) (hsz : 0 < sz := by decide) (hzs : z.cells.size = sz := by rfl) (hbd : (n + m) * by_ ≤ 140737488355328 := by omega) (hby : 0 < by_ := by decide) :
    OpT P w0 ⟨d, .call ⟨.builtin .append, args.toArray, #[t, t]⟩, ty, pos, af, gd⟩ env cs K := fun ρ w r' H => by
  have hargs := evs_map args _ (fun x hx => r' x (by simp [Op.operands, Call.operands, hx])) hx
  have hcell := cells_at mc H hy
  obtain ⟨i, hi, hib⟩ : ∃ i, P.info? e = some i ∧ i.bytes = by_ := by
    cases h : P.info? e with
    | none => have := hb.h; simp [h] at this
    | some i => have := hb.h; simp [h] at this; exact ⟨i, rfl, this⟩
  have his : i.size = sz := by have := hs.h; simpa [hi] using this
  have hiz : i.zero = some z := by have := hz.h; simpa [hi] using this
  have h63 : ((n + m : Nat) : Int) ≤ 9223372036854775807 := by
    have : n + m ≤ (n + m) * by_ := Nat.le_mul_of_pos_right _ hby
    omega
  have main : ∀ (res : Value) (w' : World), (∀ consts, (Go.builtin .append #[t, t] ty consts #[v, .slice (some ⟨b, off, none⟩) m c]).run P w = .ok (.value res) w') → Holds w0 w' (VecC res sz (n + m) (xs ++ ys) :: R) →
      RunTo P ((execOp ρ ⟨d, .call ⟨.builtin .append, args.toArray, #[t, t]⟩, ty, pos, af, gd⟩).run P w) fun v w' => ∃ cs', Holds w0 w' cs' ∧ K v cs' := by
    intro res w' hrun hH
    have : (execOp ρ ⟨d, .call ⟨.builtin .append, args.toArray, #[t, t]⟩, ty, pos, af, gd⟩).run P w = .ok (.value res) w' := by
      simp [execOp, resolve, run_bind, run_pure, invoke, hargs, hrun]
    rw [this]
    exact ⟨_, hH, h res⟩
  have lift : ∀ (res : Value) (w' : World), (Builtin.append_ #[t, t] ty #[v, .slice (some ⟨b, off, none⟩) m c]).run P w = .ok res w' → ∀ consts, (Go.builtin .append #[t, t] ty consts #[v, .slice (some ⟨b, off, none⟩) m c]).run P w = .ok (.value res) w' := by
    intro res w' hh consts
    show (do pure (Next.value (← Builtin.append_ #[t, t] ty #[v, .slice (some ⟨b, off, none⟩) m c])) : Sem Next).run P w = _
    rw [run_bind, hh]; rfl
  obtain ⟨o, Hf⟩ := (H.front r).of_ex
  have H0 := (H.front r).drop
  have zlen : ∀ k, (Builtin.zeroCells z.cells k).size = k * sz := fun k => by rw [size_zeroCells, hzs]
  have dist : ∀ cap, n + m ≤ cap → (n + m) * sz + (cap - (n + m)) * sz = cap * sz := fun cap hc => by rw [← Nat.add_mul]; congr 1; omega
  cases o with
  | inl a0 =>
    obtain ⟨⟨rfl, rfl, rfl⟩, _⟩ := Hf.pur
    by_cases hm : m = 0
    · subst hm
      have hy0 : ys = [] := List.eq_nil_of_length_eq_zero (by simpa using hyl)
      subst hy0
      refine main (.slice a0 0 0) w (lift _ _ ?_) ?_
      · cases a0 <;> simp [Builtin.append_, Go.run_underlying ht.h, Go.sizeOf, typeInfo, hi, Builtin.lenOf, Builtin.firstCells, loadCells, loadCellsFrom, storeCells]
      · exact Holds.to_ex (.inl a0) (Holds.pur' ⟨rfl, rfl, rfl⟩ H0)
    · have hr : (Builtin.append_ #[t, t] ty #[.slice a0 0 0, .slice (some ⟨b, off, none⟩) m c]).run P w =
          .ok (.slice (some ⟨w.heap.size, 0, none⟩) m (grownCap w m 0 e)) (w.drew.alloc (.cells (ys.toArray ++ Builtin.zeroCells z.cells (grownCap w m 0 e - m)) e)) := by
        cases a0 with
        | none => exact run_append_nil (P := P) w t ty e i z ht.h hi hiz ⟨b, off, none⟩ m c ys (by rw [his]; exact hyl) hcell (by omega) (by simpa using h63) (by rw [hib]; simp only [Nat.zero_add] at hbd; omega)
        | some a1 =>
          have hfit := growslice_fits (need := 0 + m) (old := 0) (bytes := i.bytes) (by omega) (by rw [hib]; exact hbd)
          have := run_append_grow (P := P) w t ty e i z ht.h hi hiz a1 0 0 [] (by simp) (fun j v h => by simp at h) ⟨b, off, none⟩ m c ys (by rw [his]; exact hyl) hcell (by omega) (by simpa using h63) hfit
          simpa using this
      have hr' := run_append_nil (P := P) w t ty e i z ht.h hi hiz ⟨b, off, none⟩ m c ys (by rw [his]; exact hyl) hcell (by omega) (by simpa using h63) (by rw [hib]; simp only [Nat.zero_add] at hbd; omega)
      refine main _ _ (lift _ _ hr) ?_
      have hge := grownCap_ge w m 0 e
      refine Holds.to_ex (.inr (w.heap.size, grownCap w m 0 e, (Builtin.zeroCells z.cells (grownCap w m 0 e - m)).toList)) (Holds.to_all ?_)
      refine Holds.pur' ⟨by simp, by simpa using hyl, by simp [zlen], by simpa using hge⟩ ?_
      have := ((H0.drew (w.drawn + 1)).new (.cells (ys.toArray ++ Builtin.zeroCells z.cells (grownCap w m 0 e - m)) e))
      refine Holds.to_blk (t := e) ?_
      have e1 : ([] ++ ys ++ (Builtin.zeroCells z.cells (grownCap w m 0 e - m)).toList).toArray = ys.toArray ++ Builtin.zeroCells z.cells (grownCap w m 0 e - m) := by
        simp [← List.append_toArray]
      rw [e1]
      exact this
  | inr o =>
    obtain ⟨g, cap, rest⟩ := o
    obtain ⟨⟨rfl, hxl, hrl, hnc⟩, Hb⟩ := (Hf.of_all).pur
    by_cases hroom : n + m ≤ cap
    · have hle : ys.length ≤ rest.length := by rw [hyl, hrl]; exact Nat.mul_le_mul_right _ (by omega)
      obtain ⟨w', hst, H'⟩ := run_storeCells (P := P) (w0 := w0) (b := g) ys (n * sz) 0 (xs ++ rest) _ _ w h1 (by simp [hxl]; omega) .here Hb
      rw [Nat.add_zero, wr_append xs ys rest (n * sz) hxl.symm hle] at H'
      have hf := run_firstCells_some (P := P) w sz m ⟨b, off, none⟩ m c ys hyl hcell
      refine main (.slice (some ⟨g, 0, none⟩) (n + m) cap) w' (lift _ _ ?_) ?_
      · have hst' : (storeCells ⟨g, n * sz, none⟩ ys).run P w = .ok () w' := hst
        simp [Builtin.append_, Go.run_underlying ht.h, Go.sizeOf, typeInfo, hi, his, Builtin.lenOf, hroom, hf, addr_add, hst']
      · refine Holds.to_ex (.inr (g, cap, rest.drop ys.length)) (Holds.to_all (Holds.pur' ⟨rfl, by rw [List.length_append, hxl, hyl, Nat.add_mul], ?_, hroom⟩ ?_))
        · rw [List.length_drop, hrl, hyl, ← Nat.sub_mul]; congr 1; omega
        · simpa using H'
    · have hfit := growslice_fits (need := n + m) (old := cap) (bytes := i.bytes) (by omega) (by rw [hib]; exact hbd)
      have hold : ∀ j u, xs[j]? = some u → w.cell? ((⟨g, 0, none⟩ : Addr).add j) = some u := by
        intro j u hu
        have hc := (Cel.blk (cs := R) (b := g) (l := xs ++ rest)).cell Hb j
        rw [addr_add, Nat.zero_add, hc, List.getElem?_append_left (by
          rcases Nat.lt_or_ge j xs.length with x | x
          · exact x
          · rw [List.getElem?_eq_none x] at hu; cases hu)]
        exact hu
      have hr := run_append_grow (P := P) w t ty e i z ht.h hi hiz ⟨g, 0, none⟩ n cap xs (by rw [his]; exact hxl) hold ⟨b, off, none⟩ m c ys (by rw [his]; exact hyl) hcell (by omega) h63 hfit
      refine main _ _ (lift _ _ hr) ?_
      have hge := grownCap_ge w (n + m) cap e
      refine Holds.to_ex (.inr (w.heap.size, grownCap w (n + m) cap e, (Builtin.zeroCells z.cells (grownCap w (n + m) cap e - (n + m))).toList)) (Holds.to_all ?_)
      refine Holds.pur' ⟨rfl, by rw [List.length_append, hxl, hyl, Nat.add_mul], by simp [zlen], hge⟩ ?_
      have := ((H0.drew (w.drawn + 1)).new (.cells (xs.toArray ++ ys.toArray ++ Builtin.zeroCells z.cells (grownCap w (n + m) cap e - (n + m))) e))
      refine Holds.to_blk (t := e) ?_
      have e1 : (xs ++ ys ++ (Builtin.zeroCells z.cells (grownCap w (n + m) cap e - (n + m))).toList).toArray = xs.toArray ++ ys.toArray ++ Builtin.zeroCells z.cells (grownCap w (n + m) cap e - (n + m)) := by
        simp [← List.append_toArray]
      rw [e1]
      exact this

/-- append of nothing. -/
theorem OpT.append_nil {args : List Operand} {t e sz n : Nat} {v : Value} {xs : List Value} {R : List Chunk} [ht : TDesc P t (.slice e)] [hs : TSize P e sz]
    {a0 : Option Addr} {c0 : Nat} (h : K v cs) (hx : evs env args = some [v, .slice a0 0 c0] := by rfl)
    (r : Rem (VecC v sz n xs) cs R := by repeat (first | exact Rem.here | apply Rem.there)) :
    OpT P w0 ⟨d, .call ⟨.builtin .append, args.toArray, #[t, t]⟩, ty, pos, af, gd⟩ env cs K :=
  OpT.builtin hx h fun w consts H => by
    show (do pure (Next.value (← Builtin.append_ #[t, t] ty #[v, .slice a0 0 c0])) : Sem Next).run P w = _
    obtain ⟨i, hi, his⟩ : ∃ i, P.info? e = some i ∧ i.size = sz := by
      cases h : P.info? e with
      | none => have := hs.h; simp [h] at this
      | some i => have := hs.h; simp [h] at this; exact ⟨i, rfl, this⟩
    obtain ⟨o, Hf⟩ := (H.front r).of_ex
    cases o with
    | inl a1 =>
      obtain ⟨⟨rfl, rfl, rfl⟩, _⟩ := Hf.pur
      cases a0 <;> cases a1 <;> simp [storeCells, Builtin.append_, Go.run_underlying ht.h, Go.sizeOf, typeInfo, hi, Builtin.lenOf, Builtin.firstCells, loadCells, loadCellsFrom]
    | inr o =>
      obtain ⟨g, cap, rest⟩ := o
      obtain ⟨⟨rfl, hxl, hrl, hnc⟩, Hb⟩ := (Hf.of_all).pur
      cases a0 <;> simp [Builtin.append_, Go.run_underlying ht.h, Go.sizeOf, typeInfo, hi, Builtin.lenOf, Builtin.firstCells, hnc, storeCells, loadCells, loadCellsFrom]

/-! New rows. -/
def rep : Nat → List Value → List Value
  | 0, _ => []
  | k + 1, zs => zs ++ rep k zs
theorem rep_length (k : Nat) (zs : List Value) : (rep k zs).length = k * zs.length := by
  induction k with
  | zero => simp [rep]
  | succ k ih => simp [rep, ih, Nat.succ_mul, Nat.add_comm]
theorem rep_get (k : Nat) (zs : List Value) (hz : 0 < zs.length) : ∀ i, i < k * zs.length → (rep k zs)[i]? = zs[i % zs.length]? := by
  induction k with
  | zero => intro i hi; simp at hi
  | succ k ih =>
    intro i hi
    simp only [rep]
    by_cases h : i < zs.length
    · rw [List.getElem?_append_left h, Nat.mod_eq_of_lt h]
    · rw [List.getElem?_append_right (by omega), ih _ (by rw [Nat.add_mul, Nat.one_mul] at hi; omega)]
      rw [← Nat.mod_eq_sub_mod (by omega)]
theorem rep_one (k : Nat) (z : Value) : rep k [z] = List.replicate k z := by
  induction k with
  | zero => rfl
  | succ k ih => simp [rep, ih, List.replicate_succ]
theorem zeros_rep (k sz : Nat) (z : Value) (hz : z.cells.size = sz) (hsz : 0 < sz) : (Array.range (k * sz)).map (fun i => z.cells[i % z.cells.size]!) = (rep k z.cells.toList).toArray := by
  apply Array.ext_getElem?
  intro i
  have hl : z.cells.toList.length = sz := by simpa using hz
  simp only [Array.getElem?_map, List.getElem?_toArray]
  by_cases h : i < k * sz
  · rw [rep_get k z.cells.toList (by omega) i (by rw [hl]; exact h)]
    have hm : i % z.cells.size < z.cells.size := Nat.mod_lt _ (by omega)
    simp only [Array.getElem?_range, h, if_true, Option.map_some, hl]
    rw [← hz, Array.getElem?_toList, Array.getElem?_eq_getElem hm]
    simp [getElem!_def, hm]
  · have h1 : (Array.range (k * sz))[i]? = none := by simp; omega
    rw [h1, List.getElem?_eq_none (by rw [rep_length, hl]; omega)]
    rfl

theorem OpT.makeSlice {t e sz by_ : Nat} {z : Value} {x y : Operand} {k k' : IntKind} {n : Int} [ht : TDesc P t (.slice e)] [hs : TSize P e sz] [hb : TBytes P e by_] [hz : TZero P e z]
    (h : ∀ b, K (.slice (some ⟨b, 0, none⟩) n.toNat n.toNat) (blk b (rep n.toNat z.cells.toList) :: cs)) (hx : ev env x = some (.int k n) := by rfl) (hy : ev env y = some (.int k' n) := by rfl)
    (h0 : 0 ≤ n := by omega) (h1 : by_ * n ≤ 140737488355328 := by omega) (h2 : n ≤ 9223372036854775807 := by omega) (hzs : z.cells.size = sz := by rfl) (hsz : 0 < sz := by decide) :
    OpT P w0 ⟨d, .makeSlice t x y, ty, pos, af, gd⟩ env cs K := OpT.freshB (l := rep n.toNat z.cells.toList) (t := e) h fun ρ w r _ => by
  obtain ⟨i, hi, hib⟩ : ∃ i, P.info? e = some i ∧ i.bytes = by_ := by
    cases h : P.info? e with
    | none => have := hb.h; simp [h] at this
    | some i => have := hb.h; simp [h] at this; exact ⟨i, rfl, this⟩
  have his : i.size = sz := by have := hs.h; simpa [hi] using this
  have hiz : i.zero = some z := by have := hz.h; simpa [hi] using this
  have hw : IntKind.i64.wrap n = n := wrap64_of (by omega) h2
  have hlt : ¬ ((by_ : Int) * n > 2 ^ 48) := by simp only [gt_iff_lt, Int.not_lt]; omega
  have hneg : ¬ (n < 0) := by omega
  have hroom : ¬ (n.toNat * by_ > roomBytes) := by
    have : ((n.toNat * by_ : Nat) : Int) = by_ * n := by rw [Int.natCast_mul, Int.toNat_of_nonneg h0, Int.mul_comm]
    simp only [roomBytes]; omega
  have ti : (typeInfo e).run P w = .ok i w := by simp [typeInfo, run_bind, run_program, hi, run_pure]
  have r0 : Array.range 0 = #[] := rfl
  simp only [execOp, r x (by simp [Op.operands]) _ hx, r y (by simp [Op.operands]) _ hy, run_bind, Instr.makeSlice, run_underlying ht.h, asInt, asIntOf, run_pure, ti, hib, hw, hneg, hlt, decide_false, Bool.or_self, Bool.false_eq_true, if_false,
    Int.lt_irrefl, gt_iff_lt, askRoom, hroom, run_sizeOf hs.h, newRow, newObj]
  by_cases hc : n.toNat * sz = 0
  · have hn0 : n.toNat = 0 := by
      rcases Nat.mul_eq_zero.1 hc with h | h
      · exact h
      · omega
    simp only [hn0, Nat.zero_mul, if_true, run_bind, run_pure, Sem.run, r0, List.map_toArray, List.map_nil, rep]
  · have hrow := zeros_rep n.toNat sz z hzs hsz
    simp only [hc, if_false, run_bind, run_pure, run_zeroValue hz.h, Sem.run, hrow]

/-- A slice written out. -/
theorem OpT.buildSlice {t e sz len : Nat} {z : Value} {parts : List (Nat × Operand)} {ps : List (Nat × Value)} {cells : List Value} [ht : TDesc P t (.slice e)] [hs : TSize P e sz] [hz : TZero P e z]
    (h : ∀ b, K (.slice (some ⟨b, 0, none⟩) len len) (blk b cells :: cs)) (hx : evParts env parts = some ps := by rfl) (hf : fillL (fun i => some (i * sz, sz)) (rep len z.cells.toList) ps = some cells := by rfl)
    (hzs : z.cells.size = sz := by rfl) (hsz : 0 < sz := by decide) (hlen : 0 < len := by decide) (hmax : Nat.ble (len * sz) 16777216 = true := by rfl) :
    OpT P w0 ⟨d, .buildSlice t len parts.toArray, ty, pos, af, gd⟩ env cs K := OpT.freshB (l := cells) (t := e) h fun ρ w r _ => by
  have hm : (parts.toArray.map fun (p : Nat × Operand) => (p.1, ρ p.2)) = ps.toArray := by
    rw [← parts_map parts ps (fun x hx => r x (by simpa [Op.operands] using hx)) hx]; simp
  have hpos : len * sz ≠ 0 := by have := Nat.mul_pos hlen hsz; omega
  have hle := Nat.le_of_ble_eq_true hmax
  have hno : ¬ (len * sz > 2 ^ 24) := by omega
  have hfill := fill_of _ ps _ cells hf
  have hrow := zeros_rep len sz z hzs hsz
  simp only [execOp, run_bind, Instr.buildSlice, run_underlying ht.h, run_sizeOf hs.h, hno, if_false, hpos, run_zeroValue hz.h, run_pure, hm, hrow, hfill, newRow, newObj, Sem.run]
/-- s[:0:0] -/
theorem OpT.slice00 {t e n len cap : Nat} {a : Option Addr} {x : Operand} {k k' : IntKind} [ht : TDesc P t (.slice e)] [hs : TSize P e n]
    (h : K (.slice a 0 0) cs) (hx : ev env x = some (.slice a len cap) := by rfl) : OpT P w0 ⟨d, .slice t x none (some (.const (.int k 0))) (some (.const (.int k' 0))), ty, pos, af, gd⟩ env cs K :=
  OpT.val h fun ρ w r _ => by
    have h1 := r (.const (.int k 0)) (by simp [Op.operands]) _ rfl
    have h2 := r (.const (.int k' 0)) (by simp [Op.operands]) _ rfl
    simp [execOp, r x (by simp [Op.operands]) _ hx, h1, h2, Instr.sliceAt, Instr.slice, Instr.sliceBounds, Instr.sliceBound, asIntOf, run_bind, run_pure, run_underlying ht.h, run_sizeOf hs.h]

theorem VecC.pack {v : Value} {b sz n cap : Nat} {xs rest all_ : List Value} (hv : v = .slice (some ⟨b, 0, none⟩) n cap := by rfl) (ha : all_ = xs ++ rest := by simp) (h1 : xs.length = n * sz := by simp) (h2 : rest.length = (cap - n) * sz := by simp) (h3 : n ≤ cap := by omega) :
    Pack [blk b all_] (VecC v sz n xs) := fun R => by
  subst ha
  intro h s z
  exact Ent.to_ex (f := fun (o : Option Addr ⊕ (Nat × Nat × List Value)) => match o with
    | .inl a => Sl.pur (v = .slice a 0 0 ∧ n = 0 ∧ xs = [])
    | .inr (b, cap, rest) => Sl.all [Sl.pur (v = .slice (some ⟨b, 0, none⟩) n cap ∧ xs.length = n * sz ∧ rest.length = (cap - n) * sz ∧ n ≤ cap), blk b (xs ++ rest)]) (.inr (b, cap, rest)) h s
    (Ent.to_all h s (Ent.to_pur ⟨hv, h1, h2, h3⟩ h s z))
theorem VecC.pack0 {v : Value} {a : Option Addr} {sz : Nat} (hv : v = .slice a 0 0 := by rfl) : Pack [] (VecC v sz 0 []) := fun R => by
  intro h s z
  exact Ent.to_ex (f := fun (o : Option Addr ⊕ (Nat × Nat × List Value)) => match o with
    | .inl a => Sl.pur (v = .slice a 0 0 ∧ 0 = 0 ∧ ([] : List Value) = [])
    | .inr (b, cap, rest) => Sl.all [Sl.pur (v = .slice (some ⟨b, 0, none⟩) 0 cap ∧ ([] : List Value).length = 0 * sz ∧ rest.length = (cap - 0) * sz ∧ 0 ≤ cap), blk b ([] ++ rest)]) (.inl a) h s
    (Ent.to_pur ⟨hv, rfl, rfl⟩ h s z)
end
end Go.Sl

namespace Go.Sl

/-- By a goto: on from the label, k times at most; else as Q. -/
def Jp (P : Program) (body : Code) (Q : Exit → Act → World → Prop) : Nat → Exit → Act → World → Prop
  | 0, .goto _, _, _ => False
  | k + 1, .goto l, a, w => ∃ rest, findLabel body l = some rest ∧ rest.wp P (Jp P body Q k) a w
  | _, e, a, w => Q e a w
/-- The same, but that a goto to l comes to R. -/
def Jl (P : Program) (body : Code) (Q : Exit → Act → World → Prop) (c l : Nat) (R : Act → World → Prop) : Exit → Act → World → Prop
  | .goto l', a, w => (l' = l ∧ R a w) ∨ (l' ≠ l ∧ Jp P body Q c (.goto l') a w)
  | e, a, w => Q e a w

section
variable {P : Program} {w0 : World} {Q : Exit → Act → World → Prop} {n : Nat} {env : Env} {cs : List Chunk} {body rest : Code}

theorem jp_arrives (b : Frame) (k : List Item) (cs1 : List Frame) : ∀ (m : Nat) (e : Exit) (a : Act) (w : World) (M : Machine), Jp P body Q m e a w → Arrives P M b (.inScope body :: k) cs1 e a w →
    ∃ e' a' w', Q e' a' w' ∧ Arrives P M b k cs1 e' a' w' := by
  intro m
  induction m with
  | zero =>
    intro e a w M hj ha
    cases e with
    | normal => exact ⟨.normal, a, w, hj, Steps.trans ha (.one step_inScope)⟩
    | exit id => exact ⟨.exit id, a, w, hj, fun k' hk => ha k' (by simp [exitTo, hk])⟩
    | goto l => exact hj.elim
    | ret => exact ⟨_, a, w, hj, ha⟩
    | panic ch => exact ⟨_, a, w, hj, ha⟩
    | outgrown => exact ⟨_, a, w, hj, ha⟩
  | succ m ih =>
    intro e a w M hj ha
    cases e with
    | normal => exact ⟨.normal, a, w, hj, Steps.trans ha (.one step_inScope)⟩
    | exit id => exact ⟨.exit id, a, w, hj, fun k' hk => ha k' (by simp [exitTo, hk])⟩
    | goto l =>
      obtain ⟨rest, hf, hw⟩ := hj
      obtain ⟨e1, a1, w1, hq, harr⟩ := hw b (.inScope body :: k) cs1
      have hg : gotoIn l (.inScope body :: k) = some (.code rest :: .inScope body :: k) := by simp [gotoIn, hf]
      exact ih e1 a1 w1 M hq (.of_steps (ha _ hg) harr)
    | ret => exact ⟨_, a, w, hj, ha⟩
    | panic ch => exact ⟨_, a, w, hj, ha⟩
    | outgrown => exact ⟨_, a, w, hj, ha⟩

theorem T.scopeJ (m : Nat) (h : T P w0 body (Jp P body Q m) n env cs) : T P w0 (.scope body) Q n env cs := by
  intro a w he hw b k cs1
  obtain ⟨e, a1, w1, hq, harr⟩ := h a w he hw b (.inScope body :: k) cs1
  obtain ⟨e', a', w', q, arr⟩ := jp_arrives b k cs1 m e a1 w1 _ hq harr
  exact ⟨e', a', w', q, .of_steps (.one step_scope) arr⟩

theorem X.jp_goto {l m : Nat} (hf : findLabel body l = some rest) (h : T P w0 rest (Jp P body Q m) n env cs) : X w0 (Jp P body Q (m + 1)) (.goto l) n env cs := fun a w he hw => ⟨rest, hf, h a w he hw⟩
theorem X.jp_normal {m : Nat} (h : X w0 Q .normal n env cs) : X w0 (Jp P body Q m) .normal n env cs := fun a w he hw => by cases m <;> exact h a w he hw
theorem X.jp_ret {m : Nat} (h : X w0 Q .ret n env cs) : X w0 (Jp P body Q m) .ret n env cs := fun a w he hw => by cases m <;> exact h a w he hw
theorem X.jp_exit {m i : Nat} (h : X w0 Q (.exit i) n env cs) : X w0 (Jp P body Q m) (.exit i) n env cs := fun a w he hw => by cases m <;> exact h a w he hw
end
end Go.Sl
