/-
  The evaluator's operations are the model's: stores, calls, comparisons, new memory.
-/
import Derived.Test.YtkggojngcnkabaaGreatB7
import Derived.Test.YtkggojngcnkabaaGreatB4
set_option linter.unusedVariables false
set_option linter.unusedSimpArgs false
namespace Go.Kx
open Go.Sl

/-! Cells that are written. -/
theorem singles_cons {v : V} {l : List V} (h : singles (v :: l) = true) : single v = true ∧ singles l = true := by
  have h' : (@Bool.rec (fun _ => Bool → Bool) (fun _ => false) (fun ih => ih) (single v) (singles l)) = true := h
  cases hs : single v with
  | false => rw [hs] at h'; cases h'
  | true => rw [hs] at h'; exact ⟨rfl, h'⟩
theorem single_one {m : Mp} {v : V} {u : Value} (h : single v = true) (e : toV m v = some u) (us : List Value) : oneCells (u :: us) = oneCells us ∧ u.cells = #[u] := by
  cases v <;> first | (cases h; done) | (simp only [toV] at e; (try split at e) <;> (try split at e) <;> first | (cases e; done) | (simp only [Option.some.injEq] at e; subst e; exact ⟨rfl, rfl⟩))
theorem singles_one {m : Mp} : ∀ {l : List V} {us : List Value}, singles l = true → toVs m l = some us → oneCells us = true := by
  intro l
  induction l with
  | nil => intro us _ h; simp [toVs] at h; subst h; rfl
  | cons v l ih =>
    intro us h e
    obtain ⟨h1, h2⟩ := singles_cons h
    obtain ⟨u, r, e1, e2, rfl⟩ := toVs_cons.1 e
    rw [(single_one h1 e1 r).1]
    exact ih h2 e2
theorem wr_get (us : List Value) : ∀ (l : List Value) (off i : Nat), off + us.length ≤ l.length → (wr l off us)[i]? = if off ≤ i ∧ i < off + us.length then us[i - off]? else l[i]? := by
  induction us with
  | nil => intro l off i _; simp only [wr, List.length_nil]; rw [if_neg (by omega)]
  | cons u us ih =>
    intro l off i h
    simp only [List.length_cons] at h
    simp only [wr]
    rw [ih (l.set off u) (off + 1) i (by simp only [List.length_set]; omega)]
    by_cases c : i = off
    · subst c
      rw [if_neg (by omega), if_pos (by simp), Nat.sub_self, List.getElem?_set_self (by omega)]; rfl
    · by_cases d : off + 1 ≤ i ∧ i < off + 1 + us.length
      · rw [if_pos d, if_pos (by simp only [List.length_cons]; omega), show i - off = (i - (off + 1)) + 1 by omega, List.getElem?_cons_succ]
      · rw [if_neg d, if_neg (by simp only [List.length_cons]; omega), List.getElem?_set_ne (by omega)]
theorem setN_get (l : List V) : ∀ (t : TV) (o i : Nat) (v : V), (setN l t o).get i = .ok v → (o ≤ i ∧ i < o + l.length ∧ l[i - o]? = some v) ∨ (¬ (o ≤ i ∧ i < o + l.length) ∧ t.get i = .ok v) := by
  induction l with
  | nil => intro t o i v h; exact .inr ⟨by simp only [List.length_nil]; omega, h⟩
  | cons x l ih =>
    intro t o i v h
    rcases ih (t.set o x) (o + 1) i v h with ⟨h1, h2, h3⟩ | ⟨h1, h2⟩
    · refine .inl ⟨by omega, by simp only [List.length_cons]; omega, ?_⟩
      rw [show i - o = (i - (o + 1)) + 1 by omega, List.getElem?_cons_succ]; exact h3
    · rcases TV.get_set _ _ _ _ _ h2 with ⟨rfl, rfl⟩ | ⟨h3, h4⟩
      · exact .inl ⟨Nat.le_refl _, by simp only [List.length_cons]; omega, by simp⟩
      · exact .inr ⟨by simp only [List.length_cons]; omega, h4⟩
section
variable {P : Program} {w0 w : World} {m : Mp} {s : St} {R : List Chunk} {b n sz r base cap : Nat} {t : TV}
theorem HC.store (H : Holds w0 w (HC m s :: R)) (hb : s.h.get b = .ok (.c n sz t)) (hm : m b = some (r, base, cap)) {o : Nat} {l : List V} {us : List Value} (ho : o + l.length ≤ n) (h1 : singles l = true) (hu : toVs m l = some us) :
    ∃ w', (storeCells ⟨r, base + o, none⟩ us).run P w = .ok () w' ∧ Holds w0 w' (HC m ⟨s.nx, s.h.set b (.c n sz (setN l t o))⟩ :: R) := by
  obtain ⟨ob, e1, arr, ty, rfl, e2, e3, e4⟩ := HC.at H hb alive_c hm
  have hl := toVs_len hu
  have H1 := HC.open_ hb alive_c hm H e1
  rw [show arr = arr.toList.toArray from rfl] at H1
  obtain ⟨w', hr, H2⟩ := run_storeCells (P := P) us (base + o) 0 arr.toList _ _ w (singles_one h1 hu) (by simp; omega) .here H1.to_blk
  refine ⟨w', hr, ?_⟩
  obtain ⟨t', H3⟩ := H2.of_blk
  refine HC.close H3 fun h _ hc => ?_
  refine hc.set hb alive_c hm (b' := .c n sz (setN l t o)) fun _ => ?_
  refine ⟨_, t', rfl, ?_, fun i v hv => ?_, fun hz => ?_⟩
  · simp only [List.size_toArray, wr_length]; simpa using e2
  · rw [List.getElem?_toArray, wr_get _ _ _ _ (by simp; omega)]
    rcases setN_get _ _ _ _ _ hv with ⟨a, c, d⟩ | ⟨a, c⟩
    · obtain ⟨u, g1, g2⟩ := toVs_get hu d
      refine ⟨by omega, u, g2, ?_⟩
      rw [if_pos (by omega), ← g1]; congr 1; omega
    · obtain ⟨g0, u, g1, g2⟩ := e3 i v c
      refine ⟨g0, u, g1, ?_⟩
      rw [if_neg (by omega)]; simpa using g2
  · simp only [List.size_toArray, wr_length]; simpa using e4 hz
end

section
variable {P : Program} {ty : TypeId} {x y z : Operand} {x' y' z' : O}
theorem good_st {t : TypeId} (hs : (P.info? t).map (·.size) = some 1) (hx : OpdOk x x') (hy : OpdOk y y') : Good P (.store t x y) ty (.st x' y') := fun env s cl v s' h hc m E w0 R e d pos af gd => by
  obtain ⟨u, h1, h2⟩ := oV_ok (show oV (eO x' env) (onP (stP (eO y' env))) s = _ from h)
  obtain ⟨w, a, b⟩ := eO_ok e hx h1
  obtain ⟨bb, o, rfl, h3⟩ := onP_ok h2
  obtain ⟨r, base, cap, hm, rfl⟩ := toV_p b
  obtain ⟨yv, h4, h5⟩ := oV_ok (show oV (eO y' env) (stV bb o) s = _ from h3)
  obtain ⟨yu, a2, b2⟩ := eO_ok e hy h4
  obtain ⟨h6, h7⟩ := bR_ok (show bR (single yv) (st0 bb o yv) s = _ from h5)
  obtain ⟨blk, h8, h9⟩ := oB_ok (show oB (s.h.get bb) (onC (st1 bb o yv)) s = _ from h7)
  obtain ⟨n, sz, tv, rfl, h10⟩ := onC_ok h9
  obtain ⟨h11, h12⟩ := bR_ok (show bR (Nat.blt o n) (st2 bb o yv n sz tv) s = _ from h10)
  cases h12
  rw [Nat.blt_eq] at h11
  intro ρ w rr H
  have h1s : singles [yv] = true := by
    show (@Bool.rec (fun _ => Bool → Bool) (fun _ => false) (fun ih => ih) (single yv) true) = true
    rw [h6]
  obtain ⟨w', hr, H'⟩ := HC.store (P := P) H h8 hm (o := o) (l := [yv]) (us := [yu]) (by simp only [List.length_cons, List.length_nil]; omega) h1s (toVs_cons.2 ⟨yu, [], b2, toVs_nil m, rfl⟩)
  have hcell := (single_one h6 b2 []).2
  have : (execOp ρ ⟨d, .store t x y, ty, pos, af, gd⟩).run P w = .ok .skip w' := by
    simp [execOp, rr x (by simp [Op.operands]) _ a, rr y (by simp [Op.operands]) _ a2, run_bind, run_pure, Instr.storeAt, Instr.sureAddr, storeVar, run_sizeOf hs, hcell, hr]
  rw [this]
  exact ⟨_, H', m, Le.refl m, by simp [und, toV, toVs, Go.undef], rfl⟩
theorem putC_ok {b o : Nat} {l : List V} {v v' : V} {s s' : St} (h : putC b o l v s = .ok v' s') : singles l = true ∧ v' = v ∧ ∃ n sz t, s.h.get b = .ok (.c n sz t) ∧ o + l.length ≤ n ∧ s' = ⟨s.nx, s.h.set b (.c n sz (setN l t o))⟩ := by
  obtain ⟨h1, h2⟩ := bR_ok (show bR (singles l) (put0 b o l v) s = _ from h)
  obtain ⟨blk, h3, h4⟩ := oB_ok (show oB (s.h.get b) (onC (put1 b o l v)) s = _ from h2)
  obtain ⟨n, sz, t, rfl, h5⟩ := onC_ok h4
  obtain ⟨h6, h7⟩ := bR_ok (show bR (Nat.ble (Nat.add o (lenL l)) n) (put2 b o l v n sz t) s = _ from h5)
  cases h7
  exact ⟨h1, rfl, n, sz, t, h3, by have := Nat.le_of_ble_eq_true h6; rw [lenL_eq] at this; exact this, rfl⟩
theorem toV_a {m : Mp} {l : List V} {u : Value} (h : toV m (.a l) = some u) : ∃ us, toVs m l = some us ∧ u = .agg us.toArray := by
  simp only [toV] at h
  split at h
  · rename_i us hu; exact ⟨us, hu, by simpa using h.symm⟩
  · cases h
theorem toV_t {m : Mp} {l : List V} {u : Value} (h : toV m (.t l) = some u) : ∃ us, toVs m l = some us ∧ u = .tuple us.toArray := by
  simp only [toV] at h
  split at h
  · rename_i us hu; exact ⟨us, hu, by simpa using h.symm⟩
  · cases h
theorem und_V (m : Mp) : toV m und = some Go.undef := by simp [und, toV, toVs, Go.undef]
theorem good_stn {t : TypeId} {n : Nat} (hs : (P.info? t).map (·.size) = some n) (hx : OpdOk x x') (hy : OpdOk y y') : Good P (.store t x y) ty (.stn x' y' n) := fun env s cl v s' h hc m E w0 R e d pos af gd => by
  obtain ⟨u, h1, h2⟩ := oV_ok (show oV (eO x' env) (onP (stnP n (eO y' env))) s = _ from h)
  obtain ⟨w, a, b⟩ := eO_ok e hx h1
  obtain ⟨bb, o, rfl, h3⟩ := onP_ok h2
  obtain ⟨r, base, cap, hm, rfl⟩ := toV_p b
  obtain ⟨yv, h4, h5⟩ := oV_ok (show oV (eO y' env) (onA (stnA n bb o)) s = _ from h3)
  obtain ⟨yu, a2, b2⟩ := eO_ok e hy h4
  obtain ⟨l, rfl, h6⟩ := onA_ok h5
  obtain ⟨us, b3, rfl⟩ := toV_a b2
  obtain ⟨h7, h8⟩ := bR_ok (show bR (Nat.beq (lenL l) n) (putC bb o l und) s = _ from h6)
  obtain ⟨h9, rfl, k, sz, tv, h10, h11, rfl⟩ := putC_ok h8
  have hn : us.length = n := by rw [toVs_len b3, ← lenL_eq]; exact Nat.eq_of_beq_eq_true h7
  intro ρ w rr H
  obtain ⟨w', hr, H'⟩ := HC.store (P := P) H h10 hm h11 h9 b3
  have : (execOp ρ ⟨d, .store t x y, ty, pos, af, gd⟩).run P w = .ok .skip w' := by
    simp [execOp, rr x (by simp [Op.operands]) _ a, rr y (by simp [Op.operands]) _ a2, run_bind, run_pure, Instr.storeAt, Instr.sureAddr, storeVar, run_sizeOf hs, Value.cells, hn, hr]
  rw [this]
  exact ⟨_, H', m, Le.refl m, und_V m, rfl⟩

theorem evs1 {E : Env} {x : Operand} {u : Value} (h : ev E x = some u) : evs E [x] = some [u] := by simp [evs, h]
theorem evs2 {E : Env} {x y : Operand} {u v : Value} (h : ev E x = some u) (h2 : ev E y = some v) : evs E [x, y] = some [u, v] := by simp [evs, h, h2]
theorem takes_all : ∀ (cs : List Chunk), Takes cs cs []
  | [] => .nil
  | _ :: cs => .cons .here (takes_all cs)
theorem good_call {f : Nat} {xs : List Operand} {ys : List O} {ts : Array TypeId} (hx : OpdsOk xs ys) : Good P (.call ⟨.value (.func f), xs.toArray, ts⟩) ty (.call f ys) := fun env s cl v s' h hc m E w0 R e d pos af gd => by
  obtain ⟨vs, h1, h2⟩ := oL_ok (show oL (eOs ys env) (cl f) s = _ from h)
  obtain ⟨us, a, b⟩ := eOs_ok e hx h1
  refine OpT.call (hc f vs s v s' h2 m us b R) (fun val post hp => ?_) a (takes_all _)
  rw [List.append_nil]; exact hp
theorem good_callv {ys : List O} {xs : List Operand} {ts : Array TypeId} (hx : OpdOk x x') (hxs : OpdsOk xs ys) : Good P (.call ⟨.value x, xs.toArray, ts⟩) ty (.callv x' ys) := fun env s cl v s' h hc m E w0 R e d pos af gd => by
  obtain ⟨u, h1, h2⟩ := oV_ok (show oV (eO x' env) (onFn (cv1 cl (eOs ys env))) s = _ from h)
  obtain ⟨fv, a1, b1⟩ := eO_ok e hx h1
  obtain ⟨f, ua, wa, rfl, h3⟩ := onFn_ok h2
  obtain ⟨vs, h4, h5⟩ := oL_ok (show oL (eOs ys env) (cv2 cl f ua wa) s = _ from h3)
  obtain ⟨us, a, b⟩ := eOs_ok e hxs h4
  have h6 : cl f (appL ua (appL vs wa)) s = .ok v s' := h5
  rw [appL_eq, appL_eq] at h6
  simp only [toV] at b1
  split at b1
  · rename_i fs hfs
    split at b1
    · rename_i cs hcs
      simp only [Option.some.injEq] at b1
      subst b1
      refine OpT.callv (first := fs) (cap := cs) a1 a (Spec.mono (hc f _ s v s' h6 m (fs ++ us ++ cs) (by rw [List.append_assoc]; exact toVs_append hfs (toVs_append b hcs)) R) fun _ _ h => h) (takes_all _) fun val post hp => ?_
      rw [List.append_nil]; exact hp
    · cases b1
  · cases b1
theorem good_ext {i : Nat} (hx : OpdOk x x') : Good P (.extract x i) ty (.ext x' i) := fun env s cl v s' h hc m E w0 R e d pos af gd => by
  obtain ⟨u, h1, h2⟩ := oV_ok (show oV (eO x' env) (onT (extT i)) s = _ from h)
  obtain ⟨w, a, b⟩ := eO_ok e hx h1
  obtain ⟨l, rfl, h3⟩ := onT_ok h2
  obtain ⟨us, b2, rfl⟩ := toV_t b
  obtain ⟨u, h4, h5⟩ := oV_ok (show oV (nth l i) Kx.R.ok s = _ from h3)
  cases h5
  obtain ⟨w, h6, h7⟩ := toVs_get b2 (nth_of h4)
  exact OpT.extract (KPost.same h7) a h6
theorem good_pick (hx : OpdOk x x') (hy : OpdOk y y') (hz : OpdOk z z') : Good P (.pick x y z) ty (.pick x' y' z') := fun env s cl v s' h hc m E w0 R e d pos af gd => by
  obtain ⟨u, h1, h2⟩ := oV_ok (show oV (eO x' env) (onB (pkB y' z' env)) s = _ from h)
  obtain ⟨w, a, b⟩ := eO_ok e hx h1
  obtain ⟨c, rfl, h3⟩ := onB_ok h2
  cases b
  cases c with
  | true =>
    obtain ⟨u, h4, h5⟩ := oV_ok (show oV (eO y' env) Kx.R.ok s = _ from h3)
    cases h5
    obtain ⟨w, a2, b2⟩ := eO_ok e hy h4
    exact OpT.pick_t (KPost.same b2) a a2
  | false =>
    obtain ⟨u, h4, h5⟩ := oV_ok (show oV (eO z' env) Kx.R.ok s = _ from h3)
    cases h5
    obtain ⟨w, a2, b2⟩ := eO_ok e hz h4
    exact OpT.pick_f (KPost.same b2) a a2
theorem good_cm {o : Cm} {t u : TypeId} (hx : OpdOk x x') (hy : OpdOk y y') : Good P (.binOp (cmB o) t x y u) ty (.cm o x' y') := fun env s cl v s' h hc m E w0 R e d pos af gd => by
  obtain ⟨_, h1, h2⟩ := oV_ok (show oV (eO x' env) (onI (cm1 o (eO y' env))) s = _ from h)
  obtain ⟨_, a, b⟩ := eO_ok e hx h1
  obtain ⟨i, rfl, h3⟩ := onI_ok h2
  obtain ⟨_, h4, h5⟩ := oV_ok (show oV (eO y' env) (onI (cm2 o i)) s = _ from h3)
  obtain ⟨_, a2, b2⟩ := eO_ok e hy h4
  obtain ⟨j, rfl, h6⟩ := onI_ok h5
  cases h6; cases b; cases b2
  exact OpT.cmp (KPost.same rfl) a a2 (cmI_eq o i j)
theorem kN_inj {a b : IntKind} (h : Nat.beq (kN a) (kN b) = true) : a = b := by cases a <;> cases b <;> first | rfl | cases h
theorem good_cmk {o : Cm} {t u : TypeId} (hx : OpdOk x x') (hy : OpdOk y y') : Good P (.binOp (cmB o) t x y u) ty (.cmk o x' y') := fun env s cl v s' h hc m E w0 R e d pos af gd => by
  obtain ⟨_, h1, h2⟩ := oV_ok (show oV (eO x' env) (onK (cmk1 o (eO y' env))) s = _ from h)
  obtain ⟨_, a, b⟩ := eO_ok e hx h1
  obtain ⟨k, i, rfl, h3⟩ := onK_ok h2
  obtain ⟨_, h4, h5⟩ := oV_ok (show oV (eO y' env) (onK (cmk2 o k i)) s = _ from h3)
  obtain ⟨_, a2, b2⟩ := eO_ok e hy h4
  obtain ⟨k', j, rfl, h6⟩ := onK_ok h5
  obtain ⟨h7, h8⟩ := bR_ok (show bR (Nat.beq (kN k) (kN k')) (cmk3 o i j) s = _ from h6)
  obtain rfl := kN_inj h7
  cases h8; cases b; cases b2
  exact OpT.cmp (KPost.same rfl) a a2 (cmI_eq o i j)
theorem good_ark {o : Ar} {t u : TypeId} (hx : OpdOk x x') (hy : OpdOk y y') : Good P (.binOp (arB o) t x y u) ty (.ark o x' y') := fun env s cl v s' h hc m E w0 R e d pos af gd => by
  obtain ⟨_, h1, h2⟩ := oV_ok (show oV (eO x' env) (onK (ark1 o (eO y' env))) s = _ from h)
  obtain ⟨_, a, b⟩ := eO_ok e hx h1
  obtain ⟨k, i, rfl, h3⟩ := onK_ok h2
  obtain ⟨_, h4, h5⟩ := oV_ok (show oV (eO y' env) (onK (ark2 o k i)) s = _ from h3)
  obtain ⟨_, a2, b2⟩ := eO_ok e hy h4
  obtain ⟨k', j, rfl, h6⟩ := onK_ok h5
  obtain ⟨h7, h8⟩ := bR_ok (show bR (Nat.beq (kN k) (kN k')) (ark3 o k i j) s = _ from h6)
  obtain rfl := kN_inj h7
  cases h8; cases b; cases b2
  exact OpT.ar (KPost.same rfl) a a2 (arI_eq o i j)
theorem good_ar {o : Ar} {t u : TypeId} (hx : OpdOk x x') (hy : OpdOk y y') : Good P (.binOp (arB o) t x y u) ty (.ar o x' y') := fun env s cl v s' h hc m E w0 R e d pos af gd => by
  obtain ⟨_, h1, h2⟩ := oV_ok (show oV (eO x' env) (onI (ar1 o (eO y' env))) s = _ from h)
  obtain ⟨_, a, b⟩ := eO_ok e hx h1
  obtain ⟨i, rfl, h3⟩ := onI_ok h2
  obtain ⟨_, h4, h5⟩ := oV_ok (show oV (eO y' env) (onI (ar2 o i)) s = _ from h3)
  obtain ⟨_, a2, b2⟩ := eO_ok e hy h4
  obtain ⟨j, rfl, h6⟩ := onI_ok h5
  cases h6; cases b; cases b2
  exact OpT.ar (KPost.same (by rw [wrapI_eq]; rfl)) a a2 (arI_eq o i j)
theorem good_beq {t u : TypeId} (ht : P.underlying t = some .bool) (hx : OpdOk x x') (hy : OpdOk y y') : Good P (.binOp .eql t x y u) ty (.beq x' y') := fun env s cl v s' h hc m E w0 R e d pos af gd => by
  obtain ⟨_, h1, h2⟩ := oV_ok (show oV (eO x' env) (onB (beq1 (eO y' env))) s = _ from h)
  obtain ⟨_, a, b⟩ := eO_ok e hx h1
  obtain ⟨i, rfl, h3⟩ := onB_ok h2
  obtain ⟨_, h4, h5⟩ := oV_ok (show oV (eO y' env) (onB (beq2 i)) s = _ from h3)
  obtain ⟨_, a2, b2⟩ := eO_ok e hy h4
  obtain ⟨j, rfl, h6⟩ := onB_ok h5
  cases h6; cases b; cases b2
  exact OpT.beq (ht := ⟨ht⟩) (KPost.same (by rw [eqB_eq]; rfl)) a a2
theorem good_bne {t u : TypeId} (ht : P.underlying t = some .bool) (hx : OpdOk x x') (hy : OpdOk y y') : Good P (.binOp .neq t x y u) ty (.bne x' y') := fun env s cl v s' h hc m E w0 R e d pos af gd => by
  obtain ⟨_, h1, h2⟩ := oV_ok (show oV (eO x' env) (onB (bne1 (eO y' env))) s = _ from h)
  obtain ⟨_, a, b⟩ := eO_ok e hx h1
  obtain ⟨i, rfl, h3⟩ := onB_ok h2
  obtain ⟨_, h4, h5⟩ := oV_ok (show oV (eO y' env) (onB (bne2 i)) s = _ from h3)
  obtain ⟨_, a2, b2⟩ := eO_ok e hy h4
  obtain ⟨j, rfl, h6⟩ := onB_ok h5
  cases h6; cases b; cases b2
  exact OpT.bne (ht := ⟨ht⟩) (KPost.same (by rw [neg_eq, eqB_eq]; rfl)) a a2
theorem good_not {t : TypeId} (hx : OpdOk x x') : Good P (.unOp .not t x) ty (.not x') := fun env s cl v s' h hc m E w0 R e d pos af gd => by
  obtain ⟨_, h1, h2⟩ := oV_ok (show oV (eO x' env) (onB notB) s = _ from h)
  obtain ⟨_, a, b⟩ := eO_ok e hx h1
  obtain ⟨i, rfl, h3⟩ := onB_ok h2
  cases h3; cases b
  exact OpT.not (KPost.same (by rw [neg_eq]; rfl)) a
theorem nilpV_ok {e : Bool} {v u : V} {s s' : St} (h : nilpV e v s = .ok u s') : s' = s ∧ ((∃ b o, v = .p b o ∧ u = .b (neg e)) ∨ (v = .np ∧ u = .b e)) := by
  cases v <;> first
    | (cases h; exact ⟨rfl, .inl ⟨_, _, rfl, rfl⟩⟩)
    | (cases h; exact ⟨rfl, .inr ⟨rfl, rfl⟩⟩)
    | cases h
theorem nilsV_ok {e : Bool} {v u : V} {s s' : St} (h : nilsV e v s = .ok u s') : s' = s ∧ ((∃ b o n c, v = .sl b o n c ∧ u = .b (neg e)) ∨ (∃ b o n c, v = .se b o n c ∧ u = .b (neg e)) ∨ (v = .ns ∧ u = .b e)) := by
  cases v <;> first
    | (cases h; exact ⟨rfl, .inl ⟨_, _, _, _, rfl, rfl⟩⟩)
    | (cases h; exact ⟨rfl, .inr (.inl ⟨_, _, _, _, rfl, rfl⟩)⟩)
    | (cases h; exact ⟨rfl, .inr (.inr ⟨rfl, rfl⟩)⟩)
    | cases h
theorem toV_sl {m : Mp} {b o n : Nat} {c : Cap} {u : Value} (h : toV m (.sl b o n c) = some u) : ∃ r base cap, m b = some (r, base, cap) ∧ n ≤ capOf cap c ∧ u = .slice (some ⟨r, base + o, none⟩) n (capOf cap c) := by
  simp only [toV] at h
  split at h
  · rename_i r base cap hm
    split at h
    · rename_i hc; exact ⟨r, base, cap, hm, hc, by simpa using h.symm⟩
    · cases h
  · cases h
theorem toV_se {m : Mp} {b o mv j : Nat} {u : Value} (h : toV m (.se b o mv j) = some u) : ∃ r base cap, m b = some (r, base, cap) ∧ j ≤ cap ∧ u = .slice (some ⟨r, if cap = j then base + o else base + (o + mv), none⟩) 0 (cap - j) := by
  simp only [toV] at h
  split at h
  · rename_i r base cap hm
    split at h
    · rename_i hc; exact ⟨r, base, cap, hm, hc, by simpa using h.symm⟩
    · cases h
  · cases h
theorem good_nilp {t t2 u : TypeId} {eq : Bool} (ht : P.underlying t = some (.pointer t2)) (hx : OpdOk x x') : Good P (.binOp (if eq then .eql else .neq) t x (.const (.pointer none)) u) ty (.nilp eq x') := fun env s cl v s' h hc m E w0 R e d pos af gd => by
  obtain ⟨w, h1, h2⟩ := oV_ok (show oV (eO x' env) (nilpV eq) s = _ from h)
  obtain ⟨_, a, b⟩ := eO_ok e hx h1
  obtain ⟨rfl, hh⟩ := nilpV_ok h2
  rcases hh with ⟨bb, o, rfl, rfl⟩ | ⟨rfl, rfl⟩
  · obtain ⟨r, base, cap, hm, rfl⟩ := toV_p b
    cases eq
    · exact OpT.pnotnil (ht := ⟨ht⟩) (KPost.same rfl) a rfl
    · exact OpT.pnil (ht := ⟨ht⟩) (KPost.same rfl) a rfl
  · cases b
    cases eq
    · exact OpT.pnotnil (ht := ⟨ht⟩) (KPost.same rfl) a rfl
    · exact OpT.pnil (ht := ⟨ht⟩) (KPost.same rfl) a rfl
theorem good_nils {t t2 u : TypeId} {eq : Bool} (ht : P.underlying t = some (.slice t2)) (hx : OpdOk x x') : Good P (.binOp (if eq then .eql else .neq) t x (.const (.slice none 0 0)) u) ty (.nils eq x') := fun env s cl v s' h hc m E w0 R e d pos af gd => by
  obtain ⟨w, h1, h2⟩ := oV_ok (show oV (eO x' env) (nilsV eq) s = _ from h)
  obtain ⟨_, a, b⟩ := eO_ok e hx h1
  obtain ⟨rfl, hh⟩ := nilsV_ok h2
  rcases hh with ⟨bb, o, n, c, rfl, rfl⟩ | ⟨bb, o, n, c, rfl, rfl⟩ | ⟨rfl, rfl⟩
  · obtain ⟨r, base, cap, hm, _, rfl⟩ := toV_sl b
    cases eq
    · exact OpT.snotnil (ht := ⟨ht⟩) (KPost.same rfl) a rfl
    · exact OpT.snil (ht := ⟨ht⟩) (KPost.same rfl) a rfl
  · obtain ⟨r, base, cap, hm, _, rfl⟩ := toV_se b
    cases eq
    · exact OpT.snotnil (ht := ⟨ht⟩) (KPost.same rfl) a rfl
    · exact OpT.snil (ht := ⟨ht⟩) (KPost.same rfl) a rfl
  · cases b
    cases eq
    · exact OpT.snotnil (ht := ⟨ht⟩) (KPost.same rfl) a rfl
    · exact OpT.snil (ht := ⟨ht⟩) (KPost.same rfl) a rfl
theorem ix1_ok {n b o len : Nat} {i : Int} {v : V} {s s' : St} (h : ix1 n b o len i s = .ok v s') : ∃ k : Nat, i = (k : Int) ∧ k < len ∧ v = .p b (o + k * n) ∧ s' = s := by
  obtain ⟨k, h1, h2⟩ := oN_ok (show oN (nat i) (ix2 n b o len) s = _ from h)
  obtain ⟨h3, h4⟩ := bR_ok (show bR (Nat.blt k len) (ix3 n b o k) s = _ from h2)
  cases h4
  rw [Nat.blt_eq] at h3
  exact ⟨k, nat_ok h1, h3, rfl, rfl⟩
theorem good_ixp {t el : TypeId} {n : Nat} (ht : P.underlying t = some (.slice el)) (hs : (P.info? el).map (·.size) = some n) (hx : OpdOk x x') (hy : OpdOk y y') : Good P (.indexAddr t x y) ty (.ixp x' y' n) := fun env s cl v s' h hc m E w0 R e d pos af gd => by
  obtain ⟨_, h1, h2⟩ := oV_ok (show oV (eO x' env) (onSl3 (ix0 n (eO y' env))) s = _ from h)
  obtain ⟨_, a, b⟩ := eO_ok e hx h1
  obtain ⟨bb, o, len, c, rfl, h3⟩ := onSl3_ok h2
  obtain ⟨_, h4, h5⟩ := oV_ok (show oV (eO y' env) (onI (ix1 n bb o len)) s = _ from h3)
  obtain ⟨_, a2, b2⟩ := eO_ok e hy h4
  obtain ⟨i, rfl, h6⟩ := onI_ok h5
  obtain ⟨k, rfl, hk, rfl, rfl⟩ := ix1_ok h6
  obtain ⟨r, base, cap, hm, _, rfl⟩ := toV_sl b
  cases b2
  refine OpT.indexAddr (ht := ⟨ht⟩) (hs := ⟨hs⟩) (KPost.same ?_) a a2 (by omega) (by omega)
  simp only [toV, hm, Int.toNat_natCast, Nat.add_assoc]
theorem lenV_ok {v u : V} {s s' : St} (h : lenV v s = .ok u s') : s' = s ∧ ((∃ b o n c, v = .sl b o n c ∧ u = .i n) ∨ (∃ b o n c, v = .se b o n c ∧ u = .i 0) ∨ (v = .ns ∧ u = .i 0)) := by
  cases v <;> first
    | (cases h; exact ⟨rfl, .inl ⟨_, _, _, _, rfl, rfl⟩⟩)
    | (cases h; exact ⟨rfl, .inr (.inl ⟨_, _, _, _, rfl, rfl⟩)⟩)
    | (cases h; exact ⟨rfl, .inr (.inr ⟨rfl, rfl⟩)⟩)
    | cases h
theorem good_len {t el : TypeId} (ht : P.underlying t = some (.slice el)) (hx : OpdOk x x') : Good P (.call ⟨.builtin .len, [x].toArray, #[t]⟩) ty (.len x') := fun env s cl v s' h hc m E w0 R e d pos af gd => by
  obtain ⟨_, h1, h2⟩ := oV_ok (show oV (eO x' env) lenV s = _ from h)
  obtain ⟨_, a, b⟩ := eO_ok e hx h1
  obtain ⟨rfl, hh⟩ := lenV_ok h2
  rcases hh with ⟨bb, o, n, c, rfl, rfl⟩ | ⟨bb, o, n, c, rfl, rfl⟩ | ⟨rfl, rfl⟩
  · obtain ⟨r, base, cap, hm, _, rfl⟩ := toV_sl b
    exact OpT.len_slice (ht := ⟨ht⟩) (KPost.same rfl) (evs1 a)
  · obtain ⟨r, base, cap, hm, _, rfl⟩ := toV_se b
    exact OpT.len_slice (ht := ⟨ht⟩) (KPost.same rfl) (evs1 a)
  · cases b
    exact OpT.len_slice (ht := ⟨ht⟩) (KPost.same rfl) (evs1 a)
/-- A new block of cells. -/
theorem newB_ok {k : Blk} {f : Nat → V} {s s' : St} {v : V} (h : newB k f s = .ok v s') : v = f s.nx ∧ s' = ⟨s.nx + 1, s.h.set s.nx k⟩ := by cases h; exact ⟨rfl, rfl⟩
theorem HC.newCells {w0 w : World} {m : Mp} {s : St} {R : List Chunk} (H : Holds w0 w (HC m s :: R)) (arr : Array Value) (t : TypeId) {n sz cap : Nat} {tv : TV} (h1 : n ≤ arr.size) (h2 : ∀ i v, tv.get i = .ok v → i < n ∧ ∃ u, toV m v = some u ∧ arr[i]? = some u) (h3 : sz ≠ 0 → cap * sz ≤ arr.size ∧ n ≤ cap * sz) :
    Le m (ext m s.nx (w.heap.size, 0, cap)) ∧ ext m s.nx (w.heap.size, 0, cap) s.nx = some (w.heap.size, 0, cap) ∧ Holds w0 { w with heap := w.heap.push (.cells arr t (0, 0)) } (HC (ext m s.nx (w.heap.size, 0, cap)) ⟨s.nx + 1, s.h.set s.nx (.c n sz tv)⟩ :: R) := by
  obtain ⟨h, hc, _⟩ := HC.heap H
  have hle := ext_le (r := (w.heap.size, 0, cap)) (hc.fresh _ (Nat.le_refl _))
  refine ⟨hle, by simp [ext], HC.new H _ fun h' hn hc' => hc'.push hn fun _ => ⟨arr, t, rfl, by omega, fun i v hv => ?_, fun hz => by have := h3 hz; omega⟩⟩
  obtain ⟨g, u, a, b⟩ := h2 i v hv
  exact ⟨g, u, toV_le hle v a, by rw [Nat.zero_add]; exact b⟩
theorem ofL_rel {m : Mp} {l : List V} {us : List Value} (h : toVs m l = some us) : ∀ i v, (ofL l).get i = .ok v → i < lenL l ∧ ∃ u, toV m v = some u ∧ us.toArray[i]? = some u := fun i v hv => by
  obtain ⟨u, a, b⟩ := toVs_get h (ofL_get hv)
  exact ⟨by rw [lenL_eq]; exact (List.getElem?_eq_some_iff.1 (ofL_get hv)).1, u, b, by simpa using a⟩
theorem good_new {t : TypeId} {zs : List V} {zv : Value} {us : List Value} (hz : (P.info? t).bind (·.zero) = some zv) (hu : toVs m0 zs = some us) (hc' : zv.cells = us.toArray) : Good P (.alloc t) ty (.new zs) := fun env s cl v s' h hc m E w0 R e d pos af gd => by
  obtain ⟨rfl, rfl⟩ := newB_ok h
  intro ρ w rr H
  have : (execOp ρ ⟨d, .alloc t, ty, pos, af, gd⟩).run P w = .ok (.value (.pointer (some ⟨w.heap.size, 0, none⟩))) { w with heap := w.heap.push (.cells us.toArray t (0, 0)) } := by
    simp [execOp, run_bind, run_pure, Instr.alloc, run_zeroValue hz, newVar, newRow, newObj, Sem.run, hc']
  rw [this]
  obtain ⟨h1, h2, h3⟩ := HC.newCells (cap := 0) (sz := 0) H us.toArray t (n := lenL zs) (tv := ofL zs) (by rw [lenL_eq, ← toVs_len hu]; simp) (ofL_rel (toVs_le (m0_le m) _ hu)) (fun h => absurd rfl h)
  exact ⟨_, h3, _, h1, by simp only [ptr0, toV, h2, Nat.add_zero], rfl⟩
theorem cellsOf_V {m : Mp} {v : V} {u : Value} (h : toV m v = some u) : toVs m (cellsOf v) = some u.cells.toList := by
  cases v with
  | a l =>
    obtain ⟨us, a, rfl⟩ := toV_a h
    exact a
  | t l =>
    obtain ⟨us, a, rfl⟩ := toV_t h
    exact toVs_cons.2 ⟨_, [], h, toVs_nil m, rfl⟩
  | _ =>
    refine toVs_cons.2 ⟨u, [], h, toVs_nil m, ?_⟩
    simp only [toV] at h; (try split at h) <;> (try split at h) <;> first | (cases h; done) | (simp only [Option.some.injEq] at h; subst h; rfl)
theorem good_box {t : TypeId} (hx : OpdOk x x') : Good P (.box t x) ty (.box x') := fun env s cl v s' h hc m E w0 R e d pos af gd => by
  obtain ⟨u, h1, h2⟩ := oV_ok (show oV (eO x' env) boxV s = _ from h)
  obtain ⟨w, a, b⟩ := eO_ok e hx h1
  obtain ⟨h3, h4⟩ := bR_ok (show bR (singles (cellsOf u)) (boxL (cellsOf u)) s = _ from h2)
  obtain ⟨rfl, rfl⟩ := newB_ok h4
  have hu := cellsOf_V b
  intro ρ w' rr H
  have : (execOp ρ ⟨d, .box t x, ty, pos, af, gd⟩).run P w' = .ok (.value (.pointer (some ⟨w'.heap.size, 0, none⟩))) { w' with heap := w'.heap.push (.cells w.cells t (0, 0)) } := by
    simp [execOp, rr x (by simp [Op.operands]) _ a, run_bind, run_pure, Instr.box, newVar, newRow, newObj, Sem.run]
  rw [this]
  obtain ⟨h5, h6, h7⟩ := HC.newCells (cap := 0) (sz := 0) H w.cells t (n := lenL (cellsOf u)) (tv := ofL (cellsOf u)) (by rw [lenL_eq, ← toVs_len hu]; simp) (by simpa using ofL_rel hu) (fun h => absurd rfl h)
  exact ⟨_, h7, _, h5, by simp only [ptr0, toV, h6, Nat.add_zero], rfl⟩
theorem good_re {ts : Array TypeId} (hx : OpdOk x x') : Good P (.call ⟨.builtin .real, [x].toArray, ts⟩) ty (.re x') := fun env s cl v s' h hc m E w0 R e d pos af gd => by
  obtain ⟨_, h1, h2⟩ := oV_ok (show oV (eO x' env) (onZ reZ) s = _ from h)
  obtain ⟨_, a, b⟩ := eO_ok e hx h1
  obtain ⟨p, q, rfl, h3⟩ := onZ_ok h2
  cases h3; cases b
  exact OpT.real (KPost.same rfl) (evs1 a)
theorem good_im {ts : Array TypeId} (hx : OpdOk x x') : Good P (.call ⟨.builtin .imag, [x].toArray, ts⟩) ty (.im x') := fun env s cl v s' h hc m E w0 R e d pos af gd => by
  obtain ⟨_, h1, h2⟩ := oV_ok (show oV (eO x' env) (onZ imZ) s = _ from h)
  obtain ⟨_, a, b⟩ := eO_ok e hx h1
  obtain ⟨p, q, rfl, h3⟩ := onZ_ok h2
  cases h3; cases b
  exact OpT.imag (KPost.same rfl) (evs1 a)
end
end Go.Kx

namespace Go.Kx
open Go.Sl

theorem setL_eq (l : List V) : ∀ (i : Nat) (v : V), setL l i v = l.set i v := by
  induction l with
  | nil => intro i v; cases i <;> rfl
  | cons u l ih =>
    intro i v
    cases i with
    | zero => rfl
    | succ i => show u :: setL l i v = _; rw [ih]; rfl
theorem toVs_set {m : Mp} : ∀ {l : List V} {us : List Value}, toVs m l = some us → ∀ {i : Nat} {v : V} {u : Value}, toV m v = some u → toVs m (l.set i v) = some (us.set i u) := by
  intro l
  induction l with
  | nil => intro us h i v u _; simp [toVs] at h; subst h; simp [toVs]
  | cons x l ih =>
    intro us h i v u hv
    obtain ⟨y, r, h1, h2, rfl⟩ := toVs_cons.1 h
    cases i with
    | zero => exact toVs_cons.2 ⟨u, r, hv, h2, rfl⟩
    | succ i => exact toVs_cons.2 ⟨y, _, h1, ih h2 hv, rfl⟩
theorem wrL_ok {m : Mp} : ∀ {ys : List V} {us : List Value}, toVs m ys = some us → ∀ {l : List V} {cells : List Value} {off : Nat}, toVs m l = some cells → toVs m (wrL ys l off) = some (wr cells off us) := by
  intro ys
  induction ys with
  | nil => intro us h l cells off hl; simp [toVs] at h; subst h; exact hl
  | cons v ys ih =>
    intro us h l cells off hl
    obtain ⟨u, r, h1, h2, rfl⟩ := toVs_cons.1 h
    show toVs m (wrL ys (setL l off v) (off + 1)) = some (wr (cells.set off u) (off + 1) r)
    rw [setL_eq]
    exact ih h2 (toVs_set hl h1)
theorem repL_ok {m : Mp} {z : List V} {us : List Value} (h : toVs m z = some us) : ∀ n, toVs m (repL z n) = some (rep n us)
  | 0 => toVs_nil m
  | n + 1 => by rw [repL_succ]; exact toVs_append h (repL_ok h n)
inductive PartsOk (place : Nat → Option (Nat × Nat)) : List (Nat × Operand) → PL → Prop
  | nil : PartsOk place [] .nil
  | cons {i off size : Nat} {x : Operand} {y : O} {ps : List (Nat × Operand)} {pl : PL} : place i = some (off, size) → OpdOk x y → PartsOk place ps pl → PartsOk place ((i, x) :: ps) (.cons off size y pl)
theorem fill_ok {m : Mp} {env : KEnv} {E : Env} (e : ER m env E) {place : Nat → Option (Nat × Nat)} {parts : List (Nat × Operand)} {pl : PL} (h : PartsOk place parts pl) :
    ∀ {zs l : List V} {cells : List Value}, fill pl zs env = .ok l → toVs m zs = some cells → ∃ ps cells', evParts E parts = some ps ∧ fillL place cells ps = some cells' ∧ toVs m l = some cells' := by
  induction h with
  | nil => intro zs l cells h hz; cases h; exact ⟨[], cells, rfl, rfl, hz⟩
  | @cons i off size x y ps pl hp hx _ ih =>
    intro zs l cells h hz
    have h' : fl1 (eO y env) off size (fill pl) zs env = .ok l := h
    cases hv : eO y env with
    | no => rw [hv] at h'; cases h'
    | ok v =>
      rw [hv] at h'
      obtain ⟨u, a, b⟩ := eO_ok e hx hv
      have h2 : fl3 (@Bool.rec (fun _ => Bool → Bool) (fun _ => false) (fun b => b) (Nat.beq (lenL (cellsOf v)) size) (Nat.ble (Nat.add off size) (lenL zs))) (fill pl) (wrL (cellsOf v) zs off) env = .ok l := h'
      cases c1 : Nat.beq (lenL (cellsOf v)) size with
      | false => rw [c1] at h2; cases h2
      | true =>
        rw [c1] at h2
        cases c2 : Nat.ble (Nat.add off size) (lenL zs) with
        | false => rw [c2] at h2; cases h2
        | true =>
          rw [c2] at h2
          have h3 : fill pl (wrL (cellsOf v) zs off) env = .ok l := h2
          have hcs := cellsOf_V b
          have e1 := Nat.eq_of_beq_eq_true c1
          have e2 : off + size ≤ lenL zs := Nat.le_of_ble_eq_true c2
          rw [lenL_eq] at e1 e2
          have e3 := toVs_len hcs
          have e4 := toVs_len hz
          obtain ⟨ps', cells', f1, f2, f3⟩ := ih h3 (wrL_ok hcs hz)
          refine ⟨(i, u) :: ps', cells', by simp [evParts, a, f1], ?_, f3⟩
          simp only [fillL, hp]
          by_cases hagg : ∃ cs, u = .agg cs
          · obtain ⟨cs, rfl⟩ := hagg
            simp only [Value.cells] at e3 f2
            simp only []
            rw [if_pos (by omega)]; exact f2
          · have hcell : u.cells = #[u] := by cases u <;> first | rfl | exact absurd ⟨_, rfl⟩ hagg
            rw [hcell] at e3 f2
            have g : (if 1 = size ∧ off + 1 ≤ cells.length then fillL place (cells.set off u) ps' else none) = some cells' := by
              simp only [List.length_cons, List.length_nil] at e3
              rw [if_pos (by omega)]; exact f2
            cases u <;> first | exact g | exact absurd ⟨_, rfl⟩ hagg
section
variable {P : Program} {ty : TypeId} {x y z : Operand} {x' y' z' : O}
theorem good_bld {t : TypeId} {parts : List (Nat × Operand)} {pl : PL} {places : List (Nat × Nat)} {zs : List V} {us : List Value} (hz : (P.info? t).bind (·.zero) = some (.agg us.toArray)) (hu : toVs m0 zs = some us) (hp : placesOf P t = some places)
    (hparts : PartsOk (fun i => places[i]?) parts pl) : Good P (.build t parts.toArray) ty (.bld zs pl) := fun env s cl v s' h hc m E w0 R e d pos af gd => by
  obtain ⟨l, h1, h2⟩ := oL_ok (show oL (fill pl zs env) okA s = _ from h)
  cases h2
  obtain ⟨ps, cells, f1, f2, f3⟩ := fill_ok e hparts h1 (toVs_le (m0_le m) _ hu)
  exact OpT.build (hz := ⟨hz⟩) (hp := ⟨hp⟩) (KPost.same (by simp [toV, f3])) f1 f2
theorem good_bld_arr {t el : TypeId} {len n : Nat} {parts : List (Nat × Operand)} {pl : PL} {zs : List V} {us : List Value} (hz : (P.info? t).bind (·.zero) = some (.agg us.toArray)) (hu : toVs m0 zs = some us) (ht : P.underlying t = some (.array len el)) (hs : (P.info? el).map (·.size) = some n)
    (hparts : PartsOk (fun i => some (i * n, n)) parts pl) : Good P (.build t parts.toArray) ty (.bld zs pl) := fun env s cl v s' h hc m E w0 R e d pos af gd => by
  obtain ⟨l, h1, h2⟩ := oL_ok (show oL (fill pl zs env) okA s = _ from h)
  cases h2
  obtain ⟨ps, cells, f1, f2, f3⟩ := fill_ok e hparts h1 (toVs_le (m0_le m) _ hu)
  refine OpT.val (KPost.same (u := .agg cells.toArray) (by simp [toV, f3])) fun ρ w r _ => ?_
  have hm : (parts.toArray.map fun (p : Nat × Operand) => (p.1, ρ p.2)) = ps.toArray := by
    rw [← parts_map parts ps (fun x hx => r x (by simpa [Op.operands] using hx)) f1]; simp
  have hfill := fill_of _ ps us cells f2
  have hb : (Instr.build t ps.toArray).run P w = .ok (.agg cells.toArray) w := by
    simp only [Instr.build, run_bind, run_zeroValue hz, run_underlying ht, run_sizeOf hs, Value.cells, hfill, run_pure]
  simp only [execOp, run_bind, run_pure, hm, hb]
theorem good_bsl {t el : TypeId} {len sz : Nat} {zv : Value} {parts : List (Nat × Operand)} {pl : PL} {zs : List V} {us : List Value} (ht : P.underlying t = some (.slice el)) (hs : (P.info? el).map (·.size) = some sz) (hz : (P.info? el).bind (·.zero) = some zv) (hcz : zv.cells = us.toArray) (hu : toVs m0 zs = some us) (hus : us.length = sz) (hsz : 0 < sz)
    (hmax : len * sz ≤ 16777216) (hparts : PartsOk (fun i => some (i * sz, sz)) parts pl) : Good P (.buildSlice t len parts.toArray) ty (.bsl zs len pl) := fun env s cl v s' h hc m E w0 R e d pos af gd => by
  obtain ⟨l, h1, h2⟩ := oL_ok (show oL (fill pl (repL zs len) env) (bsl1 len (lenL zs)) s = _ from h)
  obtain ⟨h3, h4⟩ := bR_ok (show bR (singles l) (bsl2 len (lenL zs) l) s = _ from h2)
  obtain ⟨rfl, rfl⟩ := newB_ok h4
  have hz' := repL_ok (toVs_le (m0_le m) _ hu) len
  obtain ⟨ps, cells, f1, f2, f3⟩ := fill_ok e hparts h1 hz'
  have hlz : lenL zs = sz := by rw [lenL_eq, ← toVs_len hu, hus]
  have hlen : ∀ (ps : List (Nat × Value)) (c c' : List Value), fillL (fun i => some (i * sz, sz)) c ps = some c' → c'.length = c.length := by
    intro ps
    induction ps with
    | nil => intro c c' hf; simp [fillL] at hf; subst hf; rfl
    | cons p ps ih =>
      intro c c' hf
      obtain ⟨i, u⟩ := p
      simp only [fillL] at hf
      split at hf
      · split at hf
        · rw [ih _ _ hf, wr_length]
        · cases hf
      · split at hf
        · rw [ih _ _ hf, List.length_set]
        · cases hf
  have hcl := hlen _ _ _ f2
  rw [rep_length, hus] at hcl
  intro ρ w rr H
  have hm : (parts.toArray.map fun (p : Nat × Operand) => (p.1, ρ p.2)) = ps.toArray := by
    rw [← parts_map parts ps (fun x hx => rr x (by simpa [Op.operands] using hx)) f1]; simp
  have hfill := fill_of _ ps _ cells f2
  have hrow := zeros_rep len sz zv (by rw [hcz]; simpa using hus) hsz
  rw [hcz] at hrow
  have hrun : (execOp ρ ⟨d, .buildSlice t len parts.toArray, ty, pos, af, gd⟩).run P w = .ok (.value (.slice (some ⟨w.heap.size, 0, none⟩) len len)) { w with heap := w.heap.push (.cells cells.toArray el (0, 0)) } := by
    have hno : ¬ (len * sz > 2 ^ 24) := by omega
    by_cases h0 : len * sz = 0
    · have hl0 : len = 0 := by
        rcases Nat.mul_eq_zero.1 h0 with h | h
        · exact h
        · omega
      subst hl0
      have r0 : Array.range 0 = #[] := rfl
      have hc0 : (rep 0 us) = [] := rfl
      rw [hc0] at hfill
      simp only [execOp, run_bind, Instr.buildSlice, run_underlying ht, run_sizeOf hs, hno, if_false, Nat.zero_mul, if_true, run_pure, hm, r0, List.map_toArray, List.map_nil, hfill, newRow, newObj, Sem.run]
      simp [hfill, run_pure, newRow, newObj, Sem.run, run_bind]
    · simp only [execOp, run_bind, Instr.buildSlice, run_underlying ht, run_sizeOf hs, hno, if_false, h0, run_zeroValue hz, run_pure, hm, hcz, hrow, hfill, newRow, newObj, Sem.run]
  rw [hrun]
  obtain ⟨g1, g2, g3⟩ := HC.newCells (cap := len) (sz := lenL zs) H cells.toArray el (n := lenL l) (tv := ofL l) (by rw [lenL_eq, ← toVs_len f3]; simp) (ofL_rel f3) (fun _ => by
    rw [hlz, lenL_eq, ← toVs_len f3, hcl]; simp [hcl])
  exact ⟨_, g3, _, g1, by simp [sl0, toV, g2, capOf], rfl⟩
end
end Go.Kx

namespace Go.Kx
open Go.Sl

/-- The source of an append: so many elements, their cells. -/
structure Src (P : Program) (sz : Nat) (w : World) (ru : Value) (mm : Nat) (us : List Value) : Prop where
  len : us.length = mm * sz
  sl : ∃ a c, ru = .slice a mm c ∧ (Builtin.firstCells sz mm ru).run P w = .ok us.toArray w ∧ (0 < mm → ∃ r off, a = some ⟨r, off, none⟩ ∧ ∀ j x, us[j]? = some x → w.cell? ((⟨r, off, none⟩ : Addr).add j) = some x)
theorem srcV_ok {P : Program} {sz : Nat} {k : Nat → List V → St → R} {v u : V} {s s' : St} (h : srcV sz k v s = .ok u s') {m : Mp} {ru : Value} (hv : toV m v = some ru) :
    ∃ mm l, k mm l s = .ok u s' ∧ ∀ w0 w R, Holds w0 w (HC m s :: R) → ∃ us, toVs m l = some us ∧ Src P sz w ru mm us := by
  cases v <;> try cases h
  · rename_i b o n c
    obtain ⟨r, base, cap, hm, _, rfl⟩ := toV_sl hv
    have h' : srcS n k sz b o s = .ok u s' := h
    cases n with
    | zero =>
      refine ⟨0, [], h', fun w0 w R H => ⟨[], toVs_nil m, by simp, _, _, rfl, ?_, fun h => absurd h (by omega)⟩⟩
      simp [Builtin.firstCells, loadCells, loadCellsFrom, run_pure]
    | succ n =>
      obtain ⟨blk, h1, h2⟩ := oB_ok (show oB (s.h.get b) (onC (srcC (n + 1) k sz o)) s = _ from h')
      obtain ⟨kk, zb, tv, rfl, h3⟩ := onC_ok h2
      obtain ⟨l, h4, h5⟩ := oL_ok (show oL (getN tv ((n + 1) * sz) o) (k (n + 1)) s = _ from h3)
      refine ⟨n + 1, l, h5, fun w0 w R H => ?_⟩
      obtain ⟨us, e1, e2, e3⟩ := HC.cells H h1 hm h4
      refine ⟨us, e1, e2, _, _, rfl, ?_, fun _ => ⟨_, _, rfl, fun j x hx => by rw [addr_add]; exact e3 j x hx⟩⟩
      show (loadCells ⟨r, base + o, none⟩ ((n + 1) * sz)).run P w = _
      unfold loadCells
      rw [Sl.run_loadCells ((n + 1) * sz) (base + o) 0 #[] us e2 (fun j hj => by
        have : us[j]? = some us[j] := List.getElem?_eq_getElem (by omega)
        rw [this, Nat.add_zero]; exact e3 j _ this)]
      simp
  · rename_i b o mv j
    obtain ⟨r, base, cap, hm, _, rfl⟩ := toV_se hv
    refine ⟨0, [], h, fun w0 w R H => ⟨[], toVs_nil m, by simp, _, _, rfl, ?_, fun h => absurd h (by omega)⟩⟩
    simp [Builtin.firstCells, loadCells, loadCellsFrom, run_pure]
  · cases hv
    refine ⟨0, [], h, fun w0 w R H => ⟨[], toVs_nil m, by simp, _, _, rfl, ?_, fun h => absurd h (by omega)⟩⟩
    simp [Builtin.firstCells, run_pure]

section
variable {P : Program} {t el : TypeId} {i : TypeInfo} {z : Value} {w : World}
theorem mayGrow {n m by_ : Nat} (h : (n + m) * by_ ≤ 140737488355328) (hby : 0 < by_) : ((n + m : Nat) : Int) ≤ 9223372036854775807 := by
  have : n + m ≤ (n + m) * by_ := Nat.le_mul_of_pos_right _ hby
  omega
/-- append where there is room. -/
theorem run_append_room (ht : P.underlying t = some (.slice el)) (hi : P.info? el = some i) {ru : Value} {mm : Nat} {us : List Value} (hs : Src P i.size w ru mm us) {r off n cap : Nat} (hroom : n + mm ≤ cap) (ty : TypeId) {w' : World} (hst : (storeCells ⟨r, off + n * i.size, none⟩ us).run P w = .ok () w') :
    (Builtin.append_ #[t, t] ty #[.slice (some ⟨r, off, none⟩) n cap, ru]).run P w = .ok (.slice (some ⟨r, off, none⟩) (n + mm) cap) w' := by
  obtain ⟨a, c, rfl, hf, _⟩ := hs.sl
  simp [Builtin.append_, Go.run_underlying ht, Go.sizeOf, typeInfo, hi, Builtin.lenOf, hroom, hf, addr_add, hst]
/-- append where there is none. -/
theorem run_append_more (ht : P.underlying t = some (.slice el)) (hi : P.info? el = some i) (hz : i.zero = some z) {ru : Value} {mm : Nat} {us : List Value} (hs : Src P i.size w ru mm us) {r off n cap : Nat} (hroom : ¬ n + mm ≤ cap) (hle : n ≤ cap) (ty : TypeId) {xs : List Value} (hx : xs.length = n * i.size)
    (hxs : ∀ j x, xs[j]? = some x → w.cell? ((⟨r, off, none⟩ : Addr).add j) = some x) (hbd : (n + mm) * i.bytes ≤ 140737488355328) (hby : 0 < i.bytes) :
    (Builtin.append_ #[t, t] ty #[.slice (some ⟨r, off, none⟩) n cap, ru]).run P w = .ok (.slice (some ⟨w.heap.size, 0, none⟩) (n + mm) (grownCap w (n + mm) cap el)) (w.drew.alloc (.cells (xs.toArray ++ us.toArray ++ Builtin.zeroCells z.cells (grownCap w (n + mm) cap el - (n + mm))) el)) := by
  obtain ⟨a, c, rfl, _, hpos⟩ := hs.sl
  obtain ⟨r2, off2, rfl, hcell⟩ := hpos (by omega)
  exact run_append_grow (P := P) w t ty el i z ht hi hz ⟨r, off, none⟩ n cap xs hx hxs ⟨r2, off2, none⟩ mm c us hs.len hcell (by omega) (mayGrow hbd hby) (growslice_fits (by omega) hbd)
theorem run_append_none (ht : P.underlying t = some (.slice el)) (hi : P.info? el = some i) (hz : i.zero = some z) {ru : Value} {mm : Nat} {us : List Value} (hs : Src P i.size w ru mm us) (hmm : 0 < mm) (ty : TypeId) (hbd : mm * i.bytes ≤ 140737488355328) (hby : 0 < i.bytes) :
    (Builtin.append_ #[t, t] ty #[.slice none 0 0, ru]).run P w = .ok (.slice (some ⟨w.heap.size, 0, none⟩) mm (grownCap w mm 0 el)) (w.drew.alloc (.cells (us.toArray ++ Builtin.zeroCells z.cells (grownCap w mm 0 el - mm)) el)) := by
  obtain ⟨a, c, rfl, _, hpos⟩ := hs.sl
  obtain ⟨r2, off2, rfl, hcell⟩ := hpos hmm
  exact run_append_nil (P := P) w t ty el i z ht hi hz ⟨r2, off2, none⟩ mm c us hs.len hcell hmm (by have := mayGrow (n := 0) (m := mm) (by simpa using hbd) hby; simpa using this) (by omega)
theorem run_append_nothing (ht : P.underlying t = some (.slice el)) (hi : P.info? el = some i) {ru : Value} {us : List Value} (hs : Src P i.size w ru 0 us) (ty : TypeId) {a : Option Addr} {n cap : Nat} (hle : n ≤ cap) :
    (Builtin.append_ #[t, t] ty #[.slice a n cap, ru]).run P w = .ok (.slice a n cap) w := by
  obtain ⟨b, c, rfl, hf, _⟩ := hs.sl
  have hu : us = [] := List.eq_nil_of_length_eq_zero (by rw [hs.len]; simp)
  subst hu
  cases a <;> simp [Builtin.append_, Go.run_underlying ht, Go.sizeOf, typeInfo, hi, Builtin.lenOf, hle, hf, storeCells]
end

section
variable {P : Program} {w0 w : World} {m : Mp} {s : St} {R : List Chunk}
/-- A new block whose room was drawn. -/
theorem HC.grown (H : Holds w0 w (HC m s :: R)) {el : TypeId} {sz n cap : Nat} {tv : TV} {cells rest : List Value} (hn : cells.length = n * sz) (hr : rest.length = (cap - n) * sz) (hc : n ≤ cap) (ht : ∀ i v, tv.get i = .ok v → i < n * sz ∧ ∃ u, toV m v = some u ∧ cells[i]? = some u) :
    Le m (ext m s.nx (w.heap.size, 0, cap)) ∧ toV (ext m s.nx (w.heap.size, 0, cap)) (sl0 n s.nx) = some (.slice (some ⟨w.heap.size, 0, none⟩) n cap) ∧
    Holds w0 (w.drew.alloc (.cells (cells ++ rest).toArray el)) (HC (ext m s.nx (w.heap.size, 0, cap)) ⟨s.nx + 1, s.h.set s.nx (.c (n * sz) sz tv)⟩ :: R) := by
  have hsize : (cells ++ rest).toArray.size = cap * sz := by
    simp only [List.size_toArray, List.length_append, hn, hr, ← Nat.add_mul]; congr 1; omega
  obtain ⟨g1, g2, g3⟩ := HC.newCells (cap := cap) (sz := sz) (H.drew (w.drawn + 1)) (cells ++ rest).toArray el (n := n * sz) (tv := tv) (by rw [hsize]; exact Nat.mul_le_mul_right _ hc)
    (fun i v hv => by
      obtain ⟨a, u, b, c⟩ := ht i v hv
      exact ⟨a, u, b, by rw [List.getElem?_toArray, List.getElem?_append_left (by omega)]; exact c⟩) (fun _ => by rw [hsize]; exact ⟨Nat.le_refl _, Nat.mul_le_mul_right _ hc⟩)
  exact ⟨g1, by have g2' := g2; simp only [sl0, toV, g2', capOf, Nat.add_zero, Nat.sub_zero]; exact if_pos hc, g3⟩
theorem HC.kill (H : Holds w0 w (HC m s :: R)) (b : Nat) : Holds w0 w (HC m (kill b s) :: R) := H.imp fun _ _ ⟨h1, h2, sp, a, c⟩ => ⟨h1, h2, sp, HCp.kill a b, c⟩
/-- A block that grows in its own room: it has a new name. -/
theorem HC.inPlace (H : Holds w0 w (HC m s :: R)) {b k sz r base cap : Nat} {t tv : TV} (hb : s.h.get b = .ok (.c k sz t)) (hm : m b = some (r, base, cap)) {o j n mm : Nat} {l : List V} {us : List Value} (h1 : singles l = true) (hu : toVs m l = some us) (hus : us.length = mm * sz) (ho : o = j * sz) (hsz : sz ≠ 0) (hj : j ≤ cap) (hroom : n + mm ≤ cap - j)
    (ht : ∀ i v, tv.get i = .ok v → i < (n + mm) * sz ∧ ((i < n * sz ∧ t.get (o + i) = .ok v) ∨ (n * sz ≤ i ∧ l[i - n * sz]? = some v))) :
    ∃ w', (storeCells ⟨r, base + o + n * sz, none⟩ us).run P w = .ok () w' ∧ Le m (ext m s.nx (r, base + o, cap - j)) ∧ toV (ext m s.nx (r, base + o, cap - j)) (sl0 (n + mm) s.nx) = some (.slice (some ⟨r, base + o, none⟩) (n + mm) (cap - j)) ∧
      Holds w0 w' (HC (ext m s.nx (r, base + o, cap - j)) ⟨s.nx + 1, (s.h.set b .dead).set s.nx (.c ((n + mm) * sz) sz tv)⟩ :: R) := by
  obtain ⟨ob, e1, arr, ty, rfl, e2, e3, e4⟩ := HC.at H hb alive_c hm
  obtain ⟨e5, e6⟩ := e4 hsz
  have hl := toVs_len hu
  have hmul : (n + mm) * sz ≤ (cap - j) * sz := Nat.mul_le_mul_right _ hroom
  have hcj : (cap - j) * sz = cap * sz - j * sz := Nat.sub_mul _ _ _
  have hjm : j * sz ≤ cap * sz := Nat.mul_le_mul_right _ hj
  have hnm : (n + mm) * sz = n * sz + mm * sz := Nat.add_mul _ _ _
  have hfit : base + o + n * sz + us.length ≤ arr.size := by rw [hus]; omega
  have hfresh : m s.nx = none := by obtain ⟨h, hc, _⟩ := HC.heap H; exact hc.fresh _ (Nat.le_refl _)
  have H1 := HC.open_ hb alive_c hm H e1
  rw [show arr = arr.toList.toArray from rfl] at H1
  obtain ⟨w', hr, H2⟩ := run_storeCells (P := P) us (base + o + n * sz) 0 arr.toList _ _ w (singles_one h1 hu) (by simpa using hfit) .here H1.to_blk
  refine ⟨w', hr, ext_le hfresh, by simp only [sl0, toV, ext, if_true, capOf, Nat.sub_zero, Nat.add_zero]; exact if_pos hroom, ?_⟩
  obtain ⟨t', H3⟩ := H2.of_blk
  refine HC.close H3 fun h _ hc => ?_
  have hset := hc.set hb alive_c hm (b' := .dead) (o' := .cells (wr arr.toList (base + o + n * sz + 0) us).toArray t' (0, 0)) (fun h => h.elim)
  refine HCp.name hset (if_pos rfl) (fun k' b' hk ha x hx => ?_) fun _ => ?_
  · rcases TB.get_set _ _ _ _ _ hk with ⟨rfl, rfl⟩ | ⟨hne, hk'⟩
    · exact ha.elim
    · exact hne (hc.inj _ _ _ _ hk' hb ha alive_c _ _ _ hx hm)
  · refine ⟨_, t', rfl, ?_, fun i v hv => ?_, fun _ => ⟨?_, hmul⟩⟩
    · simp only [List.size_toArray, wr_length]; simp only [Array.length_toList]; omega
    · obtain ⟨hi, hh⟩ := ht i v hv
      refine ⟨hi, ?_⟩
      rw [List.getElem?_toArray, wr_get _ _ _ _ (by simpa using hfit)]
      rcases hh with ⟨a, c⟩ | ⟨a, c⟩
      · obtain ⟨_, u, g1, g2⟩ := e3 _ v c
        refine ⟨u, toV_le (ext_le hfresh) _ g1, ?_⟩
        rw [if_neg (by omega)]
        rw [Array.getElem?_toList, ← g2]; congr 1; omega
      · obtain ⟨u, g1, g2⟩ := toVs_get hu c
        refine ⟨u, toV_le (ext_le hfresh) _ g2, ?_⟩
        rw [if_pos (by omega), ← g1]; congr 1; omega
    · simp only [List.size_toArray, wr_length]; simp only [Array.length_toList]; rw [hcj]; omega
end
end Go.Kx

namespace Go.Kx
open Go.Sl

theorem andB_ok {a b : Bool} (h : andB a b = true) : a = true ∧ b = true := by cases a <;> first | (cases h; done) | exact ⟨rfl, h⟩
theorem upOk_ok {o j zb sz : Nat} {c : Bool} (h : upOk o j zb sz c = true) : c = true ∧ zb = sz ∧ o = j * sz := by
  obtain ⟨h1, h2⟩ := andB_ok h
  obtain ⟨h3, h4⟩ := andB_ok h2
  exact ⟨h1, Nat.eq_of_beq_eq_true h3, Nat.eq_of_beq_eq_true h4⟩
theorem grown_ok {sz n : Nat} {t : TV} {s s' : St} {v : V} (h : grown sz n t s = .ok v s') : v = sl0 n s.nx ∧ s' = ⟨s.nx + 1, s.h.set s.nx (.c (n * sz) sz t)⟩ := newB_ok h

section
variable {P : Program} {ty : TypeId} {x y : Operand} {x' y' : O}
theorem good_app {t el : TypeId} {i : TypeInfo} {z : Value} (ht : P.underlying t = some (.slice el)) (hi : P.info? el = some i) (hz : i.zero = some z) (hzs : z.cells.size = i.size) (hsz : 0 < i.size) (hby : 0 < i.bytes) (hx : OpdOk x x') (hy : OpdOk y y') :
    Good P (.call ⟨.builtin .append, [x, y].toArray, #[t, t]⟩) ty (.app i.size i.bytes x' y') := fun env s cl v s' h hc m E w0 R e d pos af gd => by
  obtain ⟨vx, h1, h2⟩ := oV_ok (show oV (eO x' env) (ap0 i.size i.bytes (eO y' env)) s = _ from h)
  obtain ⟨rx, a1, b1⟩ := eO_ok e hx h1
  obtain ⟨vy, h3, h4⟩ := oV_ok (show oV (eO y' env) (srcV i.size (ap1 i.size i.bytes vx)) s = _ from h2)
  obtain ⟨ry, a2, b2⟩ := eO_ok e hy h3
  obtain ⟨mm, l, h5, hsrc⟩ := srcV_ok (P := P) h4 b2
  obtain ⟨h6, h7⟩ := bR_ok (show bR (singles l) (apV i.size i.bytes vx mm l) s = _ from h5)
  intro ρ w rr H
  obtain ⟨us, hu, src⟩ := hsrc w0 w R H
  have hlen := toVs_len hu
  have hargs := evs_map [x, y] _ (fun x hx => rr x (by simpa [Op.operands, Call.operands] using hx)) (evs2 a1 a2)
  have main : ∀ (res : Value) (w' : World), (Builtin.append_ #[t, t] ty #[rx, ry]).run P w = .ok res w' → (∃ m', Le m m' ∧ toV m' v = some res ∧ Holds w0 w' (HC m' s' :: R)) →
      RunTo P ((execOp ρ ⟨d, .call ⟨.builtin .append, [x, y].toArray, #[t, t]⟩, ty, pos, af, gd⟩).run P w) fun val w' => ∃ cs', Holds w0 w' cs' ∧ KPost m R v s' val cs' := by
    intro res w' hrun ⟨m', k1, k2, k3⟩
    have lift : ∀ consts, (Go.builtin .append #[t, t] ty consts #[rx, ry]).run P w = .ok (.value res) w' := by
      intro consts
      show (do pure (Next.value (← Builtin.append_ #[t, t] ty #[rx, ry])) : Sem Next).run P w = _
      rw [run_bind, hrun]; rfl
    have : (execOp ρ ⟨d, .call ⟨.builtin .append, [x, y].toArray, #[t, t]⟩, ty, pos, af, gd⟩).run P w = .ok (.value res) w' := by
      simp only [List.map_cons, List.map_nil] at hargs
      simp [execOp, resolve, run_bind, run_pure, invoke, hargs, lift]
    rw [this]
    exact ⟨_, k3, m', k1, k2, rfl⟩
  have zlen : ∀ k, (Builtin.zeroCells z.cells k).size = k * i.size := fun k => by rw [size_zeroCells, hzs]
  cases vx <;> try cases h7
  · -- a slice
    rename_i b o n c
    obtain ⟨r, base, cap, hm, hcap, rfl⟩ := toV_sl b1
    obtain ⟨h8, h9⟩ := bR_ok (show bR (Nat.ble (Nat.mul (Nat.add n mm) i.bytes) bigB) (apSl1 i.size b o n c mm l) s = _ from h7)
    have hbd : (n + mm) * i.bytes ≤ 140737488355328 := Nat.le_of_ble_eq_true h8
    obtain ⟨blk, h10, h11⟩ := oB_ok (show oB (s.h.get b) (onC (apC i.size b o n mm c l)) s = _ from h9)
    obtain ⟨k, zb, tv, rfl, h12⟩ := onC_ok h11
    have room : ∀ (c : Cap), n + mm ≤ capOf cap c → putC b (o + n * i.size) l (.sl b o (n + mm) c) s = .ok v s' →
        ∃ w', (storeCells ⟨r, base + o + n * i.size, none⟩ us).run P w = .ok () w' ∧ toV m v = some (.slice (some ⟨r, base + o, none⟩) (n + mm) (capOf cap c)) ∧ Holds w0 w' (HC m s' :: R) := by
      intro c hr hp
      obtain ⟨_, rfl, k2, sz2, t2, g1, g2, rfl⟩ := putC_ok hp
      obtain ⟨w', q1, q2⟩ := HC.store (P := P) H g1 hm g2 h6 hu
      exact ⟨w', by rw [Nat.add_assoc]; exact q1, by simp only [toV, hm]; exact if_pos hr, q2⟩
    cases c with
    | ex cc =>
      have h13 : bE (Nat.ble (Nat.add n mm) cc) (putC b (Nat.add o (Nat.mul n i.size)) l (.sl b o (Nat.add n mm) (.ex cc))) (fun s => oL (getN tv (Nat.mul n i.size) o) (apFr i.size n mm l) s) s = .ok v s' := h12
      rcases bE_ok h13 with ⟨g1, g2⟩ | ⟨g1, g2⟩
      · have hr : n + mm ≤ cc := Nat.le_of_ble_eq_true g1
        obtain ⟨w', q1, q2, q3⟩ := room (.ex cc) hr g2
        exact main _ w' (run_append_room ht hi src hr ty q1) ⟨m, Le.refl m, q2, q3⟩
      · have hr : ¬ n + mm ≤ cc := fun hle => by
          have : Nat.ble (Nat.add n mm) cc = true := Nat.ble_eq_true_of_le hle
          rw [this] at g1; cases g1
        obtain ⟨l0, g3, g4⟩ := oL_ok g2
        obtain ⟨rfl, rfl⟩ := grown_ok (show grown i.size (n + mm) (ofL (appL l0 l)) s = _ from g4)
        obtain ⟨xs, f1, f2, f3⟩ := HC.cells H h10 hm g3
        have hcells := toVs_append f1 hu
        have hge := grownCap_ge w (n + mm) cc el
        obtain ⟨q1, q2, q3⟩ := HC.grown H (el := el) (sz := i.size) (n := n + mm) (cap := grownCap w (n + mm) cc el) (tv := ofL (appL l0 l)) (cells := xs ++ us) (rest := (Builtin.zeroCells z.cells (grownCap w (n + mm) cc el - (n + mm))).toList)
          (by rw [List.length_append, src.len, Nat.add_mul]; exact congrArg (· + _) f2) (by simp [zlen]) hge (fun j u hj => by
            rw [appL_eq] at hj
            obtain ⟨q, u', q1, q2⟩ := ofL_rel hcells j u hj
            refine ⟨?_, u', q1, by simpa using q2⟩
            rw [lenL_eq, ← toVs_len hcells, List.length_append, src.len] at q
            rw [Nat.add_mul]; have : xs.length = n * i.size := f2; omega)
        refine main _ _ (run_append_more ht hi hz src hr hcap ty (xs := xs) f2 (fun j u hj => by rw [addr_add]; exact f3 j u hj) hbd hby) ⟨_, q1, q2, ?_⟩
        have : ((xs ++ us) ++ (Builtin.zeroCells z.cells (grownCap w (n + mm) cc el - (n + mm))).toList).toArray = xs.toArray ++ us.toArray ++ Builtin.zeroCells z.cells (grownCap w (n + mm) cc el - (n + mm)) := by simp [← List.append_toArray]
        rw [this] at q3
        exact q3
    | up j =>
      obtain ⟨h13, h14⟩ := bR_ok (show bR (upOk o j zb i.size true) (apUp1 i.size b o n mm l k tv j) s = _ from h12)
      obtain ⟨_, rfl, ho⟩ := upOk_ok h13
      obtain ⟨ob, e1, arr, aty, rfl, e2, e3, e4⟩ := HC.at H h10 alive_c hm
      obtain ⟨e5, e6⟩ := e4 (by omega)
      have hj : n ≤ cap - j := hcap
      have grow : ∀ (tv' : TV), grown i.size (n + mm) tv' (kill b s) = .ok v s' →
          (∀ q u, tv'.get q = .ok u → q < (n + mm) * i.size ∧ ((q < n * i.size ∧ tv.get (o + q) = .ok u) ∨ (n * i.size ≤ q ∧ l[q - n * i.size]? = some u))) → (∃ xs : List Value, xs.length = n * i.size ∧ ∀ j x, xs[j]? = some x → w.cell? ⟨r, base + o + j, none⟩ = some x) → 0 < mm →
          RunTo P ((execOp ρ ⟨d, .call ⟨.builtin .append, [x, y].toArray, #[t, t]⟩, ty, pos, af, gd⟩).run P w) fun val w' => ∃ cs', Holds w0 w' cs' ∧ KPost m R v s' val cs' := by
        intro tv' hg htv ⟨xs, f2, f3⟩ hmm
        obtain ⟨rfl, rfl⟩ := grown_ok hg
        by_cases hr : n + mm ≤ cap - j
        · obtain ⟨w', q1, q2, q3, q4⟩ := HC.inPlace (P := P) H h10 hm h6 hu src.len ho (by omega) (by omega) hr htv
          exact main _ w' (run_append_room ht hi src hr ty q1) ⟨_, q2, q3, q4⟩
        · have hge := grownCap_ge w (n + mm) (cap - j) el
          obtain ⟨q1, q2, q3⟩ := HC.grown (HC.kill H b) (el := el) (sz := i.size) (n := n + mm) (cap := grownCap w (n + mm) (cap - j) el) (tv := tv') (cells := xs ++ us) (rest := (Builtin.zeroCells z.cells (grownCap w (n + mm) (cap - j) el - (n + mm))).toList)
            (by rw [List.length_append, src.len, Nat.add_mul]; exact congrArg (· + _) f2) (by simp [zlen]) hge (fun q u hq => by
              obtain ⟨g1, g2⟩ := htv q u hq
              refine ⟨g1, ?_⟩
              rcases g2 with ⟨g2, g3⟩ | ⟨g2, g3⟩
              · obtain ⟨u', g4, g5⟩ := HC.cell H h10 hm g3
                refine ⟨u', g4, ?_⟩
                have hq' : xs[q]? = some (xs[q]'(by rw [f2]; exact g2)) := List.getElem?_eq_getElem _
                have := f3 q _ hq'
                rw [Nat.add_assoc, g5] at this
                rw [List.getElem?_append_left (by rw [f2]; exact g2), hq', this]
              · obtain ⟨u', g4, g5⟩ := toVs_get hu g3
                exact ⟨u', g5, by rw [List.getElem?_append_right (by rw [f2]; exact g2), f2]; exact g4⟩)
          refine main _ _ (run_append_more ht hi hz src hr hcap ty (xs := xs) f2 (fun j u hj => by rw [addr_add]; exact f3 j u hj) hbd hby) ⟨_, q1, q2, ?_⟩
          have : ((xs ++ us) ++ (Builtin.zeroCells z.cells (grownCap w (n + mm) (cap - j) el - (n + mm))).toList).toArray = xs.toArray ++ us.toArray ++ Builtin.zeroCells z.cells (grownCap w (n + mm) (cap - j) el - (n + mm)) := by simp [← List.append_toArray]
          rw [this] at q3
          exact q3
      have h15 : bE (Nat.ble (o + (n + mm) * i.size) k) (putC b (o + n * i.size) l (.sl b o (n + mm) (.up j)))
        (bR (Nat.blt 0 mm) (bE (andB (Nat.beq o 0) (Nat.beq k (n * i.size))) (apGr0 i.size b n mm l tv) (apGr1 i.size b o n mm l tv))) s = .ok v s' := h14
      rcases bE_ok h15 with ⟨g1, g2⟩ | ⟨_, g2⟩
      · have hfit := Nat.le_of_ble_eq_true g1
        have hr : n + mm ≤ cap - j := by
          have : (j + (n + mm)) * i.size ≤ cap * i.size := by rw [Nat.add_mul, ← ho]; omega
          have := Nat.le_of_mul_le_mul_right this hsz
          omega
        obtain ⟨w', q1, q2, q3⟩ := room (.up j) hr g2
        exact main _ w' (run_append_room ht hi src hr ty q1) ⟨m, Le.refl m, q2, q3⟩
      · obtain ⟨g3, g4⟩ := bR_ok g2
        rw [Nat.blt_eq] at g3
        rcases bE_ok g4 with ⟨g5, g6⟩ | ⟨_, g6⟩
        · obtain ⟨g7, g8⟩ := andB_ok g5
          have ho0 : o = 0 := Nat.eq_of_beq_eq_true g7
          have hk : k = n * i.size := Nat.eq_of_beq_eq_true g8
          have hll : l.length = mm * i.size := by rw [← hlen, src.len]
          refine grow _ (show grown i.size (n + mm) (setN l tv (n * i.size)) (kill b s) = _ from g6) (fun q u hq => ?_) ⟨(arr.toList.drop (base + o)).take (n * i.size), ?_, fun q u hq => ?_⟩ g3
          · rcases setN_get _ _ _ _ _ hq with ⟨c1, c2, c3⟩ | ⟨c1, c2⟩
            · exact ⟨by rw [Nat.add_mul]; omega, .inr ⟨c1, c3⟩⟩
            · have := (e3 _ _ c2).1
              exact ⟨by rw [Nat.add_mul]; omega, .inl ⟨by omega, by rw [ho0, Nat.zero_add]; exact c2⟩⟩
          · rw [List.length_take, List.length_drop]; simp only [Array.length_toList]; omega
          · rw [List.getElem?_take] at hq
            split at hq
            · rw [List.getElem?_drop] at hq
              simpa [World.cell?, e1] using hq
            · cases hq
        · obtain ⟨l0, g7, g8⟩ := oL_ok (show oL (getN tv (n * i.size) o) (apGr2 i.size b n mm l) s = _ from g6)
          obtain ⟨g9, g10⟩ := bR_ok (show bR (singles l0) (grown i.size (n + mm) (ofL (appL l0 l))) (kill b s) = _ from g8)
          obtain ⟨p1, p2⟩ := getN_ok g7
          obtain ⟨xs, f1, f2, f3⟩ := HC.cells H h10 hm g7
          refine grow _ g10 (fun q u hq => ?_) ⟨xs, f2, f3⟩ g3
          have hq' := ofL_get hq
          rw [appL_eq] at hq'
          have hll : l.length = mm * i.size := by rw [← hlen, src.len]
          have hlt : q < (l0 ++ l).length := (List.getElem?_eq_some_iff.1 hq').1
          rw [List.length_append, p1, hll, ← Nat.add_mul] at hlt
          refine ⟨hlt, ?_⟩
          by_cases hc : q < n * i.size
          · rw [List.getElem?_append_left (by rw [p1]; exact hc)] at hq'
            exact .inl ⟨hc, p2 q u hq'⟩
          · rw [List.getElem?_append_right (by rw [p1]; omega), p1] at hq'
            exact .inr ⟨by omega, hq'⟩
  · -- an empty tail
    rename_i b o mv j
    obtain ⟨r, base, cap, hm, hcap, rfl⟩ := toV_se b1
    have h7' : apSe i.size i.bytes b o mv j mm l s = .ok v s' := h7
    cases mm with
    | zero =>
      cases h7'
      exact main _ w (run_append_nothing ht hi src ty (Nat.zero_le _)) ⟨m, Le.refl m, b1, H⟩
    | succ k' =>
      obtain ⟨h8, h9⟩ := bR_ok (show bR (Nat.ble ((k' + 1) * i.bytes) bigB) (apSe2 i.size b o mv j (k' + 1) l) s = _ from h7')
      have hbd : (k' + 1) * i.bytes ≤ 140737488355328 := Nat.le_of_ble_eq_true h8
      obtain ⟨blk, h10, h11⟩ := oB_ok (show oB (s.h.get b) (onC (apSe3 i.size b o mv j (k' + 1) l)) s = _ from h9)
      obtain ⟨k, zb, tv, rfl, h12⟩ := onC_ok h11
      obtain ⟨h13, h14⟩ := bR_ok (show bR (upOk (Nat.add o mv) j zb i.size true) (apSe4 i.size (k' + 1) b l) s = _ from h12)
      obtain ⟨_, rfl, ho⟩ := upOk_ok h13
      have ho : o + mv = j * i.size := ho
      obtain ⟨rfl, rfl⟩ := grown_ok (show grown i.size (k' + 1) (ofL l) (kill b s) = _ from h14)
      have hll : l.length = (k' + 1) * i.size := by rw [← hlen, src.len]
      by_cases hr : k' + 1 ≤ cap - j
      · have hne : ¬ cap = j := by omega
        rw [if_neg hne] at main
        obtain ⟨w', q1, q2, q3, q4⟩ := HC.inPlace (P := P) (n := 0) (mm := k' + 1) (tv := ofL l) H h10 hm h6 hu src.len ho (by omega) hcap (by omega) (fun q u hq => by
          have hq' := ofL_get hq
          have hlt : q < l.length := (List.getElem?_eq_some_iff.1 hq').1
          exact ⟨by rw [Nat.zero_add]; omega, .inr ⟨by omega, by simpa using hq'⟩⟩)
        have q1' : (storeCells ⟨r, (base + (o + mv)) + 0 * i.size, none⟩ us).run P w = .ok () w' := q1
        have hrun := run_append_room ht hi src (n := 0) (cap := cap - j) (by omega) ty q1'
        rw [Nat.zero_add] at hrun q3 q4
        exact main _ w' hrun ⟨_, q2, q3, q4⟩
      · have hge := grownCap_ge w (0 + (k' + 1)) (cap - j) el
        rw [Nat.zero_add] at hge
        obtain ⟨q1, q2, q3⟩ := HC.grown (HC.kill H b) (el := el) (sz := i.size) (n := k' + 1) (cap := grownCap w (k' + 1) (cap - j) el) (tv := ofL l) (cells := us) (rest := (Builtin.zeroCells z.cells (grownCap w (k' + 1) (cap - j) el - (k' + 1))).toList)
          src.len (by simp [zlen]) hge (fun q u hq => by
            obtain ⟨a, u', b, c⟩ := ofL_rel hu q u hq
            exact ⟨by rw [lenL_eq, hll] at a; exact a, u', b, by simpa using c⟩)
        have hrun := run_append_more ht hi hz src (r := r) (off := if cap = j then base + o else base + (o + mv)) (n := 0) (cap := cap - j) (by omega) (Nat.zero_le _) ty (xs := []) (by simp) (fun j u hj => by simp at hj) (by simpa using hbd) hby
        rw [Nat.zero_add] at hrun
        refine main _ _ hrun ⟨_, q1, q2, ?_⟩
        have : (us ++ (Builtin.zeroCells z.cells (grownCap w (k' + 1) (cap - j) el - (k' + 1))).toList).toArray = [].toArray ++ us.toArray ++ Builtin.zeroCells z.cells (grownCap w (k' + 1) (cap - j) el - (k' + 1)) := by simp [← List.append_toArray]
        rw [this] at q3
        exact q3
  · -- nothing
    cases b1
    have h7' : apNs i.size i.bytes mm l s = .ok v s' := h7
    cases mm with
    | zero =>
      cases h7'
      exact main _ w (run_append_nothing ht hi src ty (Nat.le_refl _)) ⟨m, Le.refl m, rfl, H⟩
    | succ k' =>
      obtain ⟨h8, h9⟩ := bR_ok (show bR (Nat.ble ((k' + 1) * i.bytes) bigB) (grown i.size (k' + 1) (ofL l)) s = _ from h7')
      have hbd : (k' + 1) * i.bytes ≤ 140737488355328 := Nat.le_of_ble_eq_true h8
      obtain ⟨rfl, rfl⟩ := grown_ok h9
      have hll : l.length = (k' + 1) * i.size := by rw [← hlen, src.len]
      have hge := grownCap_ge w (k' + 1) 0 el
      obtain ⟨q1, q2, q3⟩ := HC.grown H (el := el) (sz := i.size) (n := k' + 1) (cap := grownCap w (k' + 1) 0 el) (tv := ofL l) (cells := us) (rest := (Builtin.zeroCells z.cells (grownCap w (k' + 1) 0 el - (k' + 1))).toList)
        src.len (by simp [zlen]) hge (fun q u hq => by
          obtain ⟨a, u', b, c⟩ := ofL_rel hu q u hq
          exact ⟨by rw [lenL_eq, hll] at a; exact a, u', b, by simpa using c⟩)
      refine main _ _ (run_append_none ht hi hz src (by omega) ty hbd hby) ⟨_, q1, q2, ?_⟩
      have : (us ++ (Builtin.zeroCells z.cells (grownCap w (k' + 1) 0 el - (k' + 1))).toList).toArray = us.toArray ++ Builtin.zeroCells z.cells (grownCap w (k' + 1) 0 el - (k' + 1)) := by simp [← List.append_toArray]
      rw [this] at q3
      exact q3
end
end Go.Kx

namespace Go.Kx
open Go.Sl

theorem onAnyK_ok {k : IntKind → Int → St → R} {v u : V} {s s' : St} (h : onAnyK k v s = .ok u s') : ∃ kd n, (∀ m, toV m v = some (.int kd n)) ∧ k kd n s = .ok u s' := by
  cases v <;> first | exact ⟨.i64, _, fun _ => rfl, h⟩ | exact ⟨_, _, fun _ => rfl, h⟩ | cases h
theorem onAny_ok' {k : Int → St → R} {v u : V} {s s' : St} (h : onAny k v s = .ok u s') : ∃ kd n, (∀ m, toV m v = some (.int kd n)) ∧ k n s = .ok u s' := by
  cases v <;> first | exact ⟨.i64, _, fun _ => rfl, h⟩ | exact ⟨_, _, fun _ => rfl, h⟩ | cases h
theorem neg_true {b : Bool} (h : neg b = true) : b = false := by cases b <;> first | rfl | cases h
theorem nz_of {b : Int} (h : neg (eqI b (.ofNat 0)) = true) : b ≠ 0 := by
  have := neg_true h
  rw [eqI_eq] at this
  simpa using this
def btB : Bt → BinOp
  | .and => .and
  | .or => .or
  | .xor => .xor
section
variable {P : Program} {ty : TypeId} {x y z : Operand} {x' y' z' : O}
theorem eAny2_ok {k : IntKind → Int → Int → St → R} {env : KEnv} {s s' : St} {v : V} (h : eAny2 k x' y' env s = .ok v s') {m : Mp} {E : Env} (e : ER m env E) (hx : OpdOk x x') (hy : OpdOk y y') :
    ∃ kd a b, ev E x = some (.int kd a) ∧ ev E y = some (.int kd b) ∧ k kd a b s = .ok v s' := by
  obtain ⟨u, h1, h2⟩ := oV_ok h
  obtain ⟨_, a1, b1⟩ := eO_ok e hx h1
  obtain ⟨kd, n, c1, h3⟩ := onAnyK_ok h2
  obtain ⟨u2, h4, h5⟩ := oV_ok (show oV (eO y' env) (onAnyK (fun kd' b s => bR (Nat.beq (kN kd) (kN kd')) (k kd n b) s)) s = _ from h3)
  obtain ⟨_, a2, b2⟩ := eO_ok e hy h4
  obtain ⟨kd', n', c2, h6⟩ := onAnyK_ok h5
  obtain ⟨h7, h8⟩ := bR_ok h6
  obtain rfl := kN_inj h7
  rw [c1] at b1; rw [c2] at b2; cases b1; cases b2
  exact ⟨kd, n, n', a1, a2, h8⟩
theorem good_quo {t u : TypeId} (hx : OpdOk x x') (hy : OpdOk y y') : Good P (.binOp .quo t x y u) ty (.q (.quo x' y')) := fun env s cl v s' h hc m E w0 R e d pos af gd => by
  obtain ⟨kd, a, b, h1, h2, h3⟩ := eAny2_ok (show eAny2 quo2 x' y' env s = _ from h) e hx hy
  obtain ⟨h4, h5⟩ := bR_ok (show bR (neg (eqI b (.ofNat 0))) (quo3 kd a b) s = _ from h3)
  cases h5
  exact OpT.quo (KPost.same (mkI_V m _ _)) h1 h2 (nz_of h4)
theorem good_rem {t u : TypeId} (hx : OpdOk x x') (hy : OpdOk y y') : Good P (.binOp .rem t x y u) ty (.q (.rem x' y')) := fun env s cl v s' h hc m E w0 R e d pos af gd => by
  obtain ⟨kd, a, b, h1, h2, h3⟩ := eAny2_ok (show eAny2 rem2 x' y' env s = _ from h) e hx hy
  obtain ⟨h4, h5⟩ := bR_ok (show bR (neg (eqI b (.ofNat 0))) (rem3 kd a b) s = _ from h3)
  cases h5
  exact OpT.rem (KPost.same (mkI_V m _ _)) h1 h2 (nz_of h4)
theorem good_bits {o : Bt} {t u : TypeId} (hx : OpdOk x x') (hy : OpdOk y y') : Good P (.binOp (btB o) t x y u) ty (.q (.bits o x' y')) := fun env s cl v s' h hc m E w0 R e d pos af gd => by
  obtain ⟨kd, a, b, h1, h2, h3⟩ := eAny2_ok (show eAny2 (bits2 o) x' y' env s = _ from h) e hx hy
  cases h3
  exact OpT.bits (KPost.same (mkI_V m _ _)) h1 h2 (by cases o <;> rfl)
theorem eSh2_ok {k : IntKind → Int → Int → St → R} {env : KEnv} {s s' : St} {v : V} (h : eSh2 k x' y' env s = .ok v s') {m : Mp} {E : Env} (e : ER m env E) (hx : OpdOk x x') (hy : OpdOk y y') :
    ∃ kd kd' a b, ev E x = some (.int kd a) ∧ ev E y = some (.int kd' b) ∧ k kd a b s = .ok v s' := by
  obtain ⟨u, h1, h2⟩ := oV_ok h
  obtain ⟨_, a1, b1⟩ := eO_ok e hx h1
  obtain ⟨kd, n, c1, h3⟩ := onAnyK_ok h2
  obtain ⟨u2, h4, h5⟩ := oV_ok (show oV (eO y' env) (onAny (k kd n)) s = _ from h3)
  obtain ⟨_, a2, b2⟩ := eO_ok e hy h4
  obtain ⟨kd', n', c2, h6⟩ := onAny_ok' h5
  rw [c1] at b1; rw [c2] at b2; cases b1; cases b2
  exact ⟨kd, kd', n, n', a1, a2, h6⟩
theorem good_shl {t u : TypeId} (hx : OpdOk x x') (hy : OpdOk y y') : Good P (.binOp .shl t x y u) ty (.q (.shl x' y')) := fun env s cl v s' h hc m E w0 R e d pos af gd => by
  obtain ⟨kd, kd', a, b, h1, h2, h3⟩ := eSh2_ok (show eSh2 shl2 x' y' env s = _ from h) e hx hy
  obtain ⟨n, h4, h5⟩ := oN_ok (show oN (nat b) (shl3 kd a) s = _ from h3)
  obtain rfl := nat_ok h4
  cases h5
  exact OpT.shl (by rw [Int.toNat_natCast]; exact KPost.same (mkI_V m _ _)) h1 h2 (by omega)
theorem good_shr {t u : TypeId} (hx : OpdOk x x') (hy : OpdOk y y') : Good P (.binOp .shr t x y u) ty (.q (.shr x' y')) := fun env s cl v s' h hc m E w0 R e d pos af gd => by
  obtain ⟨kd, kd', a, b, h1, h2, h3⟩ := eSh2_ok (show eSh2 shr2 x' y' env s = _ from h) e hx hy
  obtain ⟨n, h4, h5⟩ := oN_ok (show oN (nat b) (shr3 kd a) s = _ from h3)
  obtain rfl := nat_ok h4
  cases h5
  exact OpT.shr (by rw [Int.toNat_natCast]; exact KPost.same (mkI_V m _ _)) h1 h2 (by omega)
theorem good_fcm {o : Cm} {t u : TypeId} (hx : OpdOk x x') (hy : OpdOk y y') : Good P (.binOp (cmB o) t x y u) ty (.q (.fcm o x' y')) := fun env s cl v s' h hc m E w0 R e d pos af gd => by
  obtain ⟨_, h1, h2⟩ := oV_ok (show oV (eO x' env) (onF (fcm1 o (eO y' env))) s = _ from h)
  obtain ⟨_, a, b⟩ := eO_ok e hx h1
  obtain ⟨i, rfl, h3⟩ := onF_ok h2
  obtain ⟨_, h4, h5⟩ := oV_ok (show oV (eO y' env) (onF (fcm2 o i)) s = _ from h3)
  obtain ⟨_, a2, b2⟩ := eO_ok e hy h4
  obtain ⟨j, rfl, h6⟩ := onF_ok h5
  cases h6; cases b; cases b2
  exact OpT.fcmp (KPost.same rfl) a a2 (by cases o <;> rfl)
theorem good_neg {t : TypeId} (hx : OpdOk x x') : Good P (.unOp .neg t x) ty (.q (.neg x')) := fun env s cl v s' h hc m E w0 R e d pos af gd => by
  obtain ⟨_, h1, h2⟩ := oV_ok (show oV (eO x' env) (onAnyK neg1) s = _ from h)
  obtain ⟨_, a, b⟩ := eO_ok e hx h1
  obtain ⟨kd, n, c, h3⟩ := onAnyK_ok h2
  rw [c] at b; cases b; cases h3
  exact OpT.neg (KPost.same (mkI_V m _ _)) a
theorem good_cii {st t : TypeId} {j k : IntKind} (hs : P.underlying st = some (.int j)) (ht : P.underlying t = some (.int k)) (hx : OpdOk x x') : Good P (.convert st t x) ty (.q (.cii k x')) := fun env s cl v s' h hc m E w0 R e d pos af gd => by
  obtain ⟨_, h1, h2⟩ := oV_ok (show oV (eO x' env) (onAny (cii1 k)) s = _ from h)
  obtain ⟨_, a, b⟩ := eO_ok e hx h1
  obtain ⟨kd, n, c, h3⟩ := onAny_ok' h2
  rw [c] at b; cases b; cases h3
  exact OpT.conv_ii (hs := ⟨hs⟩) (ht := ⟨ht⟩) (KPost.same (mkI_V m _ _)) a
theorem good_cif {st t : TypeId} {j : IntKind} (hs : P.underlying st = some (.int j)) (ht : P.underlying t = some (.float .f64)) (hx : OpdOk x x') : Good P (.convert st t x) ty (.q (.cif x')) := fun env s cl v s' h hc m E w0 R e d pos af gd => by
  obtain ⟨_, h1, h2⟩ := oV_ok (show oV (eO x' env) (onAny cif1) s = _ from h)
  obtain ⟨_, a, b⟩ := eO_ok e hx h1
  obtain ⟨kd, n, c, h3⟩ := onAny_ok' h2
  rw [c] at b; cases b; cases h3
  exact OpT.conv_if (hs := ⟨hs⟩) (ht := ⟨ht⟩) (KPost.same rfl) a
theorem good_cff {st t : TypeId} (hs : P.underlying st = some (.float .f64)) (ht : P.underlying t = some (.float .f64)) (hx : OpdOk x x') : Good P (.convert st t x) ty (.q (.cff x')) := fun env s cl v s' h hc m E w0 R e d pos af gd => by
  obtain ⟨_, h1, h2⟩ := oV_ok (show oV (eO x' env) (onF cff1) s = _ from h)
  obtain ⟨_, a, b⟩ := eO_ok e hx h1
  obtain ⟨n, rfl, h3⟩ := onF_ok h2
  cases b; cases h3
  exact OpT.conv_ff (hs := ⟨hs⟩) (ht := ⟨ht⟩) (KPost.same rfl) a
theorem good_cfi {st t : TypeId} {k : IntKind} (hs : P.underlying st = some (.float .f64)) (ht : P.underlying t = some (.int k)) (hx : OpdOk x x') : Good P (.convert st t x) ty (.q (.cfi k x')) := fun env s cl v s' h hc m E w0 R e d pos af gd => by
  obtain ⟨_, h1, h2⟩ := oV_ok (show oV (eO x' env) (onF (cfi1 k)) s = _ from h)
  obtain ⟨_, a, b⟩ := eO_ok e hx h1
  obtain ⟨n, rfl, h3⟩ := onF_ok h2
  cases b
  have h3' : cfi2 ((FloatKind.f64.decode n).toInt .zero) k s = .ok v s' := h3
  cases hn : (FloatKind.f64.decode n).toInt .zero with
  | none => rw [hn] at h3'; cases h3'
  | some q =>
    rw [hn] at h3'
    obtain ⟨h4, h5⟩ := bR_ok (show bR (andB (neg (ltI q k.min)) (neg (ltI k.max q))) (cfi3 k q) s = _ from h3')
    obtain ⟨h6, h7⟩ := andB_ok h4
    cases h5
    have h6' := neg_true h6
    have h7' := neg_true h7
    rw [ltI_eq] at h6' h7'
    simp only [decide_eq_false_iff_not, Int.not_lt] at h6' h7'
    exact OpT.conv_fi (hs := ⟨hs⟩) (ht := ⟨ht⟩) (KPost.same (mkI_V m _ _)) a hn h6' h7'
theorem good_cplx {ts : Array TypeId} (hx : OpdOk x x') (hy : OpdOk y y') : Good P (.call ⟨.builtin .complex, [x, y].toArray, ts⟩) ty (.q (.cplx x' y')) := fun env s cl v s' h hc m E w0 R e d pos af gd => by
  obtain ⟨_, h1, h2⟩ := oV_ok (show oV (eO x' env) (onF (cplx1 (eO y' env))) s = _ from h)
  obtain ⟨_, a, b⟩ := eO_ok e hx h1
  obtain ⟨i, rfl, h3⟩ := onF_ok h2
  obtain ⟨_, h4, h5⟩ := oV_ok (show oV (eO y' env) (onF (cplx2 i)) s = _ from h3)
  obtain ⟨_, a2, b2⟩ := eO_ok e hy h4
  obtain ⟨j, rfl, h6⟩ := onF_ok h5
  cases h6; cases b; cases b2
  exact OpT.complex (KPost.same rfl) (evs2 a a2)
theorem good_min {ts : Array TypeId} (hx : OpdOk x x') (hy : OpdOk y y') : Good P (.call ⟨.builtin .min, [x, y].toArray, ts⟩) ty (.q (.min x' y')) := fun env s cl v s' h hc m E w0 R e d pos af gd => by
  obtain ⟨_, h1, h2⟩ := oV_ok (show oV (eO x' env) (onI (i1 min2 (eO y' env))) s = _ from h)
  obtain ⟨_, a, b⟩ := eO_ok e hx h1
  obtain ⟨i, rfl, h3⟩ := onI_ok h2
  obtain ⟨_, h4, h5⟩ := oV_ok (show oV (eO y' env) (onI (min2 i)) s = _ from h3)
  obtain ⟨_, a2, b2⟩ := eO_ok e hy h4
  obtain ⟨j, rfl, h6⟩ := onI_ok h5
  cases h6; cases b; cases b2
  refine OpT.min (KPost.same ?_) (evs2 a a2)
  show some (Value.int .i64 (@Bool.rec (fun _ => Int) i j (ltI j i))) = _
  rw [ltI_eq]
  by_cases hh : j < i <;> simp [hh]
theorem good_max {ts : Array TypeId} (hx : OpdOk x x') (hy : OpdOk y y') : Good P (.call ⟨.builtin .max, [x, y].toArray, ts⟩) ty (.q (.max x' y')) := fun env s cl v s' h hc m E w0 R e d pos af gd => by
  obtain ⟨_, h1, h2⟩ := oV_ok (show oV (eO x' env) (onI (i1 max2 (eO y' env))) s = _ from h)
  obtain ⟨_, a, b⟩ := eO_ok e hx h1
  obtain ⟨i, rfl, h3⟩ := onI_ok h2
  obtain ⟨_, h4, h5⟩ := oV_ok (show oV (eO y' env) (onI (max2 i)) s = _ from h3)
  obtain ⟨_, a2, b2⟩ := eO_ok e hy h4
  obtain ⟨j, rfl, h6⟩ := onI_ok h5
  cases h6; cases b; cases b2
  refine OpT.max (KPost.same ?_) (evs2 a a2)
  show some (Value.int .i64 (@Bool.rec (fun _ => Int) i j (ltI i j))) = _
  rw [ltI_eq]
  by_cases hh : i < j <;> simp [hh]
theorem good_fld {t : TypeId} {i off : Nat} {ft : TypeId} (hf : fldOf P t i = some (off, ft)) (ha : aggOf P ft = some false) (hx : OpdOk x x') : Good P (.field t x i) ty (.q (.fld x' off)) := fun env s cl v s' h hc m E w0 R e d pos af gd => by
  obtain ⟨_, h1, h2⟩ := oV_ok (show oV (eO x' env) (onA (extT off)) s = _ from h)
  obtain ⟨_, a, b⟩ := eO_ok e hx h1
  obtain ⟨l, rfl, h3⟩ := onA_ok h2
  obtain ⟨us, b2, rfl⟩ := toV_a b
  obtain ⟨u, h4, h5⟩ := oV_ok (show oV (nth l off) Kx.R.ok s = _ from h3)
  cases h5
  obtain ⟨w, h6, h7⟩ := toVs_get b2 (nth_of h4)
  exact OpT.field1 (hf := ⟨hf⟩) (ha := ⟨ha⟩) (KPost.same h7) a h6
theorem toVs_drop {m : Mp} : ∀ (k : Nat) {l : List V} {us : List Value}, toVs m l = some us → toVs m (l.drop k) = some (us.drop k)
  | 0, _, _, h => by simpa using h
  | k + 1, [], us, h => by simp [toVs] at h; subst h; simp [toVs]
  | k + 1, v :: l, us, h => by
    obtain ⟨u, r, _, h2, rfl⟩ := toVs_cons.1 h
    simpa using toVs_drop k h2
theorem toVs_take {m : Mp} : ∀ (k : Nat) {l : List V} {us : List Value}, toVs m l = some us → toVs m (l.take k) = some (us.take k)
  | 0, _, _, h => by simp [toVs]
  | k + 1, [], us, h => by simp [toVs] at h; subst h; simp [toVs]
  | k + 1, v :: l, us, h => by
    obtain ⟨u, r, h1, h2, rfl⟩ := toVs_cons.1 h
    simp only [List.take_succ_cons]
    exact toVs_cons.2 ⟨u, _, h1, toVs_take k h2, rfl⟩
theorem good_fldn {t : TypeId} {i off n : Nat} {ft : TypeId} (hf : fldOf P t i = some (off, ft)) (ha : aggOf P ft = some true) (hs : (P.info? ft).map (·.size) = some n) (hx : OpdOk x x') : Good P (.field t x i) ty (.q (.fldn x' off n)) := fun env s cl v s' h hc m E w0 R e d pos af gd => by
  obtain ⟨_, h1, h2⟩ := oV_ok (show oV (eO x' env) (onA (fldn1 off n)) s = _ from h)
  obtain ⟨_, a, b⟩ := eO_ok e hx h1
  obtain ⟨l, rfl, h3⟩ := onA_ok h2
  obtain ⟨us, b2, rfl⟩ := toV_a b
  cases h3
  exact OpT.fieldN (hf := ⟨hf⟩) (ha := ⟨ha⟩) (hs := ⟨hs⟩) (KPost.same (by simp only [toV, toVs_take n (toVs_drop off b2)])) a rfl
theorem good_iar {t el : TypeId} {n len : Nat} (ht : P.underlying t = some (.array len el)) (hs : (P.info? el).map (·.size) = some n) (hx : OpdOk x x') (hy : OpdOk y y') : Good P (.indexAddr t x y) ty (.q (.iar x' y' n len)) := fun env s cl v s' h hc m E w0 R e d pos af gd => by
  obtain ⟨_, h1, h2⟩ := oV_ok (show oV (eO x' env) (onP (iar0 n len (eO y' env))) s = _ from h)
  obtain ⟨_, a, b⟩ := eO_ok e hx h1
  obtain ⟨bb, o, rfl, h3⟩ := onP_ok h2
  obtain ⟨_, h4, h5⟩ := oV_ok (show oV (eO y' env) (onI (ix1 n bb o len)) s = _ from h3)
  obtain ⟨_, a2, b2⟩ := eO_ok e hy h4
  obtain ⟨i, rfl, h6⟩ := onI_ok h5
  obtain ⟨k, rfl, hk, rfl, rfl⟩ := ix1_ok h6
  obtain ⟨r, base, cap, hm, rfl⟩ := toV_p b
  cases b2
  refine OpT.indexAddr_arr (ht := ⟨ht⟩) (hs := ⟨hs⟩) (KPost.same ?_) a a2 (by omega) (by omega)
  simp only [toV, hm, Int.toNat_natCast, Nat.add_assoc]
theorem bytes_get {l : List Nat} {i c : Nat} (h : l[i]? = some c) : (bytes l)[i]? = some (UInt8.ofNat c) := by
  have hlt : i < l.length := (List.getElem?_eq_some_iff.1 h).1
  have he : l[i] = c := (List.getElem?_eq_some_iff.1 h).2
  have hsz : i < (bytes l).size := by simp [bytes, ByteArray.size, hlt]
  rw [getElem?_pos (bytes l) i hsz]
  have : (bytes l)[i] = (bytes l).data[i]'hsz := rfl
  rw [this]
  simp [bytes, he]
end
end Go.Kx

namespace Go.Kx
open Go.Sl

section
variable {P : Program} {ty : TypeId} {x y z : Operand} {x' y' z' : O}
theorem vNat_ok {v : V} {n : Nat} (h : vNat v = .ok n) : v = .i n := by
  cases v <;> first | (rw [nat_ok (show nat _ = _ from h)]; done) | cases h
theorem oNat_ok {o : OV} {n : Nat} (h : oNat o = .ok n) : o = .ok (.i n) := by
  cases o with
  | no => cases h
  | ok v => rw [vNat_ok h]
/-- A bound of a slice expression. -/
inductive BndOk : Option Operand → OO → Prop
  | no : BndOk none .no
  | ok {x : Operand} {y : O} : OpdOk x y → BndOk (some x) (.ok y)
theorem bnd_ok {m : Mp} {env : KEnv} {E : Env} (e : ER m env E) {lo : Option Operand} {lo' : OO} (h : BndOk lo lo') {d n : Nat} (hb : Kx.bnd lo' d env = .ok n) : Sl.bnd E (d : Int) lo = some (n : Int) ∧ (lo = none → n = d) := by
  cases h with
  | no => cases hb; exact ⟨rfl, fun _ => rfl⟩
  | ok hx =>
    rename_i xx yy
    have hb' : oNat (eO yy env) = .ok n := hb
    obtain ⟨u, a, b⟩ := eO_ok e hx (oNat_ok hb')
    cases b
    exact ⟨by simp [Sl.bnd, a], fun h => by cases h⟩
theorem slUpA_ok {b o n l h j : Nat} {s s' : St} {v : V} (e : slUpA b o n l h j s = .ok v s') : v = .sl b (o + l * n) (h - l) (.up (j + l)) ∧ s' = s := by cases e; exact ⟨rfl, rfl⟩
theorem slEx_ok {b o n l h cc : Nat} {s s' : St} {v : V} (e : slEx b o n l h cc s = .ok v s') : s' = s ∧ ((cc = l ∧ v = .sl b o 0 (.ex 0)) ∨ (cc ≠ l ∧ v = .sl b (o + l * n) (h - l) (.ex (cc - l)))) := by
  rcases bE_ok e with ⟨a, e⟩ | ⟨a, e⟩
  · cases e; exact ⟨rfl, .inl ⟨Nat.eq_of_beq_eq_true a, rfl⟩⟩
  · cases e
    refine ⟨rfl, .inr ⟨fun h => ?_, rfl⟩⟩
    rw [h, Nat.beq_refl] at a; cases a
theorem good_sli {t el : TypeId} {n : Nat} {lo hi : Option Operand} {lo' hi' : OO} (ht : P.underlying t = some (.slice el)) (hs : (P.info? el).map (·.size) = some n) (hsz : 0 < n) (hx : OpdOk x x') (hlo : BndOk lo lo') (hhi : BndOk hi hi') : Good P (.slice t x lo hi none) ty (.q (.sli x' n lo' hi')) := fun env s cl v s' h hc m E w0 R e d pos af gd => by
  obtain ⟨u, h1, h2⟩ := oV_ok (show oV (eO x' env) (slV n lo' hi' env) s = _ from h)
  obtain ⟨_, a, b⟩ := eO_ok e hx h1
  have zero : ∀ (vv : V) (A : Option Addr) (C : Nat), toV m vv = some (.slice A 0 C) → ev E x = some (.slice A 0 C) → slZ lo' hi' env vv s = .ok v s' → OpT P w0 ⟨d, .slice t x lo hi none, ty, pos, af, gd⟩ E (HC m s :: R) (KPost m R v s') := by
    intro vv A C hv ha hz
    obtain ⟨l, h3, h4⟩ := oN_ok (show oN (Kx.bnd lo' 0 env) (slZ1 hi' env vv) s = _ from hz)
    obtain ⟨hh, h5, h6⟩ := oN_ok (show oN (Kx.bnd hi' 0 env) (slZ2 vv l) s = _ from h4)
    obtain ⟨h7, h8⟩ := bR_ok (show bR (andB (Nat.beq l 0) (Nat.beq hh 0)) (Kx.R.ok vv) s = _ from h6)
    obtain ⟨h9, h10⟩ := andB_ok h7
    have e1 : l = 0 := Nat.eq_of_beq_eq_true h9
    have e2 : hh = 0 := Nat.eq_of_beq_eq_true h10
    subst e1; subst e2
    cases h8
    obtain ⟨b1, _⟩ := bnd_ok e hlo h3
    obtain ⟨b2, _⟩ := bnd_ok e hhi h5
    refine OpT.slice (ht := ⟨ht⟩) (hs := ⟨hs⟩) (len := 0) (cap := C) (a := A) (l := 0) (h := 0) (KPost.same ?_) ha b1 b2 (by omega) (by omega) (by omega) (fun _ => by omega)
    rw [hv]
    cases A with
    | none => simp
    | some A => simp [Addr.add]
  cases u <;> try cases h2
  · rename_i b' o len c
    obtain ⟨r, base, cap, hm, hcap, rfl⟩ := toV_sl b
    obtain ⟨l, h3, h4⟩ := oN_ok (show oN (Kx.bnd lo' 0 env) (slH hi' env b' o n len c) s = _ from h2)
    obtain ⟨hh, h5, h6⟩ := oN_ok (show oN (Kx.bnd hi' len env) (slLH b' o n len c l) s = _ from h4)
    obtain ⟨h7, h8⟩ := bR_ok (show bR (Nat.ble l hh) (bE (Nat.ble hh len) (slIn b' o n len l hh c) (slOv b' o n l hh c)) s = _ from h6)
    have hlh : l ≤ hh := Nat.le_of_ble_eq_true h7
    obtain ⟨b1, _⟩ := bnd_ok e hlo h3
    obtain ⟨b2, b3⟩ := bnd_ok e hhi h5
    have fin : ∀ (vv : V), hh ≤ capOf cap c → s' = s → v = vv → toV m vv = some (.slice (if capOf cap c = l then some ⟨r, base + o, none⟩ else some ⟨r, base + o + l * n, none⟩) (hh - l) (capOf cap c - l)) →
        OpT P w0 ⟨d, .slice t x lo hi none, ty, pos, af, gd⟩ E (HC m s :: R) (KPost m R v s') := by
      intro vv hle hs' hv hvv
      subst hs'; subst hv
      refine OpT.slice (ht := ⟨ht⟩) (hs := ⟨hs⟩) (l := l) (h := hh) (KPost.same ?_) a b1 b2 (by omega) (by omega) (by omega) (fun _ => by omega)
      rw [hvv]
      simp only [Int.toNat_natCast, Option.map_some, addr_add]
    rcases bE_ok h8 with ⟨g1, g2⟩ | ⟨_, g2⟩
    · have hle : hh ≤ len := Nat.le_of_ble_eq_true g1
      cases c with
      | ex cc =>
        have hcap' : len ≤ cc := hcap
        obtain ⟨rfl, g3⟩ := slEx_ok (show slEx b' o n l hh cc s = _ from g2)
        rcases g3 with ⟨rfl, rfl⟩ | ⟨g4, rfl⟩
        · refine fin _ (by show hh ≤ cc; omega) rfl rfl ?_
          simp only [toV, hm, capOf, if_true, Nat.sub_self, Nat.le_refl]
          rw [show hh - cc = 0 by omega]
        · refine fin _ (by show hh ≤ cc; omega) rfl rfl ?_
          simp only [toV, hm, capOf, if_neg g4, Nat.add_assoc]
          exact if_pos (by omega)
      | up j =>
        have hcap' : len ≤ cap - j := hcap
        have g2' : bE (Nat.blt l len) (slUpA b' o n l hh j) (bE (Nat.beq l 0) (slUpA b' o n l hh j) (slUpB b' o n l j)) s = .ok v s' := g2
        rcases bE_ok g2' with ⟨g3, g4⟩ | ⟨g3, g4⟩
        · rw [Nat.blt_eq] at g3
          obtain ⟨rfl, rfl⟩ := slUpA_ok g4
          refine fin _ (by show hh ≤ cap - j; omega) rfl rfl ?_
          have hne : ¬ cap - j = l := by omega
          simp only [toV, hm, capOf, if_neg hne, Nat.add_assoc, ← Nat.sub_sub]
          exact if_pos (by omega)
        · have g3' : ¬ l < len := fun hlt => by rw [show Nat.blt l len = true by rw [Nat.blt_eq]; exact hlt] at g3; cases g3
          rcases bE_ok g4 with ⟨g5, g6⟩ | ⟨g5, g6⟩
          · have hl0 : l = 0 := Nat.eq_of_beq_eq_true g5
            subst hl0
            obtain ⟨rfl, rfl⟩ := slUpA_ok g6
            refine fin _ (by show hh ≤ cap - j; omega) rfl rfl ?_
            simp only [toV, hm, capOf, Nat.zero_mul, Nat.add_zero, ite_self, Nat.sub_zero]
            exact if_pos (by omega)
          · have hl0 : l ≠ 0 := fun hl => by rw [hl] at g5; cases g5
            cases g6
            refine fin _ (by show hh ≤ cap - j; omega) rfl rfl ?_
            have hj : j + l ≤ cap := by omega
            rw [show hh - l = 0 by omega]
            show toV m (.se b' o (l * n) (j + l)) = _
            simp only [toV, hm, capOf, if_pos hj, ← Nat.sub_sub]
            by_cases hc : cap = j + l
            · have hq : cap - j = l := by omega
              simp [hc]
            · have hq : ¬ cap - j = l := by omega
              simp [hc, hq, Nat.add_assoc]
    · cases c with
      | ex cc => cases g2
      | up j =>
        obtain ⟨blk, g3, g4⟩ := oB_ok (show oB (s.h.get b') (onC (slOv2 b' o n l hh j)) s = _ from g2)
        obtain ⟨k, zb, tv, rfl, g5⟩ := onC_ok g4
        obtain ⟨g6, g7⟩ := bR_ok (show bR (andB (upOk o j zb n (Nat.ble (Nat.add o (Nat.mul hh n)) k)) (Nat.blt l hh)) (slUpA b' o n l hh j) s = _ from g5)
        obtain ⟨g8, g9⟩ := andB_ok g6
        obtain ⟨g10, rfl, ho⟩ := upOk_ok g8
        have hfit : o + hh * zb ≤ k := Nat.le_of_ble_eq_true g10
        rw [Nat.blt_eq] at g9
        obtain ⟨rfl, rfl⟩ := slUpA_ok g7
        intro ρ w rr H
        obtain ⟨ob, e1, arr, aty, rfl, e2, e3, e4⟩ := HC.at H g3 alive_c hm
        have hroom : hh ≤ cap - j := by
          obtain ⟨_, e6⟩ := e4 (by omega)
          have : (j + hh) * zb ≤ cap * zb := by rw [Nat.add_mul, ← ho]; omega
          have := Nat.le_of_mul_le_mul_right this hsz
          omega
        refine fin _ hroom rfl rfl ?_ ρ w rr H
        have hne : ¬ cap - j = l := by omega
        simp only [toV, hm, capOf, if_neg hne, Nat.add_assoc, ← Nat.sub_sub]
        exact if_pos (by omega)
  · rename_i b' o mv j
    obtain ⟨r, base, cap, hm, _, rfl⟩ := toV_se b
    exact zero _ _ _ b a h2
  · cases b
    exact zero .ns none 0 rfl a h2
end
end Go.Kx

namespace Go.Kx
open Go.Sl

section
variable {P : Program} {ty : TypeId} {x y z : Operand} {x' y' z' : O}
theorem good_sl0 {t el : TypeId} {n : Nat} {k k' : IntKind} (ht : P.underlying t = some (.slice el)) (hs : (P.info? el).map (·.size) = some n) (hx : OpdOk x x') : Good P (.slice t x none (some (.const (.int k 0))) (some (.const (.int k' 0)))) ty (.q (.sl0 x')) := fun env s cl v s' h hc m E w0 R e d pos af gd => by
  obtain ⟨u, h1, h2⟩ := oV_ok (show oV (eO x' env) sl0V s = _ from h)
  obtain ⟨_, a, b⟩ := eO_ok e hx h1
  cases u <;> try cases h2
  · obtain ⟨r, base, cap, hm, hcap, rfl⟩ := toV_sl b
    exact OpT.slice00 (ht := ⟨ht⟩) (hs := ⟨hs⟩) (KPost.same (by simp only [toV, hm, capOf]; exact if_pos (Nat.le_refl _))) a
  · cases b
    exact OpT.slice00 (ht := ⟨ht⟩) (hs := ⟨hs⟩) (KPost.same rfl) a
theorem good_mkf {f : Nat} {us ws : List Operand} {us' ws' : List O} (hu : OpdsOk us us') (hw : OpdsOk ws ws') : Good P (.makeFunc (.func f) us.toArray ws.toArray) ty (.q (.mkf f us' ws')) := fun env s cl v s' h hc m E w0 R e d pos af gd => by
  obtain ⟨l1, h1, h2⟩ := oL_ok (show oL (eOs us' env) (mkf1 f (eOs ws' env)) s = _ from h)
  obtain ⟨l2, h3, h4⟩ := oL_ok (show oL (eOs ws' env) (mkf2 f l1) s = _ from h2)
  cases h4
  obtain ⟨a, a1, a2⟩ := eOs_ok e hu h1
  obtain ⟨b, b1, b2⟩ := eOs_ok e hw h3
  exact OpT.makeFunc (KPost.same (by simp only [toV, a2, b2])) a1 b1
theorem lenN_eq (l : List Nat) : lenN l = l.length := by
  induction l with
  | nil => rfl
  | cons v l ih => show Nat.succ (lenN l) = _; rw [ih]; rfl
theorem bytes_size (l : List Nat) : (bytes l).size = l.length := by simp [bytes, ByteArray.size]
theorem good_lens {t : TypeId} (ht : P.underlying t = some .string) (hx : OpdOk x x') : Good P (.call ⟨.builtin .len, [x].toArray, #[t]⟩) ty (.q (.lens x')) := fun env s cl v s' h hc m E w0 R e d pos af gd => by
  obtain ⟨_, h1, h2⟩ := oV_ok (show oV (eO x' env) (onS lens1) s = _ from h)
  obtain ⟨_, a, b⟩ := eO_ok e hx h1
  obtain ⟨l, rfl, h3⟩ := onS_ok h2
  cases h3; cases b
  exact OpT.len_str (ht := ⟨ht⟩) (KPost.same (by rw [lenN_eq, bytes_size]; rfl)) (evs1 a)
theorem good_ixs {t : TypeId} (ht : P.underlying t = some .string) (hx : OpdOk x x') (hy : OpdOk y y') : Good P (.index t x y) ty (.q (.ixs x' y')) := fun env s cl v s' h hc m E w0 R e d pos af gd => by
  obtain ⟨_, h1, h2⟩ := oV_ok (show oV (eO x' env) (onS (ixs0 (eO y' env))) s = _ from h)
  obtain ⟨_, a, b⟩ := eO_ok e hx h1
  obtain ⟨l, rfl, h3⟩ := onS_ok h2
  obtain ⟨_, h4, h5⟩ := oV_ok (show oV (eO y' env) (onAny (ixs1 l)) s = _ from h3)
  obtain ⟨_, a2, b2⟩ := eO_ok e hy h4
  obtain ⟨kd, q, c, h6⟩ := onAny_ok' h5
  obtain ⟨i, h7, h8⟩ := oN_ok (show oN (nat q) (ixs2 l) s = _ from h6)
  obtain rfl := nat_ok h7
  obtain ⟨ch, h9, h10⟩ := oN_ok (show oN (nthN l i) ixs3 s = _ from h8)
  obtain ⟨h11, h12⟩ := bR_ok (show bR (Nat.blt ch 256) (ixs4 ch) s = _ from h10)
  rw [Nat.blt_eq] at h11
  cases h12; cases b
  rw [c] at b2; cases b2
  refine OpT.index_str (ht := ⟨ht⟩) (KPost.same ?_) a a2 (by omega) (by rw [Int.toNat_natCast]; exact bytes_get (nthN_of h9))
  show some (Value.int .u8 (ch : Int)) = _
  rw [UInt8.toNat_ofNat', Nat.mod_eq_of_lt (by simpa using h11)]
theorem good_ixa {t el : TypeId} {len : Nat} (ht : P.underlying t = some (.array len el)) (ha : aggOf P el = some false) (hs : (P.info? el).map (·.size) = some 1) (hx : OpdOk x x') (hy : OpdOk y y') : Good P (.index t x y) ty (.q (.ixa x' y' len)) := fun env s cl v s' h hc m E w0 R e d pos af gd => by
  obtain ⟨_, h1, h2⟩ := oV_ok (show oV (eO x' env) (onA (ixa0 len (eO y' env))) s = _ from h)
  obtain ⟨_, a, b⟩ := eO_ok e hx h1
  obtain ⟨l, rfl, h3⟩ := onA_ok h2
  obtain ⟨us, b1, rfl⟩ := toV_a b
  obtain ⟨_, h4, h5⟩ := oV_ok (show oV (eO y' env) (onI (ixa1 len l)) s = _ from h3)
  obtain ⟨_, a2, b2⟩ := eO_ok e hy h4
  obtain ⟨q, rfl, h6⟩ := onI_ok h5
  obtain ⟨i, h7, h8⟩ := oN_ok (show oN (nat q) (ixa2 len l) s = _ from h6)
  obtain rfl := nat_ok h7
  obtain ⟨h9, h10⟩ := bR_ok (show bR (Nat.blt i len) (ixa3 l i) s = _ from h8)
  rw [Nat.blt_eq] at h9
  obtain ⟨u, h11, h12⟩ := oV_ok (show oV (nth l i) Kx.R.ok s = _ from h10)
  cases h12; cases b2
  obtain ⟨u', c1, c2⟩ := toVs_get b1 (nth_of h11)
  exact OpT.index1 (ht := ⟨ht⟩) (ha := ⟨ha⟩) (hs := ⟨hs⟩) (KPost.same c2) a a2 (by omega) (by omega) (by simpa using c1)
theorem good_mks {t el : TypeId} {i : TypeInfo} {zv : Value} {zs : List V} {us : List Value} (ht : P.underlying t = some (.slice el)) (hi : P.info? el = some i) (hz : i.zero = some zv) (hcz : zv.cells = us.toArray) (hu : toVs m0 zs = some us) (hus : us.length = i.size) (hsz : 0 < i.size) (hby : 0 < i.bytes) (hx : OpdOk x x') (hy : OpdOk y y') :
    Good P (.makeSlice t x y) ty (.q (.mks zs i.bytes x' y')) := fun env s cl v s' h hc m E w0 R e d pos af gd => by
  obtain ⟨n, h1, h2⟩ := oN_ok (show oN (oNat (eO x' env)) (mks1 zs i.bytes (oNat (eO y' env))) s = _ from h)
  obtain ⟨n', h3, h4⟩ := oN_ok (show oN (oNat (eO y' env)) (mks2 zs i.bytes n) s = _ from h2)
  obtain ⟨_, a1, b1⟩ := eO_ok e hx (oNat_ok h1)
  obtain ⟨_, a2, b2⟩ := eO_ok e hy (oNat_ok h3)
  cases b1; cases b2
  obtain ⟨h5, h6⟩ := bR_ok (show bR (andB (Nat.beq n n') (andB (Nat.ble (Nat.mul i.bytes n) bigB) (singles zs))) (mks3 zs n) s = _ from h4)
  obtain ⟨h7, h8⟩ := andB_ok h5
  obtain ⟨h9, _⟩ := andB_ok h8
  have hnn : n = n' := Nat.eq_of_beq_eq_true h7
  subst hnn
  have hbd : i.bytes * n ≤ 140737488355328 := Nat.le_of_ble_eq_true h9
  obtain ⟨rfl, rfl⟩ := newB_ok h6
  have hlz : lenL zs = i.size := by rw [lenL_eq, ← toVs_len hu, hus]
  have hz' := repL_ok (toVs_le (m0_le m) _ hu) n
  have hsize : i.size = zv.cells.size := by rw [hcz]; simpa using hus.symm
  intro ρ w rr H
  have hrun : (execOp ρ ⟨d, .makeSlice t x y, ty, pos, af, gd⟩).run P w = .ok (.value (.slice (some ⟨w.heap.size, 0, none⟩) n n)) { w with heap := w.heap.push (.cells (rep n us).toArray el (0, 0)) } := by
    have h2' : (n : Int) ≤ 9223372036854775807 := by
      have : n ≤ i.bytes * n := Nat.le_mul_of_pos_left _ hby
      omega
    have hw : IntKind.i64.wrap (n : Int) = n := wrap64_of (by omega) h2'
    have hlt : ¬ ((i.bytes : Int) * n > 2 ^ 48) := by
      simp only [gt_iff_lt, Int.not_lt]
      have : ((i.bytes * n : Nat) : Int) = (i.bytes : Int) * n := Int.natCast_mul _ _
      omega
    have hneg : ¬ ((n : Int) < 0) := by omega
    have hroom : ¬ (n * i.bytes > roomBytes) := by
      simp only [roomBytes]; rw [Nat.mul_comm]; omega
    have ti : (typeInfo el).run P w = .ok i w := by simp [typeInfo, run_bind, run_program, hi, run_pure]
    have r0 : Array.range 0 = #[] := rfl
    have hzz : (P.info? el).bind (·.zero) = some zv := by simp [hi, hz]
    have hss : (P.info? el).map (·.size) = some i.size := by simp [hi]
    have hrow := zeros_rep n i.size zv hsize.symm hsz
    rw [hcz] at hrow
    simp only [execOp, rr x (by simp [Op.operands]) _ a1, rr y (by simp [Op.operands]) _ a2, run_bind, Instr.makeSlice, run_underlying ht, asInt, asIntOf, run_pure, ti, hw, hneg, hlt, decide_false, Bool.or_self, Bool.false_eq_true, if_false,
      Int.lt_irrefl, gt_iff_lt, askRoom, Int.toNat_natCast, hroom, run_sizeOf hss, newRow, newObj]
    by_cases hc : n * i.size = 0
    · have hn0 : n = 0 := by
        rcases Nat.mul_eq_zero.1 hc with h | h
        · exact h
        · omega
      subst hn0
      simp only [Nat.zero_mul, if_true, run_bind, run_pure, Sem.run, r0, List.map_toArray, List.map_nil, rep]
    · simp only [hc, if_false, run_bind, run_pure, run_zeroValue hzz, hcz, Sem.run, hrow]
  rw [hrun]
  have hrl : (rep n us).length = n * i.size := by rw [rep_length, hus]
  obtain ⟨g1, g2, g3⟩ := HC.newCells (cap := n) (sz := lenL zs) H (rep n us).toArray el (n := n * lenL zs) (tv := rows zs n) (by rw [hlz]; simp [hrl]) (fun q u hq => by
    have hq' : (@Bool.rec (fun _ => TV) (ofL (repL zs n)) (rep1 (ofOV (nth zs 0)) n n) (isOne zs)).get q = .ok u := hq
    cases hone : isOne zs with
    | false =>
      rw [hone] at hq'
      obtain ⟨g1, g2⟩ := ofL_rel hz' q u hq'
      refine ⟨?_, g2⟩
      rw [lenL_eq, ← toVs_len hz', hrl] at g1
      rw [hlz]; exact g1
    | true =>
      rw [hone] at hq'
      obtain ⟨g1, g2⟩ := rep1_get _ _ _ _ _ hq'
      have hl1 : lenL zs = 1 := Nat.eq_of_beq_eq_true hone
      refine ⟨by rw [hl1]; omega, ?_⟩
      rw [lenL_eq] at hl1
      match zs, hl1 with
      | [zz], _ =>
        obtain ⟨zu, r, f1, f2, f3⟩ := toVs_cons.1 (toVs_le (m0_le m) _ hu)
        simp [toVs] at f2
        subst f2; subst f3
        refine ⟨zu, by rw [g2]; exact f1, ?_⟩
        rw [rep_one]; simp [g1]) (fun _ => by rw [hlz]; simp [hrl])
  exact ⟨_, g3, _, g1, by simp [sl0, toV, g2, capOf], rfl⟩
end
end Go.Kx

namespace Go.Kx
open Go.Sl

section
variable {P : Program} {ty : TypeId} {x y z : Operand} {x' y' z' : O}
theorem run_sliceBound {w : World} {k : IntKind} {i n : Nat} {code : BoundsCode} (h : i ≤ n) : (Instr.sliceBound (.int k (i : Int)) n code).run P w = .ok i w := by
  simp only [Instr.sliceBound, asIntOf, run_bind, run_pure]
  rw [if_pos (by omega)]
  simp [run_pure]
theorem opd_int {m : Mp} {env : KEnv} {E : Env} (e : ER m env E) {x : Operand} {y : O} (h : OpdOk x y) {d n : Nat} (hb : Kx.bnd (.ok y) d env = .ok n) : ev E x = some (.int .i64 (n : Int)) := by
  obtain ⟨u, a, b⟩ := eO_ok e h (oNat_ok (show oNat (eO y env) = _ from hb))
  cases b; exact a
theorem good_sl3 {t el : TypeId} {n : Nat} {lo hi mx : Operand} {lo' hi' mx' : O} (ht : P.underlying t = some (.slice el)) (hs : (P.info? el).map (·.size) = some n) (hx : OpdOk x x') (hlo : OpdOk lo lo') (hhi : OpdOk hi hi') (hmx : OpdOk mx mx') : Good P (.slice t x (some lo) (some hi) (some mx)) ty (.q (.sl3 x' n lo' hi' mx')) := fun env s cl v s' h hc m E w0 R e d pos af gd => by
  obtain ⟨u, h1, h2⟩ := oV_ok (show oV (eO x' env) (onSl3 (s3V lo' hi' mx' env n)) s = _ from h)
  obtain ⟨_, a, b⟩ := eO_ok e hx h1
  obtain ⟨b', o, len, c, rfl, h3⟩ := onSl3_ok h2
  obtain ⟨r, base, cap, hm, hcap, rfl⟩ := toV_sl b
  obtain ⟨l, h4, h5⟩ := oN_ok (show oN (Kx.bnd (.ok lo') 0 env) (s3L hi' mx' env b' o n len) s = _ from h3)
  obtain ⟨hh, h6, h7⟩ := oN_ok (show oN (Kx.bnd (.ok hi') 0 env) (s3H mx' env b' o n len l) s = _ from h5)
  obtain ⟨mm, h8, h9⟩ := oN_ok (show oN (Kx.bnd (.ok mx') 0 env) (s3M b' o n len l hh) s = _ from h7)
  obtain ⟨h10, h11⟩ := bR_ok (show bR (andB (Nat.ble l hh) (andB (Nat.ble hh mm) (Nat.ble mm len))) (slEx b' o n l hh mm) s = _ from h9)
  obtain ⟨g1, g2⟩ := andB_ok h10
  obtain ⟨g3, g4⟩ := andB_ok g2
  have e1 := Nat.le_of_ble_eq_true g1
  have e2 := Nat.le_of_ble_eq_true g3
  have e3 := Nat.le_of_ble_eq_true g4
  obtain ⟨rfl, g5⟩ := slEx_ok h11
  have al := opd_int e hlo h4
  have ah := opd_int e hhi h6
  have am := opd_int e hmx h8
  intro ρ w rr H
  have hrun : (execOp ρ ⟨d, .slice t x (some lo) (some hi) (some mx), ty, pos, af, gd⟩).run P w = .ok (.value (.slice (if mm = l then some ⟨r, base + o, none⟩ else some ⟨r, base + o + l * n, none⟩) (hh - l) (mm - l))) w := by
    have k1 := run_sliceBound (P := P) (w := w) (k := .i64) (code := .slice3Acap) (show mm ≤ capOf cap c by omega)
    have k2 := run_sliceBound (P := P) (w := w) (k := .i64) (code := .slice3B) e2
    have k3 := run_sliceBound (P := P) (w := w) (k := .i64) (code := .slice3C) e1
    simp only [execOp, rr x (by simp [Op.operands]) _ a, rr lo (by simp [Op.operands]) _ al, rr hi (by simp [Op.operands]) _ ah, rr mx (by simp [Op.operands]) _ am, Option.map_some, Instr.sliceAt, Instr.slice, Instr.sliceBounds, run_bind, run_pure, run_underlying ht, run_sizeOf hs, if_true, Option.isSome_some, k1, k2, k3, addr_add]
  rw [hrun]
  refine ⟨_, H, KPost.same ?_⟩
  rcases g5 with ⟨rfl, rfl⟩ | ⟨g6, rfl⟩
  · simp only [toV, hm, capOf, if_true, Nat.le_refl, Nat.sub_self]
    rw [show hh - mm = 0 by omega]
  · simp only [toV, hm, capOf, if_neg g6, Nat.add_assoc]
    exact if_pos (by omega)
theorem good_sla {t el : TypeId} {n len : Nat} {lo hi : Option Operand} {lo' hi' : OO} (ht : P.underlying t = some (.array len el)) (hs : (P.info? el).map (·.size) = some n) (hx : OpdOk x x') (hlo : BndOk lo lo') (hhi : BndOk hi hi') : Good P (.slice t x lo hi none) ty (.q (.sla x' n len lo' hi')) := fun env s cl v s' h hc m E w0 R e d pos af gd => by
  obtain ⟨u, h1, h2⟩ := oV_ok (show oV (eO x' env) (onP (sla0 lo' hi' env n len)) s = _ from h)
  obtain ⟨_, a, b⟩ := eO_ok e hx h1
  obtain ⟨b', o, rfl, h3⟩ := onP_ok h2
  obtain ⟨r, base, cap, hm, rfl⟩ := toV_p b
  obtain ⟨l, h4, h5⟩ := oN_ok (show oN (Kx.bnd lo' 0 env) (sla1 hi' env n len b' o) s = _ from h3)
  obtain ⟨hh, h6, h7⟩ := oN_ok (show oN (Kx.bnd hi' len env) (sla2 n len b' o l) s = _ from h5)
  obtain ⟨h10, h11⟩ := bR_ok (show bR (andB (Nat.ble l hh) (andB (Nat.ble hh len) (neg (Nat.beq len l)))) (slaB b' o n len l hh) s = _ from h7)
  obtain ⟨g1, g2⟩ := andB_ok h10
  obtain ⟨g3, g4⟩ := andB_ok g2
  have e1 := Nat.le_of_ble_eq_true g1
  have e2 := Nat.le_of_ble_eq_true g3
  have e3 : ¬ len = l := fun hl => by have := neg_true g4; rw [hl, Nat.beq_refl] at this; cases this
  cases h11
  have hbl : ∀ ρ w, (∀ x_1 ∈ (Op.slice t x lo hi none).operands, ∀ v, ev E x_1 = some v → ρ x_1 = v) → (Instr.sliceBounds false len len (lo.map ρ) (hi.map ρ) none).run P w = .ok (l, hh, len) w := by
    intro ρ w rr
    cases hhi with
    | no =>
      have : hh = len := (bnd_ok e BndOk.no h6).2 rfl
      subst this
      cases hlo with
      | no =>
        have : l = 0 := (bnd_ok e BndOk.no h4).2 rfl
        subst this
        simp only [Instr.sliceBounds, run_bind, run_pure, Option.map_none]
      | ok hl =>
        have k3 := run_sliceBound (P := P) (w := w) (k := .i64) (code := .sliceB) e1
        simp only [Instr.sliceBounds, run_bind, run_pure, Option.map_none, Option.map_some, rr _ (by simp [Op.operands]) _ (opd_int e hl h4), Option.isSome_none, if_false, Bool.false_eq_true, k3]
    | ok hhh =>
      have k2 := run_sliceBound (P := P) (w := w) (k := .i64) (code := .sliceAlen) e2
      cases hlo with
      | no =>
        have : l = 0 := (bnd_ok e BndOk.no h4).2 rfl
        subst this
        simp only [Instr.sliceBounds, run_bind, run_pure, Option.map_none, Option.map_some, rr _ (by simp [Op.operands]) _ (opd_int e hhh h6), if_false, Bool.false_eq_true, k2]
      | ok hl =>
        have k3 := run_sliceBound (P := P) (w := w) (k := .i64) (code := .sliceB) e1
        simp only [Instr.sliceBounds, run_bind, run_pure, Option.map_none, Option.map_some, rr _ (by simp [Op.operands]) _ (opd_int e hl h4), rr _ (by simp [Op.operands]) _ (opd_int e hhh h6), Option.isSome_none, if_false, Bool.false_eq_true, k2, k3]
  intro ρ w rr H
  have hrun : (execOp ρ ⟨d, .slice t x lo hi none, ty, pos, af, gd⟩).run P w = .ok (.value (.slice (some ⟨r, base + o + l * n, none⟩) (hh - l) (len - l))) w := by
    simp only [execOp, rr x (by simp [Op.operands]) _ a, Option.map_none, Instr.sliceAt, Instr.sureAddr, run_bind, run_pure, run_underlying ht, run_sizeOf hs, hbl ρ w rr, addr_add, if_neg e3]
  rw [hrun]
  refine ⟨_, H, KPost.same ?_⟩
  show toV m (.sl b' (o + l * n) (hh - l) (.ex (len - l))) = _
  simp only [toV, hm, capOf, Nat.add_assoc]
  exact if_pos (by omega)
theorem good_f64b {f : Nat} {ts : Array TypeId} (hf : ∀ a w, (callFunc f #[.float .f64 a]).run P w = .ok (.value (.int .u64 (a : Nat))) w) (hx : OpdOk x x') : Good P (.call ⟨.value (.func f), [x].toArray, ts⟩) ty (.q (.f64b x')) := fun env s cl v s' h hc m E w0 R e d pos af gd => by
  obtain ⟨_, h1, h2⟩ := oV_ok (show oV (eO x' env) (onF f64b1) s = _ from h)
  obtain ⟨_, a, b⟩ := eO_ok e hx h1
  obtain ⟨n, rfl, h3⟩ := onF_ok h2
  cases h3; cases b
  refine OpT.val (KPost.same (u := .int .u64 (n : Nat)) rfl) fun ρ w r _ => ?_
  have k1 := r x (by simp [Op.operands, Call.operands]) _ a
  have k2 := r (.func f) (by simp [Op.operands, Call.operands]) _ rfl
  simp [execOp, resolve, run_bind, run_pure, invoke, Deferred.ofValue, k1, k2, hf]
theorem good_rng {t : TypeId} (ht : P.underlying t = some .string) (hx : OpdOk x x') : Good P (.range t x) ty (.q (.rng x')) := fun env s cl v s' h hc m E w0 R e d pos af gd => by
  obtain ⟨_, h1, h2⟩ := oV_ok (show oV (eO x' env) (onS rng1) s = _ from h)
  obtain ⟨_, a, b⟩ := eO_ok e hx h1
  obtain ⟨l, rfl, h3⟩ := onS_ok h2
  obtain ⟨rfl, rfl⟩ := newB_ok h3
  cases b
  intro ρ w rr H
  have hrun : (execOp ρ ⟨d, .range t x, ty, pos, af, gd⟩).run P w = .ok (.value (.pointer (some ⟨w.heap.size, 0, none⟩))) { w with heap := w.heap.push (.stringIter (bytes l) 0) } := by
    simp [execOp, rr x (by simp [Op.operands]) _ a, Instr.range, run_bind, run_pure, run_underlying ht, newObj, Sem.run]
  rw [hrun]
  obtain ⟨hh, hcp, _⟩ := HC.heap H
  have hle := ext_le (r := (w.heap.size, 0, 0)) (hcp.fresh _ (Nat.le_refl _))
  exact ⟨_, HC.new H _ fun h' hn hc' => hc'.push (base := 0) (cap := 0) (b := .it l 0) hn fun _ => ⟨rfl, rfl⟩, _, hle, by simp [ptr0, toV, ext], rfl⟩
end
end Go.Kx

namespace Go.Kx
open Go.Sl

section
variable {P : Program} {ty : TypeId} {x y z : Operand} {x' y' z' : O}
theorem zeroCells_rep {zv : Value} {us : List Value} (hcz : zv.cells = us.toArray) (hpos : 0 < us.length) (n : Nat) : (Builtin.zeroCells zv.cells n).toList = rep n us := by
  have := zeros_rep n us.length zv (by rw [hcz]; simp) hpos
  unfold Builtin.zeroCells
  rw [show zv.cells.size = us.length by rw [hcz]; simp] at this ⊢
  rw [this, hcz]
theorem good_clr {t el : TypeId} {zv : Value} {zs : List V} {us : List Value} (ht : P.underlying t = some (.slice el)) (hz : (P.info? el).bind (·.zero) = some zv) (hcz : zv.cells = us.toArray) (hu : toVs m0 zs = some us) (hpos : 0 < us.length) (hx : OpdOk x x') :
    Good P (.call ⟨.builtin .clear, [x].toArray, #[t]⟩) ty (.q (.clr zs x')) := fun env s cl v s' h hc m E w0 R e d pos af gd => by
  obtain ⟨u, h1, h2⟩ := oV_ok (show oV (eO x' env) (clrV zs) s = _ from h)
  obtain ⟨_, a, b⟩ := eO_ok e hx h1
  have main : ∀ {rv : Value} {ρ : Operand → Value} {w w' : World}, ev E x = some rv → (∀ y ∈ [x], ∀ v, ev E y = some v → ρ y = v) → (Builtin.clear_ #[t] ty #[rv]).run P w = .ok (.tuple #[]) w' → (execOp ρ ⟨d, .call ⟨.builtin .clear, [x].toArray, #[t]⟩, ty, pos, af, gd⟩).run P w = .ok (.value (.tuple #[])) w' := by
    intro rv ρ w w' hev hr hrun
    have hargs := evs_map [x] _ hr (evs1 hev)
    have lift : ∀ consts, (Go.builtin .clear #[t] ty consts #[rv]).run P w = .ok (.value (.tuple #[])) w' := by
      intro consts
      show (do pure (Next.value (← Builtin.clear_ #[t] ty #[rv])) : Sem Next).run P w = _
      rw [run_bind, hrun]; rfl
    simp only [List.map_cons, List.map_nil] at hargs
    simp [execOp, resolve, run_bind, run_pure, invoke, hargs, lift]
  cases u <;> try cases h2
  · rename_i b' o n c
    obtain ⟨r, base, cap, hm, hcap, rfl⟩ := toV_sl b
    obtain ⟨h3, rfl, k, sz, tv, h4, h5, rfl⟩ := putC_ok (show putC b' o (repL zs n) und s = _ from h2)
    have hu' := repL_ok (toVs_le (m0_le m) _ hu) n
    intro ρ w rr H
    obtain ⟨w', q1, q2⟩ := HC.store (P := P) H h4 hm h5 h3 hu'
    have hcl : (Builtin.clear_ #[t] ty #[.slice (some ⟨r, base + o, none⟩) n (capOf cap c)]).run P w = .ok (.tuple #[]) w' := by
      cases n with
      | zero =>
        have : w' = w := by
          have : (storeCells ⟨r, base + o, none⟩ (rep 0 us)).run P w = .ok () w := rfl
          rw [this] at q1; cases q1; rfl
        subst this
        simp [Builtin.clear_, run_bind, run_pure, run_underlying ht]
      | succ n =>
        simp [Builtin.clear_, run_bind, run_pure, run_underlying ht, run_zeroValue hz, zeroCells_rep hcz hpos, q1]
    rw [main a (fun y hy => rr y (by simpa [Op.operands, Call.operands] using hy)) hcl]
    exact ⟨_, q2, m, Le.refl m, und_V m, rfl⟩
  · rename_i b' o mv j
    obtain ⟨r, base, cap, hm, _, rfl⟩ := toV_se b
    intro ρ w rr H
    rw [main a (fun y hy => rr y (by simpa [Op.operands, Call.operands] using hy)) (w' := w) (by simp [Builtin.clear_, run_bind, run_pure, run_underlying ht])]
    exact ⟨_, H, m, Le.refl m, und_V m, rfl⟩
  · cases b
    intro ρ w rr H
    rw [main a (fun y hy => rr y (by simpa [Op.operands, Call.operands] using hy)) (w' := w) (by simp [Builtin.clear_, run_bind, run_pure, run_underlying ht])]
    exact ⟨_, H, m, Le.refl m, und_V m, rfl⟩
end
end Go.Kx

namespace Go.Kx
open Go.Sl

section
variable {P : Program} {ty : TypeId} {x y z : Operand} {x' y' z' : O}
theorem decode_ascii {l : List Nat} {pos c : Nat} (h : l[pos]? = some c) (hc : c < 128) : Utf8.decode (bytes l) pos = (c, 1) := by
  have hlt : pos < l.length := (List.getElem?_eq_some_iff.1 h).1
  have hg : (bytes l).get! (pos + 0) = UInt8.ofNat c := by
    have he : l[pos] = c := (List.getElem?_eq_some_iff.1 h).2
    show (bytes l).data[pos + 0]! = _
    simp [bytes, hlt, he]
  unfold Utf8.decode
  simp only [hg]
  have : (UInt8.ofNat c).toNat = c := by rw [UInt8.toNat_ofNat', Nat.mod_eq_of_lt (by omega)]
  rw [this, if_pos (by omega)]
theorem good_nxt (hx : OpdOk x x') : Good P (.next x true) ty (.q (.nxt x')) := fun env s cl v s' h hc m E w0 R e d pos af gd => by
  obtain ⟨_, h1, h2⟩ := oV_ok (show oV (eO x' env) (onP nxt1) s = _ from h)
  obtain ⟨_, a, b⟩ := eO_ok e hx h1
  obtain ⟨b', o, rfl, h3⟩ := onP_ok h2
  obtain ⟨h4, h5⟩ := bR_ok (show bR (Nat.beq o 0) (fun s => oB (s.h.get b') (onIt (nxt2 b')) s) s = _ from h3)
  have ho0 : o = 0 := Nat.eq_of_beq_eq_true h4
  subst ho0
  obtain ⟨blk, h6, h7⟩ := oB_ok h5
  obtain ⟨l, ps, rfl, h8⟩ := onIt_ok h7
  obtain ⟨r, base, cap, hm, rfl⟩ := toV_p b
  intro ρ w rr H
  obtain ⟨ob, e1, e2, rfl⟩ := HC.at H h6 trivial hm
  have e2 : base = 0 := e2
  subst e2
  have h8' : nxtN (nthN l ps) b' l ps s = .ok v s' := h8
  cases hn : nthN l ps with
  | no =>
    rw [hn] at h8'
    cases h8'
    have hge : ¬ ps < (bytes l).size := by
      rw [bytes_size]
      intro hlt
      have := nthN_no hn
      rw [List.getElem?_eq_getElem hlt] at this; cases this
    have hrun : (execOp ρ ⟨d, .next x true, ty, pos, af, gd⟩).run P w = .ok (.value (.tuple #[.bool false])) w := by
      simp [execOp, rr x (by simp [Op.operands]) _ a, Instr.next, run_bind, run_pure, getObj, Sem.run, e1, hge]
    rw [hrun]
    exact ⟨_, H, KPost.same (by simp [toV, toVs])⟩
  | ok c =>
    rw [hn] at h8'
    obtain ⟨h9, h10⟩ := bR_ok (show bR (Nat.blt c 128) (nxt3 b' l ps c) s = _ from h8')
    rw [Nat.blt_eq] at h9
    cases h10
    have hget := nthN_of hn
    have hlt : ps < (bytes l).size := by rw [bytes_size]; exact (List.getElem?_eq_some_iff.1 hget).1
    have hrun : (execOp ρ ⟨d, .next x true, ty, pos, af, gd⟩).run P w = .ok (.value (.tuple #[.bool true, .int .i64 ps, .int .i32 c])) { w with heap := w.heap.setIfInBounds r (.stringIter (bytes l) (ps + 1)) } := by
      simp [execOp, rr x (by simp [Op.operands]) _ a, Instr.next, run_bind, run_pure, getObj, setObj, Sem.run, e1, hlt, decode_ascii hget h9, goInt]
    rw [hrun]
    have hsz : r < w.heap.size := by
      rcases Nat.lt_or_ge r w.heap.size with q | q
      · exact q
      · rw [Array.getElem?_eq_none q] at e1; cases e1
    refine ⟨_, HC.turn H h6 trivial hm e1 (o' := .stringIter (bytes l) (ps + 1)) (fun q => ?_) (by simp) rfl rfl rfl (fun hh _ hcp => hcp.set h6 trivial hm (b' := .it l (ps + 1)) fun _ => ⟨rfl, rfl⟩), m, Le.refl m, by simp [toV, toVs], rfl⟩
    rw [Array.getElem?_setIfInBounds]
    by_cases c1 : r = q
    · subst c1; simp [hsz]
    · have c2 : ¬ q = r := fun h => c1 h.symm
      rw [if_neg c1, if_neg c2]
theorem eqL_eq : ∀ (a b : List Nat), eqL a b = decide (a = b)
  | [], [] => rfl
  | [], _ :: _ => rfl
  | _ :: _, [] => rfl
  | x :: a, y :: b => by
    show andB (Nat.beq x y) (eqL a b) = _
    rw [eqL_eq a b]
    cases hxy : Nat.beq x y with
    | true => have := Nat.eq_of_beq_eq_true hxy; subst this; show decide (a = b) = _; simp
    | false =>
      have : ¬ x = y := fun h => by rw [h, Nat.beq_refl] at hxy; cases hxy
      show false = _; simp [this]
theorem small_ok : ∀ {a : List Nat}, small a = true → ∀ c ∈ a, c < 256
  | [], _, c, h => by simp at h
  | x :: a, h, c, hc => by
    obtain ⟨h1, h2⟩ := andB_ok (show andB (Nat.blt x 256) (small a) = true from h)
    rw [Nat.blt_eq] at h1
    rcases List.mem_cons.1 hc with rfl | hc
    · exact h1
    · exact small_ok h2 c hc
theorem bytes_inj : ∀ {a b : List Nat}, small a = true → small b = true → bytes a = bytes b → a = b := by
  intro a b ha hb h
  have h1 : a.map UInt8.ofNat = b.map UInt8.ofNat := by
    have := congrArg (fun x : ByteArray => x.data.toList) h
    simpa [bytes] using this
  have key : ∀ (l : List Nat), small l = true → (l.map UInt8.ofNat).map UInt8.toNat = l := by
    intro l hl
    rw [List.map_map]
    conv => rhs; rw [← List.map_id l]
    apply List.map_congr_left
    intro c hc
    have := small_ok hl c hc
    show (UInt8.ofNat c).toNat = c
    rw [UInt8.toNat_ofNat', Nat.mod_eq_of_lt (by omega)]
  rw [← key a ha, ← key b hb, h1]
end
end Go.Kx

namespace Go.Kx
open Go.Sl

theorem toList_loop (bs : ByteArray) : ∀ (n i : Nat) (r : List UInt8), bs.size - i = n → ByteArray.toList.loop bs i r = r.reverse ++ bs.data.toList.drop i := by
  intro n
  induction n with
  | zero =>
    intro i r h
    rw [ByteArray.toList.loop, if_neg (by omega), List.drop_of_length_le (by rw [Array.length_toList]; show bs.size ≤ i; omega)]
    simp
  | succ n ih =>
    intro i r h
    have hlt : i < bs.size := by omega
    rw [ByteArray.toList.loop, if_pos hlt, ih (i + 1) _ (by omega)]
    have hl : i < bs.data.toList.length := by rw [Array.length_toList]; exact hlt
    rw [List.drop_eq_getElem_cons hl]
    have : bs.get! i = bs.data.toList[i] := by
      show bs.data[i]! = _
      rw [getElem!_pos bs.data i hlt]; rfl
    rw [this]; simp
theorem toList_eq (bs : ByteArray) : bs.toList = bs.data.toList := by
  show ByteArray.toList.loop bs 0 [] = _
  rw [toList_loop bs _ 0 [] rfl]; simp
section
variable {P : Program} {ty : TypeId} {x y z : Operand} {x' y' z' : O}
theorem good_seq {t u : TypeId} (ht : P.underlying t = some .string) (hx : OpdOk x x') (hy : OpdOk y y') : Good P (.binOp .eql t x y u) ty (.q (.seq x' y')) := fun env s cl v s' h hc m E w0 R e d pos af gd => by
  obtain ⟨_, h1, h2⟩ := oV_ok (show oV (eO x' env) (onS (seq1 (eO y' env))) s = _ from h)
  obtain ⟨_, a, b⟩ := eO_ok e hx h1
  obtain ⟨i, rfl, h3⟩ := onS_ok h2
  obtain ⟨_, h4, h5⟩ := oV_ok (show oV (eO y' env) (onS (seq2 i)) s = _ from h3)
  obtain ⟨_, a2, b2⟩ := eO_ok e hy h4
  obtain ⟨j, rfl, h6⟩ := onS_ok h5
  obtain ⟨h7, h8⟩ := bR_ok (show bR (andB (small i) (small j)) (seq3 i j) s = _ from h6)
  obtain ⟨h9, h10⟩ := andB_ok h7
  cases h8; cases b; cases b2
  refine OpT.bin (v := .bool ((bytes i).toList == (bytes j).toList)) a a2 (KPost.same ?_) (fun w => by simp [eqGuard, binOp, Op.stringOp, run_bind, run_pure])
  show some (Value.bool (eqL i j)) = _
  rw [eqL_eq]
  congr 2
  rw [Bool.eq_iff_iff]
  simp only [decide_eq_true_eq, beq_iff_eq]
  exact ⟨fun h => by rw [h], fun h => bytes_inj h9 h10 (by rw [toList_eq, toList_eq] at h; exact congrArg ByteArray.mk (Array.toList_inj.1 h))⟩
end
end Go.Kx

namespace Go.Kx
open Go.Sl

/-- An operation of a region in both forms. -/
inductive KOOk (P : Program) (ops : List Oper) (n : Nat) : Oper → KO → Prop
  | s {d : Nat} {op : Op} {ty : TypeId} {pos : String} {af : Array Edge} {k : Kp} : Good P op ty k → Nat.ble (d + 1) n = true → KOOk P ops n ⟨some d, op, ty, pos, af, none⟩ (.s d k)
  | n {op : Op} {ty : TypeId} {pos : String} {af : Array Edge} {k : Kp} : Good P op ty k → KOOk P ops n ⟨none, op, ty, pos, af, none⟩ (.n k)
  | gs {d j t : Nat} {b : Bool} {op : Op} {ty : TypeId} {pos : String} {af : Array Edge} {k : Kp} : Good P op ty k → Nat.ble (d + 1) n = true → gtmp ops j = some t → KOOk P ops n ⟨some d, op, ty, pos, af, some (j, b)⟩ (.gs t b d k)
  | gn {j t : Nat} {b : Bool} {op : Op} {ty : TypeId} {pos : String} {af : Array Edge} {k : Kp} : Good P op ty k → gtmp ops j = some t → KOOk P ops n ⟨none, op, ty, pos, af, some (j, b)⟩ (.gn t b k)
inductive KOsOk (P : Program) (ops : List Oper) (n : Nat) : List Oper → List KO → Prop
  | nil : KOsOk P ops n [] []
  | cons {o : Oper} {k : KO} {l : List Oper} {kl : List KO} : KOOk P ops n o k → KOsOk P ops n l kl → KOsOk P ops n (o :: l) (k :: kl)

theorem guard_ok {m : Mp} {env : KEnv} {E : Env} (e : ER m env E) {t : Nat} {b c : Bool} (h : guard (klk env t) b = .ok c) : (c = true ∧ lk E t = some (.bool b)) ∨ (c = false ∧ (lk E t = some (.bool !b) ∨ lk E t = some Go.undef)) := by
  cases hk : klk env t with
  | no => rw [hk] at h; cases h
  | ok v =>
    rw [hk] at h
    obtain ⟨u, a, hv⟩ := klk_ok e hk
    have h' : gV v b = .ok c := h
    cases v <;> try cases h'
    · rename_i x
      cases hv
      rw [a]
      show (eqB b x = true ∧ _) ∨ (eqB b x = false ∧ _)
      cases b <;> cases x <;> simp [eqB, neg]
    · rename_i l
      cases l with
      | nil =>
        cases h'
        simp [toV, toVs] at hv
        exact .inr ⟨rfl, .inr (by rw [a, ← hv]; rfl)⟩
      | cons x l => cases h'
theorem rS_ok {r : R} {d : Nat} {ih : KEnv → St → XO} {env env' : KEnv} {s' : St} (h : rS r d ih env = .ok env' s') : ∃ v s1, r = .ok v s1 ∧ ih (.cons d v env) s1 = .ok env' s' := by
  cases r with
  | no => cases h
  | ok v s1 => exact ⟨v, s1, rfl, h⟩
theorem rN_ok {r : R} {ih : KEnv → St → XO} {env env' : KEnv} {s' : St} (h : rN r ih env = .ok env' s') : ∃ v s1, r = .ok v s1 ∧ ih env s1 = .ok env' s' := by
  cases r with
  | no => cases h
  | ok v s1 => exact ⟨v, s1, rfl, h⟩
theorem eOps_ok {P : Program} {ops : List Oper} {n : Nat} {cl : Cl} (hc : ClOk P cl) {w0 : World} {Q : Exit → Act → World → Prop} {R : List Chunk} {l : List Oper} {kl : List KO} (hl : KOsOk P ops n l kl) :
    ∀ {env env' : KEnv} {s s' : St} {m : Mp} {E : Env}, eOps cl kl env s = .ok env' s' → ER m env E → (∀ m' E', Le m m' → ER m' env' E' → X w0 Q .normal n E' (HC m' s' :: R)) → TOps P w0 ops l Q n E (HC m s :: R) := by
  induction hl with
  | nil => intro env env' s s' m E h e k; cases h; exact TOps.nil (k m E (Le.refl m) e)
  | @cons o ko l kl hk _ ih =>
    intro env env' s s' m E h e k
    have h' : stepKO ko cl (eOps cl kl) env s = .ok env' s' := h
    cases hk with
    | @s d op ty pos af kp hg hd =>
      obtain ⟨v, s1, h1, h2⟩ := rS_ok (show rS (eKp kp env s cl) d (eOps cl kl) env = _ from h')
      exact TOps.st hd ((hg env s cl v s1 h1 hc m E w0 R e _ _ _ _).mono fun val cs' ⟨m', le, hv, hcs⟩ => hcs ▸ ih h2 (.cons hv (e.le le)) fun m2 E2 l2 e2 => k m2 E2 (le.trans l2) e2)
    | @n op ty pos af kp hg =>
      obtain ⟨v, s1, h1, h2⟩ := rN_ok (show rN (eKp kp env s cl) (eOps cl kl) env = _ from h')
      exact TOps.sn ((hg env s cl v s1 h1 hc m E w0 R e _ _ _ _).mono fun val cs' ⟨m', le, hv, hcs⟩ => hcs ▸ ih h2 (e.le le) fun m2 E2 l2 e2 => k m2 E2 (le.trans l2) e2)
    | @gs d j t b op ty pos af kp hg hd ht =>
      have h3 : (@OG.rec (fun _ => Nat → Kp → Cl → (KEnv → St → XO) → KEnv → St → XO) (fun _ _ _ _ _ _ => .no) gsB (guard (klk env t) b) d kp cl (eOps cl kl) env s) = .ok env' s' := h'
      cases hgd : guard (klk env t) b with
      | no => rw [hgd] at h3; cases h3
      | ok c =>
        rw [hgd] at h3
        rcases guard_ok e hgd with ⟨rfl, hlk⟩ | ⟨rfl, hlk⟩
        · obtain ⟨v, s1, h1, h2⟩ := rS_ok (show rS (eKp kp env s cl) d (eOps cl kl) env = _ from h3)
          exact TOps.gsome ((hg env s cl v s1 h1 hc m E w0 R e _ _ _ _).mono fun val cs' ⟨m', le, hv, hcs⟩ => hcs ▸ ih h2 (.cons hv (e.le le)) fun m2 E2 l2 e2 => k m2 E2 (le.trans l2) e2) hd ht hlk
        · have h4 : eOps cl kl (.cons d und env) s = .ok env' s' := h3
          have hnext := ih h4 (.cons (und_V m) e) k
          rcases hlk with hlk | hlk
          · exact TOps.gskip hnext hd ht hlk
          · exact TOps.gundef hnext hd ht hlk
    | @gn j t b op ty pos af kp hg ht =>
      have h3 : (@OG.rec (fun _ => Kp → Cl → (KEnv → St → XO) → KEnv → St → XO) (fun _ _ _ _ _ => .no) gnB (guard (klk env t) b) kp cl (eOps cl kl) env s) = .ok env' s' := h'
      cases hgd : guard (klk env t) b with
      | no => rw [hgd] at h3; cases h3
      | ok c =>
        rw [hgd] at h3
        rcases guard_ok e hgd with ⟨rfl, hlk⟩ | ⟨rfl, hlk⟩
        · obtain ⟨v, s1, h1, h2⟩ := rN_ok (show rN (eKp kp env s cl) (eOps cl kl) env = _ from h3)
          exact TOps.gnone ((hg env s cl v s1 h1 hc m E w0 R e _ _ _ _).mono fun val cs' ⟨m', le, hv, hcs⟩ => hcs ▸ ih h2 (e.le le) fun m2 E2 l2 e2 => k m2 E2 (le.trans l2) e2) ht hlk
        · have h4 : eOps cl kl env s = .ok env' s' := h3
          have hnext := ih h4 e k
          rcases hlk with hlk | hlk
          · exact TOps.gskip' hnext ht hlk
          · exact TOps.gundef' hnext ht hlk
end Go.Kx
