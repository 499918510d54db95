/-
  Facts on types in the form that the compile asks; the end: a call whose run gives true.
-/
import Derived.Test.YtkggojngcnkabaaGreatB9
import Derived.ProofKit
set_option linter.unusedVariables false
set_option linter.unusedSimpArgs false
namespace Go.Kx
open Go.Sl

section
variable {P : Program} {t : Nat}
theorem TIok.of {ti : TI} {zv : Value} {us : List Value} (h1 : (P.info? t).map (·.size) = some ti.sz) (h2 : (P.info? t).map (·.bytes) = some ti.by_) (h3 : (P.info? t).bind (·.zero) = some zv) (h4 : zv.cells = us.toArray) (h5 : toVs m0 ti.z = some us)
    (h6 : us.length = ti.sz) (h7 : ti.agg = true → zv = .agg us.toArray) (h8 : aggOf P t = some ti.agg) (h9 : dOk P t ti.d) : TIok P t ti where
  ex := by
    cases hi : P.info? t with
    | none => rw [hi] at h1; cases h1
    | some i =>
      rw [hi] at h1 h2 h3
      exact ⟨i, zv, us, rfl, by simpa using h1, by simpa using h2, by simpa using h3, h4, h5, h6, h7⟩
  agg := h8
  d := h9
theorem TIok.of1 {b : Nat} {v : Value} {x : V} {d : TK} (h1 : (P.info? t).map (·.size) = some 1) (h2 : (P.info? t).map (·.bytes) = some b) (h3 : (P.info? t).bind (·.zero) = some v) (h4 : v.cells = #[v]) (h5 : toV m0 x = some v) (h8 : aggOf P t = some false) (h9 : dOk P t d) : TIok P t ⟨1, b, false, [x], d⟩ :=
  TIok.of (us := [v]) h1 h2 h3 (by rw [h4]) (toVs_cons.2 ⟨v, [], h5, toVs_nil _, rfl⟩) rfl (fun h => by cases h) h8 h9
theorem TIok.ofN {n b : Nat} {us : List Value} {z : List V} {d : TK} (h1 : (P.info? t).map (·.size) = some n) (h2 : (P.info? t).map (·.bytes) = some b) (h3 : (P.info? t).bind (·.zero) = some (.agg us.toArray)) (h5 : toVs m0 z = some us) (h6 : us.length = n) (h8 : aggOf P t = some true) (h9 : dOk P t d) : TIok P t ⟨n, b, true, z, d⟩ :=
  TIok.of h1 h2 h3 rfl h5 h6 (fun _ => rfl) h8 h9
theorem stOk {fs pl : List (Nat × Nat)} (h : (List.range fs.length).map (fldOf P t) = fs.map some) (h2 : placesOf P t = some pl) : dOk P t (.st fs pl) := ⟨fun f off ft hf => by
  have hlt := (List.getElem?_eq_some_iff.1 hf).1
  have := congrArg (fun l => l[f]?) h
  simp only [List.getElem?_map, List.getElem?_range hlt, hf, Option.map_some, Option.some.injEq] at this
  exact this, h2⟩
end

def s00 : St := ⟨0, .nil⟩
theorem start_ok (w : World) : Holds w w [HC m0 Kx.s00] := by
  refine ⟨⟨fun _ => none, fun _ => none, ⟨fun _ => none, fun _ => none, fun b => .inl ⟨rfl, rfl⟩, ⟨fun k b h => ?_, fun k k' b b' h => ?_, fun _ _ => rfl, fun k h => absurd h (Nat.not_lt_zero k)⟩, fun _ => rfl⟩, fun _ _ h => (by cases h), fun _ _ h => (by cases h)⟩, fun _ _ => rfl, Nat.le_refl _, rfl, rfl, rfl⟩
  · cases h
  · cases h
theorem kept_of {w w' : World} {cs : List Chunk} (H : Holds w w' cs) : w.keptBut w' (fun _ => False) := by
  refine ⟨H.os, H.out, fun i hi => ?_⟩
  rw [H.old i hi]
  cases w.heap[i]? with
  | none => rfl
  | some o => cases o <;> first | exact ⟨rfl, rfl, rfl, fun _ _ => rfl⟩ | exact .inr ⟨rfl, rfl⟩ | rfl
/-- A run of the evaluator that gives true: the call returns true, and what stood in memory stands there. -/
theorem call_true {P : Program} {cl : Cl} (hc : ClOk P cl) {f : Nat} {args : List V} {vals : List Value} (hv : toVs m0 args = some vals) (hr : isT (cl f args Kx.s00) = true) (w : World) :
    Calls P f vals.toArray w fun e w' => e = .returned (.bool true) ∧ w.keptBut w' (fun _ => False) := by
  have : ∃ s', cl f args Kx.s00 = .ok (.b true) s' := by
    unfold isT at hr
    split at hr
    · rename_i s h; exact ⟨s, h⟩
    · cases hr
  obtain ⟨s', h⟩ := this
  refine ((hc f args Kx.s00 _ s' h m0 vals hv []).run w [] w (by simpa using start_ok w)).mono fun e w' ⟨v, he, post, ⟨m', _, hval, hpost⟩, H⟩ => ?_
  cases hval
  exact ⟨he, kept_of H⟩
end Go.Kx
namespace Go.Kx
open Go.ChangeShapes Go.WideShapes Go.ChangeAt Go.RowKit
/-- As 'post_of_same', where nothing in memory is read. -/
theorem post_plain {H : Type} {enc : TypeId × Value → H} {P : Program} {f : Func} {s : ChangeSpec} {apart fresh handsOn again : Bool} {W W' : World} {args : Array Value} {v : Value} {ds gs : List (DataW H)}
    (hW : DataW.Whole enc P f.params.toList s.vars apart W args.toList ds gs [])
    (hres : ∀ (b : Nat) (sp : Nat → Bool) (hd : Bool), DataW.TrodAll enc P W' b sp hd f.resultTypes.toList (v.resultList f.resultTypes.size) (s.fn H (ds ++ gs)).results [])
    (hargs : ∀ sp : Nat → Bool, DataW.TrodAll enc P W' 0 sp true f.params.toList args.toList (s.fn H (ds ++ gs)).args [])
    (hvars : ∀ sp : Nat → Bool, DataW.TrodVars enc P W' sp s.vars (s.fn H (ds ++ gs)).vars [])
    (hk : W.keptBut W' (fun _ => False))
    (hok : ∀ (j : Nat) (t : TypeId) (r : Value), f.resultTypes[j]? = some t → (v.resultList f.resultTypes.size)[j]? = some r → Value.okWide P W' .any 0 t r) :
    s.post enc P f apart fresh handsOn again W args v W' := by
  refine ⟨ds, gs, [], [], [], [], hW, hres _ _ _, hargs _, hvars _, World.keptBut_mono (fun p hp => hp.elim) hk, fun _ => ?_⟩
  obtain ⟨_, _, _, _, _, hz, hn⟩ := hW
  refine ⟨hok, _, _, ([] ++ []) ++ [], ⟨[] ++ [], [], trodAll_append (hargs _) (hres _ _ _), hvars _, rfl, ?_, ?_⟩, ?_⟩
  · intro b off hp; simp at hp
  · intro ha; simp
  · intro p hp _; simp at hp
end Go.Kx
