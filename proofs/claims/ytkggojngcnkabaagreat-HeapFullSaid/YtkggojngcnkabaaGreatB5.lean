/-
  Vectors: of one's own, and sealed ones; what one knows of them. Plain rules.
-/
import Derived.Test.YtkggojngcnkabaaGreatB4
import Derived.LoopN
set_option linter.unusedVariables false
set_option linter.unusedSimpArgs false
namespace Go.Sl

/-- A loop's rounds, written out. -/
def TR (P : Program) (w0 : World) (c : Code) (Q : Exit → Act → World → Prop) (n k : Nat) (env : Env) (cs : List Chunk) : Prop :=
  ∀ a w, EnvOk a n env → Holds w0 w cs → Code.rounds P c Q k a w
section
variable {P : Program} {w0 : World} {c : Code} {Q : Exit → Act → World → Prop} {n k : Nat} {env : Env} {cs : List Chunk}
theorem T.rounds (k : Nat) (h : TR P w0 c Q n k env cs) : T P w0 (.loop c) Q n env cs := fun a w he hw => wp_loop_rounds k (h a w he hw)
theorem TR.succ (h : T P w0 c (Exit.then (Code.rounds P c Q k) Q) n env cs) : TR P w0 c Q n (k + 1) env cs := fun a w he hw => h a w he hw
theorem X.then_rounds (h : TR P w0 c Q n k env cs) : X w0 (Exit.then (Code.rounds P c Q k) Q) .normal n env cs := fun a w he hw => h a w he hw
end
/-- A vector that is never written again. -/
def VecR (v : Value) (sz n : Nat) (xs : List Value) : Chunk := ex fun (o : Option Addr ⊕ (Nat × Nat × List Value)) => match o with
  | .inl a => pur (v = .slice a 0 0 ∧ n = 0 ∧ xs = [])
  | .inr (b, cap, rest) => all [pur (v = .slice (some ⟨b, 0, none⟩) n cap ∧ xs.length = n * sz ∧ rest.length = (cap - n) * sz ∧ n ≤ cap), ro b (xs ++ rest)]
instance {v : Value} {sz n : Nat} {xs : List Value} : PersC (VecR v sz n xs) := ⟨Pers.ex fun o => by
  cases o with
  | inl a => exact Pers.pur
  | inr o =>
    refine Pers.all fun c hc => ?_
    simp only [List.mem_cons, List.not_mem_nil, or_false] at hc
    rcases hc with rfl | rfl
    · exact Pers.pur
    · exact Pers.ex fun _ => Pers.imm⟩

section
variable {P : Program} {w0 : World} {Q : Exit → Act → World → Prop} {n : Nat} {env : Env} {cs R : List Chunk} {c : Code} {v : Value} {sz m : Nat} {xs : List Value}

theorem Holds.vec_form {w : World} (H : Holds w0 w cs) (r : Rem (VecC v sz m xs) cs R) : (∃ a cap, v = .slice a m cap) ∧ xs.length = m * sz ∧ ∃ cap, v = .slice (match v with | .slice a _ _ => a | _ => none) m cap ∧ m ≤ cap := by
  obtain ⟨o, Hf⟩ := (H.front r).of_ex
  cases o with
  | inl a => obtain ⟨⟨rfl, rfl, rfl⟩, _⟩ := Hf.pur; exact ⟨⟨a, 0, rfl⟩, by simp, 0, rfl, Nat.le_refl _⟩
  | inr o =>
    obtain ⟨b, cap, rest⟩ := o
    obtain ⟨⟨rfl, h1, _, h3⟩, _⟩ := (Hf.of_all).pur
    exact ⟨⟨_, cap, rfl⟩, h1, cap, rfl, h3⟩
theorem Holds.vecR_form {w : World} (H : Holds w0 w cs) (r : Rem (VecR v sz m xs) cs R) : (∃ a cap, v = .slice a m cap) ∧ xs.length = m * sz := by
  obtain ⟨o, Hf⟩ := (H.front r).of_ex
  cases o with
  | inl a => obtain ⟨⟨rfl, rfl, rfl⟩, _⟩ := Hf.pur; exact ⟨⟨a, 0, rfl⟩, by simp⟩
  | inr o =>
    obtain ⟨b, cap, rest⟩ := o
    obtain ⟨⟨rfl, h1, _, h3⟩, _⟩ := (Hf.of_all).pur
    exact ⟨⟨_, cap, rfl⟩, h1⟩
theorem T.vec (h : ∀ a cap, v = .slice a m cap → xs.length = m * sz → T P w0 c Q n env cs) (r : Rem (VecC v sz m xs) cs R := by repeat (first | exact Rem.here | apply Rem.there)) : T P w0 c Q n env cs := fun a w he hw =>
  let ⟨⟨x, cap, e⟩, l, _⟩ := hw.vec_form r
  h x cap e l a w he hw
theorem T.vecR (h : ∀ a cap, v = .slice a m cap → xs.length = m * sz → T P w0 c Q n env cs) (r : Rem (VecR v sz m xs) cs R := by repeat (first | exact Rem.here | apply Rem.there)) : T P w0 c Q n env cs := fun a w he hw =>
  let ⟨⟨x, cap, e⟩, l⟩ := hw.vecR_form r
  h x cap e l a w he hw

theorem Holds.vecR_get {w : World} (H : Holds w0 w cs) (r : Rem (VecR v sz m xs) cs R) (hm : 0 < m) : ∃ b cap rest, v = .slice (some ⟨b, 0, none⟩) m cap ∧ xs.length = m * sz ∧ m ≤ cap ∧ Holds w0 w (ro b (xs ++ rest) :: cs) := by
  have H2 := H.ent ((Ent.rem r).trans ((Ent.dup (PersC.h (c := VecR v sz m xs))).trans (Ent.cons (Ent.rem' r))))
  obtain ⟨o, Hf⟩ := H2.of_ex
  cases o with
  | inl a => obtain ⟨⟨_, rfl, _⟩, _⟩ := Hf.pur; omega
  | inr o =>
    obtain ⟨b, cap, rest⟩ := o
    obtain ⟨⟨e, h1, _, h3⟩, Hb⟩ := (Hf.of_all).pur
    exact ⟨b, cap, rest, e, h1, h3, Hb⟩
/-- The cells of a sealed vector that is not empty. -/
theorem T.vecR_get (h : ∀ b cap rest, v = .slice (some ⟨b, 0, none⟩) m cap → xs.length = m * sz → m ≤ cap → T P w0 c Q n env (ro b (xs ++ rest) :: cs)) (hm : 0 < m := by omega) (r : Rem (VecR v sz m xs) cs R := by repeat (first | exact Rem.here | apply Rem.there)) : T P w0 c Q n env cs := fun a w he hw =>
  let ⟨b, cap, rest, e, l, l2, H⟩ := hw.vecR_get r hm
  h b cap rest e l l2 a w he H
/-- The cells of a vector of one's own, with its spare room. -/
theorem T.vec_open (h1 : ∀ a, v = .slice a 0 0 → m = 0 → xs = [] → T P w0 c Q n env R) (h2 : ∀ b cap rest, v = .slice (some ⟨b, 0, none⟩) m cap → xs.length = m * sz → rest.length = (cap - m) * sz → m ≤ cap → T P w0 c Q n env (blk b (xs ++ rest) :: R))
    (r : Rem (VecC v sz m xs) cs R := by repeat (first | exact Rem.here | apply Rem.there)) : T P w0 c Q n env cs := fun a w he hw => by
  obtain ⟨o, Hf⟩ := (hw.front r).of_ex
  cases o with
  | inl x => obtain ⟨⟨e, e1, e2⟩, H⟩ := Hf.pur; exact h1 x e e1 e2 a w he H
  | inr o =>
    obtain ⟨b, cap, rest⟩ := o
    obtain ⟨⟨e, l1, l2, l3⟩, H⟩ := (Hf.of_all).pur
    exact h2 b cap rest e l1 l2 l3 a w he H
theorem T.vec_get (h2 : ∀ b cap rest, v = .slice (some ⟨b, 0, none⟩) m cap → xs.length = m * sz → rest.length = (cap - m) * sz → m ≤ cap → T P w0 c Q n env (blk b (xs ++ rest) :: R)) (hm : 0 < m := by omega)
    (r : Rem (VecC v sz m xs) cs R := by repeat (first | exact Rem.here | apply Rem.there)) : T P w0 c Q n env cs := T.vec_open (fun _ _ e _ => absurd e (by omega)) h2 r

theorem Ent.vec_seal {w : World} (H : Holds w0 w (VecC v sz m xs :: cs)) : Holds w0 w (VecR v sz m xs :: cs) := by
  obtain ⟨o, Hf⟩ := H.of_ex
  cases o with
  | inl x =>
    obtain ⟨⟨e, e1, e2⟩, H⟩ := Hf.pur
    exact Holds.to_ex (.inl x) (Holds.pur' ⟨e, e1, e2⟩ H)
  | inr o =>
    obtain ⟨b, cap, rest⟩ := o
    obtain ⟨hp, H⟩ := (Hf.of_all).pur
    exact Holds.to_ex (.inr (b, cap, rest)) (Holds.to_all (Holds.pur' hp H.seal_blk))
/-- A vector is sealed. -/
theorem T.sealUp (h : T P w0 c Q n env (VecR v sz m xs :: R)) (r : Rem (VecC v sz m xs) cs R := by repeat (first | exact Rem.here | apply Rem.there)) : T P w0 c Q n env cs := fun a w he hw => h a w he (Ent.vec_seal (hw.front r))
theorem X.sealUp {e : Exit} (h : X w0 Q e n env (VecR v sz m xs :: R)) (r : Rem (VecC v sz m xs) cs R := by repeat (first | exact Rem.here | apply Rem.there)) : X w0 Q e n env cs := fun a w he hw => h a w he (Ent.vec_seal (hw.front r))
theorem T.seal_blk {b : Nat} {l : List Value} (h : T P w0 c Q n env (ro b l :: R)) (r : Rem (blk b l) cs R := by repeat (first | exact Rem.here | apply Rem.there)) : T P w0 c Q n env cs := fun a w he hw => h a w he ((hw.front r).seal_blk)
theorem VecR.pack {b cap : Nat} {rest all_ : List Value} (hv : v = .slice (some ⟨b, 0, none⟩) m cap := by rfl) (ha : all_ = xs ++ rest := by simp) (h1 : xs.length = m * sz := by simp) (h2 : rest.length = (cap - m) * sz := by simp) (h3 : m ≤ cap := by omega) :
    Pack [ro b all_] (VecR v sz m xs) := fun R => by
  subst ha
  intro h s z
  exact Ent.to_ex (f := fun (o : Option Addr ⊕ (Nat × Nat × List Value)) => match o with
    | .inl a => Sl.pur (v = .slice a 0 0 ∧ m = 0 ∧ xs = [])
    | .inr (b, cap, rest) => Sl.all [Sl.pur (v = .slice (some ⟨b, 0, none⟩) m cap ∧ xs.length = m * sz ∧ rest.length = (cap - m) * sz ∧ m ≤ cap), ro b (xs ++ rest)]) (.inr (b, cap, rest)) h s
    (Ent.to_all h s (Ent.to_pur ⟨hv, h1, h2, h3⟩ h s z))
theorem VecR.pack0 {a : Option Addr} (hv : v = .slice a 0 0 := by rfl) : Pack [] (VecR v sz 0 []) := fun R => by
  intro h s z
  exact Ent.to_ex (f := fun (o : Option Addr ⊕ (Nat × Nat × List Value)) => match o with
    | .inl a => Sl.pur (v = .slice a 0 0 ∧ 0 = 0 ∧ ([] : List Value) = [])
    | .inr (b, cap, rest) => Sl.all [Sl.pur (v = .slice (some ⟨b, 0, none⟩) 0 cap ∧ ([] : List Value).length = 0 * sz ∧ rest.length = (cap - 0) * sz ∧ 0 ≤ cap), ro b ([] ++ rest)]) (.inl a) h s
    (Ent.to_pur ⟨hv, rfl, rfl⟩ h s z)
end
section
variable {P : Program} {w0 : World} {Q : Exit → Act → World → Prop} {n : Nat} {env : Env} {cs R : List Chunk} {ops l : List Oper} {v : Value} {sz m : Nat} {xs : List Value}
theorem TOps.vec (h : ∀ a cap, v = .slice a m cap → xs.length = m * sz → TOps P w0 ops l Q n env cs) (r : Rem (VecC v sz m xs) cs R := by repeat (first | exact Rem.here | apply Rem.there)) : TOps P w0 ops l Q n env cs := fun a w he hw =>
  let ⟨⟨x, cap, e⟩, l', _⟩ := hw.vec_form r
  h x cap e l' a w he hw
theorem TOps.vecR (h : ∀ a cap, v = .slice a m cap → xs.length = m * sz → TOps P w0 ops l Q n env cs) (r : Rem (VecR v sz m xs) cs R := by repeat (first | exact Rem.here | apply Rem.there)) : TOps P w0 ops l Q n env cs := fun a w he hw =>
  let ⟨⟨x, cap, e⟩, l'⟩ := hw.vecR_form r
  h x cap e l' a w he hw

/-- The cells of a sealed vector that is not empty. -/
theorem TOps.vecR_get (h : ∀ b cap rest, v = .slice (some ⟨b, 0, none⟩) m cap → xs.length = m * sz → m ≤ cap → TOps P w0 ops l Q n env (ro b (xs ++ rest) :: cs)) (hm : 0 < m := by omega) (r : Rem (VecR v sz m xs) cs R := by repeat (first | exact Rem.here | apply Rem.there)) : TOps P w0 ops l Q n env cs := fun a w he hw =>
  let ⟨b, cap, rest, e, l', l2, H⟩ := hw.vecR_get r hm
  h b cap rest e l' l2 a w he H
/-- The cells of a vector of one's own, with its spare room. -/
theorem TOps.vec_open (h1 : ∀ a, v = .slice a 0 0 → m = 0 → xs = [] → TOps P w0 ops l Q n env R) (h2 : ∀ b cap rest, v = .slice (some ⟨b, 0, none⟩) m cap → xs.length = m * sz → rest.length = (cap - m) * sz → m ≤ cap → TOps P w0 ops l Q n env (blk b (xs ++ rest) :: R))
    (r : Rem (VecC v sz m xs) cs R := by repeat (first | exact Rem.here | apply Rem.there)) : TOps P w0 ops l Q n env cs := fun a w he hw => by
  obtain ⟨o, Hf⟩ := (hw.front r).of_ex
  cases o with
  | inl x => obtain ⟨⟨e, e1, e2⟩, H⟩ := Hf.pur; exact h1 x e e1 e2 a w he H
  | inr o =>
    obtain ⟨b, cap, rest⟩ := o
    obtain ⟨⟨e, l1, l2, l3⟩, H⟩ := (Hf.of_all).pur
    exact h2 b cap rest e l1 l2 l3 a w he H
theorem TOps.vec_get (h2 : ∀ b cap rest, v = .slice (some ⟨b, 0, none⟩) m cap → xs.length = m * sz → rest.length = (cap - m) * sz → m ≤ cap → TOps P w0 ops l Q n env (blk b (xs ++ rest) :: R)) (hm : 0 < m := by omega)
    (r : Rem (VecC v sz m xs) cs R := by repeat (first | exact Rem.here | apply Rem.there)) : TOps P w0 ops l Q n env cs := TOps.vec_open (fun _ _ e _ => absurd e (by omega)) h2 r

/-- A vector is sealed. -/
theorem TOps.sealUp (h : TOps P w0 ops l Q n env (VecR v sz m xs :: R)) (r : Rem (VecC v sz m xs) cs R := by repeat (first | exact Rem.here | apply Rem.there)) : TOps P w0 ops l Q n env cs := fun a w he hw => h a w he (Ent.vec_seal (hw.front r))
end
end Go.Sl
