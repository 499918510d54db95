/-
  Running Go's code over chunks: what an operation, a list of operations, a piece of code needs and gives. Plain rules over any program.
-/
import Derived.Test.YtkggojngcnkabaaGreatB1
import Derived.Tactics
import Derived.Orders
import Derived.Scope
set_option linter.unusedVariables false
set_option linter.unusedSimpArgs false
namespace Go.Sl

abbrev Env := List (Nat × Value)
def lk : Env → Nat → Option Value
  | [], _ => none
  | (k, v) :: l, t => match Nat.beq k t with | true => some v | false => lk l t
theorem lk_cons (k t : Nat) (v : Value) (l : Env) : lk ((k, v) :: l) t = if k = t then some v else lk l t := by
  by_cases h : k = t
  · subst h; simp [lk]
  · have : Nat.beq k t = false := by
      cases e : Nat.beq k t with
      | false => rfl
      | true => exact absurd (Nat.eq_of_beq_eq_true e) h
    simp [lk, this, h]
def ev (env : Env) : Operand → Option Value
  | .tmp t => lk env t
  | .const v => some v
  | .global g => some (.pointer (some ⟨g, 0, none⟩))
  | .func f => some (.func (.func f) #[] #[])
def evs (env : Env) : List Operand → Option (List Value)
  | [] => some []
  | x :: xs => match ev env x with
    | none => none
    | some v => match evs env xs with
      | none => none
      | some vs => some (v :: vs)

structure EnvOk (a : Act) (n : Nat) (env : Env) : Prop where
  size : a.tmps.size = n
  defers : a.defers = []
  at_ : ∀ t v, lk env t = some v → a.tmps[t]? = some v

theorem EnvOk.eval {a : Act} {n : Nat} {env : Env} (h : EnvOk a n env) {x : Operand} {v : Value} (e : ev env x = some v) : a.eval x = v := by
  cases x with
  | tmp t => simp only [Act.eval, Array.getD_eq_getD_getElem?, h.at_ t v e, Option.getD_some]
  | const u => simpa [ev, Act.eval] using e
  | global g => simpa [ev, Act.eval] using e
  | func f => simpa [ev, Act.eval] using e

theorem EnvOk.put {a : Act} {n : Nat} {env : Env} (h : EnvOk a n env) {d : Nat} (hd : d < n) (v : Value) : EnvOk (a.put (some d) v) n ((d, v) :: env) where
  size := by simp [Act.put, h.size]
  defers := by simp [Act.put, h.defers]
  at_ := fun t u e => by
    rw [lk_cons] at e
    by_cases c : d = t
    · subst c
      simp only [if_true, Option.some.injEq] at e
      simp [Act.put, h.size, hd, e]
    · simp only [c, if_false] at e
      simp only [Act.put, Array.getElem?_setIfInBounds_ne c]
      exact h.at_ t u e

/-- env' says no more than env. -/
def Sub (env env' : Env) : Prop := ∀ t v, lk env' t = some v → lk env t = some v
theorem Sub.refl (env : Env) : Sub env env := fun _ _ => id
theorem Sub.nil {env : Env} : Sub env [] := fun _ _ h => by cases h
theorem Sub.cons {env env' : Env} {k : Nat} {v : Value} (h : lk env k = some v) (r : Sub env env') : Sub env ((k, v) :: env') := fun t u e => by
  rw [lk_cons] at e
  by_cases c : k = t
  · subst c; simp only [if_true, Option.some.injEq] at e; exact e ▸ h
  · simp only [c, if_false] at e; exact r t u e
theorem EnvOk.sub {a : Act} {n : Nat} {env env' : Env} (h : EnvOk a n env) (s : Sub env env') : EnvOk a n env' := ⟨h.size, h.defers, fun t v e => h.at_ t v (s t v e)⟩

/-- What a run of one operation comes to. -/
def RunTo (P : Program) (r : Result Next) (Ψ : Value → World → Prop) : Prop :=
  match r with
  | .ok (.value v) w => Ψ v w
  | .ok .skip w => Ψ undef w
  | .ok (.enter f args) w => Calls P f args w fun e w' => ∃ v, e = .returned v ∧ Ψ v w'
  | _ => False

theorem RunTo.mono {P : Program} {r : Result Next} {Ψ Ψ' : Value → World → Prop} (h : RunTo P r Ψ) (m : ∀ v w, Ψ v w → Ψ' v w) : RunTo P r Ψ' := by
  unfold RunTo at *
  split at h
  · exact m _ _ h
  · exact m _ _ h
  · exact Calls.mono h fun e w' ⟨v, he, hp⟩ => ⟨v, he, m _ _ hp⟩
  · exact h.elim

theorem RunTo.upon {P : Program} {o : Oper} {a : Act} {next : Act → World → Prop} {Q : Exit → Act → World → Prop} {r : Result Next} {Ψ : Value → World → Prop}
    (h : RunTo P r Ψ) (m : ∀ v w, Ψ v w → next (a.put o.dst v) w) : o.upon P a next Q r := by
  unfold RunTo at h
  split at h
  · exact m _ _ h
  · exact m _ _ h
  · refine Calls.mono h fun e w' he => ?_
    obtain ⟨v, rfl, hp⟩ := he
    exact m _ _ hp
  · exact h.elim

/-- Operation o, its operands as env says, from chunks cs: its value and the chunks behind it satisfy K. -/
def OpT (P : Program) (w0 : World) (o : Oper) (env : Env) (cs : List Chunk) (K : Value → List Chunk → Prop) : Prop :=
  ∀ ρ w, (∀ x ∈ o.op.operands, ∀ v, ev env x = some v → ρ x = v) → Holds w0 w cs → RunTo P ((execOp ρ o).run P w) fun v w' => ∃ cs', Holds w0 w' cs' ∧ K v cs'

theorem OpT.mono {P : Program} {w0 : World} {o : Oper} {env : Env} {cs : List Chunk} {K K' : Value → List Chunk → Prop} (h : OpT P w0 o env cs K)
    (m : ∀ v cs', K v cs' → K' v cs') : OpT P w0 o env cs K' :=
  fun ρ w hr hw => (h ρ w hr hw).mono fun _ _ ⟨cs', x, y⟩ => ⟨cs', x, m _ _ y⟩

/-- Code c from env and cs, with Q behind it. -/
def T (P : Program) (w0 : World) (c : Code) (Q : Exit → Act → World → Prop) (n : Nat) (env : Env) (cs : List Chunk) : Prop :=
  ∀ a w, EnvOk a n env → Holds w0 w cs → c.wp P Q a w
/-- The exit e with env and cs. -/
def X (w0 : World) (Q : Exit → Act → World → Prop) (e : Exit) (n : Nat) (env : Env) (cs : List Chunk) : Prop :=
  ∀ a w, EnvOk a n env → Holds w0 w cs → Q e a w
/-- A list of operations, and then a normal exit. -/
def TOps (P : Program) (w0 : World) (ops : List Oper) (l : List Oper) (Q : Exit → Act → World → Prop) (n : Nat) (env : Env) (cs : List Chunk) : Prop :=
  ∀ a w, EnvOk a n env → Holds w0 w cs → wpList P ops.toArray Q l a w

section
variable {P : Program} {w0 : World} {Q : Exit → Act → World → Prop} {n : Nat} {env : Env} {cs : List Chunk}

theorem T.skip (h : X w0 Q .normal n env cs) : T P w0 .skip Q n env cs := fun a w he hw => wp_skip (h a w he hw)
theorem T.label {l : Nat} (h : X w0 Q .normal n env cs) : T P w0 (.label l) Q n env cs := fun a w he hw => wp_label (h a w he hw)
theorem T.exit {i : Nat} (h : X w0 Q (.exit i) n env cs) : T P w0 (.exit i) Q n env cs := fun a w he hw => wp_exit (h a w he hw)
theorem T.goto {l : Nat} (h : X w0 Q (.goto l) n env cs) : T P w0 (.goto l) Q n env cs := fun a w he hw => wp_goto (h a w he hw)
theorem T.ret (h : X w0 Q .ret n env cs) : T P w0 .ret Q n env cs := fun a w he hw => wp_ret (h a w he hw)
theorem T.seq {x y : Code} (h : T P w0 x (Exit.then (y.wp P Q) Q) n env cs) : T P w0 (.seq x y) Q n env cs := fun a w he hw => wp_seq (h a w he hw)
theorem T.cond {c : Operand} {x y : Code} {b : Bool} (hc : ev env c = some (.bool b)) (ht : b = true → T P w0 x Q n env cs) (hf : b = false → T P w0 y Q n env cs) :
    T P w0 (.cond c x y) Q n env cs := fun a w he hw => wp_cond_split (he.eval hc) (fun h => ht h a w he hw) (fun h => hf h a w he hw)
theorem T.cond_t {c : Operand} {x y : Code} {b : Bool} (hc : ev env c = some (.bool b)) (hb : b = true) (h : T P w0 x Q n env cs) :
    T P w0 (.cond c x y) Q n env cs := fun a w he hw => wp_cond_true (hb ▸ he.eval hc) (h a w he hw)
theorem T.cond_f {c : Operand} {x y : Code} {b : Bool} (hc : ev env c = some (.bool b)) (hb : b = false) (h : T P w0 y Q n env cs) :
    T P w0 (.cond c x y) Q n env cs := fun a w he hw => wp_cond_false (hb ▸ he.eval hc) (h a w he hw)
theorem T.block {i : Nat} {c : Code} (h : T P w0 c (Exit.inBlock i Q) n env cs) : T P w0 (.block i c) Q n env cs := fun a w he hw => wp_block (h a w he hw)
theorem T.scope {c : Code} (h : T P w0 c (Exit.noGoto Q) n env cs) : T P w0 (.scope c) Q n env cs := fun a w he hw => wp_scope_straight (h a w he hw)
theorem T.region {id : Nat} {l : List Oper} (h : TOps P w0 l l Q n env cs) : T P w0 (.region id l.toArray false) Q n env cs :=
  fun a w he hw => wp_region_lit (h a w he hw)

/-- Weaken, or turn, what is known. -/
theorem T.have {c : Code} {env' : Env} {cs' : List Chunk} (h : T P w0 c Q n env' cs') (he : Sub env env') (hc : Ent cs cs') : T P w0 c Q n env cs :=
  fun a w x y => h a w (x.sub he) (y.ent hc)
theorem X.have {e : Exit} {env' : Env} {cs' : List Chunk} (h : X w0 Q e n env' cs') (he : Sub env env') (hc : Ent cs cs') : X w0 Q e n env cs :=
  fun a w x y => h a w (x.sub he) (y.ent hc)
theorem TOps.have {ops l : List Oper} {env' : Env} {cs' : List Chunk} (h : TOps P w0 ops l Q n env' cs') (he : Sub env env') (hc : Ent cs cs') : TOps P w0 ops l Q n env cs :=
  fun a w x y => h a w (x.sub he) (y.ent hc)

theorem X.then_normal {y : Code} (h : T P w0 y Q n env cs) : X w0 (Exit.then (y.wp P Q) Q) .normal n env cs := fun a w he hw => h a w he hw
theorem X.then_ret {K : Act → World → Prop} (h : X w0 Q .ret n env cs) : X w0 (Exit.then K Q) .ret n env cs := h
theorem X.then_exit {K : Act → World → Prop} {i : Nat} (h : X w0 Q (.exit i) n env cs) : X w0 (Exit.then K Q) (.exit i) n env cs := h
theorem X.then_goto {K : Act → World → Prop} {i : Nat} (h : X w0 Q (.goto i) n env cs) : X w0 (Exit.then K Q) (.goto i) n env cs := h
theorem X.block_normal {i : Nat} (h : X w0 Q .normal n env cs) : X w0 (Exit.inBlock i Q) .normal n env cs := h
theorem X.block_ret {i : Nat} (h : X w0 Q .ret n env cs) : X w0 (Exit.inBlock i Q) .ret n env cs := h
theorem X.block_goto {i l : Nat} (h : X w0 Q (.goto l) n env cs) : X w0 (Exit.inBlock i Q) (.goto l) n env cs := h
theorem X.block_exit {i : Nat} (h : X w0 Q .normal n env cs) : X w0 (Exit.inBlock i Q) (.exit i) n env cs := fun a w he hw => by
  simp only [Exit.inBlock, if_true]; exact h a w he hw
theorem X.block_exit_ne {i j : Nat} (hne : Nat.beq j i = false) (h : X w0 Q (.exit j) n env cs) : X w0 (Exit.inBlock i Q) (.exit j) n env cs := fun a w he hw => by
  have : j ≠ i := fun e => by subst e; simp at hne
  simp only [Exit.inBlock, this, if_false]; exact h a w he hw
/-- What stands at a round's end: some y with a smaller measure. -/
def Round {α : Type} (w0 : World) (n : Nat) (I : α → Prop) (μ : α → Nat) (envI : α → Env) (csI : α → List Chunk) (x : α) (a : Act) (w : World) : Prop :=
  ∃ y, I y ∧ μ y < μ x ∧ EnvOk a n (envI y) ∧ Holds w0 w (csI y)
theorem T.loop {α : Type} {c : Code} (I : α → Prop) (μ : α → Nat) (envI : α → Env) (csI : α → List Chunk) (x0 : α) (hI : I x0) (he : Sub env (envI x0)) (hc : Ent cs (csI x0))
    (h : ∀ x, I x → T P w0 c (Exit.then (Round w0 n I μ envI csI x) Q) n (envI x) (csI x)) : T P w0 (.loop c) Q n env cs := by
  intro a w hea hwa
  intro b k cs1
  have key : ∀ m x a w, μ x = m → I x → EnvOk a n (envI x) → Holds w0 w (csI x) →
      ∃ e a' w', Q e a' w' ∧ Arrives P (lone (b.at a (.code c :: .inLoop c :: k)) cs1 w) b k cs1 e a' w' := by
    intro m
    induction m using Nat.strongRecOn with
    | _ m ih =>
      intro x a w hm hI hea hwa
      obtain ⟨e, a₁, w₁, hq, harr⟩ := h x hI a w hea hwa b (.inLoop c :: k) cs1
      cases e with
      | normal =>
        obtain ⟨y, hIy, hlt, he1, hw1⟩ := hq
        obtain ⟨e₂, a₂, w₂, hq₂, harr₂⟩ := ih (μ y) (hm ▸ hlt) y a₁ w₁ rfl hIy he1 hw1
        exact ⟨e₂, a₂, w₂, hq₂, .of_steps (Steps.trans harr (.one step_inLoop)) harr₂⟩
      | exit id => exact ⟨_, a₁, w₁, hq, .pass (x := .inLoop c) rfl (fun _ _ => .inl (by simp)) harr⟩
      | goto l => exact ⟨_, a₁, w₁, hq, .pass (x := .inLoop c) rfl (fun _ _ => .inl (by simp)) harr⟩
      | ret => exact ⟨_, a₁, w₁, hq, .pass (x := .inLoop c) rfl (fun _ _ => .inl (by simp)) harr⟩
      | panic ch => exact ⟨_, a₁, w₁, hq, .pass (x := .inLoop c) rfl (fun _ _ => .inl (by simp)) harr⟩
      | outgrown => exact ⟨_, a₁, w₁, hq, .pass (x := .inLoop c) rfl (fun _ _ => .inl (by simp)) harr⟩
  obtain ⟨e, a', w', hq, harr⟩ := key _ x0 a w rfl hI (hea.sub he) (hwa.ent hc)
  exact ⟨e, a', w', hq, .of_steps (.one step_loop) harr⟩

theorem TOps.nil {ops : List Oper} (h : X w0 Q .normal n env cs) : TOps P w0 ops [] Q n env cs := fun a w he hw => h a w he hw
theorem TOps.st {ops rest : List Oper} {d : Nat} {op : Op} {ty : TypeId} {pos : String} {af : Array Edge} (hd : Nat.ble (d + 1) n = true)
    (h : OpT P w0 ⟨.some d, op, ty, pos, af, none⟩ env cs fun v cs' => TOps P w0 ops rest Q n ((d, v) :: env) cs') :
    TOps P w0 ops (⟨.some d, op, ty, pos, af, none⟩ :: rest) Q n env cs := fun a w he hw =>
  wpList_plain rfl fun K hK => (h a.eval w (fun x _ v e => he.eval e) hw).upon fun v w' ⟨cs', hh, ht⟩ => hK _ _ (ht _ _ (he.put (Nat.le_of_ble_eq_true hd) v) hh)
theorem TOps.sn {ops rest : List Oper} {op : Op} {ty : TypeId} {pos : String} {af : Array Edge}
    (h : OpT P w0 ⟨.none, op, ty, pos, af, .none⟩ env cs fun _ cs' => TOps P w0 ops rest Q n env cs') :
    TOps P w0 ops (⟨.none, op, ty, pos, af, .none⟩ :: rest) Q n env cs := fun a w he hw =>
  wpList_plain rfl fun K hK => (h a.eval w (fun x _ v e => he.eval e) hw).upon fun v w' ⟨cs', hh, ht⟩ => hK _ _ (ht _ _ he hh)

/-- The temporary of the operation that guards. -/
def gtmp (ops : List Oper) (j : Nat) : Option Nat := match ops[j]? with | .none => .none | .some o => o.dst
theorem yielded_of {ops : List Oper} {j t : Nat} {a : Act} {v : Bool} (hg : gtmp ops j = some t) (he : EnvOk a n env) (hv : lk env t = some (.bool v)) :
    yielded ops.toArray a.tmps j = some v := by
  unfold gtmp at hg
  unfold yielded
  split at hg
  · cases hg
  · rename_i o ho
    simp [ho, hg, he.at_ t _ hv]
theorem yielded_undef {ops : List Oper} {j t : Nat} {a : Act} (hg : gtmp ops j = some t) (he : EnvOk a n env) (hv : lk env t = some undef) :
    yielded ops.toArray a.tmps j = none := by
  unfold gtmp at hg
  unfold yielded
  split at hg
  · cases hg
  · rename_i o ho
    simp [ho, hg, he.at_ t _ hv, undef]
end
end Go.Sl

namespace Go.Sl

/-! What is asked of types. -/
def aggOf (P : Program) (t : TypeId) : Option Bool := (P.underlying t).map fun | .struct _ | .array _ _ => true | _ => false
def fldOf (P : Program) (s f : Nat) : Option (Nat × TypeId) :=
  match P.underlying s with
  | some (.struct fs) => match fs[f]? with
    | some fd => match P.info? fd.type with
      | some i => if i.size = 0 then none else some (fd.offset, fd.type)
      | none => none
    | none => none
  | _ => none
class TAgg (P : Program) (t : TypeId) (b : outParam Bool) : Prop where h : aggOf P t = some b
class TSize (P : Program) (t : TypeId) (n : outParam Nat) : Prop where h : (P.info? t).map (·.size) = some n
class TBytes (P : Program) (t : TypeId) (n : outParam Nat) : Prop where h : (P.info? t).map (·.bytes) = some n
class TZero (P : Program) (t : TypeId) (v : outParam Value) : Prop where h : (P.info? t).bind (·.zero) = some v
class TFld (P : Program) (s f : Nat) (off : outParam Nat) (ft : outParam TypeId) : Prop where h : fldOf P s f = some (off, ft)
class TDesc (P : Program) (t : TypeId) (d : outParam TypeDesc) : Prop where h : P.underlying t = some d

section
variable {P : Program} {w : World}

theorem run_bind {α β : Type} (p : Program) (m : Sem α) (k : α → Sem β) (w : World) :
    (m >>= k).run p w = match m.run p w with | .ok a w' => (k a).run p w' | .halt h w' => .halt h w' := by
  show (m.bind k).run p w = _
  induction m generalizing w with
  | pure a => simp [Sem.bind, Sem.run]
  | load m a k ih => simp only [Sem.bind, Sem.run]; (repeat' split) <;> simp_all
  | store m a v k ih => cases v <;> simp only [Sem.bind, Sem.run] <;> (repeat' split) <;> simp_all
  | new o k ih => simp [Sem.bind, Sem.run, ih]
  | shape r k ih => simp [Sem.bind, Sem.run, ih]
  | freeze a n k ih => simp [Sem.bind, Sem.run, ih]
  | frozen a k ih => simp [Sem.bind, Sem.run, ih]
  | getObj r k ih => simp only [Sem.bind, Sem.run]; (repeat' split) <;> simp_all
  | setObj r o k ih => simp only [Sem.bind, Sem.run]; (repeat' split) <;> simp_all
  | choose q k ih => simp only [Sem.bind, Sem.run]; (repeat' split) <;> simp_all
  | sys c k ih => simp [Sem.bind, Sem.run, ih]
  | program k ih => simp [Sem.bind, Sem.run, ih]
  | mark m k ih => simp [Sem.bind, Sem.run, ih]
  | halt h => simp [Sem.bind, Sem.run]
theorem run_pure {α : Type} (p : Program) (a : α) (w : World) : (pure a : Sem α).run p w = .ok a w := rfl

theorem run_program (w : World) : program.run P w = .ok P w := rfl
theorem run_underlying {t : TypeId} {d : TypeDesc} (h : P.underlying t = some d) (w : World) : (underlying t).run P w = .ok d w := by
  simp [underlying, run_bind, run_program, h, run_pure]
theorem run_isAgg {t : TypeId} {b : Bool} (h : aggOf P t = some b) (w : World) : (isAgg t).run P w = .ok b w := by
  unfold aggOf at h
  cases hd : P.underlying t with
  | none => simp [hd] at h
  | some d =>
    simp only [hd, Option.map_some, Option.some.injEq] at h
    simp only [isAgg, run_bind, run_underlying hd]
    subst h
    cases d <;> rfl
theorem run_sizeOf {t : TypeId} {n : Nat} (h : (P.info? t).map (·.size) = some n) (w : World) : (sizeOf t).run P w = .ok n w := by
  cases hi : P.info? t with
  | none => simp [hi] at h
  | some i =>
    simp only [hi, Option.map_some, Option.some.injEq] at h
    simp [sizeOf, typeInfo, run_bind, run_program, hi, run_pure, h]
theorem run_zeroValue {t : TypeId} {v : Value} (h : (P.info? t).bind (·.zero) = some v) (w : World) : (zeroValue t).run P w = .ok v w := by
  cases hi : P.info? t with
  | none => simp [hi] at h
  | some i =>
    simp only [hi, Option.bind_some] at h
    simp [zeroValue, typeInfo, run_bind, run_program, hi, run_pure, h]
theorem run_fieldAt {s f off : Nat} {ft : TypeId} (h : fldOf P s f = some (off, ft)) (a : Addr) (w : World) :
    (Instr.fieldAt s (.pointer (some a)) f).run P w = .ok (.pointer (some (a.add off))) w := by
  unfold fldOf at h
  split at h
  · rename_i fs hs
    split at h
    · rename_i fd hf
      split at h
      · rename_i i hi
        split at h
        · cases h
        · rename_i hz
          simp only [Option.some.injEq, Prod.mk.injEq] at h
          have hsz : (P.info? fd.type).map (·.size) = some i.size := by simp [hi]
          simp only [Instr.fieldAt, run_bind, run_underlying hs, hf, Instr.sureAddr, run_pure, fieldPlace, run_sizeOf hsz, hz, if_false, h.1]
      · cases h
    · cases h
  · cases h
end

/-- Cells that may be read. -/
inductive Cel (b : Nat) (l : List Value) : List Chunk → Prop
  | blk {cs : List Chunk} : Cel b l (Sl.blk b l :: cs)
  | ro {cs : List Chunk} : Cel b l (Sl.ro b l :: cs)
  | there {x : Chunk} {cs : List Chunk} : Cel b l cs → Cel b l (x :: cs)
theorem Cel.heap {w0 w : World} {b : Nat} {l : List Value} {cs : List Chunk} (m : Cel b l cs) (H : Holds w0 w cs) : ∃ t, w.heap[b]? = some (.cells l.toArray t (0, 0)) := by
  induction m with
  | blk => obtain ⟨t, H⟩ := H.of_blk; exact ⟨t, (H.own_at (.head _)).1⟩
  | ro => obtain ⟨t, H⟩ := H.of_ex; exact ⟨t, H.imm_at (.head _)⟩
  | there _ ih => exact ih H.drop
theorem Cel.cell {w0 w : World} {b : Nat} {l : List Value} {cs : List Chunk} (m : Cel b l cs) (H : Holds w0 w cs) (off : Nat) : w.cell? ⟨b, off, none⟩ = l[off]? := by
  obtain ⟨t, h⟩ := m.heap H
  simp [World.cell?, h]

/-- Cells that are replaced. -/
inductive Upd (b : Nat) (l l' : List Value) : List Chunk → List Chunk → Prop
  | here {cs : List Chunk} : Upd b l l' (Sl.blk b l :: cs) (Sl.blk b l' :: cs)
  | there {x : Chunk} {cs cs' : List Chunk} : Upd b l l' cs cs' → Upd b l l' (x :: cs) (x :: cs')
theorem Upd.parts {b : Nat} {l l' : List Value} {cs cs' : List Chunk} (u : Upd b l l' cs cs') : ∃ r, Rem (Sl.blk b l) cs r ∧ Rem (Sl.blk b l') cs' r := by
  induction u with
  | @here cs => exact ⟨cs, .here, .here⟩
  | there _ ih => obtain ⟨r, x, y⟩ := ih; exact ⟨_, .there x, .there y⟩
theorem Upd.heap {w0 w : World} {b : Nat} {l l' : List Value} {cs cs' : List Chunk} (u : Upd b l l' cs cs') (H : Holds w0 w cs) : ∃ t, w.heap[b]? = some (.cells l.toArray t (0, 0)) := by
  obtain ⟨r, x, _⟩ := u.parts
  obtain ⟨t, H'⟩ := (H.front x).of_blk
  exact ⟨t, (H'.own_at (.head _)).1⟩
theorem heap_modify {w : World} {b : Nat} {o : Obj} {f : Obj → Obj} (h : w.heap[b]? = some o) (x : Nat) : (w.heap.modify b f)[x]? = if x = b then some (f o) else w.heap[x]? := by
  rw [Array.getElem?_modify]
  by_cases c : x = b
  · subst c; simp [h]
  · have : ¬ b = x := fun e => c e.symm
    simp [c, this]
theorem Upd.set {w0 w : World} {b off : Nat} {l : List Value} {v : Value} {cs cs' : List Chunk} (u : Upd b l (l.set off v) cs cs') (H : Holds w0 w cs) :
    Holds w0 (w.setCell ⟨b, off, none⟩ v) cs' := by
  obtain ⟨r, x, y⟩ := u.parts
  obtain ⟨t, H'⟩ := (H.front x).of_blk
  have hb := (H'.own_at (.head _)).1
  refine ((H'.put (o' := .cells (l.set off v).toArray t (0, 0)) .here (w' := w.setCell ⟨b, off, none⟩ v) (fun z => ?_) ?_ rfl rfl rfl).to_blk).back y
  · show (w.heap.modify b _)[z]? = _
    rw [heap_modify hb]
    simp
  · simp [World.setCell]
/-- Cells written one behind the other. -/
def wr (l : List Value) (off : Nat) : List Value → List Value
  | [] => l
  | v :: vs => wr (l.set off v) (off + 1) vs
theorem wr_length (l : List Value) (off : Nat) (vs : List Value) : (wr l off vs).length = l.length := by
  induction vs generalizing l off with
  | nil => rfl
  | cons v vs ih => simp [wr, ih]
def oneCells : List Value → Bool
  | [] => true
  | .agg _ :: _ | .tuple _ :: _ => false
  | _ :: vs => oneCells vs

section
variable {P : Program} {w0 : World} {env : Env} {cs : List Chunk} {K : Value → List Chunk → Prop} {d : Option Nat} {ty : TypeId} {pos : String} {af : Array Edge} {gd : Option (Nat × Bool)}

/-- A value that a pure operation gives. -/
theorem OpT.val {op : Op} {u : Value} (h : K u cs) (hr : ∀ ρ w, (∀ x ∈ op.operands, ∀ v, ev env x = some v → ρ x = v) → Holds w0 w cs → (execOp ρ ⟨d, op, ty, pos, af, gd⟩).run P w = .ok (.value u) w) :
    OpT P w0 ⟨d, op, ty, pos, af, gd⟩ env cs K := fun ρ w a b => by
  rw [hr ρ w a b]
  exact ⟨cs, b, h⟩

theorem OpT.move {x : Operand} {v : Value} (h : K v cs) (hx : ev env x = some v := by rfl) : OpT P w0 ⟨d, .move x, ty, pos, af, gd⟩ env cs K :=
  OpT.val h fun ρ w a _ => by simp [execOp, a x (by simp [Op.operands]) v hx, run_pure]
theorem OpT.assign {x : Operand} {v : Value} (h : K v cs) (hx : ev env x = some v := by rfl) : OpT P w0 ⟨d, .assign x, ty, pos, af, gd⟩ env cs K :=
  OpT.val h fun ρ w a _ => by simp [execOp, a x (by simp [Op.operands]) v hx, run_pure]
theorem OpT.pick {c x y : Operand} {b : Bool} {u v : Value} (h : K u cs) (hc : ev env c = some (.bool b) := by rfl) (hx : b = true → ev env x = some u := by rfl) (hy : b = false → ev env y = some u := by rfl) :
    OpT P w0 ⟨d, .pick c x y, ty, pos, af, gd⟩ env cs K :=
  OpT.val h fun ρ w a _ => by
    cases b
    · simp [execOp, a c (by simp [Op.operands]) _ hc, a y (by simp [Op.operands]) _ (hy rfl), run_bind, run_pure, asBool]
    · simp [execOp, a c (by simp [Op.operands]) _ hc, a x (by simp [Op.operands]) _ (hx rfl), run_bind, run_pure, asBool]

theorem OpT.nilCheck {x : Operand} {a : Addr} (h : K (.pointer (some a)) cs) (hx : ev env x = some (.pointer (some a)) := by rfl) : OpT P w0 ⟨d, .nilCheck x, ty, pos, af, gd⟩ env cs K :=
  OpT.val h fun ρ w r _ => by simp [execOp, r x (by simp [Op.operands]) _ hx, run_pure]
theorem OpT.nilCheck_func {x : Operand} {f : FuncId} {fs cap : Array Value} (h : K (.func (.func f) fs cap) cs) (hx : ev env x = some (.func (.func f) fs cap) := by rfl) : OpT P w0 ⟨d, .nilCheck x, ty, pos, af, gd⟩ env cs K :=
  OpT.val h fun ρ w r _ => by simp [execOp, r x (by simp [Op.operands]) _ hx, run_pure]

theorem OpT.fieldAddr {s f off : Nat} {ft : TypeId} {x : Operand} {b o : Nat} [hf : TFld P s f off ft] (h : K (.pointer (some ⟨b, o + off, none⟩)) cs) (hx : ev env x = some (.pointer (some ⟨b, o, none⟩)) := by rfl) : OpT P w0 ⟨d, .fieldAddr s x f, ty, pos, af, gd⟩ env cs K :=
  OpT.val h fun ρ w r _ => by
    have : (⟨b, o, none⟩ : Addr).add off = ⟨b, o + off, none⟩ := by
      unfold Addr.add; split
      · rename_i e; simp [e]
      · rfl
    simp [execOp, r x (by simp [Op.operands]) _ hx, run_bind, run_fieldAt hf.h, run_pure, this]

theorem addr_add (b o i : Nat) : (⟨b, o, none⟩ : Addr).add i = ⟨b, o + i, none⟩ := by
  unfold Addr.add; split
  · rename_i e; simp [e]
  · rfl

theorem run_loadCells {w : World} {b : Nat} (n : Nat) : ∀ (off i : Nat) (acc : Array Value) (vs : List Value), vs.length = n → (∀ j, j < n → w.cell? ⟨b, off + i + j, none⟩ = vs[j]?) →
    (loadCellsFrom ⟨b, off, none⟩ i n acc).run P w = .ok (acc ++ vs.toArray) w := by
  induction n with
  | zero => intro off i acc vs hl _; simp [List.eq_nil_of_length_eq_zero hl, loadCellsFrom, run_pure]
  | succ n ih =>
    intro off i acc vs hl hc
    match vs, hl with
    | v :: vs, hl =>
      have h0 := hc 0 (by omega)
      simp only [Nat.add_zero, List.getElem?_cons_zero] at h0
      simp only [loadCellsFrom, run_bind, addr_add, load, Sem.run, h0]
      rw [ih off (i + 1) (acc.push v) vs (by simpa using hl) (fun j hj => by
        have := hc (j + 1) (by omega)
        simp only [List.getElem?_cons_succ] at this
        rw [← this]; congr 2; omega)]
      simp

theorem run_store {w0 w : World} {b off : Nat} {l : List Value} {v : Value} {cs cs' : List Chunk} (hv : oneCells [v] = true) (u : Upd b l (l.set off v) cs cs') (H : Holds w0 w cs) (ho : off < l.length) :
    (store ⟨b, off, none⟩ v).run P w = .ok () (w.setCell ⟨b, off, none⟩ v) := by
  obtain ⟨t, hb⟩ := u.heap H
  have hc : w.cell? ⟨b, off, none⟩ = some l[off] := by simp [World.cell?, hb, ho]
  have hz : w.frozen? ⟨b, off, none⟩ = false := by simp [World.frozen?, hb]
  cases v <;> first | (simp [oneCells] at hv; done) | simp [store, Sem.run, hc, hz]

end
end Go.Sl

namespace Go.Sl

/-- A struct's fields: where each starts and how many cells it has. -/
def placesOf (P : Program) (t : TypeId) : Option (List (Nat × Nat)) :=
  match P.underlying t with
  | some (.struct fs) => fs.toList.mapM fun f => (P.info? f.type).map fun i => (f.offset, i.size)
  | _ => none
class TPlaces (P : Program) (t : TypeId) (ps : outParam (List (Nat × Nat))) : Prop where h : placesOf P t = some ps

def evParts (env : Env) : List (Nat × Operand) → Option (List (Nat × Value))
  | [] => some []
  | (i, x) :: r => match ev env x with
    | none => none
    | some v => match evParts env r with
      | none => none
      | some vs => some ((i, v) :: vs)
def fillL (place : Nat → Option (Nat × Nat)) (cells : List Value) : List (Nat × Value) → Option (List Value)
  | [] => some cells
  | (i, v) :: rest => match place i with
    | none => none
    | some (off, size) =>
      match v with
      | .agg cs => if cs.toList.length = size ∧ off + cs.toList.length ≤ cells.length then fillL place (wr cells off cs.toList) rest else none
      | v => if 1 = size ∧ off + 1 ≤ cells.length then fillL place (cells.set off v) rest else none

theorem foldl_wr (vs : List Value) : ∀ (l : List Value) (off k : Nat), (vs.zipIdx k).foldl (fun (cs : Array Value) (c : Value × Nat) => cs.setIfInBounds (off + c.2) c.1) l.toArray = (wr l (off + k) vs).toArray := by
  induction vs with
  | nil => intro l off k; rfl
  | cons v vs ih =>
    intro l off k
    simp only [List.zipIdx_cons, List.foldl_cons, wr]
    rw [show (l.toArray.setIfInBounds (off + k) v) = (l.set (off + k) v).toArray by simp, ih, Nat.add_assoc]

theorem fill_of (place : Nat → Option (Nat × Nat)) (ps : List (Nat × Value)) : ∀ (cells l : List Value), fillL place cells ps = some l → Instr.fill place cells.toArray ps = some l.toArray := by
  induction ps with
  | nil => intro cells l h; simp [fillL] at h; subst h; rfl
  | cons p ps ih =>
    intro cells l h
    obtain ⟨i, v⟩ := p
    simp only [fillL] at h
    simp only [Instr.fill]
    cases hp : place i with
    | none => simp [hp] at h
    | some q =>
      obtain ⟨off, size⟩ := q
      simp only [hp] at h
      by_cases hagg : ∃ cs, v = .agg cs
      · obtain ⟨cs, rfl⟩ := hagg
        simp only [] at h
        split at h
        · rename_i hc
          obtain ⟨h1, h2⟩ := hc
          simp only [Array.length_toList] at h1 h2
          have e := foldl_wr cs.toList cells off 0
          simp only [Nat.add_zero] at e
          have e2 : Array.foldl (fun cs (x : Value × Nat) => match x with | (c, j) => cs.setIfInBounds (off + j) c) cells.toArray (Value.agg cs).cells.zipIdx = (wr cells off cs.toList).toArray := by
            rw [← e, ← Array.foldl_toList]
            simp only [Value.cells, Array.toList_zipIdx]
          show (if _ then none else _) = _
          have hno : (decide (cs.size ≠ size) || decide (off + cs.size > cells.toArray.size)) = false := by
            rw [decide_eq_false (fun c : cs.size ≠ size => c h1), decide_eq_false (fun c : off + cs.size > cells.toArray.size => by simp only [List.size_toArray] at c; exact absurd c (Nat.not_lt.2 h2))]; rfl
          rw [if_neg (by rw [show (decide ((Value.agg cs).cells.size ≠ size) || decide (off + (Value.agg cs).cells.size > cells.toArray.size)) = false from hno]; simp)]
          rw [e2]
          exact ih _ _ h
        · cases h
      · have hv : v.cells = #[v] := by cases v <;> first | rfl | exact absurd ⟨_, rfl⟩ hagg
        have h' : (if 1 = size ∧ off + 1 ≤ cells.length then fillL place (cells.set off v) ps else none) = some l := by
          cases v <;> first | exact h | exact absurd ⟨_, rfl⟩ hagg
        split at h'
        · rename_i hc
          show (if _ then none else _) = _
          rw [if_neg (by simp [hv]; omega), hv]
          have e2 : Array.foldl (fun cs (x : Value × Nat) => match x with | (c, j) => cs.setIfInBounds (off + j) c) cells.toArray (#[v] : Array Value).zipIdx = (cells.set off v).toArray := by
            rw [← Array.foldl_toList]
            simp [Array.toList_zipIdx]
          rw [e2]
          exact ih _ _ h'
        · cases h'

section
variable {P : Program} {w0 : World} {env : Env} {cs : List Chunk} {K : Value → List Chunk → Prop} {d : Option Nat} {ty : TypeId} {pos : String} {af : Array Edge} {gd : Option (Nat × Bool)}

theorem run_storeCells {w0 : World} {b : Nat} (vs : List Value) : ∀ (off i : Nat) (l : List Value) (cs cs' : List Chunk) (w : World), oneCells vs = true → off + i + vs.length ≤ l.length →
    Upd b l (wr l (off + i) vs) cs cs' → Holds w0 w cs → ∃ w', (storeCells ⟨b, off, none⟩ vs i).run P w = .ok () w' ∧ Holds w0 w' cs' := by
  induction vs with
  | nil =>
    intro off i l cs cs' w _ _ u H
    refine ⟨w, rfl, ?_⟩
    obtain ⟨r, x, y⟩ := u.parts
    exact (H.front x).back y
  | cons v vs ih =>
    intro off i l cs cs' w h1 hl u H
    have hv : oneCells [v] = true := by cases v <;> first | rfl | (simp [oneCells] at h1)
    have h1' : oneCells vs = true := by cases v <;> first | exact h1 | (simp [oneCells] at h1)
    have hm : ∃ cm, Upd b l (l.set (off + i) v) cs cm ∧ Upd b (l.set (off + i) v) (wr l (off + i) (v :: vs)) cm cs' := by
      clear H ih
      induction u with
      | here => exact ⟨_, .here, .here⟩
      | there _ ih =>
        obtain ⟨cm, p, q⟩ := ih
        exact ⟨_, .there p, .there q⟩
    obtain ⟨cm, u1, u2⟩ := hm
    have hst := run_store (P := P) hv u1 H (by simp only [List.length_cons] at hl; omega)
    obtain ⟨w', hr, H'⟩ := ih off (i + 1) (l.set (off + i) v) cm cs' _ h1' (by simp only [List.length_cons] at hl; simp only [List.length_set]; omega) (by simpa [wr, Nat.add_assoc] using u2) (u1.set H)
    refine ⟨w', ?_, H'⟩
    simp only [storeCells, run_bind, addr_add, hst]
    exact hr

theorem OpT.fresh {op : Op} {u : Nat → Value} {o : Obj} (h : ∀ b, K (u b) (own b o :: cs))
    (hr : ∀ ρ w, (∀ x ∈ op.operands, ∀ v, ev env x = some v → ρ x = v) → Holds w0 w cs → (execOp ρ ⟨d, op, ty, pos, af, gd⟩).run P w = .ok (.value (u w.heap.size)) { w with heap := w.heap.push o }) :
    OpT P w0 ⟨d, op, ty, pos, af, gd⟩ env cs K := fun ρ w a H => by
  rw [hr ρ w a H]
  exact ⟨_, H.new o, h _⟩

theorem OpT.freshB {op : Op} {l : List Value} {t : TypeId} {u : Nat → Value} (h : ∀ b, K (u b) (blk b l :: cs))
    (hr : ∀ ρ w, (∀ x ∈ op.operands, ∀ v, ev env x = some v → ρ x = v) → Holds w0 w cs → (execOp ρ ⟨d, op, ty, pos, af, gd⟩).run P w = .ok (.value (u w.heap.size)) { w with heap := w.heap.push (.cells l.toArray t) }) :
    OpT P w0 ⟨d, op, ty, pos, af, gd⟩ env cs K := fun ρ w a H => by
  rw [hr ρ w a H]
  exact ⟨_, (H.new _).to_blk, h _⟩
theorem parts_map {ρ : Operand → Value} : ∀ (l : List (Nat × Operand)) (ps : List (Nat × Value)), (∀ x ∈ l.map (·.2), ∀ v, ev env x = some v → ρ x = v) → evParts env l = some ps → l.map (fun (p : Nat × Operand) => (p.1, ρ p.2)) = ps
  | [], ps, _, h => by simp [evParts] at h; simp [h]
  | (i, x) :: l, ps, hr, h => by
    simp only [evParts] at h
    split at h
    · cases h
    · rename_i v hv
      split at h
      · cases h
      · rename_i vs hvs
        simp only [Option.some.injEq] at h
        subst h
        simp only [List.map_cons, hr x (by simp) v hv, parts_map l vs (fun y hy => hr y (by simp only [List.map_cons, List.mem_cons]; exact .inr hy)) hvs]

def placeS (f : Go.Field) : Sem (Nat × Nat) := do pure (f.offset, ← sizeOf f.type)
theorem mapM_places {w : World} {fs : List Go.Field} {ps : List (Nat × Nat)} (hps : fs.mapM (fun f => (P.info? f.type).map fun i => (f.offset, i.size)) = some ps) :
    (fs.mapM placeS).run P w = .ok ps w := by
  induction fs generalizing ps with
  | nil => simp at hps; subst hps; rfl
  | cons a fs ih =>
    simp only [List.mapM_cons, Option.bind_eq_bind, Option.pure_def] at hps
    cases hi : P.info? a.type with
    | none => simp [hi] at hps
    | some i =>
      simp only [hi, Option.map_some, Option.bind_some] at hps
      cases hq : fs.mapM (fun f => (P.info? f.type).map fun i => (f.offset, i.size)) with
      | none => simp [hq] at hps
      | some qs =>
        simp only [hq, Option.bind_some, Option.some.injEq] at hps
        subst hps
        have hsz : (P.info? a.type).map (·.size) = some i.size := by simp [hi]
        simp only [List.mapM_cons, run_bind, placeS, run_sizeOf hsz, run_pure, ih hq]

theorem OpT.build {t : TypeId} {parts : List (Nat × Operand)} {places : List (Nat × Nat)} {zs cells : List Value} {ps : List (Nat × Value)} [hz : TZero P t (.agg zs.toArray)] [hp : TPlaces P t places] (h : K (.agg cells.toArray) cs) (hx : evParts env parts = some ps := by rfl) (hf : fillL (fun i => places[i]?) zs ps = some cells := by rfl) : OpT P w0 ⟨d, .build t parts.toArray, ty, pos, af, gd⟩ env cs K :=
  OpT.val h fun ρ w r _ => by
    have hm : (parts.toArray.map fun (p : Nat × Operand) => (p.1, ρ p.2)) = ps.toArray := by
      rw [← parts_map parts ps (fun x hx => r x (by simpa [Op.operands] using hx)) hx]; simp
    have hp' := hp.h
    unfold placesOf at hp'
    split at hp'
    · rename_i fs hu
      have hmm : (fs.mapM placeS).run P w = .ok places.toArray w := by
        rw [Array.mapM_eq_mapM_toList]
        show ((fs.toList.mapM placeS) >>= fun x => pure x.toArray : Sem (Array (Nat × Nat))).run P w = _
        rw [run_bind, mapM_places hp']
        rfl
      have hfill := fill_of _ ps zs cells hf
      have hb : (Instr.build t ps.toArray).run P w = .ok (.agg cells.toArray) w := by
        show (do
          let zero := (← zeroValue t).cells
          match ← underlying t with
          | .struct fields =>
            let places ← fields.mapM placeS
            let some cells := Instr.fill (places[·]?) zero ps.toArray.toList | stuck "build: no such field, or a part of the wrong size"
            pure (.agg cells)
          | .array _ elem =>
            let size ← sizeOf elem
            let some cells := Instr.fill (fun i => some (i * size, size)) zero ps.toArray.toList | stuck "build: a part of the wrong size"
            pure (.agg cells)
          | _ => stuck "build: struct or array type expected" : Sem Value).run P w = _
        simp only [run_bind, run_zeroValue hz.h, run_underlying hu, hmm, Value.cells, List.getElem?_toArray, hfill, run_pure]
      simp only [execOp, run_bind, run_pure, hm, hb]
    · cases hp'

end
end Go.Sl


namespace Go.Sl
section
variable {P : Program} {w0 : World} {env : Env} {cs : List Chunk} {K : Value → List Chunk → Prop} {d : Option Nat} {ty : TypeId} {pos : String} {af : Array Edge} {gd : Option (Nat × Bool)}

/-- An operation of two operands whose run does not look at the world. -/
theorem OpT.bin {op : BinOp} {t u : TypeId} {x y : Operand} {a b v : Value} (hx : ev env x = some a) (hy : ev env y = some b) (h : K v cs)
    (hr : ∀ w, (do eqGuard op t x y a b; binOp op t a b : Sem Value).run P w = .ok v w) : OpT P w0 ⟨d, .binOp op t x y u, ty, pos, af, gd⟩ env cs K :=
  OpT.val h fun ρ w r _ => by
    have := hr w
    simp only [run_bind] at this
    simp only [execOp, r x (by simp [Op.operands]) _ hx, r y (by simp [Op.operands]) _ hy, run_bind, run_pure]
    split at this
    · rename_i e; simp only [e, this]
    · cases this

def arithOf : BinOp → Int → Int → Option Int
  | .add, a, b => some (a + b)
  | .sub, a, b => some (a - b)
  | .mul, a, b => some (a * b)
  | _, _, _ => none
def cmpOf : BinOp → Int → Int → Option Bool
  | .eql, a, b => some (a == b)
  | .neq, a, b => some (a != b)
  | .lss, a, b => some (decide (a < b))
  | .leq, a, b => some (decide (a ≤ b))
  | .gtr, a, b => some (decide (b < a))
  | .geq, a, b => some (decide (b ≤ a))
  | _, _, _ => none
theorem OpT.arith {op : BinOp} {t u : TypeId} {x y : Operand} {k : IntKind} {a b c : Int} (hx : ev env x = some (.int k a)) (hy : ev env y = some (.int k b)) (hc : arithOf op a b = some c)
    (h : K (.int k (k.wrap c)) cs) : OpT P w0 ⟨d, .binOp op t x y u, ty, pos, af, gd⟩ env cs K :=
  OpT.bin hx hy h fun w => by cases op <;> simp [arithOf] at hc <;> subst hc <;> simp [eqGuard, binOp, Op.intArith, run_bind, run_pure]
theorem OpT.cmp {op : BinOp} {t u : TypeId} {x y : Operand} {k : IntKind} {a b : Int} {c : Bool} (h : K (.bool c) cs) (hx : ev env x = some (.int k a) := by rfl) (hy : ev env y = some (.int k b) := by rfl) (hc : cmpOf op a b = some c := by rfl) : OpT P w0 ⟨d, .binOp op t x y u, ty, pos, af, gd⟩ env cs K :=
  OpT.bin hx hy h fun w => by cases op <;> simp [cmpOf] at hc <;> subst hc <;> simp [eqGuard, binOp, Op.intCmp, run_bind, run_pure, Op.intBits, GT.gt, GE.ge]
theorem OpT.quo {t u : TypeId} {x y : Operand} {k : IntKind} {a b : Int} (h : K (.int k (k.wrap (a.tdiv b))) cs) (hx : ev env x = some (.int k a) := by rfl) (hy : ev env y = some (.int k b) := by rfl) (hb : b ≠ 0 := by first | decide | omega | assumption) : OpT P w0 ⟨d, .binOp .quo t x y u, ty, pos, af, gd⟩ env cs K :=
  OpT.bin hx hy h fun w => by simp [eqGuard, binOp, Op.intDiv, run_bind, run_pure, hb]
theorem OpT.rem {t u : TypeId} {x y : Operand} {k : IntKind} {a b : Int} (h : K (.int k (a.tmod b)) cs) (hx : ev env x = some (.int k a) := by rfl) (hy : ev env y = some (.int k b) := by rfl) (hb : b ≠ 0 := by first | decide | omega | assumption) : OpT P w0 ⟨d, .binOp .rem t x y u, ty, pos, af, gd⟩ env cs K :=
  OpT.bin hx hy h fun w => by simp [eqGuard, binOp, Op.intDiv, run_bind, run_pure, hb]
def bitsOf (op : BinOp) (k : IntKind) (a b : Int) : Option Int :=
  match op with
  | .and => some (k.wrap ((BitVec.ofInt k.bits a &&& BitVec.ofInt k.bits b).toNat : Nat))
  | .or => some (k.wrap ((BitVec.ofInt k.bits a ||| BitVec.ofInt k.bits b).toNat : Nat))
  | .xor => some (k.wrap ((BitVec.ofInt k.bits a ^^^ BitVec.ofInt k.bits b).toNat : Nat))
  | _ => none
theorem OpT.bits {op : BinOp} {t u : TypeId} {x y : Operand} {k : IntKind} {a b c : Int} (h : K (.int k c) cs) (hx : ev env x = some (.int k a) := by rfl) (hy : ev env y = some (.int k b) := by rfl) (hc : bitsOf op k a b = some c := by rfl) : OpT P w0 ⟨d, .binOp op t x y u, ty, pos, af, gd⟩ env cs K :=
  OpT.bin hx hy h fun w => by cases op <;> simp [bitsOf] at hc <;> subst hc <;> simp [eqGuard, binOp, Op.intBits, run_bind, run_pure]
theorem OpT.shl {t u : TypeId} {x y : Operand} {k k' : IntKind} {a b : Int} (h : K (.int k (k.wrap (a * 2 ^ (min b.toNat k.bits)))) cs) (hx : ev env x = some (.int k a) := by rfl) (hy : ev env y = some (.int k' b) := by rfl) (hb : ¬ b < 0 := by first | decide | omega | assumption) : OpT P w0 ⟨d, .binOp .shl t x y u, ty, pos, af, gd⟩ env cs K :=
  OpT.bin hx hy h fun w => by simp [eqGuard, binOp, Op.shift, run_bind, run_pure, hb]
theorem OpT.shr {t u : TypeId} {x y : Operand} {k k' : IntKind} {a b : Int} (h : K (.int k (a.fdiv (2 ^ (min b.toNat k.bits)))) cs) (hx : ev env x = some (.int k a) := by rfl) (hy : ev env y = some (.int k' b) := by rfl) (hb : ¬ b < 0 := by first | decide | omega | assumption) : OpT P w0 ⟨d, .binOp .shr t x y u, ty, pos, af, gd⟩ env cs K :=
  OpT.bin hx hy h fun w => by simp [eqGuard, binOp, Op.shift, run_bind, run_pure, hb]

def fcmpOf (op : BinOp) (a b : Nat) : Option Bool :=
  match op with
  | .eql => some (FloatKind.f64.format.order a b == some .eq)
  | .neq => some (FloatKind.f64.format.order a b != some .eq)
  | .lss => some (FloatKind.f64.format.order a b == some .lt)
  | .leq => some (FloatKind.f64.format.order a b == some .lt || FloatKind.f64.format.order a b == some .eq)
  | .gtr => some (FloatKind.f64.format.order a b == some .gt)
  | .geq => some (FloatKind.f64.format.order a b == some .gt || FloatKind.f64.format.order a b == some .eq)
  | _ => none
theorem OpT.fcmp {op : BinOp} {t u : TypeId} {x y : Operand} {a b : Nat} {c : Bool} (h : K (.bool c) cs) (hx : ev env x = some (.float .f64 a) := by rfl) (hy : ev env y = some (.float .f64 b) := by rfl) (hc : fcmpOf op a b = some c := by rfl) : OpT P w0 ⟨d, .binOp op t x y u, ty, pos, af, gd⟩ env cs K :=
  OpT.bin hx hy h fun w => by cases op <;> simp [fcmpOf] at hc <;> subst hc <;> simp [eqGuard, binOp, Op.floatCmp, run_bind, run_pure]

theorem run_eq {t : TypeId} {x y : Value} {r : Bool} (h : ∀ n, (Op.equalIn (n + 1) t x y).run P = fun w => .ok r w) (w : World) : (Op.equal t x y).run P w = .ok r w := by
  have := congrFun (h 9999) w
  exact this
theorem OpT.eql {t u : TypeId} {x y : Operand} {a b : Value} {r : Bool} (hx : ev env x = some a) (hy : ev env y = some b) (hb : binOp .eql t a b = (do pure (.bool (← Op.equal t a b))))
    (hg : ∀ w, (eqGuard .eql t x y a b).run P w = .ok () w) (hr : ∀ n, (Op.equalIn (n + 1) t a b).run P = fun w => .ok r w)
    (h : K (.bool r) cs) : OpT P w0 ⟨d, .binOp .eql t x y u, ty, pos, af, gd⟩ env cs K :=
  OpT.bin hx hy h fun w => by simp only [run_bind, hg, hb, run_eq hr, run_pure]
theorem OpT.neq {t u : TypeId} {x y : Operand} {a b : Value} {r : Bool} (hx : ev env x = some a) (hy : ev env y = some b) (hb : binOp .neq t a b = (do pure (.bool (!(← Op.equal t a b)))))
    (hg : ∀ w, (eqGuard .neq t x y a b).run P w = .ok () w) (hr : ∀ n, (Op.equalIn (n + 1) t a b).run P = fun w => .ok r w)
    (h : K (.bool !r) cs) : OpT P w0 ⟨d, .binOp .neq t x y u, ty, pos, af, gd⟩ env cs K :=
  OpT.bin hx hy h fun w => by simp only [run_bind, hg, hb, run_eq hr, run_pure]
theorem OpT.beq {t u : TypeId} {x y : Operand} {a b : Bool} [ht : TDesc P t .bool] (h : K (.bool (a == b)) cs) (hx : ev env x = some (.bool a) := by rfl) (hy : ev env y = some (.bool b) := by rfl) : OpT P w0 ⟨d, .binOp .eql t x y u, ty, pos, af, gd⟩ env cs K :=
  OpT.eql (r := a == b) hx hy rfl (fun w => rfl) (fun n => funext fun w => by simp [Op.equalIn, run_bind, run_pure, run_underlying ht.h]) (by exact h)
theorem OpT.bne {t u : TypeId} {x y : Operand} {a b : Bool} [ht : TDesc P t .bool] (h : K (.bool (a != b)) cs) (hx : ev env x = some (.bool a) := by rfl) (hy : ev env y = some (.bool b) := by rfl) : OpT P w0 ⟨d, .binOp .neq t x y u, ty, pos, af, gd⟩ env cs K :=
  OpT.neq (r := a == b) hx hy rfl (fun w => rfl) (fun n => funext fun w => by simp [Op.equalIn, run_bind, run_pure, run_underlying ht.h]) (by exact h)
theorem OpT.pnil {t u e : TypeId} {x y : Operand} {a : Option Addr} [ht : TDesc P t (.pointer e)] (h : K (.bool (a.isNone)) cs) (hx : ev env x = some (.pointer a) := by rfl) (hy : ev env y = some (.pointer none) := by rfl) : OpT P w0 ⟨d, .binOp .eql t x y u, ty, pos, af, gd⟩ env cs K :=
  OpT.eql (r := a.isNone) hx hy rfl (fun w => rfl) (fun n => funext fun w => by cases a <;> simp [Op.equalIn, run_bind, run_pure, run_underlying ht.h]) (by cases a <;> exact h)
theorem OpT.pnotnil {t u e : TypeId} {x y : Operand} {a : Option Addr} [ht : TDesc P t (.pointer e)] (h : K (.bool (a.isSome)) cs) (hx : ev env x = some (.pointer a) := by rfl) (hy : ev env y = some (.pointer none) := by rfl) : OpT P w0 ⟨d, .binOp .neq t x y u, ty, pos, af, gd⟩ env cs K :=
  OpT.neq (r := a.isNone) hx hy rfl (fun w => rfl) (fun n => funext fun w => by cases a <;> simp [Op.equalIn, run_bind, run_pure, run_underlying ht.h]) (by cases a <;> exact h)
theorem OpT.snil {t u e : TypeId} {x y : Operand} {a : Option Addr} {n c : Nat} [ht : TDesc P t (.slice e)] (h : K (.bool (a.isNone)) cs) (hx : ev env x = some (.slice a n c) := by rfl) (hy : ev env y = some (.slice none 0 0) := by rfl) : OpT P w0 ⟨d, .binOp .eql t x y u, ty, pos, af, gd⟩ env cs K :=
  OpT.eql (r := a.isNone) hx hy rfl (fun w => rfl) (fun n => funext fun w => by cases a <;> simp [Op.equalIn, run_bind, run_pure, run_underlying ht.h]) (by cases a <;> exact h)
theorem OpT.snotnil {t u e : TypeId} {x y : Operand} {a : Option Addr} {n c : Nat} [ht : TDesc P t (.slice e)] (h : K (.bool (a.isSome)) cs) (hx : ev env x = some (.slice a n c) := by rfl) (hy : ev env y = some (.slice none 0 0) := by rfl) : OpT P w0 ⟨d, .binOp .neq t x y u, ty, pos, af, gd⟩ env cs K :=
  OpT.neq (r := a.isNone) hx hy rfl (fun w => rfl) (fun n => funext fun w => by cases a <;> simp [Op.equalIn, run_bind, run_pure, run_underlying ht.h]) (by cases a <;> exact h)
theorem OpT.not {t : TypeId} {x : Operand} {a : Bool} (h : K (.bool !a) cs) (hx : ev env x = some (.bool a) := by rfl) : OpT P w0 ⟨d, .unOp .not t x, ty, pos, af, gd⟩ env cs K :=
  OpT.val h fun ρ w r _ => by simp [execOp, r x (by simp [Op.operands]) _ hx, Op.unary, run_bind, run_pure]
theorem OpT.neg {t : TypeId} {x : Operand} {k : IntKind} {a : Int} (h : K (.int k (k.wrap (0 - a))) cs) (hx : ev env x = some (.int k a) := by rfl) : OpT P w0 ⟨d, .unOp .neg t x, ty, pos, af, gd⟩ env cs K :=
  OpT.val h fun ρ w r _ => by simp [execOp, r x (by simp [Op.operands]) _ hx, Op.unary, Op.intArith, run_bind, run_pure]
theorem OpT.fneg {t : TypeId} {x : Operand} {a : Nat} (h : K (.float .f64 (Op.negFloat .f64 a)) cs) (hx : ev env x = some (.float .f64 a) := by rfl) : OpT P w0 ⟨d, .unOp .neg t x, ty, pos, af, gd⟩ env cs K :=
  OpT.val h fun ρ w r _ => by simp [execOp, r x (by simp [Op.operands]) _ hx, Op.unary, run_bind, run_pure]

theorem OpT.conv_ii {s t : TypeId} {x : Operand} {j k k' : IntKind} {a : Int} [hs : TDesc P s (.int j)] [ht : TDesc P t (.int k)] (h : K (.int k (k.wrap a)) cs) (hx : ev env x = some (.int k' a) := by rfl) :
    OpT P w0 ⟨d, .convert s t x, ty, pos, af, gd⟩ env cs K :=
  OpT.val h fun ρ w r _ => by simp [execOp, r x (by simp [Op.operands]) _ hx, convert, run_underlying hs.h, run_underlying ht.h, Conv.intToInt, run_bind, run_pure]
theorem OpT.conv_if {s t : TypeId} {x : Operand} {j k' : IntKind} {a : Int} [hs : TDesc P s (.int j)] [ht : TDesc P t (.float .f64)] (h : K (.float .f64 (FloatKind.f64.nearest a)) cs) (hx : ev env x = some (.int k' a) := by rfl) :
    OpT P w0 ⟨d, .convert s t x, ty, pos, af, gd⟩ env cs K :=
  OpT.val h fun ρ w r _ => by simp [execOp, r x (by simp [Op.operands]) _ hx, convert, run_underlying hs.h, run_underlying ht.h, Conv.intToFloat, run_bind, run_pure]
theorem OpT.conv_ff {s t : TypeId} {x : Operand} {a : Nat} [hs : TDesc P s (.float .f64)] [ht : TDesc P t (.float .f64)] (h : K (.float .f64 a) cs) (hx : ev env x = some (.float .f64 a) := by rfl) :
    OpT P w0 ⟨d, .convert s t x, ty, pos, af, gd⟩ env cs K :=
  OpT.val h fun ρ w r _ => by simp [execOp, r x (by simp [Op.operands]) _ hx, convert, run_underlying hs.h, run_underlying ht.h, Conv.floatToFloat, run_bind, run_pure]
theorem OpT.conv_fi {s t : TypeId} {x : Operand} {k : IntKind} {a : Nat} {n : Int} [hs : TDesc P s (.float .f64)] [ht : TDesc P t (.int k)] (h : K (.int k n) cs) (hx : ev env x = some (.float .f64 a) := by rfl) (hn : (FloatKind.f64.decode a).toInt .zero = some n := by rfl) (h1 : k.min ≤ n := by first | decide | omega | assumption) (h2 : n ≤ k.max := by first | decide | omega | assumption) :
    OpT P w0 ⟨d, .convert s t x, ty, pos, af, gd⟩ env cs K :=
  OpT.val h fun ρ w r _ => by simp [execOp, r x (by simp [Op.operands]) _ hx, convert, run_underlying hs.h, run_underlying ht.h, Conv.floatToInt, run_bind, run_pure, hn, h1, h2]

theorem OpT.extract {i : Nat} {x : Operand} {vs : List Value} {v : Value} (h : K v cs) (hx : ev env x = some (.tuple vs.toArray) := by rfl) (hv : vs[i]? = some v := by rfl) : OpT P w0 ⟨d, .extract x i, ty, pos, af, gd⟩ env cs K :=
  OpT.val h fun ρ w r _ => by simp [execOp, r x (by simp [Op.operands]) _ hx, Instr.extract, run_bind, run_pure, hv]
theorem OpT.field1 {t : TypeId} {i off : Nat} {ft : TypeId} {x : Operand} {vs : List Value} {v : Value} [hf : TFld P t i off ft] [ha : TAgg P ft false] (h : K v cs) (hx : ev env x = some (.agg vs.toArray) := by rfl) (hv : vs[off]? = some v := by rfl) :
    OpT P w0 ⟨d, .field t x i, ty, pos, af, gd⟩ env cs K :=
  OpT.val h fun ρ w r _ => by
    have hf' := hf.h
    unfold fldOf at hf'
    split at hf'
    · rename_i fs hs
      split at hf'
      · rename_i fd hfd
        split at hf'
        · split at hf'
          · cases hf'
          · simp only [Option.some.injEq, Prod.mk.injEq] at hf'
            simp [execOp, r x (by simp [Op.operands]) _ hx, Instr.field, run_bind, run_pure, run_underlying hs, hfd, asAgg, part, hf'.2, hf'.1, run_isAgg ha.h, hv]
        · cases hf'
      · cases hf'
    · cases hf'
theorem OpT.fieldN {t : TypeId} {i off n : Nat} {ft : TypeId} {x : Operand} {vs us : List Value} [hf : TFld P t i off ft] [ha : TAgg P ft true] [hs : TSize P ft n] (h : K (.agg us.toArray) cs) (hx : ev env x = some (.agg vs.toArray) := by rfl) (hv : (vs.drop off).take n = us := by rfl) :
    OpT P w0 ⟨d, .field t x i, ty, pos, af, gd⟩ env cs K :=
  OpT.val h fun ρ w r _ => by
    have hf' := hf.h
    unfold fldOf at hf'
    split at hf'
    · rename_i fs hss
      split at hf'
      · rename_i fd hfd
        split at hf'
        · split at hf'
          · cases hf'
          · simp only [Option.some.injEq, Prod.mk.injEq] at hf'
            have e : vs.toArray.extract off (off + n) = us.toArray := by rw [← hv]; simp [List.extract_eq_take_drop]
            simp [execOp, r x (by simp [Op.operands]) _ hx, Instr.field, run_bind, run_pure, run_underlying hss, hfd, asAgg, part, hf'.2, hf'.1, run_isAgg ha.h, run_sizeOf hs.h, e, hv]
        · cases hf'
      · cases hf'
    · cases hf'

theorem OpT.indexAddr {t e : TypeId} {n len cap b off : Nat} {k : IntKind} {i : Int} {x y : Operand} [ht : TDesc P t (.slice e)] [hs : TSize P e n] (h : K (.pointer (some ⟨b, off + i.toNat * n, none⟩)) cs) (hx : ev env x = some (.slice (some ⟨b, off, none⟩) len cap) := by rfl) (hy : ev env y = some (.int k i) := by rfl) (h0 : 0 ≤ i := by first | decide | omega | assumption) (h1 : i < len := by first | decide | omega | assumption) : OpT P w0 ⟨d, .indexAddr t x y, ty, pos, af, gd⟩ env cs K :=
  OpT.val h fun ρ w r _ => by
    simp [execOp, r x (by simp [Op.operands]) _ hx, r y (by simp [Op.operands]) _ hy, Instr.indexAt, asIntOf, run_bind, run_pure, run_underlying ht.h, run_sizeOf hs.h, h0, h1, addr_add]
theorem OpT.indexAddr_arr {t e : TypeId} {n len b off : Nat} {k : IntKind} {i : Int} {x y : Operand} [ht : TDesc P t (.array len e)] [hs : TSize P e n] (h : K (.pointer (some ⟨b, off + i.toNat * n, none⟩)) cs) (hx : ev env x = some (.pointer (some ⟨b, off, none⟩)) := by rfl) (hy : ev env y = some (.int k i) := by rfl) (h0 : 0 ≤ i := by first | decide | omega | assumption) (h1 : i < len := by first | decide | omega | assumption) : OpT P w0 ⟨d, .indexAddr t x y, ty, pos, af, gd⟩ env cs K :=
  OpT.val h fun ρ w r _ => by
    simp [execOp, r x (by simp [Op.operands]) _ hx, r y (by simp [Op.operands]) _ hy, Instr.indexAt, Instr.sureAddr, asIntOf, run_bind, run_pure, run_underlying ht.h, run_sizeOf hs.h, h0, h1, addr_add]
theorem OpT.index1 {t e : TypeId} {len n : Nat} {k : IntKind} {i : Int} {x y : Operand} {vs : List Value} {v : Value} [ht : TDesc P t (.array len e)] [ha : TAgg P e false] [hs : TSize P e n] (h : K v cs) (hx : ev env x = some (.agg vs.toArray) := by rfl) (hy : ev env y = some (.int k i) := by rfl) (h0 : 0 ≤ i := by first | decide | omega | assumption) (h1 : i < len := by first | decide | omega | assumption) (hv : vs[i.toNat * n]? = some v := by rfl) : OpT P w0 ⟨d, .index t x y, ty, pos, af, gd⟩ env cs K :=
  OpT.val h fun ρ w r _ => by
    simp [execOp, r x (by simp [Op.operands]) _ hx, r y (by simp [Op.operands]) _ hy, Instr.index, asIntOf, run_bind, run_pure, run_underlying ht.h, run_sizeOf hs.h, h0, h1, part, run_isAgg ha.h, hv]
theorem OpT.index_str {t : TypeId} {k : IntKind} {i : Int} {x y : Operand} {s : ByteArray} {c : UInt8} [ht : TDesc P t .string] (h : K (.int .u8 c.toNat) cs) (hx : ev env x = some (.string s) := by rfl) (hy : ev env y = some (.int k i) := by rfl) (h0 : 0 ≤ i := by first | decide | omega | assumption) (hv : s[i.toNat]? = some c := by rfl) : OpT P w0 ⟨d, .index t x y, ty, pos, af, gd⟩ env cs K :=
  OpT.val h fun ρ w r _ => by
    simp [execOp, r x (by simp [Op.operands]) _ hx, r y (by simp [Op.operands]) _ hy, Instr.index, asIntOf, run_bind, run_pure, run_underlying ht.h, h0, hv]

/-- A bound of a slice expression, or its default. -/
def bnd (env : Env) (dflt : Int) : Option Operand → Option Int
  | none => some dflt
  | some x => match ev env x with
    | some (.int _ i) => some i
    | _ => none
theorem run_bnd {ρ : Operand → Value} {y code : _} {w : World} {x : Operand} {i : Int} {dflt : Int} (hr : ∀ v, ev env x = some v → ρ x = v) (h : bnd env dflt (some x) = some i) (h0 : 0 ≤ i) (h1 : i ≤ (y : Nat)) :
    (Instr.sliceBound (ρ x) y code).run P w = .ok i.toNat w := by
  simp only [bnd] at h
  split at h
  · rename_i k j hj
    simp only [Option.some.injEq] at h
    subst h
    simp [hr _ hj, Instr.sliceBound, asIntOf, run_bind, run_pure, h0, h1]
  · cases h
theorem OpT.slice {t e : TypeId} {n len cap : Nat} {a : Option Addr} {x : Operand} {lo hi : Option Operand} {l h : Int} [ht : TDesc P t (.slice e)] [hs : TSize P e n] (hk : K (.slice (if cap = l.toNat then a else a.map (·.add (l.toNat * n))) (h.toNat - l.toNat) (cap - l.toNat)) cs) (hx : ev env x = some (.slice a len cap) := by rfl) (hl : bnd env 0 lo = some l := by rfl) (hh : bnd env len hi = some h := by rfl) (h0 : 0 ≤ l := by first | decide | omega | assumption) (h1 : l ≤ h := by first | decide | omega | assumption) (h2 : h ≤ cap := by first | decide | omega | assumption) (hlc : hi = none → h ≤ cap := by first | decide | omega | assumption) : OpT P w0 ⟨d, .slice t x lo hi none, ty, pos, af, gd⟩ env cs K :=
  OpT.val hk fun ρ w r _ => by
    have e1 : (Instr.sliceBounds true len cap (lo.map ρ) (hi.map ρ) none).run P w = .ok (l.toNat, h.toNat, cap) w := by
      cases hi with
      | none =>
        simp only [bnd, Option.some.injEq] at hh
        cases lo with
        | none =>
          simp only [bnd, Option.some.injEq] at hl
          subst hl; subst hh
          simp [Instr.sliceBounds, run_bind, run_pure]
        | some y =>
          have := run_bnd (P := P) (ρ := ρ) (y := len) (code := .sliceB) (w := w) (fun v hv => r y (by simp [Op.operands]) v hv) hl h0 (by omega)
          subst hh
          simp [Instr.sliceBounds, run_bind, run_pure, this]
      | some z =>
        have hz := run_bnd (P := P) (ρ := ρ) (y := cap) (code := .sliceAcap) (w := w) (fun v hv => r z (by simp [Op.operands]) v hv) (by simpa [bnd] using hh : bnd env 0 (some z) = some h) (by omega) h2
        cases lo with
        | none =>
          simp only [bnd, Option.some.injEq] at hl
          subst hl
          simp [Instr.sliceBounds, run_bind, run_pure, hz]
        | some y =>
          have := run_bnd (P := P) (ρ := ρ) (y := h.toNat) (code := .sliceB) (w := w) (fun v hv => r y (by simp [Op.operands]) v hv) hl h0 (by omega)
          simp [Instr.sliceBounds, run_bind, run_pure, hz, this]
    simp [execOp, r x (by simp [Op.operands]) _ hx, Instr.sliceAt, Instr.slice, run_bind, run_pure, run_underlying ht.h, run_sizeOf hs.h, e1]

theorem OpT.makeFunc {f : FuncId} {first cap : List Operand} {fs vs : List Value} (h : K (.func (.func f) fs.toArray vs.toArray) cs) (hf : evs env first = some fs := by rfl) (hc : evs env cap = some vs := by rfl) :
    OpT P w0 ⟨d, .makeFunc (.func f) first.toArray cap.toArray, ty, pos, af, gd⟩ env cs K :=
  OpT.val h fun ρ w r _ => by
    have key : ∀ (xs : List Operand) (us : List Value), (∀ x ∈ xs, ∀ v, ev env x = some v → ρ x = v) → evs env xs = some us → xs.map ρ = us := by
      intro xs
      induction xs with
      | nil => intro us _ h; simp [evs] at h; simp [h]
      | cons x xs ih =>
        intro us hr h
        simp only [evs] at h
        split at h
        · cases h
        · rename_i v hv
          split at h
          · cases h
          · rename_i ws hws
            simp only [Option.some.injEq] at h
            subst h
            simp only [List.map_cons, hr x (.head _) v hv, ih ws (fun y hy => hr y (.tail _ hy)) hws]
    have h1 := key first fs (fun x hx => r x (by simp [Op.operands, hx])) hf
    have h2 := key cap vs (fun x hx => r x (by simp [Op.operands, hx])) hc
    simp [execOp, Instr.makeFunc, run_bind, run_pure, h1, h2]
theorem OpT.makeMap {t : TypeId} (h : ∀ b, K (.map (some b)) (own b (.map #[] 0) :: cs)) : OpT P w0 ⟨d, .makeMap t none, ty, pos, af, gd⟩ env cs K :=
  OpT.fresh (o := .map #[] 0) h fun ρ w _ _ => by simp [execOp, Instr.makeMap, run_bind, run_pure, newObj, Sem.run]

theorem evs_map {ρ : Operand → Value} : ∀ (xs : List Operand) (us : List Value), (∀ x ∈ xs, ∀ v, ev env x = some v → ρ x = v) → evs env xs = some us → xs.map ρ = us
  | [], us, _, h => by simp [evs] at h; simp [h]
  | x :: xs, us, hr, h => by
    simp only [evs] at h
    split at h
    · cases h
    · rename_i v hv
      split at h
      · cases h
      · rename_i ws hws
        simp only [Option.some.injEq] at h
        subst h
        simp only [List.map_cons, hr x (.head _) v hv, evs_map xs ws (fun y hy => hr y (.tail _ hy)) hws]

/-- A built-in function that only computes. -/
theorem OpT.builtin {b : Builtin} {args : List Operand} {vs : List Value} {ts : Array TypeId} {v : Value} (ha : evs env args = some vs) (h : K v cs)
    (hr : ∀ w consts, Holds w0 w cs → (Go.builtin b ts ty consts vs.toArray).run P w = .ok (.value v) w) : OpT P w0 ⟨d, .call ⟨.builtin b, args.toArray, ts⟩, ty, pos, af, gd⟩ env cs K :=
  OpT.val h fun ρ w r H => by
    have h1 := evs_map args vs (fun x hx => r x (by simp [Op.operands, Call.operands, hx])) ha
    simp [execOp, resolve, run_bind, run_pure, invoke, h1, hr w _ H]
theorem OpT.len_slice {args : List Operand} {t e : TypeId} {a : Option Addr} {n c : Nat} [ht : TDesc P t (.slice e)] (h : K (.int .i64 n) cs) (ha : evs env args = some [.slice a n c] := by rfl) :
    OpT P w0 ⟨d, .call ⟨.builtin .len, args.toArray, #[t]⟩, ty, pos, af, gd⟩ env cs K :=
  OpT.builtin ha h fun w _ _ => by simp [Go.builtin, Builtin.len_, run_bind, run_pure, run_underlying ht.h, goInt]
theorem OpT.len_str {args : List Operand} {t : TypeId} {s : ByteArray} [ht : TDesc P t .string] (h : K (.int .i64 s.size) cs) (ha : evs env args = some [.string s] := by rfl) :
    OpT P w0 ⟨d, .call ⟨.builtin .len, args.toArray, #[t]⟩, ty, pos, af, gd⟩ env cs K :=
  OpT.builtin ha h fun w _ _ => by simp [Go.builtin, Builtin.len_, run_bind, run_pure, run_underlying ht.h, goInt]
theorem OpT.real {args : List Operand} {ts : Array TypeId} {k : FloatKind} {a b : Nat} (h : K (.float k a) cs) (ha : evs env args = some [.complex k a b] := by rfl) :
    OpT P w0 ⟨d, .call ⟨.builtin .real, args.toArray, ts⟩, ty, pos, af, gd⟩ env cs K :=
  OpT.builtin ha h fun w _ _ => rfl
theorem OpT.imag {args : List Operand} {ts : Array TypeId} {k : FloatKind} {a b : Nat} (h : K (.float k b) cs) (ha : evs env args = some [.complex k a b] := by rfl) :
    OpT P w0 ⟨d, .call ⟨.builtin .imag, args.toArray, ts⟩, ty, pos, af, gd⟩ env cs K :=
  OpT.builtin ha h fun w _ _ => rfl
theorem OpT.complex {args : List Operand} {ts : Array TypeId} {a b : Nat} (h : K (.complex .f64 a b) cs) (ha : evs env args = some [.float .f64 a, .float .f64 b] := by rfl) :
    OpT P w0 ⟨d, .call ⟨.builtin .complex, args.toArray, ts⟩, ty, pos, af, gd⟩ env cs K :=
  OpT.builtin ha h fun w _ _ => rfl
theorem OpT.min {args : List Operand} {ts : Array TypeId} {k : IntKind} {a b : Int} (h : K (.int k (if b < a then b else a)) cs) (ha : evs env args = some [.int k a, .int k b] := by rfl) :
    OpT P w0 ⟨d, .call ⟨.builtin .min, args.toArray, ts⟩, ty, pos, af, gd⟩ env cs K :=
  OpT.builtin ha h fun w _ _ => by simp [Go.builtin, Builtin.min_, Builtin.min2, run_bind, run_pure]
theorem OpT.max {args : List Operand} {ts : Array TypeId} {k : IntKind} {a b : Int} (h : K (.int k (if b > a then b else a)) cs) (ha : evs env args = some [.int k a, .int k b] := by rfl) :
    OpT P w0 ⟨d, .call ⟨.builtin .max, args.toArray, ts⟩, ty, pos, af, gd⟩ env cs K :=
  OpT.builtin ha h fun w _ _ => by simp [Go.builtin, Builtin.max_, Builtin.max2, run_bind, run_pure]
end
end Go.Sl

namespace Go.Sl

/-- May be used without being used up. -/
class PersC (c : Chunk) : Prop where h : Pers c
instance {b : Nat} {o : Obj} : PersC (imm b o) := ⟨Pers.imm⟩
instance {b : Nat} {l : List Value} : PersC (ro b l) := ⟨Pers.ex fun _ => Pers.imm⟩
instance {p : Prop} : PersC (pur p) := ⟨Pers.pur⟩

inductive Takes : List Chunk → List Chunk → List Chunk → Prop
  | nil {cs : List Chunk} : Takes [] cs cs
  | cons {c : Chunk} {ci cs cs1 R : List Chunk} : Rem c cs cs1 → Takes ci cs1 R → Takes (c :: ci) cs R
  | keep {c : Chunk} {ci cs cs1 R : List Chunk} (p : PersC c) : Rem c cs cs1 → Takes ci cs R → Takes (c :: ci) cs R
theorem Takes.ent {ci cs R : List Chunk} (t : Takes ci cs R) : Ent cs (ci ++ R) := by
  induction t with
  | nil => exact Ent.rfl'
  | cons r _ ih => exact (Ent.rem r).trans (Ent.cons ih)
  | keep p r _ ih => exact (Ent.rem r).trans ((Ent.dup p.h).trans (Ent.cons ((Ent.rem' r).trans ih)))

def FnOk (P : Program) (f : FuncId) : Prop := ∃ fn, P.funcs[f]? = some fn ∧ (fn.name == "runtime.NumGoroutine") = false ∧ fn.body.isNone = false

structure Spec (P : Program) (f : FuncId) (args : List Value) (pre : List Chunk) (Ψ : Value → List Chunk → Prop) : Prop where
  ok : FnOk P f
  run : ∀ w0 R w, Holds w0 w (pre ++ R) → Calls P f args.toArray w fun e w' => ∃ v, e = .returned v ∧ ∃ post, Ψ v post ∧ Holds w0 w' (post ++ R)

theorem Spec.mono {P : Program} {f : FuncId} {args : List Value} {pre : List Chunk} {Ψ Ψ' : Value → List Chunk → Prop} (s : Spec P f args pre Ψ) (m : ∀ v post, Ψ v post → Ψ' v post) : Spec P f args pre Ψ' :=
  ⟨s.ok, fun w0 R w H => (s.run w0 R w H).mono fun _ _ ⟨v, e, p, a, b⟩ => ⟨v, e, p, m _ _ a, b⟩⟩
/-- From other chunks. -/
theorem Spec.ent {P : Program} {f : FuncId} {args : List Value} {pre pre' : List Chunk} {Ψ : Value → List Chunk → Prop} (s : Spec P f args pre Ψ) (m : Ent pre' pre) : Spec P f args pre' Ψ :=
  ⟨s.ok, fun w0 R w H => s.run w0 R w (H.ent (Ent.app m))⟩

section
variable {P : Program} {w0 : World} {env : Env} {cs : List Chunk} {K : Value → List Chunk → Prop} {d : Option Nat} {ty : TypeId} {pos : String} {af : Array Edge} {gd : Option (Nat × Bool)}

theorem run_callFunc {f : FuncId} {args : Array Value} (h : FnOk P f) (w : World) : (callFunc f args).run P w = .ok (.enter f args) w := by
  obtain ⟨fn, hf, hn, hb⟩ := h
  simp only [callFunc, run_bind, run_program, hf, hn, hb, Bool.false_eq_true, if_false, run_pure]

theorem OpT.callv {x : Operand} {f : FuncId} {args : List Operand} {first cap vs : List Value} {ts : Array TypeId} {pre R : List Chunk} {Ψ : Value → List Chunk → Prop} (hx : ev env x = some (.func (.func f) first.toArray cap.toArray))
    (ha : evs env args = some vs) (spec : Spec P f (first ++ vs ++ cap) pre Ψ) (t : Takes pre cs R) (h : ∀ v post, Ψ v post → K v (post ++ R)) :
    OpT P w0 ⟨d, .call ⟨.value x, args.toArray, ts⟩, ty, pos, af, gd⟩ env cs K := fun ρ w r H => by
  have h1 := evs_map args vs (fun y hy => r y (by simp [Op.operands, Call.operands, hy])) ha
  have h2 := r x (by simp [Op.operands, Call.operands]) _ hx
  have : (execOp ρ ⟨d, .call ⟨.value x, args.toArray, ts⟩, ty, pos, af, gd⟩).run P w = .ok (.enter f (first ++ vs ++ cap).toArray) w := by
    simp [execOp, resolve, run_bind, run_pure, invoke, h1, h2, Deferred.ofValue, run_callFunc spec.ok]
  rw [this]
  exact (spec.run w0 R w (H.ent t.ent)).mono fun e w' ⟨v, he, post, hp, hh⟩ => ⟨v, he, _, hh, h v post hp⟩
theorem OpT.call {f : FuncId} {args : List Operand} {vs : List Value} {ts : Array TypeId} {pre R : List Chunk} {Ψ : Value → List Chunk → Prop} (spec : Spec P f vs pre Ψ)
    (h : ∀ v post, Ψ v post → K v (post ++ R)) (ha : evs env args = some vs := by rfl)
    (t : Takes pre cs R := by repeat (first | exact Takes.nil | (apply Takes.keep; infer_instance; (repeat (first | exact Rem.here | apply Rem.there))) | (apply Takes.cons; (repeat (first | exact Rem.here | apply Rem.there))))) :
    OpT P w0 ⟨d, .call ⟨.value (.func f), args.toArray, ts⟩, ty, pos, af, gd⟩ env cs K :=
  OpT.callv (first := []) (cap := []) (hx := rfl) ha (by simpa using spec) t h
end
/-- A function that gives one answer. -/
abbrev SpecD (P : Program) (f : FuncId) (args : List Value) (pre : List Chunk) (v : Value) (post : List Chunk) : Prop :=
  Spec P f args pre fun v' post' => v' = v ∧ post' = post
/-- What a body comes to. -/
def Fin (w0 : World) (R : List Chunk) (Ψ : Value → List Chunk → Prop) : Ending → World → Prop :=
  fun e w' => ∃ v, e = .returned v ∧ ∃ post, Ψ v post ∧ Holds w0 w' (post ++ R)

def argEnv : Nat → List Value → Env
  | _, [] => []
  | i, v :: vs => (i, v) :: argEnv (i + 1) vs
theorem argEnv_at (vs : List Value) : ∀ (i t : Nat) (v : Value), lk (argEnv i vs) t = some v → i ≤ t ∧ vs[t - i]? = some v := by
  induction vs with
  | nil => intro i t v h; cases h
  | cons u vs ih =>
    intro i t v h
    simp only [argEnv, lk_cons] at h
    by_cases c : i = t
    · subst c; simpa using h
    · simp only [c, if_false] at h
      obtain ⟨h1, h2⟩ := ih (i + 1) t v h
      refine ⟨by omega, ?_⟩
      rw [show t - i = (t - (i + 1)) + 1 by omega, List.getElem?_cons_succ]
      exact h2

theorem Spec.intro {P : Program} {f : FuncId} {fn : Func} {c : Code} {args : List Value} {pre : List Chunk} {Ψ : Value → List Chunk → Prop} (hf : P.funcs[f]? = some fn) (hb : fn.body = some c)
    (hn : (fn.name == "runtime.NumGoroutine") = false) (hsz : Nat.ble args.length fn.ntmps = true)
    (h : ∀ w0 R, T P w0 c (bodyPost P fn (Fin w0 R Ψ)) fn.ntmps (argEnv 0 args) (pre ++ R)) : Spec P f args pre Ψ where
  ok := ⟨fn, hf, hn, by simp [hb]⟩
  run := fun w0 R w H => by
    have hle := Nat.le_of_ble_eq_true hsz
    refine calls_of_wp hf hb (h w0 R _ w ⟨?_, rfl, fun t v e => ?_⟩ H)
    · simp; omega
    · obtain ⟨_, h2⟩ := argEnv_at args 0 t v e
      simp only [Nat.sub_zero] at h2
      have hlt : t < args.length := by
        rcases Nat.lt_or_ge t args.length with x | x
        · exact x
        · rw [List.getElem?_eq_none x] at h2; cases h2
      simp only [List.append_toArray, List.getElem?_toArray, Array.getElem?_append]
      simp only [List.size_toArray, hlt, if_true, List.getElem?_toArray, h2]

/-- What a result's variable holds. -/
inductive Res (P : Program) (env : Env) (cs : List Chunk) : ResultVar → Value → Prop
  | tmp {t : Tmp} {v : Value} : lk env t = some v → Res P env cs (.tmp t) v
  | cell1 {t : Tmp} {ty : TypeId} {b off : Nat} {l : List Value} {v : Value} [TAgg P ty false] : lk env t = some (.pointer (some ⟨b, off, none⟩)) → Cel b l cs → l[off]? = some v → Res P env cs (.cell t ty) v
  | cellN {t : Tmp} {ty : TypeId} {b off n : Nat} {l vs : List Value} [TAgg P ty true] [TSize P ty n] : lk env t = some (.pointer (some ⟨b, off, none⟩)) → Cel b l cs → (l.drop off).take n = vs → vs.length = n → Res P env cs (.cell t ty) (.agg vs.toArray)
inductive Ress (P : Program) (env : Env) (cs : List Chunk) : List ResultVar → List Value → Prop
  | nil : Ress P env cs [] []
  | cons {r : ResultVar} {rs : List ResultVar} {v : Value} {vs : List Value} : Res P env cs r v → Ress P env cs rs vs → Ress P env cs (r :: rs) (v :: vs)
def tupled : List Value → Value
  | [v] => v
  | vs => .tuple vs.toArray

def resS (tmps : Array Value) : ResultVar → Sem Value
  | .tmp t => pure (tmps.getD t undef)
  | .cell a t => do loadVar t (← asAddr (tmps.getD a undef))
theorem Res.run {P : Program} {env : Env} {cs : List Chunk} {r : ResultVar} {v : Value} (h : Res P env cs r v) {w0 w : World} {a : Act} {n : Nat} (he : EnvOk a n env) (H : Holds w0 w cs) :
    (resS a.tmps r).run P w = .ok v w := by
  cases h with
  | tmp e => simp [resS, Array.getD_eq_getD_getElem?, he.at_ _ _ e, run_pure]
  | @cell1 t ty b off l v ha e m hv =>
    have hc := m.cell H off
    rw [hv] at hc
    simp [resS, Array.getD_eq_getD_getElem?, he.at_ _ _ e, run_bind, run_pure, asAddr, loadVar, run_isAgg ha.h, load, Sem.run, hc]
  | @cellN t ty b off n l vs ha hs e m hv hn =>
    have : (loadCells ⟨b, off, none⟩ n).run P w = .ok vs.toArray w := by
      unfold loadCells
      rw [run_loadCells n off 0 #[] vs hn (fun j hj => by rw [m.cell H, ← hv]; simp [List.getElem?_take, hj])]
      simp
    simp [resS, Array.getD_eq_getD_getElem?, he.at_ _ _ e, run_bind, run_pure, asAddr, loadVar, run_isAgg ha.h, run_sizeOf hs.h, this]
theorem Ress.run {P : Program} {env : Env} {cs : List Chunk} {rs : List ResultVar} {vs : List Value} (h : Ress P env cs rs vs) {w0 w : World} {a : Act} {n : Nat} (he : EnvOk a n env) (H : Holds w0 w cs) :
    (rs.mapM (resS a.tmps)).run P w = .ok vs w := by
  induction h with
  | nil => rfl
  | cons x _ ih => simp only [List.mapM_cons, run_bind, x.run he H, ih, run_pure]

/-- Chunks that are let go. -/
inductive Drops : List Chunk → List Chunk → Prop
  | refl {cs : List Chunk} : Drops cs cs
  | drop {x : Chunk} {cs R : List Chunk} : Drops cs R → Drops (x :: cs) R
theorem X.final {P : Program} {w0 : World} {fn : Func} {R : List Chunk} {Ψ : Value → List Chunk → Prop} {n : Nat} {env : Env} {cs : List Chunk} {rs : List ResultVar} {vs : List Value} {post : List Chunk} {e : Exit} (he : e = .ret ∨ e = .normal)
    (hr : fn.results = rs.toArray) (hres : Ress P env cs rs vs) (hp : Ψ (tupled vs) post) (hc : ∀ w, Holds w0 w cs → Holds w0 w (post ++ R)) : X w0 (bodyPost P fn (Fin w0 R Ψ)) e n env cs := fun a w hea H => by
  have key : (results fn a.tmps).run P w = .ok (tupled vs) w := by
    have h1 : (rs.toArray.mapM (resS a.tmps)).run P w = .ok vs.toArray w := by
      rw [Array.mapM_eq_mapM_toList]
      show ((rs.mapM (resS a.tmps)) >>= fun x => pure x.toArray : Sem (Array Value)).run P w = _
      rw [run_bind, hres.run hea H]
      rfl
    show (do let vs ← fn.results.mapM (resS a.tmps); pure (if h : vs.size = 1 then vs[0] else .tuple vs) : Sem Value).run P w = _
    rw [hr, run_bind, h1]
    match vs with
    | [] => rfl
    | [v] => rfl
    | _ :: _ :: _ => rfl
  rcases he with rfl | rfl
  · exact ⟨hea.defers, _, key, _, rfl, post, hp, hc _ H⟩
  · exact ⟨hea.defers, _, key, _, rfl, post, hp, hc _ H⟩
theorem Drops.holds {w0 w : World} {cs R : List Chunk} (d : Drops cs R) (H : Holds w0 w cs) : Holds w0 w R := by
  induction d with
  | refl => exact H
  | drop _ ih => exact ih H.drop
theorem Drops.tail {w0 w : World} {a cs R : List Chunk} (d : Drops cs R) (H : Holds w0 w (a ++ cs)) : Holds w0 w (a ++ R) := by
  induction d with
  | refl => exact H
  | @drop x cs R _ ih =>
    refine ih ?_
    obtain ⟨h, s, z, p, q⟩ := H.ex
    obtain ⟨h1, h2, sp, y1, h3, h4, sp', _, y3⟩ := sat_append.1 z
    refine ⟨⟨fun b => match h1 b with | some o => some o | none => h4 b, s, sat_append.2 ⟨h1, h4, (sp.assoc sp').2, y1, y3⟩, fun b o hb => ?_, q⟩, H.old, H.size, H.os, H.out, H.tape⟩
    exact p b o ((sp.assoc sp').1.right hb)

/-- The end of a body: its results, and what is left. -/
theorem X.done {P : Program} {w0 : World} {fn : Func} {R R' : List Chunk} {Ψ : Value → List Chunk → Prop} {n : Nat} {env : Env} {cs : List Chunk} {rs : List ResultVar} {vs : List Value} {post : List Chunk} {e : Exit}
    (hp : Ψ (tupled vs) post) (hres : Ress P env cs rs vs) (he : e = .ret ∨ e = .normal := by first | exact .inl rfl | exact .inr rfl)
    (hr : fn.results = rs.toArray := by rfl)
    (t : Takes post cs R' := by repeat (first | exact Takes.nil | (apply Takes.keep; infer_instance; (repeat (first | exact Rem.here | apply Rem.there))) | (apply Takes.cons; (repeat (first | exact Rem.here | apply Rem.there)))))
    (dr : Drops R' R := by repeat (first | exact Drops.refl | apply Drops.drop)) : X w0 (bodyPost P fn (Fin w0 R Ψ)) e n env cs :=
  X.final he hr hres hp fun _ H => dr.tail (H.ent t.ent)
end Go.Sl

namespace Go.Sl

/-- For each operation, which ones go ahead of it whatever the order (a mask of bits). -/
def maskOf (acc : List Nat) : List Edge → Nat
  | [] => 0
  | e :: es => if Region.binds .any e then (2 ^ e.on ||| acc.getD e.on 0) ||| maskOf acc es else maskOf acc es
def masks : List Oper → List Nat → List Nat
  | [], acc => acc
  | o :: r, acc => masks r (acc ++ [maskOf acc o.after.toList])
def edgesOk : Nat → List Oper → Bool
  | _, [] => true
  | i, o :: r => (o.after.toList.all fun e => !Region.binds .any e || Nat.blt e.on i) && edgesOk (i + 1) r

section
variable {ops : List Oper}
abbrev Ls (listed : Array Bool) (i : Nat) : Prop := listed.getD i false = true
def Closed (ops : List Oper) (listed : Array Bool) : Prop := ∀ i o, ops[i]? = some o → Ls listed i → ∀ e ∈ o.after.toList, Region.binds .any e = true → Ls listed e.on

theorem testBit_two_pow (n m : Nat) : (2 ^ n).testBit m = decide (n = m) := Nat.testBit_two_pow

theorem maskOf_bit {acc : List Nat} {es : List Edge} {j : Nat} (h : (maskOf acc es).testBit j = true) : ∃ e ∈ es, Region.binds .any e = true ∧ (e.on = j ∨ (acc.getD e.on 0).testBit j = true) := by
  induction es with
  | nil => simp [maskOf] at h
  | cons e es ih =>
    simp only [maskOf] at h
    split at h
    · rename_i hb
      simp only [Nat.testBit_or, Bool.or_eq_true, testBit_two_pow, decide_eq_true_eq] at h
      rcases h with h | h
      · exact ⟨e, .head _, hb, h⟩
      · obtain ⟨e', m, x⟩ := ih h
        exact ⟨e', .tail _ m, x⟩
    · obtain ⟨e', m, x⟩ := ih h
      exact ⟨e', .tail _ m, x⟩

theorem masks_get (l : List Oper) : ∀ (acc : List Nat), acc.length + l.length = (masks l acc).length ∧ (∀ k, k < acc.length → (masks l acc)[k]? = acc[k]?) ∧
    (∀ k o, l[k]? = some o → (masks l acc).getD (acc.length + k) 0 = maskOf ((masks l acc).take (acc.length + k)) o.after.toList) := by
  induction l with
  | nil => intro acc; exact ⟨by simp [masks], fun k _ => rfl, fun k o h => by simp at h⟩
  | cons o l ih =>
    intro acc
    obtain ⟨h1, h2, h3⟩ := ih (acc ++ [maskOf acc o.after.toList])
    simp only [List.length_append, List.length_cons, List.length_nil, Nat.zero_add] at h1 h2 h3
    refine ⟨by simp only [masks, List.length_cons]; omega, fun k hk => ?_, fun k o' hk => ?_⟩
    · simp only [masks]
      rw [h2 k (by omega), List.getElem?_append_left hk]
    · simp only [masks]
      cases k with
      | zero =>
        simp only [List.getElem?_cons_zero, Option.some.injEq] at hk
        subst hk
        have hm := h2 acc.length (by omega)
        simp only [Nat.add_zero, List.getD_eq_getElem?_getD, hm]
        rw [List.getElem?_append_right (Nat.le_refl _)]
        simp only [Nat.sub_self, List.getElem?_cons_zero, Option.getD_some]
        congr 1
        apply List.ext_getElem?
        intro i
        rw [List.getElem?_take]
        split
        · rename_i hi
          rw [h2 i (by omega), List.getElem?_append_left hi]
        · rename_i hi
          rw [List.getElem?_eq_none (by omega)]
      | succ k =>
        simp only [List.getElem?_cons_succ] at hk
        have := h3 k o' hk
        rw [show acc.length + (k + 1) = acc.length + 1 + k by omega]
        exact this

theorem mask_listed {listed : Array Bool} (hc : Closed ops listed) : ∀ (i : Nat) (o : Oper), ops[i]? = some o → (∀ e ∈ o.after.toList, Region.binds .any e = true → Ls listed e.on) →
    ∀ j, ((masks ops []).getD i 0).testBit j = true → Ls listed j := by
  intro i
  induction i using Nat.strongRecOn with
  | _ i ih =>
    intro o ho hr j hj
    obtain ⟨_, _, h3⟩ := masks_get ops []
    have hm := h3 i o ho
    simp only [List.length_nil, Nat.zero_add] at hm
    rw [hm] at hj
    obtain ⟨e, he, hb, hx⟩ := maskOf_bit hj
    have hl := hr e he hb
    rcases hx with rfl | hx
    · exact hl
    · by_cases hlt : e.on < i
      · rw [List.getD_eq_getElem?_getD, List.getElem?_take_of_lt hlt, ← List.getD_eq_getElem?_getD] at hx
        cases ho' : ops[e.on]? with
        | none =>
          have h1 := (masks_get ops []).1
          rw [List.getElem?_eq_none_iff] at ho'
          rw [List.getD_eq_getElem?_getD, List.getElem?_eq_none (by simp at h1; omega)] at hx
          simp at hx
        | some o' => exact ih e.on hlt o' ho' (fun e' he' hb' => hc e.on o' ho' hl e' he' hb') j hx
      · rw [List.getD_eq_getElem?_getD, List.getElem?_eq_none (by simp; omega)] at hx
        simp at hx
end

def putE (env : Env) : Option Nat → Value → Env
  | some d, v => (d, v) :: env
  | none, _ => env

/-- The operands' temporaries, and the guard's. -/
def reads (ops : List Oper) (o : Oper) : List Nat :=
  (o.op.operands.toList.filterMap fun | .tmp t => some t | _ => none) ++ (match o.guard with | some (g, _) => (gtmp ops g).toList | none => [])

/-- What operation i reads was written ahead of it, whatever the order, or is written behind it. -/
def readsOk (ops : List Oper) (ms : List Nat) (i : Nat) (o : Oper) : Bool :=
  (reads ops o).all fun t => ops.zipIdx.all fun (p, j) => p.dst != some t || (Nat.blt j i && (ms.getD i 0).testBit j) || (Nat.ble i j && (Nat.beq i j || (ms.getD j 0).testBit i))
def dsts : List Oper → List Nat
  | [] => []
  | o :: r => o.dst.toList ++ dsts r
def distinct : List Nat → Bool
  | [] => true
  | x :: xs => !xs.contains x && distinct xs
def allReads (ops : List Oper) (ms : List Nat) : Nat → List Oper → Bool
  | _, [] => true
  | i, o :: r => readsOk ops ms i o && allReads ops ms (i + 1) r
/-- A region whose order may be drawn. -/
def drawOk (ops : List Oper) : Bool := edgesOk 0 ops && distinct (dsts ops) && allReads ops (masks ops []) 0 ops

/-- The operations in the order of the text, at one stage: those that only read are run; those that write and are done have their value; the others wait. -/
inductive Stg (P : Program) (w0 : World) (n : Nat) (ops : List Oper) (es nexts : List Nat) (done : List (Nat × Value)) (cs : List Chunk) : Nat → List Oper → Env → Env → Prop
  | nil {i : Nat} {env : Env} : Stg P w0 n ops es nexts done cs i [] env env
  | q {i : Nat} {d : Option Nat} {op : Op} {ty : TypeId} {pos : String} {af : Array Edge} {rest : List Oper} {env E : Env} {v : Value} :
      OpT P w0 ⟨d, op, ty, pos, af, none⟩ env cs (fun v' cs' => v' = v ∧ cs' = cs) → Stg P w0 n ops es nexts done cs (i + 1) rest (putE env d v) E →
      Stg P w0 n ops es nexts done cs i (⟨d, op, ty, pos, af, none⟩ :: rest) env E
  | g {i j t : Nat} {b : Bool} {d : Option Nat} {op : Op} {ty : TypeId} {pos : String} {af : Array Edge} {rest : List Oper} {env E : Env} {v : Value} :
      gtmp ops j = some t → lk env t = some (.bool b) →
      OpT P w0 ⟨d, op, ty, pos, af, some (j, b)⟩ env cs (fun v' cs' => v' = v ∧ cs' = cs) → Stg P w0 n ops es nexts done cs (i + 1) rest (putE env d v) E →
      Stg P w0 n ops es nexts done cs i (⟨d, op, ty, pos, af, some (j, b)⟩ :: rest) env E
  | gn {i j t : Nat} {b : Bool} {d : Option Nat} {op : Op} {ty : TypeId} {pos : String} {af : Array Edge} {rest : List Oper} {env E : Env} :
      gtmp ops j = some t → lk env t = some (.bool !b) → Stg P w0 n ops es nexts done cs (i + 1) rest (putE env d undef) E →
      Stg P w0 n ops es nexts done cs i (⟨d, op, ty, pos, af, some (j, b)⟩ :: rest) env E
  | gu {i j t : Nat} {b : Bool} {d : Option Nat} {op : Op} {ty : TypeId} {pos : String} {af : Array Edge} {rest : List Oper} {env E : Env} :
      gtmp ops j = some t → lk env t = some undef → Stg P w0 n ops es nexts done cs (i + 1) rest (putE env d undef) E →
      Stg P w0 n ops es nexts done cs i (⟨d, op, ty, pos, af, some (j, b)⟩ :: rest) env E
  | done {i : Nat} {o : Oper} {rest : List Oper} {env E : Env} {v : Value} : lk done i = some v → Stg P w0 n ops es nexts done cs (i + 1) rest (putE env o.dst v) E → Stg P w0 n ops es nexts done cs i (o :: rest) env E
  | wait {i : Nat} {o : Oper} {rest : List Oper} {env E : Env} : (nexts.contains i || es.any fun e => ((masks ops []).getD i 0).testBit e) = true → Stg P w0 n ops es nexts done cs (i + 1) rest env E → Stg P w0 n ops es nexts done cs i (o :: rest) env E
end Go.Sl
namespace Go.Sl
section
variable {P : Program} {w0 : World} {n : Nat} {ops : List Oper} {es nexts : List Nat} {done : List (Nat × Value)} {cs : List Chunk}

theorem lk_putE_ne {env : Env} {d : Option Nat} {v : Value} {t : Nat} (h : d ≠ some t) : lk (putE env d v) t = lk env t := by
  cases d with
  | none => rfl
  | some x =>
    have : ¬ x = t := fun e => h (by rw [e])
    simp [putE, lk_cons, this]

theorem Stg.keep {i : Nat} {l : List Oper} {env E : Env} (s : Stg P w0 n ops es nexts done cs i l env E) {t : Nat} (h : ∀ o ∈ l, o.dst ≠ some t) : lk E t = lk env t := by
  induction s with
  | nil => rfl
  | q _ _ ih => rw [ih (fun o m => h o (.tail _ m))]; exact lk_putE_ne (h _ (.head _))
  | g _ _ _ _ ih => rw [ih (fun o m => h o (.tail _ m))]; exact lk_putE_ne (h _ (.head _))
  | gn _ _ _ ih => rw [ih (fun o m => h o (.tail _ m))]; exact lk_putE_ne (h _ (.head _))
  | gu _ _ _ ih => rw [ih (fun o m => h o (.tail _ m))]; exact lk_putE_ne (h _ (.head _))
  | done _ _ ih => rw [ih (fun o m => h o (.tail _ m))]; exact lk_putE_ne (h _ (.head _))
  | wait _ _ ih => exact ih (fun o m => h o (.tail _ m))

/-- What becomes of the operation at place k. -/
inductive At (P : Program) (ops : List Oper) (es nexts : List Nat) (done : List (Nat × Value)) (cs : List Chunk) (w0 : World) (i : Nat) (o : Oper) (env : Env) (E : Env) : Prop
  | run {v : Value} : (∀ j b, o.guard = some (j, b) → ∃ t, gtmp ops j = some t ∧ lk env t = some (.bool b)) → OpT P w0 o env cs (fun v' cs' => v' = v ∧ cs' = cs) → (∀ d, o.dst = some d → lk E d = some v) → At P ops es nexts done cs w0 i o env E
  | not {j t : Nat} {b : Bool} {u : Value} : o.guard = some (j, b) → gtmp ops j = some t → lk env t = some u → (u = .bool !b ∨ u = undef) → (∀ d, o.dst = some d → lk E d = some undef) → At P ops es nexts done cs w0 i o env E
  | done {v : Value} : lk done i = some v → (∀ d, o.dst = some d → lk E d = some v) → At P ops es nexts done cs w0 i o env E
  | wait : (nexts.contains i || es.any fun e => ((masks ops []).getD i 0).testBit e) = true → At P ops es nexts done cs w0 i o env E

theorem distinct_not {l : List Oper} {o : Oper} {d : Nat} (hd : distinct (dsts (o :: l)) = true) (h : o.dst = some d) : ∀ p ∈ l, p.dst ≠ some d := by
  intro p hp hpd
  simp only [dsts, h, Option.toList_some, List.singleton_append, distinct, Bool.and_eq_true, Bool.not_eq_true'] at hd
  have : d ∈ dsts l := by
    clear hd
    induction l with
    | nil => cases hp
    | cons x l ih =>
      simp only [dsts, List.mem_append]
      cases hp with
      | head => exact .inl (by simp [hpd])
      | tail _ m => exact .inr (ih m)
  have h2 := hd.1
  simp [List.contains_iff_mem, this] at h2
theorem distinct_tail {l : List Oper} {o : Oper} (hd : distinct (dsts (o :: l)) = true) : distinct (dsts l) = true := by
  cases h : o.dst with
  | none => simpa [dsts, h] using hd
  | some d =>
    simp only [dsts, h, Option.toList_some, List.singleton_append, distinct, Bool.and_eq_true] at hd
    exact hd.2

theorem Stg.at {k : Nat} {l : List Oper} {env E : Env} (s : Stg P w0 n ops es nexts done cs k l env E) (hd : distinct (dsts l) = true) : ∀ (i : Nat) (o : Oper), l[i]? = some o →
    ∃ env', At P ops es nexts done cs w0 (k + i) o env' E ∧ (∀ t, (∀ p ∈ l.take i, p.dst ≠ some t) → lk env' t = lk env t) ∧ (∀ t, (∀ p ∈ l.drop i, p.dst ≠ some t) → lk E t = lk env' t) := by
  induction s with
  | nil => intro i o h; simp at h
  | @q i0 d op ty pos af rest env E v h s ih =>
    intro i o ho
    cases i with
    | zero =>
      simp only [List.getElem?_cons_zero, Option.some.injEq] at ho
      subst ho
      refine ⟨env, .run (fun j b hg => by cases hg) h (fun x hx => ?_), fun t _ => rfl, fun t ht => ?_⟩
      · rw [s.keep (distinct_not hd hx)]; simp only at hx; subst hx; simp [putE, lk_cons]
      · simp only [List.drop_zero] at ht
        rw [s.keep (fun p m => ht p (.tail _ m))]; exact lk_putE_ne (ht _ (.head _))
    | succ i =>
      obtain ⟨e', h1, h2, h3⟩ := ih (distinct_tail hd) i o (by simpa using ho)
      refine ⟨e', by rw [show i0 + (i + 1) = i0 + 1 + i by omega]; exact h1, fun t ht => ?_, fun t ht => h3 t (by simpa using ht)⟩
      simp only [List.take_succ_cons, List.mem_cons, forall_eq_or_imp] at ht
      rw [h2 t ht.2]; exact lk_putE_ne ht.1
  | @g i0 j t0 b d op ty pos af rest env E v hg hl h s ih =>
    intro i o ho
    cases i with
    | zero =>
      simp only [List.getElem?_cons_zero, Option.some.injEq] at ho
      subst ho
      refine ⟨env, .run (fun j' b' hg' => by simp only [Option.some.injEq, Prod.mk.injEq] at hg'; obtain ⟨rfl, rfl⟩ := hg'; exact ⟨t0, hg, hl⟩) h (fun x hx => ?_), fun t _ => rfl, fun t ht => ?_⟩
      · rw [s.keep (distinct_not hd hx)]; simp only at hx; subst hx; simp [putE, lk_cons]
      · simp only [List.drop_zero] at ht
        rw [s.keep (fun p m => ht p (.tail _ m))]; exact lk_putE_ne (ht _ (.head _))
    | succ i =>
      obtain ⟨e', h1, h2, h3⟩ := ih (distinct_tail hd) i o (by simpa using ho)
      refine ⟨e', by rw [show i0 + (i + 1) = i0 + 1 + i by omega]; exact h1, fun t ht => ?_, fun t ht => h3 t (by simpa using ht)⟩
      simp only [List.take_succ_cons, List.mem_cons, forall_eq_or_imp] at ht
      rw [h2 t ht.2]; exact lk_putE_ne ht.1
  | @gn i0 j t0 b d op ty pos af rest env E hg hl s ih =>
    intro i o ho
    cases i with
    | zero =>
      simp only [List.getElem?_cons_zero, Option.some.injEq] at ho
      subst ho
      refine ⟨env, .not rfl hg hl (.inl rfl) (fun x hx => ?_), fun t _ => rfl, fun t ht => ?_⟩
      · rw [s.keep (distinct_not hd hx)]; simp only at hx; subst hx; simp [putE, lk_cons]
      · simp only [List.drop_zero] at ht
        rw [s.keep (fun p m => ht p (.tail _ m))]; exact lk_putE_ne (ht _ (.head _))
    | succ i =>
      obtain ⟨e', h1, h2, h3⟩ := ih (distinct_tail hd) i o (by simpa using ho)
      refine ⟨e', by rw [show i0 + (i + 1) = i0 + 1 + i by omega]; exact h1, fun t ht => ?_, fun t ht => h3 t (by simpa using ht)⟩
      simp only [List.take_succ_cons, List.mem_cons, forall_eq_or_imp] at ht
      rw [h2 t ht.2]; exact lk_putE_ne ht.1
  | @gu i0 j t0 b d op ty pos af rest env E hg hl s ih =>
    intro i o ho
    cases i with
    | zero =>
      simp only [List.getElem?_cons_zero, Option.some.injEq] at ho
      subst ho
      refine ⟨env, .not rfl hg hl (.inr rfl) (fun x hx => ?_), fun t _ => rfl, fun t ht => ?_⟩
      · rw [s.keep (distinct_not hd hx)]; simp only at hx; subst hx; simp [putE, lk_cons]
      · simp only [List.drop_zero] at ht
        rw [s.keep (fun p m => ht p (.tail _ m))]; exact lk_putE_ne (ht _ (.head _))
    | succ i =>
      obtain ⟨e', h1, h2, h3⟩ := ih (distinct_tail hd) i o (by simpa using ho)
      refine ⟨e', by rw [show i0 + (i + 1) = i0 + 1 + i by omega]; exact h1, fun t ht => ?_, fun t ht => h3 t (by simpa using ht)⟩
      simp only [List.take_succ_cons, List.mem_cons, forall_eq_or_imp] at ht
      rw [h2 t ht.2]; exact lk_putE_ne ht.1
  | @done i0 o0 rest env E v hv s ih =>
    intro i o ho
    cases i with
    | zero =>
      simp only [List.getElem?_cons_zero, Option.some.injEq] at ho
      subst ho
      refine ⟨env, .done hv (fun x hx => ?_), fun t _ => rfl, fun t ht => ?_⟩
      · rw [s.keep (distinct_not hd hx), hx]; simp [putE, lk_cons]
      · simp only [List.drop_zero] at ht
        rw [s.keep (fun p m => ht p (.tail _ m))]; exact lk_putE_ne (ht _ (.head _))
    | succ i =>
      obtain ⟨e', h1, h2, h3⟩ := ih (distinct_tail hd) i o (by simpa using ho)
      refine ⟨e', by rw [show i0 + (i + 1) = i0 + 1 + i by omega]; exact h1, fun t ht => ?_, fun t ht => h3 t (by simpa using ht)⟩
      simp only [List.take_succ_cons, List.mem_cons, forall_eq_or_imp] at ht
      rw [h2 t ht.2]; exact lk_putE_ne ht.1
  | @wait i0 o0 rest env E hb s ih =>
    intro i o ho
    cases i with
    | zero =>
      simp only [List.getElem?_cons_zero, Option.some.injEq] at ho
      subst ho
      refine ⟨env, .wait hb, fun t _ => rfl, fun t ht => ?_⟩
      simp only [List.drop_zero] at ht
      rw [s.keep (fun p m => ht p (.tail _ m))]
    | succ i =>
      obtain ⟨e', h1, h2, h3⟩ := ih (distinct_tail hd) i o (by simpa using ho)
      refine ⟨e', by rw [show i0 + (i + 1) = i0 + 1 + i by omega]; exact h1, fun t ht => ?_, fun t ht => h3 t (by simpa using ht)⟩
      simp only [List.take_succ_cons, List.mem_cons, forall_eq_or_imp] at ht
      exact h2 t ht.2
end

structure Inv (w0 : World) (ops : List Oper) (n : Nat) (es : List Nat) (done : List (Nat × Value)) (env0 E : Env) (cs : List Chunk) (listed : Array Bool) (a : Act) (w : World) : Prop where
  len : listed.size = ops.length
  closed : Closed ops listed
  rem : ∀ e ∈ es, ¬ Ls listed e
  dn : ∀ i v, lk done i = some v → Ls listed i
  size : a.tmps.size = n
  defers : a.defers = []
  out : ∀ t v, lk env0 t = some v → (∀ i o, ops[i]? = some o → o.dst = some t → ¬ Ls listed i) → a.tmps[t]? = some v
  inn : ∀ i o d, ops[i]? = some o → Ls listed i → o.dst = some d → ∃ v, lk E d = some v ∧ a.tmps[d]? = some v
  holds : Holds w0 w cs

def unl (listed : Array Bool) : Nat := (listed.toList.filter (!·)).length

/-- From the state in which es are still to be done, whatever has been listed: the region comes to Q. -/
def DSt (P : Program) (w0 : World) (ops : List Oper) (Q : Exit → Act → World → Prop) (n : Nat) (es : List Nat) (done : List (Nat × Value)) (env0 E : Env) (cs : List Chunk) : Prop :=
  ∀ fuel listed a w, unl listed ≤ fuel → Inv w0 ops n es done env0 E cs listed a w → wpAny P .any ops.toArray Q fuel listed a w

theorem getD_lt {listed : Array Bool} {i : Nat} (h : i < listed.size) (x y : Bool) : listed.getD i x = listed.getD i y := by
  simp [Array.getD, h]
theorem mem_ready {ops : List Oper} {listed : Array Bool} {i : Nat} (hlen : listed.size = ops.length) : i ∈ Region.ready .any ops.toArray listed ↔ ∃ o, ops[i]? = some o ∧ ¬ Ls listed i ∧ ∀ e ∈ o.after.toList, Region.binds .any e = true → Ls listed e.on := by
  simp only [Region.ready, List.mem_filter, List.mem_range, List.size_toArray, Bool.and_eq_true, Bool.not_eq_true', List.getElem?_toArray]
  constructor
  · rintro ⟨h1, h2, h3⟩
    refine ⟨ops[i], by simp [h1], ?_, fun e he hb => ?_⟩
    · rw [getD_lt (by omega) true false] at h2
      simp only [Ls, h2]; simp
    · simp only [List.getElem?_eq_getElem h1, Option.map_some, Option.getD_some] at h3
      have := Array.all_eq_true_iff_forall_mem.1 h3 e (Array.mem_toList_iff.1 he)
      simp only [hb, Bool.not_true, Bool.false_or] at this
      exact this
  · rintro ⟨o, ho, hl, he⟩
    have hlt : i < ops.length := by
      rcases Nat.lt_or_ge i ops.length with x | x
      · exact x
      · rw [List.getElem?_eq_none x] at ho; cases ho
    refine ⟨hlt, ?_, ?_⟩
    · rw [getD_lt (by omega) true false]
      cases h : listed.getD i false with
      | false => rfl
      | true => exact absurd h hl
    · simp only [ho, Option.map_some, Option.getD_some]
      refine Array.all_eq_true_iff_forall_mem.2 fun e hm => ?_
      cases hb : Region.binds .any e with
      | false => simp
      | true => simp only [Bool.not_true, Bool.false_or]; exact he e (Array.mem_toList_iff.2 hm) hb
end Go.Sl

namespace Go.Sl
section
variable {P : Program} {w0 : World} {n : Nat} {ops : List Oper} {es nexts : List Nat} {done : List (Nat × Value)} {cs : List Chunk} {env0 E E' : Env} {Q : Exit → Act → World → Prop}

theorem dsts_mem {l : List Oper} {i : Nat} {o : Oper} {d : Nat} (h : l[i]? = some o) (hd : o.dst = some d) : d ∈ dsts l := by
  induction l generalizing i with
  | nil => simp at h
  | cons x l ih =>
    simp only [dsts, List.mem_append]
    cases i with
    | zero => simp only [List.getElem?_cons_zero, Option.some.injEq] at h; subst h; exact .inl (by simp [hd])
    | succ i => exact .inr (ih (by simpa using h))
theorem distinct_idx {l : List Oper} (hd : distinct (dsts l) = true) : ∀ {i j : Nat} {o p : Oper} {d : Nat}, l[i]? = some o → l[j]? = some p → o.dst = some d → p.dst = some d → i = j := by
  induction l with
  | nil => intro i j o p d h; simp at h
  | cons x l ih =>
    intro i j o p d hi hj ho hp
    cases i with
    | zero =>
      cases j with
      | zero => rfl
      | succ j =>
        simp only [List.getElem?_cons_zero, Option.some.injEq] at hi
        subst hi
        simp only [List.getElem?_cons_succ] at hj
        exact absurd hp (distinct_not hd ho p (List.mem_of_getElem? hj))
    | succ i =>
      cases j with
      | zero =>
        simp only [List.getElem?_cons_zero, Option.some.injEq] at hj
        subst hj
        simp only [List.getElem?_cons_succ] at hi
        exact absurd ho (distinct_not hd hp o (List.mem_of_getElem? hi))
      | succ j => exact congrArg (· + 1) (ih (distinct_tail hd) (by simpa using hi) (by simpa using hj) ho hp)

theorem edges_lt : ∀ (l : List Oper) (k : Nat), edgesOk k l = true → ∀ i o, l[i]? = some o → ∀ e ∈ o.after.toList, Region.binds .any e = true → e.on < k + i := by
  intro l
  induction l with
  | nil => intro k _ i o h; simp at h
  | cons x l ih =>
    intro k hk i o h e he hb
    simp only [edgesOk, Bool.and_eq_true] at hk
    cases i with
    | zero =>
      simp only [List.getElem?_cons_zero, Option.some.injEq] at h
      subst h
      have := List.all_eq_true.1 hk.1 e he
      simp only [hb, Bool.not_true, Bool.false_or] at this
      simpa [Nat.blt_eq] using this
    | succ i =>
      have := ih (k + 1) hk.2 i o (by simpa using h) e he hb
      omega
theorem allReads_at : ∀ (l : List Oper) (k : Nat) (ms : List Nat), allReads ops ms k l = true → ∀ i o, l[i]? = some o → readsOk ops ms (k + i) o = true := by
  intro l
  induction l with
  | nil => intro k ms _ i o h; simp at h
  | cons x l ih =>
    intro k ms hk i o h
    simp only [allReads, Bool.and_eq_true] at hk
    cases i with
    | zero => simp only [List.getElem?_cons_zero, Option.some.injEq] at h; subst h; exact hk.1
    | succ i => rw [show k + (i + 1) = k + 1 + i by omega]; exact ih (k + 1) ms hk.2 i o (by simpa using h)

theorem all_listed {listed : Array Bool} (hlen : listed.size = ops.length) (he : edgesOk 0 ops = true) (hr : Region.ready .any ops.toArray listed = []) : ∀ i o, ops[i]? = some o → Ls listed i := by
  intro i
  induction i using Nat.strongRecOn with
  | _ i ih =>
    intro o ho
    by_cases h : Ls listed i
    · exact h
    · have : i ∈ Region.ready .any ops.toArray listed := (mem_ready hlen).2 ⟨o, ho, h, fun e hm hb => by
        have hlt := edges_lt ops 0 he i o ho e hm hb
        have hlt' : i < ops.length := by
          rcases Nat.lt_or_ge i ops.length with x | x
          · exact x
          · rw [List.getElem?_eq_none x] at ho; cases ho
        have : e.on < ops.length := by omega
        exact ih e.on (by omega) _ (List.getElem?_eq_getElem this)⟩
      rw [hr] at this; cases this

theorem Ls_set {listed : Array Bool} {i j : Nat} (h : i < listed.size) : Ls (listed.setIfInBounds i true) j ↔ j = i ∨ Ls listed j := by
  simp only [Ls, Array.getD_eq_getD_getElem?]
  by_cases c : j = i
  · subst c; simp [h]
  · rw [Array.getElem?_setIfInBounds_ne (fun e => c e.symm)]; simp [c]

theorem unl_set {listed : Array Bool} {i : Nat} (hi : i < listed.size) (h : ¬ Ls listed i) : unl (listed.setIfInBounds i true) + 1 = unl listed := by
  obtain ⟨l⟩ := listed
  simp only [unl, List.setIfInBounds_toArray, List.size_toArray] at *
  simp only [Ls, Array.getD_eq_getD_getElem?, List.getElem?_toArray] at h
  induction l generalizing i with
  | nil => simp at hi
  | cons x l ih =>
    cases i with
    | zero =>
      cases x with
      | true => simp at h
      | false => simp
    | succ i =>
      have := ih (i := i) (by simpa using hi) (by simpa using h)
      simp only [List.set_cons_succ, List.filter_cons]
      cases x <;> simp <;> omega

theorem Inv.sub {listed : Array Bool} {a : Act} {w : World} (I : Inv w0 ops n es done env0 E cs listed a w) (s : Sub E' E) : Inv w0 ops n es done env0 E' cs listed a w :=
  ⟨I.len, I.closed, I.rem, I.dn, I.size, I.defers, I.out, fun i o d h l e => let ⟨v, x, y⟩ := I.inn i o d h l e; ⟨v, s d v x, y⟩, I.holds⟩

theorem Inv.reads {listed : Array Bool} {a : Act} {w : World} (I : Inv w0 ops n es done env0 E cs listed a w) (hops : drawOk ops = true) {i : Nat} {o : Oper} (ho : ops[i]? = some o) (hul : ¬ Ls listed i)
    (hr : ∀ e ∈ o.after.toList, Region.binds .any e = true → Ls listed e.on) {env' : Env} (h2 : ∀ t, (∀ p ∈ ops.take i, p.dst ≠ some t) → lk env' t = lk env0 t) (h3 : ∀ t, (∀ p ∈ ops.drop i, p.dst ≠ some t) → lk E t = lk env' t) :
    ∀ t ∈ reads ops o, ∀ v, lk env' t = some v → a.tmps[t]? = some v := by
  intro t ht v hv
  simp only [drawOk, Bool.and_eq_true] at hops
  obtain ⟨⟨_, hd⟩, hall⟩ := hops
  have hro := allReads_at ops 0 (masks ops []) hall i o ho
  simp only [Nat.zero_add] at hro
  have hro := List.all_eq_true.1 hro t ht
  have hw : ∀ j p, ops[j]? = some p → p.dst = some t → (j < i ∧ ((masks ops []).getD i 0).testBit j = true) ∨ (i ≤ j ∧ (i = j ∨ ((masks ops []).getD j 0).testBit i = true)) := by
    intro j p hj hp
    have hm : (p, j) ∈ ops.zipIdx := by
      rw [List.mem_zipIdx_iff_getElem?]; exact hj
    have := List.all_eq_true.1 hro (p, j) hm
    simp only [hp, bne_self_eq_false, Bool.false_or, Bool.or_eq_true, Bool.and_eq_true] at this
    rcases this with ⟨x, y⟩ | ⟨x, y⟩
    · exact .inl ⟨by simpa [Nat.blt_eq] using x, y⟩
    · exact .inr ⟨Nat.le_of_ble_eq_true x, y.imp (fun z => Nat.eq_of_beq_eq_true z) id⟩
  by_cases hex : ∃ (j : Nat) (p : Oper), ops[j]? = some p ∧ p.dst = some t ∧ j < i
  · obtain ⟨j, p, hj, hp, hlt⟩ := hex
    rcases hw j p hj hp with ⟨_, hm⟩ | ⟨hge, _⟩
    · have hl := mask_listed I.closed i o ho hr j hm
      obtain ⟨v', x, y⟩ := I.inn j p t hj hl hp
      have : lk E t = lk env' t := h3 t fun p' hp' hpd => by
        obtain ⟨k, hk⟩ := List.mem_iff_getElem?.1 hp'
        rw [List.getElem?_drop] at hk
        have := distinct_idx hd hj hk hp hpd
        omega
      rw [x, hv] at this
      simp only [Option.some.injEq] at this
      rw [y, this]
    · omega
  · have hpre : lk env' t = lk env0 t := h2 t fun p hp hpd => by
      obtain ⟨k, hk⟩ := List.mem_iff_getElem?.1 hp
      rw [List.getElem?_take] at hk
      split at hk
      · exact hex ⟨k, p, hk, hpd, by assumption⟩
      · cases hk
    refine I.out t v (hpre ▸ hv) fun j p hj hp hl => ?_
    rcases hw j p hj hp with ⟨hlt, _⟩ | ⟨_, rfl | hm⟩
    · exact hex ⟨j, p, hj, hp, hlt⟩
    · exact hul hl
    · exact hul (mask_listed I.closed j p hj (fun e he hb => I.closed j p hj hl e he hb) i hm)

theorem Inv.next {listed : Array Bool} {a : Act} {w w' : World} {cs' : List Chunk} {es' : List Nat} {done' : List (Nat × Value)} {E2 : Env} (I : Inv w0 ops n es done env0 E cs listed a w) (hops : drawOk ops = true) (hn : (dsts ops).all (fun d => Nat.blt d n) = true)
    {i : Nat} {o : Oper} (ho : ops[i]? = some o) (hul : ¬ Ls listed i) (hr : ∀ e ∈ o.after.toList, Region.binds .any e = true → Ls listed e.on)
    {v : Value} (hE : ∀ d, o.dst = some d → lk E2 d = some v) (hE2 : ∀ t, o.dst ≠ some t → lk E2 t = lk E t) (hes : ∀ e ∈ es', e ∈ es ∧ e ≠ i) (hdn : ∀ j u, lk done' j = some u → j = i ∨ lk done j = some u) (H : Holds w0 w' cs') :
    Inv w0 ops n es' done' env0 E2 cs' (listed.setIfInBounds i true) (a.put o.dst v) w' := by
  have hlt : i < listed.size := by
    rw [I.len]
    rcases Nat.lt_or_ge i ops.length with x | x
    · exact x
    · rw [List.getElem?_eq_none x] at ho; cases ho
  simp only [drawOk, Bool.and_eq_true] at hops
  obtain ⟨⟨_, hd⟩, _⟩ := hops
  refine ⟨by simp [I.len], ?_, ?_, ?_, ?_, ?_, ?_, ?_, H⟩
  · intro j p hj hl e he hb
    rw [Ls_set hlt] at hl ⊢
    rcases hl with rfl | hl
    · rw [ho] at hj; simp only [Option.some.injEq] at hj; subst hj
      exact .inr (hr e he hb)
    · exact .inr (I.closed j p hj hl e he hb)
  · intro e he hl
    rw [Ls_set hlt] at hl
    rcases hl with rfl | hl
    · exact (hes e he).2 rfl
    · exact I.rem e (hes e he).1 hl
  · intro j u hj
    rw [Ls_set hlt]
    rcases hdn j u hj with x | x
    · exact .inl x
    · exact .inr (I.dn j u x)
  · cases hd' : o.dst <;> simp [Act.put, hd', I.size]
  · cases hd' : o.dst <;> simp [Act.put, hd', I.defers]
  · intro t u hu hno
    have hne : o.dst ≠ some t := fun e => hno i o ho e ((Ls_set hlt).2 (.inl rfl))
    have := I.out t u hu fun j p hj hp hl => hno j p hj hp ((Ls_set hlt).2 (.inr hl))
    cases hd' : o.dst with
    | none => simpa [Act.put] using this
    | some d =>
      have : d ≠ t := fun e => hne (by rw [hd', e])
      simp only [Act.put, Array.getElem?_setIfInBounds_ne this]; assumption
  · intro j p d hj hl hp
    rw [Ls_set hlt] at hl
    by_cases c : j = i
    · subst c
      rw [ho] at hj; simp only [Option.some.injEq] at hj; subst hj
      refine ⟨v, hE d hp, ?_⟩
      have : d < n := by
        have := List.all_eq_true.1 hn d (dsts_mem ho hp)
        simpa [Nat.blt_eq] using this
      simp [Act.put, hp, I.size, this]
    · have hl' := hl.resolve_left c
      obtain ⟨u, x, y⟩ := I.inn j p d hj hl' hp
      have hne : o.dst ≠ some d := fun e => c (distinct_idx hd hj ho hp e)
      refine ⟨u, by rw [hE2 d hne]; exact x, ?_⟩
      cases hd' : o.dst with
      | none => simpa [Act.put] using y
      | some d' =>
        have : d' ≠ d := fun e => hne (by rw [hd', e])
        simp only [Act.put, Array.getElem?_setIfInBounds_ne this]; exact y

/-- The operands of an operation that may run now. -/
theorem Inv.opnds {listed : Array Bool} {a : Act} {w : World} (I : Inv w0 ops n es done env0 E cs listed a w) (hops : drawOk ops = true) {i : Nat} {o : Oper} (ho : ops[i]? = some o) (hul : ¬ Ls listed i)
    (hr : ∀ e ∈ o.after.toList, Region.binds .any e = true → Ls listed e.on) {env' : Env} (h2 : ∀ t, (∀ p ∈ ops.take i, p.dst ≠ some t) → lk env' t = lk env0 t) (h3 : ∀ t, (∀ p ∈ ops.drop i, p.dst ≠ some t) → lk E t = lk env' t) :
    ∀ x ∈ o.op.operands, ∀ v, ev env' x = some v → a.eval x = v := by
  intro x hx v hv
  cases x with
  | const u => simpa [ev, Act.eval] using hv
  | global g => simpa [ev, Act.eval] using hv
  | func f => simpa [ev, Act.eval] using hv
  | tmp t =>
    have := I.reads hops ho hul hr h2 h3 t (by
      simp only [Sl.reads, List.mem_append, List.mem_filterMap]
      exact .inl ⟨_, Array.mem_toList_iff.2 hx, rfl⟩) v hv
    simp [Act.eval, Array.getD_eq_getD_getElem?, this]

/-- One operation that only reads, or whose guard says no. -/
theorem wpAny_quiet {listed : Array Bool} {a : Act} {w : World} {fuel : Nat} (I : Inv w0 ops n es done env0 E cs listed a w) (hops : drawOk ops = true) (hn : (dsts ops).all (fun d => Nat.blt d n) = true)
    {i : Nat} {o : Oper} (ho : ops[i]? = some o) (hul : ¬ Ls listed i) (hr : ∀ e ∈ o.after.toList, Region.binds .any e = true → Ls listed e.on) {env' : Env}
    (h2 : ∀ t, (∀ p ∈ ops.take i, p.dst ≠ some t) → lk env' t = lk env0 t) (h3 : ∀ t, (∀ p ∈ ops.drop i, p.dst ≠ some t) → lk E t = lk env' t)
    (hat : At P ops es nexts done cs w0 i o env' E) (hnn : i ∉ es) (hnx : ∀ e ∈ nexts, e ∈ es)
    (K : ∀ a' w', Inv w0 ops n es done env0 E cs (listed.setIfInBounds i true) a' w' → wpAny P .any ops.toArray Q fuel (listed.setIfInBounds i true) a' w') :
    wpOp P ops.toArray Q i (wpAny P .any ops.toArray Q fuel (listed.setIfInBounds i true)) a w := by
  have hrd := I.reads hops ho hul hr h2 h3
  have hopn := I.opnds hops ho hul hr h2 h3
  have hes : ∀ e ∈ es, e ∈ es ∧ e ≠ i := fun e he => ⟨he, fun c => hnn (c ▸ he)⟩
  have gmem : ∀ j b t, o.guard = some (j, b) → gtmp ops j = some t → t ∈ Sl.reads ops o := by
    intro j b t hg ht
    simp [Sl.reads, hg, ht]
  have hyield : ∀ j t u, gtmp ops j = some t → a.tmps[t]? = some u → yielded ops.toArray a.tmps j = match u with | .bool b => some b | _ => none := by
    intro j t u hg hu
    unfold gtmp at hg
    unfold yielded
    split at hg
    · cases hg
    · rename_i o' ho'
      simp only [List.getElem?_toArray, ho', Option.bind_some, hg, hu]
      cases u <;> rfl
  unfold wpOp
  simp only [List.getElem?_toArray, ho]
  cases hat with
  | @run v hg hop hd =>
    have hwant : Region.wanted o (yielded ops.toArray a.tmps) = true := by
      cases hgd : o.guard with
      | none => simp [Region.wanted, hgd]
      | some g =>
        obtain ⟨j, b⟩ := g
        obtain ⟨t, ht, hl⟩ := hg j b hgd
        have := hrd t (gmem j b t hgd ht) _ hl
        simp [Region.wanted, hgd, hyield j t _ ht this]
    rw [if_pos hwant]
    refine .inl ((hop a.eval w hopn I.holds).upon fun v' w' ⟨cs', hh, e1, e2⟩ => ?_)
    subst e1; subst e2
    exact K _ _ (I.next hops hn ho hul hr hd (fun _ _ => rfl) hes (fun j u h => .inr h) hh)
  | @not j t b u hgd ht hl hu hd =>
    have := hrd t (gmem j b t hgd ht) _ hl
    have hwant : Region.wanted o (yielded ops.toArray a.tmps) = false := by
      rcases hu with rfl | rfl
      · simp [Region.wanted, hgd, hyield j t _ ht this]
      · simp [Region.wanted, hgd, hyield j t _ ht this, undef]
    rw [hwant, if_neg (by simp)]
    exact K _ _ (I.next hops hn ho hul hr hd (fun _ _ => rfl) hes (fun j u h => .inr h) I.holds)
  | done hv _ => exact absurd (I.dn i _ hv) hul
  | wait hb =>
    simp only [Bool.or_eq_true, List.any_eq_true] at hb
    rcases hb with hb | ⟨e, he, hb⟩
    · exact absurd (hnx i (by simpa using hb)) hnn
    · exact absurd (mask_listed I.closed i o ho hr e hb) (I.rem e he)

/-- All that writes is done: the rest only reads. -/
theorem DSt.end (hops : drawOk ops = true) (hn : (dsts ops).all (fun d => Nat.blt d n) = true) (s : Stg P w0 n ops [] [] done cs 0 ops env0 E') (hsub : Sub E' E) (h : X w0 Q .normal n E' cs) :
    DSt P w0 ops Q n es done env0 E cs := by
  have hops' := hops
  simp only [drawOk, Bool.and_eq_true] at hops'
  obtain ⟨⟨hed, hd⟩, _⟩ := hops'
  intro fuel
  suffices key : ∀ fuel listed a w, unl listed ≤ fuel → Inv w0 ops n [] done env0 E' cs listed a w → wpAny P .any ops.toArray Q fuel listed a w by
    intro listed a w hf I
    have J := I.sub hsub
    exact key fuel listed a w hf ⟨J.len, J.closed, (fun _ h => by cases h), J.dn, J.size, J.defers, J.out, J.inn, J.holds⟩
  clear fuel
  have fin : ∀ listed a w, Inv w0 ops n [] done env0 E' cs listed a w → Region.ready .any ops.toArray listed = [] → Q .normal a w := by
    intro listed a w I hr
    have hall := all_listed I.len hed hr
    refine h a w ⟨I.size, I.defers, fun t v hv => ?_⟩ I.holds
    by_cases hex : ∃ (j : Nat) (p : Oper), ops[j]? = some p ∧ p.dst = some t
    · obtain ⟨j, p, hj, hp⟩ := hex
      obtain ⟨u, x, y⟩ := I.inn j p t hj (hall j p hj) hp
      rw [hv] at x; simp only [Option.some.injEq] at x; rw [x, y]
    · have hk := s.keep (t := t) fun o ho hod => by
        obtain ⟨k, hk⟩ := List.mem_iff_getElem?.1 ho
        exact hex ⟨k, o, hk, hod⟩
      exact I.out t v (hk ▸ hv) fun j p hj hp _ => hex ⟨j, p, hj, hp⟩
  intro fuel
  induction fuel with
  | zero =>
    intro listed a w hf I
    have hr : Region.ready .any ops.toArray listed = [] := by
      cases hc : Region.ready .any ops.toArray listed with
      | nil => rfl
      | cons x xs =>
        obtain ⟨o, ho, hul, _⟩ := (mem_ready I.len).1 (show x ∈ Region.ready .any ops.toArray listed by rw [hc]; exact .head _)
        have hlt : x < listed.size := by
          rw [I.len]
          rcases Nat.lt_or_ge x ops.length with y | y
          · exact y
          · rw [List.getElem?_eq_none y] at ho; cases ho
        have := unl_set hlt hul
        omega
    exact ⟨hr, fin listed a w I hr⟩
  | succ fuel ih =>
    intro listed a w hf I
    refine ⟨fin listed a w I, fun i hi => ?_⟩
    obtain ⟨o, ho, hul, hr⟩ := (mem_ready I.len).1 hi
    have hlt : i < listed.size := by
      rw [I.len]
      rcases Nat.lt_or_ge i ops.length with y | y
      · exact y
      · rw [List.getElem?_eq_none y] at ho; cases ho
    obtain ⟨env', hat, h2, h3⟩ := s.at hd i o ho
    rw [Nat.zero_add] at hat
    have := unl_set hlt hul
    exact wpAny_quiet I hops hn ho hul hr h2 h3 hat (by simp) (by simp) fun a' w' I' => ih _ a' w' (by omega) I'

/-- The next one that writes. -/
theorem DSt.step (hops : drawOk ops = true) (hn : (dsts ops).all (fun d => Nat.blt d n) = true) (s : Stg P w0 n ops es nexts done cs 0 ops env0 E') (hsub : Sub E' E)
    (hnx : nexts.all (fun e => es.contains e) = true) (hne : nexts ≠ []) (hes : es.all (fun e => nexts.contains e || es.any fun e' => ((masks ops []).getD e 0).testBit e') = true)
    (h : ∀ e ∈ nexts, ∃ o, ops[e]? = some o ∧ (∀ j b, o.guard = some (j, b) → ∃ t, gtmp ops j = some t ∧ lk E' t = some (.bool b)) ∧ (reads ops o).all (fun t => ops.zipIdx.all fun (p, j) => p.dst != some t || Nat.blt j e) = true ∧
      OpT P w0 o E' cs fun v cs' => DSt P w0 ops Q n (es.filter (· != e)) ((e, v) :: done) env0 (putE E' o.dst v) cs') :
    DSt P w0 ops Q n es done env0 E cs := by
  have hops' := hops
  simp only [drawOk, Bool.and_eq_true] at hops'
  obtain ⟨⟨hed, hd⟩, _⟩ := hops'
  have hnx' : ∀ e ∈ nexts, e ∈ es := fun e he => by
    have := List.all_eq_true.1 hnx e he
    simpa using this
  intro fuel
  suffices key : ∀ fuel listed a w, unl listed ≤ fuel → Inv w0 ops n es done env0 E' cs listed a w → wpAny P .any ops.toArray Q fuel listed a w by
    intro listed a w hf I
    exact key fuel listed a w hf (I.sub hsub)
  clear fuel
  have notall : ∀ listed a w, Inv w0 ops n es done env0 E' cs listed a w → Region.ready .any ops.toArray listed ≠ [] := by
    intro listed a w I hr
    cases hc : nexts with
    | nil => exact hne hc
    | cons e r =>
      have hm : e ∈ nexts := by rw [hc]; exact .head _
      obtain ⟨o, ho, _⟩ := h e hm
      exact I.rem e (hnx' e hm) (all_listed I.len hed hr e o ho)
  intro fuel
  induction fuel with
  | zero =>
    intro listed a w hf I
    exfalso
    cases hc : Region.ready .any ops.toArray listed with
    | nil => exact notall listed a w I hc
    | cons x xs =>
      obtain ⟨o, ho, hul, _⟩ := (mem_ready I.len).1 (show x ∈ Region.ready .any ops.toArray listed by rw [hc]; exact .head _)
      have hlt : x < listed.size := by
        rw [I.len]
        rcases Nat.lt_or_ge x ops.length with y | y
        · exact y
        · rw [List.getElem?_eq_none y] at ho; cases ho
      have := unl_set hlt hul
      omega
  | succ fuel ih =>
    intro listed a w hf I
    refine ⟨fun hr => absurd hr (notall listed a w I), fun i hi => ?_⟩
    obtain ⟨o, ho, hul, hr⟩ := (mem_ready I.len).1 hi
    have hlt : i < listed.size := by
      rw [I.len]
      rcases Nat.lt_or_ge i ops.length with y | y
      · exact y
      · rw [List.getElem?_eq_none y] at ho; cases ho
    have hunl := unl_set hlt hul
    by_cases hie : i ∈ es
    · have hin : i ∈ nexts := by
        have := List.all_eq_true.1 hes i hie
        simp only [Bool.or_eq_true, List.any_eq_true] at this
        rcases this with hb | ⟨e, he, hb⟩
        · simpa using hb
        · exact absurd (mask_listed I.closed i o ho hr e hb) (I.rem e he)
      obtain ⟨o', ho', hg, hrd, hop⟩ := h i hin
      rw [ho] at ho'; simp only [Option.some.injEq] at ho'; subst ho'
      have hread : ∀ t ∈ Sl.reads ops o, ∀ v, lk E' t = some v → a.tmps[t]? = some v := by
        intro t ht v hv
        have hlt' : ∀ j p, ops[j]? = some p → p.dst = some t → j < i := by
          intro j p hj hp
          have := List.all_eq_true.1 (List.all_eq_true.1 hrd t ht) (p, j) (by rw [List.mem_zipIdx_iff_getElem?]; exact hj)
          simp only [hp, bne_self_eq_false, Bool.false_or] at this
          simpa [Nat.blt_eq] using this
        obtain ⟨env', _, h2, h3⟩ := s.at hd i o ho
        have e3 := h3 t fun p hp hpd => by
          obtain ⟨k, hk⟩ := List.mem_iff_getElem?.1 hp
          rw [List.getElem?_drop] at hk
          have := hlt' _ p hk hpd
          omega
        exact I.reads hops ho hul hr h2 h3 t ht v (e3 ▸ hv)
      have hopn : ∀ x ∈ o.op.operands, ∀ v, ev E' x = some v → a.eval x = v := by
        intro x hx v hv
        cases x with
        | const u => simpa [ev, Act.eval] using hv
        | global g => simpa [ev, Act.eval] using hv
        | func f => simpa [ev, Act.eval] using hv
        | tmp t =>
          have := hread t (by
            simp only [Sl.reads, List.mem_append, List.mem_filterMap]
            exact .inl ⟨_, Array.mem_toList_iff.2 hx, rfl⟩) v hv
          simp [Act.eval, Array.getD_eq_getD_getElem?, this]
      have hwant : Region.wanted o (yielded ops.toArray a.tmps) = true := by
        cases hgd : o.guard with
        | none => simp [Region.wanted, hgd]
        | some g =>
          obtain ⟨j, b⟩ := g
          obtain ⟨t, ht, hl⟩ := hg j b hgd
          have hm : t ∈ Sl.reads ops o := by simp [Sl.reads, hgd, ht]
          have hy := hread t hm _ hl
          have : yielded ops.toArray a.tmps j = some b := by
            unfold gtmp at ht
            unfold yielded
            split at ht
            · cases ht
            · rename_i o2 ho2
              simp [ho2, ht, hy]
          simp [Region.wanted, hgd, this]
      unfold wpOp
      simp only [List.getElem?_toArray, ho]
      rw [if_pos hwant]
      refine .inl ((hop a.eval w hopn I.holds).upon fun v w' ⟨cs', hh, hk⟩ => ?_)
      refine hk fuel _ _ _ (by omega) (I.next hops hn ho hul hr (v := v) (fun d hd' => ?_) (fun t ht => lk_putE_ne ht) (fun e he => ?_) (fun j u hj => ?_) hh)
      · rw [hd']; simp [putE, lk_cons]
      · simp only [List.mem_filter, bne_iff_ne, ne_eq] at he; exact he
      · rw [lk_cons] at hj
        by_cases c : i = j
        · exact .inl c.symm
        · simp only [c, if_false] at hj; exact .inr hj
    · obtain ⟨env', hat, h2, h3⟩ := s.at hd i o ho
      rw [Nat.zero_add] at hat
      exact wpAny_quiet I hops hn ho hul hr h2 h3 hat hie hnx' fun a' w' I' => ih _ a' w' (by omega) I'

/-- Fewer are still to be done: the guards of the others said no. -/
theorem DSt.sub {es' : List Nat} (hs : es'.all (fun e => es.contains e) = true) (h : DSt P w0 ops Q n es' done env0 E cs) : DSt P w0 ops Q n es done env0 E cs :=
  fun fuel listed a w hf I => h fuel listed a w hf ⟨I.len, I.closed, fun e he => I.rem e (by have := List.all_eq_true.1 hs e he; simpa using this), I.dn, I.size, I.defers, I.out, I.inn, I.holds⟩

theorem T.draw {id : Nat} (hm : P.follows .mixedOrders = true) (h : DSt P w0 ops Q n es [] env0 [] cs) : T P w0 (.region id ops.toArray true) Q n env0 cs := fun a w he hw =>
  wp_region_any hm (h ops.length (Array.replicate ops.length false) a _ (by simp [unl]) ⟨by simp, fun i o _ hl => (by simp [Ls, Array.getD] at hl), fun e _ hl => by simp [Ls, Array.getD] at hl, fun i v h => (by cases h), he.size, he.defers,
    fun t v hv _ => he.at_ t v hv, fun i o d _ hl => (by simp [Ls, Array.getD] at hl), hw.drew _⟩)
end
end Go.Sl
