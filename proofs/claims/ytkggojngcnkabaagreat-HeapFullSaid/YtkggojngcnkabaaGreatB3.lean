/-
  What the printed walks use besides: small rules, and the facts on wrapping.
-/
import Derived.Test.YtkggojngcnkabaaGreatB2
import Derived.KernelRfl
set_option linter.unusedVariables false
set_option linter.unusedSimpArgs false
namespace Go.Sl
section
variable {P : Program} {w0 : World} {env : Env} {cs : List Chunk} {K : Value → List Chunk → Prop} {d : Option Nat} {ty : TypeId} {pos : String} {af : Array Edge} {gd : Option (Nat × Bool)}

theorem OpT.ar {op : BinOp} {t u : TypeId} {x y : Operand} {k : IntKind} {a b c : Int} (h : K (.int k (k.wrap c)) cs) (hx : ev env x = some (.int k a) := by rfl) (hy : ev env y = some (.int k b) := by rfl)
    (hc : arithOf op a b = some c := by rfl) : OpT P w0 ⟨d, .binOp op t x y u, ty, pos, af, gd⟩ env cs K := OpT.arith hx hy hc h
theorem wrap64_of {c : Int} (h1 : -9223372036854775808 ≤ c) (h2 : c ≤ 9223372036854775807) : IntKind.i64.wrap c = c := by
  simp only [IntKind.wrap, IntKind.signed, IntKind.bits]
  simp; omega
theorem OpT.pick_t {c x y : Operand} {u : Value} (h : K u cs) (hc : ev env c = some (.bool true) := by rfl) (hx : ev env x = some u := by rfl) : OpT P w0 ⟨d, .pick c x y, ty, pos, af, gd⟩ env cs K :=
  OpT.val h fun ρ w a _ => by
    simp [execOp, a c (by simp [Op.operands]) _ hc, a x (by simp [Op.operands]) _ hx, run_bind, run_pure, asBool]
theorem OpT.pick_f {c x y : Operand} {u : Value} (h : K u cs) (hc : ev env c = some (.bool false) := by rfl) (hy : ev env y = some u := by rfl) : OpT P w0 ⟨d, .pick c x y, ty, pos, af, gd⟩ env cs K :=
  OpT.val h fun ρ w a _ => by
    simp [execOp, a c (by simp [Op.operands]) _ hc, a y (by simp [Op.operands]) _ hy, run_bind, run_pure, asBool]

variable {Q : Exit → Act → World → Prop} {n : Nat} {ops l : List Oper}
theorem EnvOk.more {a : Act} {t : Nat} {v : Value} (h : EnvOk a n env) (hl : lk env t = some v) : EnvOk a n ((t, v) :: env) :=
  h.sub (fun s u e => by rw [lk_cons] at e; by_cases c : t = s; · subst c; simp only [if_true, Option.some.injEq] at e; exact e ▸ hl
                         · simpa [c] using e)
/-- Two ways, by what a temporary holds. -/
theorem TOps.split {b : Bool} (t : Nat) (ht : b = true → TOps P w0 ops l Q n ((t, .bool true) :: env) cs) (hf : b = false → TOps P w0 ops l Q n ((t, .bool false) :: env) cs) (hl : lk env t = some (.bool b) := by rfl) :
    TOps P w0 ops l Q n env cs := fun a w he hw => by
  cases hb : b with
  | true => exact ht hb a w (he.more (hb ▸ hl)) hw
  | false => exact hf hb a w (he.more (hb ▸ hl)) hw
theorem T.split {c : Code} {b : Bool} (t : Nat) (ht : b = true → T P w0 c Q n ((t, .bool true) :: env) cs) (hf : b = false → T P w0 c Q n ((t, .bool false) :: env) cs) (hl : lk env t = some (.bool b) := by rfl) :
    T P w0 c Q n env cs := fun a w he hw => by
  cases hb : b with
  | true => exact ht hb a w (he.more (hb ▸ hl)) hw
  | false => exact hf hb a w (he.more (hb ▸ hl)) hw

/-- An operation under a guard. -/
theorem TOps.gsome {rest : List Oper} {d j t : Nat} {b : Bool} {op : Op} {ty : TypeId} {pos : String} {af : Array Edge} (h : OpT P w0 ⟨.some d, op, ty, pos, af, some (j, b)⟩ env cs fun v cs' => TOps P w0 ops rest Q n ((d, v) :: env) cs')
    (hd : Nat.ble (d + 1) n = true := by rfl) (hg : gtmp ops j = some t := by rfl) (hl : lk env t = some (.bool b) := by rfl) :
    TOps P w0 ops (⟨.some d, op, ty, pos, af, some (j, b)⟩ :: rest) Q n env cs := fun a w he hw =>
  wpList_step fun K hK => by
    rw [if_pos (by simp [Region.wanted, yielded_of hg he hl])]
    exact (h a.eval w (fun x _ v e => he.eval e) hw).upon fun v w' ⟨cs', hh, ht⟩ => hK _ _ (ht _ _ (he.put (Nat.le_of_ble_eq_true hd) v) hh)
theorem TOps.gnone {rest : List Oper} {j t : Nat} {b : Bool} {op : Op} {ty : TypeId} {pos : String} {af : Array Edge} (h : OpT P w0 ⟨.none, op, ty, pos, af, some (j, b)⟩ env cs fun _ cs' => TOps P w0 ops rest Q n env cs')
    (hg : gtmp ops j = some t := by rfl) (hl : lk env t = some (.bool b) := by rfl) :
    TOps P w0 ops (⟨.none, op, ty, pos, af, some (j, b)⟩ :: rest) Q n env cs := fun a w he hw =>
  wpList_step fun K hK => by
    rw [if_pos (by simp [Region.wanted, yielded_of hg he hl])]
    exact (h a.eval w (fun x _ v e => he.eval e) hw).upon fun v w' ⟨cs', hh, ht⟩ => hK _ _ (ht _ _ he hh)
theorem TOps.gskip {rest : List Oper} {d j t : Nat} {b : Bool} {op : Op} {ty : TypeId} {pos : String} {af : Array Edge} (h : TOps P w0 ops rest Q n ((d, undef) :: env) cs)
    (hd : Nat.ble (d + 1) n = true := by rfl) (hg : gtmp ops j = some t := by rfl) (hl : lk env t = some (.bool !b) := by rfl) :
    TOps P w0 ops (⟨.some d, op, ty, pos, af, some (j, b)⟩ :: rest) Q n env cs := fun a w he hw =>
  wpList_step fun K hK => by
    rw [if_neg (by simp [Region.wanted, yielded_of hg he hl])]
    exact hK _ _ (h _ _ (he.put (Nat.le_of_ble_eq_true hd) _) hw)
theorem TOps.gskip' {rest : List Oper} {j t : Nat} {b : Bool} {op : Op} {ty : TypeId} {pos : String} {af : Array Edge} (h : TOps P w0 ops rest Q n env cs)
    (hg : gtmp ops j = some t := by rfl) (hl : lk env t = some (.bool !b) := by rfl) :
    TOps P w0 ops (⟨.none, op, ty, pos, af, some (j, b)⟩ :: rest) Q n env cs := fun a w he hw =>
  wpList_step fun K hK => by
    rw [if_neg (by simp [Region.wanted, yielded_of hg he hl])]
    exact hK _ _ (h _ _ he hw)
theorem TOps.gundef {rest : List Oper} {d j t : Nat} {b : Bool} {op : Op} {ty : TypeId} {pos : String} {af : Array Edge} (h : TOps P w0 ops rest Q n ((d, undef) :: env) cs)
    (hd : Nat.ble (d + 1) n = true := by rfl) (hg : gtmp ops j = some t := by rfl) (hl : lk env t = some undef := by rfl) :
    TOps P w0 ops (⟨.some d, op, ty, pos, af, some (j, b)⟩ :: rest) Q n env cs := fun a w he hw =>
  wpList_step fun K hK => by
    rw [if_neg (by simp [Region.wanted, yielded_undef hg he hl])]
    exact hK _ _ (h _ _ (he.put (Nat.le_of_ble_eq_true hd) _) hw)
theorem TOps.gundef' {rest : List Oper} {j t : Nat} {b : Bool} {op : Op} {ty : TypeId} {pos : String} {af : Array Edge} (h : TOps P w0 ops rest Q n env cs)
    (hg : gtmp ops j = some t := by rfl) (hl : lk env t = some undef := by rfl) :
    TOps P w0 ops (⟨.none, op, ty, pos, af, some (j, b)⟩ :: rest) Q n env cs := fun a w he hw =>
  wpList_step fun K hK => by
    rw [if_neg (by simp [Region.wanted, yielded_undef hg he hl])]
    exact hK _ _ (h _ _ he hw)

variable {es : List Nat} {done : List (Nat × Value)} {env0 E E' : Env} {nexts : List Nat}
/-- A look ahead at what the operations of a region give: nothing follows from it. -/
inductive Prb (P : Program) (w0 : World) (ops : List Oper) (done : List (Nat × Value)) (cs : List Chunk) : Nat → List Oper → Env → Env → Prop
  | nil {i : Nat} {env : Env} : Prb P w0 ops done cs i [] env env
  | q {i : Nat} {o : Oper} {rest : List Oper} {env E : Env} {v : Value} :
      OpT P w0 o env cs (fun v' cs' => v' = v ∧ cs' = cs) → Prb P w0 ops done cs (i + 1) rest (putE env o.dst v) E → Prb P w0 ops done cs i (o :: rest) env E
  | gn {i : Nat} {o : Oper} {rest : List Oper} {env E : Env} : Prb P w0 ops done cs (i + 1) rest (putE env o.dst undef) E → Prb P w0 ops done cs i (o :: rest) env E
  | done {i : Nat} {o : Oper} {rest : List Oper} {env E : Env} {v : Value} : lk done i = some v → Prb P w0 ops done cs (i + 1) rest (putE env o.dst v) E → Prb P w0 ops done cs i (o :: rest) env E
  | gx {i : Nat} {o : Oper} {rest : List Oper} {env E : Env} : Prb P w0 ops done cs (i + 1) rest env E → Prb P w0 ops done cs i (o :: rest) env E
end
end Go.Sl
namespace Go.Sl
section
variable {P : Program} {w0 : World} {Q : Exit → Act → World → Prop} {n : Nat} {env : Env} {cs : List Chunk} {c : Code}
/-! Opening what stands at the front; laying together. -/
theorem T.ex {α : Type} {f : α → Chunk} (h : ∀ x, T P w0 c Q n env (f x :: cs)) : T P w0 c Q n env (Sl.ex f :: cs) := fun a w he hw =>
  let ⟨x, hx⟩ := hw.of_ex
  h x a w he hx
theorem T.all {l : List Chunk} (h : T P w0 c Q n env (l ++ cs)) : T P w0 c Q n env (Sl.all l :: cs) := fun a w he hw => h a w he hw.of_all
theorem T.pur {p : Prop} (h : p → T P w0 c Q n env cs) : T P w0 c Q n env (Sl.pur p :: cs) := fun a w he hw => h hw.pur.1 a w he hw.pur.2
theorem TOps.ex {ops l : List Oper} {α : Type} {f : α → Chunk} (h : ∀ x, TOps P w0 ops l Q n env (f x :: cs)) : TOps P w0 ops l Q n env (Sl.ex f :: cs) := fun a w he hw =>
  let ⟨x, hx⟩ := hw.of_ex
  h x a w he hx
theorem TOps.all {ops l l' : List _} (h : TOps P w0 ops l Q n env (l' ++ cs)) : TOps P w0 ops l Q n env (Sl.all l' :: cs) := fun a w he hw => h a w he hw.of_all
theorem TOps.pur {ops l : List Oper} {p : Prop} (h : p → TOps P w0 ops l Q n env cs) : TOps P w0 ops l Q n env (Sl.pur p :: cs) := fun a w he hw => h hw.pur.1 a w he hw.pur.2
theorem TOps.front {ops l : List Oper} {x : Chunk} {cs' : List Chunk} (r : Rem x cs cs') (h : TOps P w0 ops l Q n env (x :: cs')) : TOps P w0 ops l Q n env cs := fun a w he hw => h a w he (hw.front r)
theorem X.ex {e : Exit} {α : Type} {f : α → Chunk} (h : ∀ x, X w0 Q e n env (f x :: cs)) : X w0 Q e n env (Sl.ex f :: cs) := fun a w he hw =>
  let ⟨x, hx⟩ := hw.of_ex
  h x a w he hx
theorem X.all {e : Exit} {l : List Chunk} (h : X w0 Q e n env (l ++ cs)) : X w0 Q e n env (Sl.all l :: cs) := fun a w he hw => h a w he hw.of_all
theorem X.pur {e : Exit} {p : Prop} (h : p → X w0 Q e n env cs) : X w0 Q e n env (Sl.pur p :: cs) := fun a w he hw => h hw.pur.1 a w he hw.pur.2
theorem X.front {e : Exit} {x : Chunk} {cs' : List Chunk} (r : Rem x cs cs') (h : X w0 Q e n env (x :: cs')) : X w0 Q e n env cs := fun a w he hw => h a w he (hw.front r)
/-- Bring a chunk to the front. -/
theorem T.front {x : Chunk} {cs' : List Chunk} (r : Rem x cs cs') (h : T P w0 c Q n env (x :: cs')) : T P w0 c Q n env cs := fun a w he hw => h a w he (hw.front r)
theorem T.ent {cs' : List Chunk} (r : Ent cs cs') (h : T P w0 c Q n env cs') : T P w0 c Q n env cs := fun a w he hw => h a w he (hw.ent r)
theorem X.ent {e : Exit} {cs' : List Chunk} (r : Ent cs cs') (h : X w0 Q e n env cs') : X w0 Q e n env cs := fun a w he hw => h a w he (hw.ent r)
theorem TOps.ent {ops l : List Oper} {cs' : List Chunk} (r : Ent cs cs') (h : TOps P w0 ops l Q n env cs') : TOps P w0 ops l Q n env cs := fun a w he hw => h a w he (hw.ent r)
theorem Ent.to_ex {α : Type} {f : α → Chunk} (x : α) : Ent (f x :: cs) (Sl.ex f :: cs) := fun _ _ ⟨h1, h2, sp, p, q⟩ => ⟨h1, h2, sp, ⟨x, p⟩, q⟩
theorem Ent.to_pur {p : Prop} (hp : p) : Ent cs (Sl.pur p :: cs) := fun _ _ z => sat_pur.2 ⟨hp, z⟩
theorem Ent.pack {α : Type} {F : α → List Chunk} (x : α) : Ent (F x ++ cs) (Sl.ex (fun y => Sl.all (F y)) :: cs) := Ent.to_all.trans (Ent.to_ex (f := fun y => Sl.all (F y)) x)
/-- Lay some together: out of cs, the chunks ci at the front become c. -/
theorem Takes.fold {ci R : List Chunk} {x : Chunk} (t : Takes ci cs R) (f : ∀ R', Ent (ci ++ R') (x :: R')) : Ent cs (x :: R) := t.ent.trans (f R)
end
end Go.Sl
namespace Go.Sl
section
variable {P : Program} {w0 : World} {Q : Exit → Act → World → Prop} {n : Nat} {env : Env} {cs R R' : List Chunk} {c : Code} {x : Chunk} {ci : List Chunk}
/-! Laying chunks together: f says how, the chunks are found. -/
abbrev Pack (ci : List Chunk) (x : Chunk) : Prop := ∀ R' : List Chunk, Ent (ci ++ R') (x :: R')
theorem X.fold {e : Exit} (f : Pack ci x) (h : X w0 Q e n env (x :: R)) (t : Takes ci cs R := by repeat (first | exact Takes.nil | (apply Takes.keep; infer_instance; (repeat (first | exact Rem.here | apply Rem.there))) | (apply Takes.cons; (repeat (first | exact Rem.here | apply Rem.there))))) : X w0 Q e n env cs := h.ent (t.ent.trans (f R))
theorem T.fold (f : Pack ci x) (h : T P w0 c Q n env (x :: R)) (t : Takes ci cs R := by repeat (first | exact Takes.nil | (apply Takes.keep; infer_instance; (repeat (first | exact Rem.here | apply Rem.there))) | (apply Takes.cons; (repeat (first | exact Rem.here | apply Rem.there))))) : T P w0 c Q n env cs := h.ent (t.ent.trans (f R))
theorem TOps.fold {ops l : List Oper} (f : Pack ci x) (h : TOps P w0 ops l Q n env (x :: R)) (t : Takes ci cs R := by repeat (first | exact Takes.nil | (apply Takes.keep; infer_instance; (repeat (first | exact Rem.here | apply Rem.there))) | (apply Takes.cons; (repeat (first | exact Rem.here | apply Rem.there))))) : TOps P w0 ops l Q n env cs := h.ent (t.ent.trans (f R))
end
end Go.Sl
namespace Go.Sl
end Go.Sl
