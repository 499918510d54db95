/-
  A small separation logic over the model's worlds: what a call owns (blocks made since a base world), what is sealed (never written again), and how loads, stores and new blocks act on it. Plain lemmas; no program.
-/
import Derived.Calls
set_option linter.unusedVariables false
set_option linter.unusedSimpArgs false
namespace Go.Sl

/-- A partial heap. -/
abbrev PH := Nat → Option Obj

/-- h is h1 and h2, apart. -/
def Spl (h h1 h2 : PH) : Prop := ∀ b, (h1 b = none ∧ h b = h2 b) ∨ (h2 b = none ∧ h b = h1 b)

theorem Spl.comm {h h1 h2 : PH} (s : Spl h h1 h2) : Spl h h2 h1 := fun b => (s b).symm

theorem Spl.left {h h1 h2 : PH} (s : Spl h h1 h2) {b : Nat} {o : Obj} (e : h1 b = some o) : h b = some o := by
  rcases s b with ⟨a, _⟩ | ⟨_, c⟩
  · rw [a] at e; cases e
  · rw [c, e]

theorem Spl.right {h h1 h2 : PH} (s : Spl h h1 h2) {b : Nat} {o : Obj} (e : h2 b = some o) : h b = some o := s.comm.left e

theorem Spl.assoc {h h1 h2 h3 h4 : PH} (s : Spl h h1 h2) (t : Spl h2 h3 h4) :
    Spl h h3 (fun b => match h1 b with | some o => some o | none => h4 b) ∧ Spl (fun b => match h1 b with | some o => some o | none => h4 b) h1 h4 := by
  refine ⟨fun b => ?_, fun b => ?_⟩
  · rcases s b with ⟨a, c⟩ | ⟨a, c⟩
    · rcases t b with ⟨d, e⟩ | ⟨d, e⟩
      · exact .inl ⟨d, by simp [a, c, e]⟩
      · exact .inr ⟨by simp [a, d], by rw [c, e]⟩
    · rcases t b with ⟨d, e⟩ | ⟨d, e⟩
      · refine .inl ⟨d, ?_⟩
        show h b = (match h1 b with | some o => some o | none => h4 b)
        cases h5 : h1 b with
        | none => simp only [c, h5]; rw [← e, a]
        | some u => simp only [c, h5]
      · refine .inl ⟨by rw [← e, a], ?_⟩
        show h b = (match h1 b with | some o => some o | none => h4 b)
        cases h5 : h1 b with
        | none => simp only [c, h5, d]
        | some u => simp only [c, h5]
  · rcases s b with ⟨a, _⟩ | ⟨a, _⟩
    · exact .inl ⟨a, by simp [a]⟩
    · refine .inr ⟨?_, ?_⟩
      · rcases t b with ⟨_, e⟩ | ⟨d, _⟩
        · rw [← e, a]
        · exact d
      · show (match h1 b with | some o => some o | none => h4 b) = h1 b
        cases h5 : h1 b with
        | none =>
          rcases t b with ⟨_, e⟩ | ⟨d, _⟩
          · simp only []; rw [← e, a]
          · simp only [d]
        | some u => rfl

/-- What holds of a part of the heap, given what is sealed. -/
structure Chunk where
  on : PH → PH → Prop
  mono : ∀ {h s s' : PH}, (∀ b o, s b = some o → s' b = some o) → on h s → on h s'

def sat : List Chunk → PH → PH → Prop
  | [], h, _ => ∀ b, h b = none
  | c :: cs, h, s => ∃ h1 h2, Spl h h1 h2 ∧ c.on h1 s ∧ sat cs h2 s

theorem sat.mono {cs : List Chunk} {h s s' : PH} (le : ∀ b o, s b = some o → s' b = some o) : sat cs h s → sat cs h s' := by
  induction cs generalizing h with
  | nil => exact id
  | cons c cs ih => rintro ⟨h1, h2, sp, a, b⟩; exact ⟨h1, h2, sp, c.mono le a, ih b⟩

/-- A block of one's own. -/
def own (b : Nat) (o : Obj) : Chunk := ⟨fun h _ => ∀ x, h x = if x = b then some o else none, fun _ h => h⟩
/-- A block that is never written again. -/
def imm (b : Nat) (o : Obj) : Chunk := ⟨fun h s => (∀ x, h x = none) ∧ s b = some o, fun le h => ⟨h.1, le _ _ h.2⟩⟩
def pur (p : Prop) : Chunk := ⟨fun h _ => (∀ x, h x = none) ∧ p, fun _ h => h⟩
def ex {α : Type} (f : α → Chunk) : Chunk := ⟨fun h s => ∃ x, (f x).on h s, fun le ⟨x, h⟩ => ⟨x, (f x).mono le h⟩⟩
def all (cs : List Chunk) : Chunk := ⟨fun h s => sat cs h s, fun le h => sat.mono le h⟩

/-- A row of cells of one's own; one that is sealed. -/
def blk (b : Nat) (l : List Value) : Chunk := ex fun t => own b (.cells l.toArray t (0, 0))
def ro (b : Nat) (l : List Value) : Chunk := ex fun t => imm b (.cells l.toArray t (0, 0))

structure Holds (w0 w : World) (cs : List Chunk) : Prop where
  ex : ∃ h s, sat cs h s ∧ (∀ b o, h b = some o → w0.heap.size ≤ b ∧ w.heap[b]? = some o ∧ s b = none) ∧ (∀ b o, s b = some o → w.heap[b]? = some o)
  old : ∀ b, b < w0.heap.size → w.heap[b]? = w0.heap[b]?
  size : w0.heap.size ≤ w.heap.size
  os : w.os = w0.os
  out : w.output = w0.output
  tape : w.tape = w0.tape

theorem Holds.start (w : World) : Holds w w [] :=
  ⟨⟨fun _ => none, fun _ => none, fun _ => rfl, fun _ _ h => (by cases h), fun _ _ h => (by cases h)⟩, fun _ _ => rfl, Nat.le_refl _, rfl, rfl, rfl⟩

/-- c stands in cs; cs' is left. -/
inductive Rem (c : Chunk) : List Chunk → List Chunk → Prop
  | here {cs : List Chunk} : Rem c (c :: cs) cs
  | there {x : Chunk} {cs cs' : List Chunk} : Rem c cs cs' → Rem c (x :: cs) (x :: cs')

theorem sat_front {c : Chunk} {cs cs' : List Chunk} (r : Rem c cs cs') {h s : PH} : sat cs h s → sat (c :: cs') h s := by
  induction r generalizing h with
  | here => exact id
  | there _ ih =>
    rintro ⟨h1, h2, sp, a, b⟩
    obtain ⟨h3, h4, sp', a', b'⟩ := ih b
    obtain ⟨s1, s2⟩ := sp.assoc sp'
    exact ⟨h3, _, s1, a', h1, h4, s2, a, b'⟩

theorem sat_back {c : Chunk} {cs cs' : List Chunk} (r : Rem c cs cs') {h s : PH} : sat (c :: cs') h s → sat cs h s := by
  induction r generalizing h with
  | here => exact id
  | there _ ih =>
    rintro ⟨h3, h4, sp, a, h1, h2, sp', b, b'⟩
    obtain ⟨s1, s2⟩ := sp.assoc sp'
    exact ⟨h1, _, s1, b, ih ⟨h3, h2, s2, a, b'⟩⟩

theorem Holds.imp {w0 w : World} {cs cs' : List Chunk} (H : Holds w0 w cs) (f : ∀ h s, sat cs h s → sat cs' h s) : Holds w0 w cs' :=
  let ⟨h, s, a, b, c⟩ := H.ex
  ⟨⟨h, s, f h s a, b, c⟩, H.old, H.size, H.os, H.out, H.tape⟩

theorem Holds.front {w0 w : World} {c : Chunk} {cs cs' : List Chunk} (H : Holds w0 w cs) (r : Rem c cs cs') : Holds w0 w (c :: cs') := H.imp fun _ _ => sat_front r
theorem Holds.back {w0 w : World} {c : Chunk} {cs cs' : List Chunk} (H : Holds w0 w (c :: cs')) (r : Rem c cs cs') : Holds w0 w cs := H.imp fun _ _ => sat_back r

theorem Holds.drop {w0 w : World} {c : Chunk} {cs : List Chunk} (H : Holds w0 w (c :: cs)) : Holds w0 w cs := by
  obtain ⟨h, s, ⟨h1, h2, sp, _, b⟩, d, e⟩ := H.ex
  exact ⟨⟨h2, s, b, fun x o hx => d x o (sp.right hx), e⟩, H.old, H.size, H.os, H.out, H.tape⟩

/-- Nothing but a count of draws has turned. -/
theorem Holds.drew {w0 w : World} {cs : List Chunk} (H : Holds w0 w cs) (n : Nat) : Holds w0 { w with drawn := n } cs :=
  ⟨H.ex, H.old, H.size, H.os, H.out, H.tape⟩

/-- One entailment between lists, at the front. -/
def Ent (cs cs' : List Chunk) : Prop := ∀ h s, sat cs h s → sat cs' h s

theorem Ent.rfl' {cs : List Chunk} : Ent cs cs := fun _ _ => id
theorem Ent.trans {a b c : List Chunk} (x : Ent a b) (y : Ent b c) : Ent a c := fun h s z => y h s (x h s z)
theorem Ent.cons {c : Chunk} {a b : List Chunk} (x : Ent a b) : Ent (c :: a) (c :: b) :=
  fun _ s ⟨h1, h2, sp, p, q⟩ => ⟨h1, h2, sp, p, x h2 s q⟩
theorem Ent.rem {c : Chunk} {cs cs' : List Chunk} (r : Rem c cs cs') : Ent cs (c :: cs') := fun _ _ => sat_front r
theorem Ent.rem' {c : Chunk} {cs cs' : List Chunk} (r : Rem c cs cs') : Ent (c :: cs') cs := fun _ _ => sat_back r

theorem sat_append {a b : List Chunk} {h s : PH} : sat (a ++ b) h s ↔ ∃ h1 h2, Spl h h1 h2 ∧ sat a h1 s ∧ sat b h2 s := by
  induction a generalizing h with
  | nil =>
    refine ⟨fun x => ⟨fun _ => none, h, fun b => .inl ⟨rfl, rfl⟩, fun _ => rfl, x⟩, ?_⟩
    rintro ⟨h1, h2, sp, e, x⟩
    have : h = h2 := funext fun b => by
      rcases sp b with ⟨_, c⟩ | ⟨d, c⟩
      · exact c
      · rw [c, e, d]
    exact this ▸ x
  | cons c a ih =>
    constructor
    · rintro ⟨h1, h2, sp, p, q⟩
      obtain ⟨h3, h4, sp', p', q'⟩ := ih.1 q
      obtain ⟨s1, s2⟩ := sp.assoc sp'.comm
      exact ⟨_, h4, s1.comm, ⟨h1, h3, s2, p, p'⟩, q'⟩
    · rintro ⟨h1, h2, sp, ⟨h3, h4, sp', p, p'⟩, q⟩
      obtain ⟨s1, s2⟩ := sp.comm.assoc sp'
      exact ⟨h3, _, s1, p, ih.2 ⟨h4, h2, s2.comm, p', q⟩⟩

theorem Ent.app {a a' b : List Chunk} (x : Ent a a') : Ent (a ++ b) (a' ++ b) := fun _ s z =>
  let ⟨h1, h2, sp, p, q⟩ := sat_append.1 z
  sat_append.2 ⟨h1, h2, sp, x h1 s p, q⟩

theorem Ent.of_all {cs a : List Chunk} : Ent (all cs :: a) (cs ++ a) := fun _ _ ⟨h1, h2, sp, p, q⟩ => sat_append.2 ⟨h1, h2, sp, p, q⟩
theorem Ent.to_all {cs a : List Chunk} : Ent (cs ++ a) (all cs :: a) := fun _ _ z => let ⟨h1, h2, sp, p, q⟩ := sat_append.1 z; ⟨h1, h2, sp, p, q⟩

theorem Holds.ent {w0 w : World} {cs cs' : List Chunk} (H : Holds w0 w cs) (f : Ent cs cs') : Holds w0 w cs' := H.imp f

theorem sat_pur {p : Prop} {cs : List Chunk} {h s : PH} : sat (pur p :: cs) h s ↔ p ∧ sat cs h s := by
  constructor
  · rintro ⟨h1, h2, sp, ⟨e, hp⟩, q⟩
    have : h = h2 := funext fun b => by
      rcases sp b with ⟨_, c⟩ | ⟨d, c⟩
      · exact c
      · rw [c, e, d]
    exact ⟨hp, this ▸ q⟩
  · rintro ⟨hp, q⟩
    exact ⟨fun _ => none, h, fun b => .inl ⟨rfl, rfl⟩, ⟨fun _ => rfl, hp⟩, q⟩

theorem Holds.pur {w0 w : World} {p : Prop} {cs : List Chunk} (H : Holds w0 w (pur p :: cs)) : p ∧ Holds w0 w cs := by
  obtain ⟨h, s, a, d, e⟩ := H.ex
  obtain ⟨hp, q⟩ := sat_pur.1 a
  exact ⟨hp, ⟨h, s, q, d, e⟩, H.old, H.size, H.os, H.out, H.tape⟩
theorem Holds.pur' {w0 w : World} {p : Prop} {cs : List Chunk} (hp : p) (H : Holds w0 w cs) : Holds w0 w (Sl.pur p :: cs) := H.imp fun _ _ z => sat_pur.2 ⟨hp, z⟩

theorem Holds.of_ex {w0 w : World} {α : Type} {f : α → Chunk} {cs : List Chunk} (H : Holds w0 w (Sl.ex f :: cs)) : ∃ x, Holds w0 w (f x :: cs) := by
  obtain ⟨h, s, ⟨h1, h2, sp, ⟨x, p⟩, q⟩, d, e⟩ := H.ex
  exact ⟨x, ⟨h, s, ⟨h1, h2, sp, p, q⟩, d, e⟩, H.old, H.size, H.os, H.out, H.tape⟩
theorem Holds.to_ex {w0 w : World} {α : Type} {f : α → Chunk} {cs : List Chunk} (x : α) (H : Holds w0 w (f x :: cs)) : Holds w0 w (Sl.ex f :: cs) :=
  H.imp fun _ _ ⟨h1, h2, sp, p, q⟩ => ⟨h1, h2, sp, ⟨x, p⟩, q⟩
theorem Holds.of_all {w0 w : World} {a cs : List Chunk} (H : Holds w0 w (Sl.all a :: cs)) : Holds w0 w (a ++ cs) := H.ent Ent.of_all
theorem Holds.to_all {w0 w : World} {a cs : List Chunk} (H : Holds w0 w (a ++ cs)) : Holds w0 w (Sl.all a :: cs) := H.ent Ent.to_all

/-- What is owned or sealed is what the world has. -/
theorem Holds.own_at {w0 w : World} {b : Nat} {o : Obj} {cs : List Chunk} (H : Holds w0 w cs) (m : own b o ∈ cs) : w.heap[b]? = some o ∧ w0.heap.size ≤ b := by
  obtain ⟨h, s, a, d, _⟩ := H.ex
  have key : ∀ (cs : List Chunk) (h : PH), own b o ∈ cs → sat cs h s → h b = some o := by
    intro cs
    induction cs with
    | nil => intro h m; cases m
    | cons c cs ih =>
      rintro h m ⟨h1, h2, sp, p, q⟩
      cases m with
      | head => exact sp.left (by rw [p b]; simp)
      | tail _ m => exact sp.right (ih h2 m q)
  have := d b o (key cs h m a)
  exact ⟨this.2.1, this.1⟩

theorem Holds.imm_at {w0 w : World} {b : Nat} {o : Obj} {cs : List Chunk} (H : Holds w0 w cs) (m : imm b o ∈ cs) : w.heap[b]? = some o := by
  obtain ⟨h, s, a, _, e⟩ := H.ex
  have key : ∀ (cs : List Chunk) (h : PH), imm b o ∈ cs → sat cs h s → s b = some o := by
    intro cs
    induction cs with
    | nil => intro h m; cases m
    | cons c cs ih =>
      rintro h m ⟨h1, h2, sp, p, q⟩
      cases m with
      | head => exact p.2
      | tail _ m => exact ih h2 m q
  exact e b o (key cs h m a)

theorem sat_own_other {b : Nat} {o : Obj} {cs cs' : List Chunk} (r : Rem (own b o) cs cs') {h s : PH} (z : sat cs h s) (o' : Obj) :
    h b = some o ∧ sat (own b o' :: cs') (fun x => if x = b then some o' else h x) s := by
  obtain ⟨h1, h2, sp, p, q⟩ := sat_front r z
  have hb : h b = some o := sp.left (by rw [p b]; simp)
  refine ⟨hb, fun x => if x = b then some o' else none, h2, fun x => ?_, fun _ => rfl, q⟩
  by_cases e : x = b
  · subst e
    rcases sp x with ⟨u, _⟩ | ⟨u, v⟩
    · rw [p x] at u; simp at u
    · exact .inr ⟨u, by simp⟩
  · rcases sp x with ⟨u, v⟩ | ⟨u, v⟩
    · exact .inl ⟨by simp [e], by simp [e, v]⟩
    · refine .inl ⟨by simp [e], ?_⟩
      simp only [e, if_false]
      rw [v, p x, u]; simp [e]

/-- An owned block is replaced by another one. -/
theorem Holds.put {w0 w : World} {b : Nat} {o o' : Obj} {cs cs' : List Chunk} (H : Holds w0 w cs) (r : Rem (own b o) cs cs') {w' : World}
    (hw : ∀ x, w'.heap[x]? = if x = b then some o' else w.heap[x]?) (hs : w'.heap.size = w.heap.size) (hos : w'.os = w.os) (hout : w'.output = w.output) (htp : w'.tape = w.tape) :
    Holds w0 w' (own b o' :: cs') := by
  obtain ⟨h, s, a, d, e⟩ := H.ex
  obtain ⟨hb, z⟩ := sat_own_other r a o'
  have hd := d b o hb
  refine ⟨⟨_, s, z, fun x u hx => ?_, fun x u hx => ?_⟩, fun x hx => ?_, by rw [hs]; exact H.size, by rw [hos]; exact H.os, by rw [hout]; exact H.out, by rw [htp]; exact H.tape⟩
  · by_cases c : x = b
    · subst c
      simp at hx
      subst hx
      exact ⟨hd.1, by rw [hw]; simp, hd.2.2⟩
    · simp only [c, if_false] at hx
      have := d x u hx
      exact ⟨this.1, by rw [hw]; simp [c, this.2.1], this.2.2⟩
  · have : x ≠ b := by
      rintro rfl
      rw [hd.2.2] at hx; cases hx
    rw [hw]; simp [this, e x u hx]
  · have : x ≠ b := by have := hd.1; omega
    rw [hw]; simp [this, H.old x hx]

/-- A new block. -/
theorem Holds.new {w0 w : World} {cs : List Chunk} (H : Holds w0 w cs) (o : Obj) : Holds w0 { w with heap := w.heap.push o } (own w.heap.size o :: cs) := by
  obtain ⟨h, s, a, d, e⟩ := H.ex
  have hn : h w.heap.size = none := by
    cases c : h w.heap.size with
    | none => rfl
    | some u => have := (d _ _ c).2.1; simp at this
  refine ⟨⟨fun x => if x = w.heap.size then some o else h x, s, ⟨fun x => if x = w.heap.size then some o else none, h, fun x => ?_, fun _ => rfl, a⟩, fun x u hx => ?_, fun x u hx => ?_⟩, fun x hx => ?_, ?_, H.os, H.out, H.tape⟩
  · by_cases c : x = w.heap.size
    · subst c; exact .inr ⟨hn, by simp⟩
    · exact .inl ⟨by simp [c], by simp [c]⟩
  · by_cases c : x = w.heap.size
    · subst c
      simp at hx; subst hx
      refine ⟨H.size, by simp, ?_⟩
      cases c : s w.heap.size with
      | none => rfl
      | some u => have := e _ _ c; simp at this
    · simp only [c, if_false] at hx
      have := d x u hx
      refine ⟨this.1, ?_, this.2.2⟩
      simp only [Array.getElem?_push, c, if_false]
      exact this.2.1
  · have h2 := e x u hx
    have : x ≠ w.heap.size := by rintro rfl; simp at h2
    simp only [Array.getElem?_push, this, if_false]
    exact h2
  · have := H.size
    have : x ≠ w.heap.size := by omega
    simp only [Array.getElem?_push, this, if_false]
    exact H.old x hx
  · have := H.size
    simp only [Array.size_push]; omega

/-- A block is sealed. -/
theorem Holds.sealUp {w0 w : World} {b : Nat} {o : Obj} {cs cs' : List Chunk} (H : Holds w0 w cs) (r : Rem (own b o) cs cs') : Holds w0 w (imm b o :: cs') := by
  obtain ⟨h, s, a, d, e⟩ := H.ex
  obtain ⟨h1, h2, sp, p, q⟩ := sat_front r a
  have hb : h b = some o := sp.left (by rw [p b]; simp)
  have hd := d b o hb
  have le : ∀ x u, s x = some u → (if x = b then some o else s x) = some u := by
    intro x u hx
    have : x ≠ b := by rintro rfl; rw [hd.2.2] at hx; cases hx
    simp [this, hx]
  refine ⟨⟨h2, fun x => if x = b then some o else s x, ⟨fun _ => none, h2, fun x => .inl ⟨rfl, rfl⟩, ⟨fun _ => rfl, by simp⟩, sat.mono le q⟩, fun x u hx => ?_, fun x u hx => ?_⟩, H.old, H.size, H.os, H.out, H.tape⟩
  · have := d x u (sp.right hx)
    refine ⟨this.1, this.2.1, ?_⟩
    have : x ≠ b := by
      rintro rfl
      rcases sp x with ⟨v, _⟩ | ⟨v, _⟩
      · rw [p x] at v; simp at v
      · rw [v] at hx; cases hx
    simp [this, ‹_ ∧ _ ∧ s x = none›.2.2]
  · by_cases c : x = b
    · subst c; simp at hx; subst hx; exact hd.2.1
    · simp only [c, if_false] at hx; exact e x u hx

/-- A chunk that owns nothing may be laid twice. -/
def Pers (c : Chunk) : Prop := ∀ h s, c.on h s → ∀ b, h b = none
theorem Pers.imm {b : Nat} {o : Obj} : Pers (imm b o) := fun _ _ h => h.1
theorem Pers.pur {p : Prop} : Pers (pur p) := fun _ _ h => h.1
theorem Pers.ex {α : Type} {f : α → Chunk} (h : ∀ x, Pers (f x)) : Pers (Sl.ex f) := fun _ _ ⟨x, y⟩ => h x _ _ y
theorem Pers.all {cs : List Chunk} (h : ∀ c ∈ cs, Pers c) : Pers (Sl.all cs) := by
  intro g s z
  induction cs generalizing g with
  | nil => exact z
  | cons c cs ih =>
    obtain ⟨h1, h2, sp, p, q⟩ := z
    intro b
    rcases sp b with ⟨_, e⟩ | ⟨_, e⟩
    · rw [e]; exact ih (fun c hc => h c (.tail _ hc)) h2 q b
    · rw [e]; exact h c (.head _) _ _ p b

theorem Ent.dup {c : Chunk} {cs : List Chunk} (hp : Pers c) : Ent (c :: cs) (c :: c :: cs) := by
  rintro h s ⟨h1, h2, sp, p, q⟩
  have e := hp _ _ p
  have : h = h2 := funext fun b => by
    rcases sp b with ⟨_, c⟩ | ⟨d, c⟩
    · exact c
    · rw [c, e, d]
  subst this
  exact ⟨h1, h, sp, p, h1, h, sp, p, q⟩

/-- A sealed block of the base world: whatever was there before and is never written. -/
theorem Holds.base {w0 w : World} {b : Nat} {o : Obj} {cs : List Chunk} (H : Holds w0 w cs) (hb : w0.heap[b]? = some o) : Holds w0 w (imm b o :: cs) := by
  obtain ⟨h, s, a, d, e⟩ := H.ex
  have hlt : b < w0.heap.size := by
    rcases Nat.lt_or_ge b w0.heap.size with x | x
    · exact x
    · rw [Array.getElem?_eq_none x] at hb; cases hb
  have hw : w.heap[b]? = some o := by rw [H.old b hlt, hb]
  have le : ∀ x u, s x = some u → (if x = b then some o else s x) = some u := by
    intro x u hx
    by_cases c : x = b
    · subst c; have := e _ _ hx; rw [hw] at this; simpa using this
    · simp [c, hx]
  refine ⟨⟨h, fun x => if x = b then some o else s x, ⟨fun _ => none, h, fun x => .inl ⟨rfl, rfl⟩, ⟨fun _ => rfl, by simp⟩, sat.mono le a⟩, fun x u hx => ?_, fun x u hx => ?_⟩, H.old, H.size, H.os, H.out, H.tape⟩
  · have h2 := d x u hx
    refine ⟨h2.1, h2.2.1, ?_⟩
    have : x ≠ b := by have := h2.1; omega
    simp [this, h2.2.2]
  · by_cases c : x = b
    · subst c; simp at hx; subst hx; exact hw
    · simp only [c, if_false] at hx; exact e x u hx


theorem Holds.to_blk {w0 w : World} {b : Nat} {t : TypeId} {l : List Value} {cs : List Chunk} (H : Holds w0 w (own b (.cells l.toArray t (0, 0)) :: cs)) : Holds w0 w (blk b l :: cs) := H.to_ex t
theorem Holds.of_blk {w0 w : World} {b : Nat} {l : List Value} {cs : List Chunk} (H : Holds w0 w (blk b l :: cs)) : ∃ t, Holds w0 w (own b (.cells l.toArray t (0, 0)) :: cs) := H.of_ex
/-- Cells are sealed. -/
theorem Holds.seal_blk {w0 w : World} {b : Nat} {l : List Value} {cs : List Chunk} (H : Holds w0 w (blk b l :: cs)) : Holds w0 w (ro b l :: cs) := by
  obtain ⟨t, H⟩ := H.of_blk
  exact (H.sealUp .here).to_ex t
end Go.Sl
