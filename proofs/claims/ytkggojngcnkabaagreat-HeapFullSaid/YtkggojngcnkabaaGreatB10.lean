/-
  Facts on types in the form that the compile asks; the end: a call whose run gives true.
-/
import Derived.Test.YtkggojngcnkabaaGreatB9
import Derived.ProofKit
set_option linter.unusedVariables false
set_option linter.unusedSimpArgs false
namespace Go.Kx
open Go.Sl

section
variable {P : Program} {t : Nat}
theorem TIok.of {ti : TI} {zv : Value} {us : List Value} (h1 : (P.info? t).map (·.size) = some ti.sz) (h2 : (P.info? t).map (·.bytes) = some ti.by_) (h3 : (P.info? t).bind (·.zero) = some zv) (h4 : zv.cells = us.toArray) (h5 : toVs m0 ti.z = some us)
    (h6 : us.length = ti.sz) (h7 : ti.agg = true → zv = .agg us.toArray) (h7' : ti.agg = false → zv.cells = #[zv]) (h8 : aggOf P t = some ti.agg) (h9 : dOk P t ti.d) : TIok P t ti where
  ex := by
    cases hi : P.info? t with
    | none => rw [hi] at h1; cases h1
    | some i =>
      rw [hi] at h1 h2 h3
      exact ⟨i, zv, us, rfl, by simpa using h1, by simpa using h2, by simpa using h3, h4, h5, h6, h7, h7'⟩
  agg := h8
  d := h9
theorem TIok.of1 {b : Nat} {v : Value} {x : V} {d : TK} (h1 : (P.info? t).map (·.size) = some 1) (h2 : (P.info? t).map (·.bytes) = some b) (h3 : (P.info? t).bind (·.zero) = some v) (h4 : v.cells = #[v]) (h5 : toV m0 x = some v) (h8 : aggOf P t = some false) (h9 : dOk P t d) : TIok P t ⟨1, b, false, [x], d⟩ :=
  TIok.of (us := [v]) h1 h2 h3 (by rw [h4]) (toVs_cons.2 ⟨v, [], h5, toVs_nil _, rfl⟩) rfl (fun h => by cases h) (fun _ => h4) h8 h9
theorem TIok.ofN {n b : Nat} {us : List Value} {z : List V} {d : TK} (h1 : (P.info? t).map (·.size) = some n) (h2 : (P.info? t).map (·.bytes) = some b) (h3 : (P.info? t).bind (·.zero) = some (.agg us.toArray)) (h5 : toVs m0 z = some us) (h6 : us.length = n) (h8 : aggOf P t = some true) (h9 : dOk P t d) : TIok P t ⟨n, b, true, z, d⟩ :=
  TIok.of h1 h2 h3 rfl h5 h6 (fun _ => rfl) (fun h => by cases h) h8 h9
theorem stOk {fs pl : List (Nat × Nat)} (h : (List.range fs.length).map (fldOf P t) = fs.map some) (h2 : placesOf P t = some pl) : dOk P t (.st fs pl) := ⟨fun f off ft hf => by
  have hlt := (List.getElem?_eq_some_iff.1 hf).1
  have := congrArg (fun l => l[f]?) h
  simp only [List.getElem?_map, List.getElem?_range hlt, hf, Option.map_some, Option.some.injEq] at this
  exact this, h2⟩
end

/-! Short forms of the commonest operations. -/
def kM (d t : Nat) : KO := .s d (.mv (.t t))
def kC (d t : Nat) : KO := .s d (.ck (.t t))
def kO (d t n : Nat) : KO := .s d (.off (.t t) n)
def kL (d t : Nat) : KO := .s d (.ld (.t t))
def kW (d t n : Nat) : KO := .s d (.ldn (.t t) n)
def kE (d t n : Nat) : KO := .s d (.ext (.t t) n)
def kI (n : Nat) : O := .c (.i (.ofNat n))
def s00 : St := ⟨0, .nil⟩
theorem start_ok (w : World) : Holds w w [HC m0 Kx.s00] := by
  refine ⟨⟨fun _ => none, fun _ => none, ⟨fun _ => none, fun _ => none, fun b => .inl ⟨rfl, rfl⟩, ⟨fun k b h => ?_, fun k k' b b' h => ?_, fun _ _ => rfl, fun k h => absurd h (Nat.not_lt_zero k)⟩, fun _ => rfl⟩, fun _ _ h => (by cases h), fun _ _ h => (by cases h)⟩, fun _ _ => rfl, Nat.le_refl _, rfl, rfl, rfl⟩
  · cases h
  · cases h
theorem kept_of {w w' : World} {cs : List Chunk} (H : Holds w w' cs) : w.keptBut w' (fun _ => False) := by
  refine ⟨H.os, H.out, fun i hi => ?_⟩
  rw [H.old i hi]
  cases w.heap[i]? with
  | none => rfl
  | some o => cases o <;> first | exact ⟨rfl, rfl, rfl, fun _ _ => rfl⟩ | exact .inr ⟨rfl, rfl⟩ | rfl
/-- A run of the evaluator that gives true: the call returns true, and what stood in memory stands there. -/
theorem call_true {P : Program} {cl : Cl} (hc : ClOk P cl) {f : Nat} {args : List V} {vals : List Value} (hv : toVs m0 args = some vals) (hr : isT (cl f args Kx.s00) = true) (w : World) :
    Calls P f vals.toArray w fun e w' => e = .returned (.bool true) ∧ w.keptBut w' (fun _ => False) := by
  have : ∃ s', cl f args Kx.s00 = .ok (.b true) s' := by
    unfold isT at hr
    split at hr
    · rename_i s h; exact ⟨s, h⟩
    · cases hr
  obtain ⟨s', h⟩ := this
  refine ((hc f args Kx.s00 _ s' h m0 vals hv []).run w [] w (by simpa using start_ok w)).mono fun e w' ⟨v, he, post, ⟨m', _, hval, hpost⟩, H⟩ => ?_
  cases hval
  exact ⟨he, kept_of H⟩
end Go.Kx
namespace Go.Kx
open Go.ChangeShapes Go.WideShapes Go.ChangeAt Go.RowKit
/-- As 'post_of_same', where nothing in memory is read. -/
theorem post_plain {H : Type} {enc : TypeId × Value → H} {P : Program} {f : Func} {s : ChangeSpec} {apart fresh handsOn again : Bool} {W W' : World} {args : Array Value} {v : Value} {ds gs : List (DataW H)}
    (hW : DataW.Whole enc P f.params.toList s.vars apart W args.toList ds gs [])
    (hres : ∀ (b : Nat) (sp : Nat → Bool) (hd : Bool), DataW.TrodAll enc P W' b sp hd f.resultTypes.toList (v.resultList f.resultTypes.size) (s.fn H (ds ++ gs)).results [])
    (hargs : ∀ sp : Nat → Bool, DataW.TrodAll enc P W' 0 sp true f.params.toList args.toList (s.fn H (ds ++ gs)).args [])
    (hvars : ∀ sp : Nat → Bool, DataW.TrodVars enc P W' sp s.vars (s.fn H (ds ++ gs)).vars [])
    (hk : W.keptBut W' (fun _ => False))
    (hok : ∀ (j : Nat) (t : TypeId) (r : Value), f.resultTypes[j]? = some t → (v.resultList f.resultTypes.size)[j]? = some r → Value.okWide P W' .any 0 t r) :
    s.post enc P f apart fresh handsOn again W args v W' := by
  refine ⟨ds, gs, [], [], [], [], hW, hres _ _ _, hargs _, hvars _, World.keptBut_mono (fun p hp => hp.elim) hk, fun _ => ?_⟩
  obtain ⟨_, _, _, _, _, hz, hn⟩ := hW
  refine ⟨hok, _, _, ([] ++ []) ++ [], ⟨[] ++ [], [], trodAll_append (hargs _) (hres _ _ _), hvars _, rfl, ?_, ?_⟩, ?_⟩
  · intro b off hp; simp at hp
  · intro ha; simp
  · intro p hp _; simp at hp
end Go.Kx

namespace Go.Kx
open Go.Sl

abbrev Kc := KEnv → St → XC
abbrev Kv := V → St → XC
noncomputable def onO (o : OV) (k : V → XC) : XC := @OV.rec (fun _ => XC) .no k o
noncomputable def ko (e : KEnv) (n : Nat) (k : V → XC) : XC := @OV.rec (fun _ => XC) .no k (klk e n)
noncomputable def onOL (o : OL) (k : List V → XC) : XC := @OL.rec (fun _ => XC) .no k o
noncomputable def onON (o : ON) (k : Nat → XC) : XC := @ON.rec (fun _ => XC) .no k o
noncomputable def bnr (r : R) (k : Kv) : XC := @R.rec (fun _ => XC) .no k r
noncomputable def ifX (b : Bool) (x : XC) : XC := @Bool.rec (fun _ => XC) .no x b
noncomputable def frcI (n : Int) (k : Int → XC) : XC := @Int.rec (fun _ => XC) (fun m => k (.ofNat m)) (fun m => k (.negSucc m)) n
noncomputable def onp (v : V) (k : Nat → Nat → XC) : XC := @V.rec (fun _ => XC) (fun _ => Unit) (fun _ => .no) (fun _ => .no) (fun _ _ => .no) (fun _ => .no) (fun _ _ => .no) (fun _ => .no) (fun b o => k b o) (.no) (fun _ _ _ _ => .no) (fun _ _ _ _ => .no) (.no) (fun _ => .no) (.no) (fun _ _ _ _ _ => .no) (.no) (fun _ _ => .no) (fun _ _ => .no) () (fun _ _ _ _ => ()) v
noncomputable def oni (v : V) (k : Int → XC) : XC := @V.rec (fun _ => XC) (fun _ => Unit) (fun _ => .no) (fun n => k n) (fun _ _ => .no) (fun _ => .no) (fun _ _ => .no) (fun _ => .no) (fun _ _ => .no) (.no) (fun _ _ _ _ => .no) (fun _ _ _ _ => .no) (.no) (fun _ => .no) (.no) (fun _ _ _ _ _ => .no) (.no) (fun _ _ => .no) (fun _ _ => .no) () (fun _ _ _ _ => ()) v
noncomputable def onBx (v : V) (k : Bool → XC) : XC := @V.rec (fun _ => XC) (fun _ => Unit) (fun x => k x) (fun _ => .no) (fun _ _ => .no) (fun _ => .no) (fun _ _ => .no) (fun _ => .no) (fun _ _ => .no) (.no) (fun _ _ _ _ => .no) (fun _ _ _ _ => .no) (.no) (fun _ => .no) (.no) (fun _ _ _ _ _ => .no) (.no) (fun _ _ => .no) (fun _ _ => .no) () (fun _ _ _ _ => ()) v
noncomputable def onTx (v : V) (k : List V → XC) : XC := @V.rec (fun _ => XC) (fun _ => Unit) (fun _ => .no) (fun _ => .no) (fun _ _ => .no) (fun _ => .no) (fun _ _ => .no) (fun _ => .no) (fun _ _ => .no) (.no) (fun _ _ _ _ => .no) (fun _ _ _ _ => .no) (.no) (fun _ => .no) (.no) (fun _ _ _ _ _ => .no) (.no) (fun _ _ => .no) (fun l _ => k l) () (fun _ _ _ _ => ()) v
noncomputable def onAx (v : V) (k : List V → XC) : XC := @V.rec (fun _ => XC) (fun _ => Unit) (fun _ => .no) (fun _ => .no) (fun _ _ => .no) (fun _ => .no) (fun _ _ => .no) (fun _ => .no) (fun _ _ => .no) (.no) (fun _ _ _ _ => .no) (fun _ _ _ _ => .no) (.no) (fun _ => .no) (.no) (fun _ _ _ _ _ => .no) (.no) (fun l _ => k l) (fun _ _ => .no) () (fun _ _ _ _ => ()) v
noncomputable def onSlx (v : V) (k : Nat → Nat → Nat → XC) : XC := @V.rec (fun _ => XC) (fun _ => Unit) (fun _ => .no) (fun _ => .no) (fun _ _ => .no) (fun _ => .no) (fun _ _ => .no) (fun _ => .no) (fun _ _ => .no) (.no) (fun b o n _ => k b o n) (fun _ _ _ _ => .no) (.no) (fun _ => .no) (.no) (fun _ _ _ _ _ => .no) (.no) (fun _ _ => .no) (fun _ _ => .no) () (fun _ _ _ _ => ()) v
noncomputable def onFnx (v : V) (k : Nat → List V → List V → XC) : XC := @V.rec (fun _ => XC) (fun _ => Unit) (fun _ => .no) (fun _ => .no) (fun _ _ => .no) (fun _ => .no) (fun _ _ => .no) (fun _ => .no) (fun _ _ => .no) (.no) (fun _ _ _ _ => .no) (fun _ _ _ _ => .no) (.no) (fun _ => .no) (.no) (fun f u w _ _ => k f u w) (.no) (fun _ _ => .no) (fun _ _ => .no) () (fun _ _ _ _ => ()) v
noncomputable def ldK (b o : Nat) (s : St) (k : V → XC) : XC := @OB.rec (fun _ => XC) .no (fun blk => @Blk.rec (fun _ => XC) (fun _ _ t => onO (t.get o) k) (fun _ => .no) (fun _ _ => .no) .no blk) (s.h.get b)
noncomputable def extK (v : V) (i : Nat) (k : V → XC) : XC := onTx v fun l => onO (nth l i) k
noncomputable def pkK (c : V) (x y : OV) (k : V → XC) : XC := onBx c fun b => onO (@Bool.rec (fun _ => OV) y x b) k
noncomputable def cvK (v : V) (l : List V) (s : St) (cl : Cl) (k : Kv) : XC := onFnx v fun f u w => bnr (cl f (appL u (appL l w)) s) k
noncomputable def gdK (v : V) (b : Bool) (run : Kv → XC) (s : St) (k : Kv) : XC := match v with
  | .b x => @Bool.rec (fun _ => XC) (k und s) (run k) (eqB b x)
  | .t l => @List.rec V (fun _ => XC) (k und s) (fun _ _ _ => .no) l
  | _ => .no
noncomputable def gdX (v : V) (b : Bool) (x y : XC) : XC := match v with
  | .b c => @Bool.rec (fun _ => XC) y x (eqB b c)
  | .t l => @List.rec V (fun _ => XC) y (fun _ _ _ => .no) l
  | _ => .no
noncomputable def noX (o : OV) (x : XC) : XC := @OV.rec (fun _ => XC) x (fun _ => .no) o
def idk : Kc := fun env s => .ok .n env s
noncomputable def exK (e : Ex) (env : KEnv) (s : St) (k : Kc) : XC := @Ex.rec (fun _ => XC) (k env s) (.ok .r env s) (fun i => .ok (.x i) env s) (fun l => .ok (.g l) env s) e
/-- Behind a piece of code. -/
noncomputable def bindX (x : XC) (k : Kc) : XC := @XC.rec (fun _ => XC) .no (fun e env s => exK e env s k) x
/-- Where two ways join. -/
noncomputable def jn (k : Kc) (f : Kc → XC) : XC := f k
/-- On, with what is known and the memory. -/
noncomputable def nx (k : Kc) (env : KEnv) (s : St) : XC := k env s
noncomputable def cdK (v : V) (x y : XC) : XC := onBx v fun c => @Bool.rec (fun _ => XC) y x c
noncomputable def bkK (x : XC) (i : Nat) (k : Kc) : XC := @XC.rec (fun _ => XC) .no (fun e env s => @Ex.rec (fun _ => XC) (k env s) (.ok .r env s) (fun j => @Bool.rec (fun _ => XC) (.ok (.x j) env s) (k env s) (Nat.beq j i)) (fun l => .ok (.g l) env s) e) x
/-- Those above are what is printed; those below are unfolded ahead of them. -/
noncomputable def hgt : Nat := (fun _ => 0) (extK, pkK, cvK, gdK, gdX, noX, bindX, jn, nx, cdK, bkK, ldK, frcI, onSlx, onAx, ko)
noncomputable def gO (x : O) (env : KEnv) (k : V → XC) : XC := (fun _ => @OV.rec (fun _ => XC) .no k (eO x env)) hgt
noncomputable def gIf (b : Bool) (x : XC) : XC := (fun _ => @Bool.rec (fun _ => XC) .no x b) hgt
noncomputable def gN (o : OV) (x : XC) : XC := (fun _ => @OV.rec (fun _ => XC) x (fun _ => .no) o) hgt
noncomputable def agK (o : OV) (v : V) (x : XC) : XC := (fun _ => @OV.rec (fun _ => XC) x (fun u => ifX (eqV u v) x) o) hgt
noncomputable def gP (v : V) (k : Nat → Nat → XC) : XC := (fun _ => @V.rec (fun _ => XC) (fun _ => Unit) (fun _ => .no) (fun _ => .no) (fun _ _ => .no) (fun _ => .no) (fun _ _ => .no) (fun _ => .no) (fun b o => k b o) (.no) (fun _ _ _ _ => .no) (fun _ _ _ _ => .no) (.no) (fun _ => .no) (.no) (fun _ _ _ _ _ => .no) (.no) (fun _ _ => .no) (fun _ _ => .no) () (fun _ _ _ _ => ()) v) hgt
noncomputable def gI (v : V) (k : Int → XC) : XC := (fun _ => @V.rec (fun _ => XC) (fun _ => Unit) (fun _ => .no) (fun n => k n) (fun _ _ => .no) (fun _ => .no) (fun _ _ => .no) (fun _ => .no) (fun _ _ => .no) (.no) (fun _ _ _ _ => .no) (fun _ _ _ _ => .no) (.no) (fun _ => .no) (.no) (fun _ _ _ _ _ => .no) (.no) (fun _ _ => .no) (fun _ _ => .no) () (fun _ _ _ _ => ()) v) hgt
noncomputable def gBl (v : V) (k : Bool → XC) : XC := (fun _ => @V.rec (fun _ => XC) (fun _ => Unit) (fun x => k x) (fun _ => .no) (fun _ _ => .no) (fun _ => .no) (fun _ _ => .no) (fun _ => .no) (fun _ _ => .no) (.no) (fun _ _ _ _ => .no) (fun _ _ _ _ => .no) (.no) (fun _ => .no) (.no) (fun _ _ _ _ _ => .no) (.no) (fun _ _ => .no) (fun _ _ => .no) () (fun _ _ _ _ => ()) v) hgt
noncomputable def ckK (v : V) (k : V → XC) : XC := gP v fun b o => k (.p b o)
noncomputable def offK (v : V) (n : Nat) (k : V → XC) : XC := gP v fun b o => k (.p b (Nat.add o n))
noncomputable def ldv (v : V) (s : St) (k : V → XC) : XC := gP v fun b o => ldK b o s k
noncomputable def cmK (o : Cm) (v w : V) (k : V → XC) : XC := gI v fun a => gI w fun b => k (.b (cmI o a b))
noncomputable def arK (o : Ar) (v w : V) (k : V → XC) : XC := gI v fun a => gI w fun b => frcI (wrapI (arI o a b)) fun n => k (.i n)
noncomputable def beqK (v w : V) (k : V → XC) : XC := gBl v fun a => gBl w fun b => k (.b (eqB a b))
noncomputable def bneK (v w : V) (k : V → XC) : XC := gBl v fun a => gBl w fun b => k (.b (neg (eqB a b)))
noncomputable def notK (v : V) (k : V → XC) : XC := gBl v fun a => k (.b (neg a))
noncomputable def ixK (v w : V) (n : Nat) (k : V → XC) : XC := onSlx v fun b o len => gI w fun i => onON (nat i) fun i => ifX (Nat.blt i len) (k (.p b (Nat.add o (Nat.mul i n))))
noncomputable def stK (v w : V) (s : St) (k : Kv) : XC := gP v fun b o => bnr (stV b o w s) k
noncomputable def stnK (v w : V) (n : Nat) (s : St) (k : Kv) : XC := gP v fun b o => onAx w fun l => bnr (stnA n b o l s) k
noncomputable def ldnK (v : V) (n : Nat) (s : St) (k : Kv) : XC := gP v fun b o => bnr (ldnP n b o s) k
/-- Operands that are known. -/
noncomputable def frcOO (o : OO) (env : KEnv) (k : OO → XC) : XC := match o with
  | .no => k .no
  | .ok x => gO x env fun v => k (.ok (.c v))
noncomputable def frcOs (env : KEnv) : List O → (List V → XC) → XC
  | [], k => k []
  | x :: r, k => gO x env fun v => frcOs env r fun l => k (v :: l)
noncomputable def frcPL (env : KEnv) : PL → (PL → XC) → XC
  | .nil, k => k .nil
  | .cons off size x r, k => gO x env fun v => frcPL env r fun r' => k (.cons off size (.c v) r')
noncomputable def opK (o : Kp) (cl : Cl) (env : KEnv) (s : St) (k : Kv) : XC := match o with
  | .mv x => gO x env fun v => k v s
  | .ck x => gO x env fun v => ckK v fun w => k w s
  | .off x n => gO x env fun v => offK v n fun w => k w s
  | .ld x => gO x env fun v => ldv v s fun w => k w s
  | .ldn x n => gO x env fun v => ldnK v n s k
  | .st x y => gO x env fun v => gO y env fun w => stK v w s k
  | .stn x y n => gO x env fun v => gO y env fun w => stnK v w n s k
  | .call f xs => frcOs env xs fun l => bnr (cl f l s) k
  | .callv x xs => gO x env fun v => frcOs env xs fun l => cvK v l s cl k
  | .ext x i => gO x env fun v => extK v i fun w => k w s
  | .pick c x y => gO c env fun v => pkK v (eO x env) (eO y env) fun w => k w s
  | .cm o x y => gO x env fun v => gO y env fun w => cmK o v w fun u => k u s
  | .ar o x y => gO x env fun v => gO y env fun w => arK o v w fun u => k u s
  | .beq x y => gO x env fun v => gO y env fun w => beqK v w fun u => k u s
  | .bne x y => gO x env fun v => gO y env fun w => bneK v w fun u => k u s
  | .not x => gO x env fun v => notK v fun u => k u s
  | .ixp x y n => gO x env fun v => gO y env fun w => ixK v w n fun u => k u s
  | .q (.mkf f a b) => frcOs env a fun u => frcOs env b fun w => k (.fn f u w) s
  | .nilp x0 x1 => gO x1 env fun x1v => bnr (eKp (.nilp x0 (.c x1v)) .nil s cl) k
  | .nils x0 x1 => gO x1 env fun x1v => bnr (eKp (.nils x0 (.c x1v)) .nil s cl) k
  | .len x0 => gO x0 env fun x0v => bnr (eKp (.len (.c x0v)) .nil s cl) k
  | .new x0 => bnr (eKp (.new x0) .nil s cl) k
  | .box x0 => gO x0 env fun x0v => bnr (eKp (.box (.c x0v)) .nil s cl) k
  | .bld x0 x1 => frcPL env x1 fun x1v => bnr (eKp (.bld x0 x1v) .nil s cl) k
  | .bsl x0 x1 x2 => frcPL env x2 fun x2v => bnr (eKp (.bsl x0 x1 x2v) .nil s cl) k
  | .app x0 x1 x2 x3 => gO x2 env fun x2v => gO x3 env fun x3v => bnr (eKp (.app x0 x1 (.c x2v) (.c x3v)) .nil s cl) k
  | .re x0 => gO x0 env fun x0v => bnr (eKp (.re (.c x0v)) .nil s cl) k
  | .im x0 => gO x0 env fun x0v => bnr (eKp (.im (.c x0v)) .nil s cl) k
  | .cmk x0 x1 x2 => gO x1 env fun x1v => gO x2 env fun x2v => bnr (eKp (.cmk x0 (.c x1v) (.c x2v)) .nil s cl) k
  | .ark x0 x1 x2 => gO x1 env fun x1v => gO x2 env fun x2v => bnr (eKp (.ark x0 (.c x1v) (.c x2v)) .nil s cl) k
  | .q (.quo x0 x1) => gO x0 env fun x0v => gO x1 env fun x1v => bnr (eKp (.q (.quo (.c x0v) (.c x1v))) .nil s cl) k
  | .q (.rem x0 x1) => gO x0 env fun x0v => gO x1 env fun x1v => bnr (eKp (.q (.rem (.c x0v) (.c x1v))) .nil s cl) k
  | .q (.bits x0 x1 x2) => gO x1 env fun x1v => gO x2 env fun x2v => bnr (eKp (.q (.bits x0 (.c x1v) (.c x2v))) .nil s cl) k
  | .q (.shl x0 x1) => gO x0 env fun x0v => gO x1 env fun x1v => bnr (eKp (.q (.shl (.c x0v) (.c x1v))) .nil s cl) k
  | .q (.shr x0 x1) => gO x0 env fun x0v => gO x1 env fun x1v => bnr (eKp (.q (.shr (.c x0v) (.c x1v))) .nil s cl) k
  | .q (.fcm x0 x1 x2) => gO x1 env fun x1v => gO x2 env fun x2v => bnr (eKp (.q (.fcm x0 (.c x1v) (.c x2v))) .nil s cl) k
  | .q (.seq x0 x1) => gO x0 env fun x0v => gO x1 env fun x1v => bnr (eKp (.q (.seq (.c x0v) (.c x1v))) .nil s cl) k
  | .q (.neg x0) => gO x0 env fun x0v => bnr (eKp (.q (.neg (.c x0v))) .nil s cl) k
  | .q (.cii x0 x1) => gO x1 env fun x1v => bnr (eKp (.q (.cii x0 (.c x1v))) .nil s cl) k
  | .q (.cif x0) => gO x0 env fun x0v => bnr (eKp (.q (.cif (.c x0v))) .nil s cl) k
  | .q (.cff x0) => gO x0 env fun x0v => bnr (eKp (.q (.cff (.c x0v))) .nil s cl) k
  | .q (.cfi x0 x1) => gO x1 env fun x1v => bnr (eKp (.q (.cfi x0 (.c x1v))) .nil s cl) k
  | .q (.fld x0 x1) => gO x0 env fun x0v => bnr (eKp (.q (.fld (.c x0v) x1)) .nil s cl) k
  | .q (.fldn x0 x1 x2) => gO x0 env fun x0v => bnr (eKp (.q (.fldn (.c x0v) x1 x2)) .nil s cl) k
  | .q (.iar x0 x1 x2 x3) => gO x0 env fun x0v => gO x1 env fun x1v => bnr (eKp (.q (.iar (.c x0v) (.c x1v) x2 x3)) .nil s cl) k
  | .q (.ixs x0 x1) => gO x0 env fun x0v => gO x1 env fun x1v => bnr (eKp (.q (.ixs (.c x0v) (.c x1v))) .nil s cl) k
  | .q (.ixa x0 x1 x2) => gO x0 env fun x0v => gO x1 env fun x1v => bnr (eKp (.q (.ixa (.c x0v) (.c x1v) x2)) .nil s cl) k
  | .q (.sli x0 x1 x2 x3) => gO x0 env fun x0v => frcOO x2 env fun x2v => frcOO x3 env fun x3v => bnr (eKp (.q (.sli (.c x0v) x1 x2v x3v)) .nil s cl) k
  | .q (.sl0 x0) => gO x0 env fun x0v => bnr (eKp (.q (.sl0 (.c x0v))) .nil s cl) k
  | .q (.sl3 x0 x1 x2 x3 x4) => gO x0 env fun x0v => gO x2 env fun x2v => gO x3 env fun x3v => gO x4 env fun x4v => bnr (eKp (.q (.sl3 (.c x0v) x1 (.c x2v) (.c x3v) (.c x4v))) .nil s cl) k
  | .q (.sla x0 x1 x2 x3 x4) => gO x0 env fun x0v => frcOO x3 env fun x3v => frcOO x4 env fun x4v => bnr (eKp (.q (.sla (.c x0v) x1 x2 x3v x4v)) .nil s cl) k
  | .q (.mkm) => bnr (eKp (.q (.mkm)) .nil s cl) k
  | .q (.lens x0) => gO x0 env fun x0v => bnr (eKp (.q (.lens (.c x0v))) .nil s cl) k
  | .q (.lenm x0) => gO x0 env fun x0v => bnr (eKp (.q (.lenm (.c x0v))) .nil s cl) k
  | .q (.mks x0 x1 x2 x3) => gO x2 env fun x2v => gO x3 env fun x3v => bnr (eKp (.q (.mks x0 x1 (.c x2v) (.c x3v))) .nil s cl) k
  | .q (.clr x0 x1) => gO x1 env fun x1v => bnr (eKp (.q (.clr x0 (.c x1v))) .nil s cl) k
  | .q (.cplx x0 x1) => gO x0 env fun x0v => gO x1 env fun x1v => bnr (eKp (.q (.cplx (.c x0v) (.c x1v))) .nil s cl) k
  | .q (.min x0 x1) => gO x0 env fun x0v => gO x1 env fun x1v => bnr (eKp (.q (.min (.c x0v) (.c x1v))) .nil s cl) k
  | .q (.max x0 x1) => gO x0 env fun x0v => gO x1 env fun x1v => bnr (eKp (.q (.max (.c x0v) (.c x1v))) .nil s cl) k
  | .q (.rng x0) => gO x0 env fun x0v => bnr (eKp (.q (.rng (.c x0v))) .nil s cl) k
  | .q (.nxt x0) => gO x0 env fun x0v => bnr (eKp (.q (.nxt (.c x0v))) .nil s cl) k
  | .q (.lkp x0 x1 x2) => gO x1 env fun x1v => gO x2 env fun x2v => bnr (eKp (.q (.lkp x0 (.c x1v) (.c x2v))) .nil s cl) k
  | .q (.mup x0 x1 x2) => gO x0 env fun x0v => gO x1 env fun x1v => gO x2 env fun x2v => bnr (eKp (.q (.mup (.c x0v) (.c x1v) (.c x2v))) .nil s cl) k
  | .q (.f64b x0) => gO x0 env fun x0v => bnr (eKp (.q (.f64b (.c x0v))) .nil s cl) k
  | .q (.far x0 x1 x2) => gO x1 env fun x1v => gO x2 env fun x2v => bnr (eKp (.q (.far x0 (.c x1v) (.c x2v))) .nil s cl) k
  | .q (.fneg x0) => gO x0 env fun x0v => bnr (eKp (.q (.fneg (.c x0v))) .nil s cl) k

def RefX (x y : XC) : Prop := ∀ e env s, x = .ok e env s → y = .ok e env s
def RefCl (cl' cl : Cl) : Prop := ∀ f args s v s', cl' f args s = .ok v s' → cl f args s = .ok v s'
theorem RefX.rfl' {x : XC} : RefX x x := fun _ _ _ h => h
theorem RefX.no {y : XC} : RefX .no y := fun _ _ _ h => by cases h
theorem RefX.trans {x y z : XC} (a : RefX x y) (b : RefX y z) : RefX x z := fun e env s h => b e env s (a e env s h)
theorem ref_onO {o : OV} {k : V → XC} {y : XC} (h : ∀ v, o = .ok v → RefX (k v) y) : RefX (onO o k) y := by
  cases o with
  | no => exact RefX.no
  | ok v => exact h v rfl
theorem ref_gO {x : O} {env : KEnv} {k : V → XC} {y : XC} (h : ∀ v, eO x env = .ok v → RefX (k v) y) : RefX (gO x env k) y := ref_onO (o := eO x env) h
theorem ref_gIf {b : Bool} {x y : XC} (h : b = true → RefX x y) : RefX (gIf b x) y := by
  cases b with
  | false => exact RefX.no
  | true => exact h rfl
theorem ref_onON {o : ON} {k : Nat → XC} {y : XC} (h : ∀ v, o = .ok v → RefX (k v) y) : RefX (onON o k) y := by
  cases o with
  | no => exact RefX.no
  | ok v => exact h v rfl
theorem ref_ifX {b : Bool} {x y : XC} (h : b = true → RefX x y) : RefX (ifX b x) y := by
  cases b with
  | false => exact RefX.no
  | true => exact h rfl
theorem ref_gP {v : V} {k : Nat → Nat → XC} {y : XC} (h : ∀ b o, v = .p b o → RefX (k b o) y) : RefX (gP v k) y := by
  cases v <;> first | exact h _ _ rfl | exact RefX.no
theorem ref_gI {v : V} {k : Int → XC} {y : XC} (h : ∀ n, v = .i n → RefX (k n) y) : RefX (gI v k) y := by
  cases v <;> first | exact h _ rfl | exact RefX.no
theorem ref_gB {v : V} {k : Bool → XC} {y : XC} (h : ∀ n, v = .b n → RefX (k n) y) : RefX (gBl v k) y := by
  cases v <;> first | exact h _ rfl | exact RefX.no
theorem ref_onBx {v : V} {k : Bool → XC} {y : XC} (h : ∀ n, v = .b n → RefX (k n) y) : RefX (onBx v k) y := by
  cases v <;> first | exact h _ rfl | exact RefX.no
theorem ref_onTx {v : V} {k : List V → XC} {y : XC} (h : ∀ n, v = .t n → RefX (k n) y) : RefX (onTx v k) y := by
  cases v <;> first | exact h _ rfl | exact RefX.no
theorem ref_onAx {v : V} {k : List V → XC} {y : XC} (h : ∀ n, v = .a n → RefX (k n) y) : RefX (onAx v k) y := by
  cases v <;> first | exact h _ rfl | exact RefX.no
theorem ref_onSlx {v : V} {k : Nat → Nat → Nat → XC} {y : XC} (h : ∀ b o n c, v = .sl b o n c → RefX (k b o n) y) : RefX (onSlx v k) y := by
  cases v <;> first | exact h _ _ _ _ rfl | exact RefX.no
theorem ref_onFnx {v : V} {k : Nat → List V → List V → XC} {y : XC} (h : ∀ f u w, v = .fn f u w → RefX (k f u w) y) : RefX (onFnx v k) y := by
  cases v <;> first | exact h _ _ _ rfl | exact RefX.no
theorem ref_frcI {n : Int} {k : Int → XC} {y : XC} (h : RefX (k n) y) : RefX (frcI n k) y := by
  cases n <;> exact h
theorem ref_bindR {r r' : R} {k k' : Kv} (h : ∀ v s, r = .ok v s → r' = .ok v s) (hk : ∀ v s, RefX (k v s) (k' v s)) : RefX (bnr r k) (bnr r' k') := by
  cases r with
  | no => exact RefX.no
  | ok v s => rw [h v s rfl]; exact hk v s
theorem ref_frcOO {o : OO} {env : KEnv} {k : OO → XC} {y : XC} (h : ∀ o', (∀ d, bnd o' d .nil = bnd o d env) → RefX (k o') y) : RefX (frcOO o env k) y := by
  cases o with
  | no => exact h .no fun d => rfl
  | ok x =>
    exact ref_onO fun v hv => h _ fun d => by
      show @OV.rec (fun _ => ON) .no vNat (eO (.c v) .nil) = @OV.rec (fun _ => ON) .no vNat (eO x env)
      rw [hv]; rfl
theorem ref_frcOs {env : KEnv} {y : XC} : ∀ {xs : List O} {k : List V → XC}, (∀ l, eOs xs env = .ok l → RefX (k l) y) → RefX (frcOs env xs k) y
  | [], k, h => h [] rfl
  | x :: r, k, h => ref_gO fun v hv => ref_frcOs (xs := r) fun l hl => h _ (by
      show @OV.rec (fun _ => (KEnv → OL) → KEnv → OL) (fun _ _ => .no) (fun v ih env => @OL.rec (fun _ => V → OL) (fun _ => .no) (fun l v => .ok (v :: l)) (ih env) v) (eO x env) (eOs r) env = _
      rw [hv]
      show @OL.rec (fun _ => V → OL) (fun _ => .no) (fun l v => .ok (v :: l)) (eOs r env) v = _
      rw [hl])
theorem fl2_congr {off size : Nat} {f g : List V → KEnv → OL} {env : KEnv} (h : ∀ l, f l .nil = g l env) (l ys : List V) : fl2 off size f l .nil ys = fl2 off size g l env ys := by
  show fl3 _ f (wrL ys l off) .nil = fl3 _ g (wrL ys l off) env
  generalize (@Bool.rec (fun _ => Bool → Bool) (fun _ => false) (fun b => b) (Nat.beq (lenL ys) size) (Nat.ble (Nat.add off size) (lenL l))) = c
  cases c with
  | false => rfl
  | true => exact h _
theorem ref_frcPL {env : KEnv} {y : XC} : ∀ {p : PL} {k : PL → XC}, (∀ p', (∀ l, fill p' l .nil = fill p l env) → RefX (k p') y) → RefX (frcPL env p k) y
  | .nil, k, h => h .nil fun l => rfl
  | .cons off size x r, k, h => ref_gO fun v hv => ref_frcPL (p := r) fun r' hr => h _ fun l => by
      show fl1 (.ok v) off size (fill r') l .nil = fl1 (eO x env) off size (fill r) l env
      rw [hv]
      exact fl2_congr hr l (cellsOf v)
section
variable {cl cl' : Cl} {env : KEnv} {s : St} {k k' : Kv}
theorem slV_congr {n : Nat} {lo hi lo' hi' : OO} {v : V} (h1 : ∀ d, bnd lo' d .nil = bnd lo d env) (h2 : ∀ d, bnd hi' d .nil = bnd hi d env) : slV n lo' hi' .nil v s = slV n lo hi env v s := by
  cases v with
  | ns =>
    show oN (bnd lo' 0 .nil) (slZ1 hi' .nil .ns) s = oN (bnd lo 0 env) (slZ1 hi env .ns) s
    rw [h1]
    cases bnd lo 0 env with
    | no => rfl
    | ok l => show oN (bnd hi' 0 .nil) _ s = oN (bnd hi 0 env) _ s; rw [h2]
  | se a b c d =>
    show oN (bnd lo' 0 .nil) (slZ1 hi' .nil (.se a b c d)) s = oN (bnd lo 0 env) (slZ1 hi env (.se a b c d)) s
    rw [h1]
    cases bnd lo 0 env with
    | no => rfl
    | ok l => show oN (bnd hi' 0 .nil) _ s = oN (bnd hi 0 env) _ s; rw [h2]
  | sl b o len c =>
    show oN (bnd lo' 0 .nil) (slH hi' .nil b o n len c) s = oN (bnd lo 0 env) (slH hi env b o n len c) s
    rw [h1]
    cases bnd lo 0 env with
    | no => rfl
    | ok l => show oN (bnd hi' len .nil) _ s = oN (bnd hi len env) _ s; rw [h2]
  | _ => rfl
theorem sla_congr {n len : Nat} {lo hi lo' hi' : OO} {v : V} (h1 : ∀ d, bnd lo' d .nil = bnd lo d env) (h2 : ∀ d, bnd hi' d .nil = bnd hi d env) : onP (sla0 lo' hi' .nil n len) v s = onP (sla0 lo hi env n len) v s := by
  cases v with
  | p b o =>
    show oN (bnd lo' 0 .nil) (sla1 hi' .nil n len b o) s = oN (bnd lo 0 env) (sla1 hi env n len b o) s
    rw [h1]
    cases bnd lo 0 env with
    | no => rfl
    | ok l => show oN (bnd hi' len .nil) _ s = oN (bnd hi len env) _ s; rw [h2]
  | _ => rfl
theorem bnd_c {x : O} {v : V} (h : eO x env = .ok v) (d : Nat) : bnd (.ok (.c v)) d .nil = bnd (.ok x) d env := by
  show @OV.rec (fun _ => ON) .no vNat (eO (.c v) .nil) = @OV.rec (fun _ => ON) .no vNat (eO x env)
  rw [h]; rfl
theorem sl3_congr {n : Nat} {x y z : O} {a b c v : V} (h1 : eO x env = .ok a) (h2 : eO y env = .ok b) (h3 : eO z env = .ok c) : onSl3 (s3V (.c a) (.c b) (.c c) .nil n) v s = onSl3 (s3V x y z env n) v s := by
  cases v with
  | sl bb o len cc =>
    show oN (bnd (.ok (.c a)) 0 .nil) (s3L (.c b) (.c c) .nil bb o n len) s = oN (bnd (.ok x) 0 env) (s3L y z env bb o n len) s
    rw [bnd_c h1]
    cases bnd (.ok x) 0 env with
    | no => rfl
    | ok l =>
      show oN (bnd (.ok (.c b)) 0 .nil) (s3H (.c c) .nil bb o n len l) s = oN (bnd (.ok y) 0 env) (s3H z env bb o n len l) s
      rw [bnd_c h2]
      cases bnd (.ok y) 0 env with
      | no => rfl
      | ok l => show oN (bnd (.ok (.c c)) 0 .nil) _ s = oN (bnd (.ok z) 0 env) _ s; rw [bnd_c h3]
  | _ => rfl
theorem ref_opK (hcl : RefCl cl' cl) (hk : ∀ v s, RefX (k v s) (k' v s)) (o : Kp) : RefX (opK o cl' env s k) (bnr (eKp o env s cl) k') := by
  cases o with
  | mv x =>
    exact ref_gO fun v hv => by
      show RefX _ (bnr (oV (eO x env) R.ok s) k')
      rw [hv]; exact hk v s
  | ck x =>
    exact ref_gO fun v hv => ref_gP fun b o hp => by
      subst hp
      show RefX _ (bnr (oV (eO x env) ckV s) k')
      rw [hv]; exact hk _ s
  | off x n =>
    exact ref_gO fun v hv => ref_gP fun b o hp => by
      subst hp
      show RefX _ (bnr (oV (eO x env) (onP (offP n)) s) k')
      rw [hv]; exact hk _ s
  | ld x =>
    exact ref_gO fun v hv => ref_gP fun b o hp => by
      subst hp
      show RefX (ldK b o s fun w => k w s) (bnr (oV (eO x env) (onP ldP) s) k')
      rw [hv]
      show RefX _ (bnr (oB (s.h.get b) (onC (ldC o)) s) k')
      unfold ldK
      cases s.h.get b with
      | no => exact RefX.no
      | ok blk =>
        cases blk with
        | c n sz t =>
          show RefX (onO (t.get o) _) (bnr (oV (t.get o) R.ok s) k')
          exact ref_onO fun w hw => by rw [hw]; exact hk w s
        | _ => exact RefX.no
  | ldn x n =>
    exact ref_gO fun v hv => ref_gP fun b o hp => by
      subst hp
      show RefX _ (bnr (oV (eO x env) (onP (ldnP n)) s) k')
      rw [hv]; exact ref_bindR (fun _ _ h => h) hk
  | st x y =>
    exact ref_gO fun v hv => ref_gO fun w hw => ref_gP fun b o hp => by
      subst hp
      show RefX _ (bnr (oV (eO x env) (onP (stP (eO y env))) s) k')
      rw [hv, hw]; exact ref_bindR (fun _ _ h => h) hk
  | stn x y n =>
    exact ref_gO fun v hv => ref_gO fun w hw => ref_gP fun b o hp => ref_onAx fun l hl => by
      subst hp; subst hl
      show RefX _ (bnr (oV (eO x env) (onP (stnP n (eO y env))) s) k')
      rw [hv, hw]; exact ref_bindR (fun _ _ h => h) hk
  | call f xs =>
    exact ref_frcOs fun l hl => by
      show RefX _ (bnr (oL (eOs xs env) (cl f) s) k')
      rw [hl]; exact ref_bindR (fun _ _ h => hcl _ _ _ _ _ h) hk
  | callv x xs =>
    exact ref_gO fun v hv => ref_frcOs fun l hl => ref_onFnx fun f u w hf => by
      subst hf
      show RefX _ (bnr (oV (eO x env) (onFn (cv1 cl (eOs xs env))) s) k')
      rw [hv, hl]; exact ref_bindR (fun _ _ h => hcl _ _ _ _ _ h) hk
  | ext x i =>
    exact ref_gO fun v hv => ref_onTx fun l hl => ref_onO fun w hw => by
      subst hl
      show RefX _ (bnr (oV (eO x env) (onT (extT i)) s) k')
      rw [hv]
      show RefX _ (bnr (oV (nth l i) R.ok s) k')
      rw [hw]; exact hk w s
  | pick c x y =>
    exact ref_gO fun v hv => ref_onBx fun b hb => ref_onO fun w hw => by
      subst hb
      show RefX _ (bnr (oV (eO c env) (onB (pkB x y env)) s) k')
      rw [hv]
      show RefX _ (bnr (oV (@Bool.rec (fun _ => OV) (eO y env) (eO x env) b) R.ok s) k')
      rw [hw]; exact hk w s
  | cm o x y =>
    exact ref_gO fun v hv => ref_gO fun w hw => ref_gI fun a ha => ref_gI fun b hb => by
      subst ha; subst hb
      show RefX _ (bnr (oV (eO x env) (onI (cm1 o (eO y env))) s) k')
      rw [hv, hw]; exact hk _ s
  | ar o x y =>
    exact ref_gO fun v hv => ref_gO fun w hw => ref_gI fun a ha => ref_gI fun b hb => ref_frcI (by
      subst ha; subst hb
      show RefX _ (bnr (oV (eO x env) (onI (ar1 o (eO y env))) s) k')
      rw [hv, hw]; exact hk _ s)
  | beq x y =>
    exact ref_gO fun v hv => ref_gO fun w hw => ref_gB fun a ha => ref_gB fun b hb => by
      subst ha; subst hb
      show RefX _ (bnr (oV (eO x env) (onB (beq1 (eO y env))) s) k')
      rw [hv, hw]; exact hk _ s
  | bne x y =>
    exact ref_gO fun v hv => ref_gO fun w hw => ref_gB fun a ha => ref_gB fun b hb => by
      subst ha; subst hb
      show RefX _ (bnr (oV (eO x env) (onB (bne1 (eO y env))) s) k')
      rw [hv, hw]; exact hk _ s
  | nilp x0 x1 =>
    exact ref_gO fun x1v x1h => ref_bindR (fun v s1 h => by
        show eNilp x0 x1 env s cl = _
        unfold eNilp
        rw [x1h]
        exact h) hk
  | nils x0 x1 =>
    exact ref_gO fun x1v x1h => ref_bindR (fun v s1 h => by
        show eNils x0 x1 env s cl = _
        unfold eNils
        rw [x1h]
        exact h) hk
  | not x =>
    exact ref_gO fun v hv => ref_gB fun a ha => by
      subst ha
      show RefX _ (bnr (oV (eO x env) (onB notB) s) k')
      rw [hv]; exact hk _ s
  | ixp x y n =>
    exact ref_gO fun v hv => ref_gO fun w hw => ref_onSlx fun b o len c hs => ref_gI fun i hi => ref_onON fun j hj => ref_ifX fun hb => by
      subst hs; subst hi
      show RefX _ (bnr (oV (eO x env) (onSl3 (ix0 n (eO y env))) s) k')
      rw [hv, hw]
      show RefX _ (bnr (oN (nat i) (ix2 n b o len) s) k')
      rw [hj]
      show RefX _ (bnr (bR (Nat.blt j len) (ix3 n b o j) s) k')
      rw [hb]; exact hk _ s
  | len x0 =>
    exact ref_gO fun x0v x0h => ref_bindR (fun v s1 h => by
        show eLen x0 env s cl = _
        unfold eLen
        rw [x0h]
        exact h) hk
  | new x0 =>
    exact ref_bindR (fun v s1 h => by
        show eNew x0 env s cl = _
        unfold eNew
        skip
        exact h) hk
  | box x0 =>
    exact ref_gO fun x0v x0h => ref_bindR (fun v s1 h => by
        show eBox x0 env s cl = _
        unfold eBox
        rw [x0h]
        exact h) hk
  | bld x0 x1 =>
    exact ref_frcPL fun x1v x1h => ref_bindR (fun v s1 h => by
        have h2 : oL (fill x1v x0 .nil) okA s = .ok v s1 := h
        rw [x1h] at h2; exact h2) hk
  | bsl x0 x1 x2 =>
    exact ref_frcPL fun x2v x2h => ref_bindR (fun v s1 h => by
        have h2 : oL (fill x2v (repL x0 x1) .nil) (bsl1 x1 (lenL x0)) s = .ok v s1 := h
        rw [x2h] at h2; exact h2) hk
  | app x0 x1 x2 x3 =>
    exact ref_gO fun x2v x2h => ref_gO fun x3v x3h => ref_bindR (fun v s1 h => by
        show eApp x0 x1 x2 x3 env s cl = _
        unfold eApp
        rw [x2h, x3h]
        exact h) hk
  | re x0 =>
    exact ref_gO fun x0v x0h => ref_bindR (fun v s1 h => by
        show eRe x0 env s cl = _
        unfold eRe
        rw [x0h]
        exact h) hk
  | im x0 =>
    exact ref_gO fun x0v x0h => ref_bindR (fun v s1 h => by
        show eIm x0 env s cl = _
        unfold eIm
        rw [x0h]
        exact h) hk
  | cmk x0 x1 x2 =>
    exact ref_gO fun x1v x1h => ref_gO fun x2v x2h => ref_bindR (fun v s1 h => by
        show eCmk x0 x1 x2 env s cl = _
        unfold eCmk
        rw [x1h, x2h]
        exact h) hk
  | ark x0 x1 x2 =>
    exact ref_gO fun x1v x1h => ref_gO fun x2v x2h => ref_bindR (fun v s1 h => by
        show eArk x0 x1 x2 env s cl = _
        unfold eArk
        rw [x1h, x2h]
        exact h) hk
  | q o =>
      cases o with
      | quo x0 x1 =>
        exact ref_gO fun x0v x0h => ref_gO fun x1v x1h => ref_bindR (fun v s1 h => by
          show eQuo x0 x1 env s cl = _
          unfold eQuo eAny2
          rw [x0h, x1h]
          exact h) hk
      | rem x0 x1 =>
        exact ref_gO fun x0v x0h => ref_gO fun x1v x1h => ref_bindR (fun v s1 h => by
          show eRem x0 x1 env s cl = _
          unfold eRem eAny2
          rw [x0h, x1h]
          exact h) hk
      | bits x0 x1 x2 =>
        exact ref_gO fun x1v x1h => ref_gO fun x2v x2h => ref_bindR (fun v s1 h => by
          show eBits x0 x1 x2 env s cl = _
          unfold eBits eAny2
          rw [x1h, x2h]
          exact h) hk
      | shl x0 x1 =>
        exact ref_gO fun x0v x0h => ref_gO fun x1v x1h => ref_bindR (fun v s1 h => by
          show eShl x0 x1 env s cl = _
          unfold eShl eSh2
          rw [x0h, x1h]
          exact h) hk
      | shr x0 x1 =>
        exact ref_gO fun x0v x0h => ref_gO fun x1v x1h => ref_bindR (fun v s1 h => by
          show eShr x0 x1 env s cl = _
          unfold eShr eSh2
          rw [x0h, x1h]
          exact h) hk
      | fcm x0 x1 x2 =>
        exact ref_gO fun x1v x1h => ref_gO fun x2v x2h => ref_bindR (fun v s1 h => by
          show eFcm x0 x1 x2 env s cl = _
          unfold eFcm
          rw [x1h, x2h]
          exact h) hk
      | seq x0 x1 =>
        exact ref_gO fun x0v x0h => ref_gO fun x1v x1h => ref_bindR (fun v s1 h => by
          show eSeq x0 x1 env s cl = _
          unfold eSeq
          rw [x0h, x1h]
          exact h) hk
      | neg x0 =>
        exact ref_gO fun x0v x0h => ref_bindR (fun v s1 h => by
          show eNeg x0 env s cl = _
          unfold eNeg
          rw [x0h]
          exact h) hk
      | cii x0 x1 =>
        exact ref_gO fun x1v x1h => ref_bindR (fun v s1 h => by
          show eCii x0 x1 env s cl = _
          unfold eCii
          rw [x1h]
          exact h) hk
      | cif x0 =>
        exact ref_gO fun x0v x0h => ref_bindR (fun v s1 h => by
          show eCif x0 env s cl = _
          unfold eCif
          rw [x0h]
          exact h) hk
      | cff x0 =>
        exact ref_gO fun x0v x0h => ref_bindR (fun v s1 h => by
          show eCff x0 env s cl = _
          unfold eCff
          rw [x0h]
          exact h) hk
      | cfi x0 x1 =>
        exact ref_gO fun x1v x1h => ref_bindR (fun v s1 h => by
          show eCfi x0 x1 env s cl = _
          unfold eCfi
          rw [x1h]
          exact h) hk
      | fld x0 x1 =>
        exact ref_gO fun x0v x0h => ref_bindR (fun v s1 h => by
          show eFld x0 x1 env s cl = _
          unfold eFld
          rw [x0h]
          exact h) hk
      | fldn x0 x1 x2 =>
        exact ref_gO fun x0v x0h => ref_bindR (fun v s1 h => by
          show eFldn x0 x1 x2 env s cl = _
          unfold eFldn
          rw [x0h]
          exact h) hk
      | iar x0 x1 x2 x3 =>
        exact ref_gO fun x0v x0h => ref_gO fun x1v x1h => ref_bindR (fun v s1 h => by
          show eIar x0 x1 x2 x3 env s cl = _
          unfold eIar
          rw [x0h, x1h]
          exact h) hk
      | ixs x0 x1 =>
        exact ref_gO fun x0v x0h => ref_gO fun x1v x1h => ref_bindR (fun v s1 h => by
          show eIxs x0 x1 env s cl = _
          unfold eIxs
          rw [x0h, x1h]
          exact h) hk
      | ixa x0 x1 x2 =>
        exact ref_gO fun x0v x0h => ref_gO fun x1v x1h => ref_bindR (fun v s1 h => by
          show eIxa x0 x1 x2 env s cl = _
          unfold eIxa
          rw [x0h, x1h]
          exact h) hk
      | sli x0 x1 x2 x3 =>
        exact ref_gO fun x0v x0h => ref_frcOO fun x2v x2h => ref_frcOO fun x3v x3h => ref_bindR (fun v s1 h => by
          have e1 : eSli x0 x1 x2 x3 env s cl = slV x1 x2 x3 env x0v s := by unfold eSli; rw [x0h]; rfl
          show eSli x0 x1 x2 x3 env s cl = _
          rw [e1]
          have h2 : slV x1 x2v x3v .nil x0v s = .ok v s1 := h
          exact (slV_congr x2h x3h) ▸ h2) hk
      | sl0 x0 =>
        exact ref_gO fun x0v x0h => ref_bindR (fun v s1 h => by
          show eSl0 x0 env s cl = _
          unfold eSl0
          rw [x0h]
          exact h) hk
      | sl3 x0 x1 x2 x3 x4 =>
        exact ref_gO fun x0v x0h => ref_gO fun x2v x2h => ref_gO fun x3v x3h => ref_gO fun x4v x4h => ref_bindR (fun v s1 h => by
          have h2 : onSl3 (s3V (.c x2v) (.c x3v) (.c x4v) .nil x1) x0v s = .ok v s1 := h
          show oV (eO x0 env) (onSl3 (s3V x2 x3 x4 env x1)) s = _
          rw [x0h]
          show onSl3 (s3V x2 x3 x4 env x1) x0v s = _
          rw [← sl3_congr x2h x3h x4h]; exact h2) hk
      | sla x0 x1 x2 x3 x4 =>
        exact ref_gO fun x0v x0h => ref_frcOO fun x3v x3h => ref_frcOO fun x4v x4h => ref_bindR (fun v s1 h => by
          have e1 : eSla x0 x1 x2 x3 x4 env s cl = onP (sla0 x3 x4 env x1 x2) x0v s := by unfold eSla; rw [x0h]; rfl
          show eSla x0 x1 x2 x3 x4 env s cl = _
          rw [e1]
          have h2 : onP (sla0 x3v x4v .nil x1 x2) x0v s = .ok v s1 := h
          exact (sla_congr x3h x4h) ▸ h2) hk
      | mkf f a b =>
        exact ref_frcOs fun u hu => ref_frcOs fun w hw => by
          show RefX _ (bnr (oL (eOs a env) (mkf1 f (eOs b env)) s) k')
          rw [hu, hw]; exact hk _ s
      | mkm =>
        exact ref_bindR (r := eKp (.q .mkm) .nil s cl') (r' := eKp (.q .mkm) env s cl) (fun v s1 h => h) hk
      | lens x0 =>
        exact ref_gO fun x0v x0h => ref_bindR (fun v s1 h => by
          show eLens x0 env s cl = _
          unfold eLens
          rw [x0h]
          exact h) hk
      | lenm x0 =>
        exact ref_gO fun x0v x0h => ref_bindR (fun v s1 h => by
          show eLenm x0 env s cl = _
          unfold eLenm
          rw [x0h]
          exact h) hk
      | mks x0 x1 x2 x3 =>
        exact ref_gO fun x2v x2h => ref_gO fun x3v x3h => ref_bindR (fun v s1 h => by
          show eMks x0 x1 x2 x3 env s cl = _
          unfold eMks
          rw [x2h, x3h]
          exact h) hk
      | clr x0 x1 =>
        exact ref_gO fun x1v x1h => ref_bindR (fun v s1 h => by
          show eClr x0 x1 env s cl = _
          unfold eClr
          rw [x1h]
          exact h) hk
      | cplx x0 x1 =>
        exact ref_gO fun x0v x0h => ref_gO fun x1v x1h => ref_bindR (fun v s1 h => by
          show eCplx x0 x1 env s cl = _
          unfold eCplx
          rw [x0h, x1h]
          exact h) hk
      | min x0 x1 =>
        exact ref_gO fun x0v x0h => ref_gO fun x1v x1h => ref_bindR (fun v s1 h => by
          show eMin x0 x1 env s cl = _
          unfold eMin
          rw [x0h, x1h]
          exact h) hk
      | max x0 x1 =>
        exact ref_gO fun x0v x0h => ref_gO fun x1v x1h => ref_bindR (fun v s1 h => by
          show eMax x0 x1 env s cl = _
          unfold eMax
          rw [x0h, x1h]
          exact h) hk
      | rng x0 =>
        exact ref_gO fun x0v x0h => ref_bindR (fun v s1 h => by
          show eRng x0 env s cl = _
          unfold eRng
          rw [x0h]
          exact h) hk
      | nxt x0 =>
        exact ref_gO fun x0v x0h => ref_bindR (fun v s1 h => by
          show eNxt x0 env s cl = _
          unfold eNxt
          rw [x0h]
          exact h) hk
      | lkp x0 x1 x2 =>
        exact ref_gO fun x1v x1h => ref_gO fun x2v x2h => ref_bindR (fun v s1 h => by
          show eLkp x0 x1 x2 env s cl = _
          unfold eLkp
          rw [x1h, x2h]
          exact h) hk
      | mup x0 x1 x2 =>
        exact ref_gO fun x0v x0h => ref_gO fun x1v x1h => ref_gO fun x2v x2h => ref_bindR (fun v s1 h => by
          show eMup x0 x1 x2 env s cl = _
          unfold eMup
          rw [x0h, x1h, x2h]
          exact h) hk
      | f64b x0 =>
        exact ref_gO fun x0v x0h => ref_bindR (fun v s1 h => by
          show eF64b x0 env s cl = _
          unfold eF64b
          rw [x0h]
          exact h) hk
      | far x0 x1 x2 =>
        exact ref_gO fun x1v _ => ref_gO fun x2v _ => RefX.no
      | fneg x0 =>
        exact ref_gO fun x0v _ => RefX.no
end
end Go.Kx

namespace Go.Kx
open Go.Sl

noncomputable def hops (cl : Cl) (k : Kc) : List KO → KEnv → St → XC
  | [], env, s => k env s
  | o :: r, env, s => match o with
    | .s d o => opK o cl env s fun v s' => hops cl k r (.cons d v env) s'
    | .n o => opK o cl env s fun _ s' => hops cl k r env s'
    | .gs j b d o => gO (.t j) env fun g => gdK g b (fun kk => opK o cl env s kk) s fun v s' => hops cl k r (.cons d v env) s'
    | .gn j b o => gO (.t j) env fun g => gdK g b (fun kk => opK o cl env s kk) s fun _ s' => hops cl k r env s'
noncomputable def hstg (dn pd : Nat) (E : KEnv) (cl : Cl) (s : St) (k : KEnv → KEnv → XC) : List KD → KEnv → KEnv → XC
  | [], env, dl => k env dl
  | .mk ix wm q o :: r, env, dl => match bit dn ix, apart wm pd with
    | true, _ => match o with
      | .s d _ => gO (.t d) E fun v => hstg dn pd E cl s k r (.cons d v env) (.cons d v dl)
      | .gs _ _ d _ => gO (.t d) E fun v => hstg dn pd E cl s k r (.cons d v env) (.cons d v dl)
      | .n _ => hstg dn pd E cl s k r env dl
      | .gn _ _ _ => hstg dn pd E cl s k r env dl
    | false, false => match o with
      | .s d _ => gN (klk E d) (hstg dn pd E cl s k r env dl)
      | .gs _ _ d _ => gN (klk E d) (hstg dn pd E cl s k r env dl)
      | .n _ => hstg dn pd E cl s k r env dl
      | .gn _ _ _ => hstg dn pd E cl s k r env dl
    | false, true => match o with
      | .s d o => gIf q (opK o cl env s fun v _ => agK (klk E d) v (hstg dn pd E cl s k r (.cons d v env) (.cons d v dl)))
      | .n o => gIf q (opK o cl env s fun _ _ => hstg dn pd E cl s k r env dl)
      | .gs j b d o => gO (.t j) env fun g => gdK g b (fun kk => gIf q (opK o cl env s kk)) s fun v _ => agK (klk E d) v (hstg dn pd E cl s k r (.cons d v env) (.cons d v dl))
      | .gn j b o => gO (.t j) env fun g => gdK g b (fun kk => gIf q (opK o cl env s kk)) s fun _ _ => hstg dn pd E cl s k r env dl
noncomputable def hdw (l : List KD) (cl : Cl) (env0 : KEnv) (k : Kc) : List KW → Nat → KEnv → St → XC
  | [], dn, E, s => hstg dn 0 E cl s (fun env _ => k env s) l env0 .nil
  | w :: ws, dn, E, s => match w with
    | .mk pd wm o => hstg dn pd E cl s (fun env dl => match o with
      | .s d o => opK o cl env s fun v s' => hdw l cl env0 k ws (Nat.lor dn wm) (.cons d v dl) s'
      | .n o => opK o cl env s fun _ s' => hdw l cl env0 k ws (Nat.lor dn wm) dl s'
      | .gs j b d o => gO (.t j) env fun g => gdX g b (opK o cl env s fun v s' => hdw l cl env0 k ws (Nat.lor dn wm) (.cons d v dl) s') (hdw l cl env0 k ws dn E s)
      | .gn j b o => gO (.t j) env fun g => gdX g b (opK o cl env s fun _ s' => hdw l cl env0 k ws (Nat.lor dn wm) dl s') (hdw l cl env0 k ws dn E s)) l env0 .nil
    | .pr da dc pd wm pd2 wm2 kc ka => noX (klk env0 da) (hstg dn pd E cl s (fun env1 dl1 => gN (klk dl1 da) (gN (klk dl1 dc) (opK kc cl env1 s fun v s1 =>
        hstg (Nat.lor dn wm) pd2 (.cons dc v dl1) cl s1 (fun _ dl2 => opK ka cl dl1 s1 fun v2 s2 => hdw l cl env0 k ws (Nat.lor (Nat.lor dn wm) wm2) (.cons da v2 dl2) s2) l env0 .nil))) l env0 .nil)
noncomputable def hC : KC → Kc → Cl → KEnv → St → XC
  | .seq a b, k, cl, env, s => hC a (fun env s => hC b k cl env s) cl env s
  | .reg ks l, k, cl, env, s => hops cl (fun env' s' => nx k (keepE env' ks env) s') l env s
  | .drw ks l ws, k, cl, env, s => hdw l cl env (fun env' s' => nx k (keepE env' ks env) s') ws 0 .nil s
  | .cond x a b, k, cl, env, s => jn k fun kk => gO x env fun v => cdK v (hC a kk cl env s) (hC b kk cl env s)
  | .blk i c, k, cl, env, s => bkK (hC c idk cl env s) i k
  | .loop c, k, cl, env, s => bindX (lpR (hC c idk) lpFuel cl env s) k
  | .scope c, k, cl, env, s => bindX (scR (hAt c) lpFuel (hC c idk) cl env s) k
  | .exit i, _, _, env, s => .ok (.x i) env s
  | .goto l, _, _, env, s => .ok (.g l) env s
  | .label _, k, _, env, s => k env s
  | .ret, _, _, env, s => .ok .r env s
  | .skip, k, _, env, s => k env s
where
  hAt : KC → Nat → OR
    | .seq a b, l => match hAt a l with
      | .no => hAt b l
      | .ok r => .ok (sqR r (hC b idk))
    | .label l, l' => lbB (Nat.beq l l')
    | _, _ => .no
end Go.Kx

namespace Go.Kx
open Go.Sl

noncomputable def bindO (x : XO) (k : Kc) : XC := @XO.rec (fun _ => XC) .no k x
noncomputable def bindE (x : OE) (k : KEnv → KEnv → XC) : XC := @OE.rec (fun _ => XC) .no k x
section
variable {cl cl' : Cl} {k k' : Kc}
theorem bindX_idk (x : XC) : bindX x idk = x := by
  cases x with
  | no => rfl
  | ok e env s => cases e <;> rfl
theorem ref_gdK {v : V} {b : Bool} {run run' : Kv → XC} {s : St} {q q' : Kv} {y : XC} (hq : ∀ v s, RefX (q v s) (q' v s)) (hr : RefX (run q) (run' q'))
    (hy : ∀ c, gV v b = .ok c → (c = true → RefX (run' q') y) ∧ (c = false → RefX (q' und s) y)) : RefX (gdK v b run s q) y := by
  cases v with
  | b x =>
    have h := hy (eqB b x) rfl
    show RefX (@Bool.rec (fun _ => XC) (q und s) (run q) (eqB b x)) y
    cases hb : eqB b x with
    | true => exact hr.trans (h.1 hb)
    | false => exact (hq und s).trans (h.2 hb)
  | t l =>
    cases l with
    | nil => exact (hq und s).trans ((hy false rfl).2 rfl)
    | cons a r => exact RefX.no
  | _ => exact RefX.no
theorem ref_hops (hcl : RefCl cl' cl) (hk : ∀ env s, RefX (k env s) (k' env s)) : ∀ (l : List KO) (env : KEnv) (s : St), RefX (hops cl' k l env s) (bindO (eOps cl l env s) k') := by
  intro l
  induction l with
  | nil => intro env s; exact hk env s
  | cons o r ih =>
    intro env s
    have S : ∀ (d : Nat) (o : Kp), RefX (opK o cl' env s fun v s' => hops cl' k r (.cons d v env) s') (bindO (stepS d o cl (eOps cl r) env s) k') := fun d o => by
      have h := ref_opK (env := env) (s := s) (k := fun v s' => hops cl' k r (.cons d v env) s') (k' := fun v s' => bindO (eOps cl r (.cons d v env) s') k') hcl (fun v s' => ih _ _) o
      have e : bindO (stepS d o cl (eOps cl r) env s) k' = bnr (eKp o env s cl) fun v s' => bindO (eOps cl r (.cons d v env) s') k' := by
        show bindO (rS (eKp o env s cl) d (eOps cl r) env) k' = _
        cases eKp o env s cl <;> rfl
      rw [e]; exact h
    have N : ∀ (o : Kp), RefX (opK o cl' env s fun _ s' => hops cl' k r env s') (bindO (stepN o cl (eOps cl r) env s) k') := fun o => by
      have h := ref_opK (env := env) (s := s) (k := fun _ s' => hops cl' k r env s') (k' := fun _ s' => bindO (eOps cl r env s') k') hcl (fun v s' => ih _ _) o
      have e : bindO (stepN o cl (eOps cl r) env s) k' = bnr (eKp o env s cl) fun _ s' => bindO (eOps cl r env s') k' := by
        show bindO (rN (eKp o env s cl) (eOps cl r) env) k' = _
        cases eKp o env s cl <;> rfl
      rw [e]; exact h
    cases o with
    | s d o => exact S d o
    | n o => exact N o
    | gs j b d o =>
      refine ref_gO fun g hg => ref_gdK (run' := fun q => bnr (eKp o env s cl) q) (q' := fun v s' => bindO (eOps cl r (.cons d v env) s') k') (fun v s' => ih _ _) (ref_opK hcl (fun v s' => ih _ _) o) fun c hc => ?_
      have e : bindO (eOps cl (.gs j b d o :: r) env s) k' = bindO (@OG.rec (fun _ => Nat → Kp → Cl → (KEnv → St → XO) → KEnv → St → XO) (fun _ _ _ _ _ _ => .no) gsB (.ok c) d o cl (eOps cl r) env s) k' := by
        show bindO (@OG.rec (fun _ => Nat → Kp → Cl → (KEnv → St → XO) → KEnv → St → XO) (fun _ _ _ _ _ _ => .no) gsB (guard (klk env j) b) d o cl (eOps cl r) env s) k' = _
        rw [show guard (klk env j) b = .ok c by rw [show klk env j = .ok g from hg]; exact hc]
      rw [e]
      refine ⟨fun h => ?_, fun h => ?_⟩
      · subst h
        have e2 : bindO (stepS d o cl (eOps cl r) env s) k' = bnr (eKp o env s cl) fun v s' => bindO (eOps cl r (.cons d v env) s') k' := by
          show bindO (rS (eKp o env s cl) d (eOps cl r) env) k' = _
          cases eKp o env s cl <;> rfl
        show RefX _ (bindO (stepS d o cl (eOps cl r) env s) k')
        rw [e2]; exact RefX.rfl'
      · subst h; exact RefX.rfl'
    | gn j b o =>
      refine ref_gO fun g hg => ref_gdK (run' := fun q => bnr (eKp o env s cl) q) (q' := fun _ s' => bindO (eOps cl r env s') k') (fun v s' => ih _ _) (ref_opK hcl (fun v s' => ih _ _) o) fun c hc => ?_
      have e : bindO (eOps cl (.gn j b o :: r) env s) k' = bindO (@OG.rec (fun _ => Kp → Cl → (KEnv → St → XO) → KEnv → St → XO) (fun _ _ _ _ _ => .no) gnB (.ok c) o cl (eOps cl r) env s) k' := by
        show bindO (@OG.rec (fun _ => Kp → Cl → (KEnv → St → XO) → KEnv → St → XO) (fun _ _ _ _ _ => .no) gnB (guard (klk env j) b) o cl (eOps cl r) env s) k' = _
        rw [show guard (klk env j) b = .ok c by rw [show klk env j = .ok g from hg]; exact hc]
      rw [e]
      refine ⟨fun h => ?_, fun h => ?_⟩
      · subst h
        have e2 : bindO (stepN o cl (eOps cl r) env s) k' = bnr (eKp o env s cl) fun _ s' => bindO (eOps cl r env s') k' := by
          show bindO (rN (eKp o env s cl) (eOps cl r) env) k' = _
          cases eKp o env s cl <;> rfl
        show RefX _ (bindO (stepN o cl (eOps cl r) env s) k')
        rw [e2]; exact RefX.rfl'
      · subst h; exact RefX.rfl'
theorem ref_noX {o : OV} {x y : XC} (h : o = .no → RefX x y) : RefX (noX o x) y := by
  cases o with
  | no => exact h rfl
  | ok v => exact RefX.no
theorem ref_gN {o : OV} {x y : XC} (h : o = .no → RefX x y) : RefX (gN o x) y := by
  cases o with
  | no => exact h rfl
  | ok v => exact RefX.no
theorem ref_agK {o : OV} {v : V} {x y : XC} (h : agr o v = true → RefX x y) : RefX (agK o v x) y := by
  cases o with
  | no => exact h rfl
  | ok u => exact ref_ifX h
theorem ref_hstg (hcl : RefCl cl' cl) {dn pd : Nat} {E : KEnv} {s : St} {q q' : KEnv → KEnv → XC} (hq : ∀ env dl, RefX (q env dl) (q' env dl)) : ∀ (l : List KD) (env dl : KEnv), RefX (hstg dn pd E cl' s q l env dl) (bindE (stg l dn pd E cl s env dl) q') := by
  intro l
  induction l with
  | nil => intro env dl; exact hq env dl
  | cons w r ih =>
    obtain ⟨ix, wm, c, o⟩ := w
    intro env dl
    have e0 : stg (.mk ix wm c o :: r) dn pd E cl s env dl = sgC (bit dn ix) wm c o pd E cl s (stg r dn pd E cl s) env dl := rfl
    rw [e0]
    unfold hstg
    cases hb : bit dn ix with
    | true =>
      have R : ∀ d, RefX (gO (.t d) E fun v => hstg dn pd E cl' s q r (.cons d v env) (.cons d v dl)) (bindE (rdS d E (stg r dn pd E cl s) env dl) q') := fun d => ref_gO fun v hv => by
        show RefX _ (bindE (rdV (klk E d) d (stg r dn pd E cl s) env dl) q')
        rw [show klk E d = .ok v from hv]; exact ih _ _
      cases o with
      | s d o => exact R d
      | n o => exact ih _ _
      | gs j b d o => exact R d
      | gn j b o => exact ih _ _
    | false =>
      cases ha : apart wm pd with
      | false =>
        have W : ∀ d, RefX (gN (klk E d) (hstg dn pd E cl' s q r env dl)) (bindE (wtS d E (stg r dn pd E cl s) env dl) q') := fun d => ref_gN fun hv => by
          show RefX _ (bindE (wtV (klk E d) (stg r dn pd E cl s) env dl) q')
          rw [hv]; exact ih _ _
        have e1 : sgC false wm c o pd E cl s (stg r dn pd E cl s) env dl = wtKO o E (stg r dn pd E cl s) env dl := by
          show sgA (apart wm pd) c o E cl s (stg r dn pd E cl s) env dl = _
          rw [ha]; rfl
        rw [e1]
        cases o with
        | s d o => exact W d
        | n o => exact ih _ _
        | gs j b d o => exact W d
        | gn j b o => exact ih _ _
      | true =>
        have e1 : sgC false wm c o pd E cl s (stg r dn pd E cl s) env dl = sgKO o c E cl s (stg r dn pd E cl s) env dl := by
          show sgA (apart wm pd) c o E cl s (stg r dn pd E cl s) env dl = _
          rw [ha]; rfl
        rw [e1]
        -- the value taken
        have B : ∀ (d : Nat) (v : V) (x : XC), RefX x (bindE (stg r dn pd E cl s (.cons d v env) (.cons d v dl)) q') → RefX (agK (klk E d) v x) (bindE (sgB (agr (klk E d) v) d v (stg r dn pd E cl s) env dl) q') := fun d v x hx => ref_agK fun h => by rw [h]; exact hx
        have S' : ∀ (d : Nat) (o : Kp), RefX (opK o cl' env s fun v _ => agK (klk E d) v (hstg dn pd E cl' s q r (.cons d v env) (.cons d v dl))) (bnr (eKp o env s cl) fun v _ => bindE (sgB (agr (klk E d) v) d v (stg r dn pd E cl s) env dl) q') := fun d o => ref_opK hcl (fun v s' => B d v _ (ih _ _)) o
        have N' : ∀ (o : Kp), RefX (opK o cl' env s fun _ _ => hstg dn pd E cl' s q r env dl) (bnr (eKp o env s cl) fun _ _ => bindE (stg r dn pd E cl s env dl) q') := fun o => ref_opK hcl (fun v s' => ih _ _) o
        have eS : ∀ (d : Nat) (o : Kp), bindE (sgS true d o E cl s (stg r dn pd E cl s) env dl) q' = bnr (eKp o env s cl) fun v _ => bindE (sgB (agr (klk E d) v) d v (stg r dn pd E cl s) env dl) q' := fun d o => by
          show bindE (sgR (eKp o env s cl) d E (stg r dn pd E cl s) env dl) q' = _
          cases eKp o env s cl <;> rfl
        have eN : ∀ (o : Kp), bindE (sgN true o E cl s (stg r dn pd E cl s) env dl) q' = bnr (eKp o env s cl) fun _ _ => bindE (stg r dn pd E cl s env dl) q' := fun o => by
          show bindE (sgRn (eKp o env s cl) (stg r dn pd E cl s) env dl) q' = _
          cases eKp o env s cl <;> rfl
        cases o with
        | s d o =>
          refine ref_gIf fun hc => ?_
          subst hc
          show RefX _ (bindE (sgS true d o E cl s (stg r dn pd E cl s) env dl) q')
          rw [eS]; exact S' d o
        | n o =>
          refine ref_gIf fun hc => ?_
          subst hc
          show RefX _ (bindE (sgN true o E cl s (stg r dn pd E cl s) env dl) q')
          rw [eN]; exact N' o
        | gs j b d o =>
          refine ref_gO fun g hg => ref_gdK (run' := fun p => gIf c (bnr (eKp o env s cl) p)) (q' := fun v _ => bindE (sgB (agr (klk E d) v) d v (stg r dn pd E cl s) env dl) q') (fun v _ => B d v _ (ih _ _)) ?_ fun x hx => ?_
          · exact ref_gIf fun hc => by subst hc; exact S' d o
          · have e2 : sgKO (.gs j b d o) c E cl s (stg r dn pd E cl s) env dl = sgGs (.ok x) c d o E cl s (stg r dn pd E cl s) env dl := by
              show sgGs (guard (klk env j) b) c d o E cl s (stg r dn pd E cl s) env dl = _
              rw [show klk env j = .ok g from hg]; show sgGs (gV g b) c d o E cl s (stg r dn pd E cl s) env dl = _
              rw [hx]
            rw [e2]
            refine ⟨fun h => ?_, fun h => ?_⟩
            · subst h
              refine ref_gIf fun hc => ?_
              subst hc
              show RefX _ (bindE (sgS true d o E cl s (stg r dn pd E cl s) env dl) q')
              rw [eS]; exact RefX.rfl'
            · subst h; exact RefX.rfl'
        | gn j b o =>
          refine ref_gO fun g hg => ref_gdK (run' := fun p => gIf c (bnr (eKp o env s cl) p)) (q' := fun _ _ => bindE (stg r dn pd E cl s env dl) q') (fun v _ => ih _ _) ?_ fun x hx => ?_
          · exact ref_gIf fun hc => by subst hc; exact N' o
          · have e2 : sgKO (.gn j b o) c E cl s (stg r dn pd E cl s) env dl = sgGn (.ok x) c o E cl s (stg r dn pd E cl s) env dl := by
              show sgGn (guard (klk env j) b) c o E cl s (stg r dn pd E cl s) env dl = _
              rw [show klk env j = .ok g from hg]; show sgGn (gV g b) c o E cl s (stg r dn pd E cl s) env dl = _
              rw [hx]
            rw [e2]
            refine ⟨fun h => ?_, fun h => ?_⟩
            · subst h
              refine ref_gIf fun hc => ?_
              subst hc
              show RefX _ (bindE (sgN true o E cl s (stg r dn pd E cl s) env dl) q')
              rw [eN]; exact RefX.rfl'
            · subst h; exact RefX.rfl'
theorem ref_gdX {v : V} {b : Bool} {x x' y : XC} (h : ∀ c, gV v b = .ok c → (c = true → RefX x y) ∧ (c = false → RefX x' y)) : RefX (gdX v b x x') y := by
  cases v with
  | b z =>
    have h' := h (eqB b z) rfl
    show RefX (@Bool.rec (fun _ => XC) x' x (eqB b z)) y
    cases hb : eqB b z with
    | true => exact h'.1 hb
    | false => exact h'.2 hb
  | t l =>
    cases l with
    | nil => exact (h false rfl).2 rfl
    | cons a r => exact RefX.no
  | _ => exact RefX.no
theorem ref_hdw (hcl : RefCl cl' cl) (hk : ∀ env s, RefX (k env s) (k' env s)) {l : List KD} {env0 : KEnv} : ∀ (ws : List KW) (dn : Nat) (E : KEnv) (s : St), RefX (hdw l cl' env0 k ws dn E s) (bindO (dwL ws l cl env0 dn E s) k') := by
  intro ws
  induction ws with
  | nil =>
    intro dn E s
    have h := ref_hstg hcl (dn := dn) (pd := 0) (E := E) (s := s) (q := fun env _ => k env s) (q' := fun env _ => k' env s) (fun env _ => hk env s) l env0 .nil
    have e : bindO (dwL [] l cl env0 dn E s) k' = bindE (stg l dn 0 E cl s env0 .nil) fun env _ => k' env s := by
      show bindO (dwF (stg l dn 0 E cl s env0 .nil) s) k' = _
      cases stg l dn 0 E cl s env0 .nil <;> rfl
    rw [e]; exact h
  | cons w ws ih =>
    intro dn E s
    cases w with
    | mk pd wm o =>
      have e : bindO (dwL (.mk pd wm o :: ws) l cl env0 dn E s) k' = bindE (stg l dn pd E cl s env0 .nil) fun env dl => bindO (dwKO o dn wm E cl s (dwL ws l cl env0) env dl) k' := by
        show bindO (dwE (stg l dn pd E cl s env0 .nil) o dn wm E cl s (dwL ws l cl env0)) k' = _
        cases stg l dn pd E cl s env0 .nil <;> rfl
      rw [e]
      refine ref_hstg hcl (fun env dl => ?_) l env0 .nil
      have S : ∀ (d : Nat) (o : Kp), RefX (opK o cl' env s fun v s' => hdw l cl' env0 k ws (Nat.lor dn wm) (.cons d v dl) s') (bindO (dwS d o dn wm E cl s (dwL ws l cl env0) env dl) k') := fun d o => by
        have h := ref_opK (env := env) (s := s) (k := fun v s' => hdw l cl' env0 k ws (Nat.lor dn wm) (.cons d v dl) s') (k' := fun v s' => bindO (dwL ws l cl env0 (Nat.lor dn wm) (.cons d v dl) s') k') hcl (fun v s' => ih _ _ _) o
        have e : bindO (dwS d o dn wm E cl s (dwL ws l cl env0) env dl) k' = bnr (eKp o env s cl) fun v s' => bindO (dwL ws l cl env0 (Nat.lor dn wm) (.cons d v dl) s') k' := by
          show bindO (dwR (eKp o env s cl) d dn wm (dwL ws l cl env0) dl) k' = _
          cases eKp o env s cl <;> rfl
        rw [e]; exact h
      have N : ∀ (o : Kp), RefX (opK o cl' env s fun _ s' => hdw l cl' env0 k ws (Nat.lor dn wm) dl s') (bindO (dwN o dn wm E cl s (dwL ws l cl env0) env dl) k') := fun o => by
        have h := ref_opK (env := env) (s := s) (k := fun _ s' => hdw l cl' env0 k ws (Nat.lor dn wm) dl s') (k' := fun _ s' => bindO (dwL ws l cl env0 (Nat.lor dn wm) dl s') k') hcl (fun v s' => ih _ _ _) o
        have e : bindO (dwN o dn wm E cl s (dwL ws l cl env0) env dl) k' = bnr (eKp o env s cl) fun _ s' => bindO (dwL ws l cl env0 (Nat.lor dn wm) dl s') k' := by
          show bindO (dwRn (eKp o env s cl) dn wm (dwL ws l cl env0) dl) k' = _
          cases eKp o env s cl <;> rfl
        rw [e]; exact h
      cases o with
      | s d o => exact S d o
      | n o => exact N o
      | gs j b d o =>
        refine ref_gO fun g hg => ref_gdX fun c hc => ?_
        have e2 : dwKO (.gs j b d o) dn wm E cl s (dwL ws l cl env0) env dl = dwGs (.ok c) d o dn wm E cl s (dwL ws l cl env0) env dl := by
          show dwGs (guard (klk env j) b) d o dn wm E cl s (dwL ws l cl env0) env dl = _
          rw [show klk env j = .ok g from hg]; show dwGs (gV g b) d o dn wm E cl s (dwL ws l cl env0) env dl = _
          rw [hc]
        rw [e2]
        exact ⟨fun h => by subst h; exact S d o, fun h => by subst h; exact ih _ _ _⟩
      | gn j b o =>
        refine ref_gO fun g hg => ref_gdX fun c hc => ?_
        have e2 : dwKO (.gn j b o) dn wm E cl s (dwL ws l cl env0) env dl = dwGn (.ok c) o dn wm E cl s (dwL ws l cl env0) env dl := by
          show dwGn (guard (klk env j) b) o dn wm E cl s (dwL ws l cl env0) env dl = _
          rw [show klk env j = .ok g from hg]; show dwGn (gV g b) o dn wm E cl s (dwL ws l cl env0) env dl = _
          rw [hc]
        rw [e2]
        exact ⟨fun h => by subst h; exact N o, fun h => by subst h; exact ih _ _ _⟩
    | pr da dc pd wm pd2 wm2 kc ka =>
      refine ref_noX fun h0 => ?_
      have e : bindO (dwL (.pr da dc pd wm pd2 wm2 kc ka :: ws) l cl env0 dn E s) k' = bindE (stg l dn pd E cl s env0 .nil) fun env1 dl1 => bindO (noV (klk dl1 da) (noV (klk dl1 dc) (dwP2 (eKp kc env1 s cl) da dc pd2 (Nat.lor dn wm) (Nat.lor (Nat.lor dn wm) wm2) ka l cl env0 dl1 (dwL ws l cl env0)))) k' := by
        show bindO (noV (klk env0 da) (dwP1 (stg l dn pd E cl s env0 .nil) da dc pd2 _ _ kc ka l cl env0 s (dwL ws l cl env0))) k' = _
        rw [h0]
        show bindO (dwP1 (stg l dn pd E cl s env0 .nil) da dc pd2 _ _ kc ka l cl env0 s (dwL ws l cl env0)) k' = _
        cases stg l dn pd E cl s env0 .nil <;> rfl
      rw [e]
      refine ref_hstg hcl (fun env1 dl1 => ref_gN fun h1 => ref_gN fun h2 => ?_) l env0 .nil
      rw [h1, h2]
      have e2 : bindO (noV .no (noV .no (dwP2 (eKp kc env1 s cl) da dc pd2 (Nat.lor dn wm) (Nat.lor (Nat.lor dn wm) wm2) ka l cl env0 dl1 (dwL ws l cl env0)))) k' =
          bnr (eKp kc env1 s cl) fun v s1 => bindE (stg l (Nat.lor dn wm) pd2 (.cons dc v dl1) cl s1 env0 .nil) fun _ dl2 => bnr (eKp ka dl1 s1 cl) fun v2 s2 => bindO (dwL ws l cl env0 (Nat.lor (Nat.lor dn wm) wm2) (.cons da v2 dl2) s2) k' := by
        show bindO (dwP2 (eKp kc env1 s cl) da dc pd2 (Nat.lor dn wm) (Nat.lor (Nat.lor dn wm) wm2) ka l cl env0 dl1 (dwL ws l cl env0)) k' = _
        cases eKp kc env1 s cl with
        | no => rfl
        | ok v s1 =>
          show bindO (dwP3 (stg l (Nat.lor dn wm) pd2 (.cons dc v dl1) cl s1 env0 .nil) (eKp ka dl1 s1 cl) da _ (dwL ws l cl env0)) k' = bindE (stg l (Nat.lor dn wm) pd2 (.cons dc v dl1) cl s1 env0 .nil) _
          cases stg l (Nat.lor dn wm) pd2 (.cons dc v dl1) cl s1 env0 .nil with
          | no => rfl
          | ok env2 dl2 =>
            show bindO (dwP4 (eKp ka dl1 s1 cl) da _ dl2 (dwL ws l cl env0)) k' = bnr (eKp ka dl1 s1 cl) _
            cases eKp ka dl1 s1 cl <;> rfl
      rw [e2]
      exact ref_opK hcl (fun v s1 => ref_hstg hcl (fun _ dl2 => ref_opK hcl (fun v2 s2 => ih _ _ _) ka) l env0 .nil) kc
end
/-! Code. -/
def RefRun (f g : Run) (cl' cl : Cl) : Prop := ∀ env s, RefX (f cl' env s) (g cl env s)
section
variable {cl cl' : Cl}
theorem ref_sqR {f f' g g' : Run} (h : RefRun f f' cl' cl) (h2 : RefRun g g' cl' cl) : RefRun (sqR f g) (sqR f' g') cl' cl := fun env s => by
  intro e env' s' hr
  have hr' : sqX (f cl' env s) g cl' = .ok e env' s' := hr
  show sqX (f' cl env s) g' cl = .ok e env' s'
  cases ho : f cl' env s with
  | no => rw [ho] at hr'; cases hr'
  | ok e1 env1 s1 =>
    rw [ho] at hr'
    rw [h env s e1 env1 s1 ho]
    cases e1 with
    | n => exact h2 _ _ _ _ _ hr'
    | r => exact hr'
    | x i => exact hr'
    | g l => exact hr'
theorem ref_lpR {f f' : Run} (h : RefRun f f' cl' cl) : ∀ n, RefRun (lpR f n) (lpR f' n) cl' cl
  | 0 => fun _ _ => RefX.no
  | n + 1 => ref_sqR h (ref_lpR h n)
theorem ref_scR {f f' : Nat → OR} (hf : ∀ l r, f l = .ok r → ∃ r', f' l = .ok r' ∧ RefRun r r' cl' cl) : ∀ n (r r' : Run), RefRun r r' cl' cl → RefRun (scR f n r) (scR f' n r') cl' cl
  | 0, _, _, _ => fun _ _ => RefX.no
  | n + 1, r, r', h => fun env s => by
    intro e env' s' hr
    have hr' : scX (r cl' env s) f (scR f n) cl' = .ok e env' s' := hr
    show scX (r' cl env s) f' (scR f' n) cl = .ok e env' s'
    cases ho : r cl' env s with
    | no => rw [ho] at hr'; cases hr'
    | ok e1 env1 s1 =>
      rw [ho] at hr'
      rw [h env s e1 env1 s1 ho]
      cases e1 with
      | n => exact hr'
      | r => exact hr'
      | x i => exact hr'
      | g l =>
        have h2 : (@OR.rec (fun _ => XC) .no (fun r => scR f n r cl' env1 s1) (f l)) = .ok e env' s' := hr'
        show (@OR.rec (fun _ => XC) .no (fun r => scR f' n r cl env1 s1) (f' l)) = .ok e env' s'
        cases hl : f l with
        | no => rw [hl] at h2; cases h2
        | ok r1 =>
          rw [hl] at h2
          obtain ⟨r2, a, b⟩ := hf l r1 hl
          rw [a]
          exact ref_scR hf n r1 r2 b _ _ _ _ _ h2
theorem bindX_ref {x y : XC} {k k' : Kc} (h : RefX x y) (hk : ∀ env s, RefX (k env s) (k' env s)) : RefX (bindX x k) (bindX y k') := by
  cases x with
  | no => exact RefX.no
  | ok e env s =>
    rw [h e env s rfl]
    cases e with
    | n => exact hk env s
    | _ => exact RefX.rfl'
theorem ref_hC (hcl : RefCl cl' cl) : ∀ (c : KC), (∀ (k k' : Kc), (∀ env s, RefX (k env s) (k' env s)) → ∀ env s, RefX (hC c k cl' env s) (bindX ((den c).run cl env s) k')) ∧
    (∀ l r, hC.hAt c l = .ok r → ∃ r', (den c).at_ l = .ok r' ∧ RefRun r r' cl' cl) ∧ (∀ l, hC.hAt c l = .no → (den c).at_ l = .no)
  | .seq a b => by
    obtain ⟨a1, a2, a3⟩ := ref_hC hcl a
    obtain ⟨b1, b2, b3⟩ := ref_hC hcl b
    refine ⟨fun k k' hk env s => ?_, fun l r h => ?_, fun l h => ?_⟩
    · have h := a1 (fun env s => hC b k cl' env s) (fun env s => bindX ((den b).run cl env s) k') (fun env s => b1 k k' hk env s) env s
      have e : bindX ((den (.seq a b)).run cl env s) k' = bindX ((den a).run cl env s) fun env s => bindX ((den b).run cl env s) k' := by
        show bindX (sqX ((den a).run cl env s) (den b).run cl) k' = _
        cases (den a).run cl env s with
        | no => rfl
        | ok e env1 s1 => cases e <;> rfl
      unfold hC
      rw [e]; exact h
    · have h' : (match hC.hAt a l with | .no => hC.hAt b l | .ok r => OR.ok (sqR r (hC b idk))) = .ok r := by unfold hC.hAt at h; exact h
      show ∃ r', atS ((den a).at_ l) (den b).run ((den b).at_ l) = .ok r' ∧ _
      cases hl : hC.hAt a l with
      | no =>
        rw [hl] at h'
        rw [a3 l hl]
        exact b2 l r h'
      | ok r1 =>
        rw [hl] at h'
        cases h'
        obtain ⟨r2, p, q⟩ := a2 l r1 hl
        rw [p]
        exact ⟨_, rfl, ref_sqR q fun env s => by have := b1 idk idk (fun _ _ => RefX.rfl') env s; rw [bindX_idk] at this; exact this⟩
    · have h' : (match hC.hAt a l with | .no => hC.hAt b l | .ok r => OR.ok (sqR r (hC b idk))) = .no := by unfold hC.hAt at h; exact h
      show atS ((den a).at_ l) (den b).run ((den b).at_ l) = .no
      cases hl : hC.hAt a l with
      | no => rw [hl] at h'; rw [a3 l hl]; exact b3 l h'
      | ok r1 => rw [hl] at h'; cases h'
  | .reg ks l => by
    refine ⟨fun k k' hk env s => ?_, fun l r h => (by unfold hC.hAt at h; cases h), fun l h => rfl⟩
    have h := ref_hops hcl (k := fun env' s' => nx k (keepE env' ks env) s') (k' := fun env' s' => k' (keepE env' ks env) s') (fun _ _ => hk _ _) l env s
    have e : bindX ((den (.reg ks l)).run cl env s) k' = bindO (eOps cl l env s) fun env' s' => k' (keepE env' ks env) s' := by
      show bindX (rgX (eOps cl l env s) ks env) k' = _
      cases eOps cl l env s <;> rfl
    unfold hC
    rw [e]; exact h
  | .drw ks l ws => by
    refine ⟨fun k k' hk env s => ?_, fun l r h => (by unfold hC.hAt at h; cases h), fun l h => rfl⟩
    have h := ref_hdw hcl (k := fun env' s' => nx k (keepE env' ks env) s') (k' := fun env' s' => k' (keepE env' ks env) s') (fun _ _ => hk _ _) (l := l) (env0 := env) ws 0 .nil s
    have e : bindX ((den (.drw ks l ws)).run cl env s) k' = bindO (dwL ws l cl env 0 .nil s) fun env' s' => k' (keepE env' ks env) s' := by
      show bindX (rgX (dwL ws l cl env 0 .nil s) ks env) k' = _
      cases dwL ws l cl env 0 .nil s <;> rfl
    unfold hC
    rw [e]; exact h
  | .cond x a b => by
    obtain ⟨a1, _⟩ := ref_hC hcl a
    obtain ⟨b1, _⟩ := ref_hC hcl b
    refine ⟨fun k k' hk env s => ?_, fun l r h => (by unfold hC.hAt at h; cases h), fun l h => rfl⟩
    unfold hC
    refine ref_gO fun v hv => ref_onBx fun c hc => ?_
    have e : (den (.cond x a b)).run cl env s = cdV v (den a).run (den b).run cl env s := by
      show cdO (eO x env) (den a).run (den b).run cl env s = _
      rw [hv]; rfl
    rw [e]
    subst hc
    cases c with
    | true => exact a1 k k' hk env s
    | false => exact b1 k k' hk env s
  | .blk i c => by
    obtain ⟨c1, _⟩ := ref_hC hcl c
    refine ⟨fun k k' hk env s => ?_, fun l r h => (by unfold hC.hAt at h; cases h), fun l h => rfl⟩
    have h := c1 idk idk (fun _ _ => RefX.rfl') env s
    rw [bindX_idk] at h
    have e : (den (.blk i c)).run cl env s = bkX ((den c).run cl env s) i := rfl
    unfold hC
    rw [e]
    cases ho : hC c idk cl' env s with
    | no => exact RefX.no
    | ok e1 env1 s1 =>
      rw [h e1 env1 s1 ho]
      cases e1 with
      | n => exact hk env1 s1
      | r => exact RefX.rfl'
      | g l => exact RefX.rfl'
      | x j =>
        show RefX (@Bool.rec (fun _ => XC) (.ok (.x j) env1 s1) (k env1 s1) (Nat.beq j i)) (bindX (bkB (Nat.beq j i) j env1 s1) k')
        cases Nat.beq j i with
        | true => exact hk env1 s1
        | false => exact RefX.rfl'
  | .loop c => by
    obtain ⟨c1, _⟩ := ref_hC hcl c
    refine ⟨fun k k' hk env s => ?_, fun l r h => (by unfold hC.hAt at h; cases h), fun l h => by rw [den_loop]; rfl⟩
    unfold hC
    rw [den_loop]
    exact bindX_ref (ref_lpR (fun env s => by have := c1 idk idk (fun _ _ => RefX.rfl') env s; rw [bindX_idk] at this; exact this) _ env s) hk
  | .scope c => by
    obtain ⟨c1, c2, _⟩ := ref_hC hcl c
    refine ⟨fun k k' hk env s => ?_, fun l r h => (by unfold hC.hAt at h; cases h), fun l h => by rw [den_scope]; rfl⟩
    unfold hC
    rw [den_scope]
    exact bindX_ref (ref_scR c2 _ _ _ (fun env s => by have := c1 idk idk (fun _ _ => RefX.rfl') env s; rw [bindX_idk] at this; exact this) env s) hk
  | .exit i => ⟨fun k k' hk env s => by unfold hC; exact RefX.rfl', fun l r h => (by unfold hC.hAt at h; cases h), fun l h => rfl⟩
  | .goto i => ⟨fun k k' hk env s => by unfold hC; exact RefX.rfl', fun l r h => (by unfold hC.hAt at h; cases h), fun l h => rfl⟩
  | .label i => ⟨fun k k' hk env s => by unfold hC; exact hk env s, fun l r h => by
      have h' : lbB (Nat.beq i l) = .ok r := by unfold hC.hAt at h; exact h
      refine ⟨r, h', ?_⟩
      cases hb : Nat.beq i l with
      | false => rw [hb] at h'; cases h'
      | true => rw [hb] at h'; cases h'; exact fun _ _ => RefX.rfl', fun l h => by
      have h' : lbB (Nat.beq i l) = .no := by unfold hC.hAt at h; exact h
      exact h'⟩
  | .ret => ⟨fun k k' hk env s => by unfold hC; exact RefX.rfl', fun l r h => (by unfold hC.hAt at h; cases h), fun l h => rfl⟩
  | .skip => ⟨fun k k' hk env s => by unfold hC; exact hk env s, fun l r h => (by unfold hC.hAt at h; cases h), fun l h => rfl⟩
/-! Calls. -/
inductive RFun where
  | mk (np : Nat) (res : List KR) (run : Run)
inductive ORF where
  | no | ok (f : RFun)
inductive TR where
  | nil | node (v : ORF) (l r : TR)
noncomputable def getR (i : Nat) : ORF → (Nat → ORF) → (Nat → ORF) → ORF := getI id i
noncomputable def TR.get (t : TR) : Nat → ORF := @TR.rec (fun _ => Nat → ORF) (fun _ => .no) (fun v _ _ l r i => getR i v l r) t
noncomputable def cxG (b : Bool) : List KR → Run → Cl → List V → St → R := @Bool.rec (fun _ => List KR → Run → Cl → List V → St → R) (fun _ _ _ _ _ => .no) (fun rs r cl args s => endK (r cl (argE args 0) s) rs) b
noncomputable def cxB (f : RFun) : Cl → List V → St → R := @RFun.rec (fun _ => Cl → List V → St → R) (fun np rs r cl args s => cxG (Nat.beq (lenL args) np) rs r cl args s) f
noncomputable def cxO (o : ORF) : Cl → List V → St → R := @ORF.rec (fun _ => Cl → List V → St → R) (fun _ _ _ => .no) cxB o
noncomputable def callX (G : TR) (n : Nat) : Cl := @Nat.rec (fun _ => Cl) noCl (fun _ ih f args s => cxO (G.get f) ih args s) n
/-- A function in its fast form. -/
noncomputable def fastOf : KFun → RFun
  | .mk np rs c => .mk np rs (hC c idk)
def FastOk (kf : KFun) (rf : RFun) : Prop := rf = fastOf kf
def FastT : TR → TF → Prop
  | .nil, _ => True
  | .node v l r, .node w l' r' => (match v, w with | .no, _ => True | .ok rf, .ok kf => FastOk kf rf | .ok _, .no => False) ∧ FastT l l' ∧ FastT r r'
  | .node .., .nil => False
theorem FastT.get : ∀ {T : TR} {G : TF}, FastT T G → ∀ {i : Nat} {rf : RFun}, T.get i = .ok rf → ∃ kf, G.get i = .ok kf ∧ FastOk kf rf
  | .nil, _, _, _, _, h => by cases h
  | .node v l r, .nil, h, _, _, _ => h.elim
  | .node v l r, .node w l' r', ⟨a, b, c⟩, i, rf, h => by
    cases i with
    | zero =>
      have h' : v = .ok rf := h
      subst h'
      cases w with
      | no => exact a.elim
      | ok kf => exact ⟨kf, rfl, a⟩
    | succ m =>
      have h' : sel (m % 2) l.get r.get (m / 2) = .ok rf := h
      by_cases hm : m % 2 = 0
      · rw [sel_zero hm] at h'
        obtain ⟨kf, x, y⟩ := b.get h'
        refine ⟨kf, ?_, y⟩
        show sel (m % 2) l'.get r'.get (m / 2) = _
        rw [sel_zero hm]; exact x
      · rw [sel_pos hm] at h'
        obtain ⟨kf, x, y⟩ := c.get h'
        refine ⟨kf, ?_, y⟩
        show sel (m % 2) l'.get r'.get (m / 2) = _
        rw [sel_pos hm]; exact x
theorem endK_ref {x y : XC} (h : RefX x y) {rs : List KR} {v : V} {s : St} (he : endK x rs = .ok v s) : endK y rs = .ok v s := by
  cases x with
  | no => cases he
  | ok e env1 s1 => rw [h e env1 s1 rfl]; exact he
theorem callX_ref {T : TR} {G : TF} (h : FastT T G) : ∀ k, RefCl (callX T k) (callN G k)
  | 0 => fun _ _ _ _ _ e => by cases e
  | k + 1 => fun f args s v s' e => by
    have e' : cxO (T.get f) (callX T k) args s = .ok v s' := e
    show callO (G.get f) (callN G k) args s = .ok v s'
    cases hg : T.get f with
    | no => rw [hg] at e'; cases e'
    | ok rf =>
      rw [hg] at e'
      obtain ⟨⟨np, rs, c⟩, h1, h0⟩ := h.get hg
      cases h0
      rw [h1]
      have h2 : cxG (Nat.beq (lenL args) np) rs (hC c idk) (callX T k) args s = .ok v s' := e'
      show callG (Nat.beq (lenL args) np) rs c (callN G k) args s = .ok v s'
      cases hb : Nat.beq (lenL args) np with
      | false => rw [hb] at h2; cases h2
      | true =>
        rw [hb] at h2
        have h3 : endK (hC c idk (callX T k) (argE args 0) s) rs = .ok v s' := h2
        show endK ((den c).run (callN G k) (argE args 0) s) rs = .ok v s'
        refine endK_ref ?_ h3
        have := (ref_hC (callX_ref h k) c).1 idk idk (fun _ _ => RefX.rfl') (argE args 0) s
        rw [bindX_idk] at this
        exact this
theorem isT_ref {T : TR} {G : TF} (h : FastT T G) (k f : Nat) (args : List V) (s : St) (e : isT (callX T k f args s) = true) : isT (callN G k f args s) = true := by
  unfold isT at e
  split at e
  · rename_i s' h'; rw [callX_ref h k f args s _ _ h']; rfl
  · cases e
end
end Go.Kx
