/-
  A small evaluator of Go's code over relative memory, laid out for the kernel: closed combinators over recursors. Its soundness is shown elsewhere.
-/
import GoSem.Core.Code
import GoSem.Core.Float
import GoSem.Op.Unary
set_option linter.unusedVariables false
set_option linter.unusedSimpArgs false
namespace Go.Kx

inductive Cap where
  | ex (c : Nat) | up (j : Nat)
inductive V where
  | b (x : Bool) | i (n : Int) | k (kd : IntKind) (n : Int) | f (x : Nat) | z (re im : Nat) | s (x : List Nat)
  | p (b o : Nat) | np | sl (b o n : Nat) (c : Cap) | se (b o mv j : Nat) | ns | m (b : Nat) | nm | fn (f : Nat) (fst cap : List V) | nf | a (l : List V) | t (l : List V)
inductive OV where
  | no | ok (v : V)
inductive OL where
  | no | ok (l : List V)
inductive ON where
  | no | ok (n : Nat)
inductive TV where
  | nil | node (v : V) (l r : TV)
inductive ML where
  | nil | cons (k : Int) (v : V) (r : ML)
inductive Blk where
  | c (n sz : Nat) (t : TV) | mp (l : ML) | it (s : List Nat) (pos : Nat) | dead
inductive OB where
  | no | ok (b : Blk)
inductive TB where
  | nil | node (v : Blk) (l r : TB)
structure St where
  nx : Nat
  h : TB
inductive R where
  | no | ok (v : V) (s : St)
inductive KEnv where
  | nil | cons (d : Nat) (v : V) (r : KEnv)
inductive O where
  | t (n : Nat) | c (v : V)
inductive Cm where | eq | ne | lt | le | gt | ge
inductive Ar where | add | sub | mul
inductive Bt where | and | or | xor
inductive PL where
  | nil | cons (off size : Nat) (x : O) (r : PL)
inductive OO where
  | no | ok (x : O)
inductive Kq where
  | quo (x y : O) | rem (x y : O) | bits (o : Bt) (x y : O) | shl (x y : O) | shr (x y : O)
  | fcm (o : Cm) (x y : O) | seq (x y : O) | neg (x : O)
  | cii (k : IntKind) (x : O) | cif (x : O) | cff (x : O) | cfi (k : IntKind) (x : O)
  | fld (x : O) (off : Nat) | fldn (x : O) (off n : Nat)
  | iar (x y : O) (n len : Nat) | ixs (x y : O) | ixa (x y : O) (len : Nat)
  | sli (x : O) (n : Nat) (lo hi : OO) | sl0 (x : O) | sl3 (x : O) (n : Nat) (lo hi mx : O) | sla (x : O) (n len : Nat) (lo hi : OO)
  | mkf (f : Nat) (fst cap : List O) | mkm | lens (x : O) | lenm (x : O) | mks (z : List V) (by_ : Nat) (x y : O) | clr (z : List V) (x : O)
  | cplx (x y : O) | min (x y : O) | max (x y : O)
  | rng (x : O) | nxt (x : O) | lkp (z : V) (x y : O) | mup (x y v : O) | f64b (x : O) | far (o : Ar) (x y : O) | fneg (x : O)
inductive Kp where
  | mv (x : O) | ck (x : O) | off (x : O) (n : Nat) | ld (x : O) | ldn (x : O) (n : Nat) | st (x y : O) | stn (x y : O) (n : Nat)
  | call (f : Nat) (xs : List O) | callv (x : O) (xs : List O) | ext (x : O) (i : Nat) | pick (c x y : O)
  | cm (o : Cm) (x y : O) | ar (o : Ar) (x y : O) | beq (x y : O) | bne (x y : O) | nilp (e : Bool) (x : O) | nils (e : Bool) (x : O) | not (x : O)
  | ixp (x y : O) (n : Nat) | len (x : O) | new (z : List V) | box (x : O) | bld (z : List V) (ps : PL) | bsl (z : List V) (n : Nat) (ps : PL)
  | app (sz by_ : Nat) (x y : O) | re (x : O) | im (x : O) | cmk (o : Cm) (x y : O) | ark (o : Ar) (x y : O) | q (o : Kq)
inductive KO where
  | s (d : Nat) (o : Kp) | n (o : Kp) | gs (j : Nat) (b : Bool) (d : Nat) (o : Kp) | gn (j : Nat) (b : Bool) (o : Kp)
/-- An operation of a region that draws its order: its place, what goes ahead of it and itself (bits), whether it only reads. -/
inductive KD where
  | mk (ix wm : Nat) (q : Bool) (o : KO)
/-- One that writes: those that are still to be done then. -/
inductive KW where
  | mk (pd wm : Nat) (o : KO)
  | pr (da dc pd wm pd2 wm2 : Nat) (kc ka : Kp)
inductive KC where
  | seq (a b : KC) | reg (kp : List Nat) (l : List KO) | drw (kp : List Nat) (l : List KD) (ws : List KW) | cond (c : O) (a b : KC) | blk (i : Nat) (c : KC) | loop (c : KC) | scope (c : KC)
  | exit (i : Nat) | goto (l : Nat) | label (l : Nat) | ret | skip
inductive KR where
  | t (n : Nat) | c (n : Nat) | cn (n k : Nat)
inductive KFun where
  | mk (np : Nat) (res : List KR) (body : KC)
inductive OF where
  | no | ok (f : KFun)
inductive TF where
  | nil | node (v : OF) (l r : TF)
inductive Ex where
  | n | r | x (i : Nat) | g (l : Nat)
inductive XO where
  | no | ok (env : KEnv) (s : St)
inductive XC where
  | no | ok (e : Ex) (env : KEnv) (s : St)
abbrev Cl := Nat → List V → St → R
abbrev OpF := KEnv → St → Cl → R
def und : V := .t []

/-! Tries. -/
noncomputable def sel {α : Type} (c : Nat) : (Nat → α) → (Nat → α) → Nat → α := @Nat.rec (fun _ => (Nat → α) → (Nat → α) → Nat → α) (fun l _ x => l x) (fun _ _ _ r x => r x) c
noncomputable def getI {α β : Type} (f : β → α) (i : Nat) : β → (Nat → α) → (Nat → α) → α := @Nat.rec (fun _ => β → (Nat → α) → (Nat → α) → α) (fun v _ _ => f v) (fun m _ _ l r => sel (Nat.mod m 2) l r (Nat.div m 2)) i
noncomputable def TV.get (t : TV) : Nat → OV := @TV.rec (fun _ => Nat → OV) (fun _ => .no) (fun v _ _ l r i => getI OV.ok i v l r) t
noncomputable def TB.get (t : TB) : Nat → OB := @TB.rec (fun _ => Nat → OB) (fun _ => .no) (fun v _ _ l r i => getI OB.ok i v l r) t
noncomputable def TF.get (t : TF) : Nat → OF := @TF.rec (fun _ => Nat → OF) (fun _ => .no) (fun v _ _ l r i => getI id i v l r) t
noncomputable def TV.setM (c : Nat) : V → TV → TV → (Nat → V → TV) → (Nat → V → TV) → Nat → V → TV :=
  @Nat.rec (fun _ => V → TV → TV → (Nat → V → TV) → (Nat → V → TV) → Nat → V → TV) (fun v _ r il _ m x => .node v (il m x) r) (fun _ _ v l _ _ ir m x => .node v l (ir m x)) c
noncomputable def TV.setI (i : Nat) : V → TV → TV → (Nat → V → TV) → (Nat → V → TV) → V → TV :=
  @Nat.rec (fun _ => V → TV → TV → (Nat → V → TV) → (Nat → V → TV) → V → TV) (fun _ l r _ _ x => .node x l r) (fun m _ v l r il ir x => TV.setM (Nat.mod m 2) v l r il ir (Nat.div m 2) x) i
noncomputable def TV.leaf (i : Nat) : V → TV := @Nat.rec (fun _ => V → TV) (fun x => .node x .nil .nil) (fun _ _ _ => .nil) i
/-- Put; where nothing stands, a new node. -/
noncomputable def TV.set (t : TV) : Nat → V → TV := @TV.rec (fun _ => Nat → V → TV) TV.leaf (fun v l r il ir i x => TV.setI i v l r il ir x) t
noncomputable def TB.setM (c : Nat) : Blk → TB → TB → (Nat → Blk → TB) → (Nat → Blk → TB) → Nat → Blk → TB :=
  @Nat.rec (fun _ => Blk → TB → TB → (Nat → Blk → TB) → (Nat → Blk → TB) → Nat → Blk → TB) (fun v _ r il _ m x => .node v (il m x) r) (fun _ _ v l _ _ ir m x => .node v l (ir m x)) c
noncomputable def TB.setI (i : Nat) : Blk → TB → TB → (Nat → Blk → TB) → (Nat → Blk → TB) → Blk → TB :=
  @Nat.rec (fun _ => Blk → TB → TB → (Nat → Blk → TB) → (Nat → Blk → TB) → Blk → TB) (fun _ l r _ _ x => .node x l r) (fun m _ v l r il ir x => TB.setM (Nat.mod m 2) v l r il ir (Nat.div m 2) x) i
noncomputable def TB.leaf (i : Nat) : Blk → TB := @Nat.rec (fun _ => Blk → TB) (fun x => .node x .nil .nil) (fun _ _ _ => .nil) i
noncomputable def TB.set (t : TB) : Nat → Blk → TB := @TB.rec (fun _ => Nat → Blk → TB) TB.leaf (fun v l r il ir i x => TB.setI i v l r il ir x) t

noncomputable def lenL (l : List V) : Nat := @List.rec V (fun _ => Nat) 0 (fun _ _ n => Nat.succ n) l
noncomputable def nth (l : List V) : Nat → OV := @List.rec V (fun _ => Nat → OV) (fun _ => .no) (fun v _ ih i => @Nat.rec (fun _ => (Nat → OV) → V → OV) (fun _ v => .ok v) (fun m _ ih _ => ih m) i ih v) l
noncomputable def nthN (l : List Nat) : Nat → ON := @List.rec Nat (fun _ => Nat → ON) (fun _ => .no) (fun v _ ih i => @Nat.rec (fun _ => (Nat → ON) → Nat → ON) (fun _ v => .ok v) (fun m _ ih _ => ih m) i ih v) l
noncomputable def ofOV (o : OV) : V := @OV.rec (fun _ => V) und (fun v => v) o
/-- The cells c, c + a, c + 2a, .. of a list; n of them. -/
noncomputable def tab (l : List V) (fuel : Nat) : Nat → Nat → Nat → TV := @Nat.rec (fun _ => Nat → Nat → Nat → TV) (fun _ _ _ => .nil)
  (fun _ ih n a c => @Nat.rec (fun _ => (Nat → Nat → Nat → TV) → Nat → Nat → TV) (fun _ _ _ => .nil) (fun m _ ih a c => .node (ofOV (nth l c)) (ih (Nat.div (Nat.succ m) 2) (Nat.add a a) (Nat.add c a)) (ih (Nat.div m 2) (Nat.add a a) (Nat.add c (Nat.add a a)))) n ih a c) fuel
noncomputable def ofL (l : List V) : TV := tab l (lenL l) (lenL l) 1 0
/-- n times one cell. -/
noncomputable def rep1 (v : V) (fuel : Nat) : Nat → TV := @Nat.rec (fun _ => Nat → TV) (fun _ => .nil) (fun _ ih n => @Nat.rec (fun _ => (Nat → TV) → TV) (fun _ => .nil) (fun m _ ih => .node v (ih (Nat.div (Nat.succ m) 2)) (ih (Nat.div m 2))) n ih) fuel
noncomputable def appL (l : List V) (r : List V) : List V := @List.rec V (fun _ => List V) r (fun v _ ih => v :: ih) l
noncomputable def repL (z : List V) (n : Nat) : List V := @Nat.rec (fun _ => List V) [] (fun _ ih => appL z ih) n

/-! The environment. -/
noncomputable def klk (l : KEnv) : Nat → OV := @KEnv.rec (fun _ => Nat → OV) (fun _ => .no) (fun k v _ ih t => @Bool.rec (fun _ => (Nat → OV) → V → Nat → OV) (fun ih _ t => ih t) (fun _ v _ => .ok v) (Nat.beq k t) ih v t) l
noncomputable def eO (x : O) : KEnv → OV := @O.rec (fun _ => KEnv → OV) (fun n env => klk env n) (fun v _ => .ok v) x
noncomputable def oV (o : OV) : (V → St → R) → St → R := @OV.rec (fun _ => (V → St → R) → St → R) (fun _ _ => .no) (fun v k s => k v s) o
noncomputable def oL (o : OL) : (List V → St → R) → St → R := @OL.rec (fun _ => (List V → St → R) → St → R) (fun _ _ => .no) (fun v k s => k v s) o
noncomputable def oN (o : ON) : (Nat → St → R) → St → R := @ON.rec (fun _ => (Nat → St → R) → St → R) (fun _ _ => .no) (fun v k s => k v s) o
noncomputable def oB (o : OB) : (Blk → St → R) → St → R := @OB.rec (fun _ => (Blk → St → R) → St → R) (fun _ _ => .no) (fun v k s => k v s) o
noncomputable def onC (k : Nat → Nat → TV → St → R) (b : Blk) : St → R := @Blk.rec (fun _ => (Nat → Nat → TV → St → R) → St → R) (fun n sz t k s => k n sz t s) (fun _ _ _ => .no) (fun _ _ _ _ => .no) (fun _ _ => .no) b k
noncomputable def onMp (k : ML → St → R) (b : Blk) : St → R := @Blk.rec (fun _ => (ML → St → R) → St → R) (fun _ _ _ _ _ => .no) (fun l k s => k l s) (fun _ _ _ _ => .no) (fun _ _ => .no) b k
noncomputable def onIt (k : List Nat → Nat → St → R) (b : Blk) : St → R := @Blk.rec (fun _ => (List Nat → Nat → St → R) → St → R) (fun _ _ _ _ _ => .no) (fun _ _ _ => .no) (fun l p k s => k l p s) (fun _ _ => .no) b k
/-- Go on if it is so. -/
noncomputable def bR (b : Bool) : (St → R) → St → R := @Bool.rec (fun _ => (St → R) → St → R) (fun _ _ => .no) (fun k s => k s) b
noncomputable def bE (b : Bool) : (St → R) → (St → R) → St → R := @Bool.rec (fun _ => (St → R) → (St → R) → St → R) (fun _ k s => k s) (fun k _ s => k s) b
noncomputable def eOs (xs : List O) : KEnv → OL := @List.rec O (fun _ => KEnv → OL) (fun _ => .ok []) (fun x _ ih env =>
  @OV.rec (fun _ => (KEnv → OL) → KEnv → OL) (fun _ _ => .no) (fun v ih env => @OL.rec (fun _ => V → OL) (fun _ => .no) (fun l v => .ok (v :: l)) (ih env) v) (eO x env) ih env) xs
noncomputable def oOs (o : OL) : (List V → St → R) → St → R := oL o

noncomputable def onB (k : ((Bool) → St → R)) (v : V) : St → R := @V.rec (fun _ => ((Bool) → St → R) → St → R) (fun _ => Unit) (fun x k s => k x s) (fun _ _ _ => .no) (fun _ _ _ _ => .no) (fun _ _ _ => .no) (fun _ _ _ _ => .no) (fun _ _ _ => .no) (fun _ _ _ _ => .no) (fun _ _ => .no) (fun _ _ _ _ _ _ => .no) (fun _ _ _ _ _ _ => .no) (fun _ _ => .no) (fun _ _ _ => .no) (fun _ _ => .no) (fun _ _ _ _ _ _ _ => .no) (fun _ _ => .no) (fun _ _ _ _ => .no) (fun _ _ _ _ => .no) () (fun _ _ _ _ => ()) v k
noncomputable def onI (k : ((Int) → St → R)) (v : V) : St → R := @V.rec (fun _ => ((Int) → St → R) → St → R) (fun _ => Unit) (fun _ _ _ => .no) (fun n k s => k n s) (fun _ _ _ _ => .no) (fun _ _ _ => .no) (fun _ _ _ _ => .no) (fun _ _ _ => .no) (fun _ _ _ _ => .no) (fun _ _ => .no) (fun _ _ _ _ _ _ => .no) (fun _ _ _ _ _ _ => .no) (fun _ _ => .no) (fun _ _ _ => .no) (fun _ _ => .no) (fun _ _ _ _ _ _ _ => .no) (fun _ _ => .no) (fun _ _ _ _ => .no) (fun _ _ _ _ => .no) () (fun _ _ _ _ => ()) v k
noncomputable def onK (k : ((IntKind) → (Int) → St → R)) (v : V) : St → R := @V.rec (fun _ => ((IntKind) → (Int) → St → R) → St → R) (fun _ => Unit) (fun _ _ _ => .no) (fun _ _ _ => .no) (fun kd n k s => k kd n s) (fun _ _ _ => .no) (fun _ _ _ _ => .no) (fun _ _ _ => .no) (fun _ _ _ _ => .no) (fun _ _ => .no) (fun _ _ _ _ _ _ => .no) (fun _ _ _ _ _ _ => .no) (fun _ _ => .no) (fun _ _ _ => .no) (fun _ _ => .no) (fun _ _ _ _ _ _ _ => .no) (fun _ _ => .no) (fun _ _ _ _ => .no) (fun _ _ _ _ => .no) () (fun _ _ _ _ => ()) v k
noncomputable def onF (k : ((Nat) → St → R)) (v : V) : St → R := @V.rec (fun _ => ((Nat) → St → R) → St → R) (fun _ => Unit) (fun _ _ _ => .no) (fun _ _ _ => .no) (fun _ _ _ _ => .no) (fun x k s => k x s) (fun _ _ _ _ => .no) (fun _ _ _ => .no) (fun _ _ _ _ => .no) (fun _ _ => .no) (fun _ _ _ _ _ _ => .no) (fun _ _ _ _ _ _ => .no) (fun _ _ => .no) (fun _ _ _ => .no) (fun _ _ => .no) (fun _ _ _ _ _ _ _ => .no) (fun _ _ => .no) (fun _ _ _ _ => .no) (fun _ _ _ _ => .no) () (fun _ _ _ _ => ()) v k
noncomputable def onZ (k : ((Nat) → (Nat) → St → R)) (v : V) : St → R := @V.rec (fun _ => ((Nat) → (Nat) → St → R) → St → R) (fun _ => Unit) (fun _ _ _ => .no) (fun _ _ _ => .no) (fun _ _ _ _ => .no) (fun _ _ _ => .no) (fun re im k s => k re im s) (fun _ _ _ => .no) (fun _ _ _ _ => .no) (fun _ _ => .no) (fun _ _ _ _ _ _ => .no) (fun _ _ _ _ _ _ => .no) (fun _ _ => .no) (fun _ _ _ => .no) (fun _ _ => .no) (fun _ _ _ _ _ _ _ => .no) (fun _ _ => .no) (fun _ _ _ _ => .no) (fun _ _ _ _ => .no) () (fun _ _ _ _ => ()) v k
noncomputable def onS (k : ((List Nat) → St → R)) (v : V) : St → R := @V.rec (fun _ => ((List Nat) → St → R) → St → R) (fun _ => Unit) (fun _ _ _ => .no) (fun _ _ _ => .no) (fun _ _ _ _ => .no) (fun _ _ _ => .no) (fun _ _ _ _ => .no) (fun x k s => k x s) (fun _ _ _ _ => .no) (fun _ _ => .no) (fun _ _ _ _ _ _ => .no) (fun _ _ _ _ _ _ => .no) (fun _ _ => .no) (fun _ _ _ => .no) (fun _ _ => .no) (fun _ _ _ _ _ _ _ => .no) (fun _ _ => .no) (fun _ _ _ _ => .no) (fun _ _ _ _ => .no) () (fun _ _ _ _ => ()) v k
noncomputable def onP (k : ((Nat) → (Nat) → St → R)) (v : V) : St → R := @V.rec (fun _ => ((Nat) → (Nat) → St → R) → St → R) (fun _ => Unit) (fun _ _ _ => .no) (fun _ _ _ => .no) (fun _ _ _ _ => .no) (fun _ _ _ => .no) (fun _ _ _ _ => .no) (fun _ _ _ => .no) (fun b o k s => k b o s) (fun _ _ => .no) (fun _ _ _ _ _ _ => .no) (fun _ _ _ _ _ _ => .no) (fun _ _ => .no) (fun _ _ _ => .no) (fun _ _ => .no) (fun _ _ _ _ _ _ _ => .no) (fun _ _ => .no) (fun _ _ _ _ => .no) (fun _ _ _ _ => .no) () (fun _ _ _ _ => ()) v k
noncomputable def onM (k : ((Nat) → St → R)) (v : V) : St → R := @V.rec (fun _ => ((Nat) → St → R) → St → R) (fun _ => Unit) (fun _ _ _ => .no) (fun _ _ _ => .no) (fun _ _ _ _ => .no) (fun _ _ _ => .no) (fun _ _ _ _ => .no) (fun _ _ _ => .no) (fun _ _ _ _ => .no) (fun _ _ => .no) (fun _ _ _ _ _ _ => .no) (fun _ _ _ _ _ _ => .no) (fun _ _ => .no) (fun b k s => k b s) (fun _ _ => .no) (fun _ _ _ _ _ _ _ => .no) (fun _ _ => .no) (fun _ _ _ _ => .no) (fun _ _ _ _ => .no) () (fun _ _ _ _ => ()) v k
noncomputable def onFn (k : ((Nat) → (List V) → (List V) → St → R)) (v : V) : St → R := @V.rec (fun _ => ((Nat) → (List V) → (List V) → St → R) → St → R) (fun _ => Unit) (fun _ _ _ => .no) (fun _ _ _ => .no) (fun _ _ _ _ => .no) (fun _ _ _ => .no) (fun _ _ _ _ => .no) (fun _ _ _ => .no) (fun _ _ _ _ => .no) (fun _ _ => .no) (fun _ _ _ _ _ _ => .no) (fun _ _ _ _ _ _ => .no) (fun _ _ => .no) (fun _ _ _ => .no) (fun _ _ => .no) (fun f u w _ _ k s => k f u w s) (fun _ _ => .no) (fun _ _ _ _ => .no) (fun _ _ _ _ => .no) () (fun _ _ _ _ => ()) v k
noncomputable def onA (k : ((List V) → St → R)) (v : V) : St → R := @V.rec (fun _ => ((List V) → St → R) → St → R) (fun _ => Unit) (fun _ _ _ => .no) (fun _ _ _ => .no) (fun _ _ _ _ => .no) (fun _ _ _ => .no) (fun _ _ _ _ => .no) (fun _ _ _ => .no) (fun _ _ _ _ => .no) (fun _ _ => .no) (fun _ _ _ _ _ _ => .no) (fun _ _ _ _ _ _ => .no) (fun _ _ => .no) (fun _ _ _ => .no) (fun _ _ => .no) (fun _ _ _ _ _ _ _ => .no) (fun _ _ => .no) (fun l _ k s => k l s) (fun _ _ _ _ => .no) () (fun _ _ _ _ => ()) v k
noncomputable def onT (k : ((List V) → St → R)) (v : V) : St → R := @V.rec (fun _ => ((List V) → St → R) → St → R) (fun _ => Unit) (fun _ _ _ => .no) (fun _ _ _ => .no) (fun _ _ _ _ => .no) (fun _ _ _ => .no) (fun _ _ _ _ => .no) (fun _ _ _ => .no) (fun _ _ _ _ => .no) (fun _ _ => .no) (fun _ _ _ _ _ _ => .no) (fun _ _ _ _ _ _ => .no) (fun _ _ => .no) (fun _ _ _ => .no) (fun _ _ => .no) (fun _ _ _ _ _ _ _ => .no) (fun _ _ => .no) (fun _ _ _ _ => .no) (fun l _ k s => k l s) () (fun _ _ _ _ => ()) v k

/-! Integers. -/
noncomputable def ltI (a b : Int) : Bool := @Int.rec (fun _ => Int → Bool) (fun x b => @Int.rec (fun _ => Nat → Bool) (fun y x => Nat.blt x y) (fun _ _ => false) b x) (fun x b => @Int.rec (fun _ => Nat → Bool) (fun _ _ => true) (fun y x => Nat.blt y x) b x) a b
noncomputable def eqI (a b : Int) : Bool := @Int.rec (fun _ => Int → Bool) (fun x b => @Int.rec (fun _ => Nat → Bool) (fun y x => Nat.beq x y) (fun _ _ => false) b x) (fun x b => @Int.rec (fun _ => Nat → Bool) (fun _ _ => false) (fun y x => Nat.beq y x) b x) a b
noncomputable def neg (b : Bool) : Bool := @Bool.rec (fun _ => Bool) true false b
noncomputable def cmI (o : Cm) : Int → Int → Bool := @Cm.rec (fun _ => Int → Int → Bool) eqI (fun a b => neg (eqI a b)) ltI (fun a b => neg (ltI b a)) (fun a b => ltI b a) (fun a b => neg (ltI a b)) o
/-- a number without its sum -/
noncomputable def frc (n : Nat) : Int := @Nat.rec (fun _ => Int) (.ofNat 0) (fun m _ => .ofNat (Nat.succ m)) n
noncomputable def addI (a b : Int) : Int := @Int.rec (fun _ => Int → Int) (fun x b => @Int.rec (fun _ => Nat → Int) (fun y x => frc (Nat.add x y)) (fun y x => Int.add (.ofNat x) (.negSucc y)) b x) (fun x b => Int.add (.negSucc x) b) a b
noncomputable def subB (c : Bool) : Nat → Nat → Int := @Bool.rec (fun _ => Nat → Nat → Int) (fun x y => Int.sub (.ofNat x) (.ofNat y)) (fun x y => frc (Nat.sub x y)) c
noncomputable def subI (a b : Int) : Int := @Int.rec (fun _ => Int → Int) (fun x b => @Int.rec (fun _ => Nat → Int) (fun y x => subB (Nat.ble y x) x y) (fun y x => Int.sub (.ofNat x) (.negSucc y)) b x) (fun x b => Int.sub (.negSucc x) b) a b
noncomputable def arI (o : Ar) : Int → Int → Int := @Ar.rec (fun _ => Int → Int → Int) addI subI Int.mul o
noncomputable def wrB (c : Bool) : Int → Int := @Bool.rec (fun _ => Int → Int) (fun n => IntKind.i64.wrap n) (fun n => n) c
noncomputable def wrapI (n : Int) : Int := @Int.rec (fun _ => Int) (fun m => wrB (Nat.blt m 9223372036854775808) (.ofNat m)) (fun m => wrB (Nat.blt m 9223372036854775808) (.negSucc m)) n
noncomputable def nat (n : Int) : ON := @Int.rec (fun _ => ON) (fun m => .ok m) (fun _ => .no) n
noncomputable def mkI (k : IntKind) : Int → V := @IntKind.rec (fun _ => Int → V) (.k .i8) (.k .i16) (.k .i32) .i (.k .u8) (.k .u16) (.k .u32) (.k .u64) k

noncomputable def onAny (k : Int → St → R) (v : V) : St → R := @V.rec (fun _ => (Int → St → R) → St → R) (fun _ => Unit) (fun _ _ _ => .no) (fun n k s => k n s) (fun _ n k s => k n s) (fun _ _ _ => .no) (fun _ _ _ _ => .no) (fun _ _ _ => .no) (fun _ _ _ _ => .no) (fun _ _ => .no) (fun _ _ _ _ _ _ => .no) (fun _ _ _ _ _ _ => .no) (fun _ _ => .no) (fun _ _ _ => .no) (fun _ _ => .no) (fun _ _ _ _ _ _ _ => .no) (fun _ _ => .no) (fun _ _ _ _ => .no) (fun _ _ _ _ => .no) () (fun _ _ _ _ => ()) v k
noncomputable def onAnyK (k : IntKind → Int → St → R) (v : V) : St → R := @V.rec (fun _ => (IntKind → Int → St → R) → St → R) (fun _ => Unit) (fun _ _ _ => .no) (fun n k s => k .i64 n s) (fun kd n k s => k kd n s) (fun _ _ _ => .no) (fun _ _ _ _ => .no) (fun _ _ _ => .no) (fun _ _ _ _ => .no) (fun _ _ => .no) (fun _ _ _ _ _ _ => .no) (fun _ _ _ _ _ _ => .no) (fun _ _ => .no) (fun _ _ _ => .no) (fun _ _ => .no) (fun _ _ _ _ _ _ _ => .no) (fun _ _ => .no) (fun _ _ _ _ => .no) (fun _ _ _ _ => .no) () (fun _ _ _ _ => ()) v k

/-! The operations. -/
noncomputable def rOk (v : V) (s : St) : R := .ok v s
noncomputable def eMv (x : O) (env : KEnv) (s : St) (_ : Cl) : R := oV (eO x env) R.ok s
noncomputable def ckV (v : V) : St → R := @V.rec (fun _ => St → R) (fun _ => Unit) (fun _ _ => .no) (fun _ _ => .no) (fun _ _ _ => .no) (fun _ _ => .no) (fun _ _ _ => .no) (fun _ _ => .no) (fun b o s => .ok (.p b o) s) (fun _ => .no) (fun _ _ _ _ _ => .no) (fun _ _ _ _ _ => .no) (fun _ => .no) (fun _ _ => .no) (fun _ => .no) (fun f u w _ _ s => .ok (.fn f u w) s) (fun _ => .no) (fun _ _ _ => .no) (fun _ _ _ => .no) () (fun _ _ _ _ => ()) v
noncomputable def eCk (x : O) (env : KEnv) (s : St) (_ : Cl) : R := oV (eO x env) ckV s
noncomputable def offP (n b o : Nat) (s : St) : R := .ok (.p b (Nat.add o n)) s
noncomputable def eOff (x : O) (n : Nat) (env : KEnv) (s : St) (_ : Cl) : R := oV (eO x env) (onP (offP n)) s
noncomputable def ldC (o n sz : Nat) (t : TV) (s : St) : R := oV (t.get o) R.ok s
noncomputable def ldP (b o : Nat) (s : St) : R := oB (s.h.get b) (onC (ldC o)) s
noncomputable def eLd (x : O) (env : KEnv) (s : St) (_ : Cl) : R := oV (eO x env) (onP ldP) s
noncomputable def gN2 (o : OL) : V → OL := @OL.rec (fun _ => V → OL) (fun _ => .no) (fun l v => .ok (v :: l)) o
noncomputable def gN1 (o : OV) : (Nat → OL) → Nat → OL := @OV.rec (fun _ => (Nat → OL) → Nat → OL) (fun _ _ => .no) (fun v ih i => gN2 (ih (Nat.succ i)) v) o
noncomputable def getN (t : TV) (n : Nat) : Nat → OL := @Nat.rec (fun _ => Nat → OL) (fun _ => .ok []) (fun _ ih i => gN1 (t.get i) ih i) n
noncomputable def okA (l : List V) (s : St) : R := .ok (.a l) s
noncomputable def ldnC (k o n sz : Nat) (t : TV) (s : St) : R := oL (getN t k o) okA s
noncomputable def ldnP (k b o : Nat) (s : St) : R := oB (s.h.get b) (onC (ldnC k o)) s
noncomputable def eLdn (x : O) (n : Nat) (env : KEnv) (s : St) (_ : Cl) : R := oV (eO x env) (onP (ldnP n)) s
noncomputable def setN (l : List V) : TV → Nat → TV := @List.rec V (fun _ => TV → Nat → TV) (fun t _ => t) (fun v _ ih t i => ih (t.set i v) (Nat.succ i)) l
noncomputable def single (v : V) : Bool := @V.rec (fun _ => Bool) (fun _ => Unit) (fun _ => true) (fun _ => true) (fun _ _ => true) (fun _ => true) (fun _ _ => true) (fun _ => true) (fun _ _ => true) (true) (fun _ _ _ _ => true) (fun _ _ _ _ => true) (true) (fun _ => true) (true) (fun _ _ _ _ _ => true) (true) (fun _ _ => false) (fun _ _ => false) () (fun _ _ _ _ => ()) v
noncomputable def singles (l : List V) : Bool := @List.rec V (fun _ => Bool) true (fun v _ ih => @Bool.rec (fun _ => Bool → Bool) (fun _ => false) (fun ih => ih) (single v) ih) l
noncomputable def cellsOf (v : V) : List V := @V.rec (fun _ => V → List V) (fun _ => Unit) (fun _ w => [w]) (fun _ w => [w]) (fun _ _ w => [w]) (fun _ w => [w]) (fun _ _ w => [w]) (fun _ w => [w]) (fun _ _ w => [w]) (fun w => [w]) (fun _ _ _ _ w => [w]) (fun _ _ _ _ w => [w]) (fun w => [w]) (fun _ w => [w]) (fun w => [w]) (fun _ _ _ _ _ w => [w]) (fun w => [w]) (fun l _ _ => l) (fun _ _ w => [w]) () (fun _ _ _ _ => ()) v v
noncomputable def upd (b : Nat) (k : Blk) (v : V) (s : St) : R := .ok v ⟨s.nx, s.h.set b k⟩
noncomputable def put2 (b o : Nat) (l : List V) (v : V) (n sz : Nat) (t : TV) (s : St) : R := upd b (.c n sz (setN l t o)) v s
noncomputable def put1 (b o : Nat) (l : List V) (v : V) (n sz : Nat) (t : TV) (s : St) : R := bR (Nat.ble (Nat.add o (lenL l)) n) (put2 b o l v n sz t) s
noncomputable def put0 (b o : Nat) (l : List V) (v : V) (s : St) : R := oB (s.h.get b) (onC (put1 b o l v)) s
noncomputable def putC (b o : Nat) (l : List V) (v : V) (s : St) : R := bR (singles l) (put0 b o l v) s
noncomputable def st2 (b o : Nat) (v : V) (n sz : Nat) (t : TV) (s : St) : R := upd b (.c n sz (t.set o v)) und s
noncomputable def st1 (b o : Nat) (v : V) (n sz : Nat) (t : TV) (s : St) : R := bR (Nat.blt o n) (st2 b o v n sz t) s
noncomputable def st0 (b o : Nat) (v : V) (s : St) : R := oB (s.h.get b) (onC (st1 b o v)) s
noncomputable def stV (b o : Nat) (v : V) (s : St) : R := bR (single v) (st0 b o v) s
noncomputable def stP (y : OV) (b o : Nat) (s : St) : R := oV y (stV b o) s
noncomputable def eSt (x y : O) (env : KEnv) (s : St) (_ : Cl) : R := oV (eO x env) (onP (stP (eO y env))) s
noncomputable def stnA (n b o : Nat) (l : List V) (s : St) : R := bR (Nat.beq (lenL l) n) (putC b o l und) s
noncomputable def stnP (n : Nat) (y : OV) (b o : Nat) (s : St) : R := oV y (onA (stnA n b o)) s
noncomputable def eStn (x y : O) (n : Nat) (env : KEnv) (s : St) (_ : Cl) : R := oV (eO x env) (onP (stnP n (eO y env))) s
noncomputable def extT (i : Nat) (l : List V) (s : St) : R := oV (nth l i) R.ok s
noncomputable def eExt (x : O) (i : Nat) (env : KEnv) (s : St) (_ : Cl) : R := oV (eO x env) (onT (extT i)) s
noncomputable def pkB (x y : O) (env : KEnv) (c : Bool) (s : St) : R := oV (@Bool.rec (fun _ => OV) (eO y env) (eO x env) c) R.ok s
noncomputable def ePick (c x y : O) (env : KEnv) (s : St) (_ : Cl) : R := oV (eO c env) (onB (pkB x y env)) s
noncomputable def cm2 (o : Cm) (a b : Int) (s : St) : R := .ok (.b (cmI o a b)) s
noncomputable def cm1 (o : Cm) (y : OV) (a : Int) (s : St) : R := oV y (onI (cm2 o a)) s
noncomputable def eCm (o : Cm) (x y : O) (env : KEnv) (s : St) (_ : Cl) : R := oV (eO x env) (onI (cm1 o (eO y env))) s
noncomputable def ar2 (o : Ar) (a b : Int) (s : St) : R := .ok (.i (wrapI (arI o a b))) s
noncomputable def ar1 (o : Ar) (y : OV) (a : Int) (s : St) : R := oV y (onI (ar2 o a)) s
noncomputable def eAr (o : Ar) (x y : O) (env : KEnv) (s : St) (_ : Cl) : R := oV (eO x env) (onI (ar1 o (eO y env))) s
noncomputable def kN (k : IntKind) : Nat := @IntKind.rec (fun _ => Nat) 0 1 2 3 4 5 6 7 k
noncomputable def cmk3 (o : Cm) (a b : Int) (s : St) : R := .ok (.b (cmI o a b)) s
noncomputable def cmk2 (o : Cm) (k : IntKind) (a : Int) (k' : IntKind) (b : Int) (s : St) : R := bR (Nat.beq (kN k) (kN k')) (cmk3 o a b) s
noncomputable def cmk1 (o : Cm) (y : OV) (k : IntKind) (a : Int) (s : St) : R := oV y (onK (cmk2 o k a)) s
noncomputable def eCmk (o : Cm) (x y : O) (env : KEnv) (s : St) (_ : Cl) : R := oV (eO x env) (onK (cmk1 o (eO y env))) s
noncomputable def ark3 (o : Ar) (k : IntKind) (a b : Int) (s : St) : R := .ok (.k k (k.wrap (arI o a b))) s
noncomputable def ark2 (o : Ar) (k : IntKind) (a : Int) (k' : IntKind) (b : Int) (s : St) : R := bR (Nat.beq (kN k) (kN k')) (ark3 o k a b) s
noncomputable def ark1 (o : Ar) (y : OV) (k : IntKind) (a : Int) (s : St) : R := oV y (onK (ark2 o k a)) s
noncomputable def eArk (o : Ar) (x y : O) (env : KEnv) (s : St) (_ : Cl) : R := oV (eO x env) (onK (ark1 o (eO y env))) s
noncomputable def eqB (a b : Bool) : Bool := @Bool.rec (fun _ => Bool) (neg b) b a
noncomputable def beq2 (a b : Bool) (s : St) : R := .ok (.b (eqB a b)) s
noncomputable def beq1 (y : OV) (a : Bool) (s : St) : R := oV y (onB (beq2 a)) s
noncomputable def eBeq (x y : O) (env : KEnv) (s : St) (_ : Cl) : R := oV (eO x env) (onB (beq1 (eO y env))) s
noncomputable def bne2 (a b : Bool) (s : St) : R := .ok (.b (neg (eqB a b))) s
noncomputable def bne1 (y : OV) (a : Bool) (s : St) : R := oV y (onB (bne2 a)) s
noncomputable def eBne (x y : O) (env : KEnv) (s : St) (_ : Cl) : R := oV (eO x env) (onB (bne1 (eO y env))) s
noncomputable def nilpV (e : Bool) (v : V) : St → R := @V.rec (fun _ => Bool → St → R) (fun _ => Unit) (fun _ _ _ => .no) (fun _ _ _ => .no) (fun _ _ _ _ => .no) (fun _ _ _ => .no) (fun _ _ _ _ => .no) (fun _ _ _ => .no) (fun _ _ e s => .ok (.b (neg e)) s) (fun e s => .ok (.b e) s) (fun _ _ _ _ _ _ => .no) (fun _ _ _ _ _ _ => .no) (fun _ _ => .no) (fun _ _ _ => .no) (fun _ _ => .no) (fun _ _ _ _ _ _ _ => .no) (fun _ _ => .no) (fun _ _ _ _ => .no) (fun _ _ _ _ => .no) () (fun _ _ _ _ => ()) v e
noncomputable def nilsV (e : Bool) (v : V) : St → R := @V.rec (fun _ => Bool → St → R) (fun _ => Unit) (fun _ _ _ => .no) (fun _ _ _ => .no) (fun _ _ _ _ => .no) (fun _ _ _ => .no) (fun _ _ _ _ => .no) (fun _ _ _ => .no) (fun _ _ _ _ => .no) (fun _ _ => .no) (fun _ _ _ _ e s => .ok (.b (neg e)) s) (fun _ _ _ _ e s => .ok (.b (neg e)) s) (fun e s => .ok (.b e) s) (fun _ _ _ => .no) (fun _ _ => .no) (fun _ _ _ _ _ _ _ => .no) (fun _ _ => .no) (fun _ _ _ _ => .no) (fun _ _ _ _ => .no) () (fun _ _ _ _ => ()) v e
noncomputable def eNilp (e : Bool) (x : O) (env : KEnv) (s : St) (_ : Cl) : R := oV (eO x env) (nilpV e) s
noncomputable def eNils (e : Bool) (x : O) (env : KEnv) (s : St) (_ : Cl) : R := oV (eO x env) (nilsV e) s
noncomputable def notB (a : Bool) (s : St) : R := .ok (.b (neg a)) s
noncomputable def eNot (x : O) (env : KEnv) (s : St) (_ : Cl) : R := oV (eO x env) (onB notB) s
noncomputable def ix3 (n b o i : Nat) (s : St) : R := .ok (.p b (Nat.add o (Nat.mul i n))) s
noncomputable def ix2 (n b o len i : Nat) (s : St) : R := bR (Nat.blt i len) (ix3 n b o i) s
noncomputable def ix1 (n b o len : Nat) (i : Int) (s : St) : R := oN (nat i) (ix2 n b o len) s
noncomputable def ix0 (n : Nat) (y : OV) (b o len : Nat) (s : St) : R := oV y (onI (ix1 n b o len)) s
noncomputable def onSl3 (k : Nat → Nat → Nat → St → R) (v : V) : St → R := @V.rec (fun _ => (Nat → Nat → Nat → St → R) → St → R) (fun _ => Unit) (fun _ _ _ => .no) (fun _ _ _ => .no) (fun _ _ _ _ => .no) (fun _ _ _ => .no) (fun _ _ _ _ => .no) (fun _ _ _ => .no) (fun _ _ _ _ => .no) (fun _ _ => .no) (fun b o n _ k s => k b o n s) (fun _ _ _ _ _ _ => .no) (fun _ _ => .no) (fun _ _ _ => .no) (fun _ _ => .no) (fun _ _ _ _ _ _ _ => .no) (fun _ _ => .no) (fun _ _ _ _ => .no) (fun _ _ _ _ => .no) () (fun _ _ _ _ => ()) v k
noncomputable def eIxp (x y : O) (n : Nat) (env : KEnv) (s : St) (_ : Cl) : R := oV (eO x env) (onSl3 (ix0 n (eO y env))) s
noncomputable def lenV (v : V) : St → R := @V.rec (fun _ => St → R) (fun _ => Unit) (fun _ _ => .no) (fun _ _ => .no) (fun _ _ _ => .no) (fun _ _ => .no) (fun _ _ _ => .no) (fun _ _ => .no) (fun _ _ _ => .no) (fun _ => .no) (fun _ _ n _ s => .ok (.i (.ofNat n)) s) (fun _ _ _ _ s => .ok (.i (.ofNat 0)) s) (fun s => .ok (.i (.ofNat 0)) s) (fun _ _ => .no) (fun _ => .no) (fun _ _ _ _ _ _ => .no) (fun _ => .no) (fun _ _ _ => .no) (fun _ _ _ => .no) () (fun _ _ _ _ => ()) v
noncomputable def eLen (x : O) (env : KEnv) (s : St) (_ : Cl) : R := oV (eO x env) lenV s
noncomputable def newB (k : Blk) (v : Nat → V) (s : St) : R := .ok (v s.nx) ⟨Nat.succ s.nx, s.h.set s.nx k⟩
def ptr0 (b : Nat) : V := .p b 0
def sl0 (n b : Nat) : V := .sl b 0 n (.up 0)
noncomputable def eNew (z : List V) (_ : KEnv) (s : St) (_ : Cl) : R := newB (.c (lenL z) 0 (ofL z)) ptr0 s
noncomputable def boxL (z : List V) (s : St) : R := newB (.c (lenL z) 0 (ofL z)) ptr0 s
noncomputable def boxV (v : V) (s : St) : R := bR (singles (cellsOf v)) (boxL (cellsOf v)) s
noncomputable def eBox (x : O) (env : KEnv) (s : St) (_ : Cl) : R := oV (eO x env) boxV s
noncomputable def setL (l : List V) : Nat → V → List V := @List.rec V (fun _ => Nat → V → List V) (fun _ _ => []) (fun u r ih i v => @Nat.rec (fun _ => V → List V → (Nat → V → List V) → V → List V) (fun _ r _ v => v :: r) (fun m _ u _ ih v => u :: ih m v) i u r ih v) l
noncomputable def wrL (ys : List V) : List V → Nat → List V := @List.rec V (fun _ => List V → Nat → List V) (fun l _ => l) (fun v _ ih l i => ih (setL l i v) (Nat.succ i)) ys
noncomputable def fl3 (c : Bool) : (List V → KEnv → OL) → List V → KEnv → OL := @Bool.rec (fun _ => (List V → KEnv → OL) → List V → KEnv → OL) (fun _ _ _ => .no) (fun ih l env => ih l env) c
noncomputable def fl2 (off size : Nat) (ih : List V → KEnv → OL) (l : List V) (env : KEnv) (ys : List V) : OL := fl3 (@Bool.rec (fun _ => Bool → Bool) (fun _ => false) (fun b => b) (Nat.beq (lenL ys) size) (Nat.ble (Nat.add off size) (lenL l))) ih (wrL ys l off) env
noncomputable def fl1 (o : OV) : Nat → Nat → (List V → KEnv → OL) → List V → KEnv → OL := @OV.rec (fun _ => Nat → Nat → (List V → KEnv → OL) → List V → KEnv → OL) (fun _ _ _ _ _ => .no) (fun v off size ih l env => fl2 off size ih l env (cellsOf v)) o
noncomputable def fill (ps : PL) : List V → KEnv → OL := @PL.rec (fun _ => List V → KEnv → OL) (fun l _ => .ok l) (fun off size x _ ih l env => fl1 (eO x env) off size ih l env) ps
noncomputable def eBld (z : List V) (ps : PL) (env : KEnv) (s : St) (_ : Cl) : R := oL (fill ps z env) okA s
noncomputable def bsl2 (n sz : Nat) (l : List V) (s : St) : R := newB (.c (lenL l) sz (ofL l)) (sl0 n) s
noncomputable def bsl1 (n sz : Nat) (l : List V) (s : St) : R := bR (singles l) (bsl2 n sz l) s
noncomputable def eBsl (z : List V) (n : Nat) (ps : PL) (env : KEnv) (s : St) (_ : Cl) : R := oL (fill ps (repL z n) env) (bsl1 n (lenL z)) s
noncomputable def reZ (a _ : Nat) (s : St) : R := .ok (.f a) s
noncomputable def imZ (_ b : Nat) (s : St) : R := .ok (.f b) s
noncomputable def eRe (x : O) (env : KEnv) (s : St) (_ : Cl) : R := oV (eO x env) (onZ reZ) s
noncomputable def eIm (x : O) (env : KEnv) (s : St) (_ : Cl) : R := oV (eO x env) (onZ imZ) s
noncomputable def cl1 (f : Nat) (cl : Cl) (l : List V) (s : St) : R := cl f l s
noncomputable def eCall (f : Nat) (xs : List O) (env : KEnv) (s : St) (cl : Cl) : R := oL (eOs xs env) (cl f) s
noncomputable def cv2 (cl : Cl) (f : Nat) (u w l : List V) (s : St) : R := cl f (appL u (appL l w)) s
noncomputable def cv1 (cl : Cl) (o : OL) (f : Nat) (u w : List V) (s : St) : R := oL o (cv2 cl f u w) s
noncomputable def eCallv (x : O) (xs : List O) (env : KEnv) (s : St) (cl : Cl) : R := oV (eO x env) (onFn (cv1 cl (eOs xs env))) s

/-! append -/
noncomputable def andB (a b : Bool) : Bool := @Bool.rec (fun _ => Bool) false b a
noncomputable def upOk (o j zb sz : Nat) (fits : Bool) : Bool := andB fits (andB (Nat.beq zb sz) (Nat.beq o (Nat.mul j sz)))
def bigB : Nat := 140737488355328
/-- The cells that are appended: so many elements, and the cells. -/
noncomputable def srcC (n : Nat) (k : Nat → List V → St → R) (sz o : Nat) (_ _ : Nat) (t : TV) (s : St) : R := oL (getN t (Nat.mul n sz) o) (k n) s
noncomputable def srcS (n : Nat) : (Nat → List V → St → R) → Nat → Nat → Nat → St → R := @Nat.rec (fun _ => (Nat → List V → St → R) → Nat → Nat → Nat → St → R) (fun k _ _ _ s => k 0 [] s) (fun m _ k sz b o s => oB (s.h.get b) (onC (srcC (Nat.succ m) k sz o)) s) n
noncomputable def srcV (sz : Nat) (k : Nat → List V → St → R) (v : V) : St → R := @V.rec (fun _ => Nat → (Nat → List V → St → R) → St → R) (fun _ => Unit) (fun _ _ _ _ => .no) (fun _ _ _ _ => .no) (fun _ _ _ _ _ => .no) (fun _ _ _ _ => .no) (fun _ _ _ _ _ => .no) (fun _ _ _ _ => .no) (fun _ _ _ _ _ => .no) (fun _ _ _ => .no) (fun b o n _ sz k s => srcS n k sz b o s) (fun _ _ _ _ _ k s => k 0 [] s) (fun _ k s => k 0 [] s) (fun _ _ _ _ => .no) (fun _ _ _ => .no) (fun _ _ _ _ _ _ _ _ => .no) (fun _ _ _ => .no) (fun _ _ _ _ _ => .no) (fun _ _ _ _ _ => .no) () (fun _ _ _ _ => ()) v sz k
noncomputable def grown (sz n : Nat) (t : TV) (s : St) : R := newB (.c (Nat.mul n sz) sz t) (sl0 n) s
noncomputable def kill (b : Nat) (s : St) : St := ⟨s.nx, s.h.set b .dead⟩
noncomputable def apNs (sz by_ m : Nat) : List V → St → R := @Nat.rec (fun _ => List V → St → R) (fun _ s => .ok .ns s) (fun k _ l s => bR (Nat.ble (Nat.mul (Nat.succ k) by_) bigB) (grown sz (Nat.succ k) (ofL l)) s) m
noncomputable def apSe4 (sz m b : Nat) (l : List V) (s : St) : R := grown sz m (ofL l) (kill b s)
noncomputable def apSe3 (sz b o mv j m : Nat) (l : List V) (_ zb : Nat) (_ : TV) (s : St) : R := bR (upOk (Nat.add o mv) j zb sz true) (apSe4 sz m b l) s
noncomputable def apSe2 (sz b o mv j m : Nat) (l : List V) (s : St) : R := oB (s.h.get b) (onC (apSe3 sz b o mv j m l)) s
noncomputable def apSe (sz by_ b o mv j m : Nat) : List V → St → R := @Nat.rec (fun _ => List V → St → R) (fun _ s => .ok (.se b o mv j) s) (fun k _ l s => bR (Nat.ble (Nat.mul (Nat.succ k) by_) bigB) (apSe2 sz b o mv j (Nat.succ k) l) s) m
noncomputable def apFr (sz n m : Nat) (l l0 : List V) (s : St) : R := grown sz (Nat.add n m) (ofL (appL l0 l)) s
noncomputable def apEx (sz b o n m : Nat) (l : List V) (t : TV) (cc : Nat) (s : St) : R := bE (Nat.ble (Nat.add n m) cc) (putC b (Nat.add o (Nat.mul n sz)) l (.sl b o (Nat.add n m) (.ex cc))) (fun s => oL (getN t (Nat.mul n sz) o) (apFr sz n m l) s) s
/-- Old cells cut: they are laid anew. -/
noncomputable def apGr2 (sz b n m : Nat) (l l0 : List V) (s : St) : R := bR (singles l0) (grown sz (Nat.add n m) (ofL (appL l0 l))) (kill b s)
noncomputable def apGr1 (sz b o n m : Nat) (l : List V) (t : TV) (s : St) : R := oL (getN t (Nat.mul n sz) o) (apGr2 sz b n m l) s
/-- The whole block grows. -/
noncomputable def apGr0 (sz b n m : Nat) (l : List V) (t : TV) (s : St) : R := grown sz (Nat.add n m) (setN l t (Nat.mul n sz)) (kill b s)
noncomputable def apUp1 (sz b o n m : Nat) (l : List V) (k : Nat) (t : TV) (j : Nat) (s : St) : R :=
  bE (Nat.ble (Nat.add o (Nat.mul (Nat.add n m) sz)) k) (putC b (Nat.add o (Nat.mul n sz)) l (.sl b o (Nat.add n m) (.up j)))
    (bR (Nat.blt 0 m) (bE (andB (Nat.beq o 0) (Nat.beq k (Nat.mul n sz))) (apGr0 sz b n m l t) (apGr1 sz b o n m l t))) s
noncomputable def apUp (sz b o n m : Nat) (l : List V) (k zb : Nat) (t : TV) (j : Nat) (s : St) : R := bR (upOk o j zb sz true) (apUp1 sz b o n m l k t j) s
noncomputable def apC (sz b o n m : Nat) (c : Cap) (l : List V) (k zb : Nat) (t : TV) (s : St) : R := @Cap.rec (fun _ => St → R) (apEx sz b o n m l t) (apUp sz b o n m l k zb t) c s
noncomputable def apSl1 (sz b o n : Nat) (c : Cap) (m : Nat) (l : List V) (s : St) : R := oB (s.h.get b) (onC (apC sz b o n m c l)) s
noncomputable def apSl (sz by_ b o n : Nat) (c : Cap) (m : Nat) (l : List V) (s : St) : R := bR (Nat.ble (Nat.mul (Nat.add n m) by_) bigB) (apSl1 sz b o n c m l) s
noncomputable def apV (sz by_ : Nat) (v : V) (m : Nat) (l : List V) : St → R := @V.rec (fun _ => Nat → Nat → Nat → List V → St → R) (fun _ => Unit) (fun _ _ _ _ _ _ => .no) (fun _ _ _ _ _ _ => .no) (fun _ _ _ _ _ _ _ => .no) (fun _ _ _ _ _ _ => .no) (fun _ _ _ _ _ _ _ => .no) (fun _ _ _ _ _ _ => .no) (fun _ _ _ _ _ _ _ => .no) (fun _ _ _ _ _ => .no) (fun b o n c sz by_ m l s => apSl sz by_ b o n c m l s) (fun b o mv j sz by_ m l s => apSe sz by_ b o mv j m l s) (fun sz by_ m l s => apNs sz by_ m l s) (fun _ _ _ _ _ _ => .no) (fun _ _ _ _ _ => .no) (fun _ _ _ _ _ _ _ _ _ _ => .no) (fun _ _ _ _ _ => .no) (fun _ _ _ _ _ _ _ => .no) (fun _ _ _ _ _ _ _ => .no) () (fun _ _ _ _ => ()) v sz by_ m l
noncomputable def ap1 (sz by_ : Nat) (v : V) (m : Nat) (l : List V) (s : St) : R := bR (singles l) (apV sz by_ v m l) s
noncomputable def ap0 (sz by_ : Nat) (y : OV) (v : V) (s : St) : R := oV y (srcV sz (ap1 sz by_ v)) s
noncomputable def eApp (sz by_ : Nat) (x y : O) (env : KEnv) (s : St) (_ : Cl) : R := oV (eO x env) (ap0 sz by_ (eO y env)) s

/-! The rarer operations. -/
noncomputable def boolN (k : Nat → St → R) (n : Nat) (s : St) : R := k n s
noncomputable def any2 (k : IntKind → Int → Int → St → R) (y : OV) (kd : IntKind) (a : Int) (s : St) : R := oV y (onAnyK (fun kd' b s => bR (Nat.beq (kN kd) (kN kd')) (k kd a b) s)) s
noncomputable def eAny2 (k : IntKind → Int → Int → St → R) (x y : O) (env : KEnv) (s : St) : R := oV (eO x env) (onAnyK (any2 k (eO y env))) s
noncomputable def sh2 (k : IntKind → Int → Int → St → R) (y : OV) (kd : IntKind) (a : Int) (s : St) : R := oV y (onAny (k kd a)) s
noncomputable def eSh2 (k : IntKind → Int → Int → St → R) (x y : O) (env : KEnv) (s : St) : R := oV (eO x env) (onAnyK (sh2 k (eO y env))) s
noncomputable def quo3 (k : IntKind) (a b : Int) (s : St) : R := .ok (mkI k (k.wrap (a.tdiv b))) s
noncomputable def quo2 (k : IntKind) (a b : Int) (s : St) : R := bR (neg (eqI b (.ofNat 0))) (quo3 k a b) s
noncomputable def eQuo (x y : O) (env : KEnv) (s : St) (_ : Cl) : R := eAny2 quo2 x y env s
noncomputable def rem3 (k : IntKind) (a b : Int) (s : St) : R := .ok (mkI k (a.tmod b)) s
noncomputable def rem2 (k : IntKind) (a b : Int) (s : St) : R := bR (neg (eqI b (.ofNat 0))) (rem3 k a b) s
noncomputable def eRem (x y : O) (env : KEnv) (s : St) (_ : Cl) : R := eAny2 rem2 x y env s
noncomputable def bitsI (o : Bt) (k : IntKind) (a b : Int) : Int := @Bt.rec (fun _ => Int) (k.wrap ((BitVec.ofInt k.bits a &&& BitVec.ofInt k.bits b).toNat : Nat)) (k.wrap ((BitVec.ofInt k.bits a ||| BitVec.ofInt k.bits b).toNat : Nat)) (k.wrap ((BitVec.ofInt k.bits a ^^^ BitVec.ofInt k.bits b).toNat : Nat)) o
noncomputable def bits2 (o : Bt) (k : IntKind) (a b : Int) (s : St) : R := .ok (mkI k (bitsI o k a b)) s
noncomputable def eBits (o : Bt) (x y : O) (env : KEnv) (s : St) (_ : Cl) : R := eAny2 (bits2 o) x y env s
noncomputable def shl3 (k : IntKind) (a : Int) (b : Nat) (s : St) : R := .ok (mkI k (k.wrap (a * 2 ^ (min b k.bits)))) s
noncomputable def shl2 (k : IntKind) (a b : Int) (s : St) : R := oN (nat b) (shl3 k a) s
noncomputable def eShl (x y : O) (env : KEnv) (s : St) (_ : Cl) : R := eSh2 shl2 x y env s
noncomputable def shr3 (k : IntKind) (a : Int) (b : Nat) (s : St) : R := .ok (mkI k (a.fdiv (2 ^ (min b k.bits)))) s
noncomputable def shr2 (k : IntKind) (a b : Int) (s : St) : R := oN (nat b) (shr3 k a) s
noncomputable def eShr (x y : O) (env : KEnv) (s : St) (_ : Cl) : R := eSh2 shr2 x y env s
noncomputable def fcmp (o : Cm) (a b : Nat) : Bool := @Cm.rec (fun _ => Bool) (FloatKind.f64.format.order a b == some .eq) (FloatKind.f64.format.order a b != some .eq) (FloatKind.f64.format.order a b == some .lt)
  (FloatKind.f64.format.order a b == some .lt || FloatKind.f64.format.order a b == some .eq) (FloatKind.f64.format.order a b == some .gt) (FloatKind.f64.format.order a b == some .gt || FloatKind.f64.format.order a b == some .eq) o
noncomputable def fcm2 (o : Cm) (a b : Nat) (s : St) : R := .ok (.b (fcmp o a b)) s
noncomputable def fcm1 (o : Cm) (y : OV) (a : Nat) (s : St) : R := oV y (onF (fcm2 o a)) s
noncomputable def eFcm (o : Cm) (x y : O) (env : KEnv) (s : St) (_ : Cl) : R := oV (eO x env) (onF (fcm1 o (eO y env))) s
noncomputable def eqL (l : List Nat) : List Nat → Bool := @List.rec Nat (fun _ => List Nat → Bool) (fun r => @List.rec Nat (fun _ => Bool) true (fun _ _ _ => false) r) (fun x _ ih r => @List.rec Nat (fun _ => (List Nat → Bool) → Bool) (fun _ => false) (fun y r _ ih => andB (Nat.beq x y) (ih r)) r ih) l
noncomputable def small (l : List Nat) : Bool := @List.rec Nat (fun _ => Bool) true (fun x _ ih => andB (Nat.blt x 256) ih) l
noncomputable def seq3 (a b : List Nat) (s : St) : R := .ok (.b (eqL a b)) s
noncomputable def seq2 (a b : List Nat) (s : St) : R := bR (andB (small a) (small b)) (seq3 a b) s
noncomputable def seq1 (y : OV) (a : List Nat) (s : St) : R := oV y (onS (seq2 a)) s
noncomputable def eSeq (x y : O) (env : KEnv) (s : St) (_ : Cl) : R := oV (eO x env) (onS (seq1 (eO y env))) s
noncomputable def neg1 (k : IntKind) (a : Int) (s : St) : R := .ok (mkI k (k.wrap (0 - a))) s
noncomputable def eNeg (x : O) (env : KEnv) (s : St) (_ : Cl) : R := oV (eO x env) (onAnyK neg1) s
noncomputable def cii1 (k : IntKind) (a : Int) (s : St) : R := .ok (mkI k (k.wrap a)) s
noncomputable def eCii (k : IntKind) (x : O) (env : KEnv) (s : St) (_ : Cl) : R := oV (eO x env) (onAny (cii1 k)) s
noncomputable def cif1 (a : Int) (s : St) : R := .ok (.f (FloatKind.f64.nearest a)) s
noncomputable def eCif (x : O) (env : KEnv) (s : St) (_ : Cl) : R := oV (eO x env) (onAny cif1) s
noncomputable def cff1 (a : Nat) (s : St) : R := .ok (.f a) s
noncomputable def eCff (x : O) (env : KEnv) (s : St) (_ : Cl) : R := oV (eO x env) (onF cff1) s
noncomputable def cfi3 (k : IntKind) (n : Int) (s : St) : R := .ok (mkI k n) s
noncomputable def cfi2 (o : Option Int) : IntKind → St → R := @Option.rec Int (fun _ => IntKind → St → R) (fun _ _ => .no) (fun n k s => bR (andB (neg (ltI n k.min)) (neg (ltI k.max n))) (cfi3 k n) s) o
noncomputable def cfi1 (k : IntKind) (a : Nat) (s : St) : R := cfi2 ((FloatKind.f64.decode a).toInt .zero) k s
noncomputable def eCfi (k : IntKind) (x : O) (env : KEnv) (s : St) (_ : Cl) : R := oV (eO x env) (onF (cfi1 k)) s
noncomputable def eFld (x : O) (off : Nat) (env : KEnv) (s : St) (_ : Cl) : R := oV (eO x env) (onA (extT off)) s
noncomputable def fldn1 (off n : Nat) (l : List V) (s : St) : R := .ok (.a ((l.drop off).take n)) s
noncomputable def eFldn (x : O) (off n : Nat) (env : KEnv) (s : St) (_ : Cl) : R := oV (eO x env) (onA (fldn1 off n)) s
noncomputable def iar0 (n len : Nat) (y : OV) (b o : Nat) (s : St) : R := oV y (onI (ix1 n b o len)) s
noncomputable def eIar (x y : O) (n len : Nat) (env : KEnv) (s : St) (_ : Cl) : R := oV (eO x env) (onP (iar0 n len (eO y env))) s
noncomputable def ixs4 (c : Nat) (s : St) : R := .ok (.k .u8 (.ofNat c)) s
noncomputable def ixs3 (c : Nat) (s : St) : R := bR (Nat.blt c 256) (ixs4 c) s
noncomputable def ixs2 (l : List Nat) (i : Nat) (s : St) : R := oN (nthN l i) ixs3 s
noncomputable def ixs1 (l : List Nat) (i : Int) (s : St) : R := oN (nat i) (ixs2 l) s
noncomputable def ixs0 (y : OV) (l : List Nat) (s : St) : R := oV y (onAny (ixs1 l)) s
noncomputable def eIxs (x y : O) (env : KEnv) (s : St) (_ : Cl) : R := oV (eO x env) (onS (ixs0 (eO y env))) s
noncomputable def ixa3 (l : List V) (i : Nat) (s : St) : R := oV (nth l i) R.ok s
noncomputable def ixa2 (len : Nat) (l : List V) (i : Nat) (s : St) : R := bR (Nat.blt i len) (ixa3 l i) s
noncomputable def ixa1 (len : Nat) (l : List V) (i : Int) (s : St) : R := oN (nat i) (ixa2 len l) s
noncomputable def ixa0 (len : Nat) (y : OV) (l : List V) (s : St) : R := oV y (onI (ixa1 len l)) s
noncomputable def eIxa (x y : O) (len : Nat) (env : KEnv) (s : St) (_ : Cl) : R := oV (eO x env) (onA (ixa0 len (eO y env))) s
noncomputable def vNat (v : V) : ON := @V.rec (fun _ => ON) (fun _ => Unit) (fun _ => .no) (fun n => nat n) (fun _ _ => .no) (fun _ => .no) (fun _ _ => .no) (fun _ => .no) (fun _ _ => .no) (.no) (fun _ _ _ _ => .no) (fun _ _ _ _ => .no) (.no) (fun _ => .no) (.no) (fun _ _ _ _ _ => .no) (.no) (fun _ _ => .no) (fun _ _ => .no) () (fun _ _ _ _ => ()) v
noncomputable def bnd (o : OO) : Nat → KEnv → ON := @OO.rec (fun _ => Nat → KEnv → ON) (fun d _ => .ok d) (fun x _ env => @OV.rec (fun _ => ON) .no vNat (eO x env)) o
noncomputable def slExA (b o n l h cc : Nat) (s : St) : R := .ok (.sl b o 0 (.ex 0)) s
noncomputable def slExB (b o n l h cc : Nat) (s : St) : R := .ok (.sl b (Nat.add o (Nat.mul l n)) (Nat.sub h l) (.ex (Nat.sub cc l))) s
noncomputable def slEx (b o n l h cc : Nat) (s : St) : R := bE (Nat.beq cc l) (slExA b o n l h cc) (slExB b o n l h cc) s
noncomputable def slUpA (b o n l h j : Nat) (s : St) : R := .ok (.sl b (Nat.add o (Nat.mul l n)) (Nat.sub h l) (.up (Nat.add j l))) s
noncomputable def slUpB (b o n l j : Nat) (s : St) : R := .ok (.se b o (Nat.mul l n) (Nat.add j l)) s
noncomputable def slUp (b o n len l h j : Nat) (s : St) : R := bE (Nat.blt l len) (slUpA b o n l h j) (bE (Nat.beq l 0) (slUpA b o n l h j) (slUpB b o n l j)) s
noncomputable def slIn (b o n len l h : Nat) (c : Cap) (s : St) : R := @Cap.rec (fun _ => Nat → Nat → Nat → Nat → Nat → Nat → St → R) (fun cc b o n _ l h s => slEx b o n l h cc s) (fun j b o n len l h s => slUp b o n len l h j s) c b o n len l h s
noncomputable def slOv2 (b o n l h j k zb : Nat) (_ : TV) (s : St) : R := bR (andB (upOk o j zb n (Nat.ble (Nat.add o (Nat.mul h n)) k)) (Nat.blt l h)) (slUpA b o n l h j) s
noncomputable def slOv (b o n l h : Nat) (c : Cap) (s : St) : R := @Cap.rec (fun _ => Nat → Nat → Nat → Nat → Nat → St → R) (fun _ _ _ _ _ _ _ => .no) (fun j b o n l h s => oB (s.h.get b) (onC (slOv2 b o n l h j)) s) c b o n l h s
noncomputable def slLH (b o n len : Nat) (c : Cap) (l h : Nat) (s : St) : R := bR (Nat.ble l h) (bE (Nat.ble h len) (slIn b o n len l h c) (slOv b o n l h c)) s
noncomputable def slH (hi : OO) (env : KEnv) (b o n len : Nat) (c : Cap) (l : Nat) (s : St) : R := oN (bnd hi len env) (slLH b o n len c l) s
noncomputable def slL (lo hi : OO) (env : KEnv) (n b o len : Nat) (c : Cap) (s : St) : R := oN (bnd lo 0 env) (slH hi env b o n len c) s
noncomputable def slZ2 (v : V) (l h : Nat) (s : St) : R := bR (andB (Nat.beq l 0) (Nat.beq h 0)) (R.ok v) s
noncomputable def slZ1 (hi : OO) (env : KEnv) (v : V) (l : Nat) (s : St) : R := oN (bnd hi 0 env) (slZ2 v l) s
noncomputable def slZ (lo hi : OO) (env : KEnv) (v : V) (s : St) : R := oN (bnd lo 0 env) (slZ1 hi env v) s
noncomputable def slV (n : Nat) (lo hi : OO) (env : KEnv) (v : V) : St → R := @V.rec (fun _ => Nat → OO → OO → KEnv → St → R) (fun _ => Unit) (fun _ _ _ _ _ _ => .no) (fun _ _ _ _ _ _ => .no) (fun _ _ _ _ _ _ _ => .no) (fun _ _ _ _ _ _ => .no) (fun _ _ _ _ _ _ _ => .no) (fun _ _ _ _ _ _ => .no) (fun _ _ _ _ _ _ _ => .no) (fun _ _ _ _ _ => .no) (fun b o len c n lo hi env s => slL lo hi env n b o len c s) (fun b o mv j _ lo hi env s => slZ lo hi env (.se b o mv j) s) (fun _ lo hi env s => slZ lo hi env .ns s) (fun _ _ _ _ _ _ => .no) (fun _ _ _ _ _ => .no) (fun _ _ _ _ _ _ _ _ _ _ => .no) (fun _ _ _ _ _ => .no) (fun _ _ _ _ _ _ _ => .no) (fun _ _ _ _ _ _ _ => .no) () (fun _ _ _ _ => ()) v n lo hi env
noncomputable def eSli (x : O) (n : Nat) (lo hi : OO) (env : KEnv) (s : St) (_ : Cl) : R := oV (eO x env) (slV n lo hi env) s
noncomputable def sl0V (v : V) : St → R := @V.rec (fun _ => St → R) (fun _ => Unit) (fun _ _ => .no) (fun _ _ => .no) (fun _ _ _ => .no) (fun _ _ => .no) (fun _ _ _ => .no) (fun _ _ => .no) (fun _ _ _ => .no) (fun _ => .no) (fun b o _ _ s => .ok (.sl b o 0 (.ex 0)) s) (fun _ _ _ _ _ => .no) (fun s => .ok .ns s) (fun _ _ => .no) (fun _ => .no) (fun _ _ _ _ _ _ => .no) (fun _ => .no) (fun _ _ _ => .no) (fun _ _ _ => .no) () (fun _ _ _ _ => ()) v
noncomputable def s3M (b o n len l h mm : Nat) (s : St) : R := bR (andB (Nat.ble l h) (andB (Nat.ble h mm) (Nat.ble mm len))) (slEx b o n l h mm) s
noncomputable def s3H (mx : O) (env : KEnv) (b o n len l h : Nat) (s : St) : R := oN (bnd (.ok mx) 0 env) (s3M b o n len l h) s
noncomputable def s3L (hi mx : O) (env : KEnv) (b o n len l : Nat) (s : St) : R := oN (bnd (.ok hi) 0 env) (s3H mx env b o n len l) s
noncomputable def s3V (lo hi mx : O) (env : KEnv) (n b o len : Nat) (s : St) : R := oN (bnd (.ok lo) 0 env) (s3L hi mx env b o n len) s
noncomputable def eSl3 (x : O) (n : Nat) (lo hi mx : O) (env : KEnv) (s : St) (_ : Cl) : R := oV (eO x env) (onSl3 (s3V lo hi mx env n)) s
noncomputable def eSl0 (x : O) (env : KEnv) (s : St) (_ : Cl) : R := oV (eO x env) sl0V s
noncomputable def slaB (b o n len l h : Nat) (s : St) : R := .ok (.sl b (Nat.add o (Nat.mul l n)) (Nat.sub h l) (.ex (Nat.sub len l))) s
noncomputable def sla2 (n len b o l h : Nat) (s : St) : R := bR (andB (Nat.ble l h) (andB (Nat.ble h len) (neg (Nat.beq len l)))) (slaB b o n len l h) s
noncomputable def sla1 (hi : OO) (env : KEnv) (n len b o l : Nat) (s : St) : R := oN (bnd hi len env) (sla2 n len b o l) s
noncomputable def sla0 (lo hi : OO) (env : KEnv) (n len b o : Nat) (s : St) : R := oN (bnd lo 0 env) (sla1 hi env n len b o) s
noncomputable def eSla (x : O) (n len : Nat) (lo hi : OO) (env : KEnv) (s : St) (_ : Cl) : R := oV (eO x env) (onP (sla0 lo hi env n len)) s
noncomputable def mkf2 (f : Nat) (us vs : List V) (s : St) : R := .ok (.fn f us vs) s
noncomputable def mkf1 (f : Nat) (o : OL) (us : List V) (s : St) : R := oL o (mkf2 f us) s
noncomputable def eMkf (f : Nat) (fst cap : List O) (env : KEnv) (s : St) (_ : Cl) : R := oL (eOs fst env) (mkf1 f (eOs cap env)) s
def mapV (b : Nat) : V := .m b
noncomputable def eMkm (_ : KEnv) (s : St) (_ : Cl) : R := newB (.mp .nil) mapV s
noncomputable def lenN (l : List Nat) : Nat := @List.rec Nat (fun _ => Nat) 0 (fun _ _ n => Nat.succ n) l
noncomputable def lens1 (l : List Nat) (s : St) : R := .ok (.i (.ofNat (lenN l))) s
noncomputable def eLens (x : O) (env : KEnv) (s : St) (_ : Cl) : R := oV (eO x env) (onS lens1) s
noncomputable def lenM (l : ML) : Nat := @ML.rec (fun _ => Nat) 0 (fun _ _ _ n => Nat.succ n) l
noncomputable def lenm2 (l : ML) (s : St) : R := .ok (.i (.ofNat (lenM l))) s
noncomputable def lenm1 (b : Nat) (s : St) : R := oB (s.h.get b) (onMp lenm2) s
noncomputable def eLenm (x : O) (env : KEnv) (s : St) (_ : Cl) : R := oV (eO x env) (onM lenm1) s
noncomputable def isOne (l : List V) : Bool := Nat.beq (lenL l) 1
noncomputable def rows (z : List V) (n : Nat) : TV := @Bool.rec (fun _ => TV) (ofL (repL z n)) (rep1 (ofOV (nth z 0)) n n) (isOne z)
noncomputable def mks3 (z : List V) (n : Nat) (s : St) : R := newB (.c (Nat.mul n (lenL z)) (lenL z) (rows z n)) (sl0 n) s
noncomputable def mks2 (z : List V) (by_ n m : Nat) (s : St) : R := bR (andB (Nat.beq n m) (andB (Nat.ble (Nat.mul by_ n) bigB) (singles z))) (mks3 z n) s
noncomputable def mks1 (z : List V) (by_ : Nat) (y : ON) (n : Nat) (s : St) : R := oN y (mks2 z by_ n) s
noncomputable def oNat (o : OV) : ON := @OV.rec (fun _ => ON) .no vNat o
noncomputable def eMks (z : List V) (by_ : Nat) (x y : O) (env : KEnv) (s : St) (_ : Cl) : R := oN (oNat (eO x env)) (mks1 z by_ (oNat (eO y env))) s
noncomputable def clrV (z : List V) (v : V) : St → R := @V.rec (fun _ => List V → St → R) (fun _ => Unit) (fun _ _ _ => .no) (fun _ _ _ => .no) (fun _ _ _ _ => .no) (fun _ _ _ => .no) (fun _ _ _ _ => .no) (fun _ _ _ => .no) (fun _ _ _ _ => .no) (fun _ _ => .no) (fun b o n _ z s => putC b o (repL z n) und s) (fun _ _ _ _ _ s => .ok und s) (fun _ s => .ok und s) (fun _ _ _ => .no) (fun _ _ => .no) (fun _ _ _ _ _ _ _ => .no) (fun _ _ => .no) (fun _ _ _ _ => .no) (fun _ _ _ _ => .no) () (fun _ _ _ _ => ()) v z
noncomputable def eClr (z : List V) (x : O) (env : KEnv) (s : St) (_ : Cl) : R := oV (eO x env) (clrV z) s
noncomputable def cplx2 (a b : Nat) (s : St) : R := .ok (.z a b) s
noncomputable def cplx1 (y : OV) (a : Nat) (s : St) : R := oV y (onF (cplx2 a)) s
noncomputable def eCplx (x y : O) (env : KEnv) (s : St) (_ : Cl) : R := oV (eO x env) (onF (cplx1 (eO y env))) s
noncomputable def min2 (a b : Int) (s : St) : R := .ok (.i (@Bool.rec (fun _ => Int) a b (ltI b a))) s
noncomputable def max2 (a b : Int) (s : St) : R := .ok (.i (@Bool.rec (fun _ => Int) a b (ltI a b))) s
noncomputable def i1 (k : Int → Int → St → R) (y : OV) (a : Int) (s : St) : R := oV y (onI (k a)) s
noncomputable def eMin (x y : O) (env : KEnv) (s : St) (_ : Cl) : R := oV (eO x env) (onI (i1 min2 (eO y env))) s
noncomputable def eMax (x y : O) (env : KEnv) (s : St) (_ : Cl) : R := oV (eO x env) (onI (i1 max2 (eO y env))) s
noncomputable def rng1 (l : List Nat) (s : St) : R := newB (.it l 0) ptr0 s
noncomputable def eRng (x : O) (env : KEnv) (s : St) (_ : Cl) : R := oV (eO x env) (onS rng1) s
noncomputable def nxt3 (b : Nat) (l : List Nat) (pos c : Nat) (s : St) : R := upd b (.it l (Nat.succ pos)) (.t [.b true, .i (.ofNat pos), .k .i32 (.ofNat c)]) s
noncomputable def nxtN (o : ON) : Nat → List Nat → Nat → St → R := @ON.rec (fun _ => Nat → List Nat → Nat → St → R) (fun _ _ _ s => .ok (.t [.b false]) s) (fun c b l pos s => bR (Nat.blt c 128) (nxt3 b l pos c) s) o
noncomputable def nxt2 (b : Nat) (l : List Nat) (pos : Nat) (s : St) : R := nxtN (nthN l pos) b l pos s
noncomputable def nxt1 (b o : Nat) (s : St) : R := bR (Nat.beq o 0) (fun s => oB (s.h.get b) (onIt (nxt2 b)) s) s
noncomputable def eNxt (x : O) (env : KEnv) (s : St) (_ : Cl) : R := oV (eO x env) (onP nxt1) s
noncomputable def mlk (l : ML) : Int → OV := @ML.rec (fun _ => Int → OV) (fun _ => .no) (fun k v _ ih n => @Bool.rec (fun _ => (Int → OV) → V → Int → OV) (fun ih _ n => ih n) (fun _ v _ => .ok v) (eqI k n) ih v n) l
noncomputable def mset (l : ML) : Int → V → ML := @ML.rec (fun _ => Int → V → ML) (fun n v => .cons n v .nil) (fun k u r ih n v => @Bool.rec (fun _ => ML) (.cons k u (ih n v)) (.cons k v r) (eqI k n)) l
noncomputable def lk3 (z : V) (o : OV) (s : St) : R := @OV.rec (fun _ => V → St → R) (fun z s => .ok z s) (fun v _ s => .ok v s) o z s
noncomputable def lk2 (z : V) (n : Int) (l : ML) (s : St) : R := lk3 z (mlk l n) s
noncomputable def lk1 (z : V) (b : Nat) (n : Int) (s : St) : R := oB (s.h.get b) (onMp (lk2 z n)) s
noncomputable def lk0 (z : V) (y : OV) (b : Nat) (s : St) : R := oV y (onI (lk1 z b)) s
noncomputable def eLkp (z : V) (x y : O) (env : KEnv) (s : St) (_ : Cl) : R := oV (eO x env) (onM (lk0 z (eO y env))) s
noncomputable def mu3 (b : Nat) (n : Int) (v : V) (l : ML) (s : St) : R := upd b (.mp (mset l n v)) und s
noncomputable def mu2 (b : Nat) (n : Int) (v : V) (s : St) : R := oB (s.h.get b) (onMp (mu3 b n v)) s
noncomputable def mu1 (w : OV) (b : Nat) (n : Int) (s : St) : R := oV w (mu2 b n) s
noncomputable def mu0 (y w : OV) (b : Nat) (s : St) : R := oV y (onI (mu1 w b)) s
noncomputable def eMup (x y v : O) (env : KEnv) (s : St) (_ : Cl) : R := oV (eO x env) (onM (mu0 (eO y env) (eO v env))) s
noncomputable def f64b1 (a : Nat) (s : St) : R := .ok (.k .u64 (.ofNat a)) s
noncomputable def eF64b (x : O) (env : KEnv) (s : St) (_ : Cl) : R := oV (eO x env) (onF f64b1) s
noncomputable def eNo2 (_ : Ar) (_ _ : O) (_ : KEnv) (_ : St) (_ : Cl) : R := .no
noncomputable def eNo1 (_ : O) (_ : KEnv) (_ : St) (_ : Cl) : R := .no
noncomputable def eKq (o : Kq) : OpF := @Kq.rec (fun _ => OpF) eQuo eRem eBits eShl eShr eFcm eSeq eNeg eCii eCif eCff eCfi eFld eFldn eIar eIxs eIxa eSli eSl0 eSl3 eSla eMkf eMkm eLens eLenm eMks eClr eCplx eMin eMax eRng eNxt eLkp eMup eF64b eNo2 eNo1 o
noncomputable def eKp (o : Kp) : OpF := @Kp.rec (fun _ => OpF) eMv eCk eOff eLd eLdn eSt eStn eCall eCallv eExt ePick eCm eAr eBeq eBne eNilp eNils eNot eIxp eLen eNew eBox eBld eBsl eApp eRe eIm eCmk eArk eKq o

noncomputable def pureQ (o : Kq) : Bool := @Kq.rec (fun _ => Bool) (fun _ _ => true) (fun _ _ => true) (fun _ _ _ => true) (fun _ _ => true) (fun _ _ => true) (fun _ _ _ => true) (fun _ _ => true) (fun _ => true) (fun _ _ => true) (fun _ => true) (fun _ => true) (fun _ _ => true) (fun _ _ => true) (fun _ _ _ => true) (fun _ _ _ _ => true) (fun _ _ => true) (fun _ _ _ => true) (fun _ _ _ _ => true) (fun _ => true) (fun _ _ _ _ _ => true) (fun _ _ _ _ _ => true) (fun _ _ _ => true) false (fun _ => true) (fun _ => false) (fun _ _ _ _ => false) (fun _ _ => false) (fun _ _ => true) (fun _ _ => true) (fun _ _ => true) (fun _ => false) (fun _ => false) (fun _ _ _ => false) (fun _ _ _ => false) (fun _ => true) (fun _ _ _ => false) (fun _ => false) o
noncomputable def pureK (o : Kp) : Bool := @Kp.rec (fun _ => Bool) (fun _ => true) (fun _ => true) (fun _ _ => true) (fun _ => true) (fun _ _ => true) (fun _ _ => false) (fun _ _ _ => false) (fun _ _ => false) (fun _ _ => false) (fun _ _ => true) (fun _ _ _ => true) (fun _ _ _ => true) (fun _ _ _ => true) (fun _ _ => true) (fun _ _ => true) (fun _ _ => true) (fun _ _ => true) (fun _ => true) (fun _ _ _ => true) (fun _ => true) (fun _ => false) (fun _ => false) (fun _ _ => true) (fun _ _ _ => false) (fun _ _ _ _ => false) (fun _ => true) (fun _ => true) (fun _ _ _ => true) (fun _ _ _ => true) pureQ o
/-! Lists of operations. -/
noncomputable def gB (b x : Bool) : Bool := eqB b x
inductive OG where
  | no | ok (b : Bool)
noncomputable def gT (l : List V) : OG := @List.rec V (fun _ => OG) (.ok false) (fun _ _ _ => .no) l
noncomputable def gV (v : V) : Bool → OG := @V.rec (fun _ => Bool → OG) (fun _ => Unit) (fun x => (fun b => OG.ok (gB b x))) (fun _ => (fun _ => OG.no)) (fun _ _ => (fun _ => OG.no)) (fun _ => (fun _ => OG.no)) (fun _ _ => (fun _ => OG.no)) (fun _ => (fun _ => OG.no)) (fun _ _ => (fun _ => OG.no)) ((fun _ => OG.no)) (fun _ _ _ _ => (fun _ => OG.no)) (fun _ _ _ _ => (fun _ => OG.no)) ((fun _ => OG.no)) (fun _ => (fun _ => OG.no)) ((fun _ => OG.no)) (fun _ _ _ _ _ => (fun _ => OG.no)) ((fun _ => OG.no)) (fun _ _ => (fun _ => OG.no)) (fun l _ => (fun _ => gT l)) () (fun _ _ _ _ => ()) v
noncomputable def guard (o : OV) : Bool → OG := @OV.rec (fun _ => Bool → OG) (fun _ => .no) gV o
noncomputable def rS (r : R) : Nat → (KEnv → St → XO) → KEnv → XO := @R.rec (fun _ => Nat → (KEnv → St → XO) → KEnv → XO) (fun _ _ _ => .no) (fun v s d ih env => ih (.cons d v env) s) r
noncomputable def rN (r : R) : (KEnv → St → XO) → KEnv → XO := @R.rec (fun _ => (KEnv → St → XO) → KEnv → XO) (fun _ _ => .no) (fun _ s ih env => ih env s) r
noncomputable def stepS (d : Nat) (o : Kp) (cl : Cl) (ih : KEnv → St → XO) (env : KEnv) (s : St) : XO := rS (eKp o env s cl) d ih env
noncomputable def stepN (o : Kp) (cl : Cl) (ih : KEnv → St → XO) (env : KEnv) (s : St) : XO := rN (eKp o env s cl) ih env
noncomputable def gsB (c : Bool) : Nat → Kp → Cl → (KEnv → St → XO) → KEnv → St → XO := @Bool.rec (fun _ => Nat → Kp → Cl → (KEnv → St → XO) → KEnv → St → XO) (fun d _ _ ih env s => ih (.cons d und env) s) stepS c
noncomputable def gnB (c : Bool) : Kp → Cl → (KEnv → St → XO) → KEnv → St → XO := @Bool.rec (fun _ => Kp → Cl → (KEnv → St → XO) → KEnv → St → XO) (fun _ _ ih env s => ih env s) stepN c
noncomputable def stepGs (j : Nat) (b : Bool) (d : Nat) (o : Kp) (cl : Cl) (ih : KEnv → St → XO) (env : KEnv) (s : St) : XO :=
  @OG.rec (fun _ => Nat → Kp → Cl → (KEnv → St → XO) → KEnv → St → XO) (fun _ _ _ _ _ _ => .no) gsB (guard (klk env j) b) d o cl ih env s
noncomputable def stepGn (j : Nat) (b : Bool) (o : Kp) (cl : Cl) (ih : KEnv → St → XO) (env : KEnv) (s : St) : XO :=
  @OG.rec (fun _ => Kp → Cl → (KEnv → St → XO) → KEnv → St → XO) (fun _ _ _ _ _ => .no) gnB (guard (klk env j) b) o cl ih env s
noncomputable def stepKO (o : KO) : Cl → (KEnv → St → XO) → KEnv → St → XO := @KO.rec (fun _ => Cl → (KEnv → St → XO) → KEnv → St → XO) stepS stepN stepGs stepGn o
noncomputable def eOps (cl : Cl) (l : List KO) : KEnv → St → XO := @List.rec KO (fun _ => KEnv → St → XO) XO.ok (fun o _ ih => stepKO o cl ih) l
noncomputable def kst (l : KEnv) : Nat → V → KEnv := @KEnv.rec (fun _ => Nat → V → KEnv) (fun t v => .cons t v .nil) (fun k u r ih t v => @Bool.rec (fun _ => Nat → V → KEnv → (Nat → V → KEnv) → Nat → V → KEnv) (fun k u _ ih t v => .cons k u (ih t v)) (fun k _ r _ _ v => .cons k v r) (Nat.beq k t) k u r ih t v) l
noncomputable def kpV (o : OV) : Nat → (KEnv → KEnv) → KEnv → KEnv := @OV.rec (fun _ => Nat → (KEnv → KEnv) → KEnv → KEnv) (fun _ ih env => ih env) (fun v k ih env => ih (kst env k v)) o
noncomputable def keepE (cur : KEnv) (ks : List Nat) : KEnv → KEnv := @List.rec Nat (fun _ => KEnv → KEnv) (fun env => env) (fun k _ ih env => kpV (klk cur k) k ih env) ks
noncomputable def argE (vs : List V) : Nat → KEnv := @List.rec V (fun _ => Nat → KEnv) (fun _ => .nil) (fun v _ ih i => .cons i v (ih (Nat.succ i))) vs
noncomputable def noCl : Cl := fun _ _ _ => .no
noncomputable def rVal (r : R) : OV := @R.rec (fun _ => OV) .no (fun v _ => .ok v) r
noncomputable def res1 (r : KR) : KEnv → St → OV := @KR.rec (fun _ => KEnv → St → OV) (fun n env _ => klk env n) (fun n env s => rVal (eLd (.t n) env s noCl)) (fun n k env s => rVal (eLdn (.t n) k env s noCl)) r
noncomputable def ress (rs : List KR) : KEnv → St → OL := @List.rec KR (fun _ => KEnv → St → OL) (fun _ _ => .ok []) (fun r _ ih env s => @OV.rec (fun _ => OL → OL) (fun _ => .no) (fun v l => gN2 l v) (res1 r env s) (ih env s)) rs
noncomputable def tup2 (r : List V) : V → V := @List.rec V (fun _ => V → V) (fun v => v) (fun u r _ v => .t (v :: u :: r)) r
noncomputable def tup (l : List V) : V := @List.rec V (fun _ => V) (.t []) (fun v r _ => tup2 r v) l
noncomputable def retR (l : List V) (s : St) : R := .ok (tup l) s
noncomputable def retK (rs : List KR) (env : KEnv) (s : St) : R := oL (ress rs env s) retR s
noncomputable def endE (e : Ex) : List KR → KEnv → St → R := @Ex.rec (fun _ => List KR → KEnv → St → R) retK retK (fun _ _ _ _ => .no) (fun _ _ _ _ => .no) e
noncomputable def endK (x : XC) : List KR → R := @XC.rec (fun _ => List KR → R) (fun _ => .no) (fun e env s rs => endE e rs env s) x
/-! Regions that draw their order: what is evaluated at one stage; the stages. -/
inductive OE where
  | no | ok (env dl : KEnv)
noncomputable def bit (m i : Nat) : Bool := Nat.beq (Nat.land (Nat.shiftRight m i) 1) 1
noncomputable def apart (m n : Nat) : Bool := Nat.beq (Nat.land m n) 0
noncomputable def eqC (a b : Cap) : Bool := @Cap.rec (fun _ => Cap → Bool) (fun x b => @Cap.rec (fun _ => Nat → Bool) (fun y x => Nat.beq x y) (fun _ _ => false) b x) (fun x b => @Cap.rec (fun _ => Nat → Bool) (fun _ _ => false) (fun y x => Nat.beq x y) b x) a b
noncomputable def eqv_b (q0 : Bool) (w : V) : Bool := (@V.rec (fun _ => (Bool) → Bool) (fun _ => Unit) (fun x q0 => eqB q0 x) (fun _ _ => false) (fun _ _ _ => false) (fun _ _ => false) (fun _ _ _ => false) (fun _ _ => false) (fun _ _ _ => false) (fun _ => false) (fun _ _ _ _ _ => false) (fun _ _ _ _ _ => false) (fun _ => false) (fun _ _ => false) (fun _ => false) (fun _ _ _ _ _ _ => false) (fun _ => false) (fun _ _ _ => false) (fun _ _ _ => false) () (fun _ _ _ _ => ()) w) q0
noncomputable def eqv_i (q0 : Int) (w : V) : Bool := (@V.rec (fun _ => (Int) → Bool) (fun _ => Unit) (fun _ _ => false) (fun n q0 => eqI q0 n) (fun _ _ _ => false) (fun _ _ => false) (fun _ _ _ => false) (fun _ _ => false) (fun _ _ _ => false) (fun _ => false) (fun _ _ _ _ _ => false) (fun _ _ _ _ _ => false) (fun _ => false) (fun _ _ => false) (fun _ => false) (fun _ _ _ _ _ _ => false) (fun _ => false) (fun _ _ _ => false) (fun _ _ _ => false) () (fun _ _ _ _ => ()) w) q0
noncomputable def eqv_k (q0 : IntKind) (q1 : Int) (w : V) : Bool := (@V.rec (fun _ => (IntKind) → (Int) → Bool) (fun _ => Unit) (fun _ _ _ => false) (fun _ _ _ => false) (fun kd n q0 q1 => andB (Nat.beq (kN q0) (kN kd)) (eqI q1 n)) (fun _ _ _ => false) (fun _ _ _ _ => false) (fun _ _ _ => false) (fun _ _ _ _ => false) (fun _ _ => false) (fun _ _ _ _ _ _ => false) (fun _ _ _ _ _ _ => false) (fun _ _ => false) (fun _ _ _ => false) (fun _ _ => false) (fun _ _ _ _ _ _ _ => false) (fun _ _ => false) (fun _ _ _ _ => false) (fun _ _ _ _ => false) () (fun _ _ _ _ => ()) w) q0 q1
noncomputable def eqv_f (q0 : Nat) (w : V) : Bool := (@V.rec (fun _ => (Nat) → Bool) (fun _ => Unit) (fun _ _ => false) (fun _ _ => false) (fun _ _ _ => false) (fun x q0 => Nat.beq q0 x) (fun _ _ _ => false) (fun _ _ => false) (fun _ _ _ => false) (fun _ => false) (fun _ _ _ _ _ => false) (fun _ _ _ _ _ => false) (fun _ => false) (fun _ _ => false) (fun _ => false) (fun _ _ _ _ _ _ => false) (fun _ => false) (fun _ _ _ => false) (fun _ _ _ => false) () (fun _ _ _ _ => ()) w) q0
noncomputable def eqv_z (q0 : Nat) (q1 : Nat) (w : V) : Bool := (@V.rec (fun _ => (Nat) → (Nat) → Bool) (fun _ => Unit) (fun _ _ _ => false) (fun _ _ _ => false) (fun _ _ _ _ => false) (fun _ _ _ => false) (fun re im q0 q1 => andB (Nat.beq q0 re) (Nat.beq q1 im)) (fun _ _ _ => false) (fun _ _ _ _ => false) (fun _ _ => false) (fun _ _ _ _ _ _ => false) (fun _ _ _ _ _ _ => false) (fun _ _ => false) (fun _ _ _ => false) (fun _ _ => false) (fun _ _ _ _ _ _ _ => false) (fun _ _ => false) (fun _ _ _ _ => false) (fun _ _ _ _ => false) () (fun _ _ _ _ => ()) w) q0 q1
noncomputable def eqv_s (q0 : List Nat) (w : V) : Bool := (@V.rec (fun _ => (List Nat) → Bool) (fun _ => Unit) (fun _ _ => false) (fun _ _ => false) (fun _ _ _ => false) (fun _ _ => false) (fun _ _ _ => false) (fun x q0 => eqL q0 x) (fun _ _ _ => false) (fun _ => false) (fun _ _ _ _ _ => false) (fun _ _ _ _ _ => false) (fun _ => false) (fun _ _ => false) (fun _ => false) (fun _ _ _ _ _ _ => false) (fun _ => false) (fun _ _ _ => false) (fun _ _ _ => false) () (fun _ _ _ _ => ()) w) q0
noncomputable def eqv_p (q0 : Nat) (q1 : Nat) (w : V) : Bool := (@V.rec (fun _ => (Nat) → (Nat) → Bool) (fun _ => Unit) (fun _ _ _ => false) (fun _ _ _ => false) (fun _ _ _ _ => false) (fun _ _ _ => false) (fun _ _ _ _ => false) (fun _ _ _ => false) (fun b o q0 q1 => andB (Nat.beq q0 b) (Nat.beq q1 o)) (fun _ _ => false) (fun _ _ _ _ _ _ => false) (fun _ _ _ _ _ _ => false) (fun _ _ => false) (fun _ _ _ => false) (fun _ _ => false) (fun _ _ _ _ _ _ _ => false) (fun _ _ => false) (fun _ _ _ _ => false) (fun _ _ _ _ => false) () (fun _ _ _ _ => ()) w) q0 q1
noncomputable def eqv_np  (w : V) : Bool := (@V.rec (fun _ => Bool) (fun _ => Unit) (fun _ => false) (fun _ => false) (fun _ _ => false) (fun _ => false) (fun _ _ => false) (fun _ => false) (fun _ _ => false) (true) (fun _ _ _ _ => false) (fun _ _ _ _ => false) (false) (fun _ => false) (false) (fun _ _ _ _ _ => false) (false) (fun _ _ => false) (fun _ _ => false) () (fun _ _ _ _ => ()) w) 
noncomputable def eqv_sl (q0 : Nat) (q1 : Nat) (q2 : Nat) (q3 : Cap) (w : V) : Bool := (@V.rec (fun _ => (Nat) → (Nat) → (Nat) → (Cap) → Bool) (fun _ => Unit) (fun _ _ _ _ _ => false) (fun _ _ _ _ _ => false) (fun _ _ _ _ _ _ => false) (fun _ _ _ _ _ => false) (fun _ _ _ _ _ _ => false) (fun _ _ _ _ _ => false) (fun _ _ _ _ _ _ => false) (fun _ _ _ _ => false) (fun b o n c q0 q1 q2 q3 => andB (Nat.beq q0 b) (andB (Nat.beq q1 o) (andB (Nat.beq q2 n) (eqC q3 c)))) (fun _ _ _ _ _ _ _ _ => false) (fun _ _ _ _ => false) (fun _ _ _ _ _ => false) (fun _ _ _ _ => false) (fun _ _ _ _ _ _ _ _ _ => false) (fun _ _ _ _ => false) (fun _ _ _ _ _ _ => false) (fun _ _ _ _ _ _ => false) () (fun _ _ _ _ => ()) w) q0 q1 q2 q3
noncomputable def eqv_se (q0 : Nat) (q1 : Nat) (q2 : Nat) (q3 : Nat) (w : V) : Bool := (@V.rec (fun _ => (Nat) → (Nat) → (Nat) → (Nat) → Bool) (fun _ => Unit) (fun _ _ _ _ _ => false) (fun _ _ _ _ _ => false) (fun _ _ _ _ _ _ => false) (fun _ _ _ _ _ => false) (fun _ _ _ _ _ _ => false) (fun _ _ _ _ _ => false) (fun _ _ _ _ _ _ => false) (fun _ _ _ _ => false) (fun _ _ _ _ _ _ _ _ => false) (fun b o mv j q0 q1 q2 q3 => andB (Nat.beq q0 b) (andB (Nat.beq q1 o) (andB (Nat.beq q2 mv) (Nat.beq q3 j)))) (fun _ _ _ _ => false) (fun _ _ _ _ _ => false) (fun _ _ _ _ => false) (fun _ _ _ _ _ _ _ _ _ => false) (fun _ _ _ _ => false) (fun _ _ _ _ _ _ => false) (fun _ _ _ _ _ _ => false) () (fun _ _ _ _ => ()) w) q0 q1 q2 q3
noncomputable def eqv_ns  (w : V) : Bool := (@V.rec (fun _ => Bool) (fun _ => Unit) (fun _ => false) (fun _ => false) (fun _ _ => false) (fun _ => false) (fun _ _ => false) (fun _ => false) (fun _ _ => false) (false) (fun _ _ _ _ => false) (fun _ _ _ _ => false) (true) (fun _ => false) (false) (fun _ _ _ _ _ => false) (false) (fun _ _ => false) (fun _ _ => false) () (fun _ _ _ _ => ()) w) 
noncomputable def eqv_m (q0 : Nat) (w : V) : Bool := (@V.rec (fun _ => (Nat) → Bool) (fun _ => Unit) (fun _ _ => false) (fun _ _ => false) (fun _ _ _ => false) (fun _ _ => false) (fun _ _ _ => false) (fun _ _ => false) (fun _ _ _ => false) (fun _ => false) (fun _ _ _ _ _ => false) (fun _ _ _ _ _ => false) (fun _ => false) (fun b q0 => Nat.beq q0 b) (fun _ => false) (fun _ _ _ _ _ _ => false) (fun _ => false) (fun _ _ _ => false) (fun _ _ _ => false) () (fun _ _ _ _ => ()) w) q0
noncomputable def eqv_nm  (w : V) : Bool := (@V.rec (fun _ => Bool) (fun _ => Unit) (fun _ => false) (fun _ => false) (fun _ _ => false) (fun _ => false) (fun _ _ => false) (fun _ => false) (fun _ _ => false) (false) (fun _ _ _ _ => false) (fun _ _ _ _ => false) (false) (fun _ => false) (true) (fun _ _ _ _ _ => false) (false) (fun _ _ => false) (fun _ _ => false) () (fun _ _ _ _ => ()) w) 
noncomputable def eqv_fn (q0 : Nat) (q1 : List V → Bool) (q2 : List V → Bool) (w : V) : Bool := (@V.rec (fun _ => (Nat) → (List V → Bool) → (List V → Bool) → Bool) (fun _ => Unit) (fun _ _ _ _ => false) (fun _ _ _ _ => false) (fun _ _ _ _ _ => false) (fun _ _ _ _ => false) (fun _ _ _ _ _ => false) (fun _ _ _ _ => false) (fun _ _ _ _ _ => false) (fun _ _ _ => false) (fun _ _ _ _ _ _ _ => false) (fun _ _ _ _ _ _ _ => false) (fun _ _ _ => false) (fun _ _ _ _ => false) (fun _ _ _ => false) (fun f u w _ _ q0 q1 q2 => andB (Nat.beq q0 f) (andB (q1 u) (q2 w))) (fun _ _ _ => false) (fun _ _ _ _ _ => false) (fun _ _ _ _ _ => false) () (fun _ _ _ _ => ()) w) q0 q1 q2
noncomputable def eqv_nf  (w : V) : Bool := (@V.rec (fun _ => Bool) (fun _ => Unit) (fun _ => false) (fun _ => false) (fun _ _ => false) (fun _ => false) (fun _ _ => false) (fun _ => false) (fun _ _ => false) (false) (fun _ _ _ _ => false) (fun _ _ _ _ => false) (false) (fun _ => false) (false) (fun _ _ _ _ _ => false) (true) (fun _ _ => false) (fun _ _ => false) () (fun _ _ _ _ => ()) w) 
noncomputable def eqv_a (q0 : List V → Bool) (w : V) : Bool := (@V.rec (fun _ => (List V → Bool) → Bool) (fun _ => Unit) (fun _ _ => false) (fun _ _ => false) (fun _ _ _ => false) (fun _ _ => false) (fun _ _ _ => false) (fun _ _ => false) (fun _ _ _ => false) (fun _ => false) (fun _ _ _ _ _ => false) (fun _ _ _ _ _ => false) (fun _ => false) (fun _ _ => false) (fun _ => false) (fun _ _ _ _ _ _ => false) (fun _ => false) (fun l _ q0 => q0 l) (fun _ _ _ => false) () (fun _ _ _ _ => ()) w) q0
noncomputable def eqv_t (q0 : List V → Bool) (w : V) : Bool := (@V.rec (fun _ => (List V → Bool) → Bool) (fun _ => Unit) (fun _ _ => false) (fun _ _ => false) (fun _ _ _ => false) (fun _ _ => false) (fun _ _ _ => false) (fun _ _ => false) (fun _ _ _ => false) (fun _ => false) (fun _ _ _ _ _ => false) (fun _ _ _ _ _ => false) (fun _ => false) (fun _ _ => false) (fun _ => false) (fun _ _ _ _ _ _ => false) (fun _ => false) (fun _ _ _ => false) (fun l _ q0 => q0 l) () (fun _ _ _ _ => ()) w) q0
noncomputable def eqv_nil (w : List V) : Bool := @List.rec V (fun _ => Bool) true (fun _ _ _ => false) w
noncomputable def eqv_cons (f : V → Bool) (g : List V → Bool) (w : List V) : Bool := @List.rec V (fun _ => (V → Bool) → (List V → Bool) → Bool) (fun _ _ => false) (fun v l _ f g => andB (f v) (g l)) w f g
noncomputable def eqV (u : V) : V → Bool := @V.rec (fun _ => V → Bool) (fun _ => List V → Bool) (fun x w => eqv_b x w) (fun n w => eqv_i n w) (fun kd n w => eqv_k kd n w) (fun x w => eqv_f x w) (fun re im w => eqv_z re im w) (fun x w => eqv_s x w) (fun b o w => eqv_p b o w) (fun w => eqv_np w) (fun b o n c w => eqv_sl b o n c w) (fun b o mv j w => eqv_se b o mv j w) (fun w => eqv_ns w) (fun b w => eqv_m b w) (fun w => eqv_nm w) (fun f _ _ ih1 ih2 w => eqv_fn f ih1 ih2 w) (fun w => eqv_nf w) (fun _ ih0 w => eqv_a ih0 w) (fun _ ih0 w => eqv_t ih0 w) (fun w => eqv_nil w) (fun _ _ f g w => eqv_cons f g w) u
noncomputable def agr (o : OV) : V → Bool := @OV.rec (fun _ => V → Bool) (fun _ => true) eqV o
abbrev KT := KEnv → KEnv → OE
noncomputable def sgB (b : Bool) : Nat → V → KT → KT := @Bool.rec (fun _ => Nat → V → KT → KT) (fun _ _ _ _ _ => .no) (fun d v ih env dl => ih (.cons d v env) (.cons d v dl)) b
noncomputable def sgR (r : R) : Nat → KEnv → KT → KT := @R.rec (fun _ => Nat → KEnv → KT → KT) (fun _ _ _ _ _ => .no) (fun v _ d E ih env dl => sgB (agr (klk E d) v) d v ih env dl) r
noncomputable def sgRn (r : R) : KT → KT := @R.rec (fun _ => KT → KT) (fun _ _ _ => .no) (fun _ _ ih env dl => ih env dl) r
noncomputable def sgS (q : Bool) : Nat → Kp → KEnv → Cl → St → KT → KT := @Bool.rec (fun _ => Nat → Kp → KEnv → Cl → St → KT → KT) (fun _ _ _ _ _ _ _ _ => .no) (fun d o E cl s ih env dl => sgR (eKp o env s cl) d E ih env dl) q
noncomputable def sgN (q : Bool) : Kp → KEnv → Cl → St → KT → KT := @Bool.rec (fun _ => Kp → KEnv → Cl → St → KT → KT) (fun _ _ _ _ _ _ _ => .no) (fun o _ cl s ih env dl => sgRn (eKp o env s cl) ih env dl) q
noncomputable def sgGsB (c : Bool) : Bool → Nat → Kp → KEnv → Cl → St → KT → KT := @Bool.rec (fun _ => Bool → Nat → Kp → KEnv → Cl → St → KT → KT) (fun _ d _ E _ _ ih env dl => sgB (agr (klk E d) und) d und ih env dl) sgS c
noncomputable def sgGnB (c : Bool) : Bool → Kp → KEnv → Cl → St → KT → KT := @Bool.rec (fun _ => Bool → Kp → KEnv → Cl → St → KT → KT) (fun _ _ _ _ _ ih env dl => ih env dl) sgN c
noncomputable def sgGs (g : OG) : Bool → Nat → Kp → KEnv → Cl → St → KT → KT := @OG.rec (fun _ => Bool → Nat → Kp → KEnv → Cl → St → KT → KT) (fun _ _ _ _ _ _ _ _ _ => .no) sgGsB g
noncomputable def sgGn (g : OG) : Bool → Kp → KEnv → Cl → St → KT → KT := @OG.rec (fun _ => Bool → Kp → KEnv → Cl → St → KT → KT) (fun _ _ _ _ _ _ _ _ => .no) sgGnB g
noncomputable def sgKO (o : KO) : Bool → KEnv → Cl → St → KT → KT := @KO.rec (fun _ => Bool → KEnv → Cl → St → KT → KT) (fun d o q E cl s ih env dl => sgS q d o E cl s ih env dl) (fun o q E cl s ih env dl => sgN q o E cl s ih env dl)
  (fun j b d o q E cl s ih env dl => sgGs (guard (klk env j) b) q d o E cl s ih env dl) (fun j b o q E cl s ih env dl => sgGn (guard (klk env j) b) q o E cl s ih env dl) o
/-- Done ahead: its value as it is known. -/
noncomputable def rdV (o : OV) : Nat → KT → KT := @OV.rec (fun _ => Nat → KT → KT) (fun _ _ _ _ => .no) (fun v d ih env dl => ih (.cons d v env) (.cons d v dl)) o
noncomputable def rdS (d : Nat) (E : KEnv) (ih : KT) : KT := rdV (klk E d) d ih
noncomputable def rdKO (o : KO) : KEnv → KT → KT := @KO.rec (fun _ => KEnv → KT → KT) (fun d _ => rdS d) (fun _ _ ih => ih) (fun _ _ d _ => rdS d) (fun _ _ _ _ ih => ih) o
/-- It waits. -/
noncomputable def wtV (o : OV) : KT → KT := @OV.rec (fun _ => KT → KT) (fun ih => ih) (fun _ _ _ _ => .no) o
noncomputable def wtS (d : Nat) (E : KEnv) (ih : KT) : KT := wtV (klk E d) ih
noncomputable def wtKO (o : KO) : KEnv → KT → KT := @KO.rec (fun _ => KEnv → KT → KT) (fun d _ => wtS d) (fun _ _ ih => ih) (fun _ _ d _ => wtS d) (fun _ _ _ _ ih => ih) o
noncomputable def sgA (c : Bool) : Bool → KO → KEnv → Cl → St → KT → KT := @Bool.rec (fun _ => Bool → KO → KEnv → Cl → St → KT → KT) (fun _ o E _ _ ih => wtKO o E ih) (fun q o E cl s ih => sgKO o q E cl s ih) c
noncomputable def sgC (c : Bool) : Nat → Bool → KO → Nat → KEnv → Cl → St → KT → KT := @Bool.rec (fun _ => Nat → Bool → KO → Nat → KEnv → Cl → St → KT → KT) (fun wm q o pd E cl s ih => sgA (apart wm pd) q o E cl s ih) (fun _ _ o _ E _ _ ih => rdKO o E ih) c
noncomputable def sgD (k : KD) : Nat → Nat → KEnv → Cl → St → KT → KT := @KD.rec (fun _ => Nat → Nat → KEnv → Cl → St → KT → KT) (fun ix wm q o dn pd E cl s ih => sgC (bit dn ix) wm q o pd E cl s ih) k
noncomputable def stg (l : List KD) : Nat → Nat → KEnv → Cl → St → KT := @List.rec KD (fun _ => Nat → Nat → KEnv → Cl → St → KT) (fun _ _ _ _ _ env dl => .ok env dl) (fun k _ ih dn pd E cl s => sgD k dn pd E cl s (ih dn pd E cl s)) l
abbrev KH := Nat → KEnv → St → XO
noncomputable def dwR (r : R) : Nat → Nat → Nat → KH → KEnv → XO := @R.rec (fun _ => Nat → Nat → Nat → KH → KEnv → XO) (fun _ _ _ _ _ => .no) (fun v s d dn wm ih dl => ih (Nat.lor dn wm) (.cons d v dl) s) r
noncomputable def dwRn (r : R) : Nat → Nat → KH → KEnv → XO := @R.rec (fun _ => Nat → Nat → KH → KEnv → XO) (fun _ _ _ _ => .no) (fun _ s dn wm ih dl => ih (Nat.lor dn wm) dl s) r
noncomputable def dwS (d : Nat) (o : Kp) (dn wm : Nat) (_ : KEnv) (cl : Cl) (s : St) (ih : KH) (env dl : KEnv) : XO := dwR (eKp o env s cl) d dn wm ih dl
noncomputable def dwN (o : Kp) (dn wm : Nat) (_ : KEnv) (cl : Cl) (s : St) (ih : KH) (env dl : KEnv) : XO := dwRn (eKp o env s cl) dn wm ih dl
noncomputable def dwGsB (c : Bool) : Nat → Kp → Nat → Nat → KEnv → Cl → St → KH → KEnv → KEnv → XO := @Bool.rec (fun _ => Nat → Kp → Nat → Nat → KEnv → Cl → St → KH → KEnv → KEnv → XO) (fun _ _ dn _ E _ s ih _ _ => ih dn E s) dwS c
noncomputable def dwGnB (c : Bool) : Kp → Nat → Nat → KEnv → Cl → St → KH → KEnv → KEnv → XO := @Bool.rec (fun _ => Kp → Nat → Nat → KEnv → Cl → St → KH → KEnv → KEnv → XO) (fun _ dn _ E _ s ih _ _ => ih dn E s) dwN c
noncomputable def dwGs (g : OG) : Nat → Kp → Nat → Nat → KEnv → Cl → St → KH → KEnv → KEnv → XO := @OG.rec (fun _ => Nat → Kp → Nat → Nat → KEnv → Cl → St → KH → KEnv → KEnv → XO) (fun _ _ _ _ _ _ _ _ _ _ => .no) dwGsB g
noncomputable def dwGn (g : OG) : Kp → Nat → Nat → KEnv → Cl → St → KH → KEnv → KEnv → XO := @OG.rec (fun _ => Kp → Nat → Nat → KEnv → Cl → St → KH → KEnv → KEnv → XO) (fun _ _ _ _ _ _ _ _ _ => .no) dwGnB g
noncomputable def dwKO (o : KO) : Nat → Nat → KEnv → Cl → St → KH → KEnv → KEnv → XO := @KO.rec (fun _ => Nat → Nat → KEnv → Cl → St → KH → KEnv → KEnv → XO) dwS dwN
  (fun j b d o dn wm E cl s ih env dl => dwGs (guard (klk env j) b) d o dn wm E cl s ih env dl) (fun j b o dn wm E cl s ih env dl => dwGn (guard (klk env j) b) o dn wm E cl s ih env dl) o
noncomputable def dwE (x : OE) : KO → Nat → Nat → KEnv → Cl → St → KH → XO := @OE.rec (fun _ => KO → Nat → Nat → KEnv → Cl → St → KH → XO) (fun _ _ _ _ _ _ _ => .no) (fun env dl o dn wm E cl s ih => dwKO o dn wm E cl s ih env dl) x
noncomputable def dwF (x : OE) : St → XO := @OE.rec (fun _ => St → XO) (fun _ => .no) (fun env _ s => .ok env s) x
/-- Two that may go either way: the second one makes a new block. -/
noncomputable def noV (o : OV) : XO → XO := @OV.rec (fun _ => XO → XO) (fun x => x) (fun _ _ => .no) o
noncomputable def dwP4 (r : R) (da dnw : Nat) (dl2 : KEnv) (ih : KH) : XO := @R.rec (fun _ => XO) .no (fun v s => ih dnw (.cons da v dl2) s) r
noncomputable def dwP3 (x : OE) (r : R) (da dnw : Nat) (ih : KH) : XO := @OE.rec (fun _ => XO) .no (fun _ dl2 => dwP4 r da dnw dl2 ih) x
noncomputable def dwP2 (r : R) (da dc pd2 dn2 dnw : Nat) (ka : Kp) (l : List KD) (cl : Cl) (env0 dl1 : KEnv) (ih : KH) : XO :=
  @R.rec (fun _ => XO) .no (fun v s1 => dwP3 (stg l dn2 pd2 (.cons dc v dl1) cl s1 env0 .nil) (eKp ka dl1 s1 cl) da dnw ih) r
noncomputable def dwP1 (x : OE) (da dc pd2 dn2 dnw : Nat) (kc ka : Kp) (l : List KD) (cl : Cl) (env0 : KEnv) (s : St) (ih : KH) : XO :=
  @OE.rec (fun _ => XO) .no (fun env1 dl1 => noV (klk dl1 da) (noV (klk dl1 dc) (dwP2 (eKp kc env1 s cl) da dc pd2 dn2 dnw ka l cl env0 dl1 ih))) x
noncomputable def dwW (w : KW) : List KD → Cl → KEnv → KH → KH := @KW.rec (fun _ => List KD → Cl → KEnv → KH → KH) (fun pd wm o l cl env0 ih dn E s => dwE (stg l dn pd E cl s env0 .nil) o dn wm E cl s ih)
  (fun da dc pd wm pd2 wm2 kc ka l cl env0 ih dn E s => noV (klk env0 da) (dwP1 (stg l dn pd E cl s env0 .nil) da dc pd2 (Nat.lor dn wm) (Nat.lor (Nat.lor dn wm) wm2) kc ka l cl env0 s ih)) w
noncomputable def dwL (ws : List KW) : List KD → Cl → KEnv → KH := @List.rec KW (fun _ => List KD → Cl → KEnv → KH) (fun l cl env0 dn E s => dwF (stg l dn 0 E cl s env0 .nil) s) (fun w _ ih l cl env0 => dwW w l cl env0 (ih l cl env0)) ws
/-! Code. -/
abbrev Run := Cl → KEnv → St → XC
noncomputable def sqE (e : Ex) : Run → Cl → KEnv → St → XC := @Ex.rec (fun _ => Run → Cl → KEnv → St → XC) (fun k cl env s => k cl env s) (fun _ _ env s => .ok .r env s) (fun i _ _ env s => .ok (.x i) env s) (fun l _ _ env s => .ok (.g l) env s) e
noncomputable def sqX (x : XC) : Run → Cl → XC := @XC.rec (fun _ => Run → Cl → XC) (fun _ _ => .no) (fun e env s k cl => sqE e k cl env s) x
noncomputable def sqR (a b : Run) (cl : Cl) (env : KEnv) (s : St) : XC := sqX (a cl env s) b cl
noncomputable def rgX (x : XO) : List Nat → KEnv → XC := @XO.rec (fun _ => List Nat → KEnv → XC) (fun _ _ => .no) (fun env' s ks env => .ok .n (keepE env' ks env) s) x
noncomputable def rgR (ks : List Nat) (l : List KO) (cl : Cl) (env : KEnv) (s : St) : XC := rgX (eOps cl l env s) ks env
noncomputable def dwRg (ks : List Nat) (l : List KD) (ws : List KW) (cl : Cl) (env : KEnv) (s : St) : XC := rgX (dwL ws l cl env 0 .nil s) ks env
noncomputable def cdB (c : Bool) : Run → Run → Run := @Bool.rec (fun _ => Run → Run → Run) (fun _ b => b) (fun a _ => a) c
noncomputable def cdV (v : V) : Run → Run → Run := @V.rec (fun _ => Run → Run → Run) (fun _ => Unit) (fun x => cdB x) (fun _ => (fun _ _ _ _ _ => XC.no)) (fun _ _ => (fun _ _ _ _ _ => XC.no)) (fun _ => (fun _ _ _ _ _ => XC.no)) (fun _ _ => (fun _ _ _ _ _ => XC.no)) (fun _ => (fun _ _ _ _ _ => XC.no)) (fun _ _ => (fun _ _ _ _ _ => XC.no)) ((fun _ _ _ _ _ => XC.no)) (fun _ _ _ _ => (fun _ _ _ _ _ => XC.no)) (fun _ _ _ _ => (fun _ _ _ _ _ => XC.no)) ((fun _ _ _ _ _ => XC.no)) (fun _ => (fun _ _ _ _ _ => XC.no)) ((fun _ _ _ _ _ => XC.no)) (fun _ _ _ _ _ => (fun _ _ _ _ _ => XC.no)) ((fun _ _ _ _ _ => XC.no)) (fun _ _ => (fun _ _ _ _ _ => XC.no)) (fun _ _ => (fun _ _ _ _ _ => XC.no)) () (fun _ _ _ _ => ()) v
noncomputable def cdO (o : OV) : Run → Run → Run := @OV.rec (fun _ => Run → Run → Run) (fun _ _ _ _ _ => .no) cdV o
noncomputable def cdR (x : O) (a b : Run) (cl : Cl) (env : KEnv) (s : St) : XC := cdO (eO x env) a b cl env s
noncomputable def bkB (c : Bool) : Nat → KEnv → St → XC := @Bool.rec (fun _ => Nat → KEnv → St → XC) (fun j env s => .ok (.x j) env s) (fun _ env s => .ok .n env s) c
noncomputable def bkE (e : Ex) : Nat → KEnv → St → XC := @Ex.rec (fun _ => Nat → KEnv → St → XC) (fun _ env s => .ok .n env s) (fun _ env s => .ok .r env s) (fun j i env s => bkB (Nat.beq j i) j env s) (fun l _ env s => .ok (.g l) env s) e
noncomputable def bkX (x : XC) : Nat → XC := @XC.rec (fun _ => Nat → XC) (fun _ => .no) (fun e env s i => bkE e i env s) x
noncomputable def bkR (i : Nat) (c : Run) (cl : Cl) (env : KEnv) (s : St) : XC := bkX (c cl env s) i
noncomputable def lpR (c : Run) (n : Nat) : Run := @Nat.rec (fun _ => Run) (fun _ _ _ => .no) (fun _ ih => sqR c ih) n
def lpFuel : Nat := 1000000
inductive OR where
  | no | ok (r : Run)
noncomputable def atS (o : OR) : Run → OR → OR := @OR.rec (fun _ => Run → OR → OR) (fun _ r => r) (fun a b _ => .ok (sqR a b)) o
noncomputable def skR : Run := fun _ env s => .ok .n env s
/-- code, and what stands behind a label -/
structure Den where
  run : Run
  at_ : Nat → OR
noncomputable def scE (e : Ex) : (Nat → OR) → (Run → Run) → Run := @Ex.rec (fun _ => (Nat → OR) → (Run → Run) → Run) (fun _ _ _ env s => .ok .n env s) (fun _ _ _ env s => .ok .r env s) (fun i _ _ _ env s => .ok (.x i) env s)
  (fun l f ih cl env s => @OR.rec (fun _ => XC) .no (fun r => ih r cl env s) (f l)) e
noncomputable def scX (x : XC) : (Nat → OR) → (Run → Run) → Cl → XC := @XC.rec (fun _ => (Nat → OR) → (Run → Run) → Cl → XC) (fun _ _ _ => .no) (fun e env s f ih cl => scE e f ih cl env s) x
noncomputable def scR (f : Nat → OR) (n : Nat) : Run → Run := @Nat.rec (fun _ => Run → Run) (fun _ _ _ _ => .no) (fun _ ih r cl env s => scX (r cl env s) f ih cl) n
noncomputable def lbB (c : Bool) : OR := @Bool.rec (fun _ => OR) .no (.ok skR) c
noncomputable def noAt : Nat → OR := fun _ => .no
noncomputable def den (c : KC) : Den := @KC.rec (fun _ => Den)
  (fun _ _ a b => ⟨sqR a.run b.run, fun l => atS (a.at_ l) b.run (b.at_ l)⟩)
  (fun ks l => ⟨rgR ks l, noAt⟩) (fun ks l ws => ⟨dwRg ks l ws, noAt⟩)
  (fun x _ _ a b => ⟨cdR x a.run b.run, noAt⟩) (fun i _ c => ⟨bkR i c.run, noAt⟩) (fun _ c => ⟨lpR c.run lpFuel, noAt⟩) (fun _ c => ⟨scR c.at_ lpFuel c.run, noAt⟩)
  (fun i => ⟨fun _ env s => .ok (.x i) env s, noAt⟩) (fun l => ⟨fun _ env s => .ok (.g l) env s, noAt⟩) (fun l => ⟨skR, fun l' => lbB (Nat.beq l l')⟩) ⟨fun _ env s => .ok .r env s, noAt⟩ ⟨skR, noAt⟩ c
noncomputable def callG (b : Bool) : List KR → KC → Cl → List V → St → R := @Bool.rec (fun _ => List KR → KC → Cl → List V → St → R) (fun _ _ _ _ _ => .no) (fun rs c cl args s => endK ((den c).run cl (argE args 0) s) rs) b
noncomputable def callB (f : KFun) : Cl → List V → St → R := @KFun.rec (fun _ => Cl → List V → St → R) (fun np rs c cl args s => callG (Nat.beq (lenL args) np) rs c cl args s) f
noncomputable def callO (o : OF) : Cl → List V → St → R := @OF.rec (fun _ => Cl → List V → St → R) (fun _ _ _ => .no) callB o
noncomputable def callN (G : TF) (n : Nat) : Cl := @Nat.rec (fun _ => Cl) noCl (fun _ ih f args s => callO (G.get f) ih args s) n
def isT (r : R) : Bool := match r with
  | .ok (.b true) _ => true
  | _ => false
noncomputable def runK (G : TF) (f : Nat) (args : List V) : R := callN G 100 f args ⟨0, .nil⟩
end Go.Kx
