import Derived.Test.YtcjdpbcgmdhjfaaGreatDoorDa
import Derived.Test.YtcjdpbcgmdhjfaaGreatDoorDb
set_option linter.unusedVariables false
namespace Go.Ax
open Go
noncomputable section

/-- What is made ready once: the kernel keeps what a closed one comes to. -/
inductive Box (α : Type) where
  | mk (x : α)
  | bad

def bbind {α β : Type} (b : Box α) (k : α → Box β) : Box β := Box.rec k .bad b
def bor {α : Type} (b c : Box α) : Box α := Box.rec .mk c b

/-- What a region's operations work with beside the frame and the state. -/
structure JE where
  call : CallT
  yield : YieldT
  base : Nat
  pend : List Pend

abbrev Loc' := List (Nat × Value)
abbrev Dfs := List (FuncId × List Value)
abbrev JK := JE → Tr Value → Loc' → Dfs → St → Option (Fr × St)
abbrev JV := Tr Value → Loc' → St → Option Value
abbrev JG := Tr Value → Loc' → Option Value
abbrev JRun := CallT → YieldT → Fr → St → Out

/-! paths -/
def jGetP {α : Type} : Path → Box (Tr α → Option α) := fun p =>
  List.rec (.mk fun t => Tr.rec none (fun v _ _ _ _ => v) t)
    (fun b _ ih => bbind ih fun g => Bool.rec (.mk fun t => Tr.rec none (fun _ x _ _ _ => g x) t) (.mk fun t => Tr.rec none (fun _ _ y _ _ => g y) t) b) p

def jSetP {α : Type} : Path → Box (α → Tr α → Tr α) := fun p =>
  List.rec (.mk fun a t => Tr.rec (.n (some a) .e .e) (fun _ x y _ _ => .n (some a) x y) t)
    (fun b _ ih => bbind ih fun g => Bool.rec
      (.mk fun a t => Tr.rec (.n none (g a .e) .e) (fun v x y _ _ => .n v (g a x) y) t)
      (.mk fun a t => Tr.rec (.n none .e (g a .e)) (fun v x y _ _ => .n v x (g a y)) t) b) p

def jNth : Nat → Box (Loc' → Option Value) := fun k =>
  Nat.rec (.mk fun l => List.rec none (fun p _ _ => some p.2) l) (fun _ ih => bbind ih fun g => .mk fun l => List.rec none (fun _ t _ => g t) l) k

def posOf (t : Nat) : List Nat → Option Nat := fun l => List.rec none (fun a _ ih => sel (Nat.beq a t) (some 0) (obind ih fun k => some (Nat.succ k))) l

def jGet (n : Nat) (ks : List Nat) (x : Operand) : Box JG :=
  match x with
  | .tmp t => sel (ltN t n) (bbind (jGetP (path t)) fun g => .mk fun vars _ => g vars) (Option.casesOn (posOf t ks) (.mk fun _ _ => none) fun k => bbind (jNth k) fun g => .mk fun _ loc => g loc)
  | .const v => .mk fun _ _ => some v
  | .global g => .mk fun _ _ => some (ptr g 0)
  | .func f => .mk fun _ _ => some (.func (.func f) #[] #[])

def jGets (n : Nat) (ks : List Nat) : List Operand → Box (Tr Value → Loc' → Option (List Value)) := fun l =>
  List.rec (.mk fun _ _ => some []) (fun x _ ih => bbind (jGet n ks x) fun g => bbind ih fun r => .mk fun vars loc => obind (g vars loc) fun v => obind (r vars loc) fun vs => some (v :: vs)) l

/-- a value laid into the frame, and what then -/
abbrev JP := JK → JE → Value → Tr Value → Loc' → Dfs → St → Option (Fr × St)

def jPut (n : Nat) (dst : Option Tmp) : Box JP :=
  Option.casesOn dst (.mk fun r e _ vars loc ds s => r e vars loc ds s) fun d => sel (ltN d n) (bbind (jSetP (path d)) fun g => .mk fun r e v vars loc ds s => r e (g v vars) loc ds s) (.mk fun r e v vars loc ds s => r e vars ((d, v) :: loc) ds s)

def jPush (n : Nat) (dst : Option Tmp) (ks : List Nat) : List Nat := Option.casesOn dst ks fun d => sel (ltN d n) ks (d :: ks)

/-! forced numbers -/
def forceN {β : Type} (n : Nat) (k : Nat → β) : β := Nat.rec (k 0) (fun m _ => k (Nat.succ m)) n
def forceI {β : Type} (z : Int) (k : Int → β) : β := Int.rec (fun n => forceN n fun n => k (Int.ofNat n)) (fun n => forceN n fun n => k (Int.negSucc n)) z

def forceV (v : Option Value) : Option Value :=
  match v with
  | some (.int k z) => forceI z fun z => some (.int k z)
  | v => v

/-! operations -/
def jInt (op : BinOp) : Box (IntKind → Int → Int → Option Value) :=
  match op with
  | .add => .mk fun k a b => forceI (wrap k (addI a b)) fun z => some (.int k z)
  | .sub => .mk fun k a b => forceI (wrap k (subI a b)) fun z => some (.int k z)
  | .mul => .mk fun k a b => forceI (wrap k (mulI a b)) fun z => some (.int k z)
  | .eql => .mk fun _ a b => some (.bool (eqI a b))
  | .neq => .mk fun _ a b => some (.bool (!eqI a b))
  | .lss => .mk fun _ a b => some (.bool (ltI a b))
  | .leq => .mk fun _ a b => some (.bool (leI a b))
  | .gtr => .mk fun _ a b => some (.bool (ltI b a))
  | .geq => .mk fun _ a b => some (.bool (leI b a))
  | .shl => .bad
  | .shr => .bad
  | op => .mk fun k a b => forceV (intOp op k a b)

def binGen (C : Cfg) (op : BinOp) (t : TypeId) (x y : Operand) (a b : Value) : Option Value := guard (nilsOk C t x y a b) (binOp C t op a b)

def jBin2 (C : Cfg) (op : BinOp) (t : TypeId) (x y : Operand) (f : IntKind → Int → Int → Option Value) (a b : Value) : Option Value :=
  match a with
  | .int k i => match b with
    | .int k' j => guard (kindEq k k') (f k i j)
    | b => binGen C op t x y a b
  | a => binGen C op t x y a b

def jBin (C : Cfg) (op : BinOp) (t : TypeId) (x y : Operand) : Box (Value → Value → Option Value) :=
  Box.rec (fun f => .mk (jBin2 C op t x y f)) (.mk (binGen C op t x y)) (jInt op)

def jLoad (P : Program) (t : TypeId) : Box (List Value → Nat → Option Value) :=
  Option.casesOn (isAgg P t) .bad fun g => sel g (Option.casesOn (size P t) .bad fun n => .mk fun cs o => obind (takeN n (dropL o cs)) fun l => some (mkAgg l)) (.mk fun cs o => nth cs o)

def ptrK {β : Type} (v : Value) (k : Addr → Option β) : Option β :=
  match v with
  | .pointer (some a) => k a
  | _ => none

def boolK {β : Type} (v : Value) (x y : Option β) : Option β :=
  match v with
  | .bool c => sel c x y
  | _ => none

def sliceK {β : Type} (v : Value) (k : Addr → Nat → Option β) : Option β :=
  match v with
  | .slice (some a) len _ => k a len
  | _ => none

def tupK {β : Type} (v : Value) (k : List Value → Option β) : Option β :=
  match v with
  | .tuple vs => k vs.toList
  | _ => none

def nilK (C : Cfg) (v : Value) : Option Value :=
  match v with
  | .pointer (some _) => some v
  | .func fn first _ => guard (okFunc C fn first.toList) (some v)
  | .iface _ _ => some v
  | _ => none

/-- the value of an operation that leaves the state as it is -/
def jVal (C : Cfg) (n : Nat) (ks : List Nat) (o : Op) : Box JV :=
  match o with
  | .move x => bbind (jGet n ks x) fun g => .mk fun vars loc _ => g vars loc
  | .assign x => bbind (jGet n ks x) fun g => .mk fun vars loc _ => g vars loc
  | .pick c a b => bbind (jGet n ks c) fun gc => bbind (jGet n ks a) fun ga => bbind (jGet n ks b) fun gb => .mk fun vars loc _ => obind (gc vars loc) fun v => boolK v (ga vars loc) (gb vars loc)
  | .binOp op t x y _ => bbind (jGet n ks x) fun gx => bbind (jGet n ks y) fun gy => bbind (jBin C op t x y) fun f => .mk fun vars loc _ => obind (gx vars loc) fun a => obind (gy vars loc) fun b => f a b
  | .unOp op _ x => bbind (jGet n ks x) fun g => .mk fun vars loc _ => obind (g vars loc) fun v => unOp op v
  | .load t a => bbind (jGet n ks a) fun g => bbind (jLoad C.P t) fun f => .mk fun vars loc s => obind (g vars loc) fun v => ptrK v fun a => obind (s.cells a.block) fun c => f c.1 a.off
  | .fieldAddr t x i => bbind (jGet n ks x) fun g => Option.casesOn (obind (fieldInfo C.P t i) fun f => obind (size C.P f.type) fun m => guard (!Nat.beq m 0) (some f.offset)) .bad fun off =>
      .mk fun vars loc _ => obind (g vars loc) fun v => ptrK v fun a => forceN (Nat.add a.off off) fun o => some (ptr a.block o)
  | .nilCheck x => bbind (jGet n ks x) fun g => .mk fun vars loc _ => obind (g vars loc) fun v => nilK C v
  | .indexAddr t x i => bbind (jGet n ks x) fun gx => bbind (jGet n ks i) fun gi => match C.P.underlying t with
    | some (.slice e) => Option.casesOn (size C.P e) .bad fun m => .mk fun vars loc _ =>
        obind (gx vars loc) fun x => obind (gi vars loc) fun i => obind (asNat i) fun i => sliceK x fun a len => guard (ltN i len) (forceN (Nat.add a.off (Nat.mul i m)) fun o => some (ptr a.block o))
    | _ => .bad
  | .extract x i => bbind (jGet n ks x) fun g => .mk fun vars loc _ => obind (g vars loc) fun v => tupK v fun vs => nth vs i
  | .makeFunc fn a b => sel (noYield fn) (bbind (jGets n ks a.toList) fun ga => bbind (jGets n ks b.toList) fun gb => .mk fun vars loc _ => obind (ga vars loc) fun a => obind (gb vars loc) fun b => some (.func fn ⟨a⟩ ⟨b⟩)) .bad
  | .makeInterface t x => sel (!isIface C.P t && (C.P.underlying t).isSome) (bbind (jGet n ks x) fun g => .mk fun vars loc _ => obind (g vars loc) fun v => some (.iface t v)) .bad
  | _ => .bad

/-- the operation itself, its destination's setter and what then -/
def jGen (C : Cfg) (rd : Bool) (n : Nat) (o : Oper) (r : JK) : JK := fun e vars loc ds s =>
  obind (execOp C (Fr.ev n { vars := vars, loc := loc, defers := ds }) s o.op) (afterOp e.call e.yield rd n { vars := vars, loc := loc, defers := ds } o.dst fun fr s => r e fr.vars fr.loc fr.defers s)

def jOp (C : Cfg) (rd : Bool) (n : Nat) (ks : List Nat) (o : Oper) (put : JP) (r : JK) : Box JK :=
  match o.op with
  | .alloc t => Option.casesOn (zero C.P t) (.mk (jGen C rd n o r)) fun z => .mk fun e vars loc ds s => forceN s.next fun b =>
      put r e (ptr b 0) vars loc ds { heap := s.heap.set b (.row z t 0), fams := s.fams, next := Nat.succ b }
  | .box t x => bbind (jGet n ks x) fun g => .mk fun e vars loc ds s => obind (g vars loc) fun v => forceN s.next fun b =>
      put r e (ptr b 0) vars loc ds { heap := s.heap.set b (.row (cellsOf v) t 0), fams := s.fams, next := Nat.succ b }
  | .store t a x => bbind (jGet n ks a) fun ga => bbind (jGet n ks x) fun gx => Option.casesOn (size C.P t) (.mk (jGen C rd n o r)) fun m => .mk fun e vars loc ds s =>
      obind (ga vars loc) fun v => ptrK v fun a => obind (gx vars loc) fun v => guard (Nat.beq (lenL (cellsOf v)) m) (obind (storeCells s a.block a.off (cellsOf v)) fun s => put r e unit vars loc ds s)
  | .call c => match c.callee with
    | .value (.func f) => Option.casesOn (C.ext f) (sel (C.body f).isSome (bbind (jGets n ks c.args.toList) fun gs => .mk fun e vars loc ds s => obind (gs vars loc) fun args => obind (e.call f args s) fun q => put r e q.1 vars loc ds q.2) (.mk (jGen C rd n o r))) fun _ => .mk (jGen C rd n o r)
    | _ => .mk (jGen C rd n o r)
  | _ => Box.rec (fun v => .mk fun e vars loc ds s => obind (v vars loc s) fun x => put r e x vars loc ds s) (.mk (jGen C rd n o r)) (jVal C n ks o.op)

def jGuard (n : Nat) (all : List Oper) (g : Option (Nat × Bool)) (put : JP) (f r : JK) : JK :=
  Option.casesOn g f fun _ => fun e vars loc ds s => obind (guardOk n all { vars := vars, loc := loc, defers := ds } g) fun b => sel b (f e vars loc ds s) (put r e unit vars loc ds s)

def jOne (C : Cfg) (rd : Bool) (n : Nat) (all : List Oper) (ks : List Nat) (o : Oper) (r : JK) : Box JK :=
  bbind (jPut n o.dst) fun put => bbind (jOp C rd n ks o put r) fun f => .mk (jGuard n all o.guard put f r)

def jEnd : JK := fun _ vars loc ds s => some ({ vars := vars, loc := loc, defers := ds }, s)

def jOps (C : Cfg) (rd : Bool) (n : Nat) (all : List Oper) : List Oper → List Nat → Box JK := fun ops =>
  List.rec (fun _ => .mk jEnd) (fun o _ ih ks => bbind (ih (jPush n o.dst ks)) fun r => jOne C rd n all ks o r) ops

/-! regions whose order is drawn -/
def withPend (e : JE) (l : List Pend) : JE := { call := e.call, yield := e.yield, base := e.base, pend := l }

/-- the value, by the operation itself -/
def jValGen (C : Cfg) (n : Nat) (o : Op) : JV := fun vars loc s => obind (execOp C (Fr.ev n { vars := vars, loc := loc, defers := [] }) s o) fun r => match r with
  | .val v _ => some v
  | _ => none

def jDraw1 (C : Cfg) (rd : Bool) (n : Nat) (ks : List Nat) (a : Info) (rest : List Info) (put : JP) (r : JK) : Box JK :=
  ncase a.cls
    (bbind (bor (jVal C n ks a.op.op) (.mk (jValGen C n a.op.op))) fun v => .mk fun e vars loc ds s => obind (v vars loc s) fun x => put r e x vars loc ds s)
    fun c1 => ncase c1
      (bbind (bor (jVal C n ks a.op.op) (.mk (jValGen C n a.op.op))) fun v => .mk fun e vars loc ds s => obind (v vars loc s) fun x => guard (quietV s x) (put r (withPend e ({ i := a.i, op := a.op.op, fr := { vars := vars, loc := loc, defers := ds }, v := x } :: e.pend)) x vars loc ds s))
      fun c2 => ncase c2
        (.mk fun e vars loc ds s => obind (aOp C (Fr.ev n { vars := vars, loc := loc, defers := ds }) a.op.op) fun q => forceN (Nat.add e.base a.i) fun id => put r e (q.2 id) vars loc ds { heap := s.heap.set id q.1, fams := s.fams, next := s.next })
        fun _ => jOp C rd n ks a.op put fun e vars loc ds s => guard (lookAll C n s a.mask e.pend && freeIds s e.base rest) (r e vars loc ds s)

def jDrawOne (C : Cfg) (rd : Bool) (n : Nat) (all : List Oper) (ks : List Nat) (a : Info) (rest : List Info) (r : JK) : Box JK :=
  bbind (jPut n a.op.dst) fun put => bbind (jDraw1 C rd n ks a rest put r) fun f => .mk (jGuard n all a.op.guard put f r)

def jDraw (C : Cfg) (rd : Bool) (n : Nat) (all : List Oper) : List Info → List Nat → Box JK := fun l =>
  List.rec (fun _ => .mk jEnd) (fun a rest ih ks => bbind (ih (jPush n a.op.dst ks)) fun r => jDrawOne C rd n all ks a rest r) l

def toOut (q : Fr × St) : Out := some (.normal, q)

def jCond (n : Nat) (x : Operand) : Box (Fr → Option Value) :=
  match x with
  | .tmp t => sel (ltN t n) (bbind (jGetP (path t)) fun g => .mk fun fr => g fr.vars) (.mk fun fr => fr.ev n x)
  | x => .mk fun fr => fr.ev n x

def jRegion (C : Cfg) (n : Nat) (fn : FuncId) (rd : Bool) (id : Nat) (ops : List Oper) (draw : Bool) : Box JRun :=
  sel draw (Option.casesOn (planOf ops (C.order fn id)) .bad fun l => bbind (jDraw C rd n ops l []) fun r => .mk fun call yield fr s =>
      obind (r { call := call, yield := yield, base := s.next, pend := [] } fr.vars [] fr.defers { heap := s.heap, fams := s.fams, next := Nat.add s.next (lenL ops) }) toOut)
    (bbind (jOps C rd n ops ops []) fun r => .mk fun call yield fr s => obind (r { call := call, yield := yield, base := 0, pend := [] } fr.vars [] fr.defers s) toOut)

def jCode (C : Cfg) (n : Nat) (fn : FuncId) (rd : Bool) (c : Code) : Box JRun :=
  Code.rec (motive := fun _ => Box JRun)
    (.mk fun _ _ fr s => some (.normal, fr, s))
    (fun id ops draw => jRegion C n fn rd id ops.toList draw)
    (fun _ _ a b => bbind a fun ra => bbind b fun rb => .mk fun call yield fr s => obind (ra call yield fr s) (iterNext (rb call yield)))
    (fun c _ _ a b => bbind (jCond n c) fun g => bbind a fun ra => bbind b fun rb => .mk fun call yield fr s => obind (g fr) fun v => boolK v (ra call yield fr s) (rb call yield fr s))
    (fun id _ a => bbind a fun ra => .mk fun call yield fr s => obind (ra call yield fr s) (blockEnd id))
    (fun _ a => bbind a fun ra => .mk fun call yield fr s => iter (ra call yield) 100000 fr s)
    (fun f params assign body _ _ => .mk fun call yield fr s => rangeFunc C call n fn rd f params assign body fr s)
    (fun id => .mk fun _ _ fr s => some (.exit id, fr, s))
    (fun _ a => sel rd (.mk fun _ _ _ _ => none) a)
    (fun _ => .mk fun _ _ fr s => some (.normal, fr, s))
    (fun _ => .mk fun _ _ _ _ => none)
    (.mk fun _ _ fr s => some (.ret, fr, s))
    (fun _ => .mk fun _ _ _ _ => none) c

def jFn (C : Cfg) (f : FuncId) : Box (CallT → YieldT → List Value → St → Option (Value × St)) :=
  Option.casesOn (C.body f) .bad fun c => bbind (jCode C (C.vars f) f false c) fun run => .mk fun call yield args s => obind (run call yield (startFr args) s) (finish C (callDR C call yield) f)

def jStep (C : Cfg) (call : CallT) (yield : YieldT) (f : FuncId) (args : List Value) (s : St) : Option (Value × St) :=
  Option.casesOn (C.insert f) (Box.rec (fun run => run call yield args s) (callStep C call yield f args s) (jFn C f)) fun _ => callStep C call yield f args s

def jRunN (C : Cfg) (n : Nat) : CallT × YieldT :=
  Nat.rec (fun _ _ _ => none, fun _ _ _ => none) (fun _ ih => (jStep C ih.1 ih.2, yieldStep C ih.1 ih.2)) n
end
end Go.Ax

namespace Go.Ax
open Go

theorem bbind_mk {α β : Type} {b : Box α} {k : α → Box β} {r : β} : bbind b k = .mk r ↔ ∃ a, b = .mk a ∧ k a = .mk r := by
  cases b with
  | mk a => constructor
            · intro h; exact ⟨a, rfl, h⟩
            · rintro ⟨a', h, h'⟩; cases h; exact h'
  | bad => constructor
           · intro h; cases h
           · rintro ⟨a', h, h'⟩; cases h

theorem bad_mk {α : Type} {r : α} (h : Box.bad = .mk r) : False := by cases h

theorem mk_inj {α : Type} {a b : α} (h : Box.mk a = .mk b) : a = b := by cases h; rfl

theorem jGetP_ok {α : Type} (p : Path) : ∀ (g : Tr α → Option α), jGetP p = .mk g → ∀ t, g t = Tr.getP p t := by
  induction p with
  | nil => intro g h t; have h := mk_inj h; subst h; cases t <;> rfl
  | cons b p ih =>
    intro g h t
    have h : bbind (jGetP p) (fun g => Bool.rec (motive := fun _ => Box (Tr α → Option α)) (.mk fun t => Tr.rec none (fun _ x _ _ _ => g x) t) (.mk fun t => Tr.rec none (fun _ _ y _ _ => g y) t) b) = .mk g := h
    obtain ⟨g', h1, h2⟩ := bbind_mk.1 h
    have ih := ih g' h1
    cases b <;> (have h2 := mk_inj h2; subst h2; cases t with
      | e => rfl
      | n v x y => exact ih _)

theorem jSetP_ok {α : Type} (p : Path) : ∀ (g : α → Tr α → Tr α), jSetP p = .mk g → ∀ a t, g a t = Tr.setP a p t := by
  induction p with
  | nil => intro g h a t; have h := mk_inj h; subst h; cases t <;> rfl
  | cons b p ih =>
    intro g h a t
    have h : bbind (jSetP p) (fun g => Bool.rec (motive := fun _ => Box (α → Tr α → Tr α))
      (.mk fun a t => Tr.rec (.n none (g a .e) .e) (fun v x y _ _ => .n v (g a x) y) t)
      (.mk fun a t => Tr.rec (.n none .e (g a .e)) (fun v x y _ _ => .n v x (g a y)) t) b) = .mk g := h
    obtain ⟨g', h1, h2⟩ := bbind_mk.1 h
    have ih := ih g' h1
    cases b <;> (have h2 := mk_inj h2; subst h2; cases t with
      | e => exact (by
          show Tr.n _ _ _ = Tr.n _ _ _
          rw [ih] <;> rfl)
      | n v x y => exact (by
          show Tr.n _ _ _ = Tr.n _ _ _
          rw [ih] <;> rfl))

noncomputable def keys (l : Loc') : List Nat := mapL (fun p => p.1) l

theorem keys_cons (d : Nat) (v : Value) (l : Loc') : keys ((d, v) :: l) = d :: keys l := rfl

theorem jNth_ok : ∀ (k : Nat) (g : Loc' → Option Value), jNth k = .mk g → ∀ t (l : Loc'), posOf t (keys l) = some k → g l = findLoc t l := by
  intro k
  induction k with
  | zero =>
    intro g h t l hp
    have h := mk_inj h; subst h
    cases l with
    | nil => cases hp
    | cons p l =>
      have hp : sel (Nat.beq p.1 t) (some 0) (obind (posOf t (keys l)) fun k => some (Nat.succ k)) = some 0 := hp
      show some p.2 = sel (Nat.beq p.1 t) (some p.2) (findLoc t l)
      cases hb : Nat.beq p.1 t with
      | true => rfl
      | false =>
        rw [hb] at hp
        obtain ⟨k, _, h⟩ := obind_some.1 (show obind (posOf t (keys l)) (fun k => some (Nat.succ k)) = some 0 from hp)
        cases h
  | succ k ih =>
    intro g h t l hp
    obtain ⟨g', h1, h2⟩ := bbind_mk.1 (show bbind (jNth k) (fun g => .mk fun l : Loc' => List.rec none (fun _ t _ => g t) l) = .mk g from h)
    have h2 := mk_inj h2; subst h2
    cases l with
    | nil => cases hp
    | cons p l =>
      have hp : sel (Nat.beq p.1 t) (some 0) (obind (posOf t (keys l)) fun k => some (Nat.succ k)) = some (k + 1) := hp
      show g' l = sel (Nat.beq p.1 t) (some p.2) (findLoc t l)
      cases hb : Nat.beq p.1 t with
      | true => rw [hb] at hp; cases hp
      | false =>
        rw [hb] at hp
        obtain ⟨k', h3, h⟩ := obind_some.1 (show obind (posOf t (keys l)) (fun k => some (Nat.succ k)) = some (k + 1) from hp)
        have h : k' + 1 = k + 1 := Option.some.inj h
        have : k' = k := by omega
        subst this
        exact ih g' h1 t l h3

theorem posOf_none (t : Nat) : ∀ (l : Loc'), posOf t (keys l) = none → findLoc t l = none := by
  intro l
  induction l with
  | nil => intro _; rfl
  | cons p l ih =>
    intro hp
    have hp : sel (Nat.beq p.1 t) (some 0) (obind (posOf t (keys l)) fun k => some (Nat.succ k)) = none := hp
    show sel (Nat.beq p.1 t) (some p.2) (findLoc t l) = none
    cases hb : Nat.beq p.1 t with
    | true => rw [hb] at hp; cases hp
    | false =>
      rw [hb] at hp
      cases hq : posOf t (keys l) with
      | none => exact ih hq
      | some k => rw [hq] at hp; cases hp

abbrev F (vars : Tr Value) (loc : Loc') (ds : Dfs) : Fr := { vars := vars, loc := loc, defers := ds }

theorem jGet_ok {n : Nat} {ks : List Nat} {x : Operand} {g : JG} (h : jGet n ks x = .mk g) (vars : Tr Value) (loc : Loc') (ds : Dfs) (hk : keys loc = ks) : g vars loc = Fr.ev n (F vars loc ds) x := by
  subst hk
  cases x with
  | tmp t =>
    have h : sel (ltN t n) (bbind (jGetP (path t)) fun g => .mk fun vars _ => g vars) (Option.casesOn (posOf t (keys loc)) (.mk fun _ _ => none) fun k => bbind (jNth k) fun g => .mk fun _ loc => g loc) = .mk g := h
    show _ = sel (ltN t n) (vars.get t) (findLoc t loc)
    cases hb : ltN t n with
    | true =>
      rw [hb] at h
      obtain ⟨g', h1, h2⟩ := bbind_mk.1 (show bbind (jGetP (path t)) (fun g => .mk fun (vars : Tr Value) (_ : Loc') => g vars) = .mk g from h)
      have h2 := mk_inj h2; subst h2
      exact jGetP_ok _ g' h1 vars
    | false =>
      rw [hb] at h
      cases hp : posOf t (keys loc) with
      | none =>
        rw [hp] at h
        have h := mk_inj h; subst h
        exact (posOf_none t loc hp).symm
      | some k =>
        rw [hp] at h
        obtain ⟨g', h1, h2⟩ := bbind_mk.1 (show bbind (jNth k) (fun g => .mk fun (_ : Tr Value) (loc : Loc') => g loc) = .mk g from h)
        have h2 := mk_inj h2; subst h2
        exact jNth_ok k g' h1 t loc hp
  | const v => have h := mk_inj h; subst h; rfl
  | global v => have h := mk_inj h; subst h; rfl
  | func v => have h := mk_inj h; subst h; rfl

theorem jGets_ok {n : Nat} {ks : List Nat} : ∀ {l : List Operand} {g : Tr Value → Loc' → Option (List Value)}, jGets n ks l = .mk g → ∀ (vars : Tr Value) (loc : Loc') (ds : Dfs), keys loc = ks → g vars loc = evs (Fr.ev n (F vars loc ds)) l := by
  intro l
  induction l with
  | nil => intro g h vars loc ds hk; have h := mk_inj h; subst h; rfl
  | cons x l ih =>
    intro g h vars loc ds hk
    obtain ⟨g1, h1, h⟩ := bbind_mk.1 (show bbind (jGet n ks x) (fun g => bbind (jGets n ks l) fun r => .mk fun vars loc => obind (g vars loc) fun v => obind (r vars loc) fun vs => some (v :: vs)) = .mk g from h)
    obtain ⟨g2, h2, h⟩ := bbind_mk.1 h
    have h := mk_inj h; subst h
    show obind (g1 vars loc) _ = obind (Fr.ev n (F vars loc ds) x) fun v => obind (evs (Fr.ev n (F vars loc ds)) l) fun r => some (v :: r)
    rw [jGet_ok h1 vars loc ds hk, ih h2 vars loc ds hk]

theorem jPut_ok {n : Nat} {dst : Option Tmp} {put : JP} (h : jPut n dst = .mk put) (r : JK) (e : JE) (v : Value) (vars : Tr Value) (loc : Loc') (ds : Dfs) (s : St) :
    put r e v vars loc ds s = r e (Fr.put n (F vars loc ds) dst v).vars (Fr.put n (F vars loc ds) dst v).loc ds s := by
  cases dst with
  | none => have h := mk_inj h; subst h; rfl
  | some d =>
    have h : sel (ltN d n) (bbind (jSetP (path d)) fun g => .mk fun r e v vars loc ds s => r e (g v vars) loc ds s) (.mk fun r e v vars loc ds s => r e vars ((d, v) :: loc) ds s) = .mk put := h
    show _ = r e (sel (ltN d n) (F (vars.set d v) loc ds) (F vars ((d, v) :: loc) ds)).vars (sel (ltN d n) (F (vars.set d v) loc ds) (F vars ((d, v) :: loc) ds)).loc ds s
    cases hb : ltN d n with
    | true =>
      rw [hb] at h
      obtain ⟨g', h1, h2⟩ := bbind_mk.1 (show bbind (jSetP (path d)) (fun g => .mk fun r e v vars loc ds s => r e (g v vars) loc ds s) = .mk put from h)
      have h2 := mk_inj h2; subst h2
      show r e (g' v vars) loc ds s = _
      rw [jSetP_ok _ g' h1]; rfl
    | false =>
      rw [hb] at h
      have h := mk_inj h; subst h; rfl

theorem put_defers (n : Nat) (vars : Tr Value) (loc : Loc') (ds : Dfs) (dst : Option Tmp) (v : Value) : (Fr.put n (F vars loc ds) dst v).defers = ds := by
  cases dst with
  | none => rfl
  | some d =>
    show (sel (ltN d n) (F (vars.set d v) loc ds) (F vars ((d, v) :: loc) ds)).defers = ds
    cases ltN d n <;> rfl

theorem put_keys (n : Nat) (vars : Tr Value) (loc : Loc') (ds : Dfs) (dst : Option Tmp) (v : Value) : keys (Fr.put n (F vars loc ds) dst v).loc = jPush n dst (keys loc) := by
  cases dst with
  | none => rfl
  | some d =>
    show keys (sel (ltN d n) (F (vars.set d v) loc ds) (F vars ((d, v) :: loc) ds)).loc = sel (ltN d n) (keys loc) (d :: keys loc)
    cases ltN d n <;> rfl

theorem forceN_eq {β : Type} (n : Nat) (k : Nat → β) : forceN n k = k n := by cases n <;> rfl
theorem forceI_eq {β : Type} (z : Int) (k : Int → β) : forceI z k = k z := by
  cases z with
  | ofNat n => show forceN n (fun n => k (Int.ofNat n)) = _; rw [forceN_eq]
  | negSucc n => show forceN n (fun n => k (Int.negSucc n)) = _; rw [forceN_eq]
end Go.Ax

namespace Go.Ax
open Go

/-- what an operation without effect comes to: as the interpreter has it -/
noncomputable def asVal (x : Option Value) (s : St) : Option Res := obind x fun v => ret v s

theorem asVal_obind {α : Type} (x : Option α) (k : α → Option Value) (s : St) : asVal (obind x k) s = obind x fun a => asVal (k a) s := by cases x <;> rfl
theorem asVal_guard (b : Bool) (k : Option Value) (s : St) : asVal (guard b k) s = guard b (asVal k s) := by cases b <;> rfl
theorem asVal_sel (b : Bool) (x y : Option Value) (s : St) : asVal (sel b x y) s = sel b (asVal x s) (asVal y s) := by cases b <;> rfl
theorem asVal_some (v : Value) (s : St) : asVal (some v) s = ret v s := rfl
theorem asVal_none (s : St) : asVal none s = none := rfl
theorem obind_assoc {α β γ : Type} (x : Option α) (k : α → Option β) (l : β → Option γ) : obind (obind x k) l = obind x fun a => obind (k a) l := by cases x <;> rfl
theorem guard_obind {α β : Type} (b : Bool) (x : Option α) (k : α → Option β) : obind (guard b x) k = guard b (obind x k) := by cases b <;> rfl
theorem obind_congr {α β : Type} (x : Option α) {k l : α → Option β} (h : ∀ a, k a = l a) : obind x k = obind x l := by cases x with
  | none => rfl
  | some a => exact h a

theorem forceV_eq (v : Option Value) : forceV v = v := by
  cases v with
  | none => rfl
  | some v =>
    cases v <;> first | rfl | skip
    rename_i k z
    exact forceI_eq z fun z => some (Value.int k z)

theorem intOp_eq (op : BinOp) (f : IntKind → Int → Int → Option Value) (h : jInt op = .mk f) (k : IntKind) (a b : Int) : f k a b = intOp op k a b := by
  cases op <;> first
    | exact (bad_mk h).elim
    | (have h := mk_inj h; subst h; first | rfl | exact forceI_eq _ _ | exact forceV_eq _)

theorem jInt_shift {op : BinOp} {f : IntKind → Int → Int → Option Value} (h : jInt op = .mk f) : op ≠ .shl ∧ op ≠ .shr := by
  constructor <;> (intro e; subst e; exact bad_mk h)

theorem binOp_int (C : Cfg) {op : BinOp} (h : op ≠ .shl ∧ op ≠ .shr) (t : TypeId) (k k' : IntKind) (i j : Int) : binOp C t op (.int k i) (.int k' j) = guard (kindEq k k') (intOp op k i j) := by
  cases op <;> first | rfl | exact absurd rfl h.1 | exact absurd rfl h.2

theorem jBin_ok {C : Cfg} {op : BinOp} {t : TypeId} {x y : Operand} {f : Value → Value → Option Value} (h : jBin C op t x y = .mk f) (a b : Value) : f a b = binGen C op t x y a b := by
  have h : Box.rec (motive := fun _ => Box (Value → Value → Option Value)) (fun f => .mk (jBin2 C op t x y f)) (.mk (binGen C op t x y)) (jInt op) = .mk f := h
  cases hj : jInt op with
  | bad => rw [hj] at h; have h := mk_inj h; subst h; rfl
  | mk g =>
    rw [hj] at h; have h := mk_inj h; subst h
    cases a <;> try rfl
    cases b <;> try rfl
    rename_i k i k' j
    show guard (kindEq k k') (g k i j) = guard (nilsOk C t x y (.int k i) (.int k' j)) (binOp C t op (.int k i) (.int k' j))
    rw [binOp_int C (jInt_shift hj), intOp_eq op g hj]; rfl

theorem jLoad_ok {P : Program} {t : TypeId} {f : List Value → Nat → Option Value} (h : jLoad P t = .mk f) (cs : List Value) (o : Nat) : f cs o = loadCs P t o cs := by
  have h : Option.casesOn (isAgg P t) .bad (fun g => sel g (Option.casesOn (size P t) .bad fun n => .mk fun cs o => obind (takeN n (dropL o cs)) fun l => some (mkAgg l)) (.mk fun cs o => nth cs o)) = Box.mk f := h
  show _ = obind (isAgg P t) fun g => sel g (obind (size P t) fun n => obind (takeN n (dropL o cs)) fun l => some (mkAgg l)) (nth cs o)
  cases hg : isAgg P t with
  | none => rw [hg] at h; cases h
  | some g =>
    rw [hg] at h
    cases g with
    | false => have h := mk_inj h; subst h; rfl
    | true =>
      have h : Option.casesOn (size P t) .bad (fun n => .mk fun cs o => obind (takeN n (dropL o cs)) fun l => some (mkAgg l)) = Box.mk f := h
      cases hs : size P t with
      | none => rw [hs] at h; cases h
      | some n => rw [hs] at h; have h := mk_inj h; subst h; rfl

theorem jVal_ok {C : Cfg} {n : Nat} {ks : List Nat} {o : Op} {v : JV} (h : jVal C n ks o = .mk v) (vars : Tr Value) (loc : Loc') (ds : Dfs) (s : St) (hk : keys loc = ks) :
    asVal (v vars loc s) s = execOp C (Fr.ev n (F vars loc ds)) s o := by
  cases o <;> try exact (bad_mk h).elim
  case move x =>
    obtain ⟨g, h1, h⟩ := bbind_mk.1 h
    have h := mk_inj h; subst h
    show asVal (g vars loc) s = obind (Fr.ev n (F vars loc ds) x) fun v => ret v s
    rw [jGet_ok h1 vars loc ds hk]; rfl
  case assign x =>
    obtain ⟨g, h1, h⟩ := bbind_mk.1 h
    have h := mk_inj h; subst h
    show asVal (g vars loc) s = obind (Fr.ev n (F vars loc ds) x) fun v => ret v s
    rw [jGet_ok h1 vars loc ds hk]; rfl
  case pick c a b =>
    obtain ⟨g, h1, h⟩ := bbind_mk.1 h
    obtain ⟨ga, h2, h⟩ := bbind_mk.1 h
    obtain ⟨gb, h3, h⟩ := bbind_mk.1 h
    have h := mk_inj h; subst h
    show asVal (obind (g vars loc) fun v => boolK v (ga vars loc) (gb vars loc)) s = _
    rw [jGet_ok h1 vars loc ds hk, jGet_ok h2 vars loc ds hk, jGet_ok h3 vars loc ds hk, asVal_obind]
    apply obind_congr
    intro v
    cases v <;> try rfl
    rename_i b
    cases b <;> rfl
  case load t a =>
    obtain ⟨g, h1, h⟩ := bbind_mk.1 h
    obtain ⟨f, h2, h⟩ := bbind_mk.1 h
    have h := mk_inj h; subst h
    show asVal (obind (g vars loc) fun v => ptrK v fun a => obind (s.cells a.block) fun c => f c.1 a.off) s = _
    rw [jGet_ok h1 vars loc ds hk, asVal_obind]
    apply obind_congr
    intro v
    cases v <;> try rfl
    rename_i p
    cases p with
    | none => rfl
    | some p =>
      show asVal (obind (s.cells p.block) fun c => f c.1 p.off) s = obind (obind (s.cells p.block) fun c => loadCs C.P t p.off c.1) fun v => ret v s
      rw [asVal_obind, obind_assoc]
      apply obind_congr
      intro c
      rw [jLoad_ok h2]; rfl
  case nilCheck x =>
    obtain ⟨g, h1, h⟩ := bbind_mk.1 h
    have h := mk_inj h; subst h
    show asVal (obind (g vars loc) fun v => nilK C v) s = _
    rw [jGet_ok h1 vars loc ds hk, asVal_obind]
    apply obind_congr
    intro v
    cases v <;> try rfl
    · rename_i p; cases p <;> rfl
    · exact asVal_guard _ _ _
  case binOp op t x y m =>
    obtain ⟨gx, h1, h⟩ := bbind_mk.1 h
    obtain ⟨gy, h2, h⟩ := bbind_mk.1 h
    obtain ⟨f, h3, h⟩ := bbind_mk.1 h
    have h := mk_inj h; subst h
    show asVal (obind (gx vars loc) fun a => obind (gy vars loc) fun b => f a b) s = obind (Fr.ev n (F vars loc ds) x) fun a => obind (Fr.ev n (F vars loc ds) y) fun b => guard (nilsOk C t x y a b) (obind (binOp C t op a b) fun v => ret v s)
    rw [jGet_ok h1 vars loc ds hk, jGet_ok h2 vars loc ds hk, asVal_obind]
    apply obind_congr; intro a
    rw [asVal_obind]
    apply obind_congr; intro b
    rw [jBin_ok h3]
    exact asVal_guard _ _ _
  case unOp op m x =>
    obtain ⟨g, h1, h⟩ := bbind_mk.1 h
    have h := mk_inj h; subst h
    show asVal (obind (g vars loc) fun v => unOp op v) s = _
    rw [jGet_ok h1 vars loc ds hk, asVal_obind]; rfl
  case makeInterface t x =>
    have h : sel (!isIface C.P t && (C.P.underlying t).isSome) (bbind (jGet n ks x) fun g => .mk fun vars loc _ => obind (g vars loc) fun v => some (.iface t v)) .bad = Box.mk v := h
    show _ = guard (!isIface C.P t && (C.P.underlying t).isSome) (obind (Fr.ev n (F vars loc ds) x) fun x => ret (.iface t x) s)
    cases hb : (!isIface C.P t && (C.P.underlying t).isSome) with
    | false => rw [hb] at h; cases h
    | true =>
      rw [hb] at h
      obtain ⟨g, h1, h⟩ := bbind_mk.1 h
      have h := mk_inj h; subst h
      show asVal (obind (g vars loc) fun v => some (.iface t v)) s = _
      rw [jGet_ok h1 vars loc ds hk, asVal_obind]; rfl
  case makeFunc fn a b =>
    have h : sel (noYield fn) (bbind (jGets n ks a.toList) fun ga => bbind (jGets n ks b.toList) fun gb => .mk fun vars loc _ => obind (ga vars loc) fun a => obind (gb vars loc) fun b => some (.func fn ⟨a⟩ ⟨b⟩)) .bad = Box.mk v := h
    show _ = guard (noYield fn) (obind (evs (Fr.ev n (F vars loc ds)) a.toList) fun a => obind (evs (Fr.ev n (F vars loc ds)) b.toList) fun b => ret (.func fn ⟨a⟩ ⟨b⟩) s)
    cases hb : noYield fn with
    | false => rw [hb] at h; cases h
    | true =>
      rw [hb] at h
      obtain ⟨ga, h1, h⟩ := bbind_mk.1 h
      obtain ⟨gb, h2, h⟩ := bbind_mk.1 h
      have h := mk_inj h; subst h
      show asVal (obind (ga vars loc) fun a => obind (gb vars loc) fun b => some (.func fn ⟨a⟩ ⟨b⟩)) s = _
      rw [jGets_ok h1 vars loc ds hk, jGets_ok h2 vars loc ds hk, asVal_obind]
      apply obind_congr; intro a
      rw [asVal_obind]; rfl
  case fieldAddr t x i =>
    obtain ⟨g, h1, h⟩ := bbind_mk.1 h
    cases hf : fieldInfo C.P t i with
    | none => rw [hf] at h; cases h
    | some fd =>
      rw [hf] at h
      cases hz : size C.P fd.type with
      | none =>
        have h : (Option.casesOn (obind (size C.P fd.type) fun m => guard (!Nat.beq m 0) (some fd.offset)) Box.bad fun off =>
            .mk fun vars loc _ => obind (g vars loc) fun v => ptrK v fun a => forceN (Nat.add a.off off) fun o => some (ptr a.block o) : Box JV) = .mk v := h
        rw [hz] at h
        cases h
      | some m =>
        have h : (Option.casesOn (obind (size C.P fd.type) fun m => guard (!Nat.beq m 0) (some fd.offset)) Box.bad fun off =>
            .mk fun vars loc _ => obind (g vars loc) fun v => ptrK v fun a => forceN (Nat.add a.off off) fun o => some (ptr a.block o) : Box JV) = .mk v := h
        rw [hz] at h
        show _ = obind (Fr.ev n (F vars loc ds) x) fun v => match v with
          | .pointer (some a) => obind (fieldInfo C.P t i) fun f => obind (size C.P f.type) fun n => guard (!Nat.beq n 0) (ret (ptr a.block (Nat.add a.off f.offset)) s)
          | _ => none
        have h : (Option.casesOn (guard (!Nat.beq m 0) (some fd.offset)) Box.bad fun off =>
            .mk fun vars loc _ => obind (g vars loc) fun v => ptrK v fun a => forceN (Nat.add a.off off) fun o => some (ptr a.block o) : Box JV) = .mk v := h
        cases hb : (!Nat.beq m 0) with
        | false => rw [hb] at h; cases h
        | true =>
          rw [hb] at h
          have h := mk_inj h; subst h
          show asVal (obind (g vars loc) fun v => ptrK v fun a => forceN (Nat.add a.off fd.offset) fun o => some (ptr a.block o)) s = _
          rw [jGet_ok h1 vars loc ds hk, asVal_obind]
          apply obind_congr; intro v
          cases v <;> try rfl
          rename_i p
          cases p with
          | none => rfl
          | some p =>
            show asVal (forceN (Nat.add p.off fd.offset) fun o => some (ptr p.block o)) s = obind (fieldInfo C.P t i) fun f => obind (size C.P f.type) fun n => guard (!Nat.beq n 0) (ret (ptr p.block (Nat.add p.off f.offset)) s)
            rw [forceN_eq, hf]
            show _ = obind (size C.P fd.type) fun n => guard (!Nat.beq n 0) (ret (ptr p.block (Nat.add p.off fd.offset)) s)
            rw [hz]
            show _ = guard (!Nat.beq m 0) (ret (ptr p.block (Nat.add p.off fd.offset)) s)
            rw [hb]; rfl
  case indexAddr t x i =>
    obtain ⟨gx, h1, h⟩ := bbind_mk.1 h
    obtain ⟨gi, h2, h⟩ := bbind_mk.1 h
    cases hu : C.P.underlying t with
    | none => rw [hu] at h; cases h
    | some d =>
      rw [hu] at h
      cases d <;> try exact (bad_mk h).elim
      rename_i e
      have h : (Option.casesOn (size C.P e) Box.bad fun m => .mk fun vars loc _ =>
        obind (gx vars loc) fun x => obind (gi vars loc) fun i => obind (asNat i) fun i => sliceK x fun a len => guard (ltN i len) (forceN (Nat.add a.off (Nat.mul i m)) fun o => some (ptr a.block o)) : Box JV) = .mk v := h
      cases hz : size C.P e with
      | none => rw [hz] at h; cases h
      | some m =>
        rw [hz] at h
        have h := mk_inj h; subst h
        show asVal (obind (gx vars loc) fun x => obind (gi vars loc) fun i => obind (asNat i) fun i => sliceK x fun a len => guard (ltN i len) (forceN (Nat.add a.off (Nat.mul i m)) fun o => some (ptr a.block o))) s = oIndexAddr C (Fr.ev n (F vars loc ds)) s t x i
        unfold oIndexAddr
        rw [hu, jGet_ok h1 vars loc ds hk, jGet_ok h2 vars loc ds hk, asVal_obind]
        apply obind_congr; intro x
        rw [asVal_obind]
        apply obind_congr; intro y
        rw [asVal_obind]
        apply obind_congr; intro j
        cases x <;> try rfl
        rename_i p len cap
        cases p with
        | none => rfl
        | some p =>
          show asVal (guard (ltN j len) (forceN (Nat.add p.off (Nat.mul j m)) fun o => some (ptr p.block o))) s = guard (ltN j len) (obind (size C.P e) fun n => ret (ptr p.block (Nat.add p.off (Nat.mul j n))) s)
          rw [hz, forceN_eq, asVal_guard]; rfl
  case extract x i =>
    obtain ⟨g, h1, h⟩ := bbind_mk.1 h
    have h := mk_inj h; subst h
    show asVal (obind (g vars loc) fun v => tupK v fun vs => nth vs i) s = _
    rw [jGet_ok h1 vars loc ds hk, asVal_obind]
    apply obind_congr; intro v
    cases v <;> try rfl
end Go.Ax

namespace Go.Ax
open Go

theorem ev_defers (n : Nat) (vars : Tr Value) (loc : Loc') (ds ds' : Dfs) : Fr.ev n (F vars loc ds) = Fr.ev n (F vars loc ds') := rfl

theorem fr_eta (fr : Fr) {ds : Dfs} (h : fr.defers = ds) : F fr.vars fr.loc ds = fr := by subst h; rfl

/-- what follows is rightly made -/
def NextOk (n : Nat) (dst : Option Tmp) (ks : List Nat) (r : JK) (K : JE → OpsK) : Prop :=
  ∀ e vars loc ds s, keys loc = jPush n dst ks → r e vars loc ds s = K e (F vars loc ds) s

theorem put_next {n : Nat} {dst : Option Tmp} {ks : List Nat} {put : JP} (hp : jPut n dst = .mk put) {r : JK} {K : JE → OpsK} (hr : NextOk n dst ks r K) (e : JE) (v : Value) (vars : Tr Value) (loc : Loc') (ds : Dfs) (s : St) (hk : keys loc = ks) :
    put r e v vars loc ds s = K e (Fr.put n (F vars loc ds) dst v) s := by
  rw [jPut_ok hp, hr e _ _ ds s (by rw [put_keys, hk])]
  rw [show F (Fr.put n (F vars loc ds) dst v).vars (Fr.put n (F vars loc ds) dst v).loc ds = Fr.put n (F vars loc ds) dst v from fr_eta _ (put_defers n vars loc ds dst v)]

theorem jGen_ok {C : Cfg} {rd : Bool} {n : Nat} {ks : List Nat} {o : Oper} {r : JK} {K : JE → OpsK} (hr : NextOk n o.dst ks r K) (e : JE) (vars : Tr Value) (loc : Loc') (ds : Dfs) (s : St) (hk : keys loc = ks) :
    jGen C rd n o r e vars loc ds s = obind (execOp C (Fr.ev n (F vars loc ds)) s o.op) (afterOp e.call e.yield rd n (F vars loc ds) o.dst (K e)) := by
  apply obind_congr
  intro q
  have hg : ∀ ds' v s', (fun (fr : Fr) s => r e fr.vars fr.loc fr.defers s) (Fr.put n (F vars loc ds') o.dst v) s' = K e (Fr.put n (F vars loc ds') o.dst v) s' := by
    intro ds' v s'
    have h := hr e (Fr.put n (F vars loc ds') o.dst v).vars (Fr.put n (F vars loc ds') o.dst v).loc (Fr.put n (F vars loc ds') o.dst v).defers s' (by rw [put_keys, hk])
    exact h
  cases q with
  | val v s => exact hg ds v s
  | call f args s => exact obind_congr _ fun q => hg ds q.1 q.2
  | yield l args s => exact obind_congr _ fun q => hg ds q.1 q.2
  | defer f args s =>
    show sel rd none _ = sel rd none _
    cases rd with
    | true => rfl
    | false => exact hg _ unit s

theorem appL_nil {α : Type} (l : List α) : appL l [] = l := by rw [appL_eq, List.append_nil]

theorem jOp_ok {C : Cfg} {rd : Bool} {n : Nat} {ks : List Nat} {o : Oper} {put : JP} (hp : jPut n o.dst = .mk put) {r : JK} {K : JE → OpsK} (hr : NextOk n o.dst ks r K) {f : JK} (h : jOp C rd n ks o put r = .mk f)
    (e : JE) (vars : Tr Value) (loc : Loc') (ds : Dfs) (s : St) (hk : keys loc = ks) :
    f e vars loc ds s = obind (execOp C (Fr.ev n (F vars loc ds)) s o.op) (afterOp e.call e.yield rd n (F vars loc ds) o.dst (K e)) := by
  have gen : Box.mk (jGen C rd n o r) = .mk f → f e vars loc ds s = obind (execOp C (Fr.ev n (F vars loc ds)) s o.op) (afterOp e.call e.yield rd n (F vars loc ds) o.dst (K e)) := by
    intro h; have h := mk_inj h; subst h; exact jGen_ok hr e vars loc ds s hk
  have val : Box.rec (motive := fun _ => Box JK) (fun v => .mk fun e vars loc ds s => obind (v vars loc s) fun x => put r e x vars loc ds s) (.mk (jGen C rd n o r)) (jVal C n ks o.op) = .mk f → f e vars loc ds s = obind (execOp C (Fr.ev n (F vars loc ds)) s o.op) (afterOp e.call e.yield rd n (F vars loc ds) o.dst (K e)) := by
    intro h
    cases hv : jVal C n ks o.op with
    | bad => rw [hv] at h; exact gen h
    | mk v =>
      rw [hv] at h
      have h := mk_inj h; subst h
      rw [← jVal_ok hv vars loc ds s hk]
      show (obind (v vars loc s) fun x => put r e x vars loc ds s) = obind (obind (v vars loc s) fun v => ret v s) _
      rw [obind_assoc]
      apply obind_congr; intro x
      exact put_next hp hr e x vars loc ds s hk
  unfold jOp at h
  cases ho : o.op <;> rw [ho] at h <;> rw [← ho] <;> try exact val (by rw [ho]; exact h)
  all_goals dsimp only at h
  case alloc t =>
    cases hz : zero C.P t with
    | none => rw [hz] at h; exact gen h
    | some z =>
      rw [hz] at h
      have h := mk_inj h; subst h
      rw [ho]
      show (forceN s.next fun b => put r e (ptr b 0) vars loc ds { heap := s.heap.set b (.row z t 0), fams := s.fams, next := Nat.succ b }) = obind (obind (zero C.P t) fun z => s.new (.row z t 0) fun id s => ret (ptr id 0) s) _
      rw [hz, forceN_eq]
      exact put_next hp hr e _ vars loc ds _ hk
  case box t x =>
    obtain ⟨g, h1, h⟩ := bbind_mk.1 h
    have h := mk_inj h; subst h
    rw [ho]
    show (obind (g vars loc) fun v => forceN s.next fun b => put r e (ptr b 0) vars loc ds { heap := s.heap.set b (.row (cellsOf v) t 0), fams := s.fams, next := Nat.succ b }) = obind (obind (Fr.ev n (F vars loc ds) x) fun v => s.new (.row (cellsOf v) t 0) fun id s => ret (ptr id 0) s) _
    rw [jGet_ok h1 vars loc ds hk, obind_assoc]
    apply obind_congr; intro v
    rw [forceN_eq]
    exact put_next hp hr e _ vars loc ds _ hk
  case store t a x =>
    obtain ⟨ga, h1, h⟩ := bbind_mk.1 h
    obtain ⟨gx, h2, h⟩ := bbind_mk.1 h
    cases hz : size C.P t with
    | none => rw [hz] at h; exact gen h
    | some m =>
      rw [hz] at h
      have h := mk_inj h; subst h
      rw [ho]
      show (obind (ga vars loc) fun v => ptrK v fun a => obind (gx vars loc) fun v => guard (Nat.beq (lenL (cellsOf v)) m) (obind (storeCells s a.block a.off (cellsOf v)) fun s => put r e unit vars loc ds s)) = obind (oStore C (Fr.ev n (F vars loc ds)) s t a x) _
      show _ = obind (obind (Fr.ev n (F vars loc ds) a) fun v => _) _
      rw [jGet_ok h1 vars loc ds hk, jGet_ok h2 vars loc ds hk, obind_assoc]
      apply obind_congr; intro v
      cases v <;> try rfl
      rename_i p
      cases p with
      | none => rfl
      | some p =>
        show (obind (Fr.ev n (F vars loc ds) x) fun v => guard (Nat.beq (lenL (cellsOf v)) m) (obind (storeCells s p.block p.off (cellsOf v)) fun s => put r e unit vars loc ds s)) = obind (obind (Fr.ev n (F vars loc ds) x) fun v => obind (obind (size C.P t) fun n => guard (Nat.beq (lenL (cellsOf v)) n) (storeCells s p.block p.off (cellsOf v))) fun s => ret unit s) _
        rw [obind_assoc]
        apply obind_congr; intro v
        rw [obind_assoc, hz]
        show _ = obind (guard _ _) _
        rw [guard_obind]
        cases Nat.beq (lenL (cellsOf v)) m with
        | false => rfl
        | true =>
          apply obind_congr; intro s'
          exact put_next hp hr e unit vars loc ds s' hk
  case call c =>
    cases hc : c.callee with
    | builtin b => simp only [hc] at h; exact gen h
    | invoke a b => simp only [hc] at h; exact gen h
    | value x =>
      simp only [hc] at h
      cases x with
      | tmp t => exact gen h
      | const t => exact gen h
      | global t => exact gen h
      | func g =>
        have h : Option.casesOn (C.ext g) (sel (C.body g).isSome (bbind (jGets n ks c.args.toList) fun gs => .mk fun e vars loc ds s => obind (gs vars loc) fun args => obind (e.call g args s) fun q => put r e q.1 vars loc ds q.2) (.mk (jGen C rd n o r))) (fun _ => .mk (jGen C rd n o r)) = Box.mk f := h
        cases he : C.ext g with
        | some x => rw [he] at h; exact gen h
        | none =>
          rw [he] at h
          have h : sel (C.body g).isSome (bbind (jGets n ks c.args.toList) fun gs => .mk fun e vars loc ds s => obind (gs vars loc) fun args => obind (e.call g args s) fun q => put r e q.1 vars loc ds q.2) (.mk (jGen C rd n o r)) = Box.mk f := h
          cases hb : (C.body g).isSome with
          | false => rw [hb] at h; exact gen h
          | true =>
            rw [hb] at h
            obtain ⟨gs, h1, h⟩ := bbind_mk.1 h
            have h := mk_inj h; subst h
            rw [ho]
            show (obind (gs vars loc) fun args => obind (e.call g args s) fun q => put r e q.1 vars loc ds q.2) = obind (oCall C (Fr.ev n (F vars loc ds)) s c) _
            unfold oCall
            rw [hc, jGets_ok h1 vars loc ds hk, obind_assoc]
            apply obind_congr; intro args
            show _ = obind (callAny C s g (appL [] (appL args []))) _
            rw [appL_nil]
            show _ = obind (Option.casesOn (C.ext g) (guard (C.body g).isSome (some (.call g args s))) fun e => obind (callExt C s e args) toRes) _
            rw [he, hb]
            show _ = obind (e.call g args s) fun q => K e (Fr.put n (F vars loc ds) o.dst q.1) q.2
            apply obind_congr; intro q
            exact put_next hp hr e q.1 vars loc ds q.2 hk

theorem jGuard_ok {n : Nat} {all : List Oper} {ks : List Nat} {dst : Option Tmp} {g : Option (Nat × Bool)} {put : JP} (hp : jPut n dst = .mk put) {f r : JK} {K : JE → OpsK} (hr : NextOk n dst ks r K)
    (e : JE) (vars : Tr Value) (loc : Loc') (ds : Dfs) (s : St) (hk : keys loc = ks) :
    jGuard n all g put f r e vars loc ds s = obind (guardOk n all (F vars loc ds) g) fun b => sel b (f e vars loc ds s) (K e (Fr.put n (F vars loc ds) dst unit) s) := by
  cases g with
  | none => rfl
  | some g =>
    apply obind_congr; intro b
    rw [put_next hp hr e unit vars loc ds s hk]

theorem jOne_ok {C : Cfg} {rd : Bool} {n : Nat} {all : List Oper} {ks : List Nat} {o : Oper} {r : JK} {K : JE → OpsK} (hr : NextOk n o.dst ks r K) {f : JK} (h : jOne C rd n all ks o r = .mk f)
    (e : JE) (vars : Tr Value) (loc : Loc') (ds : Dfs) (s : St) (hk : keys loc = ks) :
    f e vars loc ds s = oneOp C e.call e.yield rd n all o (K e) (F vars loc ds) s := by
  obtain ⟨put, hp, h⟩ := bbind_mk.1 h
  obtain ⟨f', h1, h⟩ := bbind_mk.1 h
  have h := mk_inj h; subst h
  rw [jGuard_ok hp hr e vars loc ds s hk]
  apply obind_congr; intro b
  rw [jOp_ok hp hr h1 e vars loc ds s hk]

theorem jOps_ok {C : Cfg} {rd : Bool} {n : Nat} {all : List Oper} : ∀ {ops : List Oper} {ks : List Nat} {f : JK}, jOps C rd n all ops ks = .mk f →
    ∀ e vars loc ds s, keys loc = ks → f e vars loc ds s = execOps C e.call e.yield rd n all ops (F vars loc ds) s := by
  intro ops
  induction ops with
  | nil => intro ks f h e vars loc ds s hk; have h := mk_inj h; subst h; rfl
  | cons o ops ih =>
    intro ks f h e vars loc ds s hk
    obtain ⟨r, h1, h⟩ := bbind_mk.1 (show bbind (jOps C rd n all ops (jPush n o.dst ks)) (fun r => jOne C rd n all ks o r) = .mk f from h)
    exact jOne_ok (K := fun e => execOps C e.call e.yield rd n all ops) (fun e vars loc ds s hk => ih h1 e vars loc ds s hk) h e vars loc ds s hk

/-! regions whose order is drawn -/
abbrev pureK {β : Type} (k : Value → Option β) (r : Res) : Option β :=
  match r with
  | .val v _ => k v
  | _ => none

theorem jVal_or {C : Cfg} {n : Nat} {ks : List Nat} {o : Op} {v : JV} (h : bor (jVal C n ks o) (.mk (jValGen C n o)) = .mk v) (vars : Tr Value) (loc : Loc') (ds : Dfs) (s : St) (hk : keys loc = ks) {β : Type} (k : Value → Option β) :
    obind (v vars loc s) k = obind (execOp C (Fr.ev n (F vars loc ds)) s o) (pureK k) := by
  cases hv : jVal C n ks o with
  | mk w =>
    rw [hv] at h
    have h := mk_inj h; subst h
    rw [← jVal_ok hv vars loc ds s hk]
    cases w vars loc s <;> rfl
  | bad =>
    rw [hv] at h
    have h := mk_inj h; subst h
    show obind (obind (execOp C (Fr.ev n (F vars loc ds)) s o) _) k = _
    rw [obind_assoc]
    apply obind_congr; intro r
    cases r <;> rfl

abbrev DK := JE → List Pend → Fr → St → Option (Fr × St)
def NextD (n : Nat) (dst : Option Tmp) (ks : List Nat) (r : JK) (K : JE → DrawK) : Prop :=
  ∀ e vars loc ds s, keys loc = jPush n dst ks → r e vars loc ds s = K e e.pend (F vars loc ds) s

/-- what follows asks for nothing but the calls, the base and what is pending -/
def Same (K : JE → DrawK) : Prop := ∀ e l, K (withPend e l) = K e

theorem jDraw1_ok {C : Cfg} {rd : Bool} {n : Nat} {ks : List Nat} {a : Info} {rest : List Info} {all : List Oper} {put : JP} (hp : jPut n a.op.dst = .mk put) {r : JK} {K : JE → DrawK} (hs : Same K) (hr : NextD n a.op.dst ks r K) {f : JK} (h : jDraw1 C rd n ks a rest put r = .mk f)
    (e : JE) (vars : Tr Value) (loc : Loc') (ds : Dfs) (s : St) (hk : keys loc = ks) :
    (obind (guardOk n all (F vars loc ds) a.op.guard) fun b => sel b (f e vars loc ds s) (K e e.pend (Fr.put n (F vars loc ds) a.op.dst unit) s)) = drawOne C e.call e.yield rd n all e.base a rest (K e) e.pend (F vars loc ds) s := by
  have hr' : NextOk n a.op.dst ks r (fun e => K e e.pend) := hr
  unfold jDraw1 at h
  unfold drawOne
  apply obind_congr; intro b
  cases b with
  | false => rfl
  | true =>
    show f e vars loc ds s = ncase a.cls _ _
    generalize a.cls = c at h ⊢
    match c with
    | 0 =>
      obtain ⟨v, h1, h⟩ := bbind_mk.1 h
      have h := mk_inj h; subst h
      show (obind (v vars loc s) fun x => put r e x vars loc ds s) = _
      rw [jVal_or h1 vars loc ds s hk]
      apply obind_congr; intro q
      cases q <;> try rfl
      exact put_next hp hr' e _ vars loc ds s hk
    | 1 =>
      obtain ⟨v, h1, h⟩ := bbind_mk.1 h
      have h := mk_inj h; subst h
      show (obind (v vars loc s) fun x => guard (quietV s x) (put r (withPend e ({ i := a.i, op := a.op.op, fr := { vars := vars, loc := loc, defers := ds }, v := x } :: e.pend)) x vars loc ds s)) = _
      rw [jVal_or h1 vars loc ds s hk]
      apply obind_congr; intro q
      cases q <;> try rfl
      rename_i x s'
      show guard (quietV s x) _ = guard (quietV s x) _
      rw [put_next hp hr' _ x vars loc ds s hk, hs]
      rfl
    | 2 =>
      have h := mk_inj h; subst h
      apply obind_congr; intro q
      rw [forceN_eq]
      exact put_next hp hr' e _ vars loc ds _ hk
    | k + 3 =>
      refine jOp_ok hp (K := fun e fr s => guard (lookAll C n s a.mask e.pend && freeIds s e.base rest) (K e e.pend fr s)) ?_ h e vars loc ds s hk
      intro e vars loc ds s hk
      show guard _ _ = guard _ _
      rw [hr e vars loc ds s hk]

theorem jDraw_ok {C : Cfg} {rd : Bool} {n : Nat} {all : List Oper} : ∀ {l : List Info} {ks : List Nat} {f : JK}, jDraw C rd n all l ks = .mk f →
    ∀ e vars loc ds s, keys loc = ks → f e vars loc ds s = drawL C e.call e.yield rd n all e.base l e.pend (F vars loc ds) s := by
  intro l
  induction l with
  | nil => intro ks f h e vars loc ds s hk; have h := mk_inj h; subst h; rfl
  | cons a rest ih =>
    intro ks f h e vars loc ds s hk
    obtain ⟨r, h1, h⟩ := bbind_mk.1 (show bbind (jDraw C rd n all rest (jPush n a.op.dst ks)) (fun r => jDrawOne C rd n all ks a rest r) = .mk f from h)
    obtain ⟨put, hp, h⟩ := bbind_mk.1 h
    obtain ⟨f', h2, h⟩ := bbind_mk.1 h
    have h := mk_inj h; subst h
    have hr : NextD n a.op.dst ks r (fun e => drawL C e.call e.yield rd n all e.base rest) := fun e vars loc ds s hk => ih h1 e vars loc ds s hk
    rw [jGuard_ok hp (K := fun e => drawL C e.call e.yield rd n all e.base rest e.pend) hr e vars loc ds s hk]
    exact jDraw1_ok hp (fun e l => rfl) hr h2 e vars loc ds s hk
end Go.Ax

namespace Go.Ax
open Go

theorem jRegion_ok {C : Cfg} {n : Nat} {fn : FuncId} {rd : Bool} {id : Nat} {ops : List Oper} {draw : Bool} {f : JRun} (h : jRegion C n fn rd id ops draw = .mk f) (call : CallT) (yield : YieldT) (fr : Fr) (s : St) :
    f call yield fr s = obind (sel draw (execDraw C call yield rd n ops (C.order fn id) fr.fresh s) (execOps C call yield rd n ops ops fr.fresh s)) fun r => some (.normal, r) := by
  cases draw with
  | false =>
    obtain ⟨r, h1, h⟩ := bbind_mk.1 (show bbind (jOps C rd n ops ops []) (fun r => .mk fun call yield fr s => obind (r { call := call, yield := yield, base := 0, pend := [] } fr.vars [] fr.defers s) toOut) = Box.mk f from h)
    have h := mk_inj h; subst h
    show obind (r _ fr.vars [] fr.defers s) toOut = obind (execOps C call yield rd n ops ops fr.fresh s) _
    rw [jOps_ok h1 _ _ _ _ _ rfl]; rfl
  | true =>
    have h : Option.casesOn (planOf ops (C.order fn id)) .bad (fun l => bbind (jDraw C rd n ops l []) fun r => .mk fun call yield fr s =>
      obind (r { call := call, yield := yield, base := s.next, pend := [] } fr.vars [] fr.defers { heap := s.heap, fams := s.fams, next := Nat.add s.next (lenL ops) }) toOut) = Box.mk f := h
    show _ = obind (obind (planOf ops (C.order fn id)) fun l => drawL C call yield rd n ops s.next l [] fr.fresh { heap := s.heap, fams := s.fams, next := Nat.add s.next (lenL ops) }) _
    cases hp : planOf ops (C.order fn id) with
    | none => rw [hp] at h; cases h
    | some l =>
      rw [hp] at h
      obtain ⟨r, h1, h⟩ := bbind_mk.1 h
      have h := mk_inj h; subst h
      show obind (r _ fr.vars [] fr.defers _) toOut = obind (drawL C call yield rd n ops s.next l [] fr.fresh _) _
      rw [jDraw_ok h1 _ _ _ _ _ rfl]; rfl

theorem jCond_ok {n : Nat} {x : Operand} {g : Fr → Option Value} (h : jCond n x = .mk g) (fr : Fr) : g fr = fr.ev n x := by
  cases x with
  | tmp t =>
    have h : sel (ltN t n) (bbind (jGetP (path t)) fun g => .mk fun fr => g fr.vars) (.mk fun fr => fr.ev n (.tmp t)) = Box.mk g := h
    cases hb : ltN t n with
    | true =>
      rw [hb] at h
      obtain ⟨g', h1, h⟩ := bbind_mk.1 (show bbind (jGetP (path t)) (fun g => .mk fun (fr : Fr) => g fr.vars) = Box.mk g from h)
      have h := mk_inj h; subst h
      show g' fr.vars = sel (ltN t n) (fr.vars.get t) (findLoc t fr.loc)
      rw [hb, jGetP_ok _ g' h1]; rfl
    | false => rw [hb] at h; have h := mk_inj h; subst h; rfl
  | const v => have h := mk_inj h; subst h; rfl
  | global v => have h := mk_inj h; subst h; rfl
  | func v => have h := mk_inj h; subst h; rfl

theorem boolK_cond (v : Value) (a b : Run) (fr : Fr) (s : St) : boolK v (a fr s) (b fr s) = condRun a b fr s v := by cases v <;> rfl

theorem jCode_ok {C : Cfg} {n : Nat} {fn : FuncId} {rd : Bool} : ∀ (c : Code) {f : JRun}, jCode C n fn rd c = .mk f → ∀ call yield, f call yield = exec C call yield n fn rd c := by
  intro c
  induction c with
  | skip => intro f h call yield; have h := mk_inj h; subst h; rfl
  | region id ops draw =>
    intro f h call yield
    funext fr s
    exact jRegion_ok h call yield fr s
  | seq a b iha ihb =>
    intro f h call yield
    obtain ⟨ra, h1, h⟩ := bbind_mk.1 (show bbind (jCode C n fn rd a) (fun ra => bbind (jCode C n fn rd b) fun rb => .mk fun call yield fr s => obind (ra call yield fr s) (iterNext (rb call yield))) = Box.mk f from h)
    obtain ⟨rb, h2, h⟩ := bbind_mk.1 h
    have h := mk_inj h; subst h
    funext fr s
    show obind (ra call yield fr s) (iterNext (rb call yield)) = obind (exec C call yield n fn rd a fr s) (iterNext (exec C call yield n fn rd b))
    rw [iha h1, ihb h2]
  | cond x a b iha ihb =>
    intro f h call yield
    obtain ⟨g, h0, h⟩ := bbind_mk.1 (show bbind (jCond n x) (fun g => bbind (jCode C n fn rd a) fun ra => bbind (jCode C n fn rd b) fun rb => .mk fun call yield fr s => obind (g fr) fun v => boolK v (ra call yield fr s) (rb call yield fr s)) = Box.mk f from h)
    obtain ⟨ra, h1, h⟩ := bbind_mk.1 h
    obtain ⟨rb, h2, h⟩ := bbind_mk.1 h
    have h := mk_inj h; subst h
    funext fr s
    show (obind (g fr) fun v => boolK v (ra call yield fr s) (rb call yield fr s)) = obind (fr.ev n x) (condRun (exec C call yield n fn rd a) (exec C call yield n fn rd b) fr s)
    rw [iha h1, ihb h2, jCond_ok h0]
    apply obind_congr; intro v
    exact boolK_cond _ _ _ _ _
  | block id a iha =>
    intro f h call yield
    obtain ⟨ra, h1, h⟩ := bbind_mk.1 (show bbind (jCode C n fn rd a) (fun ra => .mk fun call yield fr s => obind (ra call yield fr s) (blockEnd id)) = Box.mk f from h)
    have h := mk_inj h; subst h
    funext fr s
    show obind (ra call yield fr s) (blockEnd id) = obind (exec C call yield n fn rd a fr s) (blockEnd id)
    rw [iha h1]
  | loop a iha =>
    intro f h call yield
    obtain ⟨ra, h1, h⟩ := bbind_mk.1 (show bbind (jCode C n fn rd a) (fun ra => .mk fun call yield fr s => iter (ra call yield) 100000 fr s) = Box.mk f from h)
    have h := mk_inj h; subst h
    funext fr s
    show iter (ra call yield) 100000 fr s = iter (exec C call yield n fn rd a) 100000 fr s
    rw [iha h1]
  | scope a iha =>
    intro f h call yield
    have h : sel rd (.mk fun _ _ _ _ => none) (jCode C n fn rd a) = Box.mk f := h
    funext fr s
    show _ = sel rd none (exec C call yield n fn rd a fr s)
    cases rd with
    | true => have h := mk_inj h; subst h; rfl
    | false => rw [iha h]; rfl
  | _ => intro f h call yield; have h := mk_inj h; subst h; rfl

theorem jStep_eq (C : Cfg) (call : CallT) (yield : YieldT) : jStep C call yield = callStep C call yield := by
  funext f args s
  unfold jStep
  cases hi : C.insert f with
  | some t => rfl
  | none =>
    show Box.rec (motive := fun _ => Option (Value × St)) (fun run => run call yield args s) (callStep C call yield f args s) (jFn C f) = _
    cases hj : jFn C f with
    | bad => rfl
    | mk run =>
      show run call yield args s = callStep C call yield f args s
      unfold callStep
      rw [hi]
      show _ = callBody C call yield f args s
      have h : Option.casesOn (C.body f) .bad (fun c => bbind (jCode C (C.vars f) f false c) fun run => .mk fun call yield args s => obind (run call yield (startFr args) s) (finish C (callDR C call yield) f)) = Box.mk run := hj
      unfold callBody
      cases hb : C.body f with
      | none => rw [hb] at h; cases h
      | some c =>
        rw [hb] at h
        obtain ⟨ra, h1, h⟩ := bbind_mk.1 h
        have h := mk_inj h; subst h
        show obind (ra call yield (startFr args) s) _ = obind (exec C call yield (C.vars f) f false c (startFr args) s) _
        rw [jCode_ok c h1]

theorem jRunN_eq (C : Cfg) : ∀ n, jRunN C n = runN C n := by
  intro n
  induction n with
  | zero => rfl
  | succ n ih =>
    show (jStep C (jRunN C n).1 (jRunN C n).2, yieldStep C (jRunN C n).1 (jRunN C n).2) = (callStep C (runN C n).1 (runN C n).2, yieldStep C (runN C n).1 (runN C n).2)
    rw [ih, jStep_eq]
end Go.Ax

