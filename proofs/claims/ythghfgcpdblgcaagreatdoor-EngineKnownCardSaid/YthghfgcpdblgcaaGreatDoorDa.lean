import GoSem.Dispatch
import Derived.RangeFuncIn
import Derived.DefersIn
import Derived.Laws.Sem
import Derived.Laws.World
import Derived.Below
import Derived.Laws.CopyRow
import Derived.Laws.AppendOwn
import Derived.Great.FillDense
set_option linter.unusedVariables false
set_option linter.unusedSectionVars false
namespace Go.Ax
open Go
noncomputable section
inductive Tr (α : Type) where
  | e
  | n (v : Option α) (x y : Tr α)
abbrev Path := List Bool
def pathF : Nat → Nat → Path := fun d => Nat.rec (fun _ => []) (fun _ ih k => Bool.rec (List.cons (Nat.beq (Nat.mod k 2) 1) (ih (Nat.div k 2))) [] (Nat.beq k 0)) d
def path (k : Nat) : Path := pathF (Nat.succ k) k
def Tr.val {α : Type} : Tr α → Option α := fun t => Tr.rec none (fun v _ _ _ _ => v) t
def Tr.left {α : Type} : Tr α → Tr α := fun t => Tr.rec .e (fun _ x _ _ _ => x) t
def Tr.right {α : Type} : Tr α → Tr α := fun t => Tr.rec .e (fun _ _ y _ _ => y) t
def Tr.getP {α : Type} : Path → Tr α → Option α := fun p =>
  List.rec (fun t => t.val) (fun b _ ih t => Tr.rec none (fun _ x y _ _ => ih (Bool.rec x y b)) t) p
def Tr.setP {α : Type} (a : α) : Path → Tr α → Tr α := fun p =>
  List.rec (fun t => Tr.rec (.n (some a) .e .e) (fun _ x y _ _ => .n (some a) x y) t)
    (fun b _ ih t => Tr.rec (Bool.rec (.n none (ih .e) .e) (.n none .e (ih .e)) b) (fun v x y _ _ => Bool.rec (.n v (ih x) y) (.n v x (ih y)) b) t) p
def Tr.get {α : Type} (t : Tr α) (k : Nat) : Option α := Tr.getP (path k) t
def Tr.set {α : Type} (t : Tr α) (k : Nat) (a : α) : Tr α := Tr.setP a (path k) t
inductive Hp (α : Type) where
  | s (b lo : Nat)
  | l (k : Nat) (v : α)
  | n (m : Nat) (x y : Hp α)
def Hp.get {α : Type} (t : Hp α) (k : Nat) : Option α :=
  Hp.rec (fun _ _ => none) (fun j v => Bool.rec none (some v) (Nat.beq j k)) (fun m _ _ x y => Bool.rec x y (Nat.ble m k)) t
def Hp.one {α : Type} (k : Nat) (v : α) : Nat → Nat → Hp α := fun b =>
  Nat.rec (fun _ => .l k v) (fun b ih lo => Nat.rec (Bool.rec (.n 0 (ih lo) (.s b 0)) (.n 0 (.s b lo) (ih 0)) (Nat.ble 0 k))
    (fun m _ => Bool.rec (.n (Nat.succ m) (ih lo) (.s b (Nat.succ m))) (.n (Nat.succ m) (.s b lo) (ih (Nat.succ m))) (Nat.ble (Nat.succ m) k)) (Nat.add lo (Nat.pow 2 b))) b
def Hp.set {α : Type} (t : Hp α) (k : Nat) (v : α) : Hp α :=
  Hp.rec (fun b lo => Hp.one k v b lo)
    (fun j u => Bool.rec (Bool.rec (.n k (.l j u) (.l k v)) (.n j (.l k v) (.l j u)) (Nat.ble k j)) (.l k v) (Nat.beq j k))
    (fun m x y ihx ihy => Bool.rec (.n m ihx y) (.n m x ihy) (Nat.ble m k)) t
def lcase {α β : Type} (l : List α) (z : β) (f : α → List α → β) : β := List.rec z (fun a t _ => f a t) l
def ncase {β : Type} (n : Nat) (z : β) (f : Nat → β) : β := Nat.rec z (fun m _ => f m) n
def nth {α : Type} : List α → Nat → Option α := fun l =>
  List.rec (fun _ => none) (fun a _ ih k => ncase k (some a) ih) l
def dropL {α : Type} : Nat → List α → List α := fun n => Nat.rec (fun l => l) (fun _ ih l => lcase l [] (fun _ t => ih t)) n
def takeL {α : Type} : Nat → List α → List α := fun n => Nat.rec (fun _ => []) (fun _ ih l => lcase l [] (fun a t => a :: ih t)) n
def lenL {α : Type} : List α → Nat := fun l => List.rec 0 (fun _ _ ih => Nat.succ ih) l
def appL {α : Type} : List α → List α → List α := fun l r => List.rec r (fun a _ ih => a :: ih) l
def mapL {α β : Type} (f : α → β) : List α → List β := fun l => List.rec [] (fun a _ ih => f a :: ih) l
def obind {α β : Type} (x : Option α) (k : α → Option β) : Option β := Option.rec none k x
def guard {β : Type} (b : Bool) (k : Option β) : Option β := Bool.rec none k b
def sel {α : Type} (b : Bool) (x y : α) : α := Bool.rec y x b
structure ALoop where
  state : LoopState
  pending : Option Code
  fn : FuncId
  vars : Tr Value
  params : List Tmp
  assign : Code
  body : Code
  n : Nat
structure AIter where
  map : Nat
  since : Nat
  seen : List Nat
  stepped : Nat
inductive AObj where
  | loop (l : ALoop)
  | iter (r : AIter)
def AObj.loop? (o : AObj) : Option ALoop :=
  match o with
  | .loop r => some r
  | .iter _ => none
inductive Row where
  | row (cells : List Value) (elem : TypeId) (fam : Nat)
  | map (es : List MapEntry) (clock : Nat)
  | loop (l : AObj)
  | other
structure St where
  heap : Hp Row
  fams : Hp (List Nat)
  next : Nat
def fixedTop : Nat := 64
def lowTop : Nat := 32
def deadId : Nat := 63
def bigCap : Nat := 18446744073709551616
def halfCap : Nat := 9223372036854775808
def elemN (b : Nat) : List Nat → Bool := fun l => List.rec false (fun a _ ih => sel (Nat.beq a b) true ih) l
def cellsFam (fams : Hp (List Nat)) (b : Nat) (cs : List Value) (e : TypeId) (f : Nat) : Option (List Value × TypeId × Nat) :=
  sel (Nat.beq f 0) (some (cs, e, f)) (obind (fams.get f) fun l => guard (elemN b l) (some (cs, e, f)))
def St.cells (s : St) (b : Nat) : Option (List Value × TypeId × Nat) :=
  obind (s.heap.get b) fun r => Row.casesOn r (fun cs e f => cellsFam s.fams b cs e f) (fun _ _ => none) (fun _ => none) none
def St.new {β : Type} (s : St) (r : Row) (k : Nat → St → β) : β :=
  k s.next { heap := s.heap.set s.next r, fams := s.fams, next := Nat.succ s.next }
def descAgg (d : TypeDesc) : Bool :=
  match d with
  | .struct _ | .array _ _ => true
  | _ => false
def isAgg (P : Program) (t : TypeId) : Option Bool := obind (P.underlying t) fun d => some (descAgg d)
def size (P : Program) (t : TypeId) : Option Nat := (P.info? t).map (·.size)
def zero (P : Program) (t : TypeId) : Option (List Value) := guard (Nat.ble (Nat.succ t) P.types.size) (((P.info? t).bind (·.zero)).map fun v => v.cells.toList)
def cellsOf (v : Value) : List Value :=
  match v with
  | .agg ⟨cs⟩ => cs
  | v => [v]
def mkAgg (l : List Value) : Value := .agg ⟨l⟩
def takeN (n : Nat) (l : List Value) : Option (List Value) :=
  Nat.rec (fun _ => some []) (fun _ ih l => lcase l none (fun a t => obind (ih t) fun r => some (a :: r))) n l
def takeF (n : Nat) (l : List Value) : Option (List Value) := sel (Nat.beq n (lenL l)) (some l) (takeN n l)
def loadCs (P : Program) (t : TypeId) (o : Nat) (cs : List Value) : Option Value :=
  obind (isAgg P t) fun g => sel g (obind (size P t) fun n => obind (takeN n (dropL o cs)) fun l => some (mkAgg l)) (nth cs o)
def load (P : Program) (s : St) (t : TypeId) (b o : Nat) : Option Value :=
  obind (s.cells b) fun c => loadCs P t o c.1
def overL : List Value → List Value → Option (List Value) := fun vs =>
  List.rec (fun l => some l) (fun v _ ih l => lcase l none (fun _ t => obind (ih t) fun r => some (v :: r))) vs
def splice (vs : List Value) : Nat → List Value → Option (List Value) := fun o =>
  Nat.rec (fun cs => overL vs cs) (fun _ ih cs => lcase cs none (fun a t => obind (ih t) fun r => some (a :: r))) o
def putRow (s : St) (b : Nat) (cs : List Value) (e : TypeId) (f : Nat) : St :=
  { heap := s.heap.set b (.row cs e f), fams := sel (Nat.beq f 0) s.fams (s.fams.set f [b]), next := s.next }
def isOne (v : Value) : Bool :=
  match v with
  | .agg _ => false
  | .tuple _ => false
  | _ => true
def allOne (l : List Value) : Bool := List.rec true (fun v _ ih => sel (isOne v) ih false) l
def storeCells (s : St) (b o : Nat) (vs : List Value) : Option St :=
  guard (Nat.ble fixedTop b && allOne vs) <| obind (s.cells b) fun c => obind (splice vs o c.1) fun cs => some (putRow s b cs c.2.1 c.2.2)
def store (P : Program) (s : St) (t : TypeId) (b o : Nat) (vs : List Value) : Option St :=
  obind (size P t) fun n => guard (Nat.beq (lenL vs) n) (storeCells s b o vs)
inductive Res where
  | val (v : Value) (s : St)
  | call (f : FuncId) (args : List Value) (s : St)
  | yield (l : Nat) (args : List Value) (s : St)
  | defer (f : FuncId) (args : List Value) (s : St)
abbrev Ev := Operand → Option Value
def ptr (b o : Nat) : Value := .pointer (some ⟨b, o, none⟩)
def i64 (n : Nat) : Value := .int .i64 (Int.ofNat n)
def unit : Value := .tuple #[]
def asNat (v : Value) : Option Nat :=
  match v with
  | .int _ n => Int.casesOn n (fun n => some n) (fun _ => none)
  | _ => none
def ret (v : Value) (s : St) : Option Res := some (.val v s)
inductive Ext where
  | cmp | indexByte | noEscape | add64 | sub64 | overlaps
  | rlTypeOf (l : List (Nat × Unit)) | rlElem (l : List (Nat × Nat)) | rlImplements (l : List (Nat × Nat × Bool)) | rlAssignable (l : List (Nat × Nat × Bool))
  | rlValueOf (l : List (Nat × Nat)) | rlVType (l : List (Nat × Nat)) | rlIsNil (l : List (Nat × Nat)) | rlVElem (l : List (Nat × Nat × Nat × Nat)) | rlSet (l : List (Nat × Nat × Nat)) | rlTKind (l : List (Nat × Nat))
inductive Tree (α : Type) where
  | fail
  | leaf (a : α)
  | test (b : Bool) (x y : Tree α)
def Tree.run {α : Type} (t : Tree α) : Option α := Tree.rec none (fun a => some a) (fun b _ _ x y => sel b x y) t
def Tree.runD {α β : Type} (t : Tree α) (k : α → Option β) : Option β := Tree.rec none k (fun b _ _ x y => sel b x y) t
def Tree.runK {α β : Type} (t : Tree α) (k : α → Option β) (z : Option β) : Option β := Tree.rec z k (fun b x y _ _ => sel b (x.runD k) (y.runD k)) t
structure Fr where
  vars : Tr Value
  loc : List (Nat × Value)
  defers : List (FuncId × List Value)
inductive Ex where
  | normal
  | exit (id : Nat)
  | ret
inductive Con where
  | tree (F : St → List Value → Tree (Value × St))
  | insert (t : TypeId)
  | closed (ok : St → Bool)
  | fn (F : St → List Value → Option (Value × St))
  | pure (G : List Value → Option Value)
structure Cfg where
  P : Program
  ext : FuncId → Option Ext
  rtype : TypeId
  body : FuncId → Option Code
  params : FuncId → List Nat
  results : FuncId → List ResultVar
  vars : FuncId → Nat
  insert : FuncId → Option Con
  eqOk : TypeId → Bool
  order : FuncId → Nat → List Nat
  lies : List (Nat × Nat × Nat × Nat) := []
  loopc : FuncId → Nat → Option (Fr → St → Tree (Ex × Fr × St)) := fun _ _ => none
def kindEq (a b : IntKind) : Bool := Nat.beq a.ctorIdx b.ctorIdx
def wrapPos (k : IntKind) (n : Nat) : Int :=
  match k with
  | .i64 => sel (Nat.ble 9223372036854775808 n) (IntKind.wrap .i64 (Int.ofNat n)) (Int.ofNat n)
  | .u64 => Int.ofNat (Nat.mod n 18446744073709551616)
  | .u8 => Int.ofNat (Nat.mod n 256)
  | k => IntKind.wrap k (Int.ofNat n)
def wrap (k : IntKind) (n : Int) : Int := Int.casesOn n (fun n => wrapPos k n) (fun n => IntKind.wrap k (Int.negSucc n))
def subNat (a b : Nat) : Int := sel (Nat.ble b a) (Int.ofNat (Nat.sub a b)) (Int.negSucc (Nat.sub (Nat.sub b a) 1))
def arith2 (fn : Nat → Nat → Int) (fi : Int → Int → Int) (a b : Int) : Int :=
  Int.casesOn a (fun x => Int.casesOn b (fun y => fn x y) (fun y => fi (Int.ofNat x) (Int.negSucc y))) (fun x => fi (Int.negSucc x) b)
def addI : Int → Int → Int := arith2 (fun x y => Int.ofNat (Nat.add x y)) (fun a b => a + b)
def subI : Int → Int → Int := arith2 subNat (fun a b => a - b)
def mulI : Int → Int → Int := arith2 (fun x y => Int.ofNat (Nat.mul x y)) (fun a b => a * b)
def quoI : Int → Int → Int := arith2 (fun x y => Int.ofNat (Nat.div x y)) (fun a b => a.tdiv b)
def remI : Int → Int → Int := arith2 (fun x y => Int.ofNat (Nat.mod x y)) (fun a b => a.tmod b)
def test3 (fn : Nat → Nat → Bool) (on no : Bool) (nn : Nat → Nat → Bool) (a b : Int) : Bool :=
  Int.casesOn a (fun x => Int.casesOn b (fun y => fn x y) (fun _ => on)) (fun x => Int.casesOn b (fun _ => no) (fun y => nn x y))
def eqI : Int → Int → Bool := test3 Nat.beq false false Nat.beq
def ltI : Int → Int → Bool := test3 (fun x y => Nat.ble (Nat.succ x) y) false true (fun x y => Nat.ble (Nat.succ y) x)
def leI : Int → Int → Bool := test3 Nat.ble false true (fun x y => Nat.ble y x)
def topOf (k : IntKind) : Nat :=
  match k with
  | .u64 => 18446744073709551616
  | .u8 => 256
  | .u32 => 4294967296
  | .u16 => 65536
  | _ => 0
def ltN (a b : Nat) : Bool := Nat.ble (Nat.succ a) b
def isF64 (k : FloatKind) : Bool :=
  match k with
  | .f64 => true
  | .f32 => false
def wideKind (k : IntKind) : Bool :=
  match k with
  | .u64 | .u8 | .u32 | .u16 => true
  | _ => false
def bitNat (op : Nat → Nat → Nat) (k : IntKind) (a b : Int) : Option Value :=
  Int.casesOn a (fun a => Int.casesOn b (fun b => guard (wideKind k) (some (.int k (Int.ofNat (op (Nat.mod a (topOf k)) (Nat.mod b (topOf k))))))) (fun _ => none)) (fun _ => none)
def intOp (op : BinOp) (k : IntKind) (a b : Int) : Option Value :=
  match op with
  | .add => some (.int k (wrap k (addI a b)))
  | .sub => some (.int k (wrap k (subI a b)))
  | .mul => some (.int k (wrap k (mulI a b)))
  | .quo => guard (!eqI b 0) (some (.int k (wrap k (quoI a b))))
  | .rem => guard (!eqI b 0) (some (.int k (remI a b)))
  | .and => (bitNat Nat.land k a b)
  | .or => (bitNat Nat.lor k a b)
  | .xor => (bitNat Nat.xor k a b)
  | .andNot => (bitNat (fun a b => Nat.xor a (Nat.land a b)) k a b)
  | .eql => some (.bool (eqI a b))
  | .neq => some (.bool (!eqI a b))
  | .lss => some (.bool (ltI a b))
  | .leq => some (.bool (leI a b))
  | .gtr => some (.bool (ltI b a))
  | .geq => some (.bool (leI b a))
  | _ => none
def eqAddr (a b : Addr) : Option Bool := guard (Nat.beq a.block b.block) (some (Nat.beq a.off b.off))
def eqBytes : List UInt8 → List UInt8 → Bool := fun l =>
  List.rec (fun r => lcase r true (fun _ _ => false)) (fun a _ ih r => lcase r false (fun b t => sel (Nat.beq a.toNat b.toNat) (ih t) false)) l
def eqPtr (P : Program) (e : TypeId) (x y : Option Addr) : Option Bool :=
  Option.casesOn x (some y.isNone) fun a => Option.casesOn y (some false) fun b => obind (size P e) fun n => guard (!Nat.beq n 0) (eqAddr a b)
def eqD (P : Program) (d : TypeDesc) (x y : Value) : Option Bool :=
  match d with
  | .bool => match x with
    | .bool a => match y with
      | .bool b => some (a == b)
      | _ => none
    | _ => none
  | .int _ => match x with
    | .int k a => match y with
      | .int k' b => guard (kindEq k k') (some (eqI a b))
      | _ => none
    | _ => none
  | .string => match x with
    | .string a => match y with
      | .string b => some (eqBytes a.data.toList b.data.toList)
      | _ => none
    | _ => none
  | .pointer e => match x with
    | .pointer a => match y with
      | .pointer b => eqPtr P e a b
      | _ => none
    | _ => none
  | .slice _ => match x with
    | .slice a _ _ => match y with
      | .slice b _ _ => Option.casesOn a (some b.isNone) fun _ => Option.casesOn b (some false) fun _ => none
      | _ => none
    | _ => none
  | .map _ _ => match x with
    | .map a => match y with
      | .map b => Option.casesOn a (some b.isNone) fun _ => Option.casesOn b (some false) fun _ => none
      | _ => none
    | _ => none
  | .func _ _ _ => match x with
    | .nilFunc => match y with
      | .nilFunc => some true
      | .func _ _ _ => some false
      | _ => none
    | .func _ _ _ => match y with
      | .nilFunc => some false
      | _ => none
    | _ => none
  | .interface _ => match x with
    | .nilIface => match y with
      | .nilIface => some true
      | .iface _ _ => some false
      | _ => none
    | .iface _ _ => match y with
      | .nilIface => some false
      | _ => none
    | _ => none
  | _ => none
def eqArr (f : Value → Value → Option Bool) (n : Nat) : List Value → List Value → Option Bool :=
  Nat.rec (fun _ _ => some true) (fun _ ih xs ys => lcase xs none fun x xt => lcase ys none fun y yt => obind (f x y) fun b => sel b (ih xt yt) (some false)) n
def part (P : Program) (t : TypeId) (cs : List Value) (off : Nat) : Option Value :=
  obind (isAgg P t) fun g => sel g (obind (size P t) fun n => some (mkAgg (takeL n (dropL off cs)))) (nth cs off)
abbrev EqF := TypeId → Value → Value → Option Bool
def aggs (x y : Value) (k : List Value → List Value → Option Bool) : Option Bool :=
  match x with
  | .agg ⟨xs⟩ => match y with
    | .agg ⟨ys⟩ => k xs ys
    | _ => none
  | _ => none
def eqPart (P : Program) (ih : EqF) (t : TypeId) (o : Nat) (xs ys : List Value) : Option Bool :=
  obind (part P t xs o) fun x => obind (part P t ys o) fun y => ih t x y
def eqParts (P : Program) (ih : EqF) (e : TypeId) (n : Nat) (xs ys : List Value) (k : Nat) : Nat → Option Bool :=
  Nat.rec (fun _ => some true) (fun _ go i => obind (eqPart P ih e (Nat.mul i n) xs ys) fun b => sel b (go (Nat.succ i)) (some false)) k
def eqFields (P : Program) (ih : EqF) (xs ys : List Value) : List Field → Option Bool :=
  List.rec (some true) (fun f _ go => obind (eqPart P ih f.type f.offset xs ys) fun b => sel b go (some false))
def eqStep (C : Cfg) (ih : EqF) (t : TypeId) (x y : Value) : Option Bool :=
  obind (C.P.underlying t) fun d => match d with
    | .array n e => aggs x y fun xs ys => obind (C.P.underlying e) fun d => obind (size C.P e) fun k => sel (!descAgg d && Nat.beq k 1) (eqArr (eqD C.P d) n xs ys) (eqParts C.P ih e k xs ys n 0)
    | .struct fs => guard (C.eqOk t) (aggs x y fun xs ys => eqFields C.P ih xs ys fs.toList)
    | d => eqD C.P d x y
def eqAt (C : Cfg) : EqF := Nat.rec (fun _ _ _ => none) (fun _ ih => eqStep C ih) 6
def comparable (P : Program) (t : TypeId) : Bool := Option.casesOn (P.info? t) false (·.comparable)
def eqT (C : Cfg) (t : TypeId) (x y : Value) : Option Bool :=
  match x with
    | .iface tx vx => match y with
      | .iface ty vy => match C.P.underlying t with
        | some (.interface _) => sel (Nat.beq tx ty) (guard (comparable C.P tx) (eqAt C tx vx vy)) (some false)
        | _ => none
      | y => eqAt C t (.iface tx vx) y
    | x => eqAt C t x y
def lessL : List UInt8 → List UInt8 → Bool := fun l =>
  List.rec (fun r => lcase r false (fun _ _ => true))
    (fun a _ ih r => lcase r false (fun b t => sel (Nat.ble (Nat.succ a.toNat) b.toNat) true (sel (Nat.beq a.toNat b.toNat) (ih t) false))) l
def strOp (op : BinOp) (a b : List UInt8) : Option Value :=
  match op with
  | .add => guard (Nat.ble (Nat.add (lenL a) (lenL b)) 9223372036854775807) (some (.string ⟨⟨appL a b⟩⟩))
  | .eql => some (.bool (eqBytes a b))
  | .neq => some (.bool (!eqBytes a b))
  | .lss => some (.bool (lessL a b))
  | .gtr => some (.bool (lessL b a))
  | .leq => some (.bool (!lessL b a))
  | .geq => some (.bool (!lessL a b))
  | _ => none
def shiftOp (left : Bool) (k : IntKind) (a n : Nat) : Option Value :=
  sel left (guard (wideKind k) (some (.int k (Int.ofNat (Nat.mod (Nat.mul a (Nat.pow 2 (sel (Nat.ble n k.bits) n k.bits))) (Nat.pow 2 k.bits))))))
    (some (.int k (Int.ofNat (Nat.div a (Nat.pow 2 (sel (Nat.ble n k.bits) n k.bits))))))
def shift (left : Bool) (x y : Value) : Option Value :=
  match x with
  | .int k a => match y with
    | .int _ b => Int.casesOn a (fun a => Int.casesOn b (fun b => shiftOp left k a b) (fun _ => none)) (fun _ => none)
    | _ => none
  | _ => none
def eqOp (C : Cfg) (t : TypeId) (op : BinOp) (x y : Value) : Option Value :=
  match op with
  | .eql => obind (eqT C t x y) fun b => some (.bool b)
  | .neq => obind (eqT C t x y) fun b => some (.bool !b)
  | _ => none
def rngOp (op : BinOp) (k : FloatKind) (lo hi : Nat) (y : Value) : Option Value :=
  match y with
  | .int .i64 c => Int.casesOn c (fun c => guard (isF64 k) (match op with
      | .gtr => sel (Nat.ble hi c && !Nat.beq hi 0) (some (.bool false)) (guard (ltN c lo) (some (.bool true)))
      | _ => none)) (fun _ => none)
  | _ => none
def binOp3 (C : Cfg) (t : TypeId) (op : BinOp) (x y : Value) : Option Value :=
  match x with
  | .int k a => match y with
    | .int k' b => guard (kindEq k k') (intOp op k a b)
    | _ => none
  | .string a => match y with
    | .string b => strOp op a.data.toList b.data.toList
    | _ => none
  | .complex k lo hi => rngOp op k lo hi y
  | x => eqOp C t op x y
def binOp (C : Cfg) (t : TypeId) (op : BinOp) (x y : Value) : Option Value :=
  match op with
  | .shl => shift true x y
  | .shr => shift false x y
  | op => binOp3 C t op x y
def isConst (x : Operand) : Bool :=
  match x with
  | .const _ => true
  | _ => false
def nilsOk (C : Cfg) (t : TypeId) (x y : Operand) (a b : Value) : Bool :=
  match a with
  | .agg _ => C.eqOk t
  | .nilIface => match b with
    | .nilIface => isConst x || isConst y
    | _ => true
  | _ => true
def fieldInfo (P : Program) (t : TypeId) (i : Nat) : Option Field :=
  match P.underlying t with
  | some (.struct fs) => nth fs.toList i
  | _ => none
def fill (place : Nat → Option (Nat × Nat)) : List (Nat × Value) → List Value → Option (List Value) := fun l =>
  List.rec (fun cs => some cs)
    (fun p _ ih cs => obind (place p.1) fun q => guard (Nat.beq (lenL (cellsOf p.2)) q.2) (obind (splice (cellsOf p.2) q.1 cs) ih)) l
def repeatL (n : Nat) (l : List Value) : List Value := Nat.rec [] (fun _ ih => appL l ih) n
def bound (lo : Option Value) (dflt : Nat) : Option Nat := Option.casesOn lo (some dflt) asNat
def branch (s : St) (b : Nat) (cells : List Value) (elem : TypeId) (f : Nat) (len : Nat) : Value × St :=
  (.slice (some ⟨s.next, 0, none⟩) len bigCap,
    { heap := s.heap.set s.next (.row cells elem f), fams := s.fams.set f [s.next, b], next := Nat.succ s.next })
def cutKnown (a : Addr) (l h m n : Nat) (s : St) : Option (Value × St) :=
  some (.slice (some (sel (Nat.beq m l) a ⟨a.block, Nat.add a.off (Nat.mul l n), none⟩)) (Nat.sub h l) (Nat.sub m l), s)
def openOk (o cap n : Nat) : Bool := Nat.beq o (Nat.mul (Nat.sub bigCap cap) n)
def deadV : Value := .slice (some ⟨deadId, 0, none⟩) 0 bigCap
def cutOpen (s : St) (a : Addr) (e : TypeId) (cap l h m n : Nat) : Option (Value × St) :=
  obind (s.cells a.block) fun c =>
    guard (Nat.beq c.2.1 e && openOk a.off cap n && Nat.ble 1 n && !Nat.beq c.2.2 0 && Nat.ble cap bigCap && (ltN m halfCap || Nat.ble halfCap (Nat.sub m l)) && Nat.ble (Nat.add a.off (Nat.mul (sel (Nat.ble halfCap m) h m) n)) (lenL c.1))
      (sel (ltN m halfCap || ltN l h || ltN (Nat.add a.off (Nat.mul l n)) (lenL c.1) || Nat.beq l 0)
        (some (.slice (some (sel (Nat.beq m l) a ⟨a.block, Nat.add a.off (Nat.mul l n), none⟩)) (Nat.sub h l) (Nat.sub m l), s))
        (some (deadV, s)))
def cutSlice (s : St) (a : Option Addr) (e : TypeId) (cap l h m n : Nat) : Option (Value × St) :=
  guard (Nat.ble l h && Nat.ble h m && Nat.ble m cap)
    (Option.casesOn a (some (.slice none (Nat.sub h l) (Nat.sub m l), s))
      fun a => sel (Nat.beq a.block deadId) (guard (Nat.beq h 0 && Nat.beq cap bigCap && (Nat.beq m 0 || Nat.beq m bigCap)) (some (deadV, s))) (sel (Nat.ble halfCap cap) (cutOpen s a e cap l h m n) (cutKnown a l h m n s)))
def cutString (b : List UInt8) (l h : Nat) : Option Value :=
  guard (Nat.ble l h && Nat.ble h (lenL b)) (sel (Nat.beq h (lenL b)) (some (.string ⟨⟨dropL l b⟩⟩)) (some (.string ⟨⟨takeL (Nat.sub h l) (dropL l b)⟩⟩)))
def bounds {β : Type} (lo hi mx : Option Value) (len cap : Nat) (k : Nat → Nat → Nat → Option β) : Option β :=
  obind (bound lo 0) fun l => obind (bound hi len) fun h => obind (bound mx cap) fun m => k l h m
def sliceSlice (P : Program) (s : St) (t : TypeId) (a : Option Addr) (len cap : Nat) (lo hi mx : Option Value) : Option (Value × St) :=
  match P.underlying t with
  | some (.slice e) => obind (size P e) fun n => bounds lo hi mx len cap fun l h m => guard (mx.isNone || (hi.isSome && ltN m halfCap)) (cutSlice s a e cap l h m n)
  | _ => none
def sliceArr (P : Program) (k : Nat) (e : TypeId) (s : St) (a : Addr) (lo hi mx : Option Value) : Option (Value × St) :=
  obind (size P e) fun n => bounds lo hi mx k k fun l h m => guard ((mx.isNone || hi.isSome) && ltN k halfCap) (cutSlice s (some a) e k l h m n)
def slicePtr (P : Program) (s : St) (t : TypeId) (a : Addr) (lo hi mx : Option Value) : Option (Value × St) :=
  match P.underlying t with
  | some (.array k e) => sliceArr P k e s a lo hi mx
  | some (.pointer arr) => match P.underlying arr with
    | some (.array k e) => sliceArr P k e s a lo hi mx
    | _ => none
  | _ => none
def sliceAny (P : Program) (s : St) (t : TypeId) (x : Value) (lo hi mx : Option Value) : Option (Value × St) :=
  match x with
  | .slice a len cap => sliceSlice P s t a len cap lo hi mx
  | .pointer (some a) => slicePtr P s t a lo hi mx
  | .string b => match P.underlying t with
    | some .string => Option.casesOn mx (bounds lo hi none (lenL b.data.toList) 0 fun l h _ => obind (cutString b.data.toList l h) fun v => some (v, s)) (fun _ => none)
    | _ => none
  | _ => none
def byteVals (l : List UInt8) : List Value := mapL (fun c => .int .u8 (Int.ofNat c.toNat)) l
def firstCells (s : St) (sz n : Nat) (v : Value) : Option (List Value) :=
  match v with
  | .slice (some a) _ _ => sel (Nat.beq a.block deadId) (guard (Nat.beq n 0) (some [])) (obind (s.cells a.block) fun c => takeN (Nat.mul n sz) (dropL a.off c.1))
  | .slice none _ _ => guard (Nat.beq n 0) (some [])
  | .string b => guard (Nat.beq sz 1) (some (byteVals (takeL n b.data.toList)))
  | _ => none
def lenOf (v : Value) : Option Nat :=
  match v with
  | .slice _ n _ => some n
  | .string b => some (lenL b.data.toList)
  | _ => none
def grow (s : St) (elem : TypeId) (cells : List Value) (len : Nat) : Value × St :=
  (.slice (some ⟨s.next, 0, none⟩) len bigCap,
    { heap := s.heap.set s.next (.row cells elem s.next), fams := s.fams.set s.next [s.next], next := Nat.succ s.next })
def growOk (P : Program) (elem : TypeId) (need : Nat) : Bool :=
  Option.casesOn (P.info? elem) false fun i => Nat.ble need 281474976710656 && Nat.ble (Nat.mul (Nat.add (Nat.mul 2 need) 768) i.bytes) 281474976710656 &&
    Nat.ble 1 i.size && Option.casesOn i.zero false fun z => Nat.beq (lenL z.cells.toList) i.size
def appendIn (s : St) (p : Addr) (len cap need e : Nat) (new : List Value) : Option (Value × St) :=
  obind (storeCells s p.block e new) fun s => some (.slice (some p) need cap, s)
def appendOut (P : Program) (s : St) (p : Addr) (len cap need e sz : Nat) (new : List Value) (c : List Value × TypeId × Nat) : Option (Value × St) :=
  guard (growOk P c.2.1 need) <| obind (takeF (Nat.mul len sz) (dropL p.off c.1)) fun old =>
    sel (ltN cap halfCap)
      (guard (ltN cap need) (some (grow s c.2.1 (appL old new) need)))
      (guard (Nat.beq e (lenL c.1) && Nat.ble fixedTop p.block && allOne new) (some (branch s p.block (appL old new) c.2.1 c.2.2 need)))
def appendAt (P : Program) (s : St) (elem : TypeId) (p : Addr) (len cap n sz : Nat) (new : List Value) : Option (Value × St) :=
  obind (s.cells p.block) fun c =>
    guard (Nat.beq c.2.1 elem && Nat.ble 1 sz && (ltN cap halfCap || (openOk p.off cap sz && !Nat.beq c.2.2 0))) <| sel (Nat.ble (Nat.add len n) cap && Nat.ble (Nat.add (Nat.add p.off (Nat.mul len sz)) (Nat.mul n sz)) (lenL c.1))
      (appendIn s p len cap (Nat.add len n) (Nat.add p.off (Nat.mul len sz)) new)
      (appendOut P s p len cap (Nat.add len n) (Nat.add p.off (Nat.mul len sz)) sz new c)
def appendNone (s : St) (elem : TypeId) (base : Option Addr) (len cap sz : Nat) (a : Value) : Option (Value × St) :=
  sel (ltN cap halfCap || base.isNone) (guard (Nat.ble len cap) (some (a, s)))
    (Option.casesOn base none fun p => sel (Nat.beq p.block deadId) (guard (Nat.beq len 0) (some (a, s))) <| obind (s.cells p.block) fun c =>
      guard (Nat.beq c.2.1 elem && openOk p.off cap sz && Nat.ble 1 sz && !Nat.beq c.2.2 0 && Nat.ble (Nat.add p.off (Nat.mul len sz)) (lenL c.1)) (some (a, s)))
def appendTo (P : Program) (s : St) (elem : TypeId) (base : Option Addr) (len cap n sz : Nat) (new : List Value) (a : Value) : Option (Value × St) :=
  sel (Nat.beq n 0) (appendNone s elem base len cap sz a) (Option.casesOn base (guard (Nat.beq len 0 && Nat.beq cap 0 && growOk P elem n) (some (grow s elem new n))) fun p => appendAt P s elem p len cap n sz new)
def noInt (P : Program) (T : Option TypeId) : Bool :=
  Option.casesOn T true fun t => match P.underlying t with
    | none => false
    | some (.int _) => false
    | _ => true
def append (P : Program) (s : St) (sT : TypeId) (T2 : Option TypeId) (a b : Value) : Option (Value × St) :=
  guard (noInt P T2) <| match P.underlying sT with
  | some (.slice elem) => match a with
    | .slice base len cap => obind (lenOf b) fun n => obind (size P elem) fun sz => obind (firstCells s sz n b) fun new => appendTo P s elem base len cap n sz new a
    | _ => none
  | _ => none
def byteOf (v : Value) : Option UInt8 :=
  match v with
  | .int .u8 n => Int.casesOn n (fun n => some (UInt8.ofNat n)) (fun _ => none)
  | _ => none
def bytesOf : List Value → Option (List UInt8) := fun l => List.rec (some []) (fun v _ ih => obind (byteOf v) fun b => obind ih fun r => some (b :: r)) l
def toStr (s : St) (n : Nat) (x : Value) : Option (Value × St) :=
  obind (firstCells s 1 n x) fun l => obind (bytesOf l) fun l => some (.string ⟨⟨l⟩⟩, s)
def isBytes (P : Program) (e : TypeId) : Bool :=
  match P.underlying e with
  | some (.int .u8) => true
  | _ => false
def isStr (P : Program) (e : TypeId) : Bool :=
  match P.underlying e with
  | some .string => true
  | _ => false
def convert (P : Program) (s : St) (src dst : TypeId) (x : Value) : Option (Value × St) :=
  guard (P.underlying src).isSome <| match P.underlying dst with
  | some (.int k) => match x with
    | .int _ n => some (.int k (wrap k n), s)
    | _ => none
  | some .string => match x with
    | .string b => some (.string b, s)
    | .int _ n => some (.string (Utf8.encode n), s)
    | .slice a n c => match P.underlying src with
      | some (.slice e) => guard (isBytes P e) (Option.casesOn a (some (.string ⟨⟨[]⟩⟩, s)) fun _ => toStr s n x)
      | _ => none
    | _ => none
  | some (.slice e) => match x with
    | .string b => guard (isBytes P e && isStr P src) (some (grow s e (byteVals b.data.toList) (lenL b.data.toList)))
    | _ => none
  | _ => none
def unOp (op : UnOp) (x : Value) : Option Value :=
  match x with
  | .bool b => match op with
    | .not => some (.bool !b)
    | _ => none
  | .int k n => match op with
    | .neg => some (.int k (wrap k (subI 0 n)))
    | .xor => match k with
      | .u64 => Int.casesOn n (fun n => some (.int .u64 (Int.ofNat (Nat.sub 18446744073709551615 (Nat.mod n 18446744073709551616))))) (fun _ => none)
      | _ => none
    | _ => none
  | _ => none
inductive Pl where
  | val (v : Value)
  | var (b o : Nat)
def Pl.get (P : Program) (s : St) (t : TypeId) (x : Pl) : Option Value := Pl.casesOn x (fun v => some v) (fun b o => load P s t b o)
def follow1 (P : Program) (s : St) (st : FieldStep) (t : TypeId) (x : Pl) : Option (TypeId × Pl) :=
  obind (fieldInfo P st.struct st.index) fun f => obind (size P f.type) fun n =>
    sel st.deref
      (match x.get P s t with
       | some (.pointer (some a)) => guard (!Nat.beq n 0) (some (f.type, .var a.block (Nat.add a.off f.offset)))
       | _ => none)
      (match x with
       | .var b o => guard (!Nat.beq n 0) (some (f.type, .var b (Nat.add o f.offset)))
       | .val (.agg ⟨cs⟩) => obind (part P f.type cs f.offset) fun v => some (f.type, .val v)
       | _ => none)
def follow (P : Program) (s : St) : List FieldStep → TypeId → Pl → Option (TypeId × Pl) := fun l =>
  List.rec (fun t x => some (t, x)) (fun st _ ih t x => obind (follow1 P s st t x) fun r => ih r.1 r.2) l
def receiver (P : Program) (s : St) (xt : TypeId) (x : Pl) (pr : Bool) : Option Value :=
  match P.underlying xt with
  | some (.pointer elem) => sel pr (x.get P s xt)
      (match x.get P s xt with
       | some (.pointer (some a)) => load P s elem a.block a.off
       | _ => none)
  | some _ => match x with
    | .var b o => sel pr (some (ptr b o)) (x.get P s xt)
    | .val v => sel pr none (some v)
  | none => none
def findMethod (P : Program) (t : TypeId) (name : String) : Option Method := (P.info? t).bind (fun i => i.methods.toList.find? (·.name == name))
def method (P : Program) (s : St) (t : TypeId) (v : Value) (name : String) : Option (FuncId × Value) :=
  obind (findMethod P t name) fun m => obind (follow P s m.path.toList t (.val v)) fun r =>
    Option.casesOn m.func none fun q => obind (receiver P s r.1 r.2 q.2) fun v => some (q.1, v)
def handle (P : Program) (t : TypeId) : Value := .pointer (some ⟨P.globals.size, t, none⟩)
def ofHandle (P : Program) (v : Value) : Option TypeId :=
  match v with
  | .pointer (some a) => guard (Nat.beq a.block P.globals.size) (some a.off)
  | _ => none
def missing (P : Program) (iface : TypeId) (t : TypeId) : Bool :=
  match P.underlying iface, P.info? t with
  | some (.interface want), some i => want.toList.any fun w => !(i.methods.toList.any fun m => m.name == w.1 && m.sig == w.2)
  | _, _ => true
def isIface (P : Program) (t : TypeId) : Bool :=
  match P.underlying t with
  | some (.interface _) => true
  | _ => false
def extAdd64 (x y c : Nat) (s : St) : Option (Value × St) :=
  guard (Nat.ble c 1) (some (.tuple #[.int .u64 (Int.ofNat (Nat.mod (Nat.add (Nat.add x y) c) bigCap)), .int .u64 (Int.ofNat (Nat.div (Nat.add (Nat.add x y) c) bigCap))], s))
def extSub64 (x y c : Nat) (s : St) : Option (Value × St) :=
  guard (Nat.ble c 1) (some (.tuple #[.int .u64 (Int.ofNat (Nat.mod (Nat.sub (Nat.sub (Nat.add x bigCap) y) c) bigCap)), .int .u64 (sel (ltN x (Nat.add y c)) 1 0)], s))
def nat3 (args : List Value) (k : Nat → Nat → Nat → Option (Value × St)) : Option (Value × St) :=
  match args with
  | [x, y, c] => obind (asNat x) fun x => obind (asNat y) fun y => obind (asNat c) fun c => k x y c
  | _ => none
def rtypeOf (C : Cfg) (t : TypeId) : Value := .iface C.rtype (.agg #[handle C.P t])
def findT {β : Type} (l : List (Nat × β)) (n : Nat) : Option β := List.rec none (fun p _ ih => sel (Nat.beq p.1 n) (some p.2) ih) l
def findTT (l : List (Nat × Nat × Bool)) (t u : Nat) : Option Bool := List.rec none (fun p _ ih => sel (Nat.beq p.1 t && Nat.beq p.2.1 u) (some p.2.2) ih) l
def extTypeOf (C : Cfg) (l : List (Nat × Unit)) (s : St) (args : List Value) : Option (Value × St) :=
  match args with
  | [.iface t _] => obind (findT l t) fun _ => some (rtypeOf C t, s)
  | _ => none
def extElem (C : Cfg) (l : List (Nat × Nat)) (s : St) (args : List Value) : Option (Value × St) :=
  match args with
  | [.agg ⟨[h]⟩] => obind (ofHandle C.P h) fun t => obind (findT l t) fun e => some (rtypeOf C e, s)
  | _ => none
def twoTypes (C : Cfg) (args : List Value) (k : TypeId → TypeId → Option (Value × St)) : Option (Value × St) :=
  match args with
  | [.agg ⟨[h]⟩, .iface r (.agg ⟨[g]⟩)] => guard (Nat.beq r C.rtype) (obind (ofHandle C.P h) fun t => obind (ofHandle C.P g) fun u => k t u)
  | _ => none
def extTwo (C : Cfg) (l : List (Nat × Nat × Bool)) (s : St) (args : List Value) : Option (Value × St) :=
  twoTypes C args fun t u => obind (findTT l t u) fun b => some (.bool b, s)
def extValueOf (C : Cfg) (l : List (Nat × Nat)) (s : St) (args : List Value) : Option (Value × St) :=
  match args with
  | [.iface t v] => obind (findT l t) fun f => s.new (.row (cellsOf v) t 0) fun id s => some (.agg ⟨[handle C.P t, ptr id 0, .int .u64 (Int.ofNat f)]⟩, s)
  | _ => none
def valueK (C : Cfg) (v : Value) (k : TypeId → Addr → Nat → Option (Value × St)) : Option (Value × St) :=
  match v with
  | .agg ⟨[h, .pointer (some a), .int .u64 f]⟩ => obind (ofHandle C.P h) fun t => Int.casesOn f (fun f => k t a f) (fun _ => none)
  | _ => none
def extVType (C : Cfg) (l : List (Nat × Nat)) (s : St) (args : List Value) : Option (Value × St) :=
  match args with
  | [v] => valueK C v fun t _ f => obind (findT l t) fun g => guard (Nat.beq g f) (some (rtypeOf C t, s))
  | _ => none
def isNilV (v : Value) : Option Bool :=
  match v with
  | .pointer none => some true
  | .pointer (some _) => some false
  | _ => none
def extIsNil (C : Cfg) (l : List (Nat × Nat)) (s : St) (args : List Value) : Option (Value × St) :=
  match args with
  | [v] => valueK C v fun t a f => obind (findT l t) fun g => guard (Nat.beq g f) (obind (load C.P s t a.block a.off) fun v => obind (isNilV v) fun b => some (.bool b, s))
  | _ => none
def extVElem (C : Cfg) (l : List (Nat × Nat × Nat × Nat)) (s : St) (args : List Value) : Option (Value × St) :=
  match args with
  | [v] => valueK C v fun t a f => obind (findT l t) fun q => guard (Nat.beq q.1 f) (obind (load C.P s t a.block a.off) fun v => match v with
    | .pointer (some p) => some (.agg ⟨[handle C.P q.2.1, .pointer (some p), .int .u64 (Int.ofNat q.2.2)]⟩, s)
    | _ => none)
  | _ => none
def extSet (C : Cfg) (l : List (Nat × Nat × Nat)) (s : St) (args : List Value) : Option (Value × St) :=
  match args with
  | [v, x] => valueK C v fun t a f => valueK C x fun u b g => obind (findT l t) fun q => guard (Nat.beq t u && Nat.beq q.1 f && Nat.beq q.2 g) <|
    obind (load C.P s t b.block b.off) fun v => obind (store C.P s t a.block a.off (cellsOf v)) fun s => some (unit, s)
  | _ => none
def extTKind (C : Cfg) (l : List (Nat × Nat)) (s : St) (args : List Value) : Option (Value × St) :=
  match args with
  | [h] => obind (ofHandle C.P h) fun t => obind (findT l t) fun k => some (.int .u8 (Int.ofNat k), s)
  | _ => none
def extOverlaps (s : St) (args : List Value) : Option (Value × St) :=
  match args with
  | [.slice a la _, .slice b lb _] => sel (Nat.beq la 0 || Nat.beq lb 0 || a.isNone || b.isNone) (some (.bool false, s)) none
  | _ => none
def extCmp (s : St) (args : List Value) : Option (Value × St) :=
  match args with
  | [.slice a la ca, .slice b lb cb] => obind (firstCells s 1 la (.slice a la ca)) fun x => obind (bytesOf x) fun x => obind (firstCells s 1 lb (.slice b lb cb)) fun y => obind (bytesOf y) fun y =>
      some (.int .i64 (sel (lessL x y) (-1) (sel (lessL y x) 1 0)), s)
  | _ => none
def indexB (c : Nat) (l : List UInt8) : Nat → Int := List.rec (fun _ => -1) (fun b _ ih i => sel (Nat.beq b.toNat c) (Int.ofNat i) (ih (Nat.succ i))) l
def extIndexByte (s : St) (args : List Value) : Option (Value × St) :=
  match args with
  | [.string b, .int .u8 (.ofNat c)] => guard (ltN c 256) (some (.int .i64 (indexB c b.data.toList 0), s))
  | _ => none
def extInsert (C : Cfg) (t : TypeId) (s : St) (args : List Value) : Option (Value × St) :=
  match args with
  | [.slice (some a) n cap, .int .i64 i, .slice (some v) m _] => obind (asNat (.int .i64 i)) fun i => guard (Nat.beq m 1) <| obind (s.cells a.block) fun c => obind (s.cells v.block) fun d => obind (size C.P t) fun sz =>
      guard (Nat.beq c.2.1 t && Nat.beq a.off 0 && Nat.beq (lenL c.1) (Nat.mul n sz) && Nat.ble i n && !(Nat.beq c.2.2 0) && Nat.beq cap bigCap && Nat.ble fixedTop a.block && Nat.ble fixedTop v.block && Nat.beq d.2.2 0 && Nat.ble 1 (lenL d.1) && Nat.ble 1 sz && growOk C.P t (Nat.succ n) && Nat.ble n 1099511627776) <| obind (takeN sz (dropL v.off d.1)) fun new => guard (allOne new && allOne c.1) <|
        some (.slice (some ⟨s.next, 0, none⟩) (Nat.succ n) bigCap, { heap := (s.heap.set a.block (.row [] t c.2.2)).set s.next (.row (appL (takeL (Nat.mul i sz) c.1) (appL new (dropL (Nat.mul i sz) c.1))) t c.2.2), fams := s.fams.set c.2.2 [s.next, a.block], next := Nat.succ s.next })
  | _ => none
def flatOne (v : Value) : Bool :=
  match v with
  | .bool _ | .int _ _ | .string _ => true
  | _ => false
def flatAll : List Value → Bool := fun l => List.rec true (fun a _ ih => sel (flatOne a) ih false) l
def freeV (v : Value) : Bool :=
  match v with
  | .agg cs => flatAll cs.toList
  | .tuple cs => flatAll cs.toList
  | v => flatOne v
def freeAll : List Value → Bool := fun l => List.rec true (fun a _ ih => sel (freeV a) ih false) l
def conPureV (G : List Value → Option Value) (args : List Value) : Option Value := guard (freeAll args) (obind (G args) fun v => guard (freeV v) (some v))
def conPure (G : List Value → Option Value) (s : St) (args : List Value) : Option (Value × St) := obind (conPureV G args) fun v => some (v, s)
def conQuiet (t : Con) (args : List Value) : Bool :=
  match t with
  | .pure G => (conPureV G args).isSome
  | _ => false
def runCon (C : Cfg) (c : Con) (s : St) (args : List Value) : Option (Value × St) :=
  match c with
  | .insert t => extInsert C t s args
  | .closed ok => match args with
    | [] => guard (ok s) (some (.bool true, s))
    | _ => none
  | .fn F => F s args
  | .pure G => conPure G s args
  | .tree F => (F s args).run
def callExt (C : Cfg) (s : St) (e : Ext) (args : List Value) : Option (Value × St) :=
  match e with
  | .add64 => nat3 args fun x y c => extAdd64 x y c s
  | .sub64 => nat3 args fun x y c => extSub64 x y c s
  | .rlTypeOf l => extTypeOf C l s args
  | .rlElem l => extElem C l s args
  | .rlImplements l => extTwo C l s args
  | .rlAssignable l => extTwo C l s args
  | .rlValueOf l => extValueOf C l s args
  | .rlVType l => extVType C l s args
  | .rlIsNil l => extIsNil C l s args
  | .rlVElem l => extVElem C l s args
  | .rlSet l => extSet C l s args
  | .rlTKind l => extTKind C l s args
  | .overlaps => extOverlaps s args
  | .cmp => extCmp s args
  | .indexByte => extIndexByte s args
  | .noEscape => match args with
    | [p] => some (p, s)
    | _ => none
def toRes (r : Value × St) : Option Res := some (.val r.1 r.2)
def callAny (C : Cfg) (s : St) (f : FuncId) (args : List Value) : Option Res :=
  Option.casesOn (C.ext f) (guard (C.body f).isSome (some (.call f args s))) fun e => obind (callExt C s e args) toRes
def sameLoc (a b : Addr) : Bool := Nat.beq a.block b.block && Nat.beq a.off b.off && a.spot.isNone && b.spot.isNone
def sameOpt (a b : Option Addr) : Bool := Option.casesOn a b.isNone fun a => Option.casesOn b false fun b => sameLoc a b
def sameOptN (a b : Option Nat) : Bool := Option.casesOn a b.isNone fun a => Option.casesOn b false fun b => Nat.beq a b
def sameL (f : Value → Value → Bool) : List Value → List Value → Bool := fun l =>
  List.rec (fun r => lcase r true (fun _ _ => false)) (fun a _ ih r => lcase r false (fun b t => sel (f a b) (ih t) false)) l
def sameFn (g h : Fn) : Bool :=
  match g with
  | .func g => match h with
    | .func h => Nat.beq g h
    | _ => false
  | _ => false
def sameStep (f : Value → Value → Bool) (x y : Value) : Bool :=
  match x with
  | .bool a => match y with
    | .bool b => a == b
    | _ => false
  | .int j a => match y with
    | .int k b => kindEq j k && eqI a b
    | _ => false
  | .string a => match y with
    | .string b => eqBytes a.data.toList b.data.toList
    | _ => false
  | .pointer a => match y with
    | .pointer b => sameOpt a b
    | _ => false
  | .slice a n c => match y with
    | .slice b m d => sameOpt a b && Nat.beq n m && Nat.beq c d
    | _ => false
  | .map a => match y with
    | .map b => sameOptN a b
    | _ => false
  | .nilFunc => match y with
    | .nilFunc => true
    | _ => false
  | .func g a b => match y with
    | .func h c d => sameFn g h && sameL f a.toList c.toList && sameL f b.toList d.toList
    | _ => false
  | .chan a => match y with
    | .chan b => sameOptN a b
    | _ => false
  | .complex j a b => match y with
    | .complex k c d => isF64 j && isF64 k && Nat.beq a c && Nat.beq b d
    | _ => false
  | .float j a => match y with
    | .float k b => isF64 j && isF64 k && Nat.beq a b
    | _ => false
  | .nilIface => match y with
    | .nilIface => true
    | _ => false
  | .iface t v => match y with
    | .iface u w => Nat.beq t u && f v w
    | _ => false
  | .agg ⟨a⟩ => match y with
    | .agg ⟨b⟩ => sameL f a b
    | _ => false
  | .tuple ⟨a⟩ => match y with
    | .tuple ⟨b⟩ => sameL f a b
    | _ => false
def sameV : Nat → Value → Value → Bool := fun n => Nat.rec (fun _ _ => false) (fun _ ih => sameStep ih) n
def memoG (T : List (List Value × Value)) (args : List Value) : Option Value := List.rec none (fun p _ ih => sel (sameL (sameV 4) p.1 args) (some p.2) ih) T
def bitsOne (v : Value) : Bool :=
  match v with
  | .bool _ | .int _ _ | .string _ => true
  | _ => false
def bitsAll : List Value → Bool := fun l => List.rec true (fun a _ ih => sel (bitsOne a) ih false) l
def bitsKey (v : Value) : Bool :=
  match v with
  | .agg ⟨l⟩ => bitsAll l
  | v => bitsOne v
def keepsKey (es : List MapEntry) (i : Nat) (k : Value) : Bool := Option.casesOn (nth es i) false fun e => bitsKey k && sameV 2 e.key k
def findKey (C : Cfg) (t : TypeId) (k : Value) : List MapEntry → Nat → Option (Option (Nat × Value)) := fun l =>
  List.rec (fun _ => some none) (fun e _ ih i => obind (eqAt C t k e.key) fun b => sel b (some (some (i, e.val))) (ih (Nat.succ i))) l
def plainD (d : TypeDesc) : Bool :=
  match d with
  | .bool | .int _ | .string | .pointer _ => true
  | _ => false
def plainT (P : Program) (t : TypeId) : Bool := Option.casesOn (P.underlying t) false plainD
def plainFs (P : Program) (n : Nat) : List Field → Bool := List.rec true (fun f _ ih => sel (plainT P f.type && ltN f.offset n) ih false)
def keyOk (P : Program) (d : TypeDesc) (k : Value) : Bool :=
  match d with
  | .array n e => match k with
    | .agg ⟨cs⟩ => Nat.ble n (lenL cs) && plainT P e && Option.casesOn (size P e) false (fun k => Nat.beq k 1)
    | _ => false
  | .struct fs => match k with
    | .agg ⟨cs⟩ => plainFs P (lenL cs) fs.toList
    | _ => false
  | d => plainD d
def seek (C : Cfg) (kt : TypeId) (k : Value) (es : List MapEntry) : Option (Option (Nat × Value)) :=
  obind (C.P.underlying kt) fun d => guard (keyOk C.P d k) (findKey C kt k es 0)
def getMap (s : St) (r : Nat) : Option (List MapEntry × Nat) :=
  match s.heap.get r with
  | some (.map es c) => some (es, c)
  | _ => none
def St.put (s : St) (r : Nat) (x : Row) : St := { heap := s.heap.set r x, fams := s.fams, next := s.next }
def modL {α : Type} (f : α → α) (l : List α) (n : Nat) : List α := Nat.rec (fun l => lcase l [] (fun a t => f a :: t)) (fun _ ih l => lcase l [] (fun a t => a :: ih t)) n l
def setKV (k v : Value) (e : MapEntry) : MapEntry := { key := k, val := v, born := e.born }
def setKey (k : Value) (e : MapEntry) : MapEntry := { key := k, val := e.val, born := e.born }
def bornAt (es : List MapEntry) (i : Nat) : Nat := Option.casesOn (nth es i) 0 (·.born)
def withMap (s : St) (m : Value) (k : Nat → List MapEntry → Nat → Option Res) : Option Res :=
  match m with
  | .map (some r) => obind (getMap s r) fun q => k r q.1 q.2
  | _ => none
def mapUpdate (C : Cfg) (s : St) (kt : TypeId) (m key val : Value) : Option Res :=
  withMap s m fun r es c => obind (seek C kt key es) fun q =>
    Option.casesOn q (ret unit (s.put r (.map (appL es [{ key := key, val := val, born := c }]) (Nat.succ c)))) fun p => guard (keepsKey es p.1 key) (ret unit (s.put r (.map (modL (setKV key val) es p.1) c)))
def zeroVal (P : Program) (t : TypeId) : Option Value := guard (ltN t P.types.size) ((P.info? t).bind (·.zero))
def mapEntry (C : Cfg) (s : St) (kt e : TypeId) (m key : Value) : Option Res :=
  withMap s m fun r es c => obind (seek C kt key es) fun q =>
    Option.casesOn q (obind (zeroVal C.P e) fun z => ret (.tuple #[z, i64 c]) (s.put r (.map (appL es [{ key := key, val := z, born := c }]) (Nat.succ c))))
      fun p => guard (keepsKey es p.1 key) (ret (.tuple #[p.2, i64 (bornAt es p.1)]) (s.put r (.map (modL (setKey key) es p.1) c)))
def lookup (C : Cfg) (s : St) (t : TypeId) (m key : Value) (ok : Bool) : Option Res :=
  match C.P.underlying t with
  | some (.map kt e) =>
    obind (match m with
      | .map none => seek C kt key []
      | .map (some r) => obind (getMap s r) fun q => seek C kt key q.1
      | _ => none) fun q => Option.casesOn q (obind (zeroVal C.P e) fun z => ret (sel ok (.tuple #[z, .bool false]) z) s) fun p => ret (sel ok (.tuple #[p.2, .bool true]) p.2) s
  | _ => none
def lenT (P : Program) (t : TypeId) : Option Nat :=
  match P.underlying t with
  | some (.array n _) => some n
  | _ => none
def bLen (P : Program) (s : St) (t : TypeId) (v : Value) : Option Res :=
  match P.underlying t with
  | some .string => match v with
    | .string b => ret (i64 (lenL b.data.toList)) s
    | _ => none
  | some (.slice _) => match v with
    | .slice _ n _ => ret (i64 n) s
    | .float _ n => ret (i64 n) s
    | .complex k lo hi => guard (!isF64 k) (ret (.complex .f64 lo hi) s)
    | _ => none
  | some (.map _ _) => match v with
    | .map none => ret (i64 0) s
    | .map (some r) => obind (getMap s r) fun q => ret (i64 (lenL q.1)) s
    | _ => none
  | some (.array n _) => ret (i64 n) s
  | some (.pointer a) => obind (lenT P a) fun n => ret (i64 n) s
  | _ => none
def bCap (P : Program) (s : St) (t : TypeId) (v : Value) : Option Res :=
  match P.underlying t with
  | some (.slice _) => match v with
    | .slice _ _ c => guard (ltN c halfCap) (ret (i64 c) s)
    | _ => none
  | _ => none
def bCopy (P : Program) (s : St) (t : TypeId) (d x : Value) : Option Res :=
  match P.underlying t with
  | some (.slice e) => match d with
    | .slice base dLen _ => obind (lenOf x) fun sl => obind (size P e) fun sz => obind (firstCells s sz (sel (Nat.ble sl dLen) sl dLen) x) fun new =>
        sel (Nat.beq (sel (Nat.ble sl dLen) sl dLen) 0) (ret (i64 0) s)
          (Option.casesOn base none fun a => obind (storeCells s a.block a.off new) fun s => ret (i64 (sel (Nat.ble sl dLen) sl dLen)) s)
    | _ => none
  | _ => none
def bClear (P : Program) (s : St) (t : TypeId) (d : Value) : Option Res :=
  guard (P.underlying t).isSome <| match d with
  | .slice base n _ => sel (Nat.beq n 0) (ret unit s) (Option.casesOn base (ret unit s) fun a =>
      match P.underlying t with
      | some (.slice e) => obind (zero P e) fun z => guard (Nat.ble 1 (lenL z)) (obind (storeCells s a.block a.off (repeatL n z)) fun s => ret unit s)
      | _ => none)
  | _ => none
def bMinMax (mx : Bool) (s : St) (x y : Value) : Option Res :=
  match x with
  | .int k a => match y with
    | .int _ b => ret (.int k (sel (sel mx (ltI a b) (ltI b a)) b a)) s
    | _ => none
  | _ => none
def bSliceData (s : St) (x : Value) : Option Res :=
  match x with
  | .slice none _ _ => ret (.pointer none) s
  | .slice (some a) _ c => guard (a.spot.isNone && !Nat.beq a.block deadId) (sel (ltN c halfCap) (guard (Nat.ble 1 c) (ret (.pointer (some a)) s))
      (obind (s.cells a.block) fun d => guard (Nat.beq c bigCap && (!Nat.beq d.2.2 0 && Nat.ble 1 (lenL d.1))) (ret (.pointer (some a)) s)))
  | _ => none
def killed (s : St) (b f : Nat) : St := { heap := s.heap.set b .other, fams := sel (Nat.beq f 0) s.fams (s.fams.set f []), next := s.next }
def bString (P : Program) (s : St) (t : TypeId) (x y : Value) : Option Res :=
  match x with
  | .pointer none => match y with
    | .int .i64 n => guard (eqI n 0) (ret (.string ⟨⟨[]⟩⟩) s)
    | _ => none
  | .pointer (some a) => match y with
    | .int .i64 n => obind (asNat (.int .i64 n)) fun n => obind (s.cells a.block) fun c => match P.underlying t with
      | some (.pointer e) => guard (Nat.beq e c.2.1 && (Nat.ble 1 n && (Nat.ble n 140737488355328 && Nat.ble fixedTop a.block))) <| obind (size P e) fun k => guard (Nat.beq k 1) <|
          obind (takeN n (dropL a.off c.1)) fun l => obind (bytesOf l) fun bs => some (.val (.string ⟨⟨bs⟩⟩) (killed s a.block c.2.2))
      | _ => none
    | _ => none
  | _ => none
def builtin (C : Cfg) (s : St) (b : Builtin) (T T2 : Option TypeId) (args : List Value) : Option Res :=
  match args with
  | [x] => match b with
    | .len => obind T fun t => bLen C.P s t x
    | .cap => obind T fun t => bCap C.P s t x
    | .clear => obind T fun t => bClear C.P s t x
    | .unsafeSliceData => bSliceData s x
    | _ => none
  | [x, y] => match b with
    | .append => obind T fun t => obind (append C.P s t T2 x y) toRes
    | .copy => obind T fun t => bCopy C.P s t x y
    | .min => bMinMax false s x y
    | .max => bMinMax true s x y
    | .unsafeString => obind T fun t => bString C.P s t x y
    | _ => none
  | _ => none
def callMethod (C : Cfg) (s : St) (t : TypeId) (v : Value) (name : String) (args : List Value) : Option Res :=
  obind (method C.P s t v name) fun q => callAny C s q.1 (q.2 :: args)
def callVia (C : Cfg) (s : St) (t : TypeId) (path : List FieldStep) (f : FuncId) (pr : Bool) (args : List Value) : Option Res :=
  match args with
  | x :: rest => obind (follow C.P s path t (.val x)) fun r => obind (receiver C.P s r.1 r.2 pr) fun v => callAny C s f (v :: rest)
  | [] => none
def callName (C : Cfg) (s : St) (name : String) (args : List Value) : Option Res :=
  match args with
  | .iface t v :: rest => callMethod C s t v name rest
  | _ => none
def callFn (C : Cfg) (s : St) (fn : Fn) (first captured args : List Value) : Option Res :=
  match fn with
  | .func f => callAny C s f (appL first (appL args captured))
  | .yield l => some (.yield l (appL first args) s)
  | .method name => callName C s name (appL first args)
  | .methodOf _ _ => none
  | .via t path f pr => callVia C s t path.toList f pr (appL first args)
def invoke (C : Cfg) (s : St) (f : Value) (args : List Value) : Option Res :=
  match f with
  | .func fn first captured => callFn C s fn first.toList captured.toList args
  | _ => none
def optEv (ev : Ev) (x : Option Operand) (k : Option Value → Option Res) : Option Res :=
  Option.casesOn x (k none) fun x => obind (ev x) fun v => k (some v)
def evs (ev : Ev) : List Operand → Option (List Value) := fun l => List.rec (some []) (fun x _ ih => obind (ev x) fun v => obind ih fun r => some (v :: r)) l
def evParts (ev : Ev) : List (Nat × Operand) → Option (List (Nat × Value)) := fun l => List.rec (some []) (fun x _ ih => obind (ev x.2) fun v => obind ih fun r => some ((x.1, v) :: r)) l
def oMove (C : Cfg) (ev : Ev) (s : St) (x : Operand) : Option Res := obind (ev x) fun v => ret v s
def oPick (C : Cfg) (ev : Ev) (s : St) (c a b : Operand) : Option Res :=
  obind (ev c) fun v => match v with
    | .bool c => sel c (oMove C ev s a) (oMove C ev s b)
    | _ => none
def oAlloc (C : Cfg) (s : St) (t : TypeId) : Option Res := obind (zero C.P t) fun z => s.new (.row z t 0) fun id s => ret (ptr id 0) s
def oBox (C : Cfg) (ev : Ev) (s : St) (t : TypeId) (x : Operand) : Option Res := obind (ev x) fun v => s.new (.row (cellsOf v) t 0) fun id s => ret (ptr id 0) s
def placeS (P : Program) (fs : List Field) (i : Nat) : Option (Nat × Nat) := obind (nth fs i) fun f => obind (size P f.type) fun n => some (f.offset, n)
def placeA (n i : Nat) : Option (Nat × Nat) := some (Nat.mul i n, n)
def placeT (P : Program) (t : TypeId) : Option (Nat → Option (Nat × Nat)) :=
  match P.underlying t with
  | some (.struct fs) => some (placeS P fs.toList)
  | some (.array _ e) => obind (size P e) fun n => some (placeA n)
  | _ => none
def oBuild (C : Cfg) (ev : Ev) (s : St) (t : TypeId) (parts : Array (Nat × Operand)) : Option Res :=
  obind (placeT C.P t) fun pl => obind (evParts ev parts.toList) fun ps => obind (zero C.P t) fun z => obind (fill pl ps z) fun l => ret (mkAgg l) s
def oBuildSlice (C : Cfg) (ev : Ev) (s : St) (t : TypeId) (len : Nat) (parts : Array (Nat × Operand)) : Option Res :=
  match C.P.underlying t with
  | some (.slice e) => obind (size C.P e) fun n => obind (zero C.P e) fun z => guard (Nat.beq (lenL z) n && Nat.ble 1 n && Nat.ble (Nat.mul len n) 16777216) <| obind (evParts ev parts.toList) fun ps =>
      obind (fill (placeA n) ps (repeatL len z)) fun l => s.new (.row l e 0) fun id s => ret (.slice (some ⟨id, 0, none⟩) len len) s
  | _ => none
def withPtr (ev : Ev) (a : Operand) (k : Addr → Option Res) : Option Res :=
  obind (ev a) fun v => match v with
    | .pointer (some a) => k a
    | _ => none
def oLoad (C : Cfg) (ev : Ev) (s : St) (t : TypeId) (a : Operand) : Option Res :=
  withPtr ev a fun a => obind (load C.P s t a.block a.off) fun v => ret v s
def oStore (C : Cfg) (ev : Ev) (s : St) (t : TypeId) (a x : Operand) : Option Res :=
  withPtr ev a fun a => obind (ev x) fun v => obind (store C.P s t a.block a.off (cellsOf v)) fun s => ret unit s
def okAhead (P : Program) (t : TypeId) (w : Value) (name : String) : Bool :=
  match findMethod P t name with
  | none => false
  | some m => sel m.path.isEmpty (match m.func, P.underlying t, w with
    | some (_, true), _, _ => true
    | some (_, false), some (.pointer _), .pointer (some _) => true
    | some (_, false), some (.pointer _), _ => false
    | some (_, false), some _, _ => true
    | _, _, _ => false) false
def okFunc (C : Cfg) (fn : Fn) (first : List Value) : Bool :=
  match fn with
  | .method name => match first with
    | .iface t w :: _ => okAhead C.P t w name
    | _ => false
  | _ => true
def oNilCheck (C : Cfg) (ev : Ev) (s : St) (x : Operand) : Option Res :=
  obind (ev x) fun v => match v with
    | .pointer (some a) => ret v s
    | .func fn first _ => guard (okFunc C fn first.toList) (ret v s)
    | .iface _ _ => ret v s
    | _ => none
def oBin (C : Cfg) (ev : Ev) (s : St) (op : BinOp) (t : TypeId) (x y : Operand) : Option Res :=
  obind (ev x) fun a => obind (ev y) fun b => guard (nilsOk C t x y a b) (obind (binOp C t op a b) fun v => ret v s)
def oUn (C : Cfg) (ev : Ev) (s : St) (op : UnOp) (x : Operand) : Option Res :=
  obind (ev x) fun x => obind (unOp op x) fun v => ret v s
def liesIn (l : List (Nat × Nat × Nat × Nat)) (e n o u : Nat) : Bool := List.rec false (fun p _ ih => sel (Nat.beq p.1 e && (Nat.beq p.2.1 n && (Nat.beq p.2.2.1 o && Nat.beq p.2.2.2 u))) true ih) l
def ptrTo (C : Cfg) (src : TypeId) (o : Nat) (c : List Value × TypeId × Nat) (x : Value) : Option Value :=
  match C.P.underlying src with
  | some (.pointer t) => obind (size C.P t) fun n => guard (Nat.ble 1 n && ltN o (lenL c.1)) (some x)
  | _ => none
def ptrFrom (C : Cfg) (src u : TypeId) (o : Nat) (c : List Value × TypeId × Nat) (x : Value) : Option Value :=
  match C.P.underlying src with
  | some .unsafePointer => guard (liesIn C.lies c.2.1 (lenL c.1) o u && (C.P.info? u).isSome) (some x)
  | _ => none
def convPtr (C : Cfg) (s : St) (src dst : TypeId) (x : Value) : Option Value :=
  match x with
  | .pointer (some a) => obind (s.cells a.block) fun c => guard (Nat.beq c.2.2 0) (match C.P.underlying dst with
    | some .unsafePointer => ptrTo C src a.off c x
    | some (.pointer u) => ptrFrom C src u a.off c x
    | _ => none)
  | _ => none
def oConvert (C : Cfg) (ev : Ev) (s : St) (src dst : TypeId) (x : Operand) : Option Res :=
  obind (ev x) fun x => Option.casesOn (convPtr C s src dst x) (obind (convert C.P s src dst x) toRes) fun v => ret v s
def oIface (C : Cfg) (ev : Ev) (s : St) (t : TypeId) (x : Operand) : Option Res :=
  guard (!isIface C.P t && (C.P.underlying t).isSome) (obind (ev x) fun x => ret (.iface t x) s)
def noYield (fn : Fn) : Bool :=
  match fn with
  | .yield _ => false
  | _ => true
def oFunc (C : Cfg) (ev : Ev) (s : St) (fn : Fn) (first captured : Array Operand) : Option Res :=
  guard (noYield fn) <| obind (evs ev first.toList) fun a => obind (evs ev captured.toList) fun b => ret (.func fn ⟨a⟩ ⟨b⟩) s
def isMap (P : Program) (t : TypeId) : Bool :=
  match P.underlying t with
  | some (.map _ _) => true
  | _ => false
def oMakeMap (C : Cfg) (ev : Ev) (s : St) (t : TypeId) (r : Option Operand) : Option Res :=
  Option.casesOn r (s.new (.map [] 0) fun id s => ret (.map (some id)) s) fun x => guard (isMap C.P t) <| obind (ev x) fun v => obind (asNat v) fun _ => s.new (.map [] 0) fun id s => ret (.map (some id)) s
def oMakeSlice (C : Cfg) (ev : Ev) (s : St) (t : TypeId) (l c : Operand) : Option Res :=
  match C.P.underlying t with
  | some (.slice e) => obind (ev l) fun l => obind (asNat l) fun l => obind (ev c) fun c => obind (asNat c) fun c => obind (C.P.info? e) fun i => obind (zero C.P e) fun z =>
      guard (Nat.beq (lenL z) i.size && Nat.ble 1 i.size && Nat.ble l c && Nat.ble c 100000 && Nat.ble (Nat.mul i.bytes c) 281474976710656) (s.new (.row (repeatL c z) e 0) fun id s => ret (.slice (some ⟨id, 0, none⟩) l c) s)
  | _ => none
def oSlice (C : Cfg) (ev : Ev) (s : St) (t : TypeId) (x : Operand) (lo hi mx : Option Operand) : Option Res :=
  obind (ev x) fun x => optEv ev lo fun lo => optEv ev hi fun hi => optEv ev mx fun mx => obind (sliceAny C.P s t x lo hi mx) toRes
def oFieldAddr (C : Cfg) (ev : Ev) (s : St) (t : TypeId) (x : Operand) (i : Nat) : Option Res :=
  withPtr ev x fun a => obind (fieldInfo C.P t i) fun f => obind (size C.P f.type) fun n => guard (!Nat.beq n 0) (ret (ptr a.block (Nat.add a.off f.offset)) s)
def oField (C : Cfg) (ev : Ev) (s : St) (t : TypeId) (x : Operand) (i : Nat) : Option Res :=
  obind (ev x) fun x => match x with
    | .agg cs => obind (fieldInfo C.P t i) fun f => obind (part C.P f.type cs.toList f.offset) fun v => ret v s
    | _ => none
def indexIn (C : Cfg) (s : St) (e : TypeId) (len i : Nat) (a : Addr) : Option Res :=
  guard (ltN i len) (obind (size C.P e) fun n => ret (ptr a.block (Nat.add a.off (Nat.mul i n))) s)
def oIndexAddr (C : Cfg) (ev : Ev) (s : St) (t : TypeId) (x i : Operand) : Option Res :=
  obind (ev x) fun x => obind (ev i) fun i => obind (asNat i) fun i => match C.P.underlying t with
    | some (.slice e) => match x with
      | .slice (some a) len _ => indexIn C s e len i a
      | _ => none
    | some (.array len e) => match x with
      | .pointer (some a) => indexIn C s e len i a
      | _ => none
    | _ => none
def oIndex (C : Cfg) (ev : Ev) (s : St) (t : TypeId) (x i : Operand) : Option Res :=
  obind (ev x) fun x => obind (ev i) fun i => obind (asNat i) fun i => match x with
    | .agg cs => match C.P.underlying t with
      | some (.array len e) => guard (ltN i len) (obind (size C.P e) fun n => obind (part C.P e cs.toList (Nat.mul i n)) fun v => ret v s)
      | _ => none
    | .string b => match C.P.underlying t with
      | some .string => obind (nth b.data.toList i) fun c => ret (.int .u8 (Int.ofNat c.toNat)) s
      | _ => none
    | _ => none
def oLookup (C : Cfg) (ev : Ev) (s : St) (t : TypeId) (m k : Operand) (ok : Bool) : Option Res :=
  obind (ev m) fun m => obind (ev k) fun k => lookup C s t m k ok
def oUpdate (C : Cfg) (ev : Ev) (s : St) (t : TypeId) (m k x : Operand) : Option Res :=
  match C.P.underlying t with
  | some (.map kt _) => obind (ev m) fun m => obind (ev k) fun k => obind (ev x) fun x => mapUpdate C s kt m k x
  | _ => none
def oEntry (C : Cfg) (ev : Ev) (s : St) (t : TypeId) (m k : Operand) : Option Res :=
  match C.P.underlying t with
  | some (.map kt e) => obind (ev m) fun m => obind (ev k) fun k => mapEntry C s kt e m k
  | _ => none
def AObj.iter? (o : AObj) : Option AIter :=
  match o with
  | .loop _ => none
  | .iter r => some r
def getIter (s : St) (l : Nat) : Option AIter :=
  match s.heap.get l with
  | some (.loop r) => r.iter?
  | _ => none
def getMapI (s : St) (m : Nat) : Option (List MapEntry × Nat) :=
  match s.heap.get m with
  | some (.map es c) => some (es, c)
  | _ => none
def leftOf (seen : List Nat) : List MapEntry → List MapEntry := fun l => List.rec [] (fun e _ ih => sel (elemN e.born seen) ih (e :: ih)) l
def allFrom (k : Nat) : List MapEntry → Bool := fun l => List.rec true (fun e _ ih => sel (Nat.ble k e.born) ih false) l
def isNilL {α : Type} (l : List α) : Bool := lcase l true fun _ _ => false
def lastN : List Nat → Option Nat := fun l => List.rec none (fun a _ ih => Option.casesOn ih (some a) some) l
def findBornI (k : Nat) : List MapEntry → Option MapEntry := fun l => List.rec none (fun e _ ih => sel (Nat.beq e.born k) (some e) ih) l
def oRange (C : Cfg) (ev : Ev) (s : St) (t : TypeId) (x : Operand) : Option Res :=
  guard (isMap C.P t) <| obind (ev x) fun v => match v with
    | .map (some m) => obind (getMapI s m) fun q => s.new (.loop (.iter { map := m, since := q.2, seen := [], stepped := q.2 })) fun id s => ret (ptr id 0) s
    | _ => none
def stepIter (s : St) (b : Nat) (r : AIter) (q : List MapEntry × Nat) : Option Res :=
  guard (isNilL r.seen || isNilL q.1 || !allFrom r.stepped q.1) <| lcase (leftOf r.seen q.1) (ret (.tuple ⟨[.bool false]⟩) s) fun e rest =>
    guard (isNilL rest && ltN e.born r.since) (ret (.tuple ⟨[.bool true, e.key, e.val]⟩) { heap := s.heap.set b (.loop (.iter { map := r.map, since := r.since, seen := appL r.seen [e.born], stepped := q.2 })), fams := s.fams, next := s.next })
def oNext (C : Cfg) (ev : Ev) (s : St) (x : Operand) (str : Bool) : Option Res :=
  guard (!str) <| obind (ev x) fun v => match v with
    | .pointer (some a) => guard (Nat.beq a.off 0) <| obind (getIter s a.block) fun r => obind (getMapI s r.map) fun q => stepIter s a.block r q
    | _ => none
def oIterEntry (C : Cfg) (ev : Ev) (s : St) (x : Operand) : Option Res :=
  obind (ev x) fun v => match v with
    | .pointer (some a) => guard (Nat.beq a.off 0) <| obind (getIter s a.block) fun r => obind (lastN r.seen) fun k => obind (getMapI s r.map) fun q => guard (Nat.beq q.2 r.stepped) <| obind (findBornI k q.1) fun e => ret (.tuple ⟨[e.key, e.val]⟩) s
    | _ => none
def failAssert (C : Cfg) (s : St) (asserted : TypeId) (ok : Bool) : Option Res :=
  guard ok (obind (zeroVal C.P asserted) fun z => ret (.tuple #[z, .bool false]) s)
def holdAssert (s : St) (v : Value) (ok : Bool) : Option Res := ret (sel ok (.tuple #[v, .bool true]) v) s
def oAssert (C : Cfg) (ev : Ev) (s : St) (x : Operand) (asserted : TypeId) (ok : Bool) : Option Res :=
  guard (C.P.underlying asserted).isSome <| obind (ev x) fun x => match x with
    | .nilIface => failAssert C s asserted ok
    | .iface t y => sel (isIface C.P asserted) (guard (C.P.info? t).isSome <| sel (missing C.P asserted t) (failAssert C s asserted ok) (holdAssert s x ok))
        (sel (Nat.beq t asserted) (holdAssert s y ok) (failAssert C s asserted ok))
    | _ => none
def oExtract (C : Cfg) (ev : Ev) (s : St) (x : Operand) (i : Nat) : Option Res :=
  obind (ev x) fun x => match x with
    | .tuple vs => obind (nth vs.toList i) fun v => ret v s
    | _ => none
def oCall (C : Cfg) (ev : Ev) (s : St) (c : Call) : Option Res :=
  obind (evs ev c.args.toList) fun args => match c.callee with
    | .builtin b => builtin C s b (nth c.argTypes.toList 0) (nth c.argTypes.toList 1) args
    | .value f => obind (ev f) fun f => invoke C s f args
    | .invoke r name => obind (ev r) fun r => callName C s name (r :: args)
def oDefer (C : Cfg) (ev : Ev) (s : St) (c : Call) : Option Res :=
  match c.callee with
  | .value f => obind (ev f) fun f => match f with
    | .func (.func f) first captured => obind (evs ev c.args.toList) fun args => some (.defer f (appL first.toList (appL args captured.toList)) s)
    | _ => none
  | _ => none
def oS2A (C : Cfg) (ev : Ev) (s : St) (arr : TypeId) (x : Operand) : Option Res :=
  obind (ev x) fun x => match C.P.underlying arr, x with
    | some (.array n _), .slice a len _ => guard (Nat.ble 1 n && Nat.ble n len) (ret (.pointer a) s)
    | _, _ => none
def execOp (C : Cfg) (ev : Ev) (s : St) (o : Op) : Option Res :=
  match o with
  | .move x => oMove C ev s x
  | .assign x => oMove C ev s x
  | .pick c a b => oPick C ev s c a b
  | .alloc t => oAlloc C s t
  | .box t x => oBox C ev s t x
  | .build t parts => oBuild C ev s t parts
  | .buildSlice t len parts => oBuildSlice C ev s t len parts
  | .load t a => oLoad C ev s t a
  | .store t a x => oStore C ev s t a x
  | .nilCheck x => oNilCheck C ev s x
  | .binOp op t x y _ => oBin C ev s op t x y
  | .unOp op _ x => oUn C ev s op x
  | .convert src dst x => oConvert C ev s src dst x
  | .makeInterface t x => oIface C ev s t x
  | .makeFunc fn first captured => oFunc C ev s fn first captured
  | .makeMap t r => oMakeMap C ev s t r
  | .makeSlice t l c => oMakeSlice C ev s t l c
  | .slice t x lo hi mx => oSlice C ev s t x lo hi mx
  | .fieldAddr t x f => oFieldAddr C ev s t x f
  | .field t x f => oField C ev s t x f
  | .indexAddr t x i => oIndexAddr C ev s t x i
  | .index t x i => oIndex C ev s t x i
  | .lookup t m k ok => oLookup C ev s t m k ok
  | .mapUpdate t m k x => oUpdate C ev s t m k x
  | .insert t m k x => oUpdate C ev s t m k x
  | .mapEntry t m k => oEntry C ev s t m k
  | .range t x => oRange C ev s t x
  | .next x str => oNext C ev s x str
  | .entry x => oIterEntry C ev s x
  | .typeAssert x _ asserted ok => oAssert C ev s x asserted ok
  | .extract x i => oExtract C ev s x i
  | .call c => oCall C ev s c
  | .defer c => oDefer C ev s c
  | .sliceToArrayPointer arr x => oS2A C ev s arr x
  | _ => none
def findLoc (t : Nat) : List (Nat × Value) → Option Value := fun l => List.rec none (fun p _ ih => sel (Nat.beq p.1 t) (some p.2) ih) l
def Fr.ev (n : Nat) (fr : Fr) (x : Operand) : Option Value :=
  match x with
  | .tmp t => sel (ltN t n) (fr.vars.get t) (findLoc t fr.loc)
  | .const v => some v
  | .global g => some (ptr g 0)
  | .func f => some (.func (.func f) #[] #[])
def Fr.put (n : Nat) (fr : Fr) (dst : Option Tmp) (v : Value) : Fr :=
  Option.casesOn dst fr fun d => sel (ltN d n) { vars := fr.vars.set d v, loc := fr.loc, defers := fr.defers } { vars := fr.vars, loc := (d, v) :: fr.loc, defers := fr.defers }
def Fr.fresh (fr : Fr) : Fr := { vars := fr.vars, loc := [], defers := fr.defers }
def isBool (w : Bool) (v : Value) : Bool :=
  match v with
  | .bool b => b == w
  | _ => false
def guardOk (n : Nat) (ops : List Oper) (fr : Fr) (g : Option (Nat × Bool)) : Option Bool :=
  Option.casesOn g (some true) fun g => obind (nth ops g.1) fun o => obind o.dst fun d => obind (Fr.ev n fr (.tmp d)) fun v => some (isBool g.2 v)
abbrev CallT := FuncId → List Value → St → Option (Value × St)
abbrev YieldT := Nat → List Value → St → Option (Value × St)
abbrev OpsK := Fr → St → Option (Fr × St)
def afterOp (call : CallT) (yield : YieldT) (rd : Bool) (n : Nat) (fr : Fr) (dst : Option Tmp) (k : OpsK) (r : Res) : Option (Fr × St) :=
  match r with
  | .val v s => k (fr.put n dst v) s
  | .call f args s => obind (call f args s) fun q => k (fr.put n dst q.1) q.2
  | .yield l args s => obind (yield l args s) fun q => k (fr.put n dst q.1) q.2
  | .defer f args s => sel rd none (k (Fr.put n { vars := fr.vars, loc := fr.loc, defers := (f, args) :: fr.defers } dst unit) s)
def oneOp (C : Cfg) (call : CallT) (yield : YieldT) (rd : Bool) (n : Nat) (all : List Oper) (o : Oper) (k : OpsK) (fr : Fr) (s : St) : Option (Fr × St) :=
  obind (guardOk n all fr o.guard) fun g => sel g (obind (execOp C (fr.ev n) s o.op) (afterOp call yield rd n fr o.dst k)) (k (fr.put n o.dst unit) s)
def execOps (C : Cfg) (call : CallT) (yield : YieldT) (rd : Bool) (n : Nat) (all : List Oper) (ops : List Oper) : OpsK :=
  List.rec (fun fr s => some (fr, s)) (fun o _ ih => oneOp C call yield rd n all o ih) ops
def allV (f : Value → Bool) : List Value → Bool := fun l => List.rec true (fun a _ ih => sel (f a) ih false) l
def pureStep (f : Value → Bool) (v : Value) : Bool :=
  match v with
  | .bool _ | .int _ _ | .string _ | .nilFunc | .nilIface => true
  | .pointer a => a.isNone
  | .slice a _ _ => a.isNone
  | .map a => a.isNone
  | .iface _ v => f v
  | .agg ⟨l⟩ => allV f l
  | .tuple ⟨l⟩ => allV f l
  | .func (.func _) ⟨a⟩ ⟨b⟩ => allV f a && allV f b
  | _ => false
def pureV : Nat → Value → Bool := fun n => Nat.rec (fun _ => false) (fun _ ih => pureStep ih) n
def okOpnd (x : Operand) : Bool :=
  match x with
  | .const v => pureV 5 v
  | .global g => ltN g lowTop
  | _ => true
def okOpnds : List Operand → Bool := fun l => List.rec true (fun a _ ih => sel (okOpnd a) ih false) l
def dstOk (nt : Nat) (d : Option Tmp) : Bool := Option.casesOn d true fun d => ltN d nt
def cls (o : Op) : Nat :=
  match o with
  | .move _ | .assign _ | .pick .. | .build .. | .field .. | .fieldAddr .. | .indexAddr .. | .index .. | .binOp .. | .unOp .. | .makeInterface .. | .makeFunc .. | .nilCheck _ | .typeAssert .. | .extract .. | .sliceToArrayPointer .. => 0
  | .load .. | .lookup .. | .slice .. | .convert .. => 1
  | .alloc _ | .box .. | .buildSlice .. | .makeSlice .. => 2
  | .call c => match c.callee with
    | .builtin b => match b with
      | .len | .cap | .min | .max => 1
      | _ => 3
    | _ => 3
  | _ => 3
def optL (x : Option Operand) (l : List Operand) : List Operand := Option.casesOn x l fun x => x :: l
def opnds (o : Op) : List Operand :=
  match o with
  | .move x | .assign x | .nilCheck x => [x]
  | .pick c a b => [c, a, b]
  | .box _ x => [x]
  | .build _ parts => mapL (fun p => p.2) parts.toList
  | .buildSlice _ _ parts => mapL (fun p => p.2) parts.toList
  | .load _ a => [a]
  | .store _ a x => [a, x]
  | .binOp _ _ x y _ => [x, y]
  | .unOp _ _ x => [x]
  | .convert _ _ x => [x]
  | .makeInterface _ x => [x]
  | .makeFunc _ a b => appL a.toList b.toList
  | .makeMap _ r => optL r []
  | .makeSlice _ l c => [l, c]
  | .slice _ x lo hi mx => x :: optL lo (optL hi (optL mx []))
  | .fieldAddr _ x _ | .field _ x _ => [x]
  | .indexAddr _ x i | .index _ x i => [x, i]
  | .lookup _ m k _ => [m, k]
  | .mapUpdate _ m k x => [m, k, x]
  | .insert _ m k x => [m, k, x]
  | .mapEntry _ m k => [m, k]
  | .range _ x | .next x _ | .entry x => [x]
  | .typeAssert x _ _ _ => [x]
  | .extract x _ => [x]
  | .call c | .defer c => match c.callee with
    | .builtin _ => c.args.toList
    | .value f => f :: c.args.toList
    | .invoke r _ => r :: c.args.toList
  | .sliceToArrayPointer _ x => [x]
  | _ => []
def okOper (nt : Nat) (o : Oper) : Bool := dstOk nt o.dst && okOpnds (opnds o.op)
def okOpers (nt : Nat) : List Oper → Bool := fun l => List.rec true (fun a _ ih => sel (okOper nt a) ih false) l
def okTmps (nt : Nat) : List Nat → Bool := fun l => List.rec true (fun a _ ih => sel (ltN a nt) ih false) l
def okCode (nt : Nat) (c : Code) : Bool :=
  Code.rec (motive := fun _ => Bool) true (fun _ ops _ => okOpers nt ops.toList) (fun _ _ a b => sel a b false) (fun c _ _ a b => sel (okOpnd c) (sel a b false) false) (fun _ _ a => a) (fun _ a => a)
    (fun f ps _ _ a b => sel (okOpnd f && okTmps nt ps.toList) (sel a b false) false) (fun _ => true) (fun _ a => a) (fun _ => true) (fun _ => true) true (fun _ => true) c
def bindsE (e : Edge) : Bool :=
  match e.ground with
  | .textOnly _ => false
  | .gcOnly _ => false
  | _ => true
def hasBit (m j : Nat) : Bool := Nat.beq (Nat.mod (Nat.div m (Nat.pow 2 j)) 2) 1
def orBit (m j : Nat) : Nat := Nat.lor m (Nat.pow 2 j)
def nthN (l : List Nat) (i : Nat) : Nat := Option.casesOn (nth l i) 0 id
def maskOf (acc : List Nat) : List Edge → Nat := fun l =>
  List.rec 0 (fun e _ m => sel (bindsE e) (Nat.lor (orBit m e.on) (nthN acc e.on)) m) l
def lowEdges (i : Nat) : List Edge → Bool := fun l => List.rec true (fun e _ ih => sel (bindsE e) (sel (Nat.ble (Nat.succ e.on) i) ih false) ih) l
def tmpBit (x : Operand) (m : Nat) : Nat :=
  match x with
  | .tmp t => orBit m t
  | _ => m
def tmpBits (m : Nat) : List Operand → Nat := fun l => List.rec m (fun x _ ih => tmpBit x ih) l
def dstBits (d : Option Tmp) : Nat := Option.casesOn d 0 fun t => orBit 0 t
def guardBits (all : List Oper) (g : Option (Nat × Bool)) : Nat := Option.casesOn g 0 fun g => Option.casesOn (nth all g.1) 0 fun o => dstBits o.dst
structure Info where
  i : Nat
  op : Oper
  mask : Nat
  cls : Nat
  dst : Nat
  names : Nat
def infoOf (all : List Oper) (i m : Nat) (o : Oper) : Info := { i := i, op := o, mask := m, cls := cls o.op, dst := dstBits o.dst, names := Nat.lor (tmpBits (dstBits o.dst) (opnds o.op)) (guardBits all o.guard) }
def infosF (all : List Oper) : List Oper → Nat → List Nat → Option (List Info) := fun l =>
  List.rec (fun _ _ => some []) (fun o _ ih i acc => guard (lowEdges i o.after.toList) (obind (ih (Nat.succ i) (appL acc [maskOf acc o.after.toList])) fun r => some (infoOf all i (maskOf acc o.after.toList) o :: r))) l
def infos (all : List Oper) : Option (List Info) := infosF all all 0 []
def disj (a b : Nat) : Bool := Nat.beq (Nat.land a b) 0
def ordered (a b : Info) : Bool := !(disj a.dst b.names && disj b.dst a.names) || (Nat.ble 2 a.cls && Nat.beq (Nat.mod b.cls 2) 1)
def okPair (a b : Info) : Bool := sel (ordered a b) (hasBit b.mask a.i) true
def okPairs : List Info → Bool := fun l => List.rec true (fun a t ih => sel (List.rec true (fun b _ q => sel (okPair a b) q false) t) ih false) l
def nodupL : List Info → Nat → Bool := fun l => List.rec (fun _ => true) (fun a _ ih m => sel (hasBit m a.i) false (ih (orBit m a.i))) l
def loud (i : Nat) (a : Info) : Info := sel (Nat.ble 1000 i) { i := a.i, op := a.op, mask := a.mask, cls := 3, dst := a.dst, names := a.names } a
def pickAll (l : List Info) : List Nat → Option (List Info) := fun p => List.rec (some []) (fun i _ ih => obind (nth l (Nat.mod i 1000)) fun a => obind ih fun r => some (loud i a :: r)) p
def bitsOf : List Info → Nat → Nat := fun l => List.rec (fun m => m) (fun a _ ih m => ih (orBit m a.i)) l
def covers (m n : Nat) : Bool := Nat.rec true (fun k ih => sel (hasBit m k) ih false) n
def planOf (all : List Oper) (order : List Nat) : Option (List Info) :=
  obind (infos all) fun l => obind (pickAll l order) fun r => guard (nodupL r 0 && covers (bitsOf r 0) (lenL all) && okPairs r) (some r)
def aOp (C : Cfg) (ev : Ev) (o : Op) : Option (Row × (Nat → Value)) :=
  match o with
  | .alloc t => obind (zero C.P t) fun z => some (.row z t 0, fun id => ptr id 0)
  | .box t x => obind (ev x) fun v => some (.row (cellsOf v) t 0, fun id => ptr id 0)
  | .buildSlice t len parts => match C.P.underlying t with
    | some (.slice e) => obind (size C.P e) fun n => obind (zero C.P e) fun z => guard (Nat.beq (lenL z) n && Nat.ble 1 n && Nat.ble (Nat.mul len n) 16777216) <| obind (evParts ev parts.toList) fun ps =>
        obind (fill (placeA n) ps (repeatL len z)) fun l => some (.row l e 0, fun id => .slice (some ⟨id, 0, none⟩) len len)
    | _ => none
  | .makeSlice t l c => match C.P.underlying t with
    | some (.slice e) => obind (ev l) fun l => obind (asNat l) fun l => obind (ev c) fun c => obind (asNat c) fun c => obind (C.P.info? e) fun i => obind (zero C.P e) fun z =>
        guard (Nat.beq (lenL z) i.size && Nat.ble 1 i.size && Nat.ble l c && Nat.ble c 100000 && Nat.ble (Nat.mul i.bytes c) 281474976710656) (some (.row (repeatL c z) e 0, fun id => .slice (some ⟨id, 0, none⟩) l c))
    | _ => none
  | _ => none
def quietV (s : St) (v : Value) : Bool :=
  match v with
  | .slice (some a) _ _ => ltN a.block s.next
  | _ => true
structure Pend where
  i : Nat
  op : Op
  fr : Fr
  v : Value
def lookAgain (C : Cfg) (n : Nat) (s : St) (p : Pend) : Bool :=
  Option.casesOn (execOp C (p.fr.ev n) s p.op) false fun r => match r with
    | .val v _ => quietV s v && sameV 4 p.v v
    | _ => false
def lookAll (C : Cfg) (n : Nat) (s : St) (m : Nat) : List Pend → Bool := fun l => List.rec true (fun p _ ih => sel (hasBit m p.i || lookAgain C n s p) ih false) l
def freeIds (s : St) (base : Nat) : List Info → Bool := fun l => List.rec true (fun a _ ih => sel (Nat.beq a.cls 2) (sel (s.heap.get (Nat.add base a.i)).isNone ih false) ih) l
def quietCall (C : Cfg) (r : Res) : Bool :=
  match r with
  | .call f args _ => Option.casesOn (C.insert f) false fun t => conQuiet t args
  | _ => false
def quietOp (o : Op) : Bool :=
  match o with
  | .call c => match c.callee with
    | .value _ => true
    | _ => false
  | _ => false
abbrev DrawK := Bool → List Pend → Fr → St → Option (Fr × St)
def drawLoud (C : Cfg) (call : CallT) (yield : YieldT) (rd : Bool) (n : Nat) (base : Nat) (a : Info) (rest : List Info) (k : DrawK) (cl : Bool) (pend : List Pend) (fr : Fr) (r : Res) : Option (Fr × St) :=
  sel (cl && (quietOp a.op.op && quietCall C r)) (afterOp call yield rd n fr a.op.dst (fun fr s => guard (freeIds s base rest) (k true pend fr s)) r)
    (afterOp call yield rd n fr a.op.dst (fun fr s => guard (lookAll C n s a.mask pend && freeIds s base rest) (k false pend fr s)) r)
def drawOne (C : Cfg) (call : CallT) (yield : YieldT) (rd : Bool) (n : Nat) (all : List Oper) (base : Nat) (a : Info) (rest : List Info) (k : DrawK) (cl : Bool) (pend : List Pend) (fr : Fr) (s : St) : Option (Fr × St) :=
  obind (guardOk n all fr a.op.guard) fun g => sel g
    (ncase a.cls
      (obind (execOp C (fr.ev n) s a.op.op) fun r => match r with
        | .val v _ => k cl pend (fr.put n a.op.dst v) s
        | _ => none)
      fun c1 => ncase c1
        (obind (execOp C (fr.ev n) s a.op.op) fun r => match r with
          | .val v _ => guard (quietV s v) (k cl ({ i := a.i, op := a.op.op, fr := fr, v := v } :: pend) (fr.put n a.op.dst v) s)
          | _ => none)
        fun c2 => ncase c2
          (obind (aOp C (fr.ev n) a.op.op) fun q => k false pend (fr.put n a.op.dst (q.2 (Nat.add base a.i))) { heap := s.heap.set (Nat.add base a.i) q.1, fams := s.fams, next := s.next })
          fun _ => obind (execOp C (fr.ev n) s a.op.op) (drawLoud C call yield rd n base a rest k cl pend fr))
    (k cl pend (fr.put n a.op.dst unit) s)
def drawL (C : Cfg) (call : CallT) (yield : YieldT) (rd : Bool) (n : Nat) (all : List Oper) (base : Nat) (l : List Info) : DrawK :=
  List.rec (fun _ _ fr s => some (fr, s)) (fun a rest ih => drawOne C call yield rd n all base a rest ih) l
def execDraw (C : Cfg) (call : CallT) (yield : YieldT) (rd : Bool) (n : Nat) (all : List Oper) (order : List Nat) (fr : Fr) (s : St) : Option (Fr × St) :=
  obind (planOf all order) fun l => drawL C call yield rd n all s.next l true [] fr { heap := s.heap, fams := s.fams, next := Nat.add s.next (lenL all) }
abbrev Out := Option (Ex × Fr × St)
abbrev Run := Fr → St → Out
def iterNext (k : Run) (r : Ex × Fr × St) : Out :=
  match r.1 with
  | .normal => k r.2.1 r.2.2
  | _ => some r
def iter (f : Run) : Nat → Run := fun n => Nat.rec (fun _ _ => none) (fun _ ih fr s => obind (f fr s) (iterNext ih)) n
def getLoop (s : St) (l : Nat) : Option ALoop :=
  match s.heap.get l with
  | some (.loop r) => r.loop?
  | _ => none
def setLoop (s : St) (l : Nat) (r : ALoop) (state : LoopState) (pending : Option Code) : St :=
  { heap := s.heap.set l (.loop (.loop { state := state, pending := pending, fn := r.fn, vars := r.vars, params := r.params, assign := r.assign, body := r.body, n := r.n })), fams := s.fams, next := s.next }
def notBusy (x : LoopState) : Bool :=
  match x with
  | .busy => false
  | _ => true
def afterRange (fr : Fr) (s : St) (l : Nat) (r : ALoop) : Out :=
  guard (notBusy r.state) <| match r.pending with
  | none => some (.normal, fr, setLoop s l r .exhausted r.pending)
  | some .ret => some (.ret, fr, setLoop s l r .exhausted r.pending)
  | some (.exit id) => some (.exit id, fr, setLoop s l r .exhausted r.pending)
  | some _ => none
def rangeCall (C : Cfg) (call : CallT) (fr : Fr) (l : Nat) (f : Value) (s : St) : Out :=
  obind (invoke C s f [.func (.yield l) #[] #[]]) fun r => match r with
    | .call g args s => obind (call g args s) fun q => obind (getLoop q.2 l) fun r => afterRange fr q.2 l r
    | _ => none
def rangeFunc (C : Cfg) (call : CallT) (n : Nat) (fn : FuncId) (inRound : Bool) (f : Operand) (params : Array Tmp) (assign body : Code) (fr : Fr) (s : St) : Out :=
  sel inRound none <| obind (fr.ev n f) fun f => s.new .other fun _ s =>
    s.new (.loop (.loop { state := .ready, pending := none, fn := fn, vars := fr.vars, params := params.toList, assign := assign, body := body, n := n })) fun l s => rangeCall C call fr l f s
def condRun (a b : Run) (fr : Fr) (s : St) (v : Value) : Out :=
  match v with
  | .bool c => sel c (a fr s) (b fr s)
  | _ => none
def blockEnd (id : Nat) (r : Ex × Fr × St) : Out :=
  match r.1 with
  | .exit id' => sel (Nat.beq id id') (some (.normal, r.2)) (some r)
  | _ => some r
def firstReg (c : Code) : Nat :=
  Code.rec (motive := fun _ => Nat) 0 (fun id _ _ => id) (fun _ _ a _ => a) (fun _ _ _ a _ => a) (fun _ _ a => a) (fun _ a => a) (fun _ _ _ _ a _ => a) (fun _ => 0) (fun _ a => a) (fun _ => 0) (fun _ => 0) 0 (fun _ => 0) c
def loopAlt (C : Cfg) (fn : FuncId) (rd : Bool) (body : Code) (it : Run) (fr : Fr) (s : St) : Out :=
  sel rd (it fr s) (Option.casesOn (C.loopc fn (firstReg body)) (it fr s) fun F => Option.casesOn (F fr s).run (it fr s) some)
def exec (C : Cfg) (call : CallT) (yield : YieldT) (n : Nat) (fn : FuncId) (inRound : Bool) (c : Code) : Run :=
  Code.rec (motive := fun _ => Run)
    (fun fr s => some (.normal, fr, s))
    (fun id ops draw fr s => obind (sel draw (execDraw C call yield inRound n ops.toList (C.order fn id) fr.fresh s) (execOps C call yield inRound n ops.toList ops.toList fr.fresh s)) fun r => some (.normal, r))
    (fun _ _ a b fr s => obind (a fr s) (iterNext b))
    (fun c _ _ a b fr s => obind (fr.ev n c) (condRun a b fr s))
    (fun id _ a fr s => obind (a fr s) (blockEnd id))
    (fun b a fr s => loopAlt C fn inRound b (iter a 100000) fr s)
    (fun f params assign body _ _ fr s => rangeFunc C call n fn inRound f params assign body fr s)
    (fun id fr s => some (.exit id, fr, s))
    (fun _ a fr s => sel inRound none (a fr s))
    (fun _ fr s => some (.normal, fr, s))
    (fun _ _ _ => none)
    (fun fr s => some (.ret, fr, s))
    (fun _ _ _ => none) c
def resultOf (P : Program) (n : Nat) (fr : Fr) (s : St) (r : ResultVar) : Option Value :=
  match r with
  | .tmp t => fr.ev n (.tmp t)
  | .cell a t => obind (fr.ev n (.tmp a)) fun v => match v with
    | .pointer (some a) => load P s t a.block a.off
    | _ => none
def results (P : Program) (n : Nat) (fr : Fr) (s : St) : List ResultVar → Option (List Value) := fun l =>
  List.rec (some []) (fun r _ ih => obind (resultOf P n fr s r) fun v => obind ih fun vs => some (v :: vs)) l
def unwind (call : CallT) : List (FuncId × List Value) → St → Option St := fun l =>
  List.rec (fun s => some s) (fun d _ ih s => obind (call d.1 d.2 s) fun q => ih q.2) l
def noRange (c : Code) : Bool :=
  Code.rec (motive := fun _ => Bool) true (fun _ _ _ => true) (fun _ _ a b => sel a b false) (fun _ _ _ a b => sel a b false) (fun _ _ a => a) (fun _ a => a) (fun _ _ _ _ _ _ => false) (fun _ => true) (fun _ a => a) (fun _ => true) (fun _ => true) true (fun _ => true) c
def tuple (vs : List Value) : Value :=
  match vs with
  | [v] => v
  | vs => .tuple ⟨vs⟩
def setVars (vs : List Value) : Nat → Tr Value → Tr Value := List.rec (fun _ t => t) (fun v _ ih i t => ih (Nat.succ i) (t.set i v)) vs
def setPairs (ps : List Nat) : List Value → Tr Value → Option (Tr Value) :=
  List.rec (fun vs t => lcase vs (some t) (fun _ _ => none)) (fun p _ ih vs t => lcase vs none (fun v r => ih r (t.set p v))) ps
def startFr (args : List Value) : Fr := { vars := setVars args 0 .e, loc := [], defers := [] }
def finishD (C : Cfg) (f : FuncId) (r : Ex × Fr × St) : Option (Value × St) :=
  match r.1 with
  | .exit _ => none
  | _ => lcase r.2.1.defers (obind (results C.P (C.vars f) r.2.1 r.2.2 (C.results f)) fun vs => some (tuple vs, r.2.2)) fun _ _ => none
def callD (C : Cfg) (call : CallT) (yield : YieldT) (f : FuncId) (args : List Value) (s : St) : Option (Value × St) :=
  obind (C.body f) fun c => guard (noRange c) (obind (exec C call yield (C.vars f) f false c (startFr args) s) (finishD C f))
def isRecover (o : Op) : Bool :=
  match o with
  | .call c => match c.callee with
    | .builtin b => match b with
      | .recover => match c.args.toList with
        | [] => true
        | _ => false
      | _ => false
    | _ => false
  | _ => false
def plainOp (C : Cfg) (n : Nat) (o : Oper) (k : OpsK) (fr : Fr) (s : St) : Option (Fr × St) :=
  obind (execOp C (fr.ev n) s o.op) fun r => match r with
    | .val v s => k (fr.put n o.dst v) s
    | _ => none
def oneR (C : Cfg) (n : Nat) (all : List Oper) (o : Oper) (k : OpsK) (fr : Fr) (s : St) : Option (Fr × St) :=
  obind (guardOk n all fr o.guard) fun g => sel g (sel (isRecover o.op) (k (fr.put n o.dst .nilIface) s) (plainOp C n o k fr s)) (k (fr.put n o.dst unit) s)
def opsR (C : Cfg) (n : Nat) (all : List Oper) (ops : List Oper) : OpsK :=
  List.rec (fun fr s => some (fr, s)) (fun o _ ih => oneR C n all o ih) ops
def execR (C : Cfg) (n : Nat) (c : Code) : Run :=
  Code.rec (motive := fun _ => Run)
    (fun fr s => some (.normal, fr, s))
    (fun _ ops draw fr s => sel draw none (obind (opsR C n ops.toList ops.toList fr.fresh s) fun r => some (.normal, r)))
    (fun _ _ a b fr s => obind (a fr s) (iterNext b))
    (fun c _ _ a b fr s => obind (fr.ev n c) (condRun a b fr s))
    (fun _ _ _ _ _ => none)
    (fun _ _ _ _ => none)
    (fun _ _ _ _ _ _ _ _ => none)
    (fun _ _ _ => none)
    (fun _ _ _ _ => none)
    (fun _ _ _ => none)
    (fun _ _ _ => none)
    (fun fr s => some (.ret, fr, s))
    (fun _ _ _ => none) c
def callR (C : Cfg) (f : FuncId) (args : List Value) (s : St) : Option (Value × St) :=
  obind (C.body f) fun c => obind (execR C (C.vars f) c (startFr args) s) (finishD C f)
def callDR (C : Cfg) (call : CallT) (yield : YieldT) (f : FuncId) (args : List Value) (s : St) : Option (Value × St) :=
  Option.casesOn (callD C call yield f args s) (callR C f args s) some
def finish (C : Cfg) (dcall : CallT) (f : FuncId) (r : Ex × Fr × St) : Option (Value × St) :=
  match r.1 with
  | .exit _ => none
  | _ => obind (unwind dcall r.2.1.defers r.2.2) fun s => obind (results C.P (C.vars f) r.2.1 s (C.results f)) fun vs => some (tuple vs, s)
def callBody (C : Cfg) (call : CallT) (yield : YieldT) (f : FuncId) (args : List Value) (s : St) : Option (Value × St) :=
  obind (C.body f) fun c => obind (exec C call yield (C.vars f) f false c (startFr args) s) (finish C (callDR C call yield) f)
def callStep (C : Cfg) (call : CallT) (yield : YieldT) (f : FuncId) (args : List Value) (s : St) : Option (Value × St) :=
  Option.casesOn (C.insert f) (callBody C call yield f args s) fun t => Option.casesOn (runCon C t s args) (callBody C call yield f args s) some
def endRound (l : Nat) (q : Ex × Fr × St) : Option (Value × St) :=
  lcase q.2.1.defers (obind (getLoop q.2.2 l) fun r =>
    match q.1 with
    | .normal => some (.bool true, setLoop q.2.2 l r .ready none)
    | .ret => some (.bool false, setLoop q.2.2 l r .done (some .ret))
    | .exit id => some (.bool false, setLoop q.2.2 l r .done (some (.exit id)))) fun _ _ => none
def roundBody (C : Cfg) (call : CallT) (yield : YieldT) (l : Nat) (r0 : ALoop) (q : Ex × Fr × St) : Option (Value × St) :=
  match q.1 with
  | .normal => obind (getLoop q.2.2 l) fun r => match r.state with
    | .ready => obind (exec C call yield r0.n r0.fn true r0.body q.2.1 (setLoop q.2.2 l r .busy r.pending)) (endRound l)
    | _ => none
  | _ => none
def yieldStep (C : Cfg) (call : CallT) (yield : YieldT) (l : Nat) (args : List Value) (s : St) : Option (Value × St) :=
  obind (getLoop s l) fun r => obind (setPairs r.params args r.vars) fun vars =>
    obind (exec C call yield r.n r.fn true r.assign { vars := vars, loc := [], defers := [] } s) (roundBody C call yield l r)
def runN (C : Cfg) (n : Nat) : CallT × YieldT :=
  Nat.rec (fun _ _ _ => none, fun _ _ _ => none) (fun _ ih => (callStep C ih.1 ih.2, yieldStep C ih.1 ih.2)) n
end
end Go.Ax
namespace Go.Ax
open Go
def decode : Path → Nat
  | [] => 0
  | b :: p => (if b then 1 else 0) + 2 * decode p
theorem pathF_succ (d k : Nat) : pathF (d + 1) (k + 1) = Nat.beq (Nat.mod (k + 1) 2) 1 :: pathF d (Nat.div (k + 1) 2) := rfl
theorem decode_pathF (d : Nat) : ∀ k, k < d → decode (pathF d k) = k := by
  induction d with
  | zero => intro k h; omega
  | succ d ih =>
    intro k h
    cases k with
    | zero => rfl
    | succ k =>
      rw [pathF_succ]
      have h2 : Nat.div (k + 1) 2 < d := by show (k + 1) / 2 < d; omega
      simp only [decode, ih _ h2]
      show (if Nat.beq ((k + 1) % 2) 1 = true then 1 else 0) + 2 * ((k + 1) / 2) = k + 1
      by_cases hm : (k + 1) % 2 = 1
      · simp [hm]; omega
      · have h0 : (k + 1) % 2 = 0 := by omega
        simp [h0]; omega
theorem path_inj {j k : Nat} (h : path j = path k) : j = k := by
  rw [← decode_pathF (Nat.succ j) j (Nat.lt_succ_self j), ← decode_pathF (Nat.succ k) k (Nat.lt_succ_self k)]
  exact congrArg decode h
section
variable {α : Type}
theorem getP_nil (t : Tr α) : Tr.getP [] t = t.val := rfl
theorem getP_cons_n (b : Bool) (p : Path) (v : Option α) (x y : Tr α) : Tr.getP (b :: p) (.n v x y) = Tr.getP p (if b then y else x) := by cases b <;> rfl
theorem getP_e (p : Path) : Tr.getP p (.e : Tr α) = none := by cases p <;> rfl
theorem setP_nil (a : α) (t : Tr α) : Tr.setP a [] t = .n (some a) t.left t.right := by cases t <;> rfl
theorem setP_true (a : α) (p : Path) (t : Tr α) : Tr.setP a (true :: p) t = .n t.val t.left (Tr.setP a p t.right) := by cases t <;> rfl
theorem setP_false (a : α) (p : Path) (t : Tr α) : Tr.setP a (false :: p) t = .n t.val (Tr.setP a p t.left) t.right := by cases t <;> rfl
theorem getP_cons (b : Bool) (p : Path) (t : Tr α) : Tr.getP (b :: p) t = Tr.getP p (if b then t.right else t.left) := by
  cases t with
  | e => cases b <;> simp [Tr.left, Tr.right, getP_e]
  | n v x y => rw [getP_cons_n]; cases b <;> rfl
theorem getP_setP (a : α) (p : Path) : ∀ (q : Path) (t : Tr α), Tr.getP q (Tr.setP a p t) = if q = p then some a else Tr.getP q t := by
  induction p with
  | nil =>
    intro q t
    cases q with
    | nil => rw [setP_nil]; simp [getP_nil, Tr.val]
    | cons b q => rw [setP_nil, getP_cons_n, getP_cons]; cases b <;> simp
  | cons c p ih =>
    intro q t
    cases q with
    | nil => cases c <;> simp [setP_true, setP_false, getP_nil, Tr.val]
    | cons b q =>
      rw [getP_cons b q t]
      cases c <;> cases b <;> simp [setP_true, setP_false, getP_cons_n, ih]
theorem Tr.get_set (t : Tr α) (k : Nat) (a : α) (j : Nat) : (t.set k a).get j = if j = k then some a else t.get j := by
  unfold Tr.get Tr.set
  rw [getP_setP]
  by_cases h : j = k
  · simp [h]
  · have : path j ≠ path k := fun e => h (path_inj e)
    simp [h, this]
theorem Tr.get_set_same (t : Tr α) (k : Nat) (a : α) : (t.set k a).get k = some a := by rw [Tr.get_set]; simp
theorem Tr.get_set_other (t : Tr α) {k j : Nat} (a : α) (h : j ≠ k) : (t.set k a).get j = t.get j := by rw [Tr.get_set]; simp [h]
theorem Tr.get_e (k : Nat) : (Tr.e : Tr α).get k = none := getP_e _
end
section
variable {α : Type}
theorem Hp.get_s (b lo k : Nat) : (Hp.s b lo : Hp α).get k = none := rfl
theorem Hp.get_n (m : Nat) (x y : Hp α) (k : Nat) : (Hp.n m x y).get k = if Nat.ble m k then y.get k else x.get k := by
  show (Bool.rec (x.get k) (y.get k) (Nat.ble m k) : Option α) = _
  cases Nat.ble m k <;> rfl
theorem Hp.get_l (j : Nat) (v : α) (k : Nat) : (Hp.l j v).get k = if j = k then some v else none := by
  show (Bool.rec none (some v) (Nat.beq j k) : Option α) = _
  cases h : Nat.beq j k with
  | true => rw [if_pos (Nat.eq_of_beq_eq_true h)]
  | false => rw [if_neg (fun e => by rw [e, Nat.beq_refl] at h; cases h)]
theorem Hp.one_succ (k : Nat) (v : α) (b lo : Nat) : Hp.one k v (b + 1) lo = if Nat.ble (lo + 2 ^ b) k then .n (lo + 2 ^ b) (.s b lo) (Hp.one k v b (lo + 2 ^ b)) else .n (lo + 2 ^ b) (Hp.one k v b lo) (.s b (lo + 2 ^ b)) := by
  show (Nat.rec (Bool.rec (.n 0 (Hp.one k v b lo) (.s b 0)) (.n 0 (.s b lo) (Hp.one k v b 0)) (Nat.ble 0 k))
    (fun m _ => Bool.rec (.n (Nat.succ m) (Hp.one k v b lo) (.s b (Nat.succ m))) (.n (Nat.succ m) (.s b lo) (Hp.one k v b (Nat.succ m))) (Nat.ble (Nat.succ m) k)) (lo + 2 ^ b) : Hp α) = _
  generalize lo + 2 ^ b = q
  cases q with
  | zero => cases Nat.ble 0 k <;> rfl
  | succ m =>
    show (Bool.rec (.n (Nat.succ m) (Hp.one k v b lo) (.s b (Nat.succ m))) (.n (Nat.succ m) (.s b lo) (Hp.one k v b (Nat.succ m))) (Nat.ble (Nat.succ m) k) : Hp α) = _
    cases h : Nat.ble (Nat.succ m) k <;> rfl
theorem Hp.get_one (k : Nat) (v : α) (j : Nat) : ∀ b lo, (Hp.one k v b lo).get j = if j = k then some v else none := by
  intro b
  induction b with
  | zero => intro lo; show (Hp.l k v).get j = _; rw [Hp.get_l]; by_cases h : j = k
            · rw [if_pos h, if_pos h.symm]
            · rw [if_neg h, if_neg fun e => h e.symm]
  | succ b ih =>
    intro lo
    rw [Hp.one_succ]
    by_cases h : Nat.ble (lo + 2 ^ b) k = true
    · rw [if_pos h, Hp.get_n, ih, Hp.get_s]
      by_cases e : j = k
      · subst e; rw [if_pos h]
      · simp [e]
    · rw [if_neg h, Hp.get_n, ih, Hp.get_s]
      by_cases e : j = k
      · subst e; rw [if_neg h]
      · simp [e]
theorem Hp.set_n (m : Nat) (x y : Hp α) (k : Nat) (v : α) : (Hp.n m x y).set k v = if Nat.ble m k then .n m x (y.set k v) else .n m (x.set k v) y := by
  show (Bool.rec (.n m (x.set k v) y) (.n m x (y.set k v)) (Nat.ble m k) : Hp α) = _
  cases Nat.ble m k <;> rfl
theorem Hp.set_l (j : Nat) (u : α) (k : Nat) (v : α) : (Hp.l j u).set k v = if j = k then .l k v else if Nat.ble k j then .n j (.l k v) (.l j u) else .n k (.l j u) (.l k v) := by
  show (Bool.rec (Bool.rec (.n k (.l j u) (.l k v)) (.n j (.l k v) (.l j u)) (Nat.ble k j)) (.l k v) (Nat.beq j k) : Hp α) = _
  cases h : Nat.beq j k with
  | true => rw [if_pos (Nat.eq_of_beq_eq_true h)]
  | false =>
    rw [if_neg (fun e => by rw [e, Nat.beq_refl] at h; cases h)]
    cases Nat.ble k j <;> rfl
theorem Hp.get_set (t : Hp α) (k : Nat) (v : α) (j : Nat) : (t.set k v).get j = if j = k then some v else t.get j := by
  induction t with
  | s b lo => show (Hp.one k v b lo).get j = _; rw [Hp.get_one, Hp.get_s]
  | l i u =>
    have hle : ∀ {a b : Nat}, Nat.ble a b = true ↔ a ≤ b := ⟨Nat.le_of_ble_eq_true, Nat.ble_eq_true_of_le⟩
    rw [Hp.set_l]
    by_cases hik : i = k
    · rw [if_pos hik, Hp.get_l, Hp.get_l]
      subst hik
      by_cases e : j = i
      · simp [e]
      · have e' : ¬ i = j := fun h => e h.symm
        simp [e, e']
    · rw [if_neg hik]
      by_cases hki : Nat.ble k i = true
      · rw [if_pos hki, Hp.get_n, Hp.get_l, Hp.get_l]
        have hki := hle.1 hki
        by_cases e : j = k
        · subst e
          have hn : ¬ Nat.ble i j = true := fun h => hik (Nat.le_antisymm (hle.1 h) hki)
          simp [hn]
        · have e' : ¬ k = j := fun h => e h.symm
          by_cases hij : i = j
          · subst hij
            have : Nat.ble i i = true := hle.2 (Nat.le_refl _)
            simp [this, e]
          · simp [hij, e, e']
      · rw [if_neg hki, Hp.get_n, Hp.get_l, Hp.get_l]
        by_cases e : j = k
        · subst e
          have : Nat.ble j j = true := hle.2 (Nat.le_refl _)
          simp [this]
        · have e' : ¬ k = j := fun h => e h.symm
          by_cases hij : i = j
          · subst hij
            simp [hki, e]
          · simp [hij, e, e']
  | n m x y ihx ihy =>
    rw [Hp.set_n, Hp.get_n]
    by_cases h : Nat.ble m k = true
    · rw [if_pos h, Hp.get_n, ihy]
      by_cases e : j = k
      · subst e; rw [if_pos h, if_pos rfl, if_pos rfl]
      · rw [if_neg e, if_neg e]
    · rw [if_neg h, Hp.get_n, ihx]
      by_cases e : j = k
      · subst e; rw [if_neg h, if_pos rfl, if_pos rfl]
      · rw [if_neg e, if_neg e]
theorem Hp.get_set_same (t : Hp α) (k : Nat) (a : α) : (t.set k a).get k = some a := by rw [Hp.get_set]; simp
theorem Hp.get_set_other (t : Hp α) {k j : Nat} (a : α) (h : j ≠ k) : (t.set k a).get j = t.get j := by rw [Hp.get_set]; simp [h]
end
section
variable {α β : Type}
theorem nth_eq (l : List α) : ∀ k, nth l k = l[k]? := by
  induction l with
  | nil => intro k; rfl
  | cons a t ih => intro k; cases k with
    | zero => rfl
    | succ k => exact ih k
theorem dropL_eq (n : Nat) : ∀ l : List α, dropL n l = l.drop n := by
  induction n with
  | zero => intro l; rfl
  | succ n ih => intro l; cases l with
    | nil => rfl
    | cons a t => exact ih t
theorem takeL_eq (n : Nat) : ∀ l : List α, takeL n l = l.take n := by
  induction n with
  | zero => intro l; rfl
  | succ n ih => intro l; cases l with
    | nil => rfl
    | cons a t => show a :: takeL n t = _; rw [ih t]; rfl
theorem lenL_eq (l : List α) : lenL l = l.length := by
  induction l with
  | nil => rfl
  | cons a t ih => show Nat.succ (lenL t) = _; rw [ih]; rfl
theorem appL_eq (l r : List α) : appL l r = l ++ r := by
  induction l with
  | nil => rfl
  | cons a t ih => show a :: appL t r = _; rw [ih]; rfl
theorem mapL_eq (f : α → β) (l : List α) : mapL f l = l.map f := by
  induction l with
  | nil => rfl
  | cons a t ih => show f a :: mapL f t = _; rw [ih]; rfl
theorem obind_some {x : Option α} {k : α → Option β} {b : β} : obind x k = some b ↔ ∃ a, x = some a ∧ k a = some b := by
  cases x with
  | none => simp [obind]
  | some a => simp [obind]
theorem guard_some {b : Bool} {k : Option β} {r : β} : guard b k = some r ↔ b = true ∧ k = some r := by cases b <;> simp [guard]
theorem sel_true (x y : α) : sel true x y = x := rfl
theorem sel_false (x y : α) : sel false x y = y := rfl
theorem sel_eq (b : Bool) (x y : α) : sel b x y = if b then x else y := by cases b <;> rfl
theorem takeN_eq (n : Nat) : ∀ (l r : List Value), takeN n l = some r ↔ n ≤ l.length ∧ r = l.take n := by
  induction n with
  | zero => intro l r; show some [] = some r ↔ _; simp [eq_comm]
  | succ n ih =>
    intro l r
    cases l with
    | nil => show none = some r ↔ _; simp
    | cons a t =>
      show obind (takeN n t) (fun r => some (a :: r)) = some r ↔ _
      rw [obind_some]
      constructor
      · rintro ⟨q, hq, h⟩
        obtain ⟨h1, h2⟩ := (ih t q).1 hq
        cases h; subst h2
        exact ⟨by simpa using h1, rfl⟩
      · rintro ⟨h1, h2⟩
        exact ⟨t.take n, (ih t _).2 ⟨by simpa using h1, rfl⟩, by rw [h2]; rfl⟩
theorem takeF_eq (n : Nat) (l : List Value) : takeF n l = takeN n l := by
  unfold takeF
  rw [sel_eq]
  split
  · rename_i h
    have h := Nat.eq_of_beq_eq_true h
    rw [lenL_eq] at h
    exact ((takeN_eq n l l).2 ⟨by omega, by rw [h, List.take_length]⟩).symm
  · rfl
theorem cutString_eq (b : List UInt8) (l h : Nat) : cutString b l h = guard (Nat.ble l h && Nat.ble h (lenL b)) (some (.string ⟨⟨takeL (Nat.sub h l) (dropL l b)⟩⟩)) := by
  unfold cutString
  rw [sel_eq]
  split
  · rename_i hh
    have hh := Nat.eq_of_beq_eq_true hh
    have : takeL (Nat.sub h l) (dropL l b) = dropL l b := by
      rw [lenL_eq] at hh
      rw [takeL_eq, dropL_eq]
      apply List.take_of_length_le
      rw [List.length_drop, hh]
      exact Nat.le_refl _
    rw [this]
  · rfl
theorem overL_eq (vs : List Value) : ∀ (l r : List Value), overL vs l = some r ↔ vs.length ≤ l.length ∧ r = vs ++ l.drop vs.length := by
  induction vs with
  | nil => intro l r; show some l = some r ↔ _; simp; exact ⟨fun h => h.symm, fun h => h.symm⟩
  | cons v t ih =>
    intro l r
    cases l with
    | nil => show none = some r ↔ _; simp
    | cons a l =>
      show obind (overL t l) (fun r => some (v :: r)) = some r ↔ _
      rw [obind_some]
      constructor
      · rintro ⟨q, hq, h⟩
        obtain ⟨h1, h2⟩ := (ih l q).1 hq
        cases h; subst h2
        exact ⟨by simpa using h1, by simp⟩
      · rintro ⟨h1, h2⟩
        exact ⟨t ++ l.drop t.length, (ih l _).2 ⟨by simpa using h1, rfl⟩, by rw [h2]; simp⟩
theorem splice_eq (vs : List Value) (o : Nat) : ∀ (l r : List Value), splice vs o l = some r ↔ o + vs.length ≤ l.length ∧ r = l.take o ++ vs ++ l.drop (o + vs.length) := by
  induction o with
  | zero => intro l r; show overL vs l = some r ↔ _; rw [overL_eq]; simp
  | succ o ih =>
    intro l r
    cases l with
    | nil => show none = some r ↔ _; simp
    | cons a l =>
      show obind (splice vs o l) (fun r => some (a :: r)) = some r ↔ _
      rw [obind_some]
      constructor
      · rintro ⟨q, hq, h⟩
        obtain ⟨h1, h2⟩ := (ih l q).1 hq
        cases h; subst h2
        exact ⟨by simp; omega, by simp [Nat.succ_add]⟩
      · rintro ⟨h1, h2⟩
        refine ⟨_, (ih l _).2 ⟨by simp at h1; omega, rfl⟩, ?_⟩
        rw [h2]; simp [Nat.succ_add]
end
end Go.Ax
namespace Go.Ax
open Go
structure Loc where
  blk : Nat
  off : Nat
  cap : Nat
abbrev Ren := Nat → Option Loc
class Lo where
  lo : Nat → Loc
  fix : ∀ i, i < lowTop → lo i = ⟨i, 0, 0⟩
instance loPlain : Lo := ⟨fun i => ⟨i, 0, 0⟩, fun _ _ => rfl⟩
variable [Lo]
def Ren.at (ρ : Ren) (b : Nat) : Option Loc := if b < fixedTop then some (Lo.lo b) else ρ b
def Ren.le (ρ ρ' : Ren) : Prop := ∀ i l, ρ i = some l → ρ' i = some l
theorem Ren.le_refl (ρ : Ren) : ρ.le ρ := fun _ _ h => h
theorem Ren.le_trans {a b c : Ren} (h : a.le b) (k : b.le c) : a.le c := fun i l hi => k i l (h i l hi)
theorem Ren.at_le {ρ ρ' : Ren} (h : ρ.le ρ') {b : Nat} {l : Loc} (hb : ρ.at b = some l) : ρ'.at b = some l := by
  unfold Ren.at at *
  split at hb
  · rename_i hlt; simp [hlt]; simpa using hb
  · rename_i hlt; simp [hlt]; exact h _ _ hb
def capOf (l : Loc) (c : Nat) : Nat := if halfCap ≤ c then l.cap - (bigCap - c) else c
inductive FR (ρ : Ren) : Fn → Fn → Prop
  | func (f : FuncId) : FR ρ (.func f) (.func f)
  | method (n : String) : FR ρ (.method n) (.method n)
  | methodOf (t : TypeId) (n : String) : FR ρ (.methodOf t n) (.methodOf t n)
  | via (t : TypeId) (p : Array FieldStep) (f : FuncId) (b : Bool) : FR ρ (.via t p f b) (.via t p f b)
  | yield {l : Nat} {q : Loc} (h : ρ l = some q) : FR ρ (.yield l) (.yield q.blk)
mutual
inductive VR (ρ : Ren) : Value → Value → Prop
  | bool (b : Bool) : VR ρ (.bool b) (.bool b)
  | int (k : IntKind) (n : Int) : VR ρ (.int k n) (.int k n)
  | string (s : ByteArray) : VR ρ (.string s) (.string s)
  | ptrNil : VR ρ (.pointer none) (.pointer none)
  | ptr {b o : Nat} {l : Loc} (h : ρ.at b = some l) : VR ρ (.pointer (some ⟨b, o, none⟩)) (.pointer (some ⟨l.blk, l.off + o, none⟩))
  | sliceNil (n c : Nat) : VR ρ (.slice none n c) (.slice none n c)
  | slice {b o n c : Nat} {l : Loc} (h : ρ.at b = some l) : VR ρ (.slice (some ⟨b, o, none⟩) n c) (.slice (some ⟨l.blk, l.off + o, none⟩) n (capOf l c))
  | dead (a : Addr) (c : Nat) : VR ρ (.slice (some ⟨deadId, 0, none⟩) 0 bigCap) (.slice (some a) 0 c)
  | opq (a : Addr) (n c : Nat) : VR ρ (.float .f64 n) (.slice (some a) n c)
  | olen (lo hi : Nat) (a : Addr) (n c : Nat) (h : lo ≤ n) (hh : hi = 0 ∨ n ≤ hi) : VR ρ (.complex .f32 lo hi) (.slice (some a) n c)
  | rng (lo hi n : Nat) (h : lo ≤ n) (hh : hi = 0 ∨ n ≤ hi) : VR ρ (.complex .f64 lo hi) (.int .i64 (n : Int))
  | tok (i : Nat) (k : IntKind) (n : Int) : VR ρ (.chan (some i)) (.int k n)
  | mapNil : VR ρ (.map none) (.map none)
  | map {r : Nat} {l : Loc} (h : ρ r = some l) : VR ρ (.map (some r)) (.map (some l.blk))
  | func {f f' : Fn} {a a' b b' : List Value} (h : FR ρ f f') (ha : VRs ρ a a') (hb : VRs ρ b b') : VR ρ (.func f ⟨a⟩ ⟨b⟩) (.func f' ⟨a'⟩ ⟨b'⟩)
  | nilFunc : VR ρ .nilFunc .nilFunc
  | iface (t : TypeId) {v v' : Value} (h : VR ρ v v') : VR ρ (.iface t v) (.iface t v')
  | nilIface : VR ρ .nilIface .nilIface
  | agg {a a' : List Value} (h : VRs ρ a a') : VR ρ (.agg ⟨a⟩) (.agg ⟨a'⟩)
  | tuple {a a' : List Value} (h : VRs ρ a a') : VR ρ (.tuple ⟨a⟩) (.tuple ⟨a'⟩)
inductive VRs (ρ : Ren) : List Value → List Value → Prop
  | nil : VRs ρ [] []
  | cons {v v' : Value} {l l' : List Value} (h : VR ρ v v') (hl : VRs ρ l l') : VRs ρ (v :: l) (v' :: l')
end
theorem FR.mono {ρ ρ' : Ren} (h : ρ.le ρ') {f f' : Fn} (hf : FR ρ f f') : FR ρ' f f' := by
  cases hf with
  | func f => exact .func f
  | method n => exact .method n
  | methodOf t n => exact .methodOf t n
  | via t p f b => exact .via t p f b
  | yield hl => exact .yield (h _ _ hl)
mutual
theorem VR.mono {ρ ρ' : Ren} (h : ρ.le ρ') : ∀ {v v' : Value}, VR ρ v v' → VR ρ' v v'
  | _, _, .bool b => .bool b
  | _, _, .int k n => .int k n
  | _, _, .string s => .string s
  | _, _, .ptrNil => .ptrNil
  | _, _, .ptr hl => .ptr (Ren.at_le h hl)
  | _, _, .sliceNil n c => .sliceNil n c
  | _, _, .slice hl => .slice (Ren.at_le h hl)
  | _, _, .dead a c => .dead a c
  | _, _, .opq a n c => .opq a n c
  | _, _, .olen lo hi a n c h hh => .olen lo hi a n c h hh
  | _, _, .rng lo hi n h hh => .rng lo hi n h hh
  | _, _, .tok i k n => .tok i k n
  | _, _, .mapNil => .mapNil
  | _, _, .map hl => .map (h _ _ hl)
  | _, _, .func hf ha hb => .func (hf.mono h) (VRs.mono h ha) (VRs.mono h hb)
  | _, _, .nilFunc => .nilFunc
  | _, _, .iface t hv => .iface t (VR.mono h hv)
  | _, _, .nilIface => .nilIface
  | _, _, .agg ha => .agg (VRs.mono h ha)
  | _, _, .tuple ha => .tuple (VRs.mono h ha)
theorem VRs.mono {ρ ρ' : Ren} (h : ρ.le ρ') : ∀ {l l' : List Value}, VRs ρ l l' → VRs ρ' l l'
  | _, _, .nil => .nil
  | _, _, .cons hv hl => .cons (VR.mono h hv) (VRs.mono h hl)
end
section lists
variable {ρ : Ren} {l l' : List Value}
theorem VRs.length (h : VRs ρ l l') : l'.length = l.length := by
  induction l generalizing l' with
  | nil => cases h; rfl
  | cons a t ih => cases h with | cons _ ht => simp [ih ht]
theorem VRs.get {k : Nat} {v : Value} (h : VRs ρ l l') (hk : l[k]? = some v) : ∃ v', l'[k]? = some v' ∧ VR ρ v v' := by
  induction l generalizing l' k with
  | nil => simp at hk
  | cons a t ih =>
    cases h with
    | cons hv ht =>
      cases k with
      | zero => simp at hk; subst hk; exact ⟨_, rfl, hv⟩
      | succ k => simp at hk; simpa using ih ht hk
theorem VRs.append {r r' : List Value} (h : VRs ρ l l') (hr : VRs ρ r r') : VRs ρ (l ++ r) (l' ++ r') := by
  induction l generalizing l' with
  | nil => cases h; exact hr
  | cons a t ih => cases h with | cons hv ht => exact .cons hv (ih ht)
theorem VRs.take (n : Nat) (h : VRs ρ l l') : VRs ρ (l.take n) (l'.take n) := by
  induction l generalizing l' n with
  | nil => cases h; simpa using VRs.nil
  | cons a t ih =>
    cases h with
    | cons hv ht => cases n with
      | zero => exact .nil
      | succ n => exact .cons hv (ih n ht)
theorem VRs.drop (n : Nat) (h : VRs ρ l l') : VRs ρ (l.drop n) (l'.drop n) := by
  induction l generalizing l' n with
  | nil => cases h; simpa using VRs.nil
  | cons a t ih =>
    cases h with
    | cons hv ht => cases n with
      | zero => exact .cons hv ht
      | succ n => exact ih n ht
theorem VRs.of_get (hlen : l'.length = l.length) (h : ∀ (k : Nat) (v : Value), l[k]? = some v → ∃ v', l'[k]? = some v' ∧ VR ρ v v') : VRs ρ l l' := by
  induction l generalizing l' with
  | nil => have : l' = [] := by simpa using hlen
           subst this; exact .nil
  | cons a t ih =>
    cases l' with
    | nil => simp at hlen
    | cons b t' =>
      obtain ⟨v', h1, h2⟩ := h 0 a rfl
      simp at h1; subst h1
      exact .cons h2 (ih (by simpa using hlen) fun k v hk => by simpa using h (k + 1) v (by simpa using hk))
end lists
end Go.Ax
namespace Go.Ax
variable [Lo]
open Go
noncomputable def St.tag (s : St) (i : Nat) : Option (Nat × Nat) :=
  match s.heap.get i with
  | some (.row _ _ f) => if f = 0 then some (0, i) else match s.fams.get f with
    | some l => if i ∈ l then some (1, f) else none
    | none => none
  | some (.map _ _) => some (0, i)
  | some (.loop _) => some (0, i)
  | _ => none
theorem elemN_eq (b : Nat) (l : List Nat) : elemN b l = decide (b ∈ l) := by
  induction l with
  | nil => rfl
  | cons a t ih =>
    show sel (Nat.beq a b) true (elemN b t) = _
    rw [sel_eq, ih]
    by_cases h : a = b
    · subst h; simp
    · have : Nat.beq a b = false := by rw [← Bool.not_eq_true, Nat.beq_eq]; exact h
      have h' : ¬ b = a := fun e => h e.symm
      simp [this, h']
theorem cells_some {s : St} {i : Nat} {cs : List Value} {e : TypeId} {f : Nat} :
    s.cells i = some (cs, e, f) ↔ s.heap.get i = some (.row cs e f) ∧ (f = 0 ∨ ∃ l, s.fams.get f = some l ∧ i ∈ l) := by
  unfold St.cells
  rw [obind_some]
  constructor
  · rintro ⟨r, hr, h⟩
    cases r with
    | row cs' e' f' =>
      simp only [cellsFam, sel_eq] at h
      split at h
      · rename_i h0
        cases h
        exact ⟨hr, .inl (by simpa using h0)⟩
      · obtain ⟨l, hl, h⟩ := obind_some.1 h
        obtain ⟨h1, h2⟩ := guard_some.1 h
        cases h2
        rw [elemN_eq] at h1
        exact ⟨hr, .inr ⟨l, hl, by simpa using h1⟩⟩
    | map es c => cases h
    | loop l => cases h
    | other => cases h
  · rintro ⟨hr, h⟩
    refine ⟨_, hr, ?_⟩
    show cellsFam s.fams i cs e f = _
    simp only [cellsFam, sel_eq]
    split
    · rfl
    · rename_i h0
      rcases h with h | ⟨l, hl, hm⟩
      · subst h; simp at h0
      · rw [obind_some]; exact ⟨l, hl, by rw [guard_some, elemN_eq]; exact ⟨by simpa using hm, rfl⟩⟩
theorem tag_cells {s : St} {i : Nat} {cs : List Value} {e : TypeId} {f : Nat} (h : s.cells i = some (cs, e, f)) : s.tag i = some (if f = 0 then (0, i) else (1, f)) := by
  obtain ⟨h1, h2⟩ := cells_some.1 h
  unfold St.tag
  rw [h1]
  by_cases hf : f = 0
  · simp [hf]
  · rcases h2 with h2 | ⟨l, hl, hm⟩
    · exact absurd h2 hf
    · simp [hf, hl, hm]
structure RowR (P : Program) (ρ : Ren) (w : World) (i : Nat) (cs : List Value) (e : TypeId) (f : Nat) (l : Loc) : Prop where
  at_ : ρ.at i = some l
  arr : ∃ (a : Array Value) (fz : Nat × Nat), (∃ e' : TypeId, w.heap[l.blk]? = some (.cells a e' fz) ∧ ((f = 0 ∨ fixedTop ≤ i) → e' = e)) ∧
    (∀ (j : Nat) (x : Value), cs[j]? = some x → ∃ y, a[l.off + j]? = some y ∧ VR ρ x y) ∧
    (fixedTop ≤ i → ∀ o, o < a.size → ¬ (fz.1 ≤ o ∧ o < fz.2)) ∧
    (f = 0 → l.off = 0 ∧ a.size = cs.length ∧ (fixedTop ≤ i → ¬ (fz.1 ≤ a.size ∧ a.size < fz.2))) ∧
    (f ≠ 0 → ∃ n, size P e = some n ∧ 0 < n ∧ l.off + l.cap * n ≤ a.size ∧ cs.length ≤ l.cap * n)
inductive EsR (ρ : Ren) : List MapEntry → List MapEntry → Prop
  | nil : EsR ρ [] []
  | cons {a b : MapEntry} {l l' : List MapEntry} (hk : VR ρ a.key b.key) (hv : VR ρ a.val b.val) (hb : a.born = b.born) (h : EsR ρ l l') : EsR ρ (a :: l) (b :: l')
theorem EsR.mono {ρ ρ' : Ren} (h : ρ.le ρ') {l l' : List MapEntry} (hl : EsR ρ l l') : EsR ρ' l l' := by
  induction hl with
  | nil => exact .nil
  | cons hk hv hb _ ih => exact .cons (hk.mono h) (hv.mono h) hb ih
def VarsR (ρ : Ren) (n : Nat) (t : Tr Value) (tmps : Array Value) : Prop := ∀ k v, k < n → t.get k = some v → VR ρ v (tmps.getD k undef)
theorem VarsR.mono {ρ ρ' : Ren} (h : ρ.le ρ') {n : Nat} {t : Tr Value} {tmps : Array Value} (hv : VarsR ρ n t tmps) : VarsR ρ' n t tmps :=
  fun k v hn hk => (hv k v hn hk).mono h
structure LoopR (ρ : Ren) (r : ALoop) (q : Loop) : Prop where
  state : q.state = r.state
  pending : q.pending = r.pending
  vars : VarsR ρ r.n r.vars q.tmps
  params : q.params.toList = r.params
  assign : q.assign = r.assign
  body : q.body = r.body
  code : okCode q.tmps.size r.assign = true ∧ okCode q.tmps.size r.body = true ∧ okTmps q.tmps.size r.params = true
theorem LoopR.mono {ρ ρ' : Ren} (h : ρ.le ρ') {r : ALoop} {q : Loop} (hl : LoopR ρ r q) : LoopR ρ' r q :=
  ⟨hl.state, hl.pending, hl.vars.mono h, hl.params, hl.assign, hl.body, hl.code⟩
inductive ObjR (ρ : Ren) (l : Loc) : AObj → Obj → Prop
  | loop {r : ALoop} {q : Loop} (h : LoopR ρ r q) : ObjR ρ l (.loop r) (.loop q)
  | iter {r : AIter} {m : Loc} (hl : l.off = 0) (hm : ρ r.map = some m) : ObjR ρ l (.iter r) (.mapIter (some m.blk) r.since ⟨r.seen⟩ r.stepped)
theorem ObjR.mono {ρ ρ' : Ren} (h : ρ.le ρ') {l : Loc} {r : AObj} {q : Obj} (hl : ObjR ρ l r q) : ObjR ρ' l r q := by
  cases hl with
  | loop hq => exact .loop (hq.mono h)
  | iter h0 hm => exact .iter h0 (h _ _ hm)
structure HR (P : Program) (base : Nat) (ρ : Ren) (s : St) (w : World) : Prop where
  dom : ∀ i l, ρ i = some l → fixedTop ≤ i ∧ i < s.next ∧ base ≤ l.blk ∧ l.blk < w.heap.size
  next : fixedTop ≤ s.next
  base_le : base ≤ w.heap.size
  low : ∀ i, i < fixedTop → s.tag i ≠ none → (Lo.lo i).blk < base ∧ i ≠ deadId
  heap_dom : ∀ i r, s.heap.get i = some r → i < s.next
  fam_dom : ∀ i cs e f, s.heap.get i = some (.row cs e f) → f < s.next
  rows : ∀ i cs e f, s.cells i = some (cs, e, f) → ∃ l, RowR P ρ w i cs e f l
  maps : ∀ i es c, s.heap.get i = some (.map es c) → ∃ l, ρ i = some l ∧ ∃ es', w.heap[l.blk]? = some (.map es' c) ∧ EsR ρ es es'.toList
  loops : ∀ i r, s.heap.get i = some (.loop r) → ∃ l, ρ i = some l ∧ ∃ q, w.heap[l.blk]? = some q ∧ ObjR ρ l r q
  sep : ∀ i j a b l l', s.tag i = some a → s.tag j = some b → a ≠ b → ρ.at i = some l → ρ.at j = some l' → (fixedTop ≤ i ∨ fixedTop ≤ j) → l.blk ≠ l'.blk
def Owned (ρ : Ren) (s : St) (b : Nat) : Prop := ∃ i l a, fixedTop ≤ i ∧ s.tag i = some a ∧ ρ i = some l ∧ l.blk = b
structure Goes (P : Program) (base : Nat) (ρ : Ren) (s : St) (w : World) (ρ' : Ren) (s' : St) (w' : World) : Prop where
  le : ρ.le ρ'
  hr : HR P base ρ' s' w'
  os : w'.os = w.os
  tape : w'.tape = w.tape
  output : w'.output = w.output
  grow : w.heap.size ≤ w'.heap.size
  next : s.next ≤ s'.next
  frame : ∀ b, b < w.heap.size → ¬ Owned ρ s b → w'.heap[b]? = w.heap[b]?
  own : ∀ b, Owned ρ' s' b → Owned ρ s b ∨ w.heap.size ≤ b
  old : ∀ i, i < s.next → ρ' i = ρ i
theorem Goes.refl {P : Program} {base : Nat} {ρ : Ren} {s : St} {w : World} (h : HR P base ρ s w) : Goes P base ρ s w ρ s w :=
  ⟨Ren.le_refl ρ, h, rfl, rfl, rfl, Nat.le_refl _, Nat.le_refl _, fun _ _ _ => rfl, fun _ h => .inl h, fun _ _ => rfl⟩
theorem Goes.trans {P : Program} {base : Nat} {ρ ρ' ρ'' : Ren} {s s' s'' : St} {w w' w'' : World}
    (h : Goes P base ρ s w ρ' s' w') (k : Goes P base ρ' s' w' ρ'' s'' w'') : Goes P base ρ s w ρ'' s'' w'' where
  le := Ren.le_trans h.le k.le
  hr := k.hr
  os := k.os.trans h.os
  tape := k.tape.trans h.tape
  output := k.output.trans h.output
  grow := Nat.le_trans h.grow k.grow
  next := Nat.le_trans h.next k.next
  frame := fun b hb hn => by
    rw [k.frame b (Nat.lt_of_lt_of_le hb h.grow) ?_, h.frame b hb hn]
    intro ho
    rcases h.own b ho with h1 | h1
    · exact hn h1
    · omega
  own := fun b hb => by
    rcases k.own b hb with h1 | h1
    · exact h.own b h1
    · exact .inr (Nat.le_trans h.grow h1)
  old := fun i hi => (k.old i (Nat.lt_of_lt_of_le hi h.next)).trans (h.old i hi)
theorem Owned.base {P : Program} {base : Nat} {ρ : Ren} {s : St} {w : World} (h : HR P base ρ s w) {b : Nat} (hb : Owned ρ s b) : base ≤ b := by
  obtain ⟨i, l, a, _, _, hl, rfl⟩ := hb
  exact (h.dom i l hl).2.2.1
theorem Goes.below {P : Program} {base : Nat} {ρ ρ' : Ren} {s s' : St} {w w' : World} (h0 : HR P base ρ s w) (h : Goes P base ρ s w ρ' s' w') : RowKit.Below base w w' :=
  ⟨h.os, h.tape, h.output, h.grow, fun k hk => h.frame k (Nat.lt_of_lt_of_le hk h0.base_le) fun ho => by have := Owned.base h0 ho; omega⟩
theorem HR.drew {P : Program} {base : Nat} {ρ : Ren} {s : St} {w : World} (h : HR P base ρ s w) (n : Nat) : HR P base ρ s { w with drawn := n } :=
  ⟨h.dom, h.next, h.base_le, h.low, h.heap_dom, h.fam_dom, fun i cs e f hc => let ⟨l, r⟩ := h.rows i cs e f hc; ⟨l, r.at_, r.arr⟩, h.maps, h.loops, h.sep⟩
theorem Goes.drew {P : Program} {base : Nat} {ρ : Ren} {s : St} {w : World} (h : HR P base ρ s w) (n : Nat) : Goes P base ρ s w ρ s { w with drawn := n } :=
  ⟨Ren.le_refl ρ, h.drew n, rfl, rfl, rfl, Nat.le_refl _, Nat.le_refl _, fun _ _ _ => rfl, fun _ h => .inl h, fun _ _ => rfl⟩
def Ren.set (ρ : Ren) (i : Nat) (l : Loc) : Ren := fun j => if j = i then some l else ρ j
theorem Ren.set_same (ρ : Ren) (i : Nat) (l : Loc) : ρ.set i l i = some l := by simp [Ren.set]
theorem Ren.set_other (ρ : Ren) {i j : Nat} (l : Loc) (h : j ≠ i) : ρ.set i l j = ρ j := by simp [Ren.set, h]
theorem Ren.le_set {P : Program} {base : Nat} {ρ : Ren} {s : St} {w : World} (h : HR P base ρ s w) (l : Loc) : ρ.le (ρ.set s.next l) := by
  intro i q hi
  have := (h.dom i q hi).2.1
  rw [Ren.set_other ρ l (by omega)]
  exact hi
theorem Ren.at_of {ρ : Ren} {i : Nat} (h : fixedTop ≤ i) : ρ.at i = ρ i := by
  unfold Ren.at; rw [if_neg (by omega)]
theorem Ren.at_low {ρ : Ren} {i : Nat} (h : i < fixedTop) : ρ.at i = some (Lo.lo i) := by
  unfold Ren.at; rw [if_pos h]
theorem Ren.at_fix {ρ : Ren} {i : Nat} (h : i < lowTop) : ρ.at i = some ⟨i, 0, 0⟩ := by
  have e : lowTop = 32 := rfl
  have e2 : fixedTop = 64 := rfl
  rw [Ren.at_low (by omega), Lo.fix i h]
theorem RowR.move {P : Program} {ρ ρ' : Ren} {w w' : World} {i : Nat} {cs : List Value} {e : TypeId} {f : Nat} {l : Loc} (hle : ρ.le ρ')
    (h : RowR P ρ w i cs e f l) (hw : w'.heap[l.blk]? = w.heap[l.blk]?) : RowR P ρ' w' i cs e f l := by
  obtain ⟨h1, a, fz, h2, h3, h4⟩ := h
  exact ⟨Ren.at_le hle h1, a, fz, by rw [hw]; exact h2, fun j x hj => let ⟨y, hy, hv⟩ := h3 j x hj; ⟨y, hy, hv.mono hle⟩, h4⟩
theorem HR.blk_lt {P : Program} {base : Nat} {ρ : Ren} {s : St} {w : World} (h : HR P base ρ s w) {i : Nat} {a : Nat × Nat} {l : Loc} (ht : s.tag i = some a) (hl : ρ.at i = some l) : l.blk < w.heap.size := by
  by_cases hi : i < fixedTop
  · rw [Ren.at_low hi] at hl
    cases hl
    have := h.low i hi (by rw [ht]; simp)
    have := h.base_le
    omega
  · rw [Ren.at_of (by omega)] at hl
    exact (h.dom i l hl).2.2.2
theorem HR.no_dead {P : Program} {base : Nat} {ρ : Ren} {s : St} {w : World} (h : HR P base ρ s w) {c : List Value × TypeId × Nat} (hc : s.cells deadId = some c) : False := by
  obtain ⟨cs, e, f⟩ := c
  exact (h.low deadId (by decide) (by rw [tag_cells hc]; simp)).2 rfl
theorem tag_map {s : St} {i : Nat} {es : List MapEntry} {c : Nat} (h : s.heap.get i = some (.map es c)) : s.tag i = some (0, i) := by unfold St.tag; rw [h]
theorem tag_loop {s : St} {i : Nat} {r : AObj} (h : s.heap.get i = some (.loop r)) : s.tag i = some (0, i) := by unfold St.tag; rw [h]
theorem HR.push {P : Program} {base : Nat} {ρ : Ren} {s s' : St} {w w' : World} (h : HR P base ρ s w) (r : Row) (l : Loc) (o : Obj)
    (hnext : s'.next = s.next + 1) (hheap : s'.heap = s.heap.set s.next r)
    (htags : ∀ i t, i ≠ s.next → s'.tag i = some t → s.tag i = some t)
    (hcells : ∀ i c, i ≠ s.next → s'.cells i = some c → s.cells i = some c)
    (hw : w'.heap = w.heap.push o) (hl : l.blk = w.heap.size)
    (hfam : ∀ cs e f, r = .row cs e f → f ≤ s.next)
    (hrow : ∀ c, s'.cells s.next = some c → RowR P (ρ.set s.next l) w' s.next c.1 c.2.1 c.2.2 l)
    (hmap : ∀ es c, r = .map es c → ∃ es', o = .map es' c ∧ EsR (ρ.set s.next l) es es'.toList)
    (hloop : ∀ q, r = .loop q → ObjR (ρ.set s.next l) l q o) : HR P base (ρ.set s.next l) s' w' := by
  have hle := Ren.le_set h l
  have hold : ∀ b, b < w.heap.size → w'.heap[b]? = w.heap[b]? := fun b hb => by rw [hw, Array.getElem?_push, if_neg (by omega)]
  have hnew : w'.heap[w.heap.size]? = some o := by rw [hw]; simp
  have hsz : w'.heap.size = w.heap.size + 1 := by rw [hw]; simp
  have hnx := h.next
  have hbl := h.base_le
  have hother : ∀ i, i ≠ s.next → s'.heap.get i = s.heap.get i := fun i hi => by rw [hheap, Hp.get_set_other _ _ hi]
  have hsame : s'.heap.get s.next = some r := by rw [hheap, Hp.get_set_same]
  refine ⟨?_, by omega, by omega, ?_, ?_, ?_, ?_, ?_, ?_, ?_⟩
  · intro i q hi
    by_cases e : i = s.next
    · subst e
      rw [Ren.set_same] at hi
      cases hi
      exact ⟨hnx, by omega, by omega, by omega⟩
    · rw [Ren.set_other ρ l e] at hi
      obtain ⟨a, b, c, d⟩ := h.dom i q hi
      exact ⟨a, by omega, c, by omega⟩
  · intro i hi ht
    have e : i ≠ s.next := by omega
    cases ht' : s'.tag i with
    | none => exact absurd ht' ht
    | some t => exact h.low i hi (by rw [htags i t e ht']; simp)
  · intro i q hi
    by_cases e : i = s.next
    · omega
    · rw [hother i e] at hi
      have := h.heap_dom i q hi
      omega
  · intro i cs e f hi
    by_cases e' : i = s.next
    · subst e'
      rw [hsame] at hi
      cases hi
      have := hfam cs e f rfl
      omega
    · rw [hother i e'] at hi
      have := h.fam_dom i cs e f hi
      omega
  · intro i cs e f hc
    by_cases e' : i = s.next
    · subst e'
      exact ⟨l, hrow _ hc⟩
    · have hc' := hcells i _ e' hc
      obtain ⟨q, hq⟩ := h.rows i cs e f hc'
      exact ⟨q, hq.move hle (hold _ (h.blk_lt (tag_cells hc') hq.at_))⟩
  · intro i es c hi
    by_cases e' : i = s.next
    · subst e'
      rw [hsame] at hi
      cases hi
      obtain ⟨es', rfl, he⟩ := hmap es c rfl
      exact ⟨l, Ren.set_same _ _ _, es', by rw [hl]; exact hnew, he⟩
    · rw [hother i e'] at hi
      obtain ⟨q, hq, es', h1, h2⟩ := h.maps i es c hi
      exact ⟨q, hle _ _ hq, es', by rw [hold _ (h.dom i q hq).2.2.2]; exact h1, h2.mono hle⟩
  · intro i q hi
    by_cases e' : i = s.next
    · subst e'
      rw [hsame] at hi
      cases hi
      exact ⟨l, Ren.set_same _ _ _, o, by rw [hl]; exact hnew, hloop q rfl⟩
    · rw [hother i e'] at hi
      obtain ⟨u, hu, q', h1, h2⟩ := h.loops i q hi
      exact ⟨u, hle _ _ hu, q', by rw [hold _ (h.dom i u hu).2.2.2]; exact h1, h2.mono hle⟩
  · intro i j a b u v hi hj hab hu hv hh
    by_cases ei : i = s.next
    · subst ei
      rw [Ren.at_of hnx, Ren.set_same] at hu
      cases hu
      by_cases ej : j = s.next
      · subst ej
        rw [hi] at hj
        exact absurd (Option.some.inj hj) hab
      · have hj' := htags j b ej hj
        have hv' : ρ.at j = some v := by
          by_cases hlo : j < fixedTop
          · rw [Ren.at_low hlo] at hv ⊢; exact hv
          · rw [Ren.at_of (by omega)] at hv ⊢; rwa [Ren.set_other ρ l ej] at hv
        have := h.blk_lt hj' hv'
        omega
    · have hi' := htags i a ei hi
      have hu' : ρ.at i = some u := by
        by_cases hlo : i < fixedTop
        · rw [Ren.at_low hlo] at hu ⊢; exact hu
        · rw [Ren.at_of (by omega)] at hu ⊢; rwa [Ren.set_other ρ l ei] at hu
      by_cases ej : j = s.next
      · subst ej
        rw [Ren.at_of hnx, Ren.set_same] at hv
        cases hv
        have := h.blk_lt hi' hu'
        omega
      · have hj' := htags j b ej hj
        have hv' : ρ.at j = some v := by
          by_cases hlo : j < fixedTop
          · rw [Ren.at_low hlo] at hv ⊢; exact hv
          · rw [Ren.at_of (by omega)] at hv ⊢; rwa [Ren.set_other ρ l ej] at hv
        exact h.sep i j a b u v hi' hj' hab hu' hv' hh
end Go.Ax
namespace Go.Ax
variable [Lo]
open Go
section
variable {P : Program} {base : Nat} {ρ : Ren} {s s' : St} {w w' : World}
theorem alloc_at (w : World) (o : Obj) : (w.alloc o).heap[w.heap.size]? = some o := by
  show (w.heap.push o)[w.heap.size]? = _
  simp
theorem Goes.push (h : HR P base ρ s w) (r : Row) (l : Loc) (o : Obj)
    (hnext : s'.next = s.next + 1) (hheap : s'.heap = s.heap.set s.next r)
    (htags : ∀ i t, i ≠ s.next → s'.tag i = some t → s.tag i = some t)
    (hcells : ∀ i c, i ≠ s.next → s'.cells i = some c → s.cells i = some c)
    (hw : w'.heap = w.heap.push o) (hos : w'.os = w.os) (hta : w'.tape = w.tape) (hou : w'.output = w.output) (hl : l.blk = w.heap.size)
    (hfam : ∀ cs e f, r = .row cs e f → f ≤ s.next)
    (hrow : ∀ c, s'.cells s.next = some c → RowR P (ρ.set s.next l) w' s.next c.1 c.2.1 c.2.2 l)
    (hmap : ∀ es c, r = .map es c → ∃ es', o = .map es' c ∧ EsR (ρ.set s.next l) es es'.toList)
    (hloop : ∀ q, r = .loop q → ObjR (ρ.set s.next l) l q o) : Goes P base ρ s w (ρ.set s.next l) s' w' := by
  refine ⟨Ren.le_set h l, h.push r l o hnext hheap htags hcells hw hl hfam hrow hmap hloop, hos, hta, hou, by rw [hw]; simp, by omega, ?_, ?_, fun i hi => Ren.set_other ρ l (by omega)⟩
  · intro b hb _
    rw [hw, Array.getElem?_push, if_neg (by omega)]
  · rintro b ⟨i, q, a, hi, ht, hq, rfl⟩
    by_cases e : i = s.next
    · subst e
      rw [Ren.set_same] at hq
      cases hq
      right; omega
    · rw [Ren.set_other ρ l e] at hq
      exact .inl ⟨i, q, a, hi, htags i a e ht, hq, rfl⟩
theorem tag_set_other {t : Hp Row} {fams : Hp (List Nat)} {n k i : Nat} {r : Row} (hi : i ≠ k) : St.tag { heap := t.set k r, fams := fams, next := n } i = St.tag { heap := t, fams := fams, next := n } i := by
  unfold St.tag
  simp only [Hp.get_set_other _ _ hi]
theorem cells_set_other {t : Hp Row} {fams : Hp (List Nat)} {n k i : Nat} {r : Row} (hi : i ≠ k) : St.cells { heap := t.set k r, fams := fams, next := n } i = St.cells { heap := t, fams := fams, next := n } i := by
  unfold St.cells
  simp only [Hp.get_set_other _ _ hi]
theorem tag_set_fam {t : Hp Row} {fams : Hp (List Nat)} {n k i f : Nat} {r : Row} {ch : List Nat} {a : Nat × Nat} (hi : i ≠ k)
    (hch : ∀ j, j ∈ ch → j ≠ k → ∃ l, fams.get f = some l ∧ j ∈ l)
    (h : St.tag { heap := t.set k r, fams := fams.set f ch, next := n } i = some a) : St.tag { heap := t, fams := fams, next := n } i = some a := by
  unfold St.tag at h ⊢
  simp only [Hp.get_set_other _ _ hi] at h
  cases hg : t.get i with
  | none => simp [hg] at h
  | some x =>
    simp only [hg] at h ⊢
    cases x with
    | row cs e g =>
      simp only at h ⊢
      by_cases h0 : g = 0
      · simpa [h0] using h
      · simp only [h0, if_false] at h ⊢
        by_cases hgf : g = f
        · subst hgf
          simp only [Hp.get_set_same] at h
          split at h
          · rename_i hm
            obtain ⟨l, hl, hj⟩ := hch i hm hi
            simpa [hl, hj] using h
          · cases h
        · simpa only [Hp.get_set_other _ _ hgf] using h
    | map es c => exact h
    | loop q => exact h
    | other => exact h
theorem cells_set_fam {t : Hp Row} {fams : Hp (List Nat)} {n k i f : Nat} {r : Row} {ch : List Nat} {c : List Value × TypeId × Nat} (hi : i ≠ k)
    (hch : ∀ j, j ∈ ch → j ≠ k → ∃ l, fams.get f = some l ∧ j ∈ l)
    (h : St.cells { heap := t.set k r, fams := fams.set f ch, next := n } i = some c) : St.cells { heap := t, fams := fams, next := n } i = some c := by
  obtain ⟨cs, e, g⟩ := c
  rw [cells_some] at h ⊢
  simp only [Hp.get_set_other _ _ hi] at h
  refine ⟨h.1, ?_⟩
  rcases h.2 with h2 | ⟨l, hl, hm⟩
  · exact .inl h2
  · by_cases hgf : g = f
    · subst hgf
      simp only [Hp.get_set_same] at hl
      cases hl
      exact .inr (hch i hm hi)
    · simp only [Hp.get_set_other _ _ hgf] at hl
      exact .inr ⟨l, hl, hm⟩
theorem Goes.newRow (h : HR P base ρ s w) {cs : List Value} {e : TypeId} {a : Array Value} (ha : VRs ρ cs a.toList) :
    Goes P base ρ s w (ρ.set s.next ⟨w.heap.size, 0, 0⟩) { heap := s.heap.set s.next (.row cs e 0), fams := s.fams, next := Nat.succ s.next } (w.alloc (.cells a e)) := by
  refine Goes.push h (.row cs e 0) ⟨w.heap.size, 0, 0⟩ (.cells a e) rfl rfl (fun i t hi ht => ?_) (fun i c hi hc => ?_) rfl rfl rfl rfl rfl ?_ ?_ (fun _ _ e => by cases e) (fun _ e => by cases e)
  · rw [tag_set_other hi] at ht; exact ht
  · rw [cells_set_other hi] at hc; exact hc
  · intro cs' e' f hr; cases hr; omega
  · rintro ⟨cs', e', f⟩ hc
    obtain ⟨h1, _⟩ := cells_some.1 hc
    rw [Hp.get_set_same] at h1
    cases h1
    have hlen := ha.length
    simp at hlen
    refine ⟨by rw [Ren.at_of h.next, Ren.set_same], a, (0, 0), ⟨_, alloc_at _ _, fun _ => rfl⟩, ?_, fun _ o _ => by omega, fun _ => ⟨rfl, hlen, fun _ hh => absurd hh.2 (Nat.not_lt_zero _)⟩, fun h0 => absurd rfl h0⟩
    intro j x hj
    obtain ⟨y, hy, hv⟩ := ha.get hj
    exact ⟨y, by simpa using hy, hv.mono (Ren.le_set h _)⟩
theorem Goes.newFam (h : HR P base ρ s w) {cs : List Value} {e : TypeId} {a : Array Value} {cap n k : Nat} (hn : size P e = some n) (hn0 : 0 < n)
    (ha : ∀ (j : Nat) (x : Value), cs[j]? = some x → ∃ y, a[j]? = some y ∧ VR ρ x y) (hsz : a.size = cap * n) (hle : cs.length ≤ cap * n) :
    Goes P base ρ s w (ρ.set s.next ⟨w.heap.size, 0, cap⟩) { heap := s.heap.set s.next (.row cs e s.next), fams := s.fams.set s.next [s.next], next := Nat.succ s.next }
      ({ w with drawn := k }.alloc (.cells a e)) := by
  have hch : ∀ j, j ∈ [s.next] → j ≠ s.next → ∃ l, s.fams.get s.next = some l ∧ j ∈ l := fun j hj hne => absurd (by simpa using hj) hne
  refine Goes.push h (.row cs e s.next) ⟨w.heap.size, 0, cap⟩ (.cells a e) rfl rfl (fun i t hi ht => ?_) (fun i c hi hc => ?_) rfl rfl rfl rfl rfl ?_ ?_ (fun _ _ e => by cases e) (fun _ e => by cases e)
  · exact tag_set_fam hi hch ht
  · exact cells_set_fam hi hch hc
  · intro cs' e' f hr; cases hr; omega
  · rintro ⟨cs', e', f⟩ hc
    obtain ⟨h1, _⟩ := cells_some.1 hc
    rw [Hp.get_set_same] at h1
    cases h1
    have := h.next
    have hft : fixedTop = 64 := rfl
    refine ⟨by rw [Ren.at_of h.next, Ren.set_same], a, (0, 0), ⟨_, alloc_at { w with drawn := k } _, fun _ => rfl⟩, ?_, fun _ o _ => by omega, fun h0 => absurd (show s.next = 0 from h0) (by omega), fun _ => ⟨n, hn, hn0, by simp [hsz], hle⟩⟩
    intro j x hj
    obtain ⟨y, hy, hv⟩ := ha j x hj
    exact ⟨y, by simpa using hy, hv.mono (Ren.le_set h _)⟩
theorem Goes.newMap (h : HR P base ρ s w) : Goes P base ρ s w (ρ.set s.next ⟨w.heap.size, 0, 0⟩) { heap := s.heap.set s.next (.map [] 0), fams := s.fams, next := Nat.succ s.next } (w.alloc (.map #[] 0)) := by
  refine Goes.push h (.map [] 0) ⟨w.heap.size, 0, 0⟩ (.map #[] 0) rfl rfl (fun i t hi ht => ?_) (fun i c hi hc => ?_) rfl rfl rfl rfl rfl (fun _ _ _ e => by cases e) ?_ ?_ (fun _ e => by cases e)
  · rw [tag_set_other hi] at ht; exact ht
  · rw [cells_set_other hi] at hc; exact hc
  · rintro ⟨cs', e', f⟩ hc
    obtain ⟨h1, _⟩ := cells_some.1 hc
    rw [Hp.get_set_same] at h1
    cases h1
  · intro es c hr
    cases hr
    exact ⟨#[], rfl, .nil⟩
theorem Goes.newOther (h : HR P base ρ s w) (o : Obj) : Goes P base ρ s w (ρ.set s.next ⟨w.heap.size, 0, 0⟩) { heap := s.heap.set s.next .other, fams := s.fams, next := Nat.succ s.next } (w.alloc o) := by
  refine Goes.push h .other ⟨w.heap.size, 0, 0⟩ o rfl rfl (fun i t hi ht => ?_) (fun i c hi hc => ?_) rfl rfl rfl rfl rfl (fun _ _ _ e => by cases e) ?_ (fun _ _ e => by cases e) (fun _ e => by cases e)
  · rw [tag_set_other hi] at ht; exact ht
  · rw [cells_set_other hi] at hc; exact hc
  · rintro ⟨cs', e', f⟩ hc
    obtain ⟨h1, _⟩ := cells_some.1 hc
    rw [Hp.get_set_same] at h1
    cases h1
theorem Goes.newLoop (h : HR P base ρ s w) {r : ALoop} {q : Loop} (hr : LoopR ρ r q) : Goes P base ρ s w (ρ.set s.next ⟨w.heap.size, 0, 0⟩) { heap := s.heap.set s.next (.loop (.loop r)), fams := s.fams, next := Nat.succ s.next } (w.alloc (.loop q)) := by
  refine Goes.push h (.loop (.loop r)) ⟨w.heap.size, 0, 0⟩ (.loop q) rfl rfl (fun i t hi ht => ?_) (fun i c hi hc => ?_) rfl rfl rfl rfl rfl (fun _ _ _ e => by cases e) ?_ (fun _ _ e => by cases e) ?_
  · rw [tag_set_other hi] at ht; exact ht
  · rw [cells_set_other hi] at hc; exact hc
  · rintro ⟨cs', e', f⟩ hc
    obtain ⟨h1, _⟩ := cells_some.1 hc
    rw [Hp.get_set_same] at h1
    cases h1
  · intro q' e
    cases e
    exact .loop (hr.mono (Ren.le_set h _))
theorem Goes.newIter (h : HR P base ρ s w) {r : AIter} {m : Loc} (hm : ρ r.map = some m) : Goes P base ρ s w (ρ.set s.next ⟨w.heap.size, 0, 0⟩) { heap := s.heap.set s.next (.loop (.iter r)), fams := s.fams, next := Nat.succ s.next } (w.alloc (.mapIter (some m.blk) r.since ⟨r.seen⟩ r.stepped)) := by
  refine Goes.push h (.loop (.iter r)) ⟨w.heap.size, 0, 0⟩ (.mapIter (some m.blk) r.since ⟨r.seen⟩ r.stepped) rfl rfl (fun i t hi ht => ?_) (fun i c hi hc => ?_) rfl rfl rfl rfl rfl (fun _ _ _ e => by cases e) ?_ (fun _ _ e => by cases e) ?_
  · rw [tag_set_other hi] at ht; exact ht
  · rw [cells_set_other hi] at hc; exact hc
  · rintro ⟨cs', e', f⟩ hc
    obtain ⟨h1, _⟩ := cells_some.1 hc
    rw [Hp.get_set_same] at h1
    cases h1
  · intro q' e
    cases e
    exact .iter rfl (Ren.le_set h _ _ _ hm)
theorem Goes.put (h : HR P base ρ s w) {b : Nat} {cs cs' : List Value} {e : TypeId} {f : Nat} {l : Loc} (hb : fixedTop ≤ b) (hc : s.cells b = some (cs, e, f)) (hl : ρ.at b = some l)
    {a a' : Array Value} {fz : Nat × Nat} (ha : w.heap[l.blk]? = some (.cells a e fz)) (hlen : cs'.length = cs.length) (hsz : a'.size = a.size)
    (hv : ∀ (j : Nat) (x : Value), cs'[j]? = some x → ∃ y, a'[l.off + j]? = some y ∧ VR ρ x y) : Goes P base ρ s w ρ (putRow s b cs' e f) (w.setRow l.blk a') := by
  obtain ⟨hg, hlive⟩ := cells_some.1 hc
  have htb := tag_cells hc
  have hlt := h.blk_lt htb hl
  have hother : ∀ k, k ≠ l.blk → (w.setRow l.blk a').heap[k]? = w.heap[k]? := fun k hk => by
    simp only [World.setRow, Array.getElem?_modify]
    rw [if_neg (by omega)]
  have hsame : (w.setRow l.blk a').heap[l.blk]? = some (.cells a' e fz) := setRow_heap w l.blk a a' e fz ha
  have hsize : (w.setRow l.blk a').heap.size = w.heap.size := by simp [World.setRow]
  have hch : ∀ j, j ∈ [b] → j ≠ b → ∃ q, s.fams.get f = some q ∧ j ∈ q := fun j hj hne => absurd (by simpa using hj) hne
  have htags : ∀ i t, i ≠ b → (putRow s b cs' e f).tag i = some t → s.tag i = some t := by
    intro i t hi ht
    unfold putRow at ht
    by_cases h0 : f = 0
    · subst h0
      exact (tag_set_other (n := s.next) hi) ▸ ht
    · have : Nat.beq f 0 = false := by rw [← Bool.not_eq_true, Nat.beq_eq]; exact h0
      rw [this, sel_false] at ht
      exact tag_set_fam hi hch ht
  have hcells : ∀ i c, i ≠ b → (putRow s b cs' e f).cells i = some c → s.cells i = some c := by
    intro i c hi ht
    unfold putRow at ht
    by_cases h0 : f = 0
    · subst h0
      exact (cells_set_other (n := s.next) hi) ▸ ht
    · have : Nat.beq f 0 = false := by rw [← Bool.not_eq_true, Nat.beq_eq]; exact h0
      rw [this, sel_false] at ht
      exact cells_set_fam hi hch ht
  have hdiff : ∀ i t, i ≠ b → (putRow s b cs' e f).tag i = some t → t ≠ (if f = 0 then (0, b) else (1, f)) := by
    intro i t hi ht
    have ht' := htags i t hi ht
    unfold putRow at ht
    by_cases h0 : f = 0
    · subst h0
      simp only [if_true]
      rintro rfl
      unfold St.tag at ht'
      split at ht'
      · split at ht'
        · simp at ht'; exact hi ht'
        · split at ht'
          · split at ht' <;> simp at ht'
          · cases ht'
      · simp at ht'; exact hi ht'
      · simp at ht'; exact hi ht'
      · cases ht'
    · have hbf : Nat.beq f 0 = false := by rw [← Bool.not_eq_true, Nat.beq_eq]; exact h0
      rw [hbf, sel_false] at ht
      simp only [h0, if_false]
      rintro rfl
      unfold St.tag at ht
      simp only [Hp.get_set_other _ _ hi] at ht
      split at ht
      · rename_i cs1 e1 g1 hg1
        by_cases h1 : g1 = 0
        · simp [h1] at ht
        · simp only [h1, if_false] at ht
          by_cases hgf : g1 = f
          · subst hgf
            simp only [Hp.get_set_same, List.mem_singleton, hi, if_false] at ht
            cases ht
          · split at ht
            · split at ht
              · simp at ht; exact hgf ht
              · cases ht
            · cases ht
      · simp at ht
      · simp at ht
      · cases ht
  have hrow : ∀ i t q, i ≠ b → (putRow s b cs' e f).tag i = some t → ρ.at i = some q → q.blk ≠ l.blk := by
    intro i t q hi ht hq
    exact h.sep i b t _ q l (htags i t hi ht) htb (hdiff i t hi ht) hq hl (.inr hb)
  have htb' : (putRow s b cs' e f).tag b = some (if f = 0 then (0, b) else (1, f)) := by
    unfold putRow St.tag
    simp only [Hp.get_set_same]
    by_cases h0 : f = 0
    · simp [h0]
    · have hbf : Nat.beq f 0 = false := by rw [← Bool.not_eq_true, Nat.beq_eq]; exact h0
      simp [h0, hbf, sel_false, Hp.get_set_same]
  have hHR : HR P base ρ (putRow s b cs' e f) (w.setRow l.blk a') := by
    refine ⟨fun i q hi => ?_, h.next, by rw [hsize]; exact h.base_le, fun i hi ht => ?_, fun i r hi => ?_, fun i cs1 e1 f1 hi => ?_, fun i cs1 e1 f1 hi => ?_, fun i es c hi => ?_, fun i r hi => ?_, fun i j x y u v hi hj hxy hu hv => ?_⟩
    · rw [hsize]; exact h.dom i q hi
    · have hib : i ≠ b := by omega
      cases ht' : (putRow s b cs' e f).tag i with
      | none => exact absurd ht' ht
      | some t => exact h.low i hi (by rw [htags i t hib ht']; simp)
    · by_cases hib : i = b
      · subst hib; exact h.heap_dom i _ hg
      · unfold putRow at hi
        simp only [Hp.get_set_other _ _ hib] at hi
        exact h.heap_dom i r hi
    · by_cases hib : i = b
      · subst hib
        unfold putRow at hi
        simp only [Hp.get_set_same] at hi
        cases hi
        exact h.fam_dom i _ _ _ hg
      · unfold putRow at hi
        simp only [Hp.get_set_other _ _ hib] at hi
        exact h.fam_dom i _ _ _ hi
    · by_cases hib : i = b
      · subst hib
        obtain ⟨h1, _⟩ := cells_some.1 hi
        unfold putRow at h1
        simp only [Hp.get_set_same] at h1
        cases h1
        obtain ⟨q, hq⟩ := h.rows i cs e f hc
        have hql : q = l := by have := hq.at_; rw [hl] at this; exact (Option.some.inj this).symm
        subst hql
        obtain ⟨_, a0, fz0, ⟨e9, g1, _⟩, g2, g3, g4, g5⟩ := hq
        rw [ha] at g1
        cases g1
        exact ⟨q, hl, a', fz, ⟨_, hsame, fun _ => rfl⟩, hv, fun hi o ho => g3 hi o (by omega), fun h0 => ⟨(g4 h0).1, by rw [hsz, (g4 h0).2.1, hlen], fun hi => by rw [hsz]; exact (g4 h0).2.2 hi⟩, fun h0 => by rw [hsz, hlen]; exact g5 h0⟩
      · have hi' := hcells i _ hib hi
        obtain ⟨q, hq⟩ := h.rows i cs1 e1 f1 hi'
        exact ⟨q, hq.move (Ren.le_refl ρ) (hother _ (hrow i _ q hib (tag_cells hi) hq.at_))⟩
    · have hib : i ≠ b := by
        rintro rfl
        unfold putRow at hi
        simp only [Hp.get_set_same] at hi
        cases hi
      have ht : (putRow s b cs' e f).tag i = some (0, i) := tag_map hi
      unfold putRow at hi
      simp only [Hp.get_set_other _ _ hib] at hi
      obtain ⟨q, hq, es', h1, h2⟩ := h.maps i es c hi
      exact ⟨q, hq, es', by rw [hother _ (hrow i _ q hib ht (by rw [Ren.at_of (h.dom i q hq).1]; exact hq))]; exact h1, h2⟩
    · have hib : i ≠ b := by
        rintro rfl
        unfold putRow at hi
        simp only [Hp.get_set_same] at hi
        cases hi
      have ht : (putRow s b cs' e f).tag i = some (0, i) := tag_loop hi
      unfold putRow at hi
      simp only [Hp.get_set_other _ _ hib] at hi
      obtain ⟨q, hq, es', h1, h2⟩ := h.loops i r hi
      exact ⟨q, hq, es', by rw [hother _ (hrow i _ q hib ht (by rw [Ren.at_of (h.dom i q hq).1]; exact hq))]; exact h1, h2⟩
    · have hi' : s.tag i = some x := by
        by_cases hib : i = b
        · subst hib; rw [htb'] at hi; rw [htb]; exact hi
        · exact htags i x hib hi
      have hj' : s.tag j = some y := by
        by_cases hjb : j = b
        · subst hjb; rw [htb'] at hj; rw [htb]; exact hj
        · exact htags j y hjb hj
      exact h.sep i j x y u v hi' hj' hxy hu hv
  refine ⟨Ren.le_refl ρ, hHR, rfl, rfl, rfl, by rw [hsize]; exact Nat.le_refl _, Nat.le_refl _, fun k hk hn => hother k ?_, ?_, fun _ _ => rfl⟩
  · rintro rfl
    exact hn ⟨b, l, _, hb, htb, by rwa [Ren.at_of hb] at hl, rfl⟩
  · rintro k ⟨i, q, t, hi, ht, hq, rfl⟩
    left
    by_cases hib : i = b
    · subst hib; rw [htb'] at ht; exact ⟨i, q, t, hi, by rw [htb]; exact ht, hq, rfl⟩
    · exact ⟨i, q, t, hi, htags i t hib ht, hq, rfl⟩
theorem Goes.share (h : HR P base ρ s w) {b : Nat} {cs cells : List Value} {e : TypeId} {f : Nat} {l ln : Loc} (hb : fixedTop ≤ b) (hc : s.cells b = some (cs, e, f)) (hf : f ≠ 0) (hl : ρ.at b = some l)
    {a a' : Array Value} {fz : Nat × Nat} (ha : w.heap[l.blk]? = some (.cells a e fz)) (hsz : a'.size = a.size)
    (hv : ∀ (j : Nat) (x : Value), cs[j]? = some x → ∃ y, a'[l.off + j]? = some y ∧ VR ρ x y)
    (hln : ln.blk = l.blk) (hn : ∀ (j : Nat) (x : Value), cells[j]? = some x → ∃ y, a'[ln.off + j]? = some y ∧ VR ρ x y)
    (hcap : ∀ n, size P e = some n → ln.off + ln.cap * n ≤ a.size ∧ cells.length ≤ ln.cap * n) :
    Goes P base ρ s w (ρ.set s.next ln) { heap := s.heap.set s.next (.row cells e f), fams := s.fams.set f [s.next, b], next := Nat.succ s.next } (w.setRow l.blk a') := by
  obtain ⟨hg, hlive⟩ := cells_some.1 hc
  have hle := Ren.le_set h ln
  have htb := tag_cells hc
  have hlt := h.blk_lt htb hl
  have hbn : b < s.next := h.heap_dom b _ hg
  have hnx := h.next
  have hfn := h.fam_dom b _ _ _ hg
  have hlb : ρ b = some l := by rwa [Ren.at_of hb] at hl
  obtain ⟨q0, hq0⟩ := h.rows b cs e f hc
  have hql : q0 = l := by have := hq0.at_; rw [hl] at this; exact (Option.some.inj this).symm
  subst hql
  obtain ⟨_, a0, fz0, ⟨e9, g1, _⟩, g2, g3, g4, g5⟩ := hq0
  rw [ha] at g1
  cases g1
  obtain ⟨n, hn1, hn2, hn3, hn4⟩ := g5 hf
  have hother : ∀ k, k ≠ q0.blk → (w.setRow q0.blk a').heap[k]? = w.heap[k]? := fun k hk => by
    simp only [World.setRow, Array.getElem?_modify]
    rw [if_neg (by omega)]
  have hsame : (w.setRow q0.blk a').heap[q0.blk]? = some (.cells a' e fz) := setRow_heap w q0.blk a a' e fz ha
  have hsize : (w.setRow q0.blk a').heap.size = w.heap.size := by simp [World.setRow]
  obtain ⟨lst, hlst, hmem⟩ := hlive.resolve_left hf
  have hch : ∀ j, j ∈ [s.next, b] → j ≠ s.next → ∃ q, s.fams.get f = some q ∧ j ∈ q := fun j hj hne => by
    have : j = b := by simpa [hne] using hj
    subst this
    exact ⟨lst, hlst, hmem⟩
  generalize hs' : ({ heap := s.heap.set s.next (.row cells e f), fams := s.fams.set f [s.next, b], next := Nat.succ s.next } : St) = s'
  have hheap : s'.heap = s.heap.set s.next (.row cells e f) := by rw [← hs']
  have hnext' : s'.next = s.next + 1 := by rw [← hs']
  have htags : ∀ i t, i ≠ s.next → s'.tag i = some t → s.tag i = some t := by
    intro i t hi ht
    rw [← hs'] at ht
    exact tag_set_fam hi hch ht
  have hcells : ∀ i c, i ≠ s.next → s'.cells i = some c → s.cells i = some c := by
    intro i c hi ht
    rw [← hs'] at ht
    exact cells_set_fam hi hch ht
  have htn : s'.tag s.next = some (1, f) := by
    rw [← hs']; unfold St.tag
    simp [Hp.get_set_same, hf]
  have htb1 : s.tag b = some (1, f) := by rw [htb]; simp [hf]
  have hdiff : ∀ i t, i ≠ s.next → i ≠ b → s'.tag i = some t → t ≠ (1, f) := by
    intro i t hi hib ht
    rw [← hs'] at ht
    rintro rfl
    unfold St.tag at ht
    simp only [Hp.get_set_other _ _ hi] at ht
    split at ht
    · rename_i cs1 e1 g1 hg1
      by_cases h1 : g1 = 0
      · simp [h1] at ht
      · simp only [h1, if_false] at ht
        by_cases hgf : g1 = f
        · subst hgf
          simp [Hp.get_set_same, hi, hib] at ht
        · split at ht
          · split at ht
            · simp at ht; exact hgf ht
            · cases ht
          · cases ht
    · simp at ht
    · simp at ht
    · cases ht
  have hblk : ∀ i t q, i ≠ s.next → i ≠ b → s'.tag i = some t → ρ.at i = some q → q.blk ≠ q0.blk := fun i t q hi hib ht hq =>
    h.sep i b t _ q q0 (htags i t hi ht) htb1 (hdiff i t hi hib ht) hq hl (.inr hb)
  have hatn : (ρ.set s.next ln).at s.next = some ln := by rw [Ren.at_of hnx, Ren.set_same]
  have hato : ∀ i, i ≠ s.next → (ρ.set s.next ln).at i = ρ.at i := fun i hi => by
    by_cases hlo : i < fixedTop
    · rw [Ren.at_low hlo, Ren.at_low hlo]
    · rw [Ren.at_of (by omega), Ren.at_of (by omega), Ren.set_other ρ ln hi]
  have hHR : HR P base (ρ.set s.next ln) s' (w.setRow q0.blk a') := by
    refine ⟨fun i q hi => ?_, by omega, by rw [hsize]; exact h.base_le, fun i hi ht => ?_, fun i r hi => ?_, fun i cs1 e1 f1 hi => ?_, fun i cs1 e1 f1 hi => ?_, fun i es c hi => ?_, fun i r hi => ?_, fun i j x y u v hi hj hxy hu hv hh => ?_⟩
    · rw [hsize]
      by_cases e' : i = s.next
      · subst e'
        rw [Ren.set_same] at hi
        cases hi
        have := h.dom b q0 hlb
        exact ⟨hnx, by omega, by omega, by omega⟩
      · rw [Ren.set_other ρ ln e'] at hi
        obtain ⟨x, y, z, u⟩ := h.dom i q hi
        exact ⟨x, by omega, z, u⟩
    · have e' : i ≠ s.next := by omega
      cases ht' : s'.tag i with
      | none => exact absurd ht' ht
      | some t => exact h.low i hi (by rw [htags i t e' ht']; simp)
    · by_cases e' : i = s.next
      · omega
      · rw [hheap, Hp.get_set_other _ _ e'] at hi
        have := h.heap_dom i r hi
        omega
    · by_cases e' : i = s.next
      · subst e'
        rw [hheap, Hp.get_set_same] at hi
        cases hi
        omega
      · rw [hheap, Hp.get_set_other _ _ e'] at hi
        have := h.fam_dom i _ _ _ hi
        omega
    · by_cases e' : i = s.next
      · subst e'
        obtain ⟨h1, _⟩ := cells_some.1 hi
        rw [hheap, Hp.get_set_same] at h1
        cases h1
        obtain ⟨c1, c2⟩ := hcap n hn1
        exact ⟨ln, hatn, a', fz, ⟨_, by rw [hln]; exact hsame, fun _ => rfl⟩, fun j x hj => let ⟨y, hy, hv⟩ := hn j x hj; ⟨y, hy, hv.mono hle⟩, fun _ o ho => g3 hb o (by omega),
          fun h0 => absurd h0 hf, fun _ => ⟨n, hn1, hn2, by omega, c2⟩⟩
      · have hi' := hcells i _ e' hi
        by_cases hib : i = b
        · subst hib
          rw [hc] at hi'
          cases hi'
          exact ⟨q0, by rw [hato i e']; exact hl, a', fz, ⟨_, hsame, fun _ => rfl⟩, fun j x hj => let ⟨y, hy, hv⟩ := hv j x hj; ⟨y, hy, hv.mono hle⟩, fun hi o ho => g3 hi o (by omega),
            fun h0 => absurd h0 hf, fun _ => ⟨n, hn1, hn2, by omega, hn4⟩⟩
        · obtain ⟨q, hq⟩ := h.rows i cs1 e1 f1 hi'
          exact ⟨q, hq.move hle (hother _ (hblk i _ q e' hib (tag_cells hi) hq.at_))⟩
    · have e' : i ≠ s.next := by
        rintro rfl
        rw [hheap, Hp.get_set_same] at hi
        cases hi
      have ht : s'.tag i = some (0, i) := tag_map hi
      rw [hheap, Hp.get_set_other _ _ e'] at hi
      have hib : i ≠ b := by rintro rfl; rw [hg] at hi; cases hi
      obtain ⟨q, hq, es', h1, h2⟩ := h.maps i es c hi
      exact ⟨q, hle _ _ hq, es', by rw [hother _ (hblk i _ q e' hib ht (by rw [Ren.at_of (h.dom i q hq).1]; exact hq))]; exact h1, h2.mono hle⟩
    · have e' : i ≠ s.next := by
        rintro rfl
        rw [hheap, Hp.get_set_same] at hi
        cases hi
      have ht : s'.tag i = some (0, i) := tag_loop hi
      rw [hheap, Hp.get_set_other _ _ e'] at hi
      have hib : i ≠ b := by rintro rfl; rw [hg] at hi; cases hi
      obtain ⟨q, hq, es', h1, h2⟩ := h.loops i r hi
      exact ⟨q, hle _ _ hq, es', by rw [hother _ (hblk i _ q e' hib ht (by rw [Ren.at_of (h.dom i q hq).1]; exact hq))]; exact h1, h2.mono hle⟩
    · by_cases ei : i = s.next
      · subst ei
        rw [htn] at hi
        cases hi
        rw [hatn] at hu
        cases hu
        have ej : j ≠ s.next := by rintro rfl; rw [htn] at hj; cases hj; exact hxy rfl
        rw [hato j ej] at hv
        rw [hln]
        exact h.sep b j _ y q0 v htb1 (htags j y ej hj) hxy hl hv (.inl hb)
      · rw [hato i ei] at hu
        by_cases ej : j = s.next
        · subst ej
          rw [htn] at hj
          cases hj
          rw [hatn] at hv
          cases hv
          rw [hln]
          exact h.sep i b x _ u q0 (htags i x ei hi) htb1 hxy hu hl (.inr hb)
        · rw [hato j ej] at hv
          exact h.sep i j x y u v (htags i x ei hi) (htags j y ej hj) hxy hu hv hh
  refine ⟨hle, hHR, rfl, rfl, rfl, by rw [hsize]; exact Nat.le_refl _, by omega, fun k hk hn => hother k ?_, ?_, fun i hi => Ren.set_other ρ ln (by omega)⟩
  · rintro rfl
    exact hn ⟨b, q0, _, hb, htb, hlb, rfl⟩
  · rintro k ⟨i, q, t, hi, ht, hq, rfl⟩
    left
    by_cases e' : i = s.next
    · subst e'
      rw [Ren.set_same] at hq
      cases hq
      exact ⟨b, q0, _, hb, htb, hlb, hln.symm⟩
    · rw [Ren.set_other ρ ln e'] at hq
      exact ⟨i, q, t, hi, htags i t e' ht, hq, rfl⟩
theorem Goes.shareNew (h : HR P base ρ s w) {b : Nat} {cs cells : List Value} {e : TypeId} {f : Nat} {cap n k : Nat} (hc : s.cells b = some (cs, e, f)) (hf : f ≠ 0) {a : Array Value}
    (hn : size P e = some n) (hn0 : 0 < n) (ha : ∀ (j : Nat) (x : Value), cells[j]? = some x → ∃ y, a[j]? = some y ∧ VR ρ x y) (hsz : a.size = cap * n) (hle : cells.length ≤ cap * n) :
    Goes P base ρ s w (ρ.set s.next ⟨w.heap.size, 0, cap⟩) { heap := s.heap.set s.next (.row cells e f), fams := s.fams.set f [s.next, b], next := Nat.succ s.next }
      ({ w with drawn := k }.alloc (.cells a e)) := by
  obtain ⟨hg, hlive⟩ := cells_some.1 hc
  obtain ⟨lst, hlst, hmem⟩ := hlive.resolve_left hf
  have hfn := h.fam_dom b _ _ _ hg
  have hch : ∀ j, j ∈ [s.next, b] → j ≠ s.next → ∃ q, s.fams.get f = some q ∧ j ∈ q := fun j hj hne => by
    have : j = b := by simpa [hne] using hj
    subst this
    exact ⟨lst, hlst, hmem⟩
  refine Goes.push h (.row cells e f) ⟨w.heap.size, 0, cap⟩ (.cells a e) rfl rfl (fun i t hi ht => ?_) (fun i c hi hc => ?_) rfl rfl rfl rfl rfl ?_ ?_ (fun _ _ e => by cases e) (fun _ e => by cases e)
  · exact tag_set_fam hi hch ht
  · exact cells_set_fam hi hch hc
  · intro cs' e' f hr; cases hr; omega
  · rintro ⟨cs', e', f'⟩ hc
    obtain ⟨h1, _⟩ := cells_some.1 hc
    rw [Hp.get_set_same] at h1
    cases h1
    refine ⟨by rw [Ren.at_of h.next, Ren.set_same], a, (0, 0), ⟨_, alloc_at { w with drawn := k } _, fun _ => rfl⟩, ?_, fun _ o _ => by omega, fun h0 => absurd h0 hf, fun _ => ⟨n, hn, hn0, by simp [hsz], hle⟩⟩
    intro j x hj
    obtain ⟨y, hy, hv⟩ := ha j x hj
    exact ⟨y, by simpa using hy, hv.mono (Ren.le_set h _)⟩
theorem Goes.putObj (h : HR P base ρ s w) {i : Nat} {l : Loc} {r : Row} {o : Obj} (ht : s.tag i = some (0, i)) (hl : ρ i = some l)
    (hr : (∃ es c, r = .map es c ∧ ∃ es', o = .map es' c ∧ EsR ρ es es'.toList) ∨ (∃ q, r = .loop q ∧ ObjR ρ l q o)) :
    Goes P base ρ s w ρ (s.put i r) { w with heap := w.heap.setIfInBounds l.blk o } := by
  obtain ⟨d1, d2, d3, d4⟩ := h.dom i l hl
  have hother : ∀ k, k ≠ l.blk → (w.heap.setIfInBounds l.blk o)[k]? = w.heap[k]? := fun k hk => by
    rw [Array.getElem?_setIfInBounds, if_neg (by omega)]
  have hsame : (w.heap.setIfInBounds l.blk o)[l.blk]? = some o := by
    rw [Array.getElem?_setIfInBounds, if_pos rfl, if_pos d4]
  have hsize : (w.heap.setIfInBounds l.blk o).size = w.heap.size := by simp
  have hget : ∀ j, j ≠ i → (s.put i r).heap.get j = s.heap.get j := fun j hj => Hp.get_set_other _ _ hj
  have hgets : (s.put i r).heap.get i = some r := Hp.get_set_same _ _ _
  have hti : (s.put i r).tag i = some (0, i) := by
    rcases hr with ⟨es, c, rfl, _⟩ | ⟨q, rfl, _⟩
    · exact tag_map hgets
    · exact tag_loop hgets
  have htags : ∀ j t, (s.put i r).tag j = some t → s.tag j = some t := by
    intro j t hj
    by_cases e : j = i
    · subst e; rw [hti] at hj; rw [ht]; exact hj
    · unfold St.tag at hj ⊢
      rw [hget j e] at hj
      exact hj
  have hcells : ∀ j c, (s.put i r).cells j = some c → j ≠ i ∧ s.cells j = some c := by
    rintro j ⟨cs, e, f⟩ hj
    have hj' := cells_some.1 hj
    have hji : j ≠ i := by
      rintro rfl
      rw [hgets] at hj'
      rcases hr with ⟨es, c, rfl, _⟩ | ⟨q, rfl, _⟩ <;> simp at hj'
    exact ⟨hji, cells_some.2 ⟨by rw [← hget j hji]; exact hj'.1, hj'.2⟩⟩
  have hblk : ∀ j t q, j ≠ i → s.tag j = some t → ρ.at j = some q → q.blk ≠ l.blk := by
    intro j t q hj htj hq
    refine h.sep j i t _ q l htj ht ?_ hq (by rw [Ren.at_of d1]; exact hl) (.inr d1)
    rintro rfl
    unfold St.tag at htj
    split at htj
    · split at htj
      · simp at htj; exact hj htj
      · split at htj
        · split at htj <;> simp at htj
        · cases htj
    · simp at htj; exact hj htj
    · simp at htj; exact hj htj
    · cases htj
  refine ⟨Ren.le_refl ρ, ?_, rfl, rfl, rfl, by show _ ≤ (w.heap.setIfInBounds l.blk o).size; rw [hsize]; exact Nat.le_refl _, Nat.le_refl _, fun k hk hn => hother k ?_, ?_, fun _ _ => rfl⟩
  · refine ⟨fun j q hj => by show _ ∧ _ ∧ _ ∧ _ < (w.heap.setIfInBounds l.blk o).size; rw [hsize]; exact h.dom j q hj, h.next, by show base ≤ (w.heap.setIfInBounds l.blk o).size; rw [hsize]; exact h.base_le, fun j hj htj => ?_, fun j q hj => ?_, fun j cs e f hj => ?_,
      fun j cs e f hj => ?_, fun j es c hj => ?_, fun j q hj => ?_, fun j k x y u v hj hk hxy hu hv => h.sep j k x y u v (htags j x hj) (htags k y hk) hxy hu hv⟩
    · cases ht' : (s.put i r).tag j with
      | none => exact absurd ht' htj
      | some t => exact h.low j hj (by rw [htags j t ht']; simp)
    · by_cases e : j = i
      · subst e; exact d2
      · rw [hget j e] at hj; exact h.heap_dom j q hj
    · by_cases e' : j = i
      · subst e'; rw [hgets] at hj
        rcases hr with ⟨es, c, rfl, _⟩ | ⟨q, rfl, _⟩ <;> simp at hj
      · rw [hget j e'] at hj; exact h.fam_dom j cs e f hj
    · obtain ⟨hji, hj'⟩ := hcells j _ hj
      obtain ⟨q, hq⟩ := h.rows j cs e f hj'
      exact ⟨q, hq.move (Ren.le_refl ρ) (hother _ (hblk j _ q hji (tag_cells hj') hq.at_))⟩
    · by_cases e' : j = i
      · subst e'
        rw [hgets] at hj
        rcases hr with ⟨es0, c0, rfl, es', rfl, he⟩ | ⟨q, rfl, _⟩
        · cases hj
          exact ⟨l, hl, es', hsame, he⟩
        · cases hj
      · rw [hget j e'] at hj
        obtain ⟨q, hq, es', h1, h2⟩ := h.maps j es c hj
        exact ⟨q, hq, es', by show (w.heap.setIfInBounds l.blk o)[q.blk]? = _; rw [hother _ (hblk j _ q e' (tag_map hj) (by rw [Ren.at_of (h.dom j q hq).1]; exact hq))]; exact h1, h2⟩
    · by_cases e' : j = i
      · subst e'
        rw [hgets] at hj
        rcases hr with ⟨es0, c0, rfl, _⟩ | ⟨q0, rfl, he⟩
        · cases hj
        · cases hj
          exact ⟨l, hl, o, hsame, he⟩
      · rw [hget j e'] at hj
        obtain ⟨u, hu, q', h1, h2⟩ := h.loops j q hj
        exact ⟨u, hu, q', by show (w.heap.setIfInBounds l.blk o)[u.blk]? = _; rw [hother _ (hblk j _ u e' (tag_loop hj) (by rw [Ren.at_of (h.dom j u hu).1]; exact hu))]; exact h1, h2⟩
  · rintro rfl
    exact hn ⟨i, l, _, d1, ht, hl, rfl⟩
  · rintro k ⟨j, q, t, hj, htj, hq, rfl⟩
    exact .inl ⟨j, q, t, hj, htags j t htj, hq, rfl⟩
end
end Go.Ax
namespace Go.Ax
variable [Lo]
open Go
theorem run_storeCells_gen (P : Program) (g o : Nat) (t : TypeId) (fz : Nat × Nat) : ∀ (vs : List Value) (i : Nat) (cur : Array Value) (w : World), w.heap[g]? = some (.cells cur t fz) → o + i + vs.length ≤ cur.size →
    (∀ k, k < cur.size → ¬ (fz.1 ≤ k ∧ k < fz.2)) → (∀ v ∈ vs, v.oneCell' = true) →
    (Go.storeCells ⟨g, o, none⟩ vs i).run P w = .ok () (w.setRow g (cur.toList.take (o + i) ++ vs ++ cur.toList.drop (o + i + vs.length)).toArray)
  | [], i, cur, w, hg, _, _, _ => by
    simp only [Go.storeCells, List.append_nil, List.length_nil, Nat.add_zero, List.take_append_drop, Array.toArray_toList]
    rw [setRow_self w g cur t fz hg]
    rfl
  | v :: rest, i, cur, w, hg, hl, hz, h1 => by
    have hi : o + i < cur.size := by simp at hl; omega
    have hadd : (⟨g, o, none⟩ : Addr).add i = ⟨g, o + i, none⟩ := by unfold Addr.add; split <;> simp_all
    have hcell : w.cell? ⟨g, o + i, none⟩ = some cur[o + i] := by simp [World.cell?, hg, hi]
    have hz' := hz (o + i) hi
    have hfro : w.frozen? ⟨g, o + i, none⟩ = false := by
      have h2 : (decide (fz.1 ≤ o + i) && decide (o + i < fz.2)) = false := by
        rw [← Bool.not_eq_true]; simpa using hz'
      simp only [World.frozen?, hg]
      exact h2
    have hst : (Go.store ((⟨g, o, none⟩ : Addr).add i) v).run P w = .ok () (w.setRow g (cur.setIfInBounds (o + i) v)) := by
      rw [hadd, run_store P w _ v _ (h1 v (by simp)), hcell]
      simp [hfro, setCell_eq_setRow w g (o + i) cur t fz v hg]
    have ih := run_storeCells_gen P g o t fz rest (i + 1) (cur.setIfInBounds (o + i) v) (w.setRow g (cur.setIfInBounds (o + i) v)) (setRow_heap w g cur _ t _ hg) (by simp at hl ⊢; omega) (by simpa using hz) (fun x hx => h1 x (by simp [hx]))
    simp only [Go.storeCells, Sem.run_bind, hst, Result.andThen_ok, ih, setRow_setRow]
    congr 3
    have e := list_seg_step cur.toList (o + i) v rest (by simp at hl ⊢; omega)
    simpa [Array.toList_setIfInBounds, Nat.add_assoc] using e
section
variable {P : Program} {base : Nat} {ρ : Ren} {s s' : St} {w : World}
theorem isOne_vr {v c : Value} (h : VR ρ v c) (h1 : isOne v = true) : c.oneCell' = true := by
  cases h <;> first | rfl | cases h1
theorem allOne_cons (v : Value) (l : List Value) : allOne (v :: l) = sel (isOne v) (allOne l) false := rfl
theorem allOne_vrs {l l' : List Value} (h : VRs ρ l l') (h1 : allOne l = true) : ∀ c ∈ l', c.oneCell' = true := by
  induction l generalizing l' with
  | nil => cases h; simp
  | cons v t ih =>
    cases h with
    | cons hv ht =>
      rw [allOne_cons, sel_eq] at h1
      split at h1
      · rename_i h0
        intro c hc
        rcases List.mem_cons.1 hc with rfl | hc
        · exact isOne_vr hv h0
        · exact ih ht h1 c hc
      · cases h1
theorem cellsOf_vr {v c : Value} (h : VR ρ v c) : VRs ρ (cellsOf v) c.cells.toList := by
  cases h with
  | agg ha => exact ha
  | bool b => exact .cons (.bool b) .nil
  | int k n => exact .cons (.int k n) .nil
  | string s => exact .cons (.string s) .nil
  | ptrNil => exact .cons .ptrNil .nil
  | ptr h => exact .cons (.ptr h) .nil
  | sliceNil n c => exact .cons (.sliceNil n c) .nil
  | slice h => exact .cons (.slice h) .nil
  | dead a c => exact .cons (.dead a c) .nil
  | opq a n c => exact .cons (.opq a n c) .nil
  | tok i k n => exact .cons (.tok i k n) .nil
  | olen lo hi a n c h hh => exact .cons (.olen lo hi a n c h hh) .nil
  | rng lo hi n h hh => exact .cons (.rng lo hi n h hh) .nil
  | mapNil => exact .cons .mapNil .nil
  | map h => exact .cons (.map h) .nil
  | func h ha hb => exact .cons (.func h ha hb) .nil
  | nilFunc => exact .cons .nilFunc .nil
  | iface t h => exact .cons (.iface t h) .nil
  | nilIface => exact .cons .nilIface .nil
  | tuple h => exact .cons (.tuple h) .nil
theorem RowR.seg {i : Nat} {cs : List Value} {e : TypeId} {f : Nat} {l : Loc} (h : RowR P ρ w i cs e f l) {o n : Nat} (ho : o + n ≤ cs.length) :
    ∃ cl, VRs ρ ((cs.drop o).take n) cl ∧ cl.length = n ∧ ∀ (j : Nat) (v : Value), cl[j]? = some v → w.cell? ⟨l.blk, l.off + o + j, none⟩ = some v := by
  obtain ⟨_, a, fz, ⟨e9, h1, _⟩, h2, _⟩ := h
  refine ⟨(a.toList.drop (l.off + o)).take n, ?_, ?_, ?_⟩
  · refine VRs.of_get ?_ fun k v hk => ?_
    · have hsz : l.off + o + n ≤ a.size ∨ n = 0 := by
        by_cases h0 : n = 0
        · exact .inr h0
        · left
          have hlt : o + (n - 1) < cs.length := by omega
          obtain ⟨y, hy, _⟩ := h2 (o + (n - 1)) _ (List.getElem?_eq_getElem hlt)
          have := (Array.getElem?_eq_some_iff.1 hy).1
          omega
      rcases hsz with hsz | hsz
      · simp; omega
      · subst hsz; simp
    · rw [List.getElem?_take] at hk
      split at hk
      · rename_i hkn
        rw [List.getElem?_drop] at hk
        obtain ⟨y, hy, hv⟩ := h2 _ _ hk
        refine ⟨y, ?_, hv⟩
        rw [List.getElem?_take, if_pos hkn, List.getElem?_drop]
        have : l.off + o + k = l.off + (o + k) := by omega
        rw [this]
        simpa using hy
      · cases hk
  · by_cases h0 : n = 0
    · subst h0; simp
    · have hlt : o + (n - 1) < cs.length := by omega
      obtain ⟨y, hy, _⟩ := h2 (o + (n - 1)) _ (List.getElem?_eq_getElem hlt)
      have := (Array.getElem?_eq_some_iff.1 hy).1
      simp; omega
  · intro j v hj
    rw [List.getElem?_take] at hj
    split at hj
    · rw [List.getElem?_drop] at hj
      simp only [World.cell?, h1]
      simpa using hj
    · cases hj
theorem underlying_of {t : TypeId} {g : Bool} (h : isAgg P t = some g) : ∃ d, P.underlying t = some d ∧ g = descAgg d := by
  unfold isAgg at h
  obtain ⟨d, h1, h2⟩ := obind_some.1 h
  exact ⟨d, h1, (Option.some.inj h2).symm⟩
theorem run_isAgg {t : TypeId} {g : Bool} (h : isAgg P t = some g) : (Go.isAgg t).run P w = .ok g w := by
  obtain ⟨d, h1, rfl⟩ := underlying_of h
  simp only [Go.isAgg, Sem.run_bind, run_underlying h1, Result.andThen_ok]
  cases d <;> rfl
theorem size_info {t : TypeId} {n : Nat} (h : size P t = some n) : ∃ i, P.info? t = some i ∧ i.size = n := by
  unfold size at h
  cases hi : P.info? t with
  | none => simp [hi] at h
  | some i => simp [hi] at h; exact ⟨i, rfl, h⟩
theorem run_sizeOf {t : TypeId} {n : Nat} (h : size P t = some n) : (Go.sizeOf t).run P w = .ok n w := by
  obtain ⟨i, h1, rfl⟩ := size_info h
  simp [Go.sizeOf, Go.typeInfo, h1]
theorem add_eq (b o n : Nat) : (⟨b, o, none⟩ : Addr).add n = ⟨b, o + n, none⟩ := by
  unfold Addr.add; split <;> simp_all
theorem load_sound (h : HR P base ρ s w) {t : TypeId} {b o : Nat} {v : Value} {l : Loc} (hl : ρ.at b = some l) (hv : load P s t b o = some v) :
    ∃ c, (Go.loadVar t ⟨l.blk, l.off + o, none⟩).run P w = .ok c w ∧ VR ρ v c := by
  unfold load at hv
  obtain ⟨⟨cs, e, f⟩, hc, hv⟩ := obind_some.1 hv
  obtain ⟨q, hq⟩ := h.rows b cs e f hc
  have : q = l := by have := hq.at_; rw [hl] at this; exact (Option.some.inj this).symm
  subst this
  unfold loadCs at hv
  obtain ⟨g, hg, hv⟩ := obind_some.1 hv
  have hr := run_isAgg (P := P) (w := w) hg
  cases g with
  | true =>
    rw [sel_true] at hv
    obtain ⟨n, hn, hv⟩ := obind_some.1 hv
    obtain ⟨r, hr', hv⟩ := obind_some.1 hv
    cases hv
    rw [takeN_eq, dropL_eq] at hr'
    obtain ⟨h1, rfl⟩ := hr'
    by_cases ho : o ≤ cs.length
    · obtain ⟨cl, h2, h3, h4⟩ := hq.seg (o := o) (n := n) (by simp at h1; omega)
      refine ⟨.agg ⟨cl⟩, ?_, .agg h2⟩
      have hl' := run_loadCells_list (P := P) w ⟨q.blk, q.off + o, none⟩ cl (fun j v hj => by rw [add_eq]; exact h4 j v hj)
      rw [h3] at hl'
      simp [Go.loadVar, hr, run_sizeOf hn, hl']
    · have : n = 0 := by simp at h1; omega
      subst this
      refine ⟨.agg #[], ?_, by simpa [mkAgg] using VR.agg (VRs.nil (ρ := ρ))⟩
      have hl' := run_loadCells_list (P := P) w ⟨q.blk, q.off + o, none⟩ [] (fun j v hj => by simp at hj)
      simp at hl'
      simp [Go.loadVar, hr, run_sizeOf hn, hl']
  | false =>
    rw [sel_false, nth_eq] at hv
    obtain ⟨_, a, fz, ⟨e9, h1, _⟩, h2, _⟩ := hq
    obtain ⟨y, hy, hvy⟩ := h2 _ _ hv
    refine ⟨y, ?_, hvy⟩
    have hcell : w.cell? ⟨q.blk, q.off + o, none⟩ = some y := by simp only [World.cell?, h1]; simpa using hy
    simp [Go.loadVar, hr, hcell]
theorem storeCells_sound (h : HR P base ρ s w) {b o : Nat} {vs cl : List Value} {l : Loc} (hl : ρ.at b = some l) (hs : storeCells s b o vs = some s') (hv : VRs ρ vs cl) :
    ∃ w', (Go.storeCells ⟨l.blk, l.off + o, none⟩ cl).run P w = .ok () w' ∧ Goes P base ρ s w ρ s' w' := by
  unfold storeCells at hs
  obtain ⟨hg, hs⟩ := guard_some.1 hs
  simp only [Bool.and_eq_true] at hg
  obtain ⟨hft, hone⟩ := hg
  have hb : fixedTop ≤ b := Nat.le_of_ble_eq_true hft
  obtain ⟨⟨cs, e, f⟩, hc, hs⟩ := obind_some.1 hs
  obtain ⟨cs', hcs', hs⟩ := obind_some.1 hs
  cases hs
  rw [splice_eq] at hcs'
  obtain ⟨hlen, rfl⟩ := hcs'
  dsimp only at hlen
  obtain ⟨q, hq⟩ := h.rows b cs e f hc
  have : q = l := by have := hq.at_; rw [hl] at this; exact (Option.some.inj this).symm
  subst this
  obtain ⟨_, a, fz, ⟨e9, h1, he9⟩, h2, h3, h4⟩ := hq
  have he9 := (he9 (.inr hb)).symm
  subst he9
  have hvl := hv.length
  have hsz : q.off + o + cl.length ≤ a.size := by
    by_cases h0 : vs.length = 0
    ·
      by_cases hcs : cs.length = 0
      · have ho : o = 0 := by omega
        by_cases hf : f = 0
        · have := (h4.1 hf); omega
        · obtain ⟨n, _, _, h5, _⟩ := h4.2 hf
          omega
      · have hlt : cs.length - 1 < cs.length := by omega
        obtain ⟨y, hy, _⟩ := h2 (cs.length - 1) _ (List.getElem?_eq_getElem hlt)
        have := (Array.getElem?_eq_some_iff.1 hy).1
        omega
    · have hlt : o + (vs.length - 1) < cs.length := by omega
      obtain ⟨y, hy, _⟩ := h2 (o + (vs.length - 1)) _ (List.getElem?_eq_getElem hlt)
      have := (Array.getElem?_eq_some_iff.1 hy).1
      omega
  have hrun := run_storeCells_gen P q.blk (q.off + o) e fz cl 0 a w h1 (by omega) (h3 hb) (allOne_vrs hv hone)
  refine ⟨_, hrun, Goes.put h hb hc hl h1 (by simp; omega) (by simp; omega) ?_⟩
  intro j x hj
  have hj' := List.getElem?_eq_some_iff.1 hj
  simp only [Nat.add_zero]
  by_cases hj1 : j < o
  ·
    have hx : cs[j]? = some x := by
      rw [List.append_assoc, List.getElem?_append_left (by simp; omega), List.getElem?_take, if_pos hj1] at hj
      exact hj
    obtain ⟨y, hy, hvy⟩ := h2 j x hx
    refine ⟨y, ?_, hvy⟩
    simp only [List.getElem?_toArray]
    rw [List.append_assoc, List.getElem?_append_left (by simp; omega), List.getElem?_take, if_pos (by omega)]
    simpa using hy
  · by_cases hj2 : j < o + vs.length
    · have hx : vs[j - o]? = some x := by
        rw [List.append_assoc, List.getElem?_append_right (by simp; omega), List.getElem?_append_left (by simp; omega)] at hj
        have : j - (List.take o cs).length = j - o := by simp; omega
        rw [this] at hj
        exact hj
      obtain ⟨y, hy, hvy⟩ := hv.get hx
      refine ⟨y, ?_, hvy⟩
      simp only [List.getElem?_toArray]
      rw [List.append_assoc, List.getElem?_append_right (by simp; omega), List.getElem?_append_left (by simp; omega)]
      have : q.off + j - (List.take (q.off + o) a.toList).length = j - o := by simp; omega
      rw [this]
      exact hy
    · have hx : cs[j]? = some x := by
        rw [List.getElem?_append_right (by simp; omega), List.getElem?_drop] at hj
        have : o + vs.length + (j - (List.take o cs ++ vs).length) = j := by simp; omega
        rw [this] at hj
        exact hj
      obtain ⟨y, hy, hvy⟩ := h2 j x hx
      refine ⟨y, ?_, hvy⟩
      simp only [List.getElem?_toArray]
      have hya := (Array.getElem?_eq_some_iff.1 hy).1
      rw [List.getElem?_append_right (by simp; omega), List.getElem?_drop]
      have : q.off + o + cl.length + (q.off + j - (List.take (q.off + o) a.toList ++ cl).length) = q.off + j := by simp; omega
      rw [this]
      simpa using hy
theorem store_sound (h : HR P base ρ s w) {t : TypeId} {b o : Nat} {v c : Value} {l : Loc} (hl : ρ.at b = some l) (hs : store P s t b o (cellsOf v) = some s') (hv : VR ρ v c) :
    ∃ w', (Go.storeVar t ⟨l.blk, l.off + o, none⟩ c).run P w = .ok () w' ∧ Goes P base ρ s w ρ s' w' := by
  unfold store at hs
  obtain ⟨n, hn, hs⟩ := obind_some.1 hs
  obtain ⟨hg, hs⟩ := guard_some.1 hs
  have hlen : (cellsOf v).length = n := by rw [lenL_eq] at hg; exact Nat.eq_of_beq_eq_true hg
  have hcv := cellsOf_vr hv
  obtain ⟨w', hr, hgo⟩ := storeCells_sound h hl hs hcv
  refine ⟨w', ?_, hgo⟩
  have hcl : c.cells.size = n := by have := hcv.length; simp at this; omega
  simp [Go.storeVar, run_sizeOf hn, hcl, hr]
end
end Go.Ax
namespace Go.Ax
variable [Lo]
open Go
def EvR (ρ : Ren) (ev : Ev) (η : Operand → Value) : Prop := ∀ x v, ev x = some v → VR ρ v (η x)
theorem EvR.mono {ρ ρ' : Ren} (h : ρ.le ρ') {ev : Ev} {η : Operand → Value} (he : EvR ρ ev η) : EvR ρ' ev η := fun x v hx => (he x v hx).mono h
def Gives (P : Program) (base : Nat) (ρ : Ren) (s : St) (w : World) (run : Result Next) (v : Value) (s' : St) : Prop :=
  ∃ ρ' w' c, (run = .ok (.value c) w' ∨ (run = .ok .skip w' ∧ c = undef)) ∧ Goes P base ρ s w ρ' s' w' ∧ VR ρ' v c
def ResR (P : Program) (base : Nat) (ρ : Ren) (s : St) (w : World) (run : Result Next) : Res → Prop
  | .val v s' => Gives P base ρ s w run v s'
  | .call f args s' => s' = s ∧ ∃ cargs, run = .ok (.enter f ⟨cargs⟩) w ∧ VRs ρ args cargs
  | .yield l args s' => s' = s ∧ ∃ q cargs, ρ l = some q ∧ run = (Instr.yield q.blk ⟨cargs⟩).run P w ∧ VRs ρ args cargs
  | .defer f args s' => s' = s ∧ ∃ d first captured, run = .ok (.defer d) w ∧ d.target = .fn (.func f) ⟨captured⟩ ∧ d.args = ⟨first⟩ ∧ VRs ρ args (first ++ captured)
section
variable {P : Program} {base : Nat} {ρ : Ren} {s s' : St} {w w' : World} {ev : Ev} {η : Operand → Value}
theorem gives_pure (h : HR P base ρ s w) {v c : Value} (hv : VR ρ v c) : Gives P base ρ s w (.ok (.value c) w) v s := ⟨ρ, w, c, .inl rfl, Goes.refl h, hv⟩
theorem gives_val {ρ' : Ren} (h : Goes P base ρ s w ρ' s' w') {v c : Value} (hv : VR ρ' v c) : Gives P base ρ s w (.ok (.value c) w') v s' := ⟨ρ', w', c, .inl rfl, h, hv⟩
theorem gives_skip {ρ' : Ren} (h : Goes P base ρ s w ρ' s' w') : Gives P base ρ s w (.ok .skip w') unit s' := ⟨ρ', w', undef, .inr ⟨rfl, rfl⟩, h, .tuple .nil⟩
theorem ret_some {v : Value} {s : St} {r : Res} (h : ret v s = some r) : r = .val v s := (Option.some.inj h).symm
theorem evs_some (he : EvR ρ ev η) : ∀ {xs : List Operand} {vs : List Value}, evs ev xs = some vs → VRs ρ vs (xs.map η)
  | [], vs, h => by cases h; exact .nil
  | x :: xs, vs, h => by
    change obind (ev x) (fun v => obind (evs ev xs) fun r => some (v :: r)) = some vs at h
    obtain ⟨v, hv, h⟩ := obind_some.1 h
    obtain ⟨r, hr, h⟩ := obind_some.1 h
    cases h
    exact .cons (he x v hv) (evs_some he hr)
theorem oMove_sound (h : HR P base ρ s w) (he : EvR ρ ev η) (C : Cfg) {x : Operand} {r : Res} (hr : oMove C ev s x = some r) : ResR P base ρ s w (.ok (.value (η x)) w) r := by
  obtain ⟨v, hv, hr⟩ := obind_some.1 hr
  rw [ret_some hr]
  exact gives_pure h (he x v hv)
theorem oPick_sound (h : HR P base ρ s w) (he : EvR ρ ev η) (C : Cfg) {c a b : Operand} {r : Res} (hr : oPick C ev s c a b = some r) :
    ResR P base ρ s w (Sem.run P (do pure (.value (if ← asBool (η c) then η a else η b))) w) r := by
  obtain ⟨v, hv, hr⟩ := obind_some.1 hr
  have hc := he c v hv
  generalize η c = q at hc
  cases hc with
  | bool t =>
    cases t
    · simpa [asBool] using oMove_sound h he C (x := b) hr
    · simpa [asBool] using oMove_sound h he C (x := a) hr
  | _ => cases hr
theorem VR.handle {t : TypeId} (hP : P.globals.size < lowTop) : VR ρ (Ax.handle P t) (typeHandle P t) := by
  have := VR.ptr (ρ := ρ) (b := P.globals.size) (o := t) (l := ⟨P.globals.size, 0, 0⟩) (Ren.at_fix hP)
  simpa [Ax.handle, typeHandle] using this
theorem VR.newPtr (h : HR P base ρ s w) (l : Loc) (hl : l.off = 0) : VR (ρ.set s.next l) (Ax.ptr s.next 0) (.pointer (some ⟨l.blk, 0, none⟩)) := by
  have := VR.ptr (ρ := ρ.set s.next l) (b := s.next) (o := 0) (l := l) (by rw [Ren.at_of h.next, Ren.set_same])
  simpa [Ax.ptr, hl] using this
theorem zero_lt {t : TypeId} {z : List Value} (hz : zero P t = some z) : t < P.types.size := Nat.le_of_ble_eq_true (guard_some.1 hz).1
theorem zero_info {t : TypeId} {z : List Value} (hz : zero P t = some z) : ∃ i v, P.info? t = some i ∧ i.zero = some v ∧ v.cells.toList = z := by
  have hz := (guard_some.1 hz).2
  cases hi : P.info? t with
  | none => simp [hi] at hz
  | some i =>
    cases hv : i.zero with
    | none => simp [hi, hv] at hz
    | some v => exact ⟨i, v, rfl, hv, by simpa [hi, hv] using hz⟩
def ZeroOk (P : Program) : Prop := ∀ (t : TypeId) (i : TypeInfo) (v : Value), t < P.types.size → P.info? t = some i → i.zero = some v → ∀ ρ : Ren, VR ρ v v
theorem oAlloc_sound (h : HR P base ρ s w) (hZ : ZeroOk P) {t : TypeId} (C : Cfg) (hC : C.P = P) {r : Res} (hr : oAlloc C s t = some r) :
    ResR P base ρ s w (Sem.run P (do pure (.value (← Instr.alloc t true (.tuple #[])))) w) r := by
  unfold oAlloc at hr
  rw [hC] at hr
  obtain ⟨z, hz, hr⟩ := obind_some.1 hr
  obtain ⟨i, v, h1, h2, rfl⟩ := zero_info hz
  rw [ret_some hr]
  have hv := hZ t i v (zero_lt hz) h1 h2 ρ
  have hg := Goes.newRow (e := t) h (a := v.cells) (cs := v.cells.toList) (by
    have := cellsOf_vr hv
    have e : cellsOf v = v.cells.toList := by cases v <;> rfl
    rwa [e] at this)
  have hrun : Sem.run P (do pure (Next.value (← Instr.alloc t true (.tuple #[])))) w = .ok (.value (.pointer (some ⟨w.heap.size, 0, none⟩))) (w.alloc (.cells v.cells t)) := by
    simp [Instr.alloc, zeroValue, Go.typeInfo, h1, h2, newVar, newRow]
  rw [hrun]
  exact gives_val hg (VR.newPtr h ⟨w.heap.size, 0, 0⟩ rfl)
theorem oBox_sound (h : HR P base ρ s w) (he : EvR ρ ev η) {t : TypeId} {x : Operand} (C : Cfg) {r : Res} (hr : oBox C ev s t x = some r) :
    ResR P base ρ s w (Sem.run P (do pure (.value (← Instr.box t (η x)))) w) r := by
  unfold oBox at hr
  obtain ⟨v, hv, hr⟩ := obind_some.1 hr
  rw [ret_some hr]
  have hg := Goes.newRow (e := t) h (a := (η x).cells) (cellsOf_vr (he x v hv))
  have hrun : Sem.run P (do pure (Next.value (← Instr.box t (η x)))) w = .ok (.value (.pointer (some ⟨w.heap.size, 0, none⟩))) (w.alloc (.cells (η x).cells t)) := by
    simp [Instr.box, newVar, newRow]
  rw [hrun]
  exact gives_val hg (VR.newPtr h ⟨w.heap.size, 0, 0⟩ rfl)
theorem withPtr_some (he : EvR ρ ev η) {a : Operand} {k : Addr → Option Res} {r : Res} (hr : withPtr ev a k = some r) :
    ∃ b o l, ρ.at b = some l ∧ η a = .pointer (some ⟨l.blk, l.off + o, none⟩) ∧ k ⟨b, o, none⟩ = some r := by
  obtain ⟨v, hv, hr⟩ := obind_some.1 hr
  have hc := he a v hv
  generalize η a = q at hc
  cases hc <;> first | exact ⟨_, _, _, by assumption, rfl, hr⟩ | cases hr
theorem oLoad_sound (h : HR P base ρ s w) (he : EvR ρ ev η) {t : TypeId} {a : Operand} (C : Cfg) (hC : C.P = P) {r : Res} (hr : oLoad C ev s t a = some r) :
    ResR P base ρ s w (Sem.run P (do pure (.value (← Instr.loadAt t (η a)))) w) r := by
  obtain ⟨b, o, l, hl, hη, hr⟩ := withPtr_some he hr
  obtain ⟨v, hv, hr⟩ := obind_some.1 hr
  rw [ret_some hr]
  rw [hC] at hv
  obtain ⟨c, hrun, hc⟩ := load_sound h hl hv
  simp only [hη, Instr.loadAt, Instr.sureAddr, Sem.run_bind, Sem.run_pure, Result.andThen_ok, hrun]
  exact gives_pure h hc
theorem oStore_sound (h : HR P base ρ s w) (he : EvR ρ ev η) {t : TypeId} {a x : Operand} (C : Cfg) (hC : C.P = P) {r : Res} (hr : oStore C ev s t a x = some r) :
    ResR P base ρ s w (Sem.run P (do Instr.storeAt t (η a) (η x); pure .skip) w) r := by
  obtain ⟨b, o, l, hl, hη, hr⟩ := withPtr_some he hr
  obtain ⟨v, hv, hr⟩ := obind_some.1 hr
  obtain ⟨s', hs, hr⟩ := obind_some.1 hr
  rw [ret_some hr]
  rw [hC] at hs
  obtain ⟨w', hrun, hg⟩ := store_sound h hl hs (he x v hv)
  simp only [hη, Instr.storeAt, Instr.sureAddr, Sem.run_bind, Sem.run_pure, Result.andThen_ok, hrun]
  exact gives_skip hg
theorem fieldInfo_some {t : TypeId} {i : Nat} {f : Field} (hf : fieldInfo P t i = some f) : ∃ fs, P.underlying t = some (.struct fs) ∧ fs[i]? = some f := by
  unfold fieldInfo at hf
  split at hf
  · rename_i fs hu
    rw [nth_eq] at hf
    exact ⟨fs, hu, by simpa using hf⟩
  · cases hf
theorem oFieldAddr_sound (h : HR P base ρ s w) (he : EvR ρ ev η) {t : TypeId} {x : Operand} {i : Nat} (C : Cfg) (hC : C.P = P) {r : Res} (hr : oFieldAddr C ev s t x i = some r) :
    ResR P base ρ s w (Sem.run P (do pure (.value (← Instr.fieldAt t (η x) i))) w) r := by
  obtain ⟨b, o, l, hl, hη, hr⟩ := withPtr_some he hr
  obtain ⟨f, hf, hr⟩ := obind_some.1 hr
  obtain ⟨n, hn, hr⟩ := obind_some.1 hr
  obtain ⟨hg, hr⟩ := guard_some.1 hr
  rw [ret_some hr]
  rw [hC] at hf hn
  obtain ⟨fs, hu, hfs⟩ := fieldInfo_some hf
  have hn0 : n ≠ 0 := by
    rintro rfl
    simp at hg
  simp only [hη, Instr.fieldAt, run_underlying hu, hfs, Instr.sureAddr, fieldPlace, run_sizeOf hn, hn0, if_false, Sem.run_bind, Sem.run_pure, Result.andThen_ok, add_eq]
  refine gives_pure h ?_
  have := VR.ptr (ρ := ρ) (b := b) (o := o + f.offset) (l := l) hl
  simpa [ptr, Nat.add_assoc] using this
theorem part_sound {t : TypeId} {cs cl : List Value} {off : Nat} {v : Value} (hv : part P t cs off = some v) (hc : VRs ρ cs cl) : ∃ c, (Go.part t ⟨cl⟩ off).run P w = .ok c w ∧ VR ρ v c := by
  unfold Ax.part at hv
  obtain ⟨g, hg, hv⟩ := obind_some.1 hv
  have hr := run_isAgg (P := P) (w := w) hg
  cases g with
  | true =>
    rw [sel_true] at hv
    obtain ⟨n, hn, hv⟩ := obind_some.1 hv
    cases hv
    refine ⟨.agg ⟨(cl.drop off).take n⟩, ?_, ?_⟩
    · simp [Go.part, hr, run_sizeOf hn]
    · rw [takeL_eq, dropL_eq]
      exact .agg ((hc.drop off).take n)
  | false =>
    rw [sel_false, nth_eq] at hv
    obtain ⟨c, h1, h2⟩ := hc.get hv
    refine ⟨c, ?_, h2⟩
    simp [Go.part, hr, h1]
theorem oField_sound (h : HR P base ρ s w) (he : EvR ρ ev η) {t : TypeId} {x : Operand} {i : Nat} (C : Cfg) (hC : C.P = P) {r : Res} (hr : oField C ev s t x i = some r) :
    ResR P base ρ s w (Sem.run P (do pure (.value (← Instr.field t (η x) i))) w) r := by
  obtain ⟨v, hv, hr⟩ := obind_some.1 hr
  have hc := he x v hv
  cases hq : η x with
  | agg cl =>
    rw [hq] at hc
    cases hc with
    | agg ha =>
      obtain ⟨f, hf, hr⟩ := obind_some.1 hr
      obtain ⟨y, hy, hr⟩ := obind_some.1 hr
      rw [ret_some hr]
      rw [hC] at hf hy
      obtain ⟨fs, hu, hfs⟩ := fieldInfo_some hf
      obtain ⟨c, hrun, hcv⟩ := part_sound (w := w) hy ha
      simp only [Instr.field, run_underlying hu, hfs, asAgg, Sem.run_bind, Sem.run_pure, Result.andThen_ok, hrun]
      exact gives_pure h hcv
  | _ =>
    rw [hq] at hc
    cases hc <;> cases hr
end
end Go.Ax
namespace Go.Ax
variable [Lo]
open Go
theorem foldl_splice (off : Nat) (vs cells : Array Value) (h : off + vs.size ≤ cells.size) :
    (vs.zipIdx.foldl (fun cs (x : Value × Nat) => cs.setIfInBounds (off + x.2) x.1) cells).toList = cells.toList.take off ++ vs.toList ++ cells.toList.drop (off + vs.size) := by
  rw [← Array.foldl_toList, Array.toList_zipIdx]
  obtain ⟨h1, h2⟩ := Great.foldl_set off vs.toList 0 cells
  apply List.ext_getElem?
  intro k
  rw [Array.getElem?_toList, h2 k]
  simp only [Nat.add_zero, Array.length_toList]
  by_cases ha : k < off
  · rw [if_neg (by omega), List.append_assoc, List.getElem?_append_left (by simp; omega), List.getElem?_take, if_pos ha]
    simp
  · by_cases hb : k < off + vs.size
    · rw [if_pos (by omega), List.append_assoc, List.getElem?_append_right (by simp; omega), List.getElem?_append_left (by simp; omega)]
      congr 1
      simp; omega
    · rw [if_neg (by omega), List.getElem?_append_right (by simp; omega), List.getElem?_drop]
      have : off + vs.size + (k - (List.take off cells.toList ++ vs.toList).length) = k := by simp; omega
      rw [this]
      simp
inductive PsR (ρ : Ren) : List (Nat × Value) → List (Nat × Value) → Prop
  | nil : PsR ρ [] []
  | cons {i : Nat} {v c : Value} {l l' : List (Nat × Value)} (h : VR ρ v c) (hl : PsR ρ l l') : PsR ρ ((i, v) :: l) ((i, c) :: l')
section
variable {P : Program} {base : Nat} {ρ : Ren} {s s' : St} {w w' : World} {ev : Ev} {η : Operand → Value}
theorem evParts_some (he : EvR ρ ev η) : ∀ {xs : List (Nat × Operand)} {vs : List (Nat × Value)}, evParts ev xs = some vs → PsR ρ vs (xs.map fun (i, x) => (i, η x))
  | [], vs, h => by cases h; exact .nil
  | (i, x) :: xs, vs, h => by
    change obind (ev x) (fun v => obind (evParts ev xs) fun r => some ((i, v) :: r)) = some vs at h
    obtain ⟨v, hv, h⟩ := obind_some.1 h
    obtain ⟨r, hr, h⟩ := obind_some.1 h
    cases h
    exact .cons (he x v hv) (evParts_some he hr)
theorem VRs.splice {vs vs' cs cs' r : List Value} {o : Nat} (hv : VRs ρ vs vs') (hc : VRs ρ cs cs') (h : Ax.splice vs o cs = some r) : VRs ρ r (cs'.take o ++ vs' ++ cs'.drop (o + vs'.length)) := by
  rw [splice_eq] at h
  obtain ⟨_, rfl⟩ := h
  rw [hv.length]
  exact ((hc.take o).append hv).append (hc.drop _)
theorem fill_sound {place : Nat → Option (Nat × Nat)} : ∀ {ps ps' : List (Nat × Value)} {z r : List Value} {zc : Array Value}, PsR ρ ps ps' → VRs ρ z zc.toList → Ax.fill place ps z = some r →
    ∃ rc, Instr.fill place zc ps' = some rc ∧ VRs ρ r rc.toList
  | [], _, z, r, zc, hp, hz, h => by
    cases hp
    cases h
    exact ⟨zc, rfl, hz⟩
  | (i, v) :: ps, _, z, r, zc, hp, hz, h => by
    cases hp with
    | cons hv hl =>
      rename_i c l'
      change obind (place i) (fun q => Ax.guard (Nat.beq (lenL (cellsOf v)) q.2) (obind (Ax.splice (cellsOf v) q.1 z) (Ax.fill place ps))) = some r at h
      obtain ⟨⟨off, n⟩, hpl, h⟩ := obind_some.1 h
      obtain ⟨hg, h⟩ := guard_some.1 h
      obtain ⟨z', hz', h⟩ := obind_some.1 h
      have hlen : (cellsOf v).length = n := by rw [lenL_eq] at hg; exact Nat.eq_of_beq_eq_true hg
      have hcv := cellsOf_vr hv
      have hcl := hcv.length
      have hzl := hz.length
      have hfit := (splice_eq _ _ _ _).1 hz'
      simp at hcl hzl
      dsimp only at hfit
      have e := foldl_splice off c.cells zc (by omega)
      have hz2 : VRs ρ z' (c.cells.zipIdx.foldl (fun cs (x : Value × Nat) => cs.setIfInBounds (off + x.2) x.1) zc).toList := by
        rw [e]
        have := VRs.splice hcv hz hz'
        simpa using this
      obtain ⟨rc, h1, h2⟩ := fill_sound hl hz2 h
      refine ⟨rc, ?_, h2⟩
      simp only [Instr.fill, hpl]
      rw [if_neg (by simp; omega)]
      exact h1
theorem fill_congr {p q : Nat → Option (Nat × Nat)} (h : ∀ i x, p i = some x → q i = some x) : ∀ {ps : List (Nat × Value)} {z r : List Value}, Ax.fill p ps z = some r → Ax.fill q ps z = some r
  | [], z, r, hr => hr
  | (i, v) :: ps, z, r, hr => by
    change obind (p i) (fun q => Ax.guard (Nat.beq (lenL (cellsOf v)) q.2) (obind (Ax.splice (cellsOf v) q.1 z) (Ax.fill p ps))) = some r at hr
    change obind (q i) (fun x => Ax.guard (Nat.beq (lenL (cellsOf v)) x.2) (obind (Ax.splice (cellsOf v) x.1 z) (Ax.fill q ps))) = some r
    obtain ⟨x, hx, hr⟩ := obind_some.1 hr
    obtain ⟨hg, hr⟩ := guard_some.1 hr
    obtain ⟨z', hz, hr⟩ := obind_some.1 hr
    exact obind_some.2 ⟨x, h i x hx, guard_some.2 ⟨hg, obind_some.2 ⟨z', hz, fill_congr h hr⟩⟩⟩
theorem zero_cells (hZ : ZeroOk P) {t : TypeId} {z : List Value} (hz : zero P t = some z) (ρ : Ren) : ∃ i v, P.info? t = some i ∧ i.zero = some v ∧ v.cells.toList = z ∧ VRs ρ z v.cells.toList := by
  obtain ⟨i, v, h1, h2, h3⟩ := zero_info hz
  refine ⟨i, v, h1, h2, h3, ?_⟩
  have := cellsOf_vr (hZ t i v (zero_lt hz) h1 h2 ρ)
  have e : cellsOf v = v.cells.toList := by cases v <;> rfl
  rw [e] at this
  rw [← h3]; exact this
theorem mapM_places : ∀ (l : List Field), (∀ f ∈ l, ∃ n, size P f.type = some n) → (l.mapM (m := Sem) fun f => do pure (f.offset, ← Go.sizeOf f.type)).run P w = .ok (l.map fun f => (f.offset, P.cellsOf f.type)) w
  | [], _ => rfl
  | f :: l, h => by
    obtain ⟨n, hn⟩ := h f (by simp)
    have ih := mapM_places l fun g hg => h g (by simp [hg])
    obtain ⟨i, h1, h2⟩ := size_info hn
    have hc : P.cellsOf f.type = n := by simp [Program.cellsOf, h1, h2]
    simp only [List.mapM_cons, Sem.run_bind, run_sizeOf hn, Result.andThen_ok, Sem.run_pure, ih, List.map_cons, hc]
def FieldsOk (P : Program) : Prop := ∀ (t : TypeId) (fs : Array Field), t < P.types.size → P.underlying t = some (.struct fs) → ∀ f ∈ fs.toList, ∃ n, size P f.type = some n
theorem oBuild_sound (h : HR P base ρ s w) (he : EvR ρ ev η) (hZ : ZeroOk P) (hF : FieldsOk P) {t : TypeId} {parts : Array (Nat × Operand)} (C : Cfg) (hC : C.P = P) {r : Res} (hr : oBuild C ev s t parts = some r) :
    ResR P base ρ s w (Sem.run P (do pure (.value (← Instr.build t (parts.map fun (i, x) => (i, η x))))) w) r := by
  unfold oBuild at hr
  rw [hC] at hr
  obtain ⟨pl, hpl, hr⟩ := obind_some.1 hr
  obtain ⟨ps, hps, hr⟩ := obind_some.1 hr
  obtain ⟨z, hz, hr⟩ := obind_some.1 hr
  obtain ⟨l, hl, hr⟩ := obind_some.1 hr
  rw [ret_some hr]
  have hp := evParts_some he hps
  obtain ⟨i, v, h1, h2, h3, h4⟩ := zero_cells hZ hz ρ
  have hzv : (zeroValue t).run P w = .ok v w := by simp [zeroValue, Go.typeInfo, h1, h2]
  unfold placeT at hpl
  split at hpl
  · rename_i fs hu
    cases hpl
    have hl' : Ax.fill (fun i => (fs.map fun f => (f.offset, P.cellsOf f.type))[i]?) ps z = some l := by
      refine fill_congr (fun i x hx => ?_) hl
      obtain ⟨f, hf, hx⟩ := obind_some.1 hx
      obtain ⟨n, hn, hx⟩ := obind_some.1 hx
      cases hx
      rw [nth_eq] at hf
      obtain ⟨i', h1', h2'⟩ := size_info hn
      have hf' : fs[i]? = some f := by simpa using hf
      simp [hf', Program.cellsOf, h1', h2']
    obtain ⟨rc, h5, h6⟩ := fill_sound hp h4 hl'
    have hm : (fs.mapM (m := Sem) fun f => do pure (f.offset, ← Go.sizeOf f.type)).run P w = .ok (fs.map fun f => (f.offset, P.cellsOf f.type)) w := by
      have := mapM_places (P := P) (w := w) fs.toList (hF t fs (zero_lt hz) hu)
      rw [Array.mapM_eq_mapM_toList, Sem.run_map, this]
      show Result.ok _ w = _
      congr 1
      apply Array.ext'
      simp
    have hrun : Sem.run P (do pure (Next.value (← Instr.build t (parts.map fun (i, x) => (i, η x))))) w = .ok (.value (.agg rc)) w := by
      simp only [Instr.build, hzv, run_underlying hu, hm, Sem.run_bind, Result.andThen_ok, Sem.run_pure, Array.toList_map]
      rw [h5]
      rfl
    rw [hrun]
    exact gives_pure h (by
      have := VR.agg h6
      simpa [mkAgg] using this)
  · rename_i k e hu
    obtain ⟨n, hsz, hpl⟩ := obind_some.1 hpl
    cases hpl
    obtain ⟨rc, h5, h6⟩ := fill_sound hp h4 hl
    have hrun : Sem.run P (do pure (Next.value (← Instr.build t (parts.map fun (i, x) => (i, η x))))) w = .ok (.value (.agg rc)) w := by
      simp only [Instr.build, hzv, run_underlying hu, run_sizeOf hsz, Sem.run_bind, Result.andThen_ok, Sem.run_pure, Array.toList_map]
      rw [show (fun i => some (i * n, n)) = placeA n from rfl, h5]
      rfl
    rw [hrun]
    exact gives_pure h (by
      have := VR.agg h6
      simpa [mkAgg] using this)
  · cases hpl
theorem length_repeatL (n : Nat) (l : List Value) : (repeatL n l).length = n * l.length := by
  induction n with
  | zero => rw [Nat.zero_mul]; rfl
  | succ n ih => show (appL l (repeatL n l)).length = _; rw [appL_eq, List.length_append, ih, Nat.succ_mul]; omega
theorem repeatL_get (n : Nat) (l : List Value) : ∀ k, k < n * l.length → (repeatL n l)[k]? = l[k % l.length]? := by
  induction n with
  | zero => intro k hk; omega
  | succ n ih =>
    intro k hk
    show (appL l (repeatL n l))[k]? = _
    rw [appL_eq]
    by_cases h : k < l.length
    · rw [List.getElem?_append_left h, Nat.mod_eq_of_lt h]
    · rw [List.getElem?_append_right (by omega), ih _ (by rw [Nat.succ_mul] at hk; omega)]
      rw [Nat.mod_eq_sub_mod (show l.length ≤ k by omega)]
theorem zeroCells_vrs {z : List Value} {zc : Array Value} (hz : VRs ρ z zc.toList) (n : Nat) (hpos : 0 < z.length ∨ n = 0) :
    VRs ρ (repeatL n z) ((Array.range (n * zc.size)).map fun i => zc[i % zc.size]!).toList := by
  have hl := hz.length
  simp at hl
  refine VRs.of_get (by simp [length_repeatL, hl]) fun k v hk => ?_
  have hlt := (List.getElem?_eq_some_iff.1 hk).1
  rw [length_repeatL] at hlt
  have hz0 : 0 < z.length := by
    rcases hpos with h | h
    · exact h
    · subst h; omega
  rw [repeatL_get n z k hlt] at hk
  obtain ⟨c, hc, hv⟩ := hz.get hk
  refine ⟨c, ?_, hv⟩
  have hlt2 : k % zc.size < zc.size := Nat.mod_lt _ (by omega)
  have hk2 : k < n * zc.size := by rw [hl]; exact hlt
  have hc' : zc[k % zc.size]? = some c := by rw [hl]; simpa using hc
  simp [hk2]
  rw [getElem!_def, hc']
theorem oBuildSlice_sound (h : HR P base ρ s w) (he : EvR ρ ev η) (hZ : ZeroOk P) {t : TypeId} {len : Nat} {parts : Array (Nat × Operand)} (C : Cfg) (hC : C.P = P) {r : Res} (hr : oBuildSlice C ev s t len parts = some r) :
    ResR P base ρ s w (Sem.run P (do pure (.value (← Instr.buildSlice t len (parts.map fun (i, x) => (i, η x))))) w) r := by
  unfold oBuildSlice at hr
  rw [hC] at hr
  split at hr
  · rename_i e hu
    obtain ⟨n, hn, hr⟩ := obind_some.1 hr
    obtain ⟨z, hz, hr⟩ := obind_some.1 hr
    obtain ⟨hg, hr⟩ := guard_some.1 hr
    obtain ⟨ps, hps, hr⟩ := obind_some.1 hr
    obtain ⟨l, hl, hr⟩ := obind_some.1 hr
    rw [ret_some hr]
    simp only [Bool.and_eq_true] at hg
    obtain ⟨⟨hg1, hg2⟩, hg3⟩ := hg
    have hzn : z.length = n := by rw [lenL_eq] at hg1; exact Nat.eq_of_beq_eq_true hg1
    have hn0 : 0 < n := Nat.le_of_ble_eq_true hg2
    have hbig : len * n ≤ 16777216 := Nat.le_of_ble_eq_true hg3
    have hp := evParts_some he hps
    obtain ⟨i, v, h1, h2, h3, h4⟩ := zero_cells hZ hz ρ
    have hzv : (zeroValue e).run P w = .ok v w := by simp [zeroValue, Go.typeInfo, h1, h2]
    have hvn : v.cells.size = n := by have := h4.length; simp at this; omega
    have hzz : VRs ρ (repeatL len z) ((Array.range (len * n)).map fun i => v.cells[i % v.cells.size]!).toList := by
      have := zeroCells_vrs h4 len (.inl (by omega))
      have e0 : len * v.cells.size = len * n := by rw [hvn]
      rwa [e0] at this
    obtain ⟨rc, h5, h6⟩ := fill_sound hp hzz hl
    have hrun : Sem.run P (do pure (Next.value (← Instr.buildSlice t len (parts.map fun (i, x) => (i, η x))))) w = .ok (.value (.slice (some ⟨w.heap.size, 0, none⟩) len len)) (w.alloc (.cells rc e)) := by
      have hb : ¬ (len * n > 2 ^ 24) := by omega
      by_cases h0 : len * n = 0
      · have hlen : len = 0 := by
          rcases Nat.mul_eq_zero.1 h0 with h | h
          · exact h
          · omega
        subst hlen
        simp only [Nat.zero_mul, Array.range_zero', Array.map_empty] at h5
        simp only [Instr.buildSlice, run_underlying hu, run_sizeOf hn, Sem.run_bind, Result.andThen_ok, Sem.run_pure, Array.toList_map, Nat.zero_mul, Array.range_zero', Array.map_empty]
        simp
        rw [show (fun i => some (i * n, n)) = placeA n from rfl, h5]
        simp [newRow]
      · simp only [Instr.buildSlice, run_underlying hu, run_sizeOf hn, hzv, Sem.run_bind, Result.andThen_ok, Sem.run_pure, Array.toList_map, if_neg hb, if_neg h0]
        rw [show (fun i => some (i * n, n)) = placeA n from rfl, h5]
        simp [newRow]
    rw [hrun]
    have hg := Goes.newRow (e := e) h h6
    refine gives_val hg ?_
    have := VR.slice (ρ := ρ.set s.next ⟨w.heap.size, 0, 0⟩) (b := s.next) (o := 0) (n := len) (c := len) (l := ⟨w.heap.size, 0, 0⟩) (by rw [Ren.at_of h.next, Ren.set_same])
    have hc : capOf ⟨w.heap.size, 0, 0⟩ len = len := by
      unfold capOf; rw [if_neg]; unfold halfCap
      have : len * 1 ≤ len * n := Nat.mul_le_mul_left _ hn0
      omega
    rw [hc] at this
    exact this
  · cases hr
end
end Go.Ax
