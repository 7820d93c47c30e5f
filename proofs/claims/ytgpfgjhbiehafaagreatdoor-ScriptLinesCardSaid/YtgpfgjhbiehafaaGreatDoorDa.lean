import GoSem.Dispatch
import Derived.RangeFuncIn
import Derived.DefersIn
import Derived.Laws.Sem
import Derived.Laws.World
import Derived.Below
import Derived.Laws.CopyRow
import Derived.Laws.AppendOwn
import Derived.Great.FillDense
import Derived.ChangeKeysEq
import Derived.Laws.Append
set_option linter.unusedVariables false
set_option linter.unusedSectionVars false
namespace Go.Ax
open Go
noncomputable section
inductive Tr (α:Type) where
 |e
 |n (v:Option α) (x y:Tr α)
abbrev Path:=List Bool
def adI:Nat→Nat→Path:=fun d=>Nat.rec (fun _=>[]) (fun _ ih k=>Bool.rec (List.cons (Nat.beq (Nat.mod k 2) 1) (ih (Nat.div k 2))) [] (Nat.beq k 0)) d
def path (k:Nat):Path:=adI (Nat.succ k) k
def Tr.val {α:Type}:Tr α→Option α:=fun t=>Tr.rec none (fun v _ _ _ _=>v) t
def Tr.left {α:Type}:Tr α→Tr α:=fun t=>Tr.rec .e (fun _ x _ _ _=>x) t
def Tr.right {α:Type}:Tr α→Tr α:=fun t=>Tr.rec .e (fun _ _ y _ _=>y) t
def Tr.Y3 {α:Type}:Path→Tr α→Option α:=fun p=>
 List.rec (fun t=>t.val) (fun b _ ih t=>Tr.rec none (fun _ x y _ _=>ih (Bool.rec x y b)) t) p
def Tr.Y4 {α:Type}(a:α):Path→Tr α→Tr α:=fun p=>
 List.rec (fun t=>Tr.rec (.n (some a) .e .e) (fun _ x y _ _=>.n (some a) x y) t)
  (fun b _ ih t=>Tr.rec (Bool.rec (.n none (ih .e) .e) (.n none .e (ih .e)) b) (fun v x y _ _=>Bool.rec (.n v (ih x) y) (.n v x (ih y)) b) t) p
def Tr.get {α:Type}(t:Tr α)(k:Nat):Option α:=Tr.Y3 (path k) t
def Tr.set {α:Type}(t:Tr α)(k:Nat)(a:α):Tr α:=Tr.Y4 a (path k) t
inductive Hp (α:Type) where
 |s (b lo:Nat)
 |l (k:Nat) (v:α)
 |n (m:Nat) (x y:Hp α)
def Hp.get {α:Type}(t:Hp α)(k:Nat):Option α:=
 Hp.rec (fun _ _=>none) (fun j v=>Bool.rec none (some v) (Nat.beq j k)) (fun m _ _ x y=>Bool.rec x y (Nat.ble m k)) t
def Hp.one {α:Type}(k:Nat)(v:α):Nat→Nat→Hp α:=fun b=>
 Nat.rec (fun _=>.l k v) (fun b ih lo=>Nat.rec (Bool.rec (.n 0 (ih lo) (.s b 0)) (.n 0 (.s b lo) (ih 0)) (Nat.ble 0 k))
  (fun m _=>Bool.rec (.n (Nat.succ m) (ih lo) (.s b (Nat.succ m))) (.n (Nat.succ m) (.s b lo) (ih (Nat.succ m))) (Nat.ble (Nat.succ m) k)) (Nat.add lo (Nat.pow 2 b))) b
def Hp.set {α:Type}(t:Hp α)(k:Nat)(v:α):Hp α:=
 Hp.rec (fun b lo=>Hp.one k v b lo)
  (fun j u=>Bool.rec (Bool.rec (.n k (.l j u) (.l k v)) (.n j (.l k v) (.l j u)) (Nat.ble k j)) (.l k v) (Nat.beq j k))
  (fun m x y ihx ihy=>Bool.rec (.n m ihx y) (.n m x ihy) (Nat.ble m k)) t
def gG {α β:Type}(l:List α)(z:β)(f:α→List α→β):β:=List.rec z (fun a t _=>f a t) l
def pO {β:Type}(n:Nat)(z:β)(f:Nat→β):β:=Nat.rec z (fun m _=>f m) n
def nth {α:Type}:List α→Nat→Option α:=fun l=>
 List.rec (fun _=>none) (fun a _ ih k=>pO k (some a) ih) l
def eY {α:Type}:Nat→List α→List α:=fun n=>Nat.rec (fun l=>l) (fun _ ih l=>gG l [] (fun _ t=>ih t)) n
def ng {α:Type}:Nat→List α→List α:=fun n=>Nat.rec (fun _=>[]) (fun _ ih l=>gG l [] (fun a t=>a::ih t)) n
def aV {α:Type}:List α→Nat:=fun l=>List.rec 0 (fun _ _ ih=>Nat.succ ih) l
def dG {α:Type}:List α→List α→List α:=fun l r=>List.rec r (fun a _ ih=>a::ih) l
def qB {α β:Type}(f:α→β):List α→List β:=fun l=>List.rec [] (fun a _ ih=>f a::ih) l
def aj {α β:Type}(x:Option α)(k:α→Option β):Option β:=Option.rec none k x
def guard {β:Type}(b:Bool)(k:Option β):Option β:=Bool.rec none k b
def sel {α:Type}(b:Bool)(x y:α):α:=Bool.rec y x b
structure zD where
 state:LoopState
 pending:Option Code
 fn:FuncId
 vars:Tr Value
 params:List Tmp
 assign:Code
 body:Code
 n:Nat
structure Tj where
 map:Nat
 since:Nat
 seen:List Nat
 stepped:Nat
inductive adJ where
 |loop (l:zD)
 |iter (r:Tj)
def adJ.akb (o:adJ):Option zD:=
 match o with
 |.loop r=>some r
 |.iter _=>none
inductive Row where
 |row (cells:List Value) (elem:TypeId) (fam:Nat)
 |map (es:List MapEntry) (clock:Nat)
 |loop (l:adJ)
 |other
structure St where
 heap:Hp Row
 bG:Hp (List Nat)
 next:Nat
def ak:Nat:=64
def bg:Nat:=32
def dN:Nat:=63
def aA:Nat:=18446744073709551616
def aQ:Nat:=9223372036854775808
def qX (b:Nat):List Nat→Bool:=fun l=>List.rec false (fun a _ ih=>sel (Nat.beq a b) true ih) l
def EO (bG:Hp (List Nat))(b:Nat)(cs:List Value)(e:TypeId)(f:Nat):Option (List Value × TypeId × Nat):=
 sel (Nat.beq f 0) (some (cs,e,f)) (aj (bG.get f) fun l=>guard (qX b l) (some (cs,e,f)))
def St.cells (s:St)(b:Nat):Option (List Value × TypeId × Nat):=
 aj (s.heap.get b) fun r=>Row.casesOn r (fun cs e f=>EO s.bG b cs e f) (fun _ _=>none) (fun _=>none) none
def St.new {β:Type}(s:St)(r:Row)(k:Nat→St→β):β:=
 k s.next { heap:=s.heap.set s.next r,bG:=s.bG,next:=Nat.succ s.next }
def yL (d:TypeDesc):Bool:=
 match d with
 |.struct _|.array _ _=>true
 |_=>false
def isAgg (P:Program)(t:TypeId):Option Bool:=aj (P.underlying t) fun d=>some (yL d)
def size (P:Program)(t:TypeId):Option Nat:=(P.info? t).map (·.size)
def zero (P:Program)(t:TypeId):Option (List Value):=guard (Nat.ble (Nat.succ t) P.types.size) (((P.info? t).bind (·.zero)).map fun v=>v.cells.toList)
def cellsOf (v:Value):List Value:=
 match v with
 |.agg ⟨cs⟩=>cs
 |v=>[v]
def zJ (l:List Value):Value:=.agg ⟨l⟩
def takeN (n:Nat)(l:List Value):Option (List Value):=
 Nat.rec (fun _=>some []) (fun _ ih l=>gG l none (fun a t=>aj (ih t) fun r=>some (a::r))) n l
def afL (n:Nat)(l:List Value):Option (List Value):=sel (Nat.beq n (aV l)) (some l) (takeN n l)
def DT (P:Program)(t:TypeId)(o:Nat)(cs:List Value):Option Value:=
 aj (isAgg P t) fun g=>sel g (aj (size P t) fun n=>aj (takeN n (eY o cs)) fun l=>some (zJ l)) (nth cs o)
def load (P:Program)(s:St)(t:TypeId)(b o:Nat):Option Value:=
 aj (s.cells b) fun c=>DT P t o c.1
def Uj:List Value→List Value→Option (List Value):=fun vs=>
 List.rec (fun l=>some l) (fun v _ ih l=>gG l none (fun _ t=>aj (ih t) fun r=>some (v::r))) vs
def splice (vs:List Value):Nat→List Value→Option (List Value):=fun o=>
 Nat.rec (fun cs=>Uj vs cs) (fun _ ih cs=>gG cs none (fun a t=>aj (ih t) fun r=>some (a::r))) o
def putRow (s:St)(b:Nat)(cs:List Value)(e:TypeId)(f:Nat):St:=
 { heap:=s.heap.set b (.row cs e f),bG:=sel (Nat.beq f 0) s.bG (s.bG.set f [b]),next:=s.next }
def adG (v:Value):Bool:=
 match v with
 |.agg _=>false
 |.tuple _=>false
 |_=>true
def kV (l:List Value):Bool:=List.rec true (fun v _ ih=>sel (adG v) ih false) l
def storeCells (s:St)(b o:Nat)(vs:List Value):Option St:=
 guard (Nat.ble ak b&&kV vs) <| aj (s.cells b) fun c=>aj (splice vs o c.1) fun cs=>some (putRow s b cs c.2.1 c.2.2)
def store (P:Program)(s:St)(t:TypeId)(b o:Nat)(vs:List Value):Option St:=
 aj (size P t) fun n=>guard (Nat.beq (aV vs) n) (storeCells s b o vs)
inductive Res where
 |val (v:Value) (s:St)
 |call (f:FuncId) (args:List Value) (s:St)
 |yield (l:Nat) (args:List Value) (s:St)
 |defer (f:FuncId) (args:List Value) (s:St)
abbrev Ev:=Operand→Option Value
def ptr (b o:Nat):Value:=.pointer (some ⟨b,o,none⟩)
def i64 (n:Nat):Value:=.int .i64 (Int.ofNat n)
def unit:Value:=.tuple #[]
def asNat (v:Value):Option Nat:=
 match v with
 |.int _ n=>Int.casesOn n (fun n=>some n) (fun _=>none)
 |_=>none
def ret (v:Value)(s:St):Option Res:=some (.val v s)
inductive Ext where
 |cmp|indexByte|Fe|ahO|agk|overlaps
 |EX (l:List (Nat × Unit))|Xf (l:List (Nat × Nat))|qh (l:List (Nat × Nat × Bool))|qC (l:List (Nat × Nat × Bool))
 |Aa (l:List (Nat × Nat))|Na (l:List (Nat × Nat))|LV (l:List (Nat × Nat))|Nu (l:List (Nat × Nat × Nat × Nat))|adH (l:List (Nat × Nat × Nat))|Nw (l:List (Nat × Nat))
inductive Tree (α:Type) where
 |fail
 |leaf (a:α)
 |test (b:Bool) (x y:Tree α)
def Tree.run {α:Type}(t:Tree α):Option α:=Tree.rec none (fun a=>some a) (fun b _ _ x y=>sel b x y) t
def Tree.xQ {α β:Type}(t:Tree α)(k:α→Option β):Option β:=Tree.rec none k (fun b _ _ x y=>sel b x y) t
def Tree.runK {α β:Type}(t:Tree α)(k:α→Option β)(z:Option β):Option β:=Tree.rec z k (fun b x y _ _=>sel b (x.xQ k) (y.xQ k)) t
structure Fr where
 vars:Tr Value
 loc:List (Nat × Value)
 defers:List (FuncId × List Value)
inductive Ex where
 |normal
 |exit (id:Nat)
 |ret
inductive Con where
 |tree (F:St→List Value→Tree (Value × St))
 |insert (t:TypeId)
 |closed (ok:St→Bool)
 |fn (F:St→List Value→Option (Value × St))
 |pure (G:List Value→Option Value)
structure Cfg where
 P:Program
 ext:FuncId→Option Ext
 rtype:TypeId
 body:FuncId→Option Code
 params:FuncId→List Nat
 results:FuncId→List ResultVar
 vars:FuncId→Nat
 insert:FuncId→Option Con
 ae0:TypeId→Bool
 order:FuncId→Nat→List Nat
 lies:List (Nat × Nat × Nat × Nat):=[]
 EK:FuncId→Nat→Option (Fr→St→Tree (Ex × Fr × St)):=fun _ _=>none
def dU (a b:IntKind):Bool:=Nat.beq a.ctorIdx b.ctorIdx
def aag (k:IntKind)(n:Nat):Int:=
 match k with
 |.i64=>sel (Nat.ble 9223372036854775808 n) (IntKind.wrap .i64 (Int.ofNat n)) (Int.ofNat n)
 |.u64=>Int.ofNat (Nat.mod n 18446744073709551616)
 |.u8=>Int.ofNat (Nat.mod n 256)
 |k=>IntKind.wrap k (Int.ofNat n)
def wrap (k:IntKind)(n:Int):Int:=Int.casesOn n (fun n=>aag k n) (fun n=>IntKind.wrap k (Int.negSucc n))
def subNat (a b:Nat):Int:=sel (Nat.ble b a) (Int.ofNat (Nat.sub a b)) (Int.negSucc (Nat.sub (Nat.sub b a) 1))
def PK (fn:Nat→Nat→Int)(fi:Int→Int→Int)(a b:Int):Int:=
 Int.casesOn a (fun x=>Int.casesOn b (fun y=>fn x y) (fun y=>fi (Int.ofNat x) (Int.negSucc y))) (fun x=>fi (Int.negSucc x) b)
def Wy:Int→Int→Int:=PK (fun x y=>Int.ofNat (Nat.add x y)) (fun a b=>a+b)
def YS:Int→Int→Int:=PK subNat (fun a b=>a-b)
def adk:Int→Int→Int:=PK (fun x y=>Int.ofNat (Nat.mul x y)) (fun a b=>a*b)
def alZ:Int→Int→Int:=PK (fun x y=>Int.ofNat (Nat.div x y)) (fun a b=>a.tdiv b)
def ace:Int→Int→Int:=PK (fun x y=>Int.ofNat (Nat.mod x y)) (fun a b=>a.tmod b)
def ag4 (fn:Nat→Nat→Bool)(on no:Bool)(nn:Nat→Nat→Bool)(a b:Int):Bool:=
 Int.casesOn a (fun x=>Int.casesOn b (fun y=>fn x y) (fun _=>on)) (fun x=>Int.casesOn b (fun _=>no) (fun y=>nn x y))
def eqI:Int→Int→Bool:=ag4 Nat.beq false false Nat.beq
def ltI:Int→Int→Bool:=ag4 (fun x y=>Nat.ble (Nat.succ x) y) false true (fun x y=>Nat.ble (Nat.succ y) x)
def leI:Int→Int→Bool:=ag4 Nat.ble false true (fun x y=>Nat.ble y x)
def pR (k:IntKind):Nat:=
 match k with
 |.u64=>18446744073709551616
 |.u8=>256
 |.u32=>4294967296
 |.u16=>65536
 |_=>0
def ltN (a b:Nat):Bool:=Nat.ble (Nat.succ a) b
def BF (k:FloatKind):Bool:=
 match k with
 |.f64=>true
 |.f32=>false
def mF (k:IntKind):Bool:=
 match k with
 |.u64|.u8|.u32|.u16=>true
 |_=>false
def KZ (op:Nat→Nat→Nat)(k:IntKind)(a b:Int):Option Value:=
 Int.casesOn a (fun a=>Int.casesOn b (fun b=>guard (mF k) (some (.int k (Int.ofNat (op (Nat.mod a (pR k)) (Nat.mod b (pR k))))))) (fun _=>none)) (fun _=>none)
def abG (op:BinOp)(k:IntKind)(a b:Int):Option Value:=
 match op with
 |.add=>some (.int k (wrap k (Wy a b)))
 |.sub=>some (.int k (wrap k (YS a b)))
 |.mul=>some (.int k (wrap k (adk a b)))
 |.quo=>guard (!eqI b 0) (some (.int k (wrap k (alZ a b))))
 |.rem=>guard (!eqI b 0) (some (.int k (ace a b)))
 |.and=>(KZ Nat.land k a b)
 |.or=>(KZ Nat.lor k a b)
 |.xor=>(KZ Nat.xor k a b)
 |.andNot=>(KZ (fun a b=>Nat.xor a (Nat.land a b)) k a b)
 |.eql=>some (.bool (eqI a b))
 |.neq=>some (.bool (!eqI a b))
 |.lss=>some (.bool (ltI a b))
 |.leq=>some (.bool (leI a b))
 |.gtr=>some (.bool (ltI b a))
 |.geq=>some (.bool (leI b a))
 |_=>none
def ae1 (a b:Addr):Option Bool:=guard (Nat.beq a.block b.block) (some (Nat.beq a.off b.off))
def qY:List UInt8→List UInt8→Bool:=fun l=>
 List.rec (fun r=>gG r true (fun _ _=>false)) (fun a _ ih r=>gG r false (fun b t=>sel (Nat.beq a.toNat b.toNat) (ih t) false)) l
def alk (P:Program)(e:TypeId)(x y:Option Addr):Option Bool:=
 Option.casesOn x (some y.isNone) fun a=>Option.casesOn y (some false) fun b=>aj (size P e) fun n=>guard (!Nat.beq n 0) (ae1 a b)
def eqD (P:Program)(d:TypeDesc)(x y:Value):Option Bool:=
 match d with
 |.bool=>match x with
  |.bool a=>match y with
   |.bool b=>some (a == b)
   |_=>none
  |_=>none
 |.int _=>match x with
  |.int k a=>match y with
   |.int k' b=>guard (dU k k') (some (eqI a b))
   |_=>none
  |_=>none
 |.string=>match x with
  |.string a=>match y with
   |.string b=>some (qY a.data.toList b.data.toList)
   |_=>none
  |_=>none
 |.pointer e=>match x with
  |.pointer a=>match y with
   |.pointer b=>alk P e a b
   |_=>none
  |_=>none
 |.slice _=>match x with
  |.slice a _ _=>match y with
   |.slice b _ _=>Option.casesOn a (some b.isNone) fun _=>Option.casesOn b (some false) fun _=>none
   |_=>none
  |_=>none
 |.map _ _=>match x with
  |.map a=>match y with
   |.map b=>Option.casesOn a (some b.isNone) fun _=>Option.casesOn b (some false) fun _=>none
   |_=>none
  |_=>none
 |.func _ _ _=>match x with
  |.nilFunc=>match y with
   |.nilFunc=>some true
   |.func _ _ _=>some false
   |_=>none
  |.func _ _ _=>match y with
   |.nilFunc=>some false
   |_=>none
  |_=>none
 |.interface _=>match x with
  |.nilIface=>match y with
   |.nilIface=>some true
   |.iface _ _=>some false
   |_=>none
  |.iface _ _=>match y with
   |.nilIface=>some false
   |_=>none
  |_=>none
 |_=>none
def Yg (f:Value→Value→Option Bool)(n:Nat):List Value→List Value→Option Bool:=
 Nat.rec (fun _ _=>some true) (fun _ ih xs ys=>gG xs none fun x xt=>gG ys none fun y yt=>aj (f x y) fun b=>sel b (ih xt yt) (some false)) n
def part (P:Program)(t:TypeId)(cs:List Value)(off:Nat):Option Value:=
 aj (isAgg P t) fun g=>sel g (aj (size P t) fun n=>some (zJ (ng n (eY off cs)))) (nth cs off)
abbrev EqF:=TypeId→Value→Value→Option Bool
def ac3 (x y:Value)(k:List Value→List Value→Option Bool):Option Bool:=
 match x with
 |.agg ⟨xs⟩=>match y with
  |.agg ⟨ys⟩=>k xs ys
  |_=>none
 |_=>none
def pK (P:Program)(ih:EqF)(t:TypeId)(o:Nat)(xs ys:List Value):Option Bool:=
 aj (part P t xs o) fun x=>aj (part P t ys o) fun y=>ih t x y
def zo (P:Program)(ih:EqF)(e:TypeId)(n:Nat)(xs ys:List Value)(k:Nat):Nat→Option Bool:=
 Nat.rec (fun _=>some true) (fun _ go i=>aj (pK P ih e (Nat.mul i n) xs ys) fun b=>sel b (go (Nat.succ i)) (some false)) k
def eqFields (P:Program)(ih:EqF)(xs ys:List Value):List Field→Option Bool:=
 List.rec (some true) (fun f _ go=>aj (pK P ih f.type f.offset xs ys) fun b=>sel b go (some false))
def uK (C:Cfg)(ih:EqF)(t:TypeId)(x y:Value):Option Bool:=
 aj (C.P.underlying t) fun d=>match d with
  |.array n e=>ac3 x y fun xs ys=>aj (C.P.underlying e) fun d=>aj (size C.P e) fun k=>sel (!yL d&&Nat.beq k 1) (Yg (eqD C.P d) n xs ys) (zo C.P ih e k xs ys n 0)
  |.struct fs=>guard (C.ae0 t) (ac3 x y fun xs ys=>eqFields C.P ih xs ys fs.toList)
  |d=>eqD C.P d x y
def ab8 (C:Cfg):EqF:=Nat.rec (fun _ _ _=>none) (fun _ ih=>uK C ih) 6
def comparable (P:Program)(t:TypeId):Bool:=Option.casesOn (P.info? t) false (·.comparable)
def eqT (C:Cfg)(t:TypeId)(x y:Value):Option Bool:=
 match x with
  |.iface tx vx=>match y with
   |.iface ty vy=>match C.P.underlying t with
    |some (.interface _)=>sel (Nat.beq tx ty) (guard (comparable C.P tx) (ab8 C tx vx vy)) (some false)
    |_=>none
   |y=>ab8 C t (.iface tx vx) y
  |x=>ab8 C t x y
def uV:List UInt8→List UInt8→Bool:=fun l=>
 List.rec (fun r=>gG r false (fun _ _=>true))
  (fun a _ ih r=>gG r false (fun b t=>sel (Nat.ble (Nat.succ a.toNat) b.toNat) true (sel (Nat.beq a.toNat b.toNat) (ih t) false))) l
def ajl (op:BinOp)(a b:List UInt8):Option Value:=
 match op with
 |.add=>guard (Nat.ble (Nat.add (aV a) (aV b)) 9223372036854775807) (some (.string ⟨⟨dG a b⟩⟩))
 |.eql=>some (.bool (qY a b))
 |.neq=>some (.bool (!qY a b))
 |.lss=>some (.bool (uV a b))
 |.gtr=>some (.bool (uV b a))
 |.leq=>some (.bool (!uV b a))
 |.geq=>some (.bool (!uV a b))
 |_=>none
def shiftOp (left:Bool)(k:IntKind)(a n:Nat):Option Value:=
 sel left (guard (mF k) (some (.int k (Int.ofNat (Nat.mod (Nat.mul a (Nat.pow 2 (sel (Nat.ble n k.bits) n k.bits))) (Nat.pow 2 k.bits))))))
  (some (.int k (Int.ofNat (Nat.div a (Nat.pow 2 (sel (Nat.ble n k.bits) n k.bits))))))
def shift (left:Bool)(x y:Value):Option Value:=
 match x with
 |.int k a=>match y with
  |.int _ b=>Int.casesOn a (fun a=>Int.casesOn b (fun b=>shiftOp left k a b) (fun _=>none)) (fun _=>none)
  |_=>none
 |_=>none
def al0 (C:Cfg)(t:TypeId)(op:BinOp)(x y:Value):Option Value:=
 match op with
 |.eql=>aj (eqT C t x y) fun b=>some (.bool b)
 |.neq=>aj (eqT C t x y) fun b=>some (.bool !b)
 |_=>none
def ah7 (op:BinOp)(k:FloatKind)(lo hi:Nat)(y:Value):Option Value:=
 match y with
 |.int .i64 c=>Int.casesOn c (fun c=>guard (BF k) (match op with
   |.gtr=>sel (Nat.ble hi c && !Nat.beq hi 0) (some (.bool false)) (guard (ltN c lo) (some (.bool true)))
   |_=>none)) (fun _=>none)
 |_=>none
def Zy (C:Cfg)(t:TypeId)(op:BinOp)(x y:Value):Option Value:=
 match x with
 |.int k a=>match y with
  |.int k' b=>guard (dU k k') (abG op k a b)
  |_=>none
 |.string a=>match y with
  |.string b=>ajl op a.data.toList b.data.toList
  |_=>none
 |.complex k lo hi=>ah7 op k lo hi y
 |x=>al0 C t op x y
def binOp (C:Cfg)(t:TypeId)(op:BinOp)(x y:Value):Option Value:=
 match op with
 |.shl=>shift true x y
 |.shr=>shift false x y
 |op=>Zy C t op x y
def isConst (x:Operand):Bool:=
 match x with
 |.const _=>true
 |_=>false
def ni (C:Cfg)(t:TypeId)(x y:Operand)(a b:Value):Bool:=
 match a with
 |.agg _=>C.ae0 t
 |.nilIface=>match b with
  |.nilIface=>isConst x||isConst y
  |_=>true
 |_=>true
def fieldInfo (P:Program)(t:TypeId)(i:Nat):Option Field:=
 match P.underlying t with
 |some (.struct fs)=>nth fs.toList i
 |_=>none
def fill (place:Nat→Option (Nat × Nat)):List (Nat × Value)→List Value→Option (List Value):=fun l=>
 List.rec (fun cs=>some cs)
  (fun p _ ih cs=>aj (place p.1) fun q=>guard (Nat.beq (aV (cellsOf p.2)) q.2) (aj (splice (cellsOf p.2) q.1 cs) ih)) l
def repeatL (n:Nat)(l:List Value):List Value:=Nat.rec [] (fun _ ih=>dG l ih) n
def bound (lo:Option Value)(dflt:Nat):Option Nat:=Option.casesOn lo (some dflt) asNat
def branch (s:St)(b:Nat)(cells:List Value)(elem:TypeId)(f:Nat)(len:Nat):Value × St:=
 (.slice (some ⟨s.next,0,none⟩) len aA,
  { heap:=s.heap.set s.next (.row cells elem f),bG:=s.bG.set f [s.next,b],next:=Nat.succ s.next })
def xR (a:Addr)(l h m n:Nat)(s:St):Option (Value × St):=
 some (.slice (some (sel (Nat.beq m l) a ⟨a.block,Nat.add a.off (Nat.mul l n),none⟩)) (Nat.sub h l) (Nat.sub m l),s)
def Ep (o cap n:Nat):Bool:=Nat.beq o (Nat.mul (Nat.sub aA cap) n)
def CQ:Value:=.slice (some ⟨dN,0,none⟩) 0 aA
def rD (s:St)(a:Addr)(e:TypeId)(cap l h m n:Nat):Option (Value × St):=
 aj (s.cells a.block) fun c=>
  guard (Nat.beq c.2.1 e&&Ep a.off cap n&&Nat.ble 1 n && !Nat.beq c.2.2 0&&Nat.ble cap aA&&(ltN m aQ||Nat.ble aQ (Nat.sub m l))&&Nat.ble (Nat.add a.off (Nat.mul (sel (Nat.ble aQ m) h m) n)) (aV c.1))
   (sel (ltN m aQ||ltN l h||ltN (Nat.add a.off (Nat.mul l n)) (aV c.1)||Nat.beq l 0)
    (some (.slice (some (sel (Nat.beq m l) a ⟨a.block,Nat.add a.off (Nat.mul l n),none⟩)) (Nat.sub h l) (Nat.sub m l),s))
    (some (CQ,s)))
def pY (s:St)(a:Option Addr)(e:TypeId)(cap l h m n:Nat):Option (Value × St):=
 guard (Nat.ble l h&&Nat.ble h m&&Nat.ble m cap)
  (Option.casesOn a (some (.slice none (Nat.sub h l) (Nat.sub m l),s))
   fun a=>sel (Nat.beq a.block dN) (guard (Nat.beq h 0&&Nat.beq cap aA&&(Nat.beq m 0||Nat.beq m aA)) (some (CQ,s))) (sel (Nat.ble aQ cap) (rD s a e cap l h m n) (xR a l h m n s)))
def sF (b:List UInt8)(l h:Nat):Option Value:=
 guard (Nat.ble l h&&Nat.ble h (aV b)) (sel (Nat.beq h (aV b)) (some (.string ⟨⟨eY l b⟩⟩)) (some (.string ⟨⟨ng (Nat.sub h l) (eY l b)⟩⟩)))
def bounds {β:Type}(lo hi mx:Option Value)(len cap:Nat)(k:Nat→Nat→Nat→Option β):Option β:=
 aj (bound lo 0) fun l=>aj (bound hi len) fun h=>aj (bound mx cap) fun m=>k l h m
def ou (P:Program)(s:St)(t:TypeId)(a:Option Addr)(len cap:Nat)(lo hi mx:Option Value):Option (Value × St):=
 match P.underlying t with
 |some (.slice e)=>aj (size P e) fun n=>bounds lo hi mx len cap fun l h m=>guard (mx.isNone||(hi.isSome&&ltN m aQ)) (pY s a e cap l h m n)
 |_=>none
def xC (P:Program)(k:Nat)(e:TypeId)(s:St)(a:Addr)(lo hi mx:Option Value):Option (Value × St):=
 aj (size P e) fun n=>bounds lo hi mx k k fun l h m=>guard ((mx.isNone||hi.isSome)&&ltN k aQ) (pY s (some a) e k l h m n)
def Fq (P:Program)(s:St)(t:TypeId)(a:Addr)(lo hi mx:Option Value):Option (Value × St):=
 match P.underlying t with
 |some (.array k e)=>xC P k e s a lo hi mx
 |some (.pointer arr)=>match P.underlying arr with
  |some (.array k e)=>xC P k e s a lo hi mx
  |_=>none
 |_=>none
def xU (P:Program)(s:St)(t:TypeId)(x:Value)(lo hi mx:Option Value):Option (Value × St):=
 match x with
 |.slice a len cap=>ou P s t a len cap lo hi mx
 |.pointer (some a)=>Fq P s t a lo hi mx
 |.string b=>match P.underlying t with
  |some .string=>Option.casesOn mx (bounds lo hi none (aV b.data.toList) 0 fun l h _=>aj (sF b.data.toList l h) fun v=>some (v,s)) (fun _=>none)
  |_=>none
 |_=>none
def aK (l:List UInt8):List Value:=qB (fun c=>.int .u8 (Int.ofNat c.toNat)) l
def firstCells (s:St)(sz n:Nat)(v:Value):Option (List Value):=
 match v with
 |.slice (some a) _ _=>sel (Nat.beq a.block dN) (guard (Nat.beq n 0) (some [])) (aj (s.cells a.block) fun c=>takeN (Nat.mul n sz) (eY a.off c.1))
 |.slice none _ _=>guard (Nat.beq n 0) (some [])
 |.string b=>guard (Nat.beq sz 1) (some (aK (ng n b.data.toList)))
 |_=>none
def lenOf (v:Value):Option Nat:=
 match v with
 |.slice _ n _=>some n
 |.string b=>some (aV b.data.toList)
 |_=>none
def grow (s:St)(elem:TypeId)(cells:List Value)(len:Nat):Value × St:=
 (.slice (some ⟨s.next,0,none⟩) len aA,
  { heap:=s.heap.set s.next (.row cells elem s.next),bG:=s.bG.set s.next [s.next],next:=Nat.succ s.next })
def vC (P:Program)(elem:TypeId)(need:Nat):Bool:=
 Option.casesOn (P.info? elem) false fun i=>Nat.ble need 281474976710656&&Nat.ble (Nat.mul (Nat.add (Nat.mul 2 need) 768) i.bytes) 281474976710656 &&
  Nat.ble 1 i.size&&Option.casesOn i.zero false fun z=>Nat.beq (aV z.cells.toList) i.size
def ET (s:St)(p:Addr)(len cap need e:Nat)(new:List Value):Option (Value × St):=
 aj (storeCells s p.block e new) fun s=>some (.slice (some p) need cap,s)
def Aq (P:Program)(s:St)(p:Addr)(len cap need e sz:Nat)(new:List Value)(c:List Value × TypeId × Nat):Option (Value × St):=
 guard (vC P c.2.1 need) <| aj (afL (Nat.mul len sz) (eY p.off c.1)) fun old=>
  sel (ltN cap aQ)
   (guard (ltN cap need) (some (grow s c.2.1 (dG old new) need)))
   (guard (Nat.beq e (aV c.1)&&Nat.ble ak p.block&&kV new) (some (branch s p.block (dG old new) c.2.1 c.2.2 need)))
def Bo (P:Program)(s:St)(elem:TypeId)(p:Addr)(len cap n sz:Nat)(new:List Value):Option (Value × St):=
 aj (s.cells p.block) fun c=>
  guard (Nat.beq c.2.1 elem&&Nat.ble 1 sz&&(ltN cap aQ||(Ep p.off cap sz && !Nat.beq c.2.2 0))) <| sel (Nat.ble (Nat.add len n) cap&&Nat.ble (Nat.add (Nat.add p.off (Nat.mul len sz)) (Nat.mul n sz)) (aV c.1))
   (ET s p len cap (Nat.add len n) (Nat.add p.off (Nat.mul len sz)) new)
   (Aq P s p len cap (Nat.add len n) (Nat.add p.off (Nat.mul len sz)) sz new c)
def rY (s:St)(elem:TypeId)(base:Option Addr)(len cap sz:Nat)(a:Value):Option (Value × St):=
 sel (ltN cap aQ||base.isNone) (guard (Nat.ble len cap) (some (a,s)))
  (Option.casesOn base none fun p=>sel (Nat.beq p.block dN) (guard (Nat.beq len 0) (some (a,s))) <| aj (s.cells p.block) fun c=>
   guard (Nat.beq c.2.1 elem&&Ep p.off cap sz&&Nat.ble 1 sz && !Nat.beq c.2.2 0&&Nat.ble (Nat.add p.off (Nat.mul len sz)) (aV c.1)) (some (a,s)))
def Og (P:Program)(s:St)(elem:TypeId)(base:Option Addr)(len cap n sz:Nat)(new:List Value)(a:Value):Option (Value × St):=
 sel (Nat.beq n 0) (rY s elem base len cap sz a) (Option.casesOn base (guard (Nat.beq len 0&&Nat.beq cap 0&&vC P elem n) (some (grow s elem new n))) fun p=>Bo P s elem p len cap n sz new)
def JB (P:Program)(T:Option TypeId):Bool:=
 Option.casesOn T true fun t=>match P.underlying t with
  |none=>false
  |some (.int _)=>false
  |_=>true
def append (P:Program)(s:St)(sT:TypeId)(T2:Option TypeId)(a b:Value):Option (Value × St):=
 guard (JB P T2) <| match P.underlying sT with
 |some (.slice elem)=>match a with
  |.slice base len cap=>aj (lenOf b) fun n=>aj (size P elem) fun sz=>aj (firstCells s sz n b) fun new=>Og P s elem base len cap n sz new a
  |_=>none
 |_=>none
def byteOf (v:Value):Option UInt8:=
 match v with
 |.int .u8 n=>Int.casesOn n (fun n=>some (UInt8.ofNat n)) (fun _=>none)
 |_=>none
def bytesOf:List Value→Option (List UInt8):=fun l=>List.rec (some []) (fun v _ ih=>aj (byteOf v) fun b=>aj ih fun r=>some (b::r)) l
def toStr (s:St)(n:Nat)(x:Value):Option (Value × St):=
 aj (firstCells s 1 n x) fun l=>aj (bytesOf l) fun l=>some (.string ⟨⟨l⟩⟩,s)
def isBytes (P:Program)(e:TypeId):Bool:=
 match P.underlying e with
 |some (.int .u8)=>true
 |_=>false
def isStr (P:Program)(e:TypeId):Bool:=
 match P.underlying e with
 |some .string=>true
 |_=>false
def convert (P:Program)(s:St)(src dst:TypeId)(x:Value):Option (Value × St):=
 guard (P.underlying src).isSome <| match P.underlying dst with
 |some (.int k)=>match x with
  |.int _ n=>some (.int k (wrap k n),s)
  |_=>none
 |some .string=>match x with
  |.string b=>some (.string b,s)
  |.int _ n=>some (.string (Utf8.encode n),s)
  |.slice a n c=>match P.underlying src with
   |some (.slice e)=>guard (isBytes P e) (Option.casesOn a (some (.string ⟨⟨[]⟩⟩,s)) fun _=>toStr s n x)
   |_=>none
  |_=>none
 |some (.slice e)=>match x with
  |.string b=>guard (isBytes P e&&isStr P src) (some (grow s e (aK b.data.toList) (aV b.data.toList)))
  |_=>none
 |_=>none
def unOp (op:UnOp)(x:Value):Option Value:=
 match x with
 |.bool b=>match op with
  |.not=>some (.bool !b)
  |_=>none
 |.int k n=>match op with
  |.neg=>some (.int k (wrap k (YS 0 n)))
  |.xor=>match k with
   |.u64=>Int.casesOn n (fun n=>some (.int .u64 (Int.ofNat (Nat.sub 18446744073709551615 (Nat.mod n 18446744073709551616))))) (fun _=>none)
   |_=>none
  |_=>none
 |_=>none
inductive Pl where
 |val (v:Value)
 |var (b o:Nat)
def Pl.get (P:Program)(s:St)(t:TypeId)(x:Pl):Option Value:=Pl.casesOn x (fun v=>some v) (fun b o=>load P s t b o)
def Vf (P:Program)(s:St)(st:FieldStep)(t:TypeId)(x:Pl):Option (TypeId × Pl):=
 aj (fieldInfo P st.struct st.index) fun f=>aj (size P f.type) fun n=>
  sel st.deref
   (match x.get P s t with
    |some (.pointer (some a))=>guard (!Nat.beq n 0) (some (f.type,.var a.block (Nat.add a.off f.offset)))
    |_=>none)
   (match x with
    |.var b o=>guard (!Nat.beq n 0) (some (f.type,.var b (Nat.add o f.offset)))
    |.val (.agg ⟨cs⟩)=>aj (part P f.type cs f.offset) fun v=>some (f.type,.val v)
    |_=>none)
def follow (P:Program)(s:St):List FieldStep→TypeId→Pl→Option (TypeId × Pl):=fun l=>
 List.rec (fun t x=>some (t,x)) (fun st _ ih t x=>aj (Vf P s st t x) fun r=>ih r.1 r.2) l
def receiver (P:Program)(s:St)(xt:TypeId)(x:Pl)(pr:Bool):Option Value:=
 match P.underlying xt with
 |some (.pointer elem)=>sel pr (x.get P s xt)
   (match x.get P s xt with
    |some (.pointer (some a))=>load P s elem a.block a.off
    |_=>none)
 |some _=>match x with
  |.var b o=>sel pr (some (ptr b o)) (x.get P s xt)
  |.val v=>sel pr none (some v)
 |none=>none
def xB (P:Program)(t:TypeId)(name:String):Option Method:=(P.info? t).bind (fun i=>i.methods.toList.find? (·.name == name))
def method (P:Program)(s:St)(t:TypeId)(v:Value)(name:String):Option (FuncId × Value):=
 aj (xB P t name) fun m=>aj (follow P s m.path.toList t (.val v)) fun r=>
  Option.casesOn m.func none fun q=>aj (receiver P s r.1 r.2 q.2) fun v=>some (q.1,v)
def handle (P:Program)(t:TypeId):Value:=.pointer (some ⟨P.globals.size,t,none⟩)
def ofHandle (P:Program)(v:Value):Option TypeId:=
 match v with
 |.pointer (some a)=>guard (Nat.beq a.block P.globals.size) (some a.off)
 |_=>none
def missing (P:Program)(iface:TypeId)(t:TypeId):Bool:=
 match P.underlying iface,P.info? t with
 |some (.interface want),some i=>want.toList.any fun w=>!(i.methods.toList.any fun m=>m.name == w.1&&m.sig == w.2)
 |_,_=>true
def isIface (P:Program)(t:TypeId):Bool:=
 match P.underlying t with
 |some (.interface _)=>true
 |_=>false
def WH (x y c:Nat)(s:St):Option (Value × St):=
 guard (Nat.ble c 1) (some (.tuple #[.int .u64 (Int.ofNat (Nat.mod (Nat.add (Nat.add x y) c) aA)),.int .u64 (Int.ofNat (Nat.div (Nat.add (Nat.add x y) c) aA))],s))
def V8 (x y c:Nat)(s:St):Option (Value × St):=
 guard (Nat.ble c 1) (some (.tuple #[.int .u64 (Int.ofNat (Nat.mod (Nat.sub (Nat.sub (Nat.add x aA) y) c) aA)),.int .u64 (sel (ltN x (Nat.add y c)) 1 0)],s))
def ais (args:List Value)(k:Nat→Nat→Nat→Option (Value × St)):Option (Value × St):=
 match args with
 |[x,y,c]=>aj (asNat x) fun x=>aj (asNat y) fun y=>aj (asNat c) fun c=>k x y c
 |_=>none
def FI (C:Cfg)(t:TypeId):Value:=.iface C.rtype (.agg #[handle C.P t])
def dn {β:Type}(l:List (Nat × β))(n:Nat):Option β:=List.rec none (fun p _ ih=>sel (Nat.beq p.1 n) (some p.2) ih) l
def aaf (l:List (Nat × Nat × Bool))(t u:Nat):Option Bool:=List.rec none (fun p _ ih=>sel (Nat.beq p.1 t&&Nat.beq p.2.1 u) (some p.2.2) ih) l
def GN (C:Cfg)(l:List (Nat × Unit))(s:St)(args:List Value):Option (Value × St):=
 match args with
 |[.iface t _]=>aj (dn l t) fun _=>some (FI C t,s)
 |_=>none
def TP (C:Cfg)(l:List (Nat × Nat))(s:St)(args:List Value):Option (Value × St):=
 match args with
 |[.agg ⟨[h]⟩]=>aj (ofHandle C.P h) fun t=>aj (dn l t) fun e=>some (FI C e,s)
 |_=>none
def NC (C:Cfg)(args:List Value)(k:TypeId→TypeId→Option (Value × St)):Option (Value × St):=
 match args with
 |[.agg ⟨[h]⟩,.iface r (.agg ⟨[g]⟩)]=>guard (Nat.beq r C.rtype) (aj (ofHandle C.P h) fun t=>aj (ofHandle C.P g) fun u=>k t u)
 |_=>none
def aam (C:Cfg)(l:List (Nat × Nat × Bool))(s:St)(args:List Value):Option (Value × St):=
 NC C args fun t u=>aj (aaf l t u) fun b=>some (.bool b,s)
def BD (C:Cfg)(l:List (Nat × Nat))(s:St)(args:List Value):Option (Value × St):=
 match args with
 |[.iface t v]=>aj (dn l t) fun f=>s.new (.row (cellsOf v) t 0) fun id s=>some (.agg ⟨[handle C.P t,ptr id 0,.int .u64 (Int.ofNat f)]⟩,s)
 |_=>none
def FM (C:Cfg)(v:Value)(k:TypeId→Addr→Nat→Option (Value × St)):Option (Value × St):=
 match v with
 |.agg ⟨[h,.pointer (some a),.int .u64 f]⟩=>aj (ofHandle C.P h) fun t=>Int.casesOn f (fun f=>k t a f) (fun _=>none)
 |_=>none
def Oj (C:Cfg)(l:List (Nat × Nat))(s:St)(args:List Value):Option (Value × St):=
 match args with
 |[v]=>FM C v fun t _ f=>aj (dn l t) fun g=>guard (Nat.beq g f) (some (FI C t,s))
 |_=>none
def aeA (v:Value):Option Bool:=
 match v with
 |.pointer none=>some true
 |.pointer (some _)=>some false
 |_=>none
def NY (C:Cfg)(l:List (Nat × Nat))(s:St)(args:List Value):Option (Value × St):=
 match args with
 |[v]=>FM C v fun t a f=>aj (dn l t) fun g=>guard (Nat.beq g f) (aj (load C.P s t a.block a.off) fun v=>aj (aeA v) fun b=>some (.bool b,s))
 |_=>none
def NI (C:Cfg)(l:List (Nat × Nat × Nat × Nat))(s:St)(args:List Value):Option (Value × St):=
 match args with
 |[v]=>FM C v fun t a f=>aj (dn l t) fun q=>guard (Nat.beq q.1 f) (aj (load C.P s t a.block a.off) fun v=>match v with
  |.pointer (some p)=>some (.agg ⟨[handle C.P q.2.1,.pointer (some p),.int .u64 (Int.ofNat q.2.2)]⟩,s)
  |_=>none)
 |_=>none
def Y7 (C:Cfg)(l:List (Nat × Nat × Nat))(s:St)(args:List Value):Option (Value × St):=
 match args with
 |[v,x]=>FM C v fun t a f=>FM C x fun u b g=>aj (dn l t) fun q=>guard (Nat.beq t u&&Nat.beq q.1 f&&Nat.beq q.2 g) <|
  aj (load C.P s t b.block b.off) fun v=>aj (store C.P s t a.block a.off (cellsOf v)) fun s=>some (unit,s)
 |_=>none
def Oz (C:Cfg)(l:List (Nat × Nat))(s:St)(args:List Value):Option (Value × St):=
 match args with
 |[h]=>aj (ofHandle C.P h) fun t=>aj (dn l t) fun k=>some (.int .u8 (Int.ofNat k),s)
 |_=>none
def UR (s:St)(args:List Value):Option (Value × St):=
 match args with
 |[.slice a la _,.slice b lb _]=>sel (Nat.beq la 0||Nat.beq lb 0||a.isNone||b.isNone) (some (.bool false,s)) none
 |_=>none
def Zj (s:St)(args:List Value):Option (Value × St):=
 match args with
 |[.slice a la ca,.slice b lb cb]=>aj (firstCells s 1 la (.slice a la ca)) fun x=>aj (bytesOf x) fun x=>aj (firstCells s 1 lb (.slice b lb cb)) fun y=>aj (bytesOf y) fun y=>
   some (.int .i64 (sel (uV x y) (-1) (sel (uV y x) 1 0)),s)
 |_=>none
def indexB (c:Nat)(l:List UInt8):Nat→Int:=List.rec (fun _=>-1) (fun b _ ih i=>sel (Nat.beq b.toNat c) (Int.ofNat i) (ih (Nat.succ i))) l
def Rf (s:St)(args:List Value):Option (Value × St):=
 match args with
 |[.string b,.int .u8 (.ofNat c)]=>guard (ltN c 256) (some (.int .i64 (indexB c b.data.toList 0),s))
 |_=>none
def sG (C:Cfg)(t:TypeId)(s:St)(args:List Value):Option (Value × St):=
 match args with
 |[.slice (some a) n cap,.int .i64 i,.slice (some v) m _]=>aj (asNat (.int .i64 i)) fun i=>guard (Nat.beq m 1) <| aj (s.cells a.block) fun c=>aj (s.cells v.block) fun d=>aj (size C.P t) fun sz=>
   guard (Nat.beq c.2.1 t&&Nat.beq a.off 0&&Nat.beq (aV c.1) (Nat.mul n sz)&&Nat.ble i n && !(Nat.beq c.2.2 0)&&Nat.beq cap aA&&Nat.ble ak a.block&&Nat.ble ak v.block&&Nat.beq d.2.2 0&&Nat.ble 1 (aV d.1)&&Nat.ble 1 sz&&vC C.P t (Nat.succ n)&&Nat.ble n 1099511627776) <| aj (takeN sz (eY v.off d.1)) fun new=>guard (kV new&&kV c.1) <|
    some (.slice (some ⟨s.next,0,none⟩) (Nat.succ n) aA,{ heap:=(s.heap.set a.block (.row [] t c.2.2)).set s.next (.row (dG (ng (Nat.mul i sz) c.1) (dG new (eY (Nat.mul i sz) c.1))) t c.2.2),bG:=s.bG.set c.2.2 [s.next,a.block],next:=Nat.succ s.next })
 |_=>none
def jI (v:Value):Bool:=
 match v with
 |.bool _|.int _ _|.string _=>true
 |_=>false
def flatAll:List Value→Bool:=fun l=>List.rec true (fun a _ ih=>sel (jI a) ih false) l
def abU (v:Value):Bool:=
 match v with
 |.agg cs=>flatAll cs.toList
 |.tuple cs=>flatAll cs.toList
 |v=>jI v
def nM:List Value→Bool:=fun l=>List.rec true (fun a _ ih=>sel (abU a) ih false) l
def xO (G:List Value→Option Value)(args:List Value):Option Value:=guard (nM args) (aj (G args) fun v=>guard (abU v) (some v))
def Uy (G:List Value→Option Value)(s:St)(args:List Value):Option (Value × St):=aj (xO G args) fun v=>some (v,s)
def E8 (t:Con)(args:List Value):Bool:=
 match t with
 |.pure G=>(xO G args).isSome
 |_=>false
def jM (C:Cfg)(c:Con)(s:St)(args:List Value):Option (Value × St):=
 match c with
 |.insert t=>sG C t s args
 |.closed ok=>match args with
  |[]=>guard (ok s) (some (.bool true,s))
  |_=>none
 |.fn F=>F s args
 |.pure G=>Uy G s args
 |.tree F=>(F s args).run
def FH (C:Cfg)(s:St)(e:Ext)(args:List Value):Option (Value × St):=
 match e with
 |.ahO=>ais args fun x y c=>WH x y c s
 |.agk=>ais args fun x y c=>V8 x y c s
 |.EX l=>GN C l s args
 |.Xf l=>TP C l s args
 |.qh l=>aam C l s args
 |.qC l=>aam C l s args
 |.Aa l=>BD C l s args
 |.Na l=>Oj C l s args
 |.LV l=>NY C l s args
 |.Nu l=>NI C l s args
 |.adH l=>Y7 C l s args
 |.Nw l=>Oz C l s args
 |.overlaps=>UR s args
 |.cmp=>Zj s args
 |.indexByte=>Rf s args
 |.Fe=>match args with
  |[p]=>some (p,s)
  |_=>none
def xY (r:Value × St):Option Res:=some (.val r.1 r.2)
def qL (C:Cfg)(s:St)(f:FuncId)(args:List Value):Option Res:=
 Option.casesOn (C.ext f) (guard (C.body f).isSome (some (.call f args s))) fun e=>aj (FH C s e args) xY
def Uh (a b:Addr):Bool:=Nat.beq a.block b.block&&Nat.beq a.off b.off&&a.spot.isNone&&b.spot.isNone
def NZ (a b:Option Addr):Bool:=Option.casesOn a b.isNone fun a=>Option.casesOn b false fun b=>Uh a b
def OJ (a b:Option Nat):Bool:=Option.casesOn a b.isNone fun a=>Option.casesOn b false fun b=>Nat.beq a b
def qR (f:Value→Value→Bool):List Value→List Value→Bool:=fun l=>
 List.rec (fun r=>gG r true (fun _ _=>false)) (fun a _ ih r=>gG r false (fun b t=>sel (f a b) (ih t) false)) l
def aeG (g h:Fn):Bool:=
 match g with
 |.func g=>match h with
  |.func h=>Nat.beq g h
  |_=>false
 |_=>false
def Ot (f:Value→Value→Bool)(x y:Value):Bool:=
 match x with
 |.bool a=>match y with
  |.bool b=>a == b
  |_=>false
 |.int j a=>match y with
  |.int k b=>dU j k&&eqI a b
  |_=>false
 |.string a=>match y with
  |.string b=>qY a.data.toList b.data.toList
  |_=>false
 |.pointer a=>match y with
  |.pointer b=>NZ a b
  |_=>false
 |.slice a n c=>match y with
  |.slice b m d=>NZ a b&&Nat.beq n m&&Nat.beq c d
  |_=>false
 |.map a=>match y with
  |.map b=>OJ a b
  |_=>false
 |.nilFunc=>match y with
  |.nilFunc=>true
  |_=>false
 |.func g a b=>match y with
  |.func h c d=>aeG g h&&qR f a.toList c.toList&&qR f b.toList d.toList
  |_=>false
 |.chan a=>match y with
  |.chan b=>OJ a b
  |_=>false
 |.complex j a b=>match y with
  |.complex k c d=>BF j&&BF k&&Nat.beq a c&&Nat.beq b d
  |_=>false
 |.float j a=>match y with
  |.float k b=>BF j&&BF k&&Nat.beq a b
  |_=>false
 |.nilIface=>match y with
  |.nilIface=>true
  |_=>false
 |.iface t v=>match y with
  |.iface u w=>Nat.beq t u&&f v w
  |_=>false
 |.agg ⟨a⟩=>match y with
  |.agg ⟨b⟩=>qR f a b
  |_=>false
 |.tuple ⟨a⟩=>match y with
  |.tuple ⟨b⟩=>qR f a b
  |_=>false
def jG:Nat→Value→Value→Bool:=fun n=>Nat.rec (fun _ _=>false) (fun _ ih=>Ot ih) n
def Gv (T:List (List Value × Value))(args:List Value):Option Value:=List.rec none (fun p _ ih=>sel (qR (jG 4) p.1 args) (some p.2) ih) T
def CO (v:Value):Bool:=
 match v with
 |.bool _|.int _ _|.string _=>true
 |_=>false
def Gp:List Value→Bool:=fun l=>List.rec true (fun a _ ih=>sel (CO a) ih false) l
def BP (v:Value):Bool:=
 match v with
 |.agg ⟨l⟩=>Gp l
 |v=>CO v
def EU (es:List MapEntry)(i:Nat)(k:Value):Bool:=Option.casesOn (nth es i) false fun e=>BP k&&jG 2 e.key k
def findKey (C:Cfg)(t:TypeId)(k:Value):List MapEntry→Nat→Option (Option (Nat × Value)):=fun l=>
 List.rec (fun _=>some none) (fun e _ ih i=>aj (ab8 C t k e.key) fun b=>sel b (some (some (i,e.val))) (ih (Nat.succ i))) l
def KA (d:TypeDesc):Bool:=
 match d with
 |.bool|.int _|.string|.pointer _=>true
 |_=>false
def KJ (P:Program)(t:TypeId):Bool:=Option.casesOn (P.underlying t) false KA
def TJ (P:Program)(n:Nat):List Field→Bool:=List.rec true (fun f _ ih=>sel (KJ P f.type&&ltN f.offset n) ih false)
def agR (P:Program)(d:TypeDesc)(k:Value):Bool:=
 match d with
 |.array n e=>match k with
  |.agg ⟨cs⟩=>Nat.ble n (aV cs)&&KJ P e&&Option.casesOn (size P e) false (fun k=>Nat.beq k 1)
  |_=>false
 |.struct fs=>match k with
  |.agg ⟨cs⟩=>TJ P (aV cs) fs.toList
  |_=>false
 |d=>KA d
def agy (C:Cfg)(kt:TypeId)(k:Value)(es:List MapEntry):Option (Option (Nat × Value)):=
 aj (C.P.underlying kt) fun d=>guard (agR C.P d k) (findKey C kt k es 0)
def QW (s:St)(r:Nat):Option (List MapEntry × Nat):=
 match s.heap.get r with
 |some (.map es c)=>some (es,c)
 |_=>none
def St.put (s:St)(r:Nat)(x:Row):St:={ heap:=s.heap.set r x,bG:=s.bG,next:=s.next }
def alM {α:Type}(f:α→α)(l:List α)(n:Nat):List α:=Nat.rec (fun l=>gG l [] (fun a t=>f a::t)) (fun _ ih l=>gG l [] (fun a t=>a::ih t)) n l
def agD (k v:Value)(e:MapEntry):MapEntry:={ key:=k,val:=v,born:=e.born }
def abo (k:Value)(e:MapEntry):MapEntry:={ key:=k,val:=e.val,born:=e.born }
def ZO (es:List MapEntry)(i:Nat):Nat:=Option.casesOn (nth es i) 0 (·.born)
def Nr (s:St)(m:Value)(k:Nat→List MapEntry→Nat→Option Res):Option Res:=
 match m with
 |.map (some r)=>aj (QW s r) fun q=>k r q.1 q.2
 |_=>none
def mapUpdate (C:Cfg)(s:St)(kt:TypeId)(m key val:Value):Option Res:=
 Nr s m fun r es c=>aj (agy C kt key es) fun q=>
  Option.casesOn q (ret unit (s.put r (.map (dG es [{ key:=key,val:=val,born:=c }]) (Nat.succ c)))) fun p=>guard (EU es p.1 key) (ret unit (s.put r (.map (alM (agD key val) es p.1) c)))
def Dj (P:Program)(t:TypeId):Option Value:=guard (ltN t P.types.size) ((P.info? t).bind (·.zero))
def mapEntry (C:Cfg)(s:St)(kt e:TypeId)(m key:Value):Option Res:=
 Nr s m fun r es c=>aj (agy C kt key es) fun q=>
  Option.casesOn q (aj (Dj C.P e) fun z=>ret (.tuple #[z,i64 c]) (s.put r (.map (dG es [{ key:=key,val:=z,born:=c }]) (Nat.succ c))))
   fun p=>guard (EU es p.1 key) (ret (.tuple #[p.2,i64 (ZO es p.1)]) (s.put r (.map (alM (abo key) es p.1) c)))
def lookup (C:Cfg)(s:St)(t:TypeId)(m key:Value)(ok:Bool):Option Res:=
 match C.P.underlying t with
 |some (.map kt e)=>
  aj (match m with
   |.map none=>agy C kt key []
   |.map (some r)=>aj (QW s r) fun q=>agy C kt key q.1
   |_=>none) fun q=>Option.casesOn q (aj (Dj C.P e) fun z=>ret (sel ok (.tuple #[z,.bool false]) z) s) fun p=>ret (sel ok (.tuple #[p.2,.bool true]) p.2) s
 |_=>none
def apg (P:Program)(t:TypeId):Option Nat:=
 match P.underlying t with
 |some (.array n _)=>some n
 |_=>none
def ala (P:Program)(s:St)(t:TypeId)(v:Value):Option Res:=
 match P.underlying t with
 |some .string=>match v with
  |.string b=>ret (i64 (aV b.data.toList)) s
  |_=>none
 |some (.slice _)=>match v with
  |.slice _ n _=>ret (i64 n) s
  |.float _ n=>ret (i64 n) s
  |.complex k lo hi=>guard (!BF k) (ret (.complex .f64 lo hi) s)
  |_=>none
 |some (.map _ _)=>match v with
  |.map none=>ret (i64 0) s
  |.map (some r)=>aj (QW s r) fun q=>ret (i64 (aV q.1)) s
  |_=>none
 |some (.array n _)=>ret (i64 n) s
 |some (.pointer a)=>aj (apg P a) fun n=>ret (i64 n) s
 |_=>none
def alN (P:Program)(s:St)(t:TypeId)(v:Value):Option Res:=
 match P.underlying t with
 |some (.slice _)=>match v with
  |.slice _ _ c=>guard (ltN c aQ) (ret (i64 c) s)
  |_=>none
 |_=>none
def aay (P:Program)(s:St)(t:TypeId)(d x:Value):Option Res:=
 match P.underlying t with
 |some (.slice e)=>match d with
  |.slice base dLen _=>aj (lenOf x) fun sl=>aj (size P e) fun sz=>aj (firstCells s sz (sel (Nat.ble sl dLen) sl dLen) x) fun new=>
    sel (Nat.beq (sel (Nat.ble sl dLen) sl dLen) 0) (ret (i64 0) s)
     (Option.casesOn base none fun a=>aj (storeCells s a.block a.off new) fun s=>ret (i64 (sel (Nat.ble sl dLen) sl dLen)) s)
  |_=>none
 |_=>none
def aa3 (P:Program)(s:St)(t:TypeId)(d:Value):Option Res:=
 guard (P.underlying t).isSome <| match d with
 |.slice base n _=>sel (Nat.beq n 0) (ret unit s) (Option.casesOn base (ret unit s) fun a=>
   match P.underlying t with
   |some (.slice e)=>aj (zero P e) fun z=>guard (Nat.ble 1 (aV z)) (aj (storeCells s a.block a.off (repeatL n z)) fun s=>ret unit s)
   |_=>none)
 |_=>none
def yP (mx:Bool)(s:St)(x y:Value):Option Res:=
 match x with
 |.int k a=>match y with
  |.int _ b=>ret (.int k (sel (sel mx (ltI a b) (ltI b a)) b a)) s
  |_=>none
 |_=>none
def wW (s:St)(x:Value):Option Res:=
 match x with
 |.slice none _ _=>ret (.pointer none) s
 |.slice (some a) _ c=>guard (a.spot.isNone && !Nat.beq a.block dN) (sel (ltN c aQ) (guard (Nat.ble 1 c) (ret (.pointer (some a)) s))
   (aj (s.cells a.block) fun d=>guard (Nat.beq c aA&&(!Nat.beq d.2.2 0&&Nat.ble 1 (aV d.1))) (ret (.pointer (some a)) s)))
 |_=>none
def killed (s:St)(b f:Nat):St:={ heap:=s.heap.set b .other,bG:=sel (Nat.beq f 0) s.bG (s.bG.set f []),next:=s.next }
def NP (P:Program)(s:St)(t:TypeId)(x y:Value):Option Res:=
 match x with
 |.pointer none=>match y with
  |.int .i64 n=>guard (eqI n 0) (ret (.string ⟨⟨[]⟩⟩) s)
  |_=>none
 |.pointer (some a)=>match y with
  |.int .i64 n=>aj (asNat (.int .i64 n)) fun n=>aj (s.cells a.block) fun c=>match P.underlying t with
   |some (.pointer e)=>guard (Nat.beq e c.2.1&&(Nat.ble 1 n&&(Nat.ble n 140737488355328&&Nat.ble ak a.block))) <| aj (size P e) fun k=>guard (Nat.beq k 1) <|
     aj (takeN n (eY a.off c.1)) fun l=>aj (bytesOf l) fun bs=>some (.val (.string ⟨⟨bs⟩⟩) (killed s a.block c.2.2))
   |_=>none
  |_=>none
 |_=>none
def builtin (C:Cfg)(s:St)(b:Builtin)(T T2:Option TypeId)(args:List Value):Option Res:=
 match args with
 |[x]=>match b with
  |.len=>aj T fun t=>ala C.P s t x
  |.cap=>aj T fun t=>alN C.P s t x
  |.clear=>aj T fun t=>aa3 C.P s t x
  |.unsafeSliceData=>wW s x
  |_=>none
 |[x,y]=>match b with
  |.append=>aj T fun t=>aj (append C.P s t T2 x y) xY
  |.copy=>aj T fun t=>aay C.P s t x y
  |.min=>yP false s x y
  |.max=>yP true s x y
  |.unsafeString=>aj T fun t=>NP C.P s t x y
  |_=>none
 |_=>none
def callMethod (C:Cfg)(s:St)(t:TypeId)(v:Value)(name:String)(args:List Value):Option Res:=
 aj (method C.P s t v name) fun q=>qL C s q.1 (q.2::args)
def Gf (C:Cfg)(s:St)(t:TypeId)(path:List FieldStep)(f:FuncId)(pr:Bool)(args:List Value):Option Res:=
 match args with
 |x::rest=>aj (follow C.P s path t (.val x)) fun r=>aj (receiver C.P s r.1 r.2 pr) fun v=>qL C s f (v::rest)
 |[]=>none
def callName (C:Cfg)(s:St)(name:String)(args:List Value):Option Res:=
 match args with
 |.iface t v::rest=>callMethod C s t v name rest
 |_=>none
def WT (C:Cfg)(s:St)(fn:Fn)(first captured args:List Value):Option Res:=
 match fn with
 |.func f=>qL C s f (dG first (dG args captured))
 |.yield l=>some (.yield l (dG first args) s)
 |.method name=>callName C s name (dG first args)
 |.methodOf _ _=>none
 |.via t path f pr=>Gf C s t path.toList f pr (dG first args)
def invoke (C:Cfg)(s:St)(f:Value)(args:List Value):Option Res:=
 match f with
 |.func fn first captured=>WT C s fn first.toList captured.toList args
 |_=>none
def Po (ev:Ev)(x:Option Operand)(k:Option Value→Option Res):Option Res:=
 Option.casesOn x (k none) fun x=>aj (ev x) fun v=>k (some v)
def evs (ev:Ev):List Operand→Option (List Value):=fun l=>List.rec (some []) (fun x _ ih=>aj (ev x) fun v=>aj ih fun r=>some (v::r)) l
def sS (ev:Ev):List (Nat × Operand)→Option (List (Nat × Value)):=fun l=>List.rec (some []) (fun x _ ih=>aj (ev x.2) fun v=>aj ih fun r=>some ((x.1,v)::r)) l
def vY (C:Cfg)(ev:Ev)(s:St)(x:Operand):Option Res:=aj (ev x) fun v=>ret v s
def UZ (C:Cfg)(ev:Ev)(s:St)(c a b:Operand):Option Res:=
 aj (ev c) fun v=>match v with
  |.bool c=>sel c (vY C ev s a) (vY C ev s b)
  |_=>none
def abA (C:Cfg)(s:St)(t:TypeId):Option Res:=aj (zero C.P t) fun z=>s.new (.row z t 0) fun id s=>ret (ptr id 0) s
def aiz (C:Cfg)(ev:Ev)(s:St)(t:TypeId)(x:Operand):Option Res:=aj (ev x) fun v=>s.new (.row (cellsOf v) t 0) fun id s=>ret (ptr id 0) s
def aiT (P:Program)(fs:List Field)(i:Nat):Option (Nat × Nat):=aj (nth fs i) fun f=>aj (size P f.type) fun n=>some (f.offset,n)
def Eu (n i:Nat):Option (Nat × Nat):=some (Nat.mul i n,n)
def aff (P:Program)(t:TypeId):Option (Nat→Option (Nat × Nat)):=
 match P.underlying t with
 |some (.struct fs)=>some (aiT P fs.toList)
 |some (.array _ e)=>aj (size P e) fun n=>some (Eu n)
 |_=>none
def Le (C:Cfg)(ev:Ev)(s:St)(t:TypeId)(parts:Array (Nat × Operand)):Option Res:=
 aj (aff C.P t) fun pl=>aj (sS ev parts.toList) fun ps=>aj (zero C.P t) fun z=>aj (fill pl ps z) fun l=>ret (zJ l) s
def lQ (C:Cfg)(ev:Ev)(s:St)(t:TypeId)(len:Nat)(parts:Array (Nat × Operand)):Option Res:=
 match C.P.underlying t with
 |some (.slice e)=>aj (size C.P e) fun n=>aj (zero C.P e) fun z=>guard (Nat.beq (aV z) n&&Nat.ble 1 n&&Nat.ble (Nat.mul len n) 16777216) <| aj (sS ev parts.toList) fun ps=>
   aj (fill (Eu n) ps (repeatL len z)) fun l=>s.new (.row l e 0) fun id s=>ret (.slice (some ⟨id,0,none⟩) len len) s
 |_=>none
def qP (ev:Ev)(a:Operand)(k:Addr→Option Res):Option Res:=
 aj (ev a) fun v=>match v with
  |.pointer (some a)=>k a
  |_=>none
def Vg (C:Cfg)(ev:Ev)(s:St)(t:TypeId)(a:Operand):Option Res:=
 qP ev a fun a=>aj (load C.P s t a.block a.off) fun v=>ret v s
def D5 (C:Cfg)(ev:Ev)(s:St)(t:TypeId)(a x:Operand):Option Res:=
 qP ev a fun a=>aj (ev x) fun v=>aj (store C.P s t a.block a.off (cellsOf v)) fun s=>ret unit s
def LZ (P:Program)(t:TypeId)(w:Value)(name:String):Bool:=
 match xB P t name with
 |none=>false
 |some m=>sel m.path.isEmpty (match m.func,P.underlying t,w with
  |some (_,true),_,_=>true
  |some (_,false),some (.pointer _),.pointer (some _)=>true
  |some (_,false),some (.pointer _),_=>false
  |some (_,false),some _,_=>true
  |_,_,_=>false) false
def Xn (C:Cfg)(fn:Fn)(first:List Value):Bool:=
 match fn with
 |.method name=>match first with
  |.iface t w::_=>LZ C.P t w name
  |_=>false
 |_=>true
def vX (C:Cfg)(ev:Ev)(s:St)(x:Operand):Option Res:=
 aj (ev x) fun v=>match v with
  |.pointer (some a)=>ret v s
  |.func fn first _=>guard (Xn C fn first.toList) (ret v s)
  |.iface _ _=>ret v s
  |_=>none
def ah3 (C:Cfg)(ev:Ev)(s:St)(op:BinOp)(t:TypeId)(x y:Operand):Option Res:=
 aj (ev x) fun a=>aj (ev y) fun b=>guard (ni C t x y a b) (aj (binOp C t op a b) fun v=>ret v s)
def oUn (C:Cfg)(ev:Ev)(s:St)(op:UnOp)(x:Operand):Option Res:=
 aj (ev x) fun x=>aj (unOp op x) fun v=>ret v s
def abR (l:List (Nat × Nat × Nat × Nat))(e n o u:Nat):Bool:=List.rec false (fun p _ ih=>sel (Nat.beq p.1 e&&(Nat.beq p.2.1 n&&(Nat.beq p.2.2.1 o&&Nat.beq p.2.2.2 u))) true ih) l
def ptrTo (C:Cfg)(src:TypeId)(o:Nat)(c:List Value × TypeId × Nat)(x:Value):Option Value:=
 match C.P.underlying src with
 |some (.pointer t)=>aj (size C.P t) fun n=>guard (Nat.ble 1 n&&ltN o (aV c.1)) (some x)
 |_=>none
def ZB (C:Cfg)(src u:TypeId)(o:Nat)(c:List Value × TypeId × Nat)(x:Value):Option Value:=
 match C.P.underlying src with
 |some .unsafePointer=>guard (abR C.lies c.2.1 (aV c.1) o u&&(C.P.info? u).isSome) (some x)
 |_=>none
def zB (C:Cfg)(s:St)(src dst:TypeId)(x:Value):Option Value:=
 match x with
 |.pointer (some a)=>aj (s.cells a.block) fun c=>guard (Nat.beq c.2.2 0) (match C.P.underlying dst with
  |some .unsafePointer=>ptrTo C src a.off c x
  |some (.pointer u)=>ZB C src u a.off c x
  |_=>none)
 |_=>none
def fV (C:Cfg)(ev:Ev)(s:St)(src dst:TypeId)(x:Operand):Option Res:=
 aj (ev x) fun x=>Option.casesOn (zB C s src dst x) (aj (convert C.P s src dst x) xY) fun v=>ret v s
def QT (C:Cfg)(ev:Ev)(s:St)(t:TypeId)(x:Operand):Option Res:=
 guard (!isIface C.P t&&(C.P.underlying t).isSome) (aj (ev x) fun x=>ret (.iface t x) s)
def F5 (fn:Fn):Bool:=
 match fn with
 |.yield _=>false
 |_=>true
def abL (C:Cfg)(ev:Ev)(s:St)(fn:Fn)(first captured:Array Operand):Option Res:=
 guard (F5 fn) <| aj (evs ev first.toList) fun a=>aj (evs ev captured.toList) fun b=>ret (.func fn ⟨a⟩ ⟨b⟩) s
def isMap (P:Program)(t:TypeId):Bool:=
 match P.underlying t with
 |some (.map _ _)=>true
 |_=>false
def AY (C:Cfg)(ev:Ev)(s:St)(t:TypeId)(r:Option Operand):Option Res:=
 Option.casesOn r (s.new (.map [] 0) fun id s=>ret (.map (some id)) s) fun x=>guard (isMap C.P t) <| aj (ev x) fun v=>aj (asNat v) fun _=>s.new (.map [] 0) fun id s=>ret (.map (some id)) s
def kF (C:Cfg)(ev:Ev)(s:St)(t:TypeId)(l c:Operand):Option Res:=
 match C.P.underlying t with
 |some (.slice e)=>aj (ev l) fun l=>aj (asNat l) fun l=>aj (ev c) fun c=>aj (asNat c) fun c=>aj (C.P.info? e) fun i=>aj (zero C.P e) fun z=>
   guard (Nat.beq (aV z) i.size&&Nat.ble 1 i.size&&Nat.ble l c&&Nat.ble c 100000&&Nat.ble (Nat.mul i.bytes c) 281474976710656) (s.new (.row (repeatL c z) e 0) fun id s=>ret (.slice (some ⟨id,0,none⟩) l c) s)
 |_=>none
def DU (C:Cfg)(ev:Ev)(s:St)(t:TypeId)(x:Operand)(lo hi mx:Option Operand):Option Res:=
 aj (ev x) fun x=>Po ev lo fun lo=>Po ev hi fun hi=>Po ev mx fun mx=>aj (xU C.P s t x lo hi mx) xY
def sD (C:Cfg)(ev:Ev)(s:St)(t:TypeId)(x:Operand)(i:Nat):Option Res:=
 qP ev x fun a=>aj (fieldInfo C.P t i) fun f=>aj (size C.P f.type) fun n=>guard (!Nat.beq n 0) (ret (ptr a.block (Nat.add a.off f.offset)) s)
def PN (C:Cfg)(ev:Ev)(s:St)(t:TypeId)(x:Operand)(i:Nat):Option Res:=
 aj (ev x) fun x=>match x with
  |.agg cs=>aj (fieldInfo C.P t i) fun f=>aj (part C.P f.type cs.toList f.offset) fun v=>ret v s
  |_=>none
def zx (C:Cfg)(s:St)(e:TypeId)(len i:Nat)(a:Addr):Option Res:=
 guard (ltN i len) (aj (size C.P e) fun n=>ret (ptr a.block (Nat.add a.off (Nat.mul i n))) s)
def iU (C:Cfg)(ev:Ev)(s:St)(t:TypeId)(x i:Operand):Option Res:=
 aj (ev x) fun x=>aj (ev i) fun i=>aj (asNat i) fun i=>match C.P.underlying t with
  |some (.slice e)=>match x with
   |.slice (some a) len _=>zx C s e len i a
   |_=>none
  |some (.array len e)=>match x with
   |.pointer (some a)=>zx C s e len i a
   |_=>none
  |_=>none
def Ji (C:Cfg)(ev:Ev)(s:St)(t:TypeId)(x i:Operand):Option Res:=
 aj (ev x) fun x=>aj (ev i) fun i=>aj (asNat i) fun i=>match x with
  |.agg cs=>match C.P.underlying t with
   |some (.array len e)=>guard (ltN i len) (aj (size C.P e) fun n=>aj (part C.P e cs.toList (Nat.mul i n)) fun v=>ret v s)
   |_=>none
  |.string b=>match C.P.underlying t with
   |some .string=>aj (nth b.data.toList i) fun c=>ret (.int .u8 (Int.ofNat c.toNat)) s
   |_=>none
  |_=>none
def Je (C:Cfg)(ev:Ev)(s:St)(t:TypeId)(m k:Operand)(ok:Bool):Option Res:=
 aj (ev m) fun m=>aj (ev k) fun k=>lookup C s t m k ok
def qQ (C:Cfg)(ev:Ev)(s:St)(t:TypeId)(m k x:Operand):Option Res:=
 match C.P.underlying t with
 |some (.map kt _)=>aj (ev m) fun m=>aj (ev k) fun k=>aj (ev x) fun x=>mapUpdate C s kt m k x
 |_=>none
def Ld (C:Cfg)(ev:Ev)(s:St)(t:TypeId)(m k:Operand):Option Res:=
 match C.P.underlying t with
 |some (.map kt e)=>aj (ev m) fun m=>aj (ev k) fun k=>mapEntry C s kt e m k
 |_=>none
def adJ.am8 (o:adJ):Option Tj:=
 match o with
 |.loop _=>none
 |.iter r=>some r
def OH (s:St)(l:Nat):Option Tj:=
 match s.heap.get l with
 |some (.loop r)=>r.am8
 |_=>none
def FB (s:St)(m:Nat):Option (List MapEntry × Nat):=
 match s.heap.get m with
 |some (.map es c)=>some (es,c)
 |_=>none
def leftOf (seen:List Nat):List MapEntry→List MapEntry:=fun l=>List.rec [] (fun e _ ih=>sel (qX e.born seen) ih (e::ih)) l
def TD (k:Nat):List MapEntry→Bool:=fun l=>List.rec true (fun e _ ih=>sel (Nat.ble k e.born) ih false) l
def Wp {α:Type}(l:List α):Bool:=gG l true fun _ _=>false
def aii:List Nat→Option Nat:=fun l=>List.rec none (fun a _ ih=>Option.casesOn ih (some a) some) l
def Gn (k:Nat):List MapEntry→Option MapEntry:=fun l=>List.rec none (fun e _ ih=>sel (Nat.beq e.born k) (some e) ih) l
def J9 (C:Cfg)(ev:Ev)(s:St)(t:TypeId)(x:Operand):Option Res:=
 guard (isMap C.P t) <| aj (ev x) fun v=>match v with
  |.map (some m)=>aj (FB s m) fun q=>s.new (.loop (.iter { map:=m,since:=q.2,seen:=[],stepped:=q.2 })) fun id s=>ret (ptr id 0) s
  |_=>none
def VH (s:St)(b:Nat)(r:Tj)(q:List MapEntry × Nat):Option Res:=
 guard (Wp r.seen||Wp q.1 || !TD r.stepped q.1) <| gG (leftOf r.seen q.1) (ret (.tuple ⟨[.bool false]⟩) s) fun e rest=>
  guard (Wp rest&&ltN e.born r.since) (ret (.tuple ⟨[.bool true,e.key,e.val]⟩) { heap:=s.heap.set b (.loop (.iter { map:=r.map,since:=r.since,seen:=dG r.seen [e.born],stepped:=q.2 })),bG:=s.bG,next:=s.next })
def Xt (C:Cfg)(ev:Ev)(s:St)(x:Operand)(str:Bool):Option Res:=
 guard (!str) <| aj (ev x) fun v=>match v with
  |.pointer (some a)=>guard (Nat.beq a.off 0) <| aj (OH s a.block) fun r=>aj (FB s r.map) fun q=>VH s a.block r q
  |_=>none
def oG (C:Cfg)(ev:Ev)(s:St)(x:Operand):Option Res:=
 aj (ev x) fun v=>match v with
  |.pointer (some a)=>guard (Nat.beq a.off 0) <| aj (OH s a.block) fun r=>aj (aii r.seen) fun k=>aj (FB s r.map) fun q=>guard (Nat.beq q.2 r.stepped) <| aj (Gn k q.1) fun e=>ret (.tuple ⟨[e.key,e.val]⟩) s
  |_=>none
def oz (C:Cfg)(s:St)(asserted:TypeId)(ok:Bool):Option Res:=
 guard ok (aj (Dj C.P asserted) fun z=>ret (.tuple #[z,.bool false]) s)
def xI (s:St)(v:Value)(ok:Bool):Option Res:=ret (sel ok (.tuple #[v,.bool true]) v) s
def F8 (C:Cfg)(ev:Ev)(s:St)(x:Operand)(asserted:TypeId)(ok:Bool):Option Res:=
 guard (C.P.underlying asserted).isSome <| aj (ev x) fun x=>match x with
  |.nilIface=>oz C s asserted ok
  |.iface t y=>sel (isIface C.P asserted) (guard (C.P.info? t).isSome <| sel (missing C.P asserted t) (oz C s asserted ok) (xI s x ok))
    (sel (Nat.beq t asserted) (xI s y ok) (oz C s asserted ok))
  |_=>none
def Ar (C:Cfg)(ev:Ev)(s:St)(x:Operand)(i:Nat):Option Res:=
 aj (ev x) fun x=>match x with
  |.tuple vs=>aj (nth vs.toList i) fun v=>ret v s
  |_=>none
def wE (C:Cfg)(ev:Ev)(s:St)(c:Call):Option Res:=
 aj (evs ev c.args.toList) fun args=>match c.callee with
  |.builtin b=>builtin C s b (nth c.argTypes.toList 0) (nth c.argTypes.toList 1) args
  |.value f=>aj (ev f) fun f=>invoke C s f args
  |.invoke r name=>aj (ev r) fun r=>callName C s name (r::args)
def Eb (C:Cfg)(ev:Ev)(s:St)(c:Call):Option Res:=
 match c.callee with
 |.value f=>aj (ev f) fun f=>match f with
  |.func (.func f) first captured=>aj (evs ev c.args.toList) fun args=>some (.defer f (dG first.toList (dG args captured.toList)) s)
  |_=>none
 |_=>none
def akP (C:Cfg)(ev:Ev)(s:St)(arr:TypeId)(x:Operand):Option Res:=
 aj (ev x) fun x=>match C.P.underlying arr,x with
  |some (.array n _),.slice a len _=>guard (Nat.ble 1 n&&Nat.ble n len) (ret (.pointer a) s)
  |_,_=>none
def execOp (C:Cfg)(ev:Ev)(s:St)(o:Op):Option Res:=
 match o with
 |.move x=>vY C ev s x
 |.assign x=>vY C ev s x
 |.pick c a b=>UZ C ev s c a b
 |.alloc t=>abA C s t
 |.box t x=>aiz C ev s t x
 |.build t parts=>Le C ev s t parts
 |.buildSlice t len parts=>lQ C ev s t len parts
 |.load t a=>Vg C ev s t a
 |.store t a x=>D5 C ev s t a x
 |.nilCheck x=>vX C ev s x
 |.binOp op t x y _=>ah3 C ev s op t x y
 |.unOp op _ x=>oUn C ev s op x
 |.convert src dst x=>fV C ev s src dst x
 |.makeInterface t x=>QT C ev s t x
 |.makeFunc fn first captured=>abL C ev s fn first captured
 |.makeMap t r=>AY C ev s t r
 |.makeSlice t l c=>kF C ev s t l c
 |.slice t x lo hi mx=>DU C ev s t x lo hi mx
 |.fieldAddr t x f=>sD C ev s t x f
 |.field t x f=>PN C ev s t x f
 |.indexAddr t x i=>iU C ev s t x i
 |.index t x i=>Ji C ev s t x i
 |.lookup t m k ok=>Je C ev s t m k ok
 |.mapUpdate t m k x=>qQ C ev s t m k x
 |.insert t m k x=>qQ C ev s t m k x
 |.mapEntry t m k=>Ld C ev s t m k
 |.range t x=>J9 C ev s t x
 |.next x str=>Xt C ev s x str
 |.entry x=>oG C ev s x
 |.typeAssert x _ asserted ok=>F8 C ev s x asserted ok
 |.extract x i=>Ar C ev s x i
 |.call c=>wE C ev s c
 |.defer c=>Eb C ev s c
 |.sliceToArrayPointer arr x=>akP C ev s arr x
 |_=>none
def jW (t:Nat):List (Nat × Value)→Option Value:=fun l=>List.rec none (fun p _ ih=>sel (Nat.beq p.1 t) (some p.2) ih) l
def Fr.ev (n:Nat)(fr:Fr)(x:Operand):Option Value:=
 match x with
 |.tmp t=>sel (ltN t n) (fr.vars.get t) (jW t fr.loc)
 |.const v=>some v
 |.global g=>some (ptr g 0)
 |.func f=>some (.func (.func f) #[] #[])
def Fr.put (n:Nat)(fr:Fr)(dst:Option Tmp)(v:Value):Fr:=
 Option.casesOn dst fr fun d=>sel (ltN d n) { vars:=fr.vars.set d v,loc:=fr.loc,defers:=fr.defers } { vars:=fr.vars,loc:=(d,v)::fr.loc,defers:=fr.defers }
def Fr.fresh (fr:Fr):Fr:={ vars:=fr.vars,loc:=[],defers:=fr.defers }
def isBool (w:Bool)(v:Value):Bool:=
 match v with
 |.bool b=>b == w
 |_=>false
def gV (n:Nat)(ops:List Oper)(fr:Fr)(g:Option (Nat × Bool)):Option Bool:=
 Option.casesOn g (some true) fun g=>aj (nth ops g.1) fun o=>aj o.dst fun d=>aj (Fr.ev n fr (.tmp d)) fun v=>some (isBool g.2 v)
abbrev dQ:=FuncId→List Value→St→Option (Value × St)
abbrev cZ:=Nat→List Value→St→Option (Value × St)
abbrev Vo:=Fr→St→Option (Fr × St)
def lX (call:dQ)(yield:cZ)(rd:Bool)(n:Nat)(fr:Fr)(dst:Option Tmp)(k:Vo)(r:Res):Option (Fr × St):=
 match r with
 |.val v s=>k (fr.put n dst v) s
 |.call f args s=>aj (call f args s) fun q=>k (fr.put n dst q.1) q.2
 |.yield l args s=>aj (yield l args s) fun q=>k (fr.put n dst q.1) q.2
 |.defer f args s=>sel rd none (k (Fr.put n { vars:=fr.vars,loc:=fr.loc,defers:=(f,args)::fr.defers } dst unit) s)
def aea (C:Cfg)(call:dQ)(yield:cZ)(rd:Bool)(n:Nat)(all:List Oper)(o:Oper)(k:Vo)(fr:Fr)(s:St):Option (Fr × St):=
 aj (gV n all fr o.guard) fun g=>sel g (aj (execOp C (fr.ev n) s o.op) (lX call yield rd n fr o.dst k)) (k (fr.put n o.dst unit) s)
def lT (C:Cfg)(call:dQ)(yield:cZ)(rd:Bool)(n:Nat)(all:List Oper)(ops:List Oper):Vo:=
 List.rec (fun fr s=>some (fr,s)) (fun o _ ih=>aea C call yield rd n all o ih) ops
def ab9 (f:Value→Bool):List Value→Bool:=fun l=>List.rec true (fun a _ ih=>sel (f a) ih false) l
def Xg (f:Value→Bool)(v:Value):Bool:=
 match v with
 |.bool _|.int _ _|.string _|.nilFunc|.nilIface=>true
 |.pointer a=>a.isNone
 |.slice a _ _=>a.isNone
 |.map a=>a.isNone
 |.iface _ v=>f v
 |.agg ⟨l⟩=>ab9 f l
 |.tuple ⟨l⟩=>ab9 f l
 |.func (.func _) ⟨a⟩ ⟨b⟩=>ab9 f a&&ab9 f b
 |_=>false
def Rq:Nat→Value→Bool:=fun n=>Nat.rec (fun _=>false) (fun _ ih=>Xg ih) n
def DN (x:Operand):Bool:=
 match x with
 |.const v=>Rq 5 v
 |.global g=>ltN g bg
 |_=>true
def GV:List Operand→Bool:=fun l=>List.rec true (fun a _ ih=>sel (DN a) ih false) l
def Pn (nt:Nat)(d:Option Tmp):Bool:=Option.casesOn d true fun d=>ltN d nt
def cls (o:Op):Nat:=
 match o with
 |.move _|.assign _|.pick ..|.build ..|.field ..|.fieldAddr ..|.indexAddr ..|.index ..|.binOp ..|.unOp ..|.makeInterface ..|.makeFunc ..|.nilCheck _|.typeAssert ..|.extract ..|.sliceToArrayPointer ..=>0
 |.load ..|.lookup ..|.slice ..|.convert ..=>1
 |.alloc _|.box ..|.buildSlice ..|.makeSlice ..=>2
 |.call c=>match c.callee with
  |.builtin b=>match b with
   |.len|.cap|.min|.max=>1
   |_=>3
  |_=>3
 |_=>3
def afc (x:Option Operand)(l:List Operand):List Operand:=Option.casesOn x l fun x=>x::l
def dA (o:Op):List Operand:=
 match o with
 |.move x|.assign x|.nilCheck x=>[x]
 |.pick c a b=>[c,a,b]
 |.box _ x=>[x]
 |.build _ parts=>qB (fun p=>p.2) parts.toList
 |.buildSlice _ _ parts=>qB (fun p=>p.2) parts.toList
 |.load _ a=>[a]
 |.store _ a x=>[a,x]
 |.binOp _ _ x y _=>[x,y]
 |.unOp _ _ x=>[x]
 |.convert _ _ x=>[x]
 |.makeInterface _ x=>[x]
 |.makeFunc _ a b=>dG a.toList b.toList
 |.makeMap _ r=>afc r []
 |.makeSlice _ l c=>[l,c]
 |.slice _ x lo hi mx=>x::afc lo (afc hi (afc mx []))
 |.fieldAddr _ x _|.field _ x _=>[x]
 |.indexAddr _ x i|.index _ x i=>[x,i]
 |.lookup _ m k _=>[m,k]
 |.mapUpdate _ m k x=>[m,k,x]
 |.insert _ m k x=>[m,k,x]
 |.mapEntry _ m k=>[m,k]
 |.range _ x|.next x _|.entry x=>[x]
 |.typeAssert x _ _ _=>[x]
 |.extract x _=>[x]
 |.call c|.defer c=>match c.callee with
  |.builtin _=>c.args.toList
  |.value f=>f::c.args.toList
  |.invoke r _=>r::c.args.toList
 |.sliceToArrayPointer _ x=>[x]
 |_=>[]
def Ej (nt:Nat)(o:Oper):Bool:=Pn nt o.dst&&GV (dA o.op)
def nG (nt:Nat):List Oper→Bool:=fun l=>List.rec true (fun a _ ih=>sel (Ej nt a) ih false) l
def Et (nt:Nat):List Nat→Bool:=fun l=>List.rec true (fun a _ ih=>sel (ltN a nt) ih false) l
def lJ (nt:Nat)(c:Code):Bool:=
 Code.rec (motive:=fun _=>Bool) true (fun _ ops _=>nG nt ops.toList) (fun _ _ a b=>sel a b false) (fun c _ _ a b=>sel (DN c) (sel a b false) false) (fun _ _ a=>a) (fun _ a=>a)
  (fun f ps _ _ a b=>sel (DN f&&Et nt ps.toList) (sel a b false) false) (fun _=>true) (fun _ a=>a) (fun _=>true) (fun _=>true) true (fun _=>true) c
def Kq (e:Edge):Bool:=
 match e.ground with
 |.textOnly _=>false
 |.gcOnly _=>false
 |_=>true
def dw (m j:Nat):Bool:=Nat.beq (Nat.mod (Nat.div m (Nat.pow 2 j)) 2) 1
def y8 (m j:Nat):Nat:=Nat.lor m (Nat.pow 2 j)
def aie (l:List Nat)(i:Nat):Nat:=Option.casesOn (nth l i) 0 id
def vS (acc:List Nat):List Edge→Nat:=fun l=>
 List.rec 0 (fun e _ m=>sel (Kq e) (Nat.lor (y8 m e.on) (aie acc e.on)) m) l
def Ai (i:Nat):List Edge→Bool:=fun l=>List.rec true (fun e _ ih=>sel (Kq e) (sel (Nat.ble (Nat.succ e.on) i) ih false) ih) l
def PO (x:Operand)(m:Nat):Nat:=
 match x with
 |.tmp t=>y8 m t
 |_=>m
def CY (m:Nat):List Operand→Nat:=fun l=>List.rec m (fun x _ ih=>PO x ih) l
def yV (d:Option Tmp):Nat:=Option.casesOn d 0 fun t=>y8 0 t
def Jf (all:List Oper)(g:Option (Nat × Bool)):Nat:=Option.casesOn g 0 fun g=>Option.casesOn (nth all g.1) 0 fun o=>yV o.dst
structure Info where
 i:Nat
 op:Oper
 mask:Nat
 cls:Nat
 dst:Nat
 names:Nat
def afd (all:List Oper)(i m:Nat)(o:Oper):Info:={ i:=i,op:=o,mask:=m,cls:=cls o.op,dst:=yV o.dst,names:=Nat.lor (CY (yV o.dst) (dA o.op)) (Jf all o.guard) }
def VJ (all:List Oper):List Oper→Nat→List Nat→Option (List Info):=fun l=>
 List.rec (fun _ _=>some []) (fun o _ ih i acc=>guard (Ai i o.after.toList) (aj (ih (Nat.succ i) (dG acc [vS acc o.after.toList])) fun r=>some (afd all i (vS acc o.after.toList) o::r))) l
def infos (all:List Oper):Option (List Info):=VJ all all 0 []
def aly (a b:Nat):Bool:=Nat.beq (Nat.land a b) 0
def ordered (a b:Info):Bool:=!(aly a.dst b.names&&aly b.dst a.names)||(Nat.ble 2 a.cls&&Nat.beq (Nat.mod b.cls 2) 1)
def La (a b:Info):Bool:=sel (ordered a b) (dw b.mask a.i) true
def Vd:List Info→Bool:=fun l=>List.rec true (fun a t ih=>sel (List.rec true (fun b _ q=>sel (La a b) q false) t) ih false) l
def ZY:List Info→Nat→Bool:=fun l=>List.rec (fun _=>true) (fun a _ ih m=>sel (dw m a.i) false (ih (y8 m a.i))) l
def loud (i:Nat)(a:Info):Info:=sel (Nat.ble 1000 i) { i:=a.i,op:=a.op,mask:=a.mask,cls:=3,dst:=a.dst,names:=a.names } a
def UO (l:List Info):List Nat→Option (List Info):=fun p=>List.rec (some []) (fun i _ ih=>aj (nth l (Nat.mod i 1000)) fun a=>aj ih fun r=>some (loud i a::r)) p
def bitsOf:List Info→Nat→Nat:=fun l=>List.rec (fun m=>m) (fun a _ ih m=>ih (y8 m a.i)) l
def covers (m n:Nat):Bool:=Nat.rec true (fun k ih=>sel (dw m k) ih false) n
def Em (all:List Oper)(order:List Nat):Option (List Info):=
 aj (infos all) fun l=>aj (UO l order) fun r=>guard (ZY r 0&&covers (bitsOf r 0) (aV all)&&Vd r) (some r)
def aOp (C:Cfg)(ev:Ev)(o:Op):Option (Row × (Nat→Value)):=
 match o with
 |.alloc t=>aj (zero C.P t) fun z=>some (.row z t 0,fun id=>ptr id 0)
 |.box t x=>aj (ev x) fun v=>some (.row (cellsOf v) t 0,fun id=>ptr id 0)
 |.buildSlice t len parts=>match C.P.underlying t with
  |some (.slice e)=>aj (size C.P e) fun n=>aj (zero C.P e) fun z=>guard (Nat.beq (aV z) n&&Nat.ble 1 n&&Nat.ble (Nat.mul len n) 16777216) <| aj (sS ev parts.toList) fun ps=>
    aj (fill (Eu n) ps (repeatL len z)) fun l=>some (.row l e 0,fun id=>.slice (some ⟨id,0,none⟩) len len)
  |_=>none
 |.makeSlice t l c=>match C.P.underlying t with
  |some (.slice e)=>aj (ev l) fun l=>aj (asNat l) fun l=>aj (ev c) fun c=>aj (asNat c) fun c=>aj (C.P.info? e) fun i=>aj (zero C.P e) fun z=>
    guard (Nat.beq (aV z) i.size&&Nat.ble 1 i.size&&Nat.ble l c&&Nat.ble c 100000&&Nat.ble (Nat.mul i.bytes c) 281474976710656) (some (.row (repeatL c z) e 0,fun id=>.slice (some ⟨id,0,none⟩) l c))
  |_=>none
 |_=>none
def jv (s:St)(v:Value):Bool:=
 match v with
 |.slice (some a) _ _=>ltN a.block s.next
 |_=>true
structure Tc where
 i:Nat
 op:Op
 fr:Fr
 v:Value
def IZ (C:Cfg)(n:Nat)(s:St)(p:Tc):Bool:=
 Option.casesOn (execOp C (p.fr.ev n) s p.op) false fun r=>match r with
  |.val v _=>jv s v&&jG 4 p.v v
  |_=>false
def oM (C:Cfg)(n:Nat)(s:St)(m:Nat):List Tc→Bool:=fun l=>List.rec true (fun p _ ih=>sel (dw m p.i||IZ C n s p) ih false) l
def ji (s:St)(base:Nat):List Info→Bool:=fun l=>List.rec true (fun a _ ih=>sel (Nat.beq a.cls 2) (sel (s.heap.get (Nat.add base a.i)).isNone ih false) ih) l
def oZ (C:Cfg)(r:Res):Bool:=
 match r with
 |.call f args _=>Option.casesOn (C.insert f) false fun t=>E8 t args
 |_=>false
def jU (o:Op):Bool:=
 match o with
 |.call c=>match c.callee with
  |.value _=>true
  |_=>false
 |_=>false
abbrev UH:=Bool→List Tc→Fr→St→Option (Fr × St)
def sV (C:Cfg)(call:dQ)(yield:cZ)(rd:Bool)(n:Nat)(base:Nat)(a:Info)(rest:List Info)(k:UH)(cl:Bool)(pend:List Tc)(fr:Fr)(r:Res):Option (Fr × St):=
 sel (cl&&(jU a.op.op&&oZ C r)) (lX call yield rd n fr a.op.dst (fun fr s=>guard (ji s base rest) (k true pend fr s)) r)
  (lX call yield rd n fr a.op.dst (fun fr s=>guard (oM C n s a.mask pend&&ji s base rest) (k false pend fr s)) r)
def yQ (C:Cfg)(call:dQ)(yield:cZ)(rd:Bool)(n:Nat)(all:List Oper)(base:Nat)(a:Info)(rest:List Info)(k:UH)(cl:Bool)(pend:List Tc)(fr:Fr)(s:St):Option (Fr × St):=
 aj (gV n all fr a.op.guard) fun g=>sel g
  (pO a.cls
   (aj (execOp C (fr.ev n) s a.op.op) fun r=>match r with
    |.val v _=>k cl pend (fr.put n a.op.dst v) s
    |_=>none)
   fun c1=>pO c1
    (aj (execOp C (fr.ev n) s a.op.op) fun r=>match r with
     |.val v _=>guard (jv s v) (k cl ({ i:=a.i,op:=a.op.op,fr:=fr,v:=v }::pend) (fr.put n a.op.dst v) s)
     |_=>none)
    fun c2=>pO c2
     (aj (aOp C (fr.ev n) a.op.op) fun q=>k false pend (fr.put n a.op.dst (q.2 (Nat.add base a.i))) { heap:=s.heap.set (Nat.add base a.i) q.1,bG:=s.bG,next:=s.next })
     fun _=>aj (execOp C (fr.ev n) s a.op.op) (sV C call yield rd n base a rest k cl pend fr))
  (k cl pend (fr.put n a.op.dst unit) s)
def IV (C:Cfg)(call:dQ)(yield:cZ)(rd:Bool)(n:Nat)(all:List Oper)(base:Nat)(l:List Info):UH:=
 List.rec (fun _ _ fr s=>some (fr,s)) (fun a rest ih=>yQ C call yield rd n all base a rest ih) l
def nU (C:Cfg)(call:dQ)(yield:cZ)(rd:Bool)(n:Nat)(all:List Oper)(order:List Nat)(fr:Fr)(s:St):Option (Fr × St):=
 aj (Em all order) fun l=>IV C call yield rd n all s.next l true [] fr { heap:=s.heap,bG:=s.bG,next:=Nat.add s.next (aV all) }
abbrev Out:=Option (Ex × Fr × St)
abbrev Run:=Fr→St→Out
def jP (k:Run)(r:Ex × Fr × St):Out:=
 match r.1 with
 |.normal=>k r.2.1 r.2.2
 |_=>some r
def iter (f:Run):Nat→Run:=fun n=>Nat.rec (fun _ _=>none) (fun _ ih fr s=>aj (f fr s) (jP ih)) n
def getLoop (s:St)(l:Nat):Option zD:=
 match s.heap.get l with
 |some (.loop r)=>r.akb
 |_=>none
def pq (s:St)(l:Nat)(r:zD)(state:LoopState)(pending:Option Code):St:=
 { heap:=s.heap.set l (.loop (.loop { state:=state,pending:=pending,fn:=r.fn,vars:=r.vars,params:=r.params,assign:=r.assign,body:=r.body,n:=r.n })),bG:=s.bG,next:=s.next }
def agp (x:LoopState):Bool:=
 match x with
 |.busy=>false
 |_=>true
def Cb (fr:Fr)(s:St)(l:Nat)(r:zD):Out:=
 guard (agp r.state) <| match r.pending with
 |none=>some (.normal,fr,pq s l r .exhausted r.pending)
 |some .ret=>some (.ret,fr,pq s l r .exhausted r.pending)
 |some (.exit id)=>some (.exit id,fr,pq s l r .exhausted r.pending)
 |some _=>none
def rangeCall (C:Cfg)(call:dQ)(fr:Fr)(l:Nat)(f:Value)(s:St):Out:=
 aj (invoke C s f [.func (.yield l) #[] #[]]) fun r=>match r with
  |.call g args s=>aj (call g args s) fun q=>aj (getLoop q.2 l) fun r=>Cb fr q.2 l r
  |_=>none
def rangeFunc (C:Cfg)(call:dQ)(n:Nat)(fn:FuncId)(inRound:Bool)(f:Operand)(params:Array Tmp)(assign body:Code)(fr:Fr)(s:St):Out:=
 sel inRound none <| aj (fr.ev n f) fun f=>s.new .other fun _ s=>
  s.new (.loop (.loop { state:=.ready,pending:=none,fn:=fn,vars:=fr.vars,params:=params.toList,assign:=assign,body:=body,n:=n })) fun l s=>rangeCall C call fr l f s
def uJ (a b:Run)(fr:Fr)(s:St)(v:Value):Out:=
 match v with
 |.bool c=>sel c (a fr s) (b fr s)
 |_=>none
def uj (id:Nat)(r:Ex × Fr × St):Out:=
 match r.1 with
 |.exit id'=>sel (Nat.beq id id') (some (.normal,r.2)) (some r)
 |_=>some r
def eU (c:Code):Nat:=
 Code.rec (motive:=fun _=>Nat) 0 (fun id _ _=>id) (fun _ _ a _=>a) (fun _ _ _ a _=>a) (fun _ _ a=>a) (fun _ a=>a) (fun _ _ _ _ a _=>a) (fun _=>0) (fun _ a=>a) (fun _=>0) (fun _=>0) 0 (fun _=>0) c
def nH (C:Cfg)(fn:FuncId)(rd:Bool)(body:Code)(it:Run)(fr:Fr)(s:St):Out:=
 sel rd (it fr s) (Option.casesOn (C.EK fn (eU body)) (it fr s) fun F=>Option.casesOn (F fr s).run (it fr s) some)
def exec (C:Cfg)(call:dQ)(yield:cZ)(n:Nat)(fn:FuncId)(inRound:Bool)(c:Code):Run:=
 Code.rec (motive:=fun _=>Run)
  (fun fr s=>some (.normal,fr,s))
  (fun id ops draw fr s=>aj (sel draw (nU C call yield inRound n ops.toList (C.order fn id) fr.fresh s) (lT C call yield inRound n ops.toList ops.toList fr.fresh s)) fun r=>some (.normal,r))
  (fun _ _ a b fr s=>aj (a fr s) (jP b))
  (fun c _ _ a b fr s=>aj (fr.ev n c) (uJ a b fr s))
  (fun id _ a fr s=>aj (a fr s) (uj id))
  (fun b a fr s=>nH C fn inRound b (iter a 100000) fr s)
  (fun f params assign body _ _ fr s=>rangeFunc C call n fn inRound f params assign body fr s)
  (fun id fr s=>some (.exit id,fr,s))
  (fun _ a fr s=>sel inRound none (a fr s))
  (fun _ fr s=>some (.normal,fr,s))
  (fun _ _ _=>none)
  (fun fr s=>some (.ret,fr,s))
  (fun _ _ _=>none) c
def Xa (P:Program)(n:Nat)(fr:Fr)(s:St)(r:ResultVar):Option Value:=
 match r with
 |.tmp t=>fr.ev n (.tmp t)
 |.cell a t=>aj (fr.ev n (.tmp a)) fun v=>match v with
  |.pointer (some a)=>load P s t a.block a.off
  |_=>none
def results (P:Program)(n:Nat)(fr:Fr)(s:St):List ResultVar→Option (List Value):=fun l=>
 List.rec (some []) (fun r _ ih=>aj (Xa P n fr s r) fun v=>aj ih fun vs=>some (v::vs)) l
def unwind (call:dQ):List (FuncId × List Value)→St→Option St:=fun l=>
 List.rec (fun s=>some s) (fun d _ ih s=>aj (call d.1 d.2 s) fun q=>ih q.2) l
def Dk (c:Code):Bool:=
 Code.rec (motive:=fun _=>Bool) true (fun _ _ _=>true) (fun _ _ a b=>sel a b false) (fun _ _ _ a b=>sel a b false) (fun _ _ a=>a) (fun _ a=>a) (fun _ _ _ _ _ _=>false) (fun _=>true) (fun _ a=>a) (fun _=>true) (fun _=>true) true (fun _=>true) c
def tuple (vs:List Value):Value:=
 match vs with
 |[v]=>v
 |vs=>.tuple ⟨vs⟩
def Nl (vs:List Value):Nat→Tr Value→Tr Value:=List.rec (fun _ t=>t) (fun v _ ih i t=>ih (Nat.succ i) (t.set i v)) vs
def Fz (ps:List Nat):List Value→Tr Value→Option (Tr Value):=
 List.rec (fun vs t=>gG vs (some t) (fun _ _=>none)) (fun p _ ih vs t=>gG vs none (fun v r=>ih r (t.set p v))) ps
def lY (args:List Value):Fr:={ vars:=Nl args 0 .e,loc:=[],defers:=[] }
def aaU (C:Cfg)(f:FuncId)(r:Ex × Fr × St):Option (Value × St):=
 match r.1 with
 |.exit _=>none
 |_=>gG r.2.1.defers (aj (results C.P (C.vars f) r.2.1 r.2.2 (C.results f)) fun vs=>some (tuple vs,r.2.2)) fun _ _=>none
def YJ (C:Cfg)(call:dQ)(yield:cZ)(f:FuncId)(args:List Value)(s:St):Option (Value × St):=
 aj (C.body f) fun c=>guard (Dk c) (aj (exec C call yield (C.vars f) f false c (lY args) s) (aaU C f))
def isRecover (o:Op):Bool:=
 match o with
 |.call c=>match c.callee with
  |.builtin b=>match b with
   |.recover=>match c.args.toList with
    |[]=>true
    |_=>false
   |_=>false
  |_=>false
 |_=>false
def Uk (C:Cfg)(n:Nat)(o:Oper)(k:Vo)(fr:Fr)(s:St):Option (Fr × St):=
 aj (execOp C (fr.ev n) s o.op) fun r=>match r with
  |.val v s=>k (fr.put n o.dst v) s
  |_=>none
def ap6 (C:Cfg)(n:Nat)(all:List Oper)(o:Oper)(k:Vo)(fr:Fr)(s:St):Option (Fr × St):=
 aj (gV n all fr o.guard) fun g=>sel g (sel (isRecover o.op) (k (fr.put n o.dst .nilIface) s) (Uk C n o k fr s)) (k (fr.put n o.dst unit) s)
def agF (C:Cfg)(n:Nat)(all:List Oper)(ops:List Oper):Vo:=
 List.rec (fun fr s=>some (fr,s)) (fun o _ ih=>ap6 C n all o ih) ops
def Xx (C:Cfg)(n:Nat)(c:Code):Run:=
 Code.rec (motive:=fun _=>Run)
  (fun fr s=>some (.normal,fr,s))
  (fun _ ops draw fr s=>sel draw none (aj (agF C n ops.toList ops.toList fr.fresh s) fun r=>some (.normal,r)))
  (fun _ _ a b fr s=>aj (a fr s) (jP b))
  (fun c _ _ a b fr s=>aj (fr.ev n c) (uJ a b fr s))
  (fun _ _ _ _ _=>none)
  (fun _ _ _ _=>none)
  (fun _ _ _ _ _ _ _ _=>none)
  (fun _ _ _=>none)
  (fun _ _ _ _=>none)
  (fun _ _ _=>none)
  (fun _ _ _=>none)
  (fun fr s=>some (.ret,fr,s))
  (fun _ _ _=>none) c
def aa1 (C:Cfg)(f:FuncId)(args:List Value)(s:St):Option (Value × St):=
 aj (C.body f) fun c=>aj (Xx C (C.vars f) c (lY args) s) (aaU C f)
def JW (C:Cfg)(call:dQ)(yield:cZ)(f:FuncId)(args:List Value)(s:St):Option (Value × St):=
 Option.casesOn (YJ C call yield f args s) (aa1 C f args s) some
def finish (C:Cfg)(dcall:dQ)(f:FuncId)(r:Ex × Fr × St):Option (Value × St):=
 match r.1 with
 |.exit _=>none
 |_=>aj (unwind dcall r.2.1.defers r.2.2) fun s=>aj (results C.P (C.vars f) r.2.1 s (C.results f)) fun vs=>some (tuple vs,s)
def iG (C:Cfg)(call:dQ)(yield:cZ)(f:FuncId)(args:List Value)(s:St):Option (Value × St):=
 aj (C.body f) fun c=>aj (exec C call yield (C.vars f) f false c (lY args) s) (finish C (JW C call yield) f)
def kS (C:Cfg)(call:dQ)(yield:cZ)(f:FuncId)(args:List Value)(s:St):Option (Value × St):=
 Option.casesOn (C.insert f) (iG C call yield f args s) fun t=>Option.casesOn (jM C t s args) (iG C call yield f args s) some
def endRound (l:Nat)(q:Ex × Fr × St):Option (Value × St):=
 gG q.2.1.defers (aj (getLoop q.2.2 l) fun r=>
  match q.1 with
  |.normal=>some (.bool true,pq q.2.2 l r .ready none)
  |.ret=>some (.bool false,pq q.2.2 l r .done (some .ret))
  |.exit id=>some (.bool false,pq q.2.2 l r .done (some (.exit id)))) fun _ _=>none
def aaP (C:Cfg)(call:dQ)(yield:cZ)(l:Nat)(r0:zD)(q:Ex × Fr × St):Option (Value × St):=
 match q.1 with
 |.normal=>aj (getLoop q.2.2 l) fun r=>match r.state with
  |.ready=>aj (exec C call yield r0.n r0.fn true r0.body q.2.1 (pq q.2.2 l r .busy r.pending)) (endRound l)
  |_=>none
 |_=>none
def mV (C:Cfg)(call:dQ)(yield:cZ)(l:Nat)(args:List Value)(s:St):Option (Value × St):=
 aj (getLoop s l) fun r=>aj (Fz r.params args r.vars) fun vars=>
  aj (exec C call yield r.n r.fn true r.assign { vars:=vars,loc:=[],defers:=[] } s) (aaP C call yield l r)
def runN (C:Cfg)(n:Nat):dQ × cZ:=
 Nat.rec (fun _ _ _=>none,fun _ _ _=>none) (fun _ ih=>(kS C ih.1 ih.2,mV C ih.1 ih.2)) n
end
end Go.Ax
namespace Go.Ax
open Go
def decode:Path→Nat
 |[]=>0
 |b::p=>(if b then 1 else 0)+2*decode p
theorem Yr (d k:Nat):adI (d+1) (k+1)=Nat.beq (Nat.mod (k+1) 2) 1::adI d (Nat.div (k+1) 2):=rfl
theorem DV (d:Nat):∀ k,k<d→decode (adI d k)=k:=by
 induction d with
 |zero=>intro k h;omega
 |succ d ih=>
  intro k h
  cases k with
  |zero=>rfl
  |succ k=>
   rw [Yr]
   have h2:Nat.div (k+1) 2<d:=by show (k+1)/2<d;omega
   simp only [decode,ih _ h2]
   show (if Nat.beq ((k+1)%2) 1=true then 1 else 0)+2*((k+1)/2)=k+1
   by_cases hm:(k+1)%2=1
   ·simp [hm];omega
   ·have h0:(k+1)%2=0:=by omega
    simp [h0];omega
theorem ac7 {j k:Nat}(h:path j=path k):j=k:=by
 rw [←DV (Nat.succ j) j (Nat.lt_succ_self j),←DV (Nat.succ k) k (Nat.lt_succ_self k)]
 exact congrArg decode h
section
variable {α:Type}
theorem VG (t:Tr α):Tr.Y3 [] t=t.val:=rfl
theorem zn (b:Bool)(p:Path)(v:Option α)(x y:Tr α):Tr.Y3 (b::p) (.n v x y)=Tr.Y3 p (if b then y else x):=by cases b <;> rfl
theorem ae5 (p:Path):Tr.Y3 p (.e:Tr α)=none:=by cases p <;> rfl
theorem WY (a:α)(t:Tr α):Tr.Y4 a [] t = .n (some a) t.left t.right:=by cases t <;> rfl
theorem Qm (a:α)(p:Path)(t:Tr α):Tr.Y4 a (true::p) t = .n t.val t.left (Tr.Y4 a p t.right):=by cases t <;> rfl
theorem Lr (a:α)(p:Path)(t:Tr α):Tr.Y4 a (false::p) t = .n t.val (Tr.Y4 a p t.left) t.right:=by cases t <;> rfl
theorem Qr (b:Bool)(p:Path)(t:Tr α):Tr.Y3 (b::p) t=Tr.Y3 p (if b then t.right else t.left):=by
 cases t with
 |e=>cases b <;> simp [Tr.left,Tr.right,ae5]
 |n v x y=>rw [zn];cases b <;> rfl
theorem ZR (a:α)(p:Path):∀ (q:Path) (t:Tr α),Tr.Y3 q (Tr.Y4 a p t)=if q=p then some a else Tr.Y3 q t:=by
 induction p with
 |nil=>
  intro q t
  cases q with
  |nil=>rw [WY];simp [VG,Tr.val]
  |cons b q=>rw [WY,zn,Qr];cases b <;> simp
 |cons c p ih=>
  intro q t
  cases q with
  |nil=>cases c <;> simp [Qm,Lr,VG,Tr.val]
  |cons b q=>
   rw [Qr b q t]
   cases c <;> cases b <;> simp [Qm,Lr,zn,ih]
theorem Tr.fG (t:Tr α)(k:Nat)(a:α)(j:Nat):(t.set k a).get j=if j=k then some a else t.get j:=by
 unfold Tr.get Tr.set
 rw [ZR]
 by_cases h:j=k
 ·simp [h]
 ·have:path j≠path k:=fun e=>h (ac7 e)
  simp [h,this]
theorem Tr.get_set_same (t:Tr α)(k:Nat)(a:α):(t.set k a).get k=some a:=by rw [Tr.fG];simp
theorem Tr.get_set_other (t:Tr α){k j:Nat}(a:α)(h:j≠k):(t.set k a).get j=t.get j:=by rw [Tr.fG];simp [h]
theorem Tr.ajz (k:Nat):(Tr.e:Tr α).get k=none:=ae5 _
end
section
variable {α:Type}
theorem Hp.rM (b lo k:Nat):(Hp.s b lo:Hp α).get k=none:=rfl
theorem Hp.MI (m:Nat)(x y:Hp α)(k:Nat):(Hp.n m x y).get k=if Nat.ble m k then y.get k else x.get k:=by
 show (Bool.rec (x.get k) (y.get k) (Nat.ble m k):Option α)=_
 cases Nat.ble m k <;> rfl
theorem Hp.MR (j:Nat)(v:α)(k:Nat):(Hp.l j v).get k=if j=k then some v else none:=by
 show (Bool.rec none (some v) (Nat.beq j k):Option α)=_
 cases h:Nat.beq j k with
 |true=>rw [if_pos (Nat.eq_of_beq_eq_true h)]
 |false=>rw [if_neg (fun e=>by rw [e,Nat.beq_refl] at h;cases h)]
theorem Hp.aes (k:Nat)(v:α)(b lo:Nat):Hp.one k v (b+1) lo=if Nat.ble (lo+2 ^ b) k then .n (lo+2 ^ b) (.s b lo) (Hp.one k v b (lo+2 ^ b)) else .n (lo+2 ^ b) (Hp.one k v b lo) (.s b (lo+2 ^ b)):=by
 show (Nat.rec (Bool.rec (.n 0 (Hp.one k v b lo) (.s b 0)) (.n 0 (.s b lo) (Hp.one k v b 0)) (Nat.ble 0 k))
  (fun m _=>Bool.rec (.n (Nat.succ m) (Hp.one k v b lo) (.s b (Nat.succ m))) (.n (Nat.succ m) (.s b lo) (Hp.one k v b (Nat.succ m))) (Nat.ble (Nat.succ m) k)) (lo+2 ^ b):Hp α)=_
 generalize lo+2 ^ b=q
 cases q with
 |zero=>cases Nat.ble 0 k <;> rfl
 |succ m=>
  show (Bool.rec (.n (Nat.succ m) (Hp.one k v b lo) (.s b (Nat.succ m))) (.n (Nat.succ m) (.s b lo) (Hp.one k v b (Nat.succ m))) (Nat.ble (Nat.succ m) k):Hp α)=_
  cases h:Nat.ble (Nat.succ m) k <;> rfl
theorem Hp.afk (k:Nat)(v:α)(j:Nat):∀ b lo,(Hp.one k v b lo).get j=if j=k then some v else none:=by
 intro b
 induction b with
 |zero=>intro lo;show (Hp.l k v).get j=_;rw [Hp.MR];by_cases h:j=k
        ·rw [if_pos h,if_pos h.symm]
        ·rw [if_neg h,if_neg fun e=>h e.symm]
 |succ b ih=>
  intro lo
  rw [Hp.aes]
  by_cases h:Nat.ble (lo+2 ^ b) k=true
  ·rw [if_pos h,Hp.MI,ih,Hp.rM]
   by_cases e:j=k
   ·subst e;rw [if_pos h]
   ·simp [e]
  ·rw [if_neg h,Hp.MI,ih,Hp.rM]
   by_cases e:j=k
   ·subst e;rw [if_neg h]
   ·simp [e]
theorem Hp.aoS (m:Nat)(x y:Hp α)(k:Nat)(v:α):(Hp.n m x y).set k v=if Nat.ble m k then .n m x (y.set k v) else .n m (x.set k v) y:=by
 show (Bool.rec (.n m (x.set k v) y) (.n m x (y.set k v)) (Nat.ble m k):Hp α)=_
 cases Nat.ble m k <;> rfl
theorem Hp.anN (j:Nat)(u:α)(k:Nat)(v:α):(Hp.l j u).set k v=if j=k then .l k v else if Nat.ble k j then .n j (.l k v) (.l j u) else .n k (.l j u) (.l k v):=by
 show (Bool.rec (Bool.rec (.n k (.l j u) (.l k v)) (.n j (.l k v) (.l j u)) (Nat.ble k j)) (.l k v) (Nat.beq j k):Hp α)=_
 cases h:Nat.beq j k with
 |true=>rw [if_pos (Nat.eq_of_beq_eq_true h)]
 |false=>
  rw [if_neg (fun e=>by rw [e,Nat.beq_refl] at h;cases h)]
  cases Nat.ble k j <;> rfl
theorem Hp.fG (t:Hp α)(k:Nat)(v:α)(j:Nat):(t.set k v).get j=if j=k then some v else t.get j:=by
 induction t with
 |s b lo=>show (Hp.one k v b lo).get j=_;rw [Hp.afk,Hp.rM]
 |l i u=>
  have hle:∀ {a b:Nat},Nat.ble a b=true↔a≤b:=⟨Nat.le_of_ble_eq_true,Nat.ble_eq_true_of_le⟩
  rw [Hp.anN]
  by_cases hik:i=k
  ·rw [if_pos hik,Hp.MR,Hp.MR]
   subst hik
   by_cases e:j=i
   ·simp [e]
   ·have e':¬i=j:=fun h=>e h.symm
    simp [e,e']
  ·rw [if_neg hik]
   by_cases hki:Nat.ble k i=true
   ·rw [if_pos hki,Hp.MI,Hp.MR,Hp.MR]
    have hki:=hle.1 hki
    by_cases e:j=k
    ·subst e
     have hn:¬Nat.ble i j=true:=fun h=>hik (Nat.le_antisymm (hle.1 h) hki)
     simp [hn]
    ·have e':¬k=j:=fun h=>e h.symm
     by_cases hij:i=j
     ·subst hij
      have:Nat.ble i i=true:=hle.2 (Nat.le_refl _)
      simp [this,e]
     ·simp [hij,e,e']
   ·rw [if_neg hki,Hp.MI,Hp.MR,Hp.MR]
    by_cases e:j=k
    ·subst e
     have:Nat.ble j j=true:=hle.2 (Nat.le_refl _)
     simp [this]
    ·have e':¬k=j:=fun h=>e h.symm
     by_cases hij:i=j
     ·subst hij
      simp [hki,e]
     ·simp [hij,e,e']
 |n m x y ihx ihy=>
  rw [Hp.aoS,Hp.MI]
  by_cases h:Nat.ble m k=true
  ·rw [if_pos h,Hp.MI,ihy]
   by_cases e:j=k
   ·subst e;rw [if_pos h,if_pos rfl,if_pos rfl]
   ·rw [if_neg e,if_neg e]
  ·rw [if_neg h,Hp.MI,ihx]
   by_cases e:j=k
   ·subst e;rw [if_neg h,if_pos rfl,if_pos rfl]
   ·rw [if_neg e,if_neg e]
theorem Hp.get_set_same (t:Hp α)(k:Nat)(a:α):(t.set k a).get k=some a:=by rw [Hp.fG];simp
theorem Hp.get_set_other (t:Hp α){k j:Nat}(a:α)(h:j≠k):(t.set k a).get j=t.get j:=by rw [Hp.fG];simp [h]
end
section
variable {α β:Type}
theorem dY (l:List α):∀ k,nth l k=l[k]?:=by
 induction l with
 |nil=>intro k;rfl
 |cons a t ih=>intro k;cases k with
  |zero=>rfl
  |succ k=>exact ih k
theorem iY (n:Nat):∀ l:List α,eY n l=l.drop n:=by
 induction n with
 |zero=>intro l;rfl
 |succ n ih=>intro l;cases l with
  |nil=>rfl
  |cons a t=>exact ih t
theorem lC (n:Nat):∀ l:List α,ng n l=l.take n:=by
 induction n with
 |zero=>intro l;rfl
 |succ n ih=>intro l;cases l with
  |nil=>rfl
  |cons a t=>show a::ng n t=_;rw [ih t];rfl
theorem aP (l:List α):aV l=l.length:=by
 induction l with
 |nil=>rfl
 |cons a t ih=>show Nat.succ (aV t)=_;rw [ih];rfl
theorem aX (l r:List α):dG l r=l++r:=by
 induction l with
 |nil=>rfl
 |cons a t ih=>show a::dG t r=_;rw [ih];rfl
theorem iV (f:α→β)(l:List α):qB f l=l.map f:=by
 induction l with
 |nil=>rfl
 |cons a t ih=>show f a::qB f t=_;rw [ih];rfl
theorem ah {x:Option α}{k:α→Option β}{b:β}:aj x k=some b↔∃ a,x=some a∧k a=some b:=by
 cases x with
 |none=>simp [aj]
 |some a=>simp [aj]
theorem au {b:Bool}{k:Option β}{r:β}:guard b k=some r↔b=true∧k=some r:=by cases b <;> simp [guard]
theorem aH (x y:α):sel true x y=x:=rfl
theorem aF (x y:α):sel false x y=y:=rfl
theorem aC (b:Bool)(x y:α):sel b x y=if b then x else y:=by cases b <;> rfl
theorem qp (n:Nat):∀ (l r:List Value),takeN n l=some r↔n≤l.length∧r=l.take n:=by
 induction n with
 |zero=>intro l r;show some []=some r↔_;simp [eq_comm]
 |succ n ih=>
  intro l r
  cases l with
  |nil=>show none=some r↔_;simp
  |cons a t=>
   show aj (takeN n t) (fun r=>some (a::r))=some r↔_
   rw [ah]
   constructor
   ·rintro ⟨q,hq,h⟩
    obtain ⟨h1,h2⟩:=(ih t q).1 hq
    cases h;subst h2
    exact ⟨by simpa using h1,rfl⟩
   ·rintro ⟨h1,h2⟩
    exact ⟨t.take n,(ih t _).2 ⟨by simpa using h1,rfl⟩,by rw [h2];rfl⟩
theorem V5 (n:Nat)(l:List Value):afL n l=takeN n l:=by
 unfold afL
 rw [aC]
 split
 ·rename_i h
  have h:=Nat.eq_of_beq_eq_true h
  rw [aP] at h
  exact ((qp n l l).2 ⟨by omega,by rw [h,List.take_length]⟩).symm
 ·rfl
theorem QS (b:List UInt8)(l h:Nat):sF b l h=guard (Nat.ble l h&&Nat.ble h (aV b)) (some (.string ⟨⟨ng (Nat.sub h l) (eY l b)⟩⟩)):=by
 unfold sF
 rw [aC]
 split
 ·rename_i hh
  have hh:=Nat.eq_of_beq_eq_true hh
  have:ng (Nat.sub h l) (eY l b)=eY l b:=by
   rw [aP] at hh
   rw [lC,iY]
   apply List.take_of_length_le
   rw [List.length_drop,hh]
   exact Nat.le_refl _
  rw [this]
 ·rfl
theorem ac8 (vs:List Value):∀ (l r:List Value),Uj vs l=some r↔vs.length≤l.length∧r=vs++l.drop vs.length:=by
 induction vs with
 |nil=>intro l r;show some l=some r↔_;simp;exact ⟨fun h=>h.symm,fun h=>h.symm⟩
 |cons v t ih=>
  intro l r
  cases l with
  |nil=>show none=some r↔_;simp
  |cons a l=>
   show aj (Uj t l) (fun r=>some (v::r))=some r↔_
   rw [ah]
   constructor
   ·rintro ⟨q,hq,h⟩
    obtain ⟨h1,h2⟩:=(ih l q).1 hq
    cases h;subst h2
    exact ⟨by simpa using h1,by simp⟩
   ·rintro ⟨h1,h2⟩
    exact ⟨t++l.drop t.length,(ih l _).2 ⟨by simpa using h1,rfl⟩,by rw [h2];simp⟩
theorem Gz (vs:List Value)(o:Nat):∀ (l r:List Value),splice vs o l=some r↔o+vs.length≤l.length∧r=l.take o++vs++l.drop (o+vs.length):=by
 induction o with
 |zero=>intro l r;show Uj vs l=some r↔_;rw [ac8];simp
 |succ o ih=>
  intro l r
  cases l with
  |nil=>show none=some r↔_;simp
  |cons a l=>
   show aj (splice vs o l) (fun r=>some (a::r))=some r↔_
   rw [ah]
   constructor
   ·rintro ⟨q,hq,h⟩
    obtain ⟨h1,h2⟩:=(ih l q).1 hq
    cases h;subst h2
    exact ⟨by simp;omega,by simp [Nat.succ_add]⟩
   ·rintro ⟨h1,h2⟩
    refine ⟨_,(ih l _).2 ⟨by simp at h1;omega,rfl⟩,?_⟩
    rw [h2];simp [Nat.succ_add]
end
end Go.Ax
namespace Go.Ax
open Go
structure Loc where
 blk:Nat
 off:Nat
 cap:Nat
abbrev Ren:=Nat→Option Loc
class Lo where
 lo:Nat→Loc
 fix:∀ i,i<bg→lo i=⟨i,0,0⟩
instance aor:Lo:=⟨fun i=>⟨i,0,0⟩,fun _ _=>rfl⟩
variable [Lo]
def Ren.at (ρ:Ren)(b:Nat):Option Loc:=if b<ak then some (Lo.lo b) else ρ b
def Ren.le (ρ ρ':Ren):Prop:=∀ i l,ρ i=some l→ρ' i=some l
theorem Ren.le_refl (ρ:Ren):ρ.le ρ:=fun _ _ h=>h
theorem Ren.le_trans {a b c:Ren}(h:a.le b)(k:b.le c):a.le c:=fun i l hi=>k i l (h i l hi)
theorem Ren.TK {ρ ρ':Ren}(h:ρ.le ρ'){b:Nat}{l:Loc}(hb:ρ.at b=some l):ρ'.at b=some l:=by
 unfold Ren.at at *
 split at hb
 ·rename_i hlt;simp [hlt];simpa using hb
 ·rename_i hlt;simp [hlt];exact h _ _ hb
def capOf (l:Loc)(c:Nat):Nat:=if aQ≤c then l.cap-(aA-c) else c
inductive FR (ρ:Ren):Fn→Fn→Prop
 |func (f:FuncId):FR ρ (.func f) (.func f)
 |method (n:String):FR ρ (.method n) (.method n)
 |methodOf (t:TypeId) (n:String):FR ρ (.methodOf t n) (.methodOf t n)
 |via (t:TypeId) (p:Array FieldStep) (f:FuncId) (b:Bool):FR ρ (.via t p f b) (.via t p f b)
 |yield {l:Nat} {q:Loc} (h:ρ l=some q):FR ρ (.yield l) (.yield q.blk)
mutual
inductive VR (ρ:Ren):Value→Value→Prop
 |bool (b:Bool):VR ρ (.bool b) (.bool b)
 |int (k:IntKind) (n:Int):VR ρ (.int k n) (.int k n)
 |string (s:ByteArray):VR ρ (.string s) (.string s)
 |kM:VR ρ (.pointer none) (.pointer none)
 |ptr {b o:Nat} {l:Loc} (h:ρ.at b=some l):VR ρ (.pointer (some ⟨b,o,none⟩)) (.pointer (some ⟨l.blk,l.off+o,none⟩))
 |bW (n c:Nat):VR ρ (.slice none n c) (.slice none n c)
 |slice {b o n c:Nat} {l:Loc} (h:ρ.at b=some l):VR ρ (.slice (some ⟨b,o,none⟩) n c) (.slice (some ⟨l.blk,l.off+o,none⟩) n (capOf l c))
 |dead (a:Addr) (c:Nat):VR ρ (.slice (some ⟨dN,0,none⟩) 0 aA) (.slice (some a) 0 c)
 |opq (a:Addr) (n c:Nat):VR ρ (.float .f64 n) (.slice (some a) n c)
 |acd (lo hi:Nat) (a:Addr) (n c:Nat) (h:lo≤n) (hh:hi=0∨n≤hi):VR ρ (.complex .f32 lo hi) (.slice (some a) n c)
 |rng (lo hi n:Nat) (h:lo≤n) (hh:hi=0∨n≤hi):VR ρ (.complex .f64 lo hi) (.int .i64 (n:Int))
 |tok (i:Nat) (k:IntKind) (n:Int):VR ρ (.chan (some i)) (.int k n)
 |oJ:VR ρ (.map none) (.map none)
 |map {r:Nat} {l:Loc} (h:ρ r=some l):VR ρ (.map (some r)) (.map (some l.blk))
 |func {f f':Fn} {a a' b b':List Value} (h:FR ρ f f') (ha:VRs ρ a a') (hb:VRs ρ b b'):VR ρ (.func f ⟨a⟩ ⟨b⟩) (.func f' ⟨a'⟩ ⟨b'⟩)
 |nilFunc:VR ρ .nilFunc .nilFunc
 |iface (t:TypeId) {v v':Value} (h:VR ρ v v'):VR ρ (.iface t v) (.iface t v')
 |nilIface:VR ρ .nilIface .nilIface
 |agg {a a':List Value} (h:VRs ρ a a'):VR ρ (.agg ⟨a⟩) (.agg ⟨a'⟩)
 |tuple {a a':List Value} (h:VRs ρ a a'):VR ρ (.tuple ⟨a⟩) (.tuple ⟨a'⟩)
inductive VRs (ρ:Ren):List Value→List Value→Prop
 |nil:VRs ρ [] []
 |cons {v v':Value} {l l':List Value} (h:VR ρ v v') (hl:VRs ρ l l'):VRs ρ (v::l) (v'::l')
end
theorem FR.mono {ρ ρ':Ren}(h:ρ.le ρ'){f f':Fn}(hf:FR ρ f f'):FR ρ' f f':=by
 cases hf with
 |func f=>exact .func f
 |method n=>exact .method n
 |methodOf t n=>exact .methodOf t n
 |via t p f b=>exact .via t p f b
 |yield hl=>exact .yield (h _ _ hl)
mutual
theorem VR.mono {ρ ρ':Ren}(h:ρ.le ρ'):∀ {v v':Value},VR ρ v v'→VR ρ' v v'
 |_,_,.bool b=>.bool b
 |_,_,.int k n=>.int k n
 |_,_,.string s=>.string s
 |_,_,.kM=>.kM
 |_,_,.ptr hl=>.ptr (Ren.TK h hl)
 |_,_,.bW n c=>.bW n c
 |_,_,.slice hl=>.slice (Ren.TK h hl)
 |_,_,.dead a c=>.dead a c
 |_,_,.opq a n c=>.opq a n c
 |_,_,.acd lo hi a n c h hh=>.acd lo hi a n c h hh
 |_,_,.rng lo hi n h hh=>.rng lo hi n h hh
 |_,_,.tok i k n=>.tok i k n
 |_,_,.oJ=>.oJ
 |_,_,.map hl=>.map (h _ _ hl)
 |_,_,.func hf ha hb=>.func (hf.mono h) (VRs.mono h ha) (VRs.mono h hb)
 |_,_,.nilFunc=>.nilFunc
 |_,_,.iface t hv=>.iface t (VR.mono h hv)
 |_,_,.nilIface=>.nilIface
 |_,_,.agg ha=>.agg (VRs.mono h ha)
 |_,_,.tuple ha=>.tuple (VRs.mono h ha)
theorem VRs.mono {ρ ρ':Ren}(h:ρ.le ρ'):∀ {l l':List Value},VRs ρ l l'→VRs ρ' l l'
 |_,_,.nil=>.nil
 |_,_,.cons hv hl=>.cons (VR.mono h hv) (VRs.mono h hl)
end
section lists
variable {ρ:Ren} {l l':List Value}
theorem VRs.length (h:VRs ρ l l'):l'.length=l.length:=by
 induction l generalizing l' with
 |nil=>cases h;rfl
 |cons a t ih=>cases h with|cons _ ht=>simp [ih ht]
theorem VRs.get {k:Nat}{v:Value}(h:VRs ρ l l')(hk:l[k]? = some v):∃ v',l'[k]? = some v'∧VR ρ v v':=by
 induction l generalizing l' k with
 |nil=>simp at hk
 |cons a t ih=>
  cases h with
  |cons hv ht=>
   cases k with
   |zero=>simp at hk;subst hk;exact ⟨_,rfl,hv⟩
   |succ k=>simp at hk;simpa using ih ht hk
theorem VRs.append {r r':List Value}(h:VRs ρ l l')(hr:VRs ρ r r'):VRs ρ (l++r) (l'++r'):=by
 induction l generalizing l' with
 |nil=>cases h;exact hr
 |cons a t ih=>cases h with|cons hv ht=>exact .cons hv (ih ht)
theorem VRs.take (n:Nat)(h:VRs ρ l l'):VRs ρ (l.take n) (l'.take n):=by
 induction l generalizing l' n with
 |nil=>cases h;simpa using VRs.nil
 |cons a t ih=>
  cases h with
  |cons hv ht=>cases n with
   |zero=>exact .nil
   |succ n=>exact .cons hv (ih n ht)
theorem VRs.drop (n:Nat)(h:VRs ρ l l'):VRs ρ (l.drop n) (l'.drop n):=by
 induction l generalizing l' n with
 |nil=>cases h;simpa using VRs.nil
 |cons a t ih=>
  cases h with
  |cons hv ht=>cases n with
   |zero=>exact .cons hv ht
   |succ n=>exact ih n ht
theorem VRs.Xe (hlen:l'.length=l.length)(h:∀ (k:Nat) (v:Value),l[k]? = some v→∃ v',l'[k]? = some v'∧VR ρ v v'):VRs ρ l l':=by
 induction l generalizing l' with
 |nil=>have:l'=[]:=by simpa using hlen
       subst this;exact .nil
 |cons a t ih=>
  cases l' with
  |nil=>simp at hlen
  |cons b t'=>
   obtain ⟨v',h1,h2⟩:=h 0 a rfl
   simp at h1;subst h1
   exact .cons h2 (ih (by simpa using hlen) fun k v hk=>by simpa using h (k+1) v (by simpa using hk))
end lists
end Go.Ax
namespace Go.Ax
variable [Lo]
open Go
noncomputable def St.tag (s:St)(i:Nat):Option (Nat × Nat):=
 match s.heap.get i with
 |some (.row _ _ f)=>if f=0 then some (0,i) else match s.bG.get f with
  |some l=>if i∈l then some (1,f) else none
  |none=>none
 |some (.map _ _)=>some (0,i)
 |some (.loop _)=>some (0,i)
 |_=>none
theorem um (b:Nat)(l:List Nat):qX b l=decide (b∈l):=by
 induction l with
 |nil=>rfl
 |cons a t ih=>
  show sel (Nat.beq a b) true (qX b t)=_
  rw [aC,ih]
  by_cases h:a=b
  ·subst h;simp
  ·have:Nat.beq a b=false:=by rw [←Bool.not_eq_true,Nat.beq_eq];exact h
   have h':¬b=a:=fun e=>h e.symm
   simp [this,h']
theorem aG {s:St}{i:Nat}{cs:List Value}{e:TypeId}{f:Nat} :
  s.cells i=some (cs,e,f)↔s.heap.get i=some (.row cs e f)∧(f=0∨∃ l,s.bG.get f=some l∧i∈l):=by
 unfold St.cells
 rw [ah]
 constructor
 ·rintro ⟨r,hr,h⟩
  cases r with
  |row cs' e' f'=>
   simp only [EO,aC] at h
   split at h
   ·rename_i h0
    cases h
    exact ⟨hr,.inl (by simpa using h0)⟩
   ·obtain ⟨l,hl,h⟩:=ah.1 h
    obtain ⟨h1,h2⟩:=au.1 h
    cases h2
    rw [um] at h1
    exact ⟨hr,.inr ⟨l,hl,by simpa using h1⟩⟩
  |map es c=>cases h
  |loop l=>cases h
  |other=>cases h
 ·rintro ⟨hr,h⟩
  refine ⟨_,hr,?_⟩
  show EO s.bG i cs e f=_
  simp only [EO,aC]
  split
  ·rfl
  ·rename_i h0
   rcases h with h|⟨l,hl,hm⟩
   ·subst h;simp at h0
   ·rw [ah];exact ⟨l,hl,by rw [au,um];exact ⟨by simpa using hm,rfl⟩⟩
theorem bP {s:St}{i:Nat}{cs:List Value}{e:TypeId}{f:Nat}(h:s.cells i=some (cs,e,f)):s.tag i=some (if f=0 then (0,i) else (1,f)):=by
 obtain ⟨h1,h2⟩:=aG.1 h
 unfold St.tag
 rw [h1]
 by_cases hf:f=0
 ·simp [hf]
 ·rcases h2 with h2|⟨l,hl,hm⟩
  ·exact absurd h2 hf
  ·simp [hf,hl,hm]
structure Zi (P:Program) (ρ:Ren) (w:World) (i:Nat) (cs:List Value) (e:TypeId) (f:Nat) (l:Loc):Prop where
 at_:ρ.at i=some l
 arr:∃ (a:Array Value) (fz:Nat × Nat),(∃ e':TypeId,w.heap[l.blk]? = some (.cells a e' fz)∧((f=0∨ak≤i)→e'=e))∧
  (∀ (j:Nat) (x:Value),cs[j]? = some x→∃ y,a[l.off+j]? = some y∧VR ρ x y)∧
  (ak≤i→∀ o,o<a.size→¬(fz.1≤o∧o<fz.2))∧
  (f=0→l.off=0∧a.size=cs.length∧(ak≤i→¬(fz.1≤a.size∧a.size<fz.2)))∧
  (f≠0→∃ n,size P e=some n∧0<n∧l.off+l.cap*n≤a.size∧cs.length≤l.cap*n)
inductive EsR (ρ:Ren):List MapEntry→List MapEntry→Prop
 |nil:EsR ρ [] []
 |cons {a b:MapEntry} {l l':List MapEntry} (hk:VR ρ a.key b.key) (hv:VR ρ a.val b.val) (hb:a.born=b.born) (h:EsR ρ l l'):EsR ρ (a::l) (b::l')
theorem EsR.mono {ρ ρ':Ren}(h:ρ.le ρ'){l l':List MapEntry}(hl:EsR ρ l l'):EsR ρ' l l':=by
 induction hl with
 |nil=>exact .nil
 |cons hk hv hb _ ih=>exact .cons (hk.mono h) (hv.mono h) hb ih
def U7 (ρ:Ren)(n:Nat)(t:Tr Value)(tmps:Array Value):Prop:=∀ k v,k<n→t.get k=some v→VR ρ v (tmps.getD k undef)
theorem U7.mono {ρ ρ':Ren}(h:ρ.le ρ'){n:Nat}{t:Tr Value}{tmps:Array Value}(hv:U7 ρ n t tmps):U7 ρ' n t tmps:=
 fun k v hn hk=>(hv k v hn hk).mono h
structure Ri (ρ:Ren) (r:zD) (q:Loop):Prop where
 state:q.state=r.state
 pending:q.pending=r.pending
 vars:U7 ρ r.n r.vars q.tmps
 params:q.params.toList=r.params
 assign:q.assign=r.assign
 body:q.body=r.body
 code:lJ q.tmps.size r.assign=true∧lJ q.tmps.size r.body=true∧Et q.tmps.size r.params=true
theorem Ri.mono {ρ ρ':Ren}(h:ρ.le ρ'){r:zD}{q:Loop}(hl:Ri ρ r q):Ri ρ' r q:=
 ⟨hl.state,hl.pending,hl.vars.mono h,hl.params,hl.assign,hl.body,hl.code⟩
inductive acy (ρ:Ren) (l:Loc):adJ→Obj→Prop
 |loop {r:zD} {q:Loop} (h:Ri ρ r q):acy ρ l (.loop r) (.loop q)
 |iter {r:Tj} {m:Loc} (hl:l.off=0) (hm:ρ r.map=some m):acy ρ l (.iter r) (.mapIter (some m.blk) r.since ⟨r.seen⟩ r.stepped)
theorem acy.mono {ρ ρ':Ren}(h:ρ.le ρ'){l:Loc}{r:adJ}{q:Obj}(hl:acy ρ l r q):acy ρ' l r q:=by
 cases hl with
 |loop hq=>exact .loop (hq.mono h)
 |iter h0 hm=>exact .iter h0 (h _ _ hm)
structure HR (P:Program) (base:Nat) (ρ:Ren) (s:St) (w:World):Prop where
 dom:∀ i l,ρ i=some l→ak≤i∧i<s.next∧base≤l.blk∧l.blk<w.heap.size
 next:ak≤s.next
 dS:base≤w.heap.size
 low:∀ i,i<ak→s.tag i≠none→(Lo.lo i).blk<base∧i≠dN
 bV:∀ i r,s.heap.get i=some r→i<s.next
 dM:∀ i cs e f,s.heap.get i=some (.row cs e f)→f<s.next
 rows:∀ i cs e f,s.cells i=some (cs,e,f)→∃ l,Zi P ρ w i cs e f l
 maps:∀ i es c,s.heap.get i=some (.map es c)→∃ l,ρ i=some l∧∃ es',w.heap[l.blk]? = some (.map es' c)∧EsR ρ es es'.toList
 loops:∀ i r,s.heap.get i=some (.loop r)→∃ l,ρ i=some l∧∃ q,w.heap[l.blk]? = some q∧acy ρ l r q
 sep:∀ i j a b l l',s.tag i=some a→s.tag j=some b→a≠b→ρ.at i=some l→ρ.at j=some l'→(ak≤i∨ak≤j)→l.blk≠l'.blk
def sH (ρ:Ren)(s:St)(b:Nat):Prop:=∃ i l a,ak≤i∧s.tag i=some a∧ρ i=some l∧l.blk=b
structure Goes (P:Program) (base:Nat) (ρ:Ren) (s:St) (w:World) (ρ':Ren) (s':St) (w':World):Prop where
 le:ρ.le ρ'
 hr:HR P base ρ' s' w'
 os:w'.os=w.os
 tape:w'.tape=w.tape
 output:w'.output=w.output
 grow:w.heap.size≤w'.heap.size
 next:s.next≤s'.next
 frame:∀ b,b<w.heap.size→¬sH ρ s b→w'.heap[b]? = w.heap[b]?
 own:∀ b,sH ρ' s' b→sH ρ s b∨w.heap.size≤b
 old:∀ i,i<s.next→ρ' i=ρ i
theorem Goes.refl {P:Program}{base:Nat}{ρ:Ren}{s:St}{w:World}(h:HR P base ρ s w):Goes P base ρ s w ρ s w:=
 ⟨Ren.le_refl ρ,h,rfl,rfl,rfl,Nat.le_refl _,Nat.le_refl _,fun _ _ _=>rfl,fun _ h=>.inl h,fun _ _=>rfl⟩
theorem Goes.trans {P:Program}{base:Nat}{ρ ρ' ρ'':Ren}{s s' s'':St}{w w' w'':World}
  (h:Goes P base ρ s w ρ' s' w') (k:Goes P base ρ' s' w' ρ'' s'' w''):Goes P base ρ s w ρ'' s'' w'' where
 le:=Ren.le_trans h.le k.le
 hr:=k.hr
 os:=k.os.trans h.os
 tape:=k.tape.trans h.tape
 output:=k.output.trans h.output
 grow:=Nat.le_trans h.grow k.grow
 next:=Nat.le_trans h.next k.next
 frame:=fun b hb hn=>by
  rw [k.frame b (Nat.lt_of_lt_of_le hb h.grow) ?_,h.frame b hb hn]
  intro ho
  rcases h.own b ho with h1|h1
  ·exact hn h1
  ·omega
 own:=fun b hb=>by
  rcases k.own b hb with h1|h1
  ·exact h.own b h1
  ·exact .inr (Nat.le_trans h.grow h1)
 old:=fun i hi=>(k.old i (Nat.lt_of_lt_of_le hi h.next)).trans (h.old i hi)
theorem sH.base {P:Program}{base:Nat}{ρ:Ren}{s:St}{w:World}(h:HR P base ρ s w){b:Nat}(hb:sH ρ s b):base≤b:=by
 obtain ⟨i,l,a,_,_,hl,rfl⟩:=hb
 exact (h.dom i l hl).2.2.1
theorem Goes.below {P:Program}{base:Nat}{ρ ρ':Ren}{s s':St}{w w':World}(h0:HR P base ρ s w)(h:Goes P base ρ s w ρ' s' w'):RowKit.Below base w w':=
 ⟨h.os,h.tape,h.output,h.grow,fun k hk=>h.frame k (Nat.lt_of_lt_of_le hk h0.dS) fun ho=>by have:=sH.base h0 ho;omega⟩
theorem HR.drew {P:Program}{base:Nat}{ρ:Ren}{s:St}{w:World}(h:HR P base ρ s w)(n:Nat):HR P base ρ s { w with drawn:=n }:=
 ⟨h.dom,h.next,h.dS,h.low,h.bV,h.dM,fun i cs e f hc=>let ⟨l,r⟩:=h.rows i cs e f hc;⟨l,r.at_,r.arr⟩,h.maps,h.loops,h.sep⟩
theorem Goes.drew {P:Program}{base:Nat}{ρ:Ren}{s:St}{w:World}(h:HR P base ρ s w)(n:Nat):Goes P base ρ s w ρ s { w with drawn:=n }:=
 ⟨Ren.le_refl ρ,h.drew n,rfl,rfl,rfl,Nat.le_refl _,Nat.le_refl _,fun _ _ _=>rfl,fun _ h=>.inl h,fun _ _=>rfl⟩
def Ren.set (ρ:Ren)(i:Nat)(l:Loc):Ren:=fun j=>if j=i then some l else ρ j
theorem Ren.cu (ρ:Ren)(i:Nat)(l:Loc):ρ.set i l i=some l:=by simp [Ren.set]
theorem Ren.dW (ρ:Ren){i j:Nat}(l:Loc)(h:j≠i):ρ.set i l j=ρ j:=by simp [Ren.set,h]
theorem Ren.yc {P:Program}{base:Nat}{ρ:Ren}{s:St}{w:World}(h:HR P base ρ s w)(l:Loc):ρ.le (ρ.set s.next l):=by
 intro i q hi
 have:=(h.dom i q hi).2.1
 rw [Ren.dW ρ l (by omega)]
 exact hi
theorem Ren.bJ {ρ:Ren}{i:Nat}(h:ak≤i):ρ.at i=ρ i:=by
 unfold Ren.at;rw [if_neg (by omega)]
theorem Ren.gQ {ρ:Ren}{i:Nat}(h:i<ak):ρ.at i=some (Lo.lo i):=by
 unfold Ren.at;rw [if_pos h]
theorem Ren.Ae {ρ:Ren}{i:Nat}(h:i<bg):ρ.at i=some ⟨i,0,0⟩:=by
 have e:bg=32:=rfl
 have e2:ak=64:=rfl
 rw [Ren.gQ (by omega),Lo.fix i h]
theorem Zi.move {P:Program}{ρ ρ':Ren}{w w':World}{i:Nat}{cs:List Value}{e:TypeId}{f:Nat}{l:Loc}(hle:ρ.le ρ')
  (h:Zi P ρ w i cs e f l) (hw:w'.heap[l.blk]? = w.heap[l.blk]?):Zi P ρ' w' i cs e f l:=by
 obtain ⟨h1,a,fz,h2,h3,h4⟩:=h
 exact ⟨Ren.TK hle h1,a,fz,by rw [hw];exact h2,fun j x hj=>let ⟨y,hy,hv⟩:=h3 j x hj;⟨y,hy,hv.mono hle⟩,h4⟩
theorem HR.mY {P:Program}{base:Nat}{ρ:Ren}{s:St}{w:World}(h:HR P base ρ s w){i:Nat}{a:Nat × Nat}{l:Loc}(ht:s.tag i=some a)(hl:ρ.at i=some l):l.blk<w.heap.size:=by
 by_cases hi:i<ak
 ·rw [Ren.gQ hi] at hl
  cases hl
  have:=h.low i hi (by rw [ht];simp)
  have:=h.dS
  omega
 ·rw [Ren.bJ (by omega)] at hl
  exact (h.dom i l hl).2.2.2
theorem HR.IQ {P:Program}{base:Nat}{ρ:Ren}{s:St}{w:World}(h:HR P base ρ s w){c:List Value × TypeId × Nat}(hc:s.cells dN=some c):False:=by
 obtain ⟨cs,e,f⟩:=c
 exact (h.low dN (by decide) (by rw [bP hc];simp)).2 rfl
theorem l9 {s:St}{i:Nat}{es:List MapEntry}{c:Nat}(h:s.heap.get i=some (.map es c)):s.tag i=some (0,i):=by unfold St.tag;rw [h]
theorem je {s:St}{i:Nat}{r:adJ}(h:s.heap.get i=some (.loop r)):s.tag i=some (0,i):=by unfold St.tag;rw [h]
theorem HR.push {P:Program}{base:Nat}{ρ:Ren}{s s':St}{w w':World}(h:HR P base ρ s w)(r:Row)(l:Loc)(o:Obj)
  (hnext:s'.next=s.next+1) (hheap:s'.heap=s.heap.set s.next r)
  (jH:∀ i t,i≠s.next→s'.tag i=some t→s.tag i=some t)
  (hcells:∀ i c,i≠s.next→s'.cells i=some c→s.cells i=some c)
  (hw:w'.heap=w.heap.push o) (hl:l.blk=w.heap.size)
  (aiA:∀ cs e f,r = .row cs e f→f≤s.next)
  (hrow:∀ c,s'.cells s.next=some c→Zi P (ρ.set s.next l) w' s.next c.1 c.2.1 c.2.2 l)
  (hmap:∀ es c,r = .map es c→∃ es',o = .map es' c∧EsR (ρ.set s.next l) es es'.toList)
  (hloop:∀ q,r = .loop q→acy (ρ.set s.next l) l q o):HR P base (ρ.set s.next l) s' w':=by
 have hle:=Ren.yc h l
 have hold:∀ b,b<w.heap.size→w'.heap[b]? = w.heap[b]?:=fun b hb=>by rw [hw,Array.getElem?_push,if_neg (by omega)]
 have hnew:w'.heap[w.heap.size]? = some o:=by rw [hw];simp
 have hsz:w'.heap.size=w.heap.size+1:=by rw [hw];simp
 have hnx:=h.next
 have hbl:=h.dS
 have hother:∀ i,i≠s.next→s'.heap.get i=s.heap.get i:=fun i hi=>by rw [hheap,Hp.get_set_other _ _ hi]
 have hsame:s'.heap.get s.next=some r:=by rw [hheap,Hp.get_set_same]
 refine ⟨?_,by omega,by omega,?_,?_,?_,?_,?_,?_,?_⟩
 ·intro i q hi
  by_cases e:i=s.next
  ·subst e
   rw [Ren.cu] at hi
   cases hi
   exact ⟨hnx,by omega,by omega,by omega⟩
  ·rw [Ren.dW ρ l e] at hi
   obtain ⟨a,b,c,d⟩:=h.dom i q hi
   exact ⟨a,by omega,c,by omega⟩
 ·intro i hi ht
  have e:i≠s.next:=by omega
  cases ht':s'.tag i with
  |none=>exact absurd ht' ht
  |some t=>exact h.low i hi (by rw [jH i t e ht'];simp)
 ·intro i q hi
  by_cases e:i=s.next
  ·omega
  ·rw [hother i e] at hi
   have:=h.bV i q hi
   omega
 ·intro i cs e f hi
  by_cases e':i=s.next
  ·subst e'
   rw [hsame] at hi
   cases hi
   have:=aiA cs e f rfl
   omega
  ·rw [hother i e'] at hi
   have:=h.dM i cs e f hi
   omega
 ·intro i cs e f hc
  by_cases e':i=s.next
  ·subst e'
   exact ⟨l,hrow _ hc⟩
  ·have hc':=hcells i _ e' hc
   obtain ⟨q,hq⟩:=h.rows i cs e f hc'
   exact ⟨q,hq.move hle (hold _ (h.mY (bP hc') hq.at_))⟩
 ·intro i es c hi
  by_cases e':i=s.next
  ·subst e'
   rw [hsame] at hi
   cases hi
   obtain ⟨es',rfl,he⟩:=hmap es c rfl
   exact ⟨l,Ren.cu _ _ _,es',by rw [hl];exact hnew,he⟩
  ·rw [hother i e'] at hi
   obtain ⟨q,hq,es',h1,h2⟩:=h.maps i es c hi
   exact ⟨q,hle _ _ hq,es',by rw [hold _ (h.dom i q hq).2.2.2];exact h1,h2.mono hle⟩
 ·intro i q hi
  by_cases e':i=s.next
  ·subst e'
   rw [hsame] at hi
   cases hi
   exact ⟨l,Ren.cu _ _ _,o,by rw [hl];exact hnew,hloop q rfl⟩
  ·rw [hother i e'] at hi
   obtain ⟨u,hu,q',h1,h2⟩:=h.loops i q hi
   exact ⟨u,hle _ _ hu,q',by rw [hold _ (h.dom i u hu).2.2.2];exact h1,h2.mono hle⟩
 ·intro i j a b u v hi hj hab hu hv hh
  by_cases ei:i=s.next
  ·subst ei
   rw [Ren.bJ hnx,Ren.cu] at hu
   cases hu
   by_cases ej:j=s.next
   ·subst ej
    rw [hi] at hj
    exact absurd (Option.some.inj hj) hab
   ·have hj':=jH j b ej hj
    have hv':ρ.at j=some v:=by
     by_cases hlo:j<ak
     ·rw [Ren.gQ hlo] at hv ⊢;exact hv
     ·rw [Ren.bJ (by omega)] at hv ⊢;rwa [Ren.dW ρ l ej] at hv
    have:=h.mY hj' hv'
    omega
  ·have hi':=jH i a ei hi
   have hu':ρ.at i=some u:=by
    by_cases hlo:i<ak
    ·rw [Ren.gQ hlo] at hu ⊢;exact hu
    ·rw [Ren.bJ (by omega)] at hu ⊢;rwa [Ren.dW ρ l ei] at hu
   by_cases ej:j=s.next
   ·subst ej
    rw [Ren.bJ hnx,Ren.cu] at hv
    cases hv
    have:=h.mY hi' hu'
    omega
   ·have hj':=jH j b ej hj
    have hv':ρ.at j=some v:=by
     by_cases hlo:j<ak
     ·rw [Ren.gQ hlo] at hv ⊢;exact hv
     ·rw [Ren.bJ (by omega)] at hv ⊢;rwa [Ren.dW ρ l ej] at hv
    exact h.sep i j a b u v hi' hj' hab hu' hv' hh
end Go.Ax
namespace Go.Ax
variable [Lo]
open Go
section
variable {P:Program} {base:Nat} {ρ:Ren} {s s':St} {w w':World}
theorem alloc_at (w:World)(o:Obj):(w.alloc o).heap[w.heap.size]? = some o:=by
 show (w.heap.push o)[w.heap.size]? = _
 simp
theorem Goes.push (h:HR P base ρ s w)(r:Row)(l:Loc)(o:Obj)
  (hnext:s'.next=s.next+1) (hheap:s'.heap=s.heap.set s.next r)
  (jH:∀ i t,i≠s.next→s'.tag i=some t→s.tag i=some t)
  (hcells:∀ i c,i≠s.next→s'.cells i=some c→s.cells i=some c)
  (hw:w'.heap=w.heap.push o) (hos:w'.os=w.os) (hta:w'.tape=w.tape) (hou:w'.output=w.output) (hl:l.blk=w.heap.size)
  (aiA:∀ cs e f,r = .row cs e f→f≤s.next)
  (hrow:∀ c,s'.cells s.next=some c→Zi P (ρ.set s.next l) w' s.next c.1 c.2.1 c.2.2 l)
  (hmap:∀ es c,r = .map es c→∃ es',o = .map es' c∧EsR (ρ.set s.next l) es es'.toList)
  (hloop:∀ q,r = .loop q→acy (ρ.set s.next l) l q o):Goes P base ρ s w (ρ.set s.next l) s' w':=by
 refine ⟨Ren.yc h l,h.push r l o hnext hheap jH hcells hw hl aiA hrow hmap hloop,hos,hta,hou,by rw [hw];simp,by omega,?_,?_,fun i hi=>Ren.dW ρ l (by omega)⟩
 ·intro b hb _
  rw [hw,Array.getElem?_push,if_neg (by omega)]
 ·rintro b ⟨i,q,a,hi,ht,hq,rfl⟩
  by_cases e:i=s.next
  ·subst e
   rw [Ren.cu] at hq
   cases hq
   right;omega
  ·rw [Ren.dW ρ l e] at hq
   exact .inl ⟨i,q,a,hi,jH i a e ht,hq,rfl⟩
theorem fH {t:Hp Row}{bG:Hp (List Nat)}{n k i:Nat}{r:Row}(hi:i≠k):St.tag { heap:=t.set k r,bG:=bG,next:=n } i=St.tag { heap:=t,bG:=bG,next:=n } i:=by
 unfold St.tag
 simp only [Hp.get_set_other _ _ hi]
theorem dR {t:Hp Row}{bG:Hp (List Nat)}{n k i:Nat}{r:Row}(hi:i≠k):St.cells { heap:=t.set k r,bG:=bG,next:=n } i=St.cells { heap:=t,bG:=bG,next:=n } i:=by
 unfold St.cells
 simp only [Hp.get_set_other _ _ hi]
theorem mD {t:Hp Row}{bG:Hp (List Nat)}{n k i f:Nat}{r:Row}{ch:List Nat}{a:Nat × Nat}(hi:i≠k)
  (hch:∀ j,j∈ch→j≠k→∃ l,bG.get f=some l∧j∈l)
  (h:St.tag { heap:=t.set k r,bG:=bG.set f ch,next:=n } i=some a):St.tag { heap:=t,bG:=bG,next:=n } i=some a:=by
 unfold St.tag at h ⊢
 simp only [Hp.get_set_other _ _ hi] at h
 cases hg:t.get i with
 |none=>simp [hg] at h
 |some x=>
  simp only [hg] at h ⊢
  cases x with
  |row cs e g=>
   simp only at h ⊢
   by_cases h0:g=0
   ·simpa [h0] using h
   ·simp only [h0,if_false] at h ⊢
    by_cases hgf:g=f
    ·subst hgf
     simp only [Hp.get_set_same] at h
     split at h
     ·rename_i hm
      obtain ⟨l,hl,hj⟩:=hch i hm hi
      simpa [hl,hj] using h
     ·cases h
    ·simpa only [Hp.get_set_other _ _ hgf] using h
  |map es c=>exact h
  |loop q=>exact h
  |other=>exact h
theorem jC {t:Hp Row}{bG:Hp (List Nat)}{n k i f:Nat}{r:Row}{ch:List Nat}{c:List Value × TypeId × Nat}(hi:i≠k)
  (hch:∀ j,j∈ch→j≠k→∃ l,bG.get f=some l∧j∈l)
  (h:St.cells { heap:=t.set k r,bG:=bG.set f ch,next:=n } i=some c):St.cells { heap:=t,bG:=bG,next:=n } i=some c:=by
 obtain ⟨cs,e,g⟩:=c
 rw [aG] at h ⊢
 simp only [Hp.get_set_other _ _ hi] at h
 refine ⟨h.1,?_⟩
 rcases h.2 with h2|⟨l,hl,hm⟩
 ·exact .inl h2
 ·by_cases hgf:g=f
  ·subst hgf
   simp only [Hp.get_set_same] at hl
   cases hl
   exact .inr (hch i hm hi)
  ·simp only [Hp.get_set_other _ _ hgf] at hl
   exact .inr ⟨l,hl,hm⟩
theorem Goes.newRow (h:HR P base ρ s w){cs:List Value}{e:TypeId}{a:Array Value}(ha:VRs ρ cs a.toList) :
  Goes P base ρ s w (ρ.set s.next ⟨w.heap.size,0,0⟩) { heap:=s.heap.set s.next (.row cs e 0),bG:=s.bG,next:=Nat.succ s.next } (w.alloc (.cells a e)):=by
 refine Goes.push h (.row cs e 0) ⟨w.heap.size,0,0⟩ (.cells a e) rfl rfl (fun i t hi ht=>?_) (fun i c hi hc=>?_) rfl rfl rfl rfl rfl ?_ ?_ (fun _ _ e=>by cases e) (fun _ e=>by cases e)
 ·rw [fH hi] at ht;exact ht
 ·rw [dR hi] at hc;exact hc
 ·intro cs' e' f hr;cases hr;omega
 ·rintro ⟨cs',e',f⟩ hc
  obtain ⟨h1,_⟩:=aG.1 hc
  rw [Hp.get_set_same] at h1
  cases h1
  have hlen:=ha.length
  simp at hlen
  refine ⟨by rw [Ren.bJ h.next,Ren.cu],a,(0,0),⟨_,alloc_at _ _,fun _=>rfl⟩,?_,fun _ o _=>by omega,fun _=>⟨rfl,hlen,fun _ hh=>absurd hh.2 (Nat.not_lt_zero _)⟩,fun h0=>absurd rfl h0⟩
  intro j x hj
  obtain ⟨y,hy,hv⟩:=ha.get hj
  exact ⟨y,by simpa using hy,hv.mono (Ren.yc h _)⟩
theorem Goes.aiV (h:HR P base ρ s w){cs:List Value}{e:TypeId}{a:Array Value}{cap n k:Nat}(hn:size P e=some n)(hn0:0<n)
  (ha:∀ (j:Nat) (x:Value),cs[j]? = some x→∃ y,a[j]? = some y∧VR ρ x y) (hsz:a.size=cap*n) (hle:cs.length≤cap*n) :
  Goes P base ρ s w (ρ.set s.next ⟨w.heap.size,0,cap⟩) { heap:=s.heap.set s.next (.row cs e s.next),bG:=s.bG.set s.next [s.next],next:=Nat.succ s.next }
   ({ w with drawn:=k }.alloc (.cells a e)):=by
 have hch:∀ j,j∈[s.next]→j≠s.next→∃ l,s.bG.get s.next=some l∧j∈l:=fun j hj hne=>absurd (by simpa using hj) hne
 refine Goes.push h (.row cs e s.next) ⟨w.heap.size,0,cap⟩ (.cells a e) rfl rfl (fun i t hi ht=>?_) (fun i c hi hc=>?_) rfl rfl rfl rfl rfl ?_ ?_ (fun _ _ e=>by cases e) (fun _ e=>by cases e)
 ·exact mD hi hch ht
 ·exact jC hi hch hc
 ·intro cs' e' f hr;cases hr;omega
 ·rintro ⟨cs',e',f⟩ hc
  obtain ⟨h1,_⟩:=aG.1 hc
  rw [Hp.get_set_same] at h1
  cases h1
  have:=h.next
  have hft:ak=64:=rfl
  refine ⟨by rw [Ren.bJ h.next,Ren.cu],a,(0,0),⟨_,alloc_at { w with drawn:=k } _,fun _=>rfl⟩,?_,fun _ o _=>by omega,fun h0=>absurd (show s.next=0 from h0) (by omega),fun _=>⟨n,hn,hn0,by simp [hsz],hle⟩⟩
  intro j x hj
  obtain ⟨y,hy,hv⟩:=ha j x hj
  exact ⟨y,by simpa using hy,hv.mono (Ren.yc h _)⟩
theorem Goes.aiD (h:HR P base ρ s w):Goes P base ρ s w (ρ.set s.next ⟨w.heap.size,0,0⟩) { heap:=s.heap.set s.next (.map [] 0),bG:=s.bG,next:=Nat.succ s.next } (w.alloc (.map #[] 0)):=by
 refine Goes.push h (.map [] 0) ⟨w.heap.size,0,0⟩ (.map #[] 0) rfl rfl (fun i t hi ht=>?_) (fun i c hi hc=>?_) rfl rfl rfl rfl rfl (fun _ _ _ e=>by cases e) ?_ ?_ (fun _ e=>by cases e)
 ·rw [fH hi] at ht;exact ht
 ·rw [dR hi] at hc;exact hc
 ·rintro ⟨cs',e',f⟩ hc
  obtain ⟨h1,_⟩:=aG.1 hc
  rw [Hp.get_set_same] at h1
  cases h1
 ·intro es c hr
  cases hr
  exact ⟨#[],rfl,.nil⟩
theorem Goes.aen (h:HR P base ρ s w)(o:Obj):Goes P base ρ s w (ρ.set s.next ⟨w.heap.size,0,0⟩) { heap:=s.heap.set s.next .other,bG:=s.bG,next:=Nat.succ s.next } (w.alloc o):=by
 refine Goes.push h .other ⟨w.heap.size,0,0⟩ o rfl rfl (fun i t hi ht=>?_) (fun i c hi hc=>?_) rfl rfl rfl rfl rfl (fun _ _ _ e=>by cases e) ?_ (fun _ _ e=>by cases e) (fun _ e=>by cases e)
 ·rw [fH hi] at ht;exact ht
 ·rw [dR hi] at hc;exact hc
 ·rintro ⟨cs',e',f⟩ hc
  obtain ⟨h1,_⟩:=aG.1 hc
  rw [Hp.get_set_same] at h1
  cases h1
theorem Goes.ahV (h:HR P base ρ s w){r:zD}{q:Loop}(hr:Ri ρ r q):Goes P base ρ s w (ρ.set s.next ⟨w.heap.size,0,0⟩) { heap:=s.heap.set s.next (.loop (.loop r)),bG:=s.bG,next:=Nat.succ s.next } (w.alloc (.loop q)):=by
 refine Goes.push h (.loop (.loop r)) ⟨w.heap.size,0,0⟩ (.loop q) rfl rfl (fun i t hi ht=>?_) (fun i c hi hc=>?_) rfl rfl rfl rfl rfl (fun _ _ _ e=>by cases e) ?_ (fun _ _ e=>by cases e) ?_
 ·rw [fH hi] at ht;exact ht
 ·rw [dR hi] at hc;exact hc
 ·rintro ⟨cs',e',f⟩ hc
  obtain ⟨h1,_⟩:=aG.1 hc
  rw [Hp.get_set_same] at h1
  cases h1
 ·intro q' e
  cases e
  exact .loop (hr.mono (Ren.yc h _))
theorem Goes.ahg (h:HR P base ρ s w){r:Tj}{m:Loc}(hm:ρ r.map=some m):Goes P base ρ s w (ρ.set s.next ⟨w.heap.size,0,0⟩) { heap:=s.heap.set s.next (.loop (.iter r)),bG:=s.bG,next:=Nat.succ s.next } (w.alloc (.mapIter (some m.blk) r.since ⟨r.seen⟩ r.stepped)):=by
 refine Goes.push h (.loop (.iter r)) ⟨w.heap.size,0,0⟩ (.mapIter (some m.blk) r.since ⟨r.seen⟩ r.stepped) rfl rfl (fun i t hi ht=>?_) (fun i c hi hc=>?_) rfl rfl rfl rfl rfl (fun _ _ _ e=>by cases e) ?_ (fun _ _ e=>by cases e) ?_
 ·rw [fH hi] at ht;exact ht
 ·rw [dR hi] at hc;exact hc
 ·rintro ⟨cs',e',f⟩ hc
  obtain ⟨h1,_⟩:=aG.1 hc
  rw [Hp.get_set_same] at h1
  cases h1
 ·intro q' e
  cases e
  exact .iter rfl (Ren.yc h _ _ _ hm)
theorem Goes.put (h:HR P base ρ s w){b:Nat}{cs cs':List Value}{e:TypeId}{f:Nat}{l:Loc}(hb:ak≤b)(hc:s.cells b=some (cs,e,f))(hl:ρ.at b=some l)
  {a a':Array Value} {fz:Nat × Nat} (ha:w.heap[l.blk]? = some (.cells a e fz)) (hlen:cs'.length=cs.length) (hsz:a'.size=a.size)
  (hv:∀ (j:Nat) (x:Value),cs'[j]? = some x→∃ y,a'[l.off+j]? = some y∧VR ρ x y):Goes P base ρ s w ρ (putRow s b cs' e f) (w.setRow l.blk a'):=by
 obtain ⟨hg,hlive⟩:=aG.1 hc
 have htb:=bP hc
 have hlt:=h.mY htb hl
 have hother:∀ k,k≠l.blk→(w.setRow l.blk a').heap[k]? = w.heap[k]?:=fun k hk=>by
  simp only [World.setRow,Array.getElem?_modify]
  rw [if_neg (by omega)]
 have hsame:(w.setRow l.blk a').heap[l.blk]? = some (.cells a' e fz):=setRow_heap w l.blk a a' e fz ha
 have hsize:(w.setRow l.blk a').heap.size=w.heap.size:=by simp [World.setRow]
 have hch:∀ j,j∈[b]→j≠b→∃ q,s.bG.get f=some q∧j∈q:=fun j hj hne=>absurd (by simpa using hj) hne
 have jH:∀ i t,i≠b→(putRow s b cs' e f).tag i=some t→s.tag i=some t:=by
  intro i t hi ht
  unfold putRow at ht
  by_cases h0:f=0
  ·subst h0
   exact (fH (n:=s.next) hi)▸ht
  ·have:Nat.beq f 0=false:=by rw [←Bool.not_eq_true,Nat.beq_eq];exact h0
   rw [this,aF] at ht
   exact mD hi hch ht
 have hcells:∀ i c,i≠b→(putRow s b cs' e f).cells i=some c→s.cells i=some c:=by
  intro i c hi ht
  unfold putRow at ht
  by_cases h0:f=0
  ·subst h0
   exact (dR (n:=s.next) hi)▸ht
  ·have:Nat.beq f 0=false:=by rw [←Bool.not_eq_true,Nat.beq_eq];exact h0
   rw [this,aF] at ht
   exact jC hi hch ht
 have hdiff:∀ i t,i≠b→(putRow s b cs' e f).tag i=some t→t≠(if f=0 then (0,b) else (1,f)):=by
  intro i t hi ht
  have ht':=jH i t hi ht
  unfold putRow at ht
  by_cases h0:f=0
  ·subst h0
   simp only [if_true]
   rintro rfl
   unfold St.tag at ht'
   split at ht'
   ·split at ht'
    ·simp at ht';exact hi ht'
    ·split at ht'
     ·split at ht' <;> simp at ht'
     ·cases ht'
   ·simp at ht';exact hi ht'
   ·simp at ht';exact hi ht'
   ·cases ht'
  ·have hbf:Nat.beq f 0=false:=by rw [←Bool.not_eq_true,Nat.beq_eq];exact h0
   rw [hbf,aF] at ht
   simp only [h0,if_false]
   rintro rfl
   unfold St.tag at ht
   simp only [Hp.get_set_other _ _ hi] at ht
   split at ht
   ·rename_i cs1 e1 g1 hg1
    by_cases h1:g1=0
    ·simp [h1] at ht
    ·simp only [h1,if_false] at ht
     by_cases hgf:g1=f
     ·subst hgf
      simp only [Hp.get_set_same,List.mem_singleton,hi,if_false] at ht
      cases ht
     ·split at ht
      ·split at ht
       ·simp at ht;exact hgf ht
       ·cases ht
      ·cases ht
   ·simp at ht
   ·simp at ht
   ·cases ht
 have hrow:∀ i t q,i≠b→(putRow s b cs' e f).tag i=some t→ρ.at i=some q→q.blk≠l.blk:=by
  intro i t q hi ht hq
  exact h.sep i b t _ q l (jH i t hi ht) htb (hdiff i t hi ht) hq hl (.inr hb)
 have htb':(putRow s b cs' e f).tag b=some (if f=0 then (0,b) else (1,f)):=by
  unfold putRow St.tag
  simp only [Hp.get_set_same]
  by_cases h0:f=0
  ·simp [h0]
  ·have hbf:Nat.beq f 0=false:=by rw [←Bool.not_eq_true,Nat.beq_eq];exact h0
   simp [h0,hbf,aF,Hp.get_set_same]
 have hHR:HR P base ρ (putRow s b cs' e f) (w.setRow l.blk a'):=by
  refine ⟨fun i q hi=>?_,h.next,by rw [hsize];exact h.dS,fun i hi ht=>?_,fun i r hi=>?_,fun i cs1 e1 f1 hi=>?_,fun i cs1 e1 f1 hi=>?_,fun i es c hi=>?_,fun i r hi=>?_,fun i j x y u v hi hj hxy hu hv=>?_⟩
  ·rw [hsize];exact h.dom i q hi
  ·have hib:i≠b:=by omega
   cases ht':(putRow s b cs' e f).tag i with
   |none=>exact absurd ht' ht
   |some t=>exact h.low i hi (by rw [jH i t hib ht'];simp)
  ·by_cases hib:i=b
   ·subst hib;exact h.bV i _ hg
   ·unfold putRow at hi
    simp only [Hp.get_set_other _ _ hib] at hi
    exact h.bV i r hi
  ·by_cases hib:i=b
   ·subst hib
    unfold putRow at hi
    simp only [Hp.get_set_same] at hi
    cases hi
    exact h.dM i _ _ _ hg
   ·unfold putRow at hi
    simp only [Hp.get_set_other _ _ hib] at hi
    exact h.dM i _ _ _ hi
  ·by_cases hib:i=b
   ·subst hib
    obtain ⟨h1,_⟩:=aG.1 hi
    unfold putRow at h1
    simp only [Hp.get_set_same] at h1
    cases h1
    obtain ⟨q,hq⟩:=h.rows i cs e f hc
    have hql:q=l:=by have:=hq.at_;rw [hl] at this;exact (Option.some.inj this).symm
    subst hql
    obtain ⟨_,a0,fz0,⟨e9,g1,_⟩,g2,g3,g4,g5⟩:=hq
    rw [ha] at g1
    cases g1
    exact ⟨q,hl,a',fz,⟨_,hsame,fun _=>rfl⟩,hv,fun hi o ho=>g3 hi o (by omega),fun h0=>⟨(g4 h0).1,by rw [hsz,(g4 h0).2.1,hlen],fun hi=>by rw [hsz];exact (g4 h0).2.2 hi⟩,fun h0=>by rw [hsz,hlen];exact g5 h0⟩
   ·have hi':=hcells i _ hib hi
    obtain ⟨q,hq⟩:=h.rows i cs1 e1 f1 hi'
    exact ⟨q,hq.move (Ren.le_refl ρ) (hother _ (hrow i _ q hib (bP hi) hq.at_))⟩
  ·have hib:i≠b:=by
    rintro rfl
    unfold putRow at hi
    simp only [Hp.get_set_same] at hi
    cases hi
   have ht:(putRow s b cs' e f).tag i=some (0,i):=l9 hi
   unfold putRow at hi
   simp only [Hp.get_set_other _ _ hib] at hi
   obtain ⟨q,hq,es',h1,h2⟩:=h.maps i es c hi
   exact ⟨q,hq,es',by rw [hother _ (hrow i _ q hib ht (by rw [Ren.bJ (h.dom i q hq).1];exact hq))];exact h1,h2⟩
  ·have hib:i≠b:=by
    rintro rfl
    unfold putRow at hi
    simp only [Hp.get_set_same] at hi
    cases hi
   have ht:(putRow s b cs' e f).tag i=some (0,i):=je hi
   unfold putRow at hi
   simp only [Hp.get_set_other _ _ hib] at hi
   obtain ⟨q,hq,es',h1,h2⟩:=h.loops i r hi
   exact ⟨q,hq,es',by rw [hother _ (hrow i _ q hib ht (by rw [Ren.bJ (h.dom i q hq).1];exact hq))];exact h1,h2⟩
  ·have hi':s.tag i=some x:=by
    by_cases hib:i=b
    ·subst hib;rw [htb'] at hi;rw [htb];exact hi
    ·exact jH i x hib hi
   have hj':s.tag j=some y:=by
    by_cases hjb:j=b
    ·subst hjb;rw [htb'] at hj;rw [htb];exact hj
    ·exact jH j y hjb hj
   exact h.sep i j x y u v hi' hj' hxy hu hv
 refine ⟨Ren.le_refl ρ,hHR,rfl,rfl,rfl,by rw [hsize];exact Nat.le_refl _,Nat.le_refl _,fun k hk hn=>hother k ?_,?_,fun _ _=>rfl⟩
 ·rintro rfl
  exact hn ⟨b,l,_,hb,htb,by rwa [Ren.bJ hb] at hl,rfl⟩
 ·rintro k ⟨i,q,t,hi,ht,hq,rfl⟩
  left
  by_cases hib:i=b
  ·subst hib;rw [htb'] at ht;exact ⟨i,q,t,hi,by rw [htb];exact ht,hq,rfl⟩
  ·exact ⟨i,q,t,hi,jH i t hib ht,hq,rfl⟩
theorem Goes.share (h:HR P base ρ s w){b:Nat}{cs cells:List Value}{e:TypeId}{f:Nat}{l ln:Loc}(hb:ak≤b)(hc:s.cells b=some (cs,e,f))(hf:f≠0)(hl:ρ.at b=some l)
  {a a':Array Value} {fz:Nat × Nat} (ha:w.heap[l.blk]? = some (.cells a e fz)) (hsz:a'.size=a.size)
  (hv:∀ (j:Nat) (x:Value),cs[j]? = some x→∃ y,a'[l.off+j]? = some y∧VR ρ x y)
  (hln:ln.blk=l.blk) (hn:∀ (j:Nat) (x:Value),cells[j]? = some x→∃ y,a'[ln.off+j]? = some y∧VR ρ x y)
  (hcap:∀ n,size P e=some n→ln.off+ln.cap*n≤a.size∧cells.length≤ln.cap*n) :
  Goes P base ρ s w (ρ.set s.next ln) { heap:=s.heap.set s.next (.row cells e f),bG:=s.bG.set f [s.next,b],next:=Nat.succ s.next } (w.setRow l.blk a'):=by
 obtain ⟨hg,hlive⟩:=aG.1 hc
 have hle:=Ren.yc h ln
 have htb:=bP hc
 have hlt:=h.mY htb hl
 have hbn:b<s.next:=h.bV b _ hg
 have hnx:=h.next
 have hfn:=h.dM b _ _ _ hg
 have hlb:ρ b=some l:=by rwa [Ren.bJ hb] at hl
 obtain ⟨q0,hq0⟩:=h.rows b cs e f hc
 have hql:q0=l:=by have:=hq0.at_;rw [hl] at this;exact (Option.some.inj this).symm
 subst hql
 obtain ⟨_,a0,fz0,⟨e9,g1,_⟩,g2,g3,g4,g5⟩:=hq0
 rw [ha] at g1
 cases g1
 obtain ⟨n,hn1,hn2,hn3,hn4⟩:=g5 hf
 have hother:∀ k,k≠q0.blk→(w.setRow q0.blk a').heap[k]? = w.heap[k]?:=fun k hk=>by
  simp only [World.setRow,Array.getElem?_modify]
  rw [if_neg (by omega)]
 have hsame:(w.setRow q0.blk a').heap[q0.blk]? = some (.cells a' e fz):=setRow_heap w q0.blk a a' e fz ha
 have hsize:(w.setRow q0.blk a').heap.size=w.heap.size:=by simp [World.setRow]
 obtain ⟨lst,anB,hmem⟩:=hlive.resolve_left hf
 have hch:∀ j,j∈[s.next,b]→j≠s.next→∃ q,s.bG.get f=some q∧j∈q:=fun j hj hne=>by
  have:j=b:=by simpa [hne] using hj
  subst this
  exact ⟨lst,anB,hmem⟩
 generalize hs':({ heap:=s.heap.set s.next (.row cells e f),bG:=s.bG.set f [s.next,b],next:=Nat.succ s.next }:St)=s'
 have hheap:s'.heap=s.heap.set s.next (.row cells e f):=by rw [←hs']
 have apo:s'.next=s.next+1:=by rw [←hs']
 have jH:∀ i t,i≠s.next→s'.tag i=some t→s.tag i=some t:=by
  intro i t hi ht
  rw [←hs'] at ht
  exact mD hi hch ht
 have hcells:∀ i c,i≠s.next→s'.cells i=some c→s.cells i=some c:=by
  intro i c hi ht
  rw [←hs'] at ht
  exact jC hi hch ht
 have htn:s'.tag s.next=some (1,f):=by
  rw [←hs'];unfold St.tag
  simp [Hp.get_set_same,hf]
 have amk:s.tag b=some (1,f):=by rw [htb];simp [hf]
 have hdiff:∀ i t,i≠s.next→i≠b→s'.tag i=some t→t≠(1,f):=by
  intro i t hi hib ht
  rw [←hs'] at ht
  rintro rfl
  unfold St.tag at ht
  simp only [Hp.get_set_other _ _ hi] at ht
  split at ht
  ·rename_i cs1 e1 g1 hg1
   by_cases h1:g1=0
   ·simp [h1] at ht
   ·simp only [h1,if_false] at ht
    by_cases hgf:g1=f
    ·subst hgf
     simp [Hp.get_set_same,hi,hib] at ht
    ·split at ht
     ·split at ht
      ·simp at ht;exact hgf ht
      ·cases ht
     ·cases ht
  ·simp at ht
  ·simp at ht
  ·cases ht
 have hblk:∀ i t q,i≠s.next→i≠b→s'.tag i=some t→ρ.at i=some q→q.blk≠q0.blk:=fun i t q hi hib ht hq=>
  h.sep i b t _ q q0 (jH i t hi ht) amk (hdiff i t hi hib ht) hq hl (.inr hb)
 have aml:(ρ.set s.next ln).at s.next=some ln:=by rw [Ren.bJ hnx,Ren.cu]
 have alK:∀ i,i≠s.next→(ρ.set s.next ln).at i=ρ.at i:=fun i hi=>by
  by_cases hlo:i<ak
  ·rw [Ren.gQ hlo,Ren.gQ hlo]
  ·rw [Ren.bJ (by omega),Ren.bJ (by omega),Ren.dW ρ ln hi]
 have hHR:HR P base (ρ.set s.next ln) s' (w.setRow q0.blk a'):=by
  refine ⟨fun i q hi=>?_,by omega,by rw [hsize];exact h.dS,fun i hi ht=>?_,fun i r hi=>?_,fun i cs1 e1 f1 hi=>?_,fun i cs1 e1 f1 hi=>?_,fun i es c hi=>?_,fun i r hi=>?_,fun i j x y u v hi hj hxy hu hv hh=>?_⟩
  ·rw [hsize]
   by_cases e':i=s.next
   ·subst e'
    rw [Ren.cu] at hi
    cases hi
    have:=h.dom b q0 hlb
    exact ⟨hnx,by omega,by omega,by omega⟩
   ·rw [Ren.dW ρ ln e'] at hi
    obtain ⟨x,y,z,u⟩:=h.dom i q hi
    exact ⟨x,by omega,z,u⟩
  ·have e':i≠s.next:=by omega
   cases ht':s'.tag i with
   |none=>exact absurd ht' ht
   |some t=>exact h.low i hi (by rw [jH i t e' ht'];simp)
  ·by_cases e':i=s.next
   ·omega
   ·rw [hheap,Hp.get_set_other _ _ e'] at hi
    have:=h.bV i r hi
    omega
  ·by_cases e':i=s.next
   ·subst e'
    rw [hheap,Hp.get_set_same] at hi
    cases hi
    omega
   ·rw [hheap,Hp.get_set_other _ _ e'] at hi
    have:=h.dM i _ _ _ hi
    omega
  ·by_cases e':i=s.next
   ·subst e'
    obtain ⟨h1,_⟩:=aG.1 hi
    rw [hheap,Hp.get_set_same] at h1
    cases h1
    obtain ⟨c1,c2⟩:=hcap n hn1
    exact ⟨ln,aml,a',fz,⟨_,by rw [hln];exact hsame,fun _=>rfl⟩,fun j x hj=>let ⟨y,hy,hv⟩:=hn j x hj;⟨y,hy,hv.mono hle⟩,fun _ o ho=>g3 hb o (by omega),
     fun h0=>absurd h0 hf,fun _=>⟨n,hn1,hn2,by omega,c2⟩⟩
   ·have hi':=hcells i _ e' hi
    by_cases hib:i=b
    ·subst hib
     rw [hc] at hi'
     cases hi'
     exact ⟨q0,by rw [alK i e'];exact hl,a',fz,⟨_,hsame,fun _=>rfl⟩,fun j x hj=>let ⟨y,hy,hv⟩:=hv j x hj;⟨y,hy,hv.mono hle⟩,fun hi o ho=>g3 hi o (by omega),
      fun h0=>absurd h0 hf,fun _=>⟨n,hn1,hn2,by omega,hn4⟩⟩
    ·obtain ⟨q,hq⟩:=h.rows i cs1 e1 f1 hi'
     exact ⟨q,hq.move hle (hother _ (hblk i _ q e' hib (bP hi) hq.at_))⟩
  ·have e':i≠s.next:=by
    rintro rfl
    rw [hheap,Hp.get_set_same] at hi
    cases hi
   have ht:s'.tag i=some (0,i):=l9 hi
   rw [hheap,Hp.get_set_other _ _ e'] at hi
   have hib:i≠b:=by rintro rfl;rw [hg] at hi;cases hi
   obtain ⟨q,hq,es',h1,h2⟩:=h.maps i es c hi
   exact ⟨q,hle _ _ hq,es',by rw [hother _ (hblk i _ q e' hib ht (by rw [Ren.bJ (h.dom i q hq).1];exact hq))];exact h1,h2.mono hle⟩
  ·have e':i≠s.next:=by
    rintro rfl
    rw [hheap,Hp.get_set_same] at hi
    cases hi
   have ht:s'.tag i=some (0,i):=je hi
   rw [hheap,Hp.get_set_other _ _ e'] at hi
   have hib:i≠b:=by rintro rfl;rw [hg] at hi;cases hi
   obtain ⟨q,hq,es',h1,h2⟩:=h.loops i r hi
   exact ⟨q,hle _ _ hq,es',by rw [hother _ (hblk i _ q e' hib ht (by rw [Ren.bJ (h.dom i q hq).1];exact hq))];exact h1,h2.mono hle⟩
  ·by_cases ei:i=s.next
   ·subst ei
    rw [htn] at hi
    cases hi
    rw [aml] at hu
    cases hu
    have ej:j≠s.next:=by rintro rfl;rw [htn] at hj;cases hj;exact hxy rfl
    rw [alK j ej] at hv
    rw [hln]
    exact h.sep b j _ y q0 v amk (jH j y ej hj) hxy hl hv (.inl hb)
   ·rw [alK i ei] at hu
    by_cases ej:j=s.next
    ·subst ej
     rw [htn] at hj
     cases hj
     rw [aml] at hv
     cases hv
     rw [hln]
     exact h.sep i b x _ u q0 (jH i x ei hi) amk hxy hu hl (.inr hb)
    ·rw [alK j ej] at hv
     exact h.sep i j x y u v (jH i x ei hi) (jH j y ej hj) hxy hu hv hh
 refine ⟨hle,hHR,rfl,rfl,rfl,by rw [hsize];exact Nat.le_refl _,by omega,fun k hk hn=>hother k ?_,?_,fun i hi=>Ren.dW ρ ln (by omega)⟩
 ·rintro rfl
  exact hn ⟨b,q0,_,hb,htb,hlb,rfl⟩
 ·rintro k ⟨i,q,t,hi,ht,hq,rfl⟩
  left
  by_cases e':i=s.next
  ·subst e'
   rw [Ren.cu] at hq
   cases hq
   exact ⟨b,q0,_,hb,htb,hlb,hln.symm⟩
  ·rw [Ren.dW ρ ln e'] at hq
   exact ⟨i,q,t,hi,jH i t e' ht,hq,rfl⟩
theorem Goes.WB (h:HR P base ρ s w){b:Nat}{cs cells:List Value}{e:TypeId}{f:Nat}{cap n k:Nat}(hc:s.cells b=some (cs,e,f))(hf:f≠0){a:Array Value}
  (hn:size P e=some n) (hn0:0<n) (ha:∀ (j:Nat) (x:Value),cells[j]? = some x→∃ y,a[j]? = some y∧VR ρ x y) (hsz:a.size=cap*n) (hle:cells.length≤cap*n) :
  Goes P base ρ s w (ρ.set s.next ⟨w.heap.size,0,cap⟩) { heap:=s.heap.set s.next (.row cells e f),bG:=s.bG.set f [s.next,b],next:=Nat.succ s.next }
   ({ w with drawn:=k }.alloc (.cells a e)):=by
 obtain ⟨hg,hlive⟩:=aG.1 hc
 obtain ⟨lst,anB,hmem⟩:=hlive.resolve_left hf
 have hfn:=h.dM b _ _ _ hg
 have hch:∀ j,j∈[s.next,b]→j≠s.next→∃ q,s.bG.get f=some q∧j∈q:=fun j hj hne=>by
  have:j=b:=by simpa [hne] using hj
  subst this
  exact ⟨lst,anB,hmem⟩
 refine Goes.push h (.row cells e f) ⟨w.heap.size,0,cap⟩ (.cells a e) rfl rfl (fun i t hi ht=>?_) (fun i c hi hc=>?_) rfl rfl rfl rfl rfl ?_ ?_ (fun _ _ e=>by cases e) (fun _ e=>by cases e)
 ·exact mD hi hch ht
 ·exact jC hi hch hc
 ·intro cs' e' f hr;cases hr;omega
 ·rintro ⟨cs',e',f'⟩ hc
  obtain ⟨h1,_⟩:=aG.1 hc
  rw [Hp.get_set_same] at h1
  cases h1
  refine ⟨by rw [Ren.bJ h.next,Ren.cu],a,(0,0),⟨_,alloc_at { w with drawn:=k } _,fun _=>rfl⟩,?_,fun _ o _=>by omega,fun h0=>absurd h0 hf,fun _=>⟨n,hn,hn0,by simp [hsz],hle⟩⟩
  intro j x hj
  obtain ⟨y,hy,hv⟩:=ha j x hj
  exact ⟨y,by simpa using hy,hv.mono (Ren.yc h _)⟩
theorem Goes.putObj (h:HR P base ρ s w){i:Nat}{l:Loc}{r:Row}{o:Obj}(ht:s.tag i=some (0,i))(hl:ρ i=some l)
  (hr:(∃ es c,r = .map es c∧∃ es',o = .map es' c∧EsR ρ es es'.toList)∨(∃ q,r = .loop q∧acy ρ l q o)) :
  Goes P base ρ s w ρ (s.put i r) { w with heap:=w.heap.setIfInBounds l.blk o }:=by
 obtain ⟨d1,d2,d3,d4⟩:=h.dom i l hl
 have hother:∀ k,k≠l.blk→(w.heap.setIfInBounds l.blk o)[k]? = w.heap[k]?:=fun k hk=>by
  rw [Array.getElem?_setIfInBounds,if_neg (by omega)]
 have hsame:(w.heap.setIfInBounds l.blk o)[l.blk]? = some o:=by
  rw [Array.getElem?_setIfInBounds,if_pos rfl,if_pos d4]
 have hsize:(w.heap.setIfInBounds l.blk o).size=w.heap.size:=by simp
 have hget:∀ j,j≠i→(s.put i r).heap.get j=s.heap.get j:=fun j hj=>Hp.get_set_other _ _ hj
 have IL:(s.put i r).heap.get i=some r:=Hp.get_set_same _ _ _
 have hti:(s.put i r).tag i=some (0,i):=by
  rcases hr with ⟨es,c,rfl,_⟩|⟨q,rfl,_⟩
  ·exact l9 IL
  ·exact je IL
 have jH:∀ j t,(s.put i r).tag j=some t→s.tag j=some t:=by
  intro j t hj
  by_cases e:j=i
  ·subst e;rw [hti] at hj;rw [ht];exact hj
  ·unfold St.tag at hj ⊢
   rw [hget j e] at hj
   exact hj
 have hcells:∀ j c,(s.put i r).cells j=some c→j≠i∧s.cells j=some c:=by
  rintro j ⟨cs,e,f⟩ hj
  have hj':=aG.1 hj
  have hji:j≠i:=by
   rintro rfl
   rw [IL] at hj'
   rcases hr with ⟨es,c,rfl,_⟩|⟨q,rfl,_⟩ <;> simp at hj'
  exact ⟨hji,aG.2 ⟨by rw [←hget j hji];exact hj'.1,hj'.2⟩⟩
 have hblk:∀ j t q,j≠i→s.tag j=some t→ρ.at j=some q→q.blk≠l.blk:=by
  intro j t q hj htj hq
  refine h.sep j i t _ q l htj ht ?_ hq (by rw [Ren.bJ d1];exact hl) (.inr d1)
  rintro rfl
  unfold St.tag at htj
  split at htj
  ·split at htj
   ·simp at htj;exact hj htj
   ·split at htj
    ·split at htj <;> simp at htj
    ·cases htj
  ·simp at htj;exact hj htj
  ·simp at htj;exact hj htj
  ·cases htj
 refine ⟨Ren.le_refl ρ,?_,rfl,rfl,rfl,by show _≤(w.heap.setIfInBounds l.blk o).size;rw [hsize];exact Nat.le_refl _,Nat.le_refl _,fun k hk hn=>hother k ?_,?_,fun _ _=>rfl⟩
 ·refine ⟨fun j q hj=>by show _∧_∧_∧_<(w.heap.setIfInBounds l.blk o).size;rw [hsize];exact h.dom j q hj,h.next,by show base≤(w.heap.setIfInBounds l.blk o).size;rw [hsize];exact h.dS,fun j hj htj=>?_,fun j q hj=>?_,fun j cs e f hj=>?_,
   fun j cs e f hj=>?_,fun j es c hj=>?_,fun j q hj=>?_,fun j k x y u v hj hk hxy hu hv=>h.sep j k x y u v (jH j x hj) (jH k y hk) hxy hu hv⟩
  ·cases ht':(s.put i r).tag j with
   |none=>exact absurd ht' htj
   |some t=>exact h.low j hj (by rw [jH j t ht'];simp)
  ·by_cases e:j=i
   ·subst e;exact d2
   ·rw [hget j e] at hj;exact h.bV j q hj
  ·by_cases e':j=i
   ·subst e';rw [IL] at hj
    rcases hr with ⟨es,c,rfl,_⟩|⟨q,rfl,_⟩ <;> simp at hj
   ·rw [hget j e'] at hj;exact h.dM j cs e f hj
  ·obtain ⟨hji,hj'⟩:=hcells j _ hj
   obtain ⟨q,hq⟩:=h.rows j cs e f hj'
   exact ⟨q,hq.move (Ren.le_refl ρ) (hother _ (hblk j _ q hji (bP hj') hq.at_))⟩
  ·by_cases e':j=i
   ·subst e'
    rw [IL] at hj
    rcases hr with ⟨es0,c0,rfl,es',rfl,he⟩|⟨q,rfl,_⟩
    ·cases hj
     exact ⟨l,hl,es',hsame,he⟩
    ·cases hj
   ·rw [hget j e'] at hj
    obtain ⟨q,hq,es',h1,h2⟩:=h.maps j es c hj
    exact ⟨q,hq,es',by show (w.heap.setIfInBounds l.blk o)[q.blk]? = _;rw [hother _ (hblk j _ q e' (l9 hj) (by rw [Ren.bJ (h.dom j q hq).1];exact hq))];exact h1,h2⟩
  ·by_cases e':j=i
   ·subst e'
    rw [IL] at hj
    rcases hr with ⟨es0,c0,rfl,_⟩|⟨q0,rfl,he⟩
    ·cases hj
    ·cases hj
     exact ⟨l,hl,o,hsame,he⟩
   ·rw [hget j e'] at hj
    obtain ⟨u,hu,q',h1,h2⟩:=h.loops j q hj
    exact ⟨u,hu,q',by show (w.heap.setIfInBounds l.blk o)[u.blk]? = _;rw [hother _ (hblk j _ u e' (je hj) (by rw [Ren.bJ (h.dom j u hu).1];exact hu))];exact h1,h2⟩
 ·rintro rfl
  exact hn ⟨i,l,_,d1,ht,hl,rfl⟩
 ·rintro k ⟨j,q,t,hj,htj,hq,rfl⟩
  exact .inl ⟨j,q,t,hj,jH j t htj,hq,rfl⟩
end
end Go.Ax
namespace Go.Ax
variable [Lo]
open Go
theorem gB (P:Program)(g o:Nat)(t:TypeId)(fz:Nat × Nat):∀ (vs:List Value) (i:Nat) (cur:Array Value) (w:World),w.heap[g]? = some (.cells cur t fz)→o+i+vs.length≤cur.size→
  (∀ k,k<cur.size→¬(fz.1≤k∧k<fz.2))→(∀ v∈vs,v.oneCell'=true)→
  (Go.storeCells ⟨g,o,none⟩ vs i).run P w = .ok () (w.setRow g (cur.toList.take (o+i)++vs++cur.toList.drop (o+i+vs.length)).toArray)
 |[],i,cur,w,hg,_,_,_=>by
  simp only [Go.storeCells,List.append_nil,List.length_nil,Nat.add_zero,List.take_append_drop,Array.toArray_toList]
  rw [setRow_self w g cur t fz hg]
  rfl
 |v::rest,i,cur,w,hg,hl,hz,h1=>by
  have hi:o+i<cur.size:=by simp at hl;omega
  have hadd:(⟨g,o,none⟩:Addr).add i=⟨g,o+i,none⟩:=by unfold Addr.add;split <;> simp_all
  have hcell:w.cell? ⟨g,o+i,none⟩=some cur[o+i]:=by simp [World.cell?,hg,hi]
  have hz':=hz (o+i) hi
  have hfro:w.frozen? ⟨g,o+i,none⟩=false:=by
   have h2:(decide (fz.1≤o+i)&&decide (o+i<fz.2))=false:=by
    rw [←Bool.not_eq_true];simpa using hz'
   simp only [World.frozen?,hg]
   exact h2
  have hst:(Go.store ((⟨g,o,none⟩:Addr).add i) v).run P w = .ok () (w.setRow g (cur.setIfInBounds (o+i) v)):=by
   rw [hadd,run_store P w _ v _ (h1 v (by simp)),hcell]
   simp [hfro,setCell_eq_setRow w g (o+i) cur t fz v hg]
  have ih:=gB P g o t fz rest (i+1) (cur.setIfInBounds (o+i) v) (w.setRow g (cur.setIfInBounds (o+i) v)) (setRow_heap w g cur _ t _ hg) (by simp at hl ⊢;omega) (by simpa using hz) (fun x hx=>h1 x (by simp [hx]))
  simp only [Go.storeCells,Sem.run_bind,hst,Result.andThen_ok,ih,setRow_setRow]
  congr 3
  have e:=list_seg_step cur.toList (o+i) v rest (by simp at hl ⊢;omega)
  simpa [Array.toList_setIfInBounds,Nat.add_assoc] using e
section
variable {P:Program} {base:Nat} {ρ:Ren} {s s':St} {w:World}
theorem acX {v c:Value}(h:VR ρ v c)(h1:adG v=true):c.oneCell'=true:=by
 cases h <;> first|rfl|cases h1
theorem Us (v:Value)(l:List Value):kV (v::l)=sel (adG v) (kV l) false:=rfl
theorem xu {l l':List Value}(h:VRs ρ l l')(h1:kV l=true):∀ c∈l',c.oneCell'=true:=by
 induction l generalizing l' with
 |nil=>cases h;simp
 |cons v t ih=>
  cases h with
  |cons hv ht=>
   rw [Us,aC] at h1
   split at h1
   ·rename_i h0
    intro c hc
    rcases List.mem_cons.1 hc with rfl|hc
    ·exact acX hv h0
    ·exact ih ht h1 c hc
   ·cases h1
theorem kG {v c:Value}(h:VR ρ v c):VRs ρ (cellsOf v) c.cells.toList:=by
 cases h with
 |agg ha=>exact ha
 |bool b=>exact .cons (.bool b) .nil
 |int k n=>exact .cons (.int k n) .nil
 |string s=>exact .cons (.string s) .nil
 |kM=>exact .cons .kM .nil
 |ptr h=>exact .cons (.ptr h) .nil
 |bW n c=>exact .cons (.bW n c) .nil
 |slice h=>exact .cons (.slice h) .nil
 |dead a c=>exact .cons (.dead a c) .nil
 |opq a n c=>exact .cons (.opq a n c) .nil
 |tok i k n=>exact .cons (.tok i k n) .nil
 |acd lo hi a n c h hh=>exact .cons (.acd lo hi a n c h hh) .nil
 |rng lo hi n h hh=>exact .cons (.rng lo hi n h hh) .nil
 |oJ=>exact .cons .oJ .nil
 |map h=>exact .cons (.map h) .nil
 |func h ha hb=>exact .cons (.func h ha hb) .nil
 |nilFunc=>exact .cons .nilFunc .nil
 |iface t h=>exact .cons (.iface t h) .nil
 |nilIface=>exact .cons .nilIface .nil
 |tuple h=>exact .cons (.tuple h) .nil
theorem Zi.seg {i:Nat}{cs:List Value}{e:TypeId}{f:Nat}{l:Loc}(h:Zi P ρ w i cs e f l){o n:Nat}(ho:o+n≤cs.length) :
  ∃ cl,VRs ρ ((cs.drop o).take n) cl∧cl.length=n∧∀ (j:Nat) (v:Value),cl[j]? = some v→w.cell? ⟨l.blk,l.off+o+j,none⟩=some v:=by
 obtain ⟨_,a,fz,⟨e9,h1,_⟩,h2,_⟩:=h
 refine ⟨(a.toList.drop (l.off+o)).take n,?_,?_,?_⟩
 ·refine VRs.Xe ?_ fun k v hk=>?_
  ·have hsz:l.off+o+n≤a.size∨n=0:=by
    by_cases h0:n=0
    ·exact .inr h0
    ·left
     have hlt:o+(n-1)<cs.length:=by omega
     obtain ⟨y,hy,_⟩:=h2 (o+(n-1)) _ (List.getElem?_eq_getElem hlt)
     have:=(Array.getElem?_eq_some_iff.1 hy).1
     omega
   rcases hsz with hsz|hsz
   ·simp;omega
   ·subst hsz;simp
  ·rw [List.getElem?_take] at hk
   split at hk
   ·rename_i hkn
    rw [List.getElem?_drop] at hk
    obtain ⟨y,hy,hv⟩:=h2 _ _ hk
    refine ⟨y,?_,hv⟩
    rw [List.getElem?_take,if_pos hkn,List.getElem?_drop]
    have:l.off+o+k=l.off+(o+k):=by omega
    rw [this]
    simpa using hy
   ·cases hk
 ·by_cases h0:n=0
  ·subst h0;simp
  ·have hlt:o+(n-1)<cs.length:=by omega
   obtain ⟨y,hy,_⟩:=h2 (o+(n-1)) _ (List.getElem?_eq_getElem hlt)
   have:=(Array.getElem?_eq_some_iff.1 hy).1
   simp;omega
 ·intro j v hj
  rw [List.getElem?_take] at hj
  split at hj
  ·rw [List.getElem?_drop] at hj
   simp only [World.cell?,h1]
   simpa using hj
  ·cases hj
theorem Nc {t:TypeId}{g:Bool}(h:isAgg P t=some g):∃ d,P.underlying t=some d∧g=yL d:=by
 unfold isAgg at h
 obtain ⟨d,h1,h2⟩:=ah.1 h
 exact ⟨d,h1,(Option.some.inj h2).symm⟩
theorem Jm {t:TypeId}{g:Bool}(h:isAgg P t=some g):(Go.isAgg t).run P w = .ok g w:=by
 obtain ⟨d,h1,rfl⟩:=Nc h
 simp only [Go.isAgg,Sem.run_bind,run_underlying h1,Result.andThen_ok]
 cases d <;> rfl
theorem mP {t:TypeId}{n:Nat}(h:size P t=some n):∃ i,P.info? t=some i∧i.size=n:=by
 unfold size at h
 cases hi:P.info? t with
 |none=>simp [hi] at h
 |some i=>simp [hi] at h;exact ⟨i,rfl,h⟩
theorem run_sizeOf {t:TypeId}{n:Nat}(h:size P t=some n):(Go.sizeOf t).run P w = .ok n w:=by
 obtain ⟨i,h1,rfl⟩:=mP h
 simp [Go.sizeOf,Go.typeInfo,h1]
theorem add_eq (b o n:Nat):(⟨b,o,none⟩:Addr).add n=⟨b,o+n,none⟩:=by
 unfold Addr.add;split <;> simp_all
theorem lN (h:HR P base ρ s w){t:TypeId}{b o:Nat}{v:Value}{l:Loc}(hl:ρ.at b=some l)(hv:load P s t b o=some v) :
  ∃ c,(Go.loadVar t ⟨l.blk,l.off+o,none⟩).run P w = .ok c w∧VR ρ v c:=by
 unfold load at hv
 obtain ⟨⟨cs,e,f⟩,hc,hv⟩:=ah.1 hv
 obtain ⟨q,hq⟩:=h.rows b cs e f hc
 have:q=l:=by have:=hq.at_;rw [hl] at this;exact (Option.some.inj this).symm
 subst this
 unfold DT at hv
 obtain ⟨g,hg,hv⟩:=ah.1 hv
 have hr:=Jm (P:=P) (w:=w) hg
 cases g with
 |true=>
  rw [aH] at hv
  obtain ⟨n,hn,hv⟩:=ah.1 hv
  obtain ⟨r,hr',hv⟩:=ah.1 hv
  cases hv
  rw [qp,iY] at hr'
  obtain ⟨h1,rfl⟩:=hr'
  by_cases ho:o≤cs.length
  ·obtain ⟨cl,h2,h3,h4⟩:=hq.seg (o:=o) (n:=n) (by simp at h1;omega)
   refine ⟨.agg ⟨cl⟩,?_,.agg h2⟩
   have hl':=run_loadCells_list (P:=P) w ⟨q.blk,q.off+o,none⟩ cl (fun j v hj=>by rw [add_eq];exact h4 j v hj)
   rw [h3] at hl'
   simp [Go.loadVar,hr,run_sizeOf hn,hl']
  ·have:n=0:=by simp at h1;omega
   subst this
   refine ⟨.agg #[],?_,by simpa [zJ] using VR.agg (VRs.nil (ρ:=ρ))⟩
   have hl':=run_loadCells_list (P:=P) w ⟨q.blk,q.off+o,none⟩ [] (fun j v hj=>by simp at hj)
   simp at hl'
   simp [Go.loadVar,hr,run_sizeOf hn,hl']
 |false=>
  rw [aF,dY] at hv
  obtain ⟨_,a,fz,⟨e9,h1,_⟩,h2,_⟩:=hq
  obtain ⟨y,hy,hvy⟩:=h2 _ _ hv
  refine ⟨y,?_,hvy⟩
  have hcell:w.cell? ⟨q.blk,q.off+o,none⟩=some y:=by simp only [World.cell?,h1];simpa using hy
  simp [Go.loadVar,hr,hcell]
theorem jT (h:HR P base ρ s w){b o:Nat}{vs cl:List Value}{l:Loc}(hl:ρ.at b=some l)(hs:storeCells s b o vs=some s')(hv:VRs ρ vs cl) :
  ∃ w',(Go.storeCells ⟨l.blk,l.off+o,none⟩ cl).run P w = .ok () w'∧Goes P base ρ s w ρ s' w':=by
 unfold storeCells at hs
 obtain ⟨hg,hs⟩:=au.1 hs
 simp only [Bool.and_eq_true] at hg
 obtain ⟨hft,hone⟩:=hg
 have hb:ak≤b:=Nat.le_of_ble_eq_true hft
 obtain ⟨⟨cs,e,f⟩,hc,hs⟩:=ah.1 hs
 obtain ⟨cs',hcs',hs⟩:=ah.1 hs
 cases hs
 rw [Gz] at hcs'
 obtain ⟨hlen,rfl⟩:=hcs'
 dsimp only at hlen
 obtain ⟨q,hq⟩:=h.rows b cs e f hc
 have:q=l:=by have:=hq.at_;rw [hl] at this;exact (Option.some.inj this).symm
 subst this
 obtain ⟨_,a,fz,⟨e9,h1,he9⟩,h2,h3,h4⟩:=hq
 have he9:=(he9 (.inr hb)).symm
 subst he9
 have hvl:=hv.length
 have hsz:q.off+o+cl.length≤a.size:=by
  by_cases h0:vs.length=0
  ·
   by_cases hcs:cs.length=0
   ·have ho:o=0:=by omega
    by_cases hf:f=0
    ·have:=(h4.1 hf);omega
    ·obtain ⟨n,_,_,h5,_⟩:=h4.2 hf
     omega
   ·have hlt:cs.length-1<cs.length:=by omega
    obtain ⟨y,hy,_⟩:=h2 (cs.length-1) _ (List.getElem?_eq_getElem hlt)
    have:=(Array.getElem?_eq_some_iff.1 hy).1
    omega
  ·have hlt:o+(vs.length-1)<cs.length:=by omega
   obtain ⟨y,hy,_⟩:=h2 (o+(vs.length-1)) _ (List.getElem?_eq_getElem hlt)
   have:=(Array.getElem?_eq_some_iff.1 hy).1
   omega
 have hrun:=gB P q.blk (q.off+o) e fz cl 0 a w h1 (by omega) (h3 hb) (xu hv hone)
 refine ⟨_,hrun,Goes.put h hb hc hl h1 (by simp;omega) (by simp;omega) ?_⟩
 intro j x hj
 have hj':=List.getElem?_eq_some_iff.1 hj
 simp only [Nat.add_zero]
 by_cases hj1:j<o
 ·
  have hx:cs[j]? = some x:=by
   rw [List.append_assoc,List.getElem?_append_left (by simp;omega),List.getElem?_take,if_pos hj1] at hj
   exact hj
  obtain ⟨y,hy,hvy⟩:=h2 j x hx
  refine ⟨y,?_,hvy⟩
  simp only [List.getElem?_toArray]
  rw [List.append_assoc,List.getElem?_append_left (by simp;omega),List.getElem?_take,if_pos (by omega)]
  simpa using hy
 ·by_cases hj2:j<o+vs.length
  ·have hx:vs[j-o]? = some x:=by
    rw [List.append_assoc,List.getElem?_append_right (by simp;omega),List.getElem?_append_left (by simp;omega)] at hj
    have:j-(List.take o cs).length=j-o:=by simp;omega
    rw [this] at hj
    exact hj
   obtain ⟨y,hy,hvy⟩:=hv.get hx
   refine ⟨y,?_,hvy⟩
   simp only [List.getElem?_toArray]
   rw [List.append_assoc,List.getElem?_append_right (by simp;omega),List.getElem?_append_left (by simp;omega)]
   have:q.off+j-(List.take (q.off+o) a.toList).length=j-o:=by simp;omega
   rw [this]
   exact hy
  ·have hx:cs[j]? = some x:=by
    rw [List.getElem?_append_right (by simp;omega),List.getElem?_drop] at hj
    have:o+vs.length+(j-(List.take o cs++vs).length)=j:=by simp;omega
    rw [this] at hj
    exact hj
   obtain ⟨y,hy,hvy⟩:=h2 j x hx
   refine ⟨y,?_,hvy⟩
   simp only [List.getElem?_toArray]
   have hya:=(Array.getElem?_eq_some_iff.1 hy).1
   rw [List.getElem?_append_right (by simp;omega),List.getElem?_drop]
   have:q.off+o+cl.length+(q.off+j-(List.take (q.off+o) a.toList++cl).length)=q.off+j:=by simp;omega
   rw [this]
   simpa using hy
theorem FY (h:HR P base ρ s w){t:TypeId}{b o:Nat}{v c:Value}{l:Loc}(hl:ρ.at b=some l)(hs:store P s t b o (cellsOf v)=some s')(hv:VR ρ v c) :
  ∃ w',(Go.storeVar t ⟨l.blk,l.off+o,none⟩ c).run P w = .ok () w'∧Goes P base ρ s w ρ s' w':=by
 unfold store at hs
 obtain ⟨n,hn,hs⟩:=ah.1 hs
 obtain ⟨hg,hs⟩:=au.1 hs
 have hlen:(cellsOf v).length=n:=by rw [aP] at hg;exact Nat.eq_of_beq_eq_true hg
 have hcv:=kG hv
 obtain ⟨w',hr,hgo⟩:=jT h hl hs hcv
 refine ⟨w',?_,hgo⟩
 have hcl:c.cells.size=n:=by have:=hcv.length;simp at this;omega
 simp [Go.storeVar,run_sizeOf hn,hcl,hr]
end
end Go.Ax
namespace Go.Ax
variable [Lo]
open Go
def EvR (ρ:Ren)(ev:Ev)(η:Operand→Value):Prop:=∀ x v,ev x=some v→VR ρ v (η x)
theorem EvR.mono {ρ ρ':Ren}(h:ρ.le ρ'){ev:Ev}{η:Operand→Value}(he:EvR ρ ev η):EvR ρ' ev η:=fun x v hx=>(he x v hx).mono h
def Gives (P:Program)(base:Nat)(ρ:Ren)(s:St)(w:World)(run:Result Next)(v:Value)(s':St):Prop:=
 ∃ ρ' w' c,(run = .ok (.value c) w'∨(run = .ok .skip w'∧c=undef))∧Goes P base ρ s w ρ' s' w'∧VR ρ' v c
def nJ (P:Program)(base:Nat)(ρ:Ren)(s:St)(w:World)(run:Result Next):Res→Prop
 |.val v s'=>Gives P base ρ s w run v s'
 |.call f args s'=>s'=s∧∃ aO,run = .ok (.enter f ⟨aO⟩) w∧VRs ρ args aO
 |.yield l args s'=>s'=s∧∃ q aO,ρ l=some q∧run=(Instr.yield q.blk ⟨aO⟩).run P w∧VRs ρ args aO
 |.defer f args s'=>s'=s∧∃ d first captured,run = .ok (.defer d) w∧d.target = .fn (.func f) ⟨captured⟩∧d.args=⟨first⟩∧VRs ρ args (first++captured)
section
variable {P:Program} {base:Nat} {ρ:Ren} {s s':St} {w w':World} {ev:Ev} {η:Operand→Value}
theorem aS (h:HR P base ρ s w){v c:Value}(hv:VR ρ v c):Gives P base ρ s w (.ok (.value c) w) v s:=⟨ρ,w,c,.inl rfl,Goes.refl h,hv⟩
theorem dX {ρ':Ren}(h:Goes P base ρ s w ρ' s' w'){v c:Value}(hv:VR ρ' v c):Gives P base ρ s w (.ok (.value c) w') v s':=⟨ρ',w',c,.inl rfl,h,hv⟩
theorem Cc {ρ':Ren}(h:Goes P base ρ s w ρ' s' w'):Gives P base ρ s w (.ok .skip w') unit s':=⟨ρ',w',undef,.inr ⟨rfl,rfl⟩,h,.tuple .nil⟩
theorem aU {v:Value}{s:St}{r:Res}(h:ret v s=some r):r = .val v s:=(Option.some.inj h).symm
theorem AQ (he:EvR ρ ev η):∀ {xs:List Operand} {vs:List Value},evs ev xs=some vs→VRs ρ vs (xs.map η)
 |[],vs,h=>by cases h;exact .nil
 |x::xs,vs,h=>by
  change aj (ev x) (fun v=>aj (evs ev xs) fun r=>some (v::r))=some vs at h
  obtain ⟨v,hv,h⟩:=ah.1 h
  obtain ⟨r,hr,h⟩:=ah.1 h
  cases h
  exact .cons (he x v hv) (AQ he hr)
theorem tV (h:HR P base ρ s w)(he:EvR ρ ev η)(C:Cfg){x:Operand}{r:Res}(hr:vY C ev s x=some r):nJ P base ρ s w (.ok (.value (η x)) w) r:=by
 obtain ⟨v,hv,hr⟩:=ah.1 hr
 rw [aU hr]
 exact aS h (he x v hv)
theorem Va (h:HR P base ρ s w)(he:EvR ρ ev η)(C:Cfg){c a b:Operand}{r:Res}(hr:UZ C ev s c a b=some r) :
  nJ P base ρ s w (Sem.run P (do pure (.value (if ←asBool (η c) then η a else η b))) w) r:=by
 obtain ⟨v,hv,hr⟩:=ah.1 hr
 have hc:=he c v hv
 generalize η c=q at hc
 cases hc with
 |bool t=>
  cases t
  ·simpa [asBool] using tV h he C (x:=b) hr
  ·simpa [asBool] using tV h he C (x:=a) hr
 |_=>cases hr
theorem VR.handle {t:TypeId}(hP:P.globals.size<bg):VR ρ (Ax.handle P t) (typeHandle P t):=by
 have:=VR.ptr (ρ:=ρ) (b:=P.globals.size) (o:=t) (l:=⟨P.globals.size,0,0⟩) (Ren.Ae hP)
 simpa [Ax.handle,typeHandle] using this
theorem VR.aaY (h:HR P base ρ s w)(l:Loc)(hl:l.off=0):VR (ρ.set s.next l) (Ax.ptr s.next 0) (.pointer (some ⟨l.blk,0,none⟩)):=by
 have:=VR.ptr (ρ:=ρ.set s.next l) (b:=s.next) (o:=0) (l:=l) (by rw [Ren.bJ h.next,Ren.cu])
 simpa [Ax.ptr,hl] using this
theorem LJ {t:TypeId}{z:List Value}(hz:zero P t=some z):t<P.types.size:=Nat.le_of_ble_eq_true (au.1 hz).1
theorem Ij {t:TypeId}{z:List Value}(hz:zero P t=some z):∃ i v,P.info? t=some i∧i.zero=some v∧v.cells.toList=z:=by
 have hz:=(au.1 hz).2
 cases hi:P.info? t with
 |none=>simp [hi] at hz
 |some i=>
  cases hv:i.zero with
  |none=>simp [hi,hv] at hz
  |some v=>exact ⟨i,v,rfl,hv,by simpa [hi,hv] using hz⟩
def nN (P:Program):Prop:=∀ (t:TypeId) (i:TypeInfo) (v:Value),t<P.types.size→P.info? t=some i→i.zero=some v→∀ ρ:Ren,VR ρ v v
theorem Qn (h:HR P base ρ s w)(hZ:nN P){t:TypeId}(C:Cfg)(hC:C.P=P){r:Res}(hr:abA C s t=some r) :
  nJ P base ρ s w (Sem.run P (do pure (.value (←Instr.alloc t true (.tuple #[])))) w) r:=by
 unfold abA at hr
 rw [hC] at hr
 obtain ⟨z,hz,hr⟩:=ah.1 hr
 obtain ⟨i,v,h1,h2,rfl⟩:=Ij hz
 rw [aU hr]
 have hv:=hZ t i v (LJ hz) h1 h2 ρ
 have hg:=Goes.newRow (e:=t) h (a:=v.cells) (cs:=v.cells.toList) (by
  have:=kG hv
  have e:cellsOf v=v.cells.toList:=by cases v <;> rfl
  rwa [e] at this)
 have hrun:Sem.run P (do pure (Next.value (←Instr.alloc t true (.tuple #[])))) w = .ok (.value (.pointer (some ⟨w.heap.size,0,none⟩))) (w.alloc (.cells v.cells t)):=by
  simp [Instr.alloc,zeroValue,Go.typeInfo,h1,h2,newVar,newRow]
 rw [hrun]
 exact dX hg (VR.aaY h ⟨w.heap.size,0,0⟩ rfl)
theorem XA (h:HR P base ρ s w)(he:EvR ρ ev η){t:TypeId}{x:Operand}(C:Cfg){r:Res}(hr:aiz C ev s t x=some r) :
  nJ P base ρ s w (Sem.run P (do pure (.value (←Instr.box t (η x)))) w) r:=by
 unfold aiz at hr
 obtain ⟨v,hv,hr⟩:=ah.1 hr
 rw [aU hr]
 have hg:=Goes.newRow (e:=t) h (a:=(η x).cells) (kG (he x v hv))
 have hrun:Sem.run P (do pure (Next.value (←Instr.box t (η x)))) w = .ok (.value (.pointer (some ⟨w.heap.size,0,none⟩))) (w.alloc (.cells (η x).cells t)):=by
  simp [Instr.box,newVar,newRow]
 rw [hrun]
 exact dX hg (VR.aaY h ⟨w.heap.size,0,0⟩ rfl)
theorem vV (he:EvR ρ ev η){a:Operand}{k:Addr→Option Res}{r:Res}(hr:qP ev a k=some r) :
  ∃ b o l,ρ.at b=some l∧η a = .pointer (some ⟨l.blk,l.off+o,none⟩)∧k ⟨b,o,none⟩=some r:=by
 obtain ⟨v,hv,hr⟩:=ah.1 hr
 have hc:=he a v hv
 generalize η a=q at hc
 cases hc <;> first|exact ⟨_,_,_,by assumption,rfl,hr⟩|cases hr
theorem Tz (h:HR P base ρ s w)(he:EvR ρ ev η){t:TypeId}{a:Operand}(C:Cfg)(hC:C.P=P){r:Res}(hr:Vg C ev s t a=some r) :
  nJ P base ρ s w (Sem.run P (do pure (.value (←Instr.loadAt t (η a)))) w) r:=by
 obtain ⟨b,o,l,hl,hη,hr⟩:=vV he hr
 obtain ⟨v,hv,hr⟩:=ah.1 hr
 rw [aU hr]
 rw [hC] at hv
 obtain ⟨c,hrun,hc⟩:=lN h hl hv
 simp only [hη,Instr.loadAt,Instr.sureAddr,Sem.run_bind,Sem.run_pure,Result.andThen_ok,hrun]
 exact aS h hc
theorem Qy (h:HR P base ρ s w)(he:EvR ρ ev η){t:TypeId}{a x:Operand}(C:Cfg)(hC:C.P=P){r:Res}(hr:D5 C ev s t a x=some r) :
  nJ P base ρ s w (Sem.run P (do Instr.storeAt t (η a) (η x);pure .skip) w) r:=by
 obtain ⟨b,o,l,hl,hη,hr⟩:=vV he hr
 obtain ⟨v,hv,hr⟩:=ah.1 hr
 obtain ⟨s',hs,hr⟩:=ah.1 hr
 rw [aU hr]
 rw [hC] at hs
 obtain ⟨w',hrun,hg⟩:=FY h hl hs (he x v hv)
 simp only [hη,Instr.storeAt,Instr.sureAddr,Sem.run_bind,Sem.run_pure,Result.andThen_ok,hrun]
 exact Cc hg
theorem rC {t:TypeId}{i:Nat}{f:Field}(hf:fieldInfo P t i=some f):∃ fs,P.underlying t=some (.struct fs)∧fs[i]? = some f:=by
 unfold fieldInfo at hf
 split at hf
 ·rename_i fs hu
  rw [dY] at hf
  exact ⟨fs,hu,by simpa using hf⟩
 ·cases hf
theorem EI (h:HR P base ρ s w)(he:EvR ρ ev η){t:TypeId}{x:Operand}{i:Nat}(C:Cfg)(hC:C.P=P){r:Res}(hr:sD C ev s t x i=some r) :
  nJ P base ρ s w (Sem.run P (do pure (.value (←Instr.fieldAt t (η x) i))) w) r:=by
 obtain ⟨b,o,l,hl,hη,hr⟩:=vV he hr
 obtain ⟨f,hf,hr⟩:=ah.1 hr
 obtain ⟨n,hn,hr⟩:=ah.1 hr
 obtain ⟨hg,hr⟩:=au.1 hr
 rw [aU hr]
 rw [hC] at hf hn
 obtain ⟨fs,hu,hfs⟩:=rC hf
 have hn0:n≠0:=by
  rintro rfl
  simp at hg
 simp only [hη,Instr.fieldAt,run_underlying hu,hfs,Instr.sureAddr,fieldPlace,run_sizeOf hn,hn0,if_false,Sem.run_bind,Sem.run_pure,Result.andThen_ok,add_eq]
 refine aS h ?_
 have:=VR.ptr (ρ:=ρ) (b:=b) (o:=o+f.offset) (l:=l) hl
 simpa [ptr,Nat.add_assoc] using this
theorem sJ {t:TypeId}{cs cl:List Value}{off:Nat}{v:Value}(hv:part P t cs off=some v)(hc:VRs ρ cs cl):∃ c,(Go.part t ⟨cl⟩ off).run P w = .ok c w∧VR ρ v c:=by
 unfold Ax.part at hv
 obtain ⟨g,hg,hv⟩:=ah.1 hv
 have hr:=Jm (P:=P) (w:=w) hg
 cases g with
 |true=>
  rw [aH] at hv
  obtain ⟨n,hn,hv⟩:=ah.1 hv
  cases hv
  refine ⟨.agg ⟨(cl.drop off).take n⟩,?_,?_⟩
  ·simp [Go.part,hr,run_sizeOf hn]
  ·rw [lC,iY]
   exact .agg ((hc.drop off).take n)
 |false=>
  rw [aF,dY] at hv
  obtain ⟨c,h1,h2⟩:=hc.get hv
  refine ⟨c,?_,h2⟩
  simp [Go.part,hr,h1]
theorem O9 (h:HR P base ρ s w)(he:EvR ρ ev η){t:TypeId}{x:Operand}{i:Nat}(C:Cfg)(hC:C.P=P){r:Res}(hr:PN C ev s t x i=some r) :
  nJ P base ρ s w (Sem.run P (do pure (.value (←Instr.field t (η x) i))) w) r:=by
 obtain ⟨v,hv,hr⟩:=ah.1 hr
 have hc:=he x v hv
 cases hq:η x with
 |agg cl=>
  rw [hq] at hc
  cases hc with
  |agg ha=>
   obtain ⟨f,hf,hr⟩:=ah.1 hr
   obtain ⟨y,hy,hr⟩:=ah.1 hr
   rw [aU hr]
   rw [hC] at hf hy
   obtain ⟨fs,hu,hfs⟩:=rC hf
   obtain ⟨c,hrun,hcv⟩:=sJ (w:=w) hy ha
   simp only [Instr.field,run_underlying hu,hfs,asAgg,Sem.run_bind,Sem.run_pure,Result.andThen_ok,hrun]
   exact aS h hcv
 |_=>
  rw [hq] at hc
  cases hc <;> cases hr
end
end Go.Ax
namespace Go.Ax
variable [Lo]
open Go
theorem RU (off:Nat)(vs cells:Array Value)(h:off+vs.size≤cells.size) :
  (vs.zipIdx.foldl (fun cs (x:Value × Nat)=>cs.setIfInBounds (off+x.2) x.1) cells).toList=cells.toList.take off++vs.toList++cells.toList.drop (off+vs.size):=by
 rw [←Array.foldl_toList,Array.toList_zipIdx]
 obtain ⟨h1,h2⟩:=Great.foldl_set off vs.toList 0 cells
 apply List.ext_getElem?
 intro k
 rw [Array.getElem?_toList,h2 k]
 simp only [Nat.add_zero,Array.length_toList]
 by_cases ha:k<off
 ·rw [if_neg (by omega),List.append_assoc,List.getElem?_append_left (by simp;omega),List.getElem?_take,if_pos ha]
  simp
 ·by_cases hb:k<off+vs.size
  ·rw [if_pos (by omega),List.append_assoc,List.getElem?_append_right (by simp;omega),List.getElem?_append_left (by simp;omega)]
   congr 1
   simp;omega
  ·rw [if_neg (by omega),List.getElem?_append_right (by simp;omega),List.getElem?_drop]
   have:off+vs.size+(k-(List.take off cells.toList++vs.toList).length)=k:=by simp;omega
   rw [this]
   simp
inductive PsR (ρ:Ren):List (Nat × Value)→List (Nat × Value)→Prop
 |nil:PsR ρ [] []
 |cons {i:Nat} {v c:Value} {l l':List (Nat × Value)} (h:VR ρ v c) (hl:PsR ρ l l'):PsR ρ ((i,v)::l) ((i,c)::l')
section
variable {P:Program} {base:Nat} {ρ:Ren} {s s':St} {w w':World} {ev:Ev} {η:Operand→Value}
theorem qA (he:EvR ρ ev η):∀ {xs:List (Nat × Operand)} {vs:List (Nat × Value)},sS ev xs=some vs→PsR ρ vs (xs.map fun (i,x)=>(i,η x))
 |[],vs,h=>by cases h;exact .nil
 |(i,x)::xs,vs,h=>by
  change aj (ev x) (fun v=>aj (sS ev xs) fun r=>some ((i,v)::r))=some vs at h
  obtain ⟨v,hv,h⟩:=ah.1 h
  obtain ⟨r,hr,h⟩:=ah.1 h
  cases h
  exact .cons (he x v hv) (qA he hr)
theorem VRs.splice {vs vs' cs cs' r:List Value}{o:Nat}(hv:VRs ρ vs vs')(hc:VRs ρ cs cs')(h:Ax.splice vs o cs=some r):VRs ρ r (cs'.take o++vs'++cs'.drop (o+vs'.length)):=by
 rw [Gz] at h
 obtain ⟨_,rfl⟩:=h
 rw [hv.length]
 exact ((hc.take o).append hv).append (hc.drop _)
theorem rZ {place:Nat→Option (Nat × Nat)}:∀ {ps ps':List (Nat × Value)} {z r:List Value} {zc:Array Value},PsR ρ ps ps'→VRs ρ z zc.toList→Ax.fill place ps z=some r→
  ∃ rc,Instr.fill place zc ps'=some rc∧VRs ρ r rc.toList
 |[],_,z,r,zc,hp,hz,h=>by
  cases hp
  cases h
  exact ⟨zc,rfl,hz⟩
 |(i,v)::ps,_,z,r,zc,hp,hz,h=>by
  cases hp with
  |cons hv hl=>
   rename_i c l'
   change aj (place i) (fun q=>Ax.guard (Nat.beq (aV (cellsOf v)) q.2) (aj (Ax.splice (cellsOf v) q.1 z) (Ax.fill place ps)))=some r at h
   obtain ⟨⟨off,n⟩,hpl,h⟩:=ah.1 h
   obtain ⟨hg,h⟩:=au.1 h
   obtain ⟨z',hz',h⟩:=ah.1 h
   have hlen:(cellsOf v).length=n:=by rw [aP] at hg;exact Nat.eq_of_beq_eq_true hg
   have hcv:=kG hv
   have hcl:=hcv.length
   have hzl:=hz.length
   have hfit:=(Gz _ _ _ _).1 hz'
   simp at hcl hzl
   dsimp only at hfit
   have e:=RU off c.cells zc (by omega)
   have hz2:VRs ρ z' (c.cells.zipIdx.foldl (fun cs (x:Value × Nat)=>cs.setIfInBounds (off+x.2) x.1) zc).toList:=by
    rw [e]
    have:=VRs.splice hcv hz hz'
    simpa using this
   obtain ⟨rc,h1,h2⟩:=rZ hl hz2 h
   refine ⟨rc,?_,h2⟩
   simp only [Instr.fill,hpl]
   rw [if_neg (by simp;omega)]
   exact h1
theorem Kt {p q:Nat→Option (Nat × Nat)}(h:∀ i x,p i=some x→q i=some x):∀ {ps:List (Nat × Value)} {z r:List Value},Ax.fill p ps z=some r→Ax.fill q ps z=some r
 |[],z,r,hr=>hr
 |(i,v)::ps,z,r,hr=>by
  change aj (p i) (fun q=>Ax.guard (Nat.beq (aV (cellsOf v)) q.2) (aj (Ax.splice (cellsOf v) q.1 z) (Ax.fill p ps)))=some r at hr
  change aj (q i) (fun x=>Ax.guard (Nat.beq (aV (cellsOf v)) x.2) (aj (Ax.splice (cellsOf v) x.1 z) (Ax.fill q ps)))=some r
  obtain ⟨x,hx,hr⟩:=ah.1 hr
  obtain ⟨hg,hr⟩:=au.1 hr
  obtain ⟨z',hz,hr⟩:=ah.1 hr
  exact ah.2 ⟨x,h i x hx,au.2 ⟨hg,ah.2 ⟨z',hz,Kt h hr⟩⟩⟩
theorem oH (hZ:nN P){t:TypeId}{z:List Value}(hz:zero P t=some z)(ρ:Ren):∃ i v,P.info? t=some i∧i.zero=some v∧v.cells.toList=z∧VRs ρ z v.cells.toList:=by
 obtain ⟨i,v,h1,h2,h3⟩:=Ij hz
 refine ⟨i,v,h1,h2,h3,?_⟩
 have:=kG (hZ t i v (LJ hz) h1 h2 ρ)
 have e:cellsOf v=v.cells.toList:=by cases v <;> rfl
 rw [e] at this
 rw [←h3];exact this
theorem GZ:∀ (l:List Field),(∀ f∈l,∃ n,size P f.type=some n)→(l.mapM (m:=Sem) fun f=>do pure (f.offset,←Go.sizeOf f.type)).run P w = .ok (l.map fun f=>(f.offset,P.cellsOf f.type)) w
 |[],_=>rfl
 |f::l,h=>by
  obtain ⟨n,hn⟩:=h f (by simp)
  have ih:=GZ l fun g hg=>h g (by simp [hg])
  obtain ⟨i,h1,h2⟩:=mP hn
  have hc:P.cellsOf f.type=n:=by simp [Program.cellsOf,h1,h2]
  simp only [List.mapM_cons,Sem.run_bind,run_sizeOf hn,Result.andThen_ok,Sem.run_pure,ih,List.map_cons,hc]
def MK (P:Program):Prop:=∀ (t:TypeId) (fs:Array Field),t<P.types.size→P.underlying t=some (.struct fs)→∀ f∈fs.toList,∃ n,size P f.type=some n
theorem QG (h:HR P base ρ s w)(he:EvR ρ ev η)(hZ:nN P)(hF:MK P){t:TypeId}{parts:Array (Nat × Operand)}(C:Cfg)(hC:C.P=P){r:Res}(hr:Le C ev s t parts=some r) :
  nJ P base ρ s w (Sem.run P (do pure (.value (←Instr.build t (parts.map fun (i,x)=>(i,η x))))) w) r:=by
 unfold Le at hr
 rw [hC] at hr
 obtain ⟨pl,hpl,hr⟩:=ah.1 hr
 obtain ⟨ps,hps,hr⟩:=ah.1 hr
 obtain ⟨z,hz,hr⟩:=ah.1 hr
 obtain ⟨l,hl,hr⟩:=ah.1 hr
 rw [aU hr]
 have hp:=qA he hps
 obtain ⟨i,v,h1,h2,h3,h4⟩:=oH hZ hz ρ
 have hzv:(zeroValue t).run P w = .ok v w:=by simp [zeroValue,Go.typeInfo,h1,h2]
 unfold aff at hpl
 split at hpl
 ·rename_i fs hu
  cases hpl
  have hl':Ax.fill (fun i=>(fs.map fun f=>(f.offset,P.cellsOf f.type))[i]?) ps z=some l:=by
   refine Kt (fun i x hx=>?_) hl
   obtain ⟨f,hf,hx⟩:=ah.1 hx
   obtain ⟨n,hn,hx⟩:=ah.1 hx
   cases hx
   rw [dY] at hf
   obtain ⟨i',h1',h2'⟩:=mP hn
   have hf':fs[i]? = some f:=by simpa using hf
   simp [hf',Program.cellsOf,h1',h2']
  obtain ⟨rc,h5,h6⟩:=rZ hp h4 hl'
  have hm:(fs.mapM (m:=Sem) fun f=>do pure (f.offset,←Go.sizeOf f.type)).run P w = .ok (fs.map fun f=>(f.offset,P.cellsOf f.type)) w:=by
   have:=GZ (P:=P) (w:=w) fs.toList (hF t fs (LJ hz) hu)
   rw [Array.mapM_eq_mapM_toList,Sem.run_map,this]
   show Result.ok _ w=_
   congr 1
   apply Array.ext'
   simp
  have hrun:Sem.run P (do pure (Next.value (←Instr.build t (parts.map fun (i,x)=>(i,η x))))) w = .ok (.value (.agg rc)) w:=by
   simp only [Instr.build,hzv,run_underlying hu,hm,Sem.run_bind,Result.andThen_ok,Sem.run_pure,Array.toList_map]
   rw [h5]
   rfl
  rw [hrun]
  exact aS h (by
   have:=VR.agg h6
   simpa [zJ] using this)
 ·rename_i k e hu
  obtain ⟨n,hsz,hpl⟩:=ah.1 hpl
  cases hpl
  obtain ⟨rc,h5,h6⟩:=rZ hp h4 hl
  have hrun:Sem.run P (do pure (Next.value (←Instr.build t (parts.map fun (i,x)=>(i,η x))))) w = .ok (.value (.agg rc)) w:=by
   simp only [Instr.build,hzv,run_underlying hu,run_sizeOf hsz,Sem.run_bind,Result.andThen_ok,Sem.run_pure,Array.toList_map]
   rw [show (fun i=>some (i*n,n))=Eu n from rfl,h5]
   rfl
  rw [hrun]
  exact aS h (by
   have:=VR.agg h6
   simpa [zJ] using this)
 ·cases hpl
theorem yh (n:Nat)(l:List Value):(repeatL n l).length=n*l.length:=by
 induction n with
 |zero=>rw [Nat.zero_mul];rfl
 |succ n ih=>show (dG l (repeatL n l)).length=_;rw [aX,List.length_append,ih,Nat.succ_mul];omega
theorem Ux (n:Nat)(l:List Value):∀ k,k<n*l.length→(repeatL n l)[k]? = l[k%l.length]?:=by
 induction n with
 |zero=>intro k hk;omega
 |succ n ih=>
  intro k hk
  show (dG l (repeatL n l))[k]? = _
  rw [aX]
  by_cases h:k<l.length
  ·rw [List.getElem?_append_left h,Nat.mod_eq_of_lt h]
  ·rw [List.getElem?_append_right (by omega),ih _ (by rw [Nat.succ_mul] at hk;omega)]
   rw [Nat.mod_eq_sub_mod (show l.length≤k by omega)]
theorem lH {z:List Value}{zc:Array Value}(hz:VRs ρ z zc.toList)(n:Nat)(hpos:0<z.length∨n=0) :
  VRs ρ (repeatL n z) ((Array.range (n*zc.size)).map fun i=>zc[i%zc.size]!).toList:=by
 have hl:=hz.length
 simp at hl
 refine VRs.Xe (by simp [yh,hl]) fun k v hk=>?_
 have hlt:=(List.getElem?_eq_some_iff.1 hk).1
 rw [yh] at hlt
 have hz0:0<z.length:=by
  rcases hpos with h|h
  ·exact h
  ·subst h;omega
 rw [Ux n z k hlt] at hk
 obtain ⟨c,hc,hv⟩:=hz.get hk
 refine ⟨c,?_,hv⟩
 have hlt2:k%zc.size<zc.size:=Nat.mod_lt _ (by omega)
 have hk2:k<n*zc.size:=by rw [hl];exact hlt
 have hc':zc[k%zc.size]? = some c:=by rw [hl];simpa using hc
 simp [hk2]
 rw [getElem!_def,hc']
theorem BN (h:HR P base ρ s w)(he:EvR ρ ev η)(hZ:nN P){t:TypeId}{len:Nat}{parts:Array (Nat × Operand)}(C:Cfg)(hC:C.P=P){r:Res}(hr:lQ C ev s t len parts=some r) :
  nJ P base ρ s w (Sem.run P (do pure (.value (←Instr.buildSlice t len (parts.map fun (i,x)=>(i,η x))))) w) r:=by
 unfold lQ at hr
 rw [hC] at hr
 split at hr
 ·rename_i e hu
  obtain ⟨n,hn,hr⟩:=ah.1 hr
  obtain ⟨z,hz,hr⟩:=ah.1 hr
  obtain ⟨hg,hr⟩:=au.1 hr
  obtain ⟨ps,hps,hr⟩:=ah.1 hr
  obtain ⟨l,hl,hr⟩:=ah.1 hr
  rw [aU hr]
  simp only [Bool.and_eq_true] at hg
  obtain ⟨⟨hg1,hg2⟩,hg3⟩:=hg
  have hzn:z.length=n:=by rw [aP] at hg1;exact Nat.eq_of_beq_eq_true hg1
  have hn0:0<n:=Nat.le_of_ble_eq_true hg2
  have hbig:len*n≤16777216:=Nat.le_of_ble_eq_true hg3
  have hp:=qA he hps
  obtain ⟨i,v,h1,h2,h3,h4⟩:=oH hZ hz ρ
  have hzv:(zeroValue e).run P w = .ok v w:=by simp [zeroValue,Go.typeInfo,h1,h2]
  have hvn:v.cells.size=n:=by have:=h4.length;simp at this;omega
  have hzz:VRs ρ (repeatL len z) ((Array.range (len*n)).map fun i=>v.cells[i%v.cells.size]!).toList:=by
   have:=lH h4 len (.inl (by omega))
   have e0:len*v.cells.size=len*n:=by rw [hvn]
   rwa [e0] at this
  obtain ⟨rc,h5,h6⟩:=rZ hp hzz hl
  have hrun:Sem.run P (do pure (Next.value (←Instr.buildSlice t len (parts.map fun (i,x)=>(i,η x))))) w = .ok (.value (.slice (some ⟨w.heap.size,0,none⟩) len len)) (w.alloc (.cells rc e)):=by
   have hb:¬(len*n>2 ^ 24):=by omega
   by_cases h0:len*n=0
   ·have hlen:len=0:=by
     rcases Nat.mul_eq_zero.1 h0 with h|h
     ·exact h
     ·omega
    subst hlen
    simp only [Nat.zero_mul,Array.range_zero',Array.map_empty] at h5
    simp only [Instr.buildSlice,run_underlying hu,run_sizeOf hn,Sem.run_bind,Result.andThen_ok,Sem.run_pure,Array.toList_map,Nat.zero_mul,Array.range_zero',Array.map_empty]
    simp
    rw [show (fun i=>some (i*n,n))=Eu n from rfl,h5]
    simp [newRow]
   ·simp only [Instr.buildSlice,run_underlying hu,run_sizeOf hn,hzv,Sem.run_bind,Result.andThen_ok,Sem.run_pure,Array.toList_map,if_neg hb,if_neg h0]
    rw [show (fun i=>some (i*n,n))=Eu n from rfl,h5]
    simp [newRow]
  rw [hrun]
  have hg:=Goes.newRow (e:=e) h h6
  refine dX hg ?_
  have:=VR.slice (ρ:=ρ.set s.next ⟨w.heap.size,0,0⟩) (b:=s.next) (o:=0) (n:=len) (c:=len) (l:=⟨w.heap.size,0,0⟩) (by rw [Ren.bJ h.next,Ren.cu])
  have hc:capOf ⟨w.heap.size,0,0⟩ len=len:=by
   unfold capOf;rw [if_neg];unfold aQ
   have:len*1≤len*n:=Nat.mul_le_mul_left _ hn0
   omega
  rw [hc] at this
  exact this
 ·cases hr
end
end Go.Ax
namespace Go.Ax
variable [Lo]
open Go
theorem jk {a b:IntKind}(h:dU a b=true):a=b:=by cases a <;> cases b <;> first|rfl|cases h
theorem jO {n:Nat}(h:n<9223372036854775808):IntKind.wrap .i64 (Int.ofNat n)=Int.ofNat n:=by
 have e:(n:Int)%18446744073709551616=n:=by omega
 have h2:¬((n:Int)≥9223372036854775808):=by omega
 show (if (true&&decide ((n:Int)%18446744073709551616≥9223372036854775808))=true then (n:Int)%18446744073709551616-18446744073709551616 else (n:Int)%18446744073709551616)=(n:Int)
 simp only [e,h2,decide_false,Bool.and_false,Bool.false_eq_true,if_false]
theorem nV {k:IntKind}(hk:k.signed=false)(n:Nat):IntKind.wrap k (Int.ofNat n)=Int.ofNat (n%2 ^ k.bits):=by
 unfold IntKind.wrap
 simp [hk]
theorem XH (k:IntKind)(n:Nat):aag k n=k.wrap (Int.ofNat n):=by
 match k with
 |.i64=>
  show sel (Nat.ble 9223372036854775808 n) (IntKind.wrap .i64 (Int.ofNat n)) (Int.ofNat n)=_
  rw [aC]
  by_cases h:Nat.ble 9223372036854775808 n=true
  ·rw [if_pos h]
  ·rw [if_neg h,jO]
   have:¬(9223372036854775808≤n):=fun h'=>h (Nat.ble_eq_true_of_le h')
   omega
 |.u8=>
  show Int.ofNat (Nat.mod n 256)=_
  rw [nV rfl]
  rfl
 |.u64=>
  show Int.ofNat (Nat.mod n 18446744073709551616)=_
  rw [nV rfl]
  rfl
 |.i8|.i16|.i32|.u16|.u32=>rfl
theorem wrap_eq (k:IntKind)(n:Int):wrap k n=k.wrap n:=by
 cases n with
 |ofNat n=>exact XH k n
 |negSucc n=>rfl
theorem ZK (a b:Nat):subNat a b=(a:Int)-b:=by
 unfold subNat
 rw [aC]
 split
 ·rename_i h
  have:=Nat.le_of_ble_eq_true h
  show ((a-b:Nat):Int)=_
  omega
 ·rename_i h
  have:¬(b≤a):=fun h'=>h (Nat.ble_eq_true_of_le h')
  show Int.negSucc ((b-a)-1)=_
  rw [Int.negSucc_eq]
  omega
theorem agL (a b:Int):Wy a b=a+b:=by cases a <;> cases b <;> rfl
theorem MB (a b:Int):YS a b=a-b:=by
 cases a <;> cases b <;> first|exact ZK _ _|rfl
theorem agd (a b:Int):adk a b=a*b:=by
 cases a <;> cases b <;> first|rfl|skip
theorem agA (a b:Int):alZ a b=a.tdiv b:=by cases a <;> cases b <;> rfl
theorem ahJ (a b:Int):ace a b=a.tmod b:=by cases a <;> cases b <;> rfl
theorem vM (a b:Int):eqI a b=decide (a=b):=by
 cases a with
 |ofNat a=>cases b with
  |ofNat b=>
   show Nat.beq a b=_
   rw [Bool.eq_iff_iff,Nat.beq_eq]
   simp
   omega
  |negSucc b=>rfl
 |negSucc a=>cases b with
  |ofNat b=>rfl
  |negSucc b=>
   show Nat.beq a b=_
   rw [Bool.eq_iff_iff,Nat.beq_eq]
   simp
theorem WS (a b:Int):ltI a b=decide (a<b):=by
 cases a with
 |ofNat a=>cases b with
  |ofNat b=>
   show Nat.ble (a+1) b=_
   rw [Bool.eq_iff_iff,Nat.ble_eq]
   simp
   omega
  |negSucc b=>
   show false=_
   symm
   rw [decide_eq_false_iff_not]
   simp only [Int.ofNat_eq_natCast]
   omega
 |negSucc a=>cases b with
  |ofNat b=>
   show true=_
   symm
   rw [decide_eq_true_iff]
   simp only [Int.ofNat_eq_natCast]
   omega
  |negSucc b=>
   show Nat.ble (b+1) a=_
   rw [Bool.eq_iff_iff,Nat.ble_eq,decide_eq_true_iff]
   omega
theorem aeT (a b:Int):leI a b=decide (a≤b):=by
 cases a with
 |ofNat a=>cases b with
  |ofNat b=>
   show Nat.ble a b=_
   rw [Bool.eq_iff_iff,Nat.ble_eq]
   simp
  |negSucc b=>
   show false=_
   symm
   rw [decide_eq_false_iff_not]
   simp only [Int.ofNat_eq_natCast]
   omega
 |negSucc a=>cases b with
  |ofNat b=>
   show true=_
   symm
   rw [decide_eq_true_iff]
   simp only [Int.ofNat_eq_natCast]
   omega
  |negSucc b=>
   show Nat.ble b a=_
   rw [Bool.eq_iff_iff,Nat.ble_eq,decide_eq_true_iff]
   omega
theorem tZ {k:IntKind}{a:Nat}(h:a<pR k):pR k=2 ^ k.bits∧k.signed=false:=by
 cases k <;> first|exact ⟨rfl,rfl⟩|exact absurd h (Nat.not_lt_zero _)
theorem lu {k:IntKind}{a:Nat}(h:a<pR k):(BitVec.ofInt k.bits (Int.ofNat a)).toNat=a:=by
 rw [(tZ h).1] at h
 simp
 exact Nat.mod_eq_of_lt h
theorem wrap_small {k:IntKind}{a:Nat}(h:a<pR k):k.wrap (a:Int)=a:=by
 have:=tZ h
 rw [show (a:Int)=Int.ofNat a from rfl,nV this.2,Nat.mod_eq_of_lt (by rw [←this.1];exact h)]
theorem wO {k:IntKind}(h:mF k=true):pR k=2 ^ k.bits∧0<pR k:=by
 cases k <;> first|(exact Bool.noConfusion (show false=true from h))|(constructor <;> decide)
theorem uy {op:Nat→Nat→Nat}{k:IntKind}{a b:Int}{v:Value}(h:KZ op k a b=some v) :
  ∃ a' b' x y:Nat,a=Int.ofNat a'∧b=Int.ofNat b'∧a'%pR k=x∧b'%pR k=y∧x<pR k∧y<pR k∧mF k=true∧v = .int k (Int.ofNat (op x y)):=by
 cases a with
 |negSucc a=>cases h
 |ofNat a=>cases b with
  |negSucc b=>cases h
  |ofNat b=>
   obtain ⟨hg,h⟩:=au.1 h
   cases h
   exact ⟨a,b,_,_,rfl,rfl,rfl,rfl,Nat.mod_lt _ (wO hg).2,Nat.mod_lt _ (wO hg).2,hg,rfl⟩
theorem lF {k:IntKind}{a:Nat}(hk:mF k=true):BitVec.ofInt k.bits (Int.ofNat a)=BitVec.ofInt k.bits (Int.ofNat (a%pR k)):=by
 apply BitVec.eq_of_toNat_eq
 rw [(wO hk).1]
 simp
 rw [show ((a:Int)%2 ^ k.bits)=((a%2 ^ k.bits:Nat):Int) by push_cast;rfl]
 rfl
section
variable {P:Program} {w:World}
theorem UG {op:BinOp}{k:IntKind}{a b:Int}{v:Value}(t:TypeId)(h:abG op k a b=some v)(h1:op ≠ .shl)(h2:op ≠ .shr) :
  (Go.binOp op t (.int k a) (.int k b)).run P w = .ok v w∧∀ ρ,VR ρ v v:=by
 have hand:∀ {x y:Nat},x<pR k→y<pR k→x &&& y<pR k:=fun hx hy=>by
  rw [(tZ hx).1] at *;exact Nat.and_lt_two_pow _ hy
 cases op
 case add=>cases h;refine ⟨?_,fun ρ=>.int _ _⟩;simp [Go.binOp,Op.intArith,wrap_eq,agL]
 case sub=>cases h;refine ⟨?_,fun ρ=>.int _ _⟩;simp [Go.binOp,Op.intArith,wrap_eq,MB]
 case mul=>cases h;refine ⟨?_,fun ρ=>.int _ _⟩;simp [Go.binOp,Op.intArith,wrap_eq,agd]
 case quo=>
  obtain ⟨hg,h⟩:=au.1 h
  cases h
  rw [vM] at hg
  refine ⟨?_,fun ρ=>.int _ _⟩
  simp at hg
  simp [Go.binOp,Op.intDiv,wrap_eq,agA,hg]
 case rem=>
  obtain ⟨hg,h⟩:=au.1 h
  cases h
  rw [vM] at hg
  refine ⟨?_,fun ρ=>.int _ _⟩
  simp at hg
  simp [Go.binOp,Op.intDiv,ahJ,hg]
 case and=>
  obtain ⟨a',b',x,y,rfl,rfl,ha',hb',hx,hy,hwk,rfl⟩:=uy h
  refine ⟨?_,fun ρ=>.int _ _⟩
  have e:(BitVec.ofInt k.bits (Int.ofNat a') &&& BitVec.ofInt k.bits (Int.ofNat b')).toNat=x &&& y:=by rw [BitVec.toNat_and,lF hwk (a:=a'),lF hwk (a:=b'),ha',hb',lu hx,lu hy]
  simp only [Go.binOp,Op.intBits,ne_eq,not_true_eq_false,if_false,e,Sem.run_pure,wrap_small (hand hx hy)]
  rfl
 case or=>
  obtain ⟨a',b',x,y,rfl,rfl,ha',hb',hx,hy,hwk,rfl⟩:=uy h
  refine ⟨?_,fun ρ=>.int _ _⟩
  have hor:x ||| y<pR k:=by
   have:=(tZ hx).1
   rw [this] at hx hy ⊢;exact Nat.or_lt_two_pow hx hy
  have e:(BitVec.ofInt k.bits (Int.ofNat a') ||| BitVec.ofInt k.bits (Int.ofNat b')).toNat=x ||| y:=by rw [BitVec.toNat_or,lF hwk (a:=a'),lF hwk (a:=b'),ha',hb',lu hx,lu hy]
  simp only [Go.binOp,Op.intBits,ne_eq,not_true_eq_false,if_false,e,Sem.run_pure,wrap_small hor]
  rfl
 case xor=>
  obtain ⟨a',b',x,y,rfl,rfl,ha',hb',hx,hy,hwk,rfl⟩:=uy h
  refine ⟨?_,fun ρ=>.int _ _⟩
  have hor:x ^^^ y<pR k:=by
   have:=(tZ hx).1
   rw [this] at hx hy ⊢;exact Nat.xor_lt_two_pow hx hy
  have e:(BitVec.ofInt k.bits (Int.ofNat a') ^^^ BitVec.ofInt k.bits (Int.ofNat b')).toNat=x ^^^ y:=by rw [BitVec.toNat_xor,lF hwk (a:=a'),lF hwk (a:=b'),ha',hb',lu hx,lu hy]
  simp only [Go.binOp,Op.intBits,ne_eq,not_true_eq_false,if_false,e,Sem.run_pure,wrap_small hor]
  rfl
 case andNot=>
  obtain ⟨a',b',x,y,rfl,rfl,ha',hb',hx,hy,hwk,rfl⟩:=uy (op:=fun a b=>Nat.xor a (Nat.land a b)) (show KZ _ k a b=some v from h)
  refine ⟨?_,fun ρ=>.int _ _⟩
  have hor:x ^^^ (x &&& y)<pR k:=by
   have:=(tZ hx).1
   have h3:=hand hx hy
   rw [this] at hx h3 ⊢;exact Nat.xor_lt_two_pow hx h3
  have hb:=(tZ hx).1
  have e:(BitVec.ofInt k.bits (Int.ofNat a') &&& ~~~ BitVec.ofInt k.bits (Int.ofNat b')).toNat=x ^^^ (x &&& y):=by
   rw [show (BitVec.ofInt k.bits (Int.ofNat a') &&& ~~~ BitVec.ofInt k.bits (Int.ofNat b'))=BitVec.ofInt k.bits (Int.ofNat a') ^^^ (BitVec.ofInt k.bits (Int.ofNat a') &&& BitVec.ofInt k.bits (Int.ofNat b')) from by
    ext i hi
    simp
    cases (BitVec.ofNat k.bits a')[i] <;> cases (BitVec.ofNat k.bits b')[i] <;> rfl]
   rw [BitVec.toNat_xor,BitVec.toNat_and,lF hwk (a:=a'),lF hwk (a:=b'),ha',hb',lu hx,lu hy]
  simp only [Go.binOp,Op.intBits,ne_eq,not_true_eq_false,if_false,e,Sem.run_pure,wrap_small hor]
  rfl
 case eql=>cases h;refine ⟨?_,fun ρ=>.bool _⟩;simp [Go.binOp,Op.intCmp,vM];rfl
 case neq=>cases h;refine ⟨?_,fun ρ=>.bool _⟩;simp [Go.binOp,Op.intCmp,vM];rfl
 case lss=>cases h;refine ⟨?_,fun ρ=>.bool _⟩;simp [Go.binOp,Op.intCmp,WS]
 case leq=>cases h;refine ⟨?_,fun ρ=>.bool _⟩;simp [Go.binOp,Op.intCmp,aeT]
 case gtr=>cases h;refine ⟨?_,fun ρ=>.bool _⟩;simp [Go.binOp,Op.intCmp,WS]
 case geq=>cases h;refine ⟨?_,fun ρ=>.bool _⟩;simp [Go.binOp,Op.intCmp,aeT]
 case shl=>exact absurd rfl h1
 case shr=>exact absurd rfl h2
end
end Go.Ax
namespace Go.Ax
variable [Lo]
open Go
theorem oC:∀ (a b:List UInt8),qY a b=(a == b)
 |[],[]=>rfl
 |[],_::_=>rfl
 |_::_,[]=>rfl
 |a::s,b::t=>by
  show sel (Nat.beq a.toNat b.toNat) (qY s t) false=_
  rw [oC s t,aC]
  by_cases h:a=b
  ·subst h;simp
  ·have:¬(a.toNat=b.toNat):=fun e=>h (UInt8.toNat_inj.1 e)
   simp [h,this,Nat.beq_eq]
theorem AL:∀ (a b:List UInt8),uV a b=Op.bytesLess a b
 |[],[]=>rfl
 |[],_::_=>by simp [Op.bytesLess];rfl
 |_::_,[]=>by simp [Op.bytesLess];rfl
 |a::s,b::t=>by
  show sel (Nat.ble (a.toNat+1) b.toNat) true (sel (Nat.beq a.toNat b.toNat) (uV s t) false)=_
  rw [AL s t,aC,aC,Op.bytesLess]
  simp only [Nat.ble_eq,Nat.beq_eq]
  rw [show (decide (a<b))=decide (a.toNat<b.toNat) from by rw [Bool.eq_iff_iff];simp [UInt8.lt_iff_toNat_lt]]
  rw [show (a == b)=decide (a.toNat=b.toNat) from by rw [Bool.eq_iff_iff];simp [UInt8.toNat_inj]]
  by_cases h:a.toNat<b.toNat
  ·simp [h,Nat.succ_le_of_lt h]
  ·have:¬(a.toNat+1≤b.toNat):=by omega
   by_cases h2:a.toNat=b.toNat
   ·have h3:¬(b.toNat+1≤b.toNat):=by omega
    simp [h2,h3]
   ·simp [h,h2,this]
theorem o9:∀ (a b:List UInt8),(Op.bytesLess a b||(a == b)) = !Op.bytesLess b a
 |[],[]=>by simp [Op.bytesLess]
 |[],_::_=>by simp [Op.bytesLess]
 |_::_,[]=>by simp [Op.bytesLess]
 |a::s,b::t=>by
  have ih:=o9 s t
  simp only [Op.bytesLess,List.cons_beq_cons]
  rw [show (decide (a<b))=decide (a.toNat<b.toNat) from by rw [Bool.eq_iff_iff];simp [UInt8.lt_iff_toNat_lt]]
  rw [show (decide (b<a))=decide (b.toNat<a.toNat) from by rw [Bool.eq_iff_iff];simp [UInt8.lt_iff_toNat_lt]]
  rw [show (a == b)=decide (a.toNat=b.toNat) from by rw [Bool.eq_iff_iff];simp [UInt8.toNat_inj]]
  rw [show (b == a)=decide (a.toNat=b.toNat) from by rw [Bool.eq_iff_iff];simp only [beq_iff_eq,decide_eq_true_eq,←UInt8.toNat_inj];exact eq_comm]
  by_cases h2:a.toNat=b.toNat
  ·simp [h2,ih]
  ·by_cases h:a.toNat<b.toNat
   ·have:¬(b.toNat<a.toNat):=by omega
    simp [h2,h,this]
   ·have:b.toNat<a.toNat:=by omega
    simp [h2,h,this]
section
variable {P:Program} {w:World}
theorem UE {op:BinOp}{a b:ByteArray}{v:Value}(t:TypeId)(h:ajl op a.data.toList b.data.toList=some v)(h1:op ≠ .shl)(h2:op ≠ .shr) :
  (Go.binOp op t (.string a) (.string b)).run P w = .ok v w∧∀ ρ,VR ρ v v:=by
 have ta:=ByteArray.toList_eq a
 have tb:=ByteArray.toList_eq b
 cases op
 case add=>
  obtain ⟨hg,h⟩:=au.1 h
  cases h
  refine ⟨?_,fun ρ=>.string _⟩
  have hs:¬(((a.size+b.size:Nat):Int)>IntKind.i64.max):=by
   have hg:=Nat.le_of_ble_eq_true hg
   rw [aP,aP] at hg
   have e1:a.size=a.data.toList.length:=rfl
   have e2:b.size=b.data.toList.length:=rfl
   have e3:IntKind.i64.max=9223372036854775807:=rfl
   rw [e3,e1,e2]
   have:a.data.toList.length+b.data.toList.length≤9223372036854775807:=hg
   omega
  have e:a++b=⟨⟨dG a.data.toList b.data.toList⟩⟩:=by
   rw [aX]
   apply ByteArray.ext
   rw [ByteArray.data_append]
   apply Array.ext'
   simp
  simp only [Go.binOp,Op.stringOp,if_neg hs,Sem.run_pure,e]
 case eql=>cases h;refine ⟨?_,fun ρ=>.bool _⟩;rw [oC,←ta,←tb];rfl
 case neq=>cases h;refine ⟨?_,fun ρ=>.bool _⟩;rw [oC,←ta,←tb];rfl
 case lss=>cases h;refine ⟨?_,fun ρ=>.bool _⟩;simp only [Go.binOp,Op.stringOp,AL,ta,tb,Sem.run_pure]
 case leq=>cases h;refine ⟨?_,fun ρ=>.bool _⟩;simp only [Go.binOp,Op.stringOp,AL,ta,tb,o9,Sem.run_pure]
 case gtr=>cases h;refine ⟨?_,fun ρ=>.bool _⟩;simp only [Go.binOp,Op.stringOp,AL,ta,tb,o9,Sem.run_pure,Bool.not_not]
 case geq=>cases h;refine ⟨?_,fun ρ=>.bool _⟩;simp only [Go.binOp,Op.stringOp,AL,ta,tb,Sem.run_pure]
 case shl=>exact absurd rfl h1
 case shr=>exact absurd rfl h2
 all_goals cases h
theorem IW {left:Bool}{x y v:Value}(t:TypeId)(h:shift left x y=some v) :
  ∃ k a k' b,x = .int k a∧y = .int k' b∧(Go.binOp (if left then .shl else .shr) t (.int k a) (.int k' b)).run P w = .ok v w∧∀ ρ,VR ρ v v:=by
 obtain ⟨k,a,rfl⟩:∃ k a,x = .int k a:=by cases x <;> first|exact ⟨_,_,rfl⟩|cases h
 obtain ⟨k',b,rfl⟩:∃ k b,y = .int k b:=by cases y <;> first|exact ⟨_,_,rfl⟩|cases h
 cases a with
 |negSucc a=>cases h
 |ofNat a=>cases b with
  |negSucc b=>cases h
  |ofNat b=>
   refine ⟨k,_,k',_,rfl,rfl,?_⟩
   change shiftOp left k a b=some v at h
   have hmin:sel (Nat.ble b k.bits) b k.bits=min b k.bits:=by
    rw [aC]
    by_cases h:b≤k.bits
    ·rw [if_pos (Nat.ble_eq_true_of_le h)];omega
    ·rw [if_neg (fun h'=>h (Nat.le_of_ble_eq_true h'))];omega
   have hneg:¬((Int.ofNat b)<0):=by simp only [Int.ofNat_eq_natCast];omega
   cases left with
   |true=>
    unfold shiftOp at h
    rw [aH] at h
    obtain ⟨hg,h⟩:=au.1 h
    cases h
    refine ⟨?_,fun ρ=>.int _ _⟩
    have hs:k.signed=false:=by cases k <;> first|rfl|cases hg
    have e:k.wrap ((Int.ofNat a)*2 ^ (min b k.bits))=Int.ofNat (Nat.mod (Nat.mul a (Nat.pow 2 (min b k.bits))) (Nat.pow 2 k.bits)):=by
     have:(Int.ofNat a)*2 ^ (min b k.bits)=Int.ofNat (a*2 ^ (min b k.bits)):=by simp
     rw [this,nV hs]
     rfl
    simp only [if_true,Go.binOp,Op.shift,if_neg hneg,Sem.run_pure,hmin]
    rw [show (Int.ofNat b).toNat=b from rfl,e]
   |false=>
    unfold shiftOp at h
    rw [aF] at h
    cases h
    refine ⟨?_,fun ρ=>.int _ _⟩
    simp only [Bool.false_eq_true,if_false,Go.binOp,Op.shift,if_neg hneg,Sem.run_pure,hmin]
    rw [show (Int.ofNat b).toNat=b from rfl]
    have:(Int.ofNat a).fdiv (2 ^ (min b k.bits))=Int.ofNat (a/2 ^ (min b k.bits)):=by
     rw [show (2:Int) ^ (min b k.bits)=Int.ofNat (2 ^ (min b k.bits)) from by simp]
     exact (Int.ofNat_fdiv a _).symm
    rw [this]
    rfl
theorem YW {op:UnOp}{x v:Value}(h:unOp op x=some v):(Op.unary op x).run P w = .ok v w∧∀ ρ,VR ρ v v:=by
 cases x
 case bool b=>
  cases op <;> cases h
  exact ⟨by simp [Op.unary],fun ρ=>.bool _⟩
 case int k n=>
  cases op
  case neg=>
   cases h
   refine ⟨?_,fun ρ=>.int _ _⟩
   simp [Op.unary,Op.intArith,wrap_eq,MB]
  case xor=>
   cases k <;> try (cases h)
   cases n with
   |negSucc n=>cases h
   |ofNat n=>
    cases h
    refine ⟨?_,fun ρ=>.int _ _⟩
    have h1:(18446744073709551615:Nat)<pR .u64:=by decide
    have h2:n%18446744073709551616<pR .u64:=by show n%18446744073709551616<18446744073709551616;omega
    have e:(BitVec.ofInt IntKind.u64.bits (Int.ofNat 18446744073709551615) ^^^ BitVec.ofInt IntKind.u64.bits (Int.ofNat n)).toNat=18446744073709551615-n%18446744073709551616:=by
     have h3:=lu h2
     have h4:=lF (k:=.u64) (a:=n) rfl
     change BitVec.ofInt 64 (Int.ofNat n)=BitVec.ofInt 64 (Int.ofNat (n%18446744073709551616)) at h4
     change (BitVec.ofInt 64 (Int.ofNat (n%18446744073709551616))).toNat=n%18446744073709551616 at h3
     show (BitVec.ofInt 64 (Int.ofNat 18446744073709551615) ^^^ BitVec.ofInt 64 (Int.ofNat n)).toNat=_
     have ha:BitVec.ofInt 64 (Int.ofNat 18446744073709551615)=BitVec.allOnes 64:=by rfl
     rw [h4,ha,BitVec.allOnes_xor,BitVec.toNat_not,h3]
    have e2:(18446744073709551615-n%18446744073709551616)<pR .u64:=by show _<18446744073709551616;omega
    simp only [Op.unary,Op.intBits]
    rw [show (if IntKind.u64.signed then (-1:Int) else IntKind.u64.max)=Int.ofNat 18446744073709551615 from rfl,e,wrap_small e2]
    rfl
  all_goals cases h
 all_goals cases h
end
end Go.Ax
namespace Go.Ax
variable [Lo]
open Go
section
variable {P:Program} {ρ:Ren} {w:World}
theorem UL {a b:Addr}{r:Bool}(h:ae1 a b=some r):a.block=b.block∧r=Nat.beq a.off b.off:=by
 obtain ⟨hg,h⟩:=au.1 h
 cases h
 exact ⟨Nat.eq_of_beq_eq_true hg,rfl⟩
theorem AU (c o o':Nat):(sameAddr ⟨c,o,none⟩ ⟨c,o',none⟩).run P w = .ok (decide (o=o')) w:=by
 have e:((⟨c,o,none⟩:Addr) == ⟨c,o',none⟩)=decide (o=o'):=by
  rw [Bool.eq_iff_iff];simp
 simp [sameAddr,e]
theorem Vp {t e:TypeId}{a b:Option Addr}{r:Bool}{x' y':Value}(hu:P.underlying t=some (.pointer e))(h:alk P e a b=some r)(hx:VR ρ (.pointer a) x')(hy:VR ρ (.pointer b) y')(D:Nat) :
  (Op.equalIn (D+1) t x' y').run P w = .ok r w:=by
 cases hx with
 |kM=>
  cases h
  cases hy with
  |kM=>rw [Op.equalIn];simp [run_underlying hu]
  |ptr hl=>rw [Op.equalIn];simp [run_underlying hu]
 |ptr hl=>
  cases hy with
  |kM=>cases h;rw [Op.equalIn];simp [run_underlying hu]
  |ptr hl2=>
   obtain ⟨n,hn,h⟩:=ah.1 h
   obtain ⟨hg,h⟩:=au.1 h
   obtain ⟨hb,rfl⟩:=UL h
   cases hb
   rw [hl] at hl2
   cases hl2
   have hn0:n≠0:=by rintro rfl;simp at hg
   rw [Op.equalIn]
   simp only [Sem.run_bind,run_underlying hu,Result.andThen_ok,run_sizeOf hn,ne_eq,hn0,not_false_eq_true,if_true,AU]
   congr 1
   rw [Bool.eq_iff_iff,Nat.beq_eq]
   simp
theorem QE {t:TypeId}{d:TypeDesc}{x y x' y':Value}{r:Bool}(hu:P.underlying t=some d)(h:eqD P d x y=some r)(hx:VR ρ x x')(hy:VR ρ y y')(D:Nat) :
  (Op.equalIn (D+1) t x' y').run P w = .ok r w:=by
 cases d <;> try (cases h;done)
 case bool=>
  cases hx <;> try (cases h;done)
  cases hy <;> try (cases h;done)
  cases h
  exact run_equalIn_bool w D t _ _ hu
 case int k0=>
  cases hx <;> try (cases h;done)
  cases hy <;> try (cases h;done)
  obtain ⟨hg,h⟩:=au.1 h
  cases h
  rw [jk hg,run_equalIn_int w D t _ _ _ _ hu,vM]
  rfl
 case string=>
  cases hx <;> try (cases h;done)
  cases hy <;> try (cases h;done)
  cases h
  rw [run_equalIn_string w D t _ _ hu,oC,ByteArray.toList_eq,ByteArray.toList_eq]
 case pointer e=>
  cases x <;> try (cases h;done)
  cases y <;> try (cases h;done)
  exact Vp hu h hx hy D
 case slice e=>
  cases hx <;> try (cases h;done)
  all_goals (cases hy <;> first|(cases h;done)|(cases h;rw [Op.equalIn];simp [run_underlying hu]))
 case map k e=>
  cases hx <;> try (cases h;done)
  ·cases hy <;> try (cases h;done)
   ·cases h;rw [Op.equalIn];simp [run_underlying hu]
   ·cases h;rw [Op.equalIn];simp [run_underlying hu]
  ·cases hy <;> try (cases h;done)
   ·cases h;rw [Op.equalIn];simp [run_underlying hu]
 case func=>
  cases hx <;> try (cases h;done)
  ·cases hy <;> try (cases h;done)
   cases h;rw [Op.equalIn];simp [run_underlying hu]
  ·cases hy <;> try (cases h;done)
   ·cases h;rw [Op.equalIn];simp [run_underlying hu]
   ·cases h;rw [Op.equalIn];simp [run_underlying hu]
 case interface ms=>
  cases hx <;> try (cases h;done)
  ·cases hy <;> try (cases h;done)
   cases h;rw [Op.equalIn];simp [run_underlying hu]
  ·cases hy <;> try (cases h;done)
   ·cases h;rw [Op.equalIn];simp [run_underlying hu]
   ·cases h;rw [Op.equalIn];simp [run_underlying hu]
end
end Go.Ax
namespace Go.Ax
variable [Lo]
open Go
section
variable {P:Program} {ρ:Ren} {w:World}
def EqS (P:Program)(ih:EqF)(d:Nat):Prop:=∀ (t:TypeId) (x y:Value) (r:Bool),ih t x y=some r→∀ (ρ:Ren) (w:World) (x' y':Value),VR ρ x x'→VR ρ y y'→∀ D,(Op.equalIn (D+d) t x' y').run P w = .ok r w
def akx (P:Program)(ih:EqF)(e:TypeId)(d:Nat):Prop:=∀ (x y:Value) (r:Bool),ih e x y=some r→∀ (ρ:Ren) (w:World) (x' y':Value),VR ρ x x'→VR ρ y y'→∀ D,(Op.equalIn (D+d) e x' y').run P w = .ok r w
theorem Dw {ih:EqF}{d:Nat}{t:TypeId}(hE:akx P ih t d){o:Nat}{xs ys xl yl:List Value}{r:Bool}(h:pK P ih t o xs ys=some r)(hx:VRs ρ xs xl)(hy:VRs ρ ys yl)(D:Nat) :
  ∃ a b,(Go.part t ⟨xl⟩ o).run P w = .ok a w∧(Go.part t ⟨yl⟩ o).run P w = .ok b w∧(Op.equalIn (D+d) t a b).run P w = .ok r w:=by
 obtain ⟨x,h1,h⟩:=ah.1 h
 obtain ⟨y,h2,h⟩:=ah.1 h
 obtain ⟨a,h3,h4⟩:=sJ (w:=w) h1 hx
 obtain ⟨b,h5,h6⟩:=sJ (w:=w) h2 hy
 exact ⟨a,b,h3,h5,hE x y r h ρ w a b h4 h6 D⟩
theorem uo {ih:EqF}{d:Nat}{e:TypeId}(hE:akx P ih e d){n:Nat}{xs ys xl yl:List Value}(hx:VRs ρ xs xl)(hy:VRs ρ ys yl)(D:Nat):∀ (k i:Nat) {r:Bool},
  zo P ih e n xs ys k i=some r→(Op.eqItems (D+d) e n ⟨xl⟩ ⟨yl⟩ (List.range' i k)).run P w = .ok r w
 |0,i,r,h=>by cases h;simp [Op.eqItems]
 |k+1,i,r,h=>by
  change aj (pK P ih e (Nat.mul i n) xs ys) (fun b=>sel b (zo P ih e n xs ys k (i+1)) (some false))=some r at h
  obtain ⟨b,hb,h⟩:=ah.1 h
  obtain ⟨a',b',h1,h2,h3⟩:=Dw (w:=w) hE hb hx hy D
  change (Go.part e ⟨xl⟩ (i*n)).run P w=_ at h1
  change (Go.part e ⟨yl⟩ (i*n)).run P w=_ at h2
  rw [List.range'_succ]
  simp only [Op.eqItems,Sem.run_bind,h1,h2,h3,Result.andThen_ok]
  cases b with
  |true=>
   rw [aH] at h
   simp only [Bool.not_true,Bool.false_eq_true,if_false]
   exact uo hE hx hy D k (i+1) h
  |false=>
   rw [aF] at h
   cases h
   simp
theorem Gt {e:TypeId}(he:isAgg P e=some false){f:Value→Value→Option Bool}{xs ys:List Value}:∀ (k i:Nat) {r:Bool},
  Yg f k (xs.drop i) (ys.drop i)=some r→zo P (fun _=>f) e 1 xs ys k i=some r
 |0,i,r,h=>h
 |k+1,i,r,h=>by
  show aj (pK P (fun _=>f) e (Nat.mul i 1) xs ys) (fun b=>sel b (zo P (fun _=>f) e 1 xs ys k (i+1)) (some false))=some r
  change gG (xs.drop i) none (fun x xt=>gG (ys.drop i) none fun y yt=>aj (f x y) fun b=>sel b (Yg f k xt yt) (some false))=some r at h
  cases hx:xs.drop i with
  |nil=>rw [hx] at h;cases h
  |cons x xt=>
   cases hy:ys.drop i with
   |nil=>rw [hx,hy] at h;cases h
   |cons y yt=>
    rw [hx,hy] at h
    change aj (f x y) (fun b=>sel b (Yg f k xt yt) (some false))=some r at h
    obtain ⟨b,hb,h⟩:=ah.1 h
    have gx:xs[i]? = some x:=by have:=congrArg List.head? hx;simpa using this
    have gy:ys[i]? = some y:=by have:=congrArg List.head? hy;simpa using this
    have px:part P e xs (Nat.mul i 1)=some x:=by
     rw [show Nat.mul i 1=i from Nat.mul_one i]
     simp only [Ax.part,he,aj,aF,dY,gx]
    have py:part P e ys (Nat.mul i 1)=some y:=by
     rw [show Nat.mul i 1=i from Nat.mul_one i]
     simp only [Ax.part,he,aj,aF,dY,gy]
    refine ah.2 ⟨b,?_,?_⟩
    ·exact ah.2 ⟨x,px,ah.2 ⟨y,py,hb⟩⟩
    ·have hxt:xt=xs.drop (i+1):=by
      have:=congrArg List.tail hx
      simpa using this.symm
     have hyt:yt=ys.drop (i+1):=by
      have:=congrArg List.tail hy
      simpa using this.symm
     cases b with
     |true=>rw [aH] at h ⊢;exact Gt he k (i+1) (by rw [←hxt,←hyt];exact h)
     |false=>exact h
theorem yE {ih:EqF}{d:Nat}(hE:EqS P ih d){xs ys xl yl:List Value}(hx:VRs ρ xs xl)(hy:VRs ρ ys yl)(D:Nat):∀ (fs:List Field) {r:Bool},(∀ f∈fs,f.name≠"_")→
  eqFields P ih xs ys fs=some r→(Op.eqFields (D+d) ⟨xl⟩ ⟨yl⟩ fs).run P w = .ok r w
 |[],r,_,h=>by cases h;simp [Op.eqFields]
 |f::fs,r,hn,h=>by
  change aj (pK P ih f.type f.offset xs ys) (fun b=>sel b (eqFields P ih xs ys fs) (some false))=some r at h
  obtain ⟨b,hb,h⟩:=ah.1 h
  obtain ⟨a',b',h1,h2,h3⟩:=Dw (w:=w) (fun x y r hr=>hE f.type x y r hr) hb hx hy D
  simp only [Op.eqFields,if_pos (hn f (by simp)),Sem.run_bind,h1,h2,h3,Result.andThen_ok]
  cases b with
  |true=>
   rw [aH] at h
   simp only [Bool.not_true,Bool.false_eq_true,if_false]
   exact yE hE hx hy D fs (fun g hg=>hn g (by simp [hg])) h
  |false=>
   rw [aF] at h
   cases h
   simp
structure VP (C:Cfg):Prop where
 guard:∀ t,C.ae0 t=true→C.P.eqGuardType C.P.depth t=false
 held:∀ t fs,C.ae0 t=true→C.P.underlying t=some (.struct fs)→C.P.stoodInHeld t=false∧∀ f∈fs.toList,f.name≠"_"
theorem O3 {x y:Value}{k:List Value→List Value→Option Bool}{r:Bool}(h:ac3 x y k=some r):∃ xs ys,x = .agg ⟨xs⟩∧y = .agg ⟨ys⟩∧k xs ys=some r:=by
 unfold ac3 at h
 split at h
 ·split at h
  ·exact ⟨_,_,rfl,rfl,h⟩
  ·cases h
 ·cases h
theorem kE {C:Cfg}(hC:C.P=P)(hO:VP C){ih:EqF}{d:Nat}(hE:EqS P ih (d+1)):EqS P (uK C ih) (d+1+1):=by
 intro t x y r h ρ w x' y' hx hy D
 unfold uK at h
 rw [hC] at h
 obtain ⟨de,hu,h⟩:=ah.1 h
 split at h
 ·rename_i n e
  obtain ⟨xs,ys,rfl,rfl,h⟩:=O3 h
  obtain ⟨d',hd,h⟩:=ah.1 h
  obtain ⟨k,hk,h⟩:=ah.1 h
  cases hx with
  |agg hxs=>cases hy with
   |agg hys=>
    obtain ⟨i,hi,hik⟩:=mP hk
    have hcells:P.cellsOf e=k:=by simp [Program.cellsOf,hi,hik]
    rw [show D+(d+1+1)=(D+d+1)+1 from rfl,run_equalIn_array w (D+d+1) _ _ hu hi,hcells,List.range_eq_range']
    rw [aC] at h
    split at h
    ·rename_i hg
     simp only [Bool.and_eq_true,Bool.not_eq_true'] at hg
     have hag:isAgg P e=some false:=by simp only [isAgg,hd,aj];rw [hg.1]
     have k1:k=1:=Nat.eq_of_beq_eq_true hg.2
     subst k1
     have:=Gt hag n 0 (xs:=xs) (ys:=ys) (r:=r) (by simpa using h)
     exact uo (w:=w) (ih:=fun _=>eqD P d') (d:=1) (fun x y r hr ρ w x' y' hx hy D=>QE hd hr hx hy D) hxs hys (D+d) n 0 this
    ·exact uo (fun x y r hr=>hE e x y r hr) hxs hys D n 0 h
 ·rename_i fs
  obtain ⟨hg,h⟩:=au.1 h
  obtain ⟨xs,ys,rfl,rfl,h⟩:=O3 h
  cases hx with
  |agg hxs=>cases hy with
   |agg hys=>
    have hf:P.fieldsOf t=fs:=by simp [Program.fieldsOf,hu]
    have hh:=hO.held t fs hg (by rw [hC];exact hu)
    rw [hC] at hh
    rw [show D+(d+1+1)=(D+d+1)+1 from rfl,run_equalIn_struct w (D+d+1) t _ _ (by rw [hf];exact hu) hh.1,hf]
    exact yE hE hxs hys D fs.toList hh.2 h
 ·exact QE hu h hx hy (D+d+1)
theorem KH {C:Cfg}(hC:C.P=P)(hO:VP C):EqS P (ab8 C) 7:=by
 have h0:EqS P (fun _ _ _=>none) (0+1):=fun t x y r h=>by cases h
 exact kE hC hO (kE hC hO (kE hC hO (kE hC hO (kE hC hO (kE hC hO h0)))))
theorem zf {C:Cfg}(hC:C.P=P)(hO:VP C){t:TypeId}{x y x' y':Value}{r:Bool}(h:ab8 C t x y=some r)(hx:VR ρ x x')(hy:VR ρ y y'):(Op.equal t x' y').run P w = .ok r w:=
 KH hC hO t x y r h ρ w x' y' hx hy 9993
theorem Qa {C:Cfg}(hC:C.P=P)(hO:VP C){t:TypeId}{x y x' y':Value}{r:Bool}(h:eqT C t x y=some r)(hx:VR ρ x x')(hy:VR ρ y y'):(Op.equal t x' y').run P w = .ok r w:=by
 unfold eqT at h
 split at h
 ·rename_i tx vx
  split at h
  ·rename_i ty vy
   split at h
   ·rename_i ms hu
    rw [hC] at hu h
    cases hx with
    |iface _ hvx=>cases hy with
     |iface _ hvy=>
      rw [Op.equal,Op.maxDepth,show 10000=9999+1 from rfl,Op.equalIn]
      simp only [Sem.run_bind,run_underlying hu,Result.andThen_ok]
      rw [aC] at h
      split at h
      ·rename_i he
       have he:=Nat.eq_of_beq_eq_true he
       subst he
       obtain ⟨hg,h⟩:=au.1 h
       unfold comparable at hg
       cases hi:P.info? tx with
       |none=>rw [hi] at hg;cases hg
       |some i=>
        rw [hi] at hg
        change i.comparable=true at hg
        have:=KH hC hO tx vx vy r h ρ w _ _ hvx hvy 9992
        simp only [ne_eq,not_true_eq_false,if_false,Go.typeInfo,Sem.run_bind,run_program,Result.andThen_ok,hi,Sem.run_pure,hg,Bool.not_true,Bool.false_eq_true]
        exact this
      ·rename_i he
       have he:¬tx=ty:=fun e=>he (by rw [e];exact Nat.beq_refl _)
       cases h
       simp [he]
   ·cases h
  ·exact zf hC hO h hx hy
 ·exact zf hC hO h hx hy
theorem L9 {C:Cfg}(hC:C.P=P)(hO:VP C){op:BinOp}{t:TypeId}{x y:Operand}{a b a' b':Value}(h:ni C t x y a b=true)(ha:VR ρ a a')(hb:VR ρ b b'):(eqGuard op t x y a' b').run P w = .ok () w:=by
 have key:op = .eql∨op = .neq∨(eqGuard op t x y a' b').run P w = .ok () w:=by
  cases op <;> first|exact .inl rfl|exact .inr (.inl rfl)|exact .inr (.inr (by simp [eqGuard]))
 rcases key with rfl|rfl|key
 ·cases ha <;> try (simp [eqGuard];done)
  ·cases hb <;> try (simp [eqGuard];done)
   have h:(isConst x||isConst y)=true:=h
   cases x <;> cases y <;> first|(simp [eqGuard];done)|cases h
  ·have hg:=hO.guard t h
   rw [hC] at hg
   cases hb <;> try (simp [eqGuard];done)
   exact run_eqGuard_agg w _ t x y _ _ hg
 ·cases ha <;> try (simp [eqGuard];done)
  ·cases hb <;> try (simp [eqGuard];done)
   have h:(isConst x||isConst y)=true:=h
   cases x <;> cases y <;> first|(simp [eqGuard];done)|cases h
  ·have hg:=hO.guard t h
   rw [hC] at hg
   cases hb <;> try (simp [eqGuard];done)
   exact run_eqGuard_agg w _ t x y _ _ hg
 ·exact key
end
end Go.Ax
namespace Go.Ax
variable [Lo]
open Go
section
variable {P:Program} {base:Nat} {ρ:Ren} {s s':St} {w w':World} {ev:Ev} {η:Operand→Value}
theorem YV {v:Value}{n:Nat}(h:asNat v=some n):∃ k,v = .int k (Int.ofNat n):=by
 cases v <;> try (cases h;done)
 rename_i k i
 cases i with
 |ofNat i=>cases h;exact ⟨k,rfl⟩
 |negSucc i=>cases h
theorem VR.nat {v c:Value}{n:Nat}(h:VR ρ v c)(hn:asNat v=some n):∃ k,c = .int k (Int.ofNat n):=by
 obtain ⟨k,rfl⟩:=YV hn
 cases h
 exact ⟨k,rfl⟩
theorem aez {d:TypeDesc}{i:Option Nat}{y:Value}{b:Bool}(h:eqD P d (.chan i) y=some b):False:=by
 cases d <;> cases h
theorem QI {C:Cfg}:∀ (n:Nat) {t:TypeId} {i:Option Nat} {y:Value} {b:Bool},(Nat.rec (fun _ _ _=>none) (fun _ ih=>uK C ih) n:EqF) t (.chan i) y=some b→False
 |0,_,_,_,_,h=>by cases h
 |n+1,t,i,y,b,h=>by
  change uK C _ t (.chan i) y=some b at h
  unfold uK at h
  obtain ⟨d,_,h⟩:=ah.1 h
  split at h
  ·cases h
  ·obtain ⟨_,h⟩:=au.1 h
   cases h
  ·exact aez h
theorem ZC {C:Cfg}{t:TypeId}{op:BinOp}{i:Option Nat}{y v:Value}(h:Zy C t op (.chan i) y=some v):False:=by
 change al0 C t op (.chan i) y=some v at h
 unfold al0 at h
 split at h
 ·obtain ⟨b,hb,_⟩:=ah.1 h
  exact QI 6 hb
 ·obtain ⟨b,hb,_⟩:=ah.1 h
  exact QI 6 hb
 ·cases h
theorem KD {op:BinOp}{k:FloatKind}{lo hi:Nat}{y v:Value}(h:ah7 op k lo hi y=some v) :
  k = .f64∧∃ c:Nat,y = .int .i64 (Int.ofNat c)∧op = .gtr∧((v = .bool false∧hi≤c∧hi≠0)∨(v = .bool true∧c<lo)):=by
 unfold ah7 at h
 split at h
 ·rename_i c
  cases c with
  |negSucc c=>cases h
  |ofNat c=>
   obtain ⟨hk,h⟩:=au.1 h
   have hk:k = .f64:=by cases k <;> first|rfl|cases hk
   split at h
   ·rw [aC] at h
    split at h
    ·rename_i hg
     cases h
     simp only [Bool.and_eq_true,Bool.not_eq_true'] at hg
     refine ⟨hk,c,rfl,rfl,.inl ⟨rfl,Nat.le_of_ble_eq_true hg.1,?_⟩⟩
     intro e
     rw [e] at hg
     exact Bool.noConfusion hg.2
    ·obtain ⟨hg,h⟩:=au.1 h
     cases h
     exact ⟨hk,c,rfl,rfl,.inr ⟨rfl,Nat.le_of_ble_eq_true hg⟩⟩
   ·cases h
 ·cases h
theorem UA {C:Cfg}(hC:C.P=P)(hO:VP C){op:BinOp}{t:TypeId}{a b a' b' v:Value}(h:binOp C t op a b=some v)(ha:VR ρ a a')(hb:VR ρ b b') :
  (Go.binOp op t a' b').run P w = .ok v w∧∀ ρ,VR ρ v v:=by
 have rest:∀ op',op'≠BinOp.shl→op'≠BinOp.shr→Zy C t op' a b=some v→(Go.binOp op' t a' b').run P w = .ok v w∧∀ ρ,VR ρ v v:=by
  intro op h1 h2 h
  have eqs:al0 C t op a b=some v→(∀ k x k' y,¬(a' = .int k x∧b' = .int k' y))→(∀ x y,¬(a' = .string x∧b' = .string y))→(Go.binOp op t a' b').run P w = .ok v w∧∀ ρ,VR ρ v v:=by
   intro h hni hns
   cases op <;> try (cases h;done)
   ·obtain ⟨r,hr,h⟩:=ah.1 h
    cases h
    refine ⟨?_,fun ρ=>.bool _⟩
    have:=Qa (w:=w) hC hO hr ha hb
    cases ha <;> cases hb <;> first|exact absurd ⟨rfl,rfl⟩ (hni _ _ _ _)|exact absurd ⟨rfl,rfl⟩ (hns _ _)|simp [Go.binOp,this]
   ·obtain ⟨r,hr,h⟩:=ah.1 h
    cases h
    refine ⟨?_,fun ρ=>.bool _⟩
    have:=Qa (w:=w) hC hO hr ha hb
    cases ha <;> cases hb <;> first|exact absurd ⟨rfl,rfl⟩ (hni _ _ _ _)|exact absurd ⟨rfl,rfl⟩ (hns _ _)|simp [Go.binOp,this]
  cases ha with
  |int k x=>
   cases hb with
   |int k' y=>
    obtain ⟨hg,h3⟩:=au.1 h
    have hk:=jk hg
    subst hk
    exact UG t h3 h1 h2
   |_=>cases h
  |string x=>
   cases hb with
   |string y=>exact UE t h h1 h2
   |_=>cases h
  |tok i k n=>exact (ZC h).elim
  |acd lo hi a n c h1 h2=>exact Bool.noConfusion (show BF .f32=true by rw [(KD h).1];rfl)
  |rng lo hi n hlo hhi=>
   obtain ⟨_,c,rfl,rfl,hq⟩:=KD h
   cases hb
   rcases hq with ⟨rfl,h3,h4⟩|⟨rfl,h3⟩
   ·have h5:¬(c<n):=by rcases hhi with h6|h6 <;> omega
    refine ⟨?_,fun ρ=>.bool _⟩
    simp [Go.binOp,Op.intCmp,h5]
   ·have h5:c<n:=Nat.lt_of_lt_of_le h3 hlo
    refine ⟨?_,fun ρ=>.bool _⟩
    simp [Go.binOp,Op.intCmp,h5]
  |_=>exact eqs h (fun _ _ _ _ hh=>by cases hh.1) (fun _ _ hh=>by cases hh.1)
 cases op
 case shl=>
  obtain ⟨k,x,k',y,rfl,rfl,h1,h2⟩:=IW (P:=P) (w:=w) t h
  cases ha;cases hb
  exact ⟨h1,h2⟩
 case shr=>
  obtain ⟨k,x,k',y,rfl,rfl,h1,h2⟩:=IW (P:=P) (w:=w) t h
  cases ha;cases hb
  exact ⟨h1,h2⟩
 all_goals exact rest _ (by simp) (by simp) h
theorem Yf (h:HR P base ρ s w)(he:EvR ρ ev η){op:BinOp}{t:TypeId}{x y:Operand}(C:Cfg)(hC:C.P=P)(hO:VP C){r:Res}(hr:ah3 C ev s op t x y=some r) :
  nJ P base ρ s w (Sem.run P (do pure (.value (←do eqGuard op t x y (η x) (η y);Go.binOp op t (η x) (η y)))) w) r:=by
 obtain ⟨a,ha,hr⟩:=ah.1 hr
 obtain ⟨b,hb,hr⟩:=ah.1 hr
 obtain ⟨hg,hr⟩:=au.1 hr
 obtain ⟨v,hv,hr⟩:=ah.1 hr
 rw [aU hr]
 have h1:=L9 (w:=w) hC hO (op:=op) hg (he x a ha) (he y b hb)
 have h2:=UA (w:=w) hC hO hv (he x a ha) (he y b hb)
 simp only [Sem.run_bind,h1,Result.andThen_ok,h2.1,Sem.run_pure]
 exact aS h (h2.2 ρ)
theorem abK (h:HR P base ρ s w)(he:EvR ρ ev η){op:UnOp}{x:Operand}(C:Cfg){r:Res}(hr:oUn C ev s op x=some r) :
  nJ P base ρ s w (Sem.run P (do pure (.value (←Op.unary op (η x)))) w) r:=by
 obtain ⟨a,ha,hr⟩:=ah.1 hr
 obtain ⟨v,hv,hr⟩:=ah.1 hr
 rw [aU hr]
 have h2:=YW (P:=P) (w:=w) hv
 have hc:=he x a ha
 have e:η x=a:=by
  generalize η x=c at hc
  cases hc <;> first|rfl|cases hv
 simp only [e,Sem.run_bind,h2.1,Result.andThen_ok,Sem.run_pure]
 exact aS h (h2.2 ρ)
theorem O4 (h:HR P base ρ s w)(he:EvR ρ ev η){t:TypeId}{x:Operand}(C:Cfg)(hC:C.P=P){r:Res}(hr:QT C ev s t x=some r) :
  nJ P base ρ s w (Sem.run P (do pure (.value (←Instr.makeInterface t (η x)))) w) r:=by
 obtain ⟨hg,hr⟩:=au.1 hr
 obtain ⟨a,ha,hr⟩:=ah.1 hr
 rw [aU hr]
 rw [hC] at hg
 simp only [Bool.and_eq_true,Bool.not_eq_true'] at hg
 obtain ⟨hg1,hg2⟩:=hg
 cases hu:P.underlying t with
 |none=>rw [hu] at hg2;cases hg2
 |some d=>
  unfold isIface at hg1
  rw [hu] at hg1
  have:(Instr.makeInterface t (η x)).run P w = .ok (.iface t (η x)) w:=by
   cases d <;> first|(simp [Instr.makeInterface,run_underlying hu];done)|cases hg1
  simp only [Sem.run_bind,this,Result.andThen_ok,Sem.run_pure]
  exact aS h (.iface t (he x a ha))
theorem Ui (h:HR P base ρ s w)(he:EvR ρ ev η){fn:Fn}{first captured:Array Operand}(C:Cfg){r:Res}(hr:abL C ev s fn first captured=some r) :
  nJ P base ρ s w (Sem.run P (do pure (.value (←Instr.makeFunc fn (first.map η) (captured.map η)))) w) r:=by
 obtain ⟨hf,hr⟩:=au.1 hr
 obtain ⟨a,ha,hr⟩:=ah.1 hr
 obtain ⟨b,hb,hr⟩:=ah.1 hr
 rw [aU hr]
 simp only [Instr.makeFunc,Sem.run_bind,Sem.run_pure,Result.andThen_ok]
 have e1:first.map η=⟨first.toList.map η⟩:=by apply Array.ext';simp
 have e2:captured.map η=⟨captured.toList.map η⟩:=by apply Array.ext';simp
 rw [e1,e2]
 have hfr:FR ρ fn fn:=by
  cases fn with
  |func f=>exact .func f
  |method n=>exact .method n
  |methodOf t n=>exact .methodOf t n
  |via t p f b=>exact .via t p f b
  |yield l=>cases hf
 exact aS h (.func hfr (AQ he ha) (AQ he hb))
theorem Js (h:HR P base ρ s w)(he:EvR ρ ev η){x:Operand}{i:Nat}(C:Cfg){r:Res}(hr:Ar C ev s x i=some r) :
  nJ P base ρ s w (Sem.run P (do pure (.value (←Instr.extract (η x) i))) w) r:=by
 obtain ⟨a,ha,hr⟩:=ah.1 hr
 have hc:=he x a ha
 generalize η x=c at hc
 cases hc <;> try (cases hr;done)
 rename_i la lc hl
 obtain ⟨v,hv,hr⟩:=ah.1 hr
 rw [aU hr]
 rw [dY] at hv
 obtain ⟨v',h1,h2⟩:=hl.get hv
 simp only [Instr.extract,List.getElem?_toArray,h1,Sem.run_bind,Sem.run_pure,Result.andThen_ok]
 exact aS h h2
theorem aY {a b:Nat}(h:ltN a b=true):a<b:=Nat.le_of_ble_eq_true h
theorem jm (k:IntKind)(n:Int):(asIntOf (.int k n)).run P w = .ok (k,n) w:=by simp [asIntOf]
theorem Qe (h:HR P base ρ s w)(he:EvR ρ ev η){t:TypeId}{x i:Operand}(C:Cfg)(hC:C.P=P){r:Res}(hr:Ji C ev s t x i=some r) :
  nJ P base ρ s w (Sem.run P (do pure (.value (←Instr.index t (η x) (η i)))) w) r:=by
 obtain ⟨a,ha,hr⟩:=ah.1 hr
 obtain ⟨b,hb,hr⟩:=ah.1 hr
 obtain ⟨n,hn,hr⟩:=ah.1 hr
 obtain ⟨k,hk⟩:=(he i b hb).nat hn
 have hc:=he x a ha
 rw [hk]
 generalize η x=c at hc
 rw [hC] at hr
 cases hc with
 |string bs=>
  change (match P.underlying t with|some .string=>aj (nth bs.data.toList n) fun c=>ret (.int .u8 (Int.ofNat c.toNat)) s|_=>none)=some r at hr
  split at hr
  ·rename_i hu
   obtain ⟨c,hc,hr⟩:=ah.1 hr
   rw [aU hr]
   rw [dY] at hc
   have hlt:n<bs.data.size:=by
    have:=(List.getElem?_eq_some_iff.1 hc).1
    simpa using this
   have hg:bs[n]? = some c:=by
    rw [getElem?_pos bs n hlt]
    rw [List.getElem?_eq_getElem (by simpa using hlt)] at hc
    have hc':bs.data[n]=c:=by simpa using hc
    exact congrArg some hc'
   have hpos:(0:Int)≤(n:Int):=by omega
   simp only [Instr.index,Sem.run_bind,jm,run_underlying hu,Result.andThen_ok,Int.ofNat_eq_natCast,if_pos hpos,Int.toNat_natCast,hg,Sem.run_pure]
   exact aS h (.int _ _)
  ·cases hr
 |@agg la lc hl=>
  change (match P.underlying t with|some (.array len e)=>guard (ltN n len) (aj (size P e) fun k=>aj (part P e la (Nat.mul n k)) fun v=>ret v s)|_=>none)=some r at hr
  split at hr
  ·rename_i len e hu
   obtain ⟨hg,hr⟩:=au.1 hr
   obtain ⟨sz,hsz,hr⟩:=ah.1 hr
   obtain ⟨v,hv,hr⟩:=ah.1 hr
   rw [aU hr]
   obtain ⟨c,hrun,hcv⟩:=sJ (w:=w) hv hl
   change (Go.part e ⟨lc⟩ (n*sz)).run P w=_ at hrun
   have hlt:=aY hg
   have hcond:(0:Int)≤(n:Int)∧(n:Int)<(len:Int):=by omega
   simp only [Instr.index,Sem.run_bind,jm,run_underlying hu,Result.andThen_ok,Int.ofNat_eq_natCast,if_pos hcond,Int.toNat_natCast,run_sizeOf hsz,hrun,Sem.run_pure]
   exact aS h hcv
  ·cases hr
 |_=>cases hr
theorem Ey (h:HR P base ρ s w)(he:EvR ρ ev η){t:TypeId}{x i:Operand}(C:Cfg)(hC:C.P=P){r:Res}(hr:iU C ev s t x i=some r) :
  nJ P base ρ s w (Sem.run P (do pure (.value (←Instr.indexAt t (η x) (η i)))) w) r:=by
 obtain ⟨a,ha,hr⟩:=ah.1 hr
 obtain ⟨b,hb,hr⟩:=ah.1 hr
 obtain ⟨n,hn,hr⟩:=ah.1 hr
 obtain ⟨k,hk⟩:=(he i b hb).nat hn
 have hc:=he x a ha
 rw [hk]
 generalize η x=c at hc
 rw [hC] at hr
 split at hr
 ·rename_i e hu
  obtain ⟨bk,o,len,cap,l,hl,rfl,rfl⟩:∃ bk o len cap l,ρ.at bk=some l∧a = .slice (some ⟨bk,o,none⟩) len cap∧c = .slice (some ⟨l.blk,l.off+o,none⟩) len (capOf l cap):=by
   cases hc with
   |slice hl=>exact ⟨_,_,_,_,_,hl,rfl,rfl⟩
   |dead=>exact absurd (aY (au.1 hr).1) (Nat.not_lt_zero _)
   |_=>cases hr
  obtain ⟨hg,hr⟩:=au.1 hr
  obtain ⟨sz,hsz,hr⟩:=ah.1 hr
  rw [aU hr]
  rw [hC] at hsz
  have hlt:=aY hg
  have hcond:(0:Int)≤(n:Int)∧(n:Int)<(len:Int):=by omega
  simp only [Instr.indexAt,Sem.run_bind,jm,run_underlying hu,Result.andThen_ok,Int.ofNat_eq_natCast,Sem.run_pure,if_pos hcond,run_sizeOf hsz,add_eq]
  simp only [Int.toNat_natCast]
  refine aS h ?_
  have:=VR.ptr (ρ:=ρ) (b:=bk) (o:=o+n*sz) (l:=l) hl
  simpa [ptr,Nat.add_assoc] using this
 ·rename_i len e hu
  obtain ⟨bk,o,l,hl,rfl,rfl⟩:∃ bk o l,ρ.at bk=some l∧a = .pointer (some ⟨bk,o,none⟩)∧c = .pointer (some ⟨l.blk,l.off+o,none⟩):=by
   cases hc with
   |ptr hl=>exact ⟨_,_,_,hl,rfl,rfl⟩
   |_=>cases hr
  obtain ⟨hg,hr⟩:=au.1 hr
  obtain ⟨sz,hsz,hr⟩:=ah.1 hr
  rw [aU hr]
  rw [hC] at hsz
  have hlt:=aY hg
  have hcond:(0:Int)≤(n:Int)∧(n:Int)<(len:Int):=by omega
  simp only [Instr.indexAt,Instr.sureAddr,Sem.run_bind,jm,run_underlying hu,Result.andThen_ok,Int.ofNat_eq_natCast,Sem.run_pure,if_pos hcond,run_sizeOf hsz,add_eq]
  simp only [Int.toNat_natCast]
  refine aS h ?_
  have:=VR.ptr (ρ:=ρ) (b:=bk) (o:=o+n*sz) (l:=l) hl
  simpa [ptr,Nat.add_assoc] using this
 ·cases hr
theorem YA (h:HR P base ρ s w)(he:EvR ρ ev η){arr:TypeId}{x:Operand}(C:Cfg)(hC:C.P=P){r:Res}(hr:akP C ev s arr x=some r) :
  nJ P base ρ s w (Sem.run P (do pure (.value (←Instr.arrayAt arr (η x)))) w) r:=by
 obtain ⟨a,ha,hr⟩:=ah.1 hr
 have hc:=he x a ha
 generalize η x=c at hc
 rw [hC] at hr
 split at hr
 ·rename_i n e a' len c' hu
  obtain ⟨hg,hr⟩:=au.1 hr
  rw [aU hr]
  simp only [Bool.and_eq_true] at hg
  have h1n:=Nat.le_of_ble_eq_true hg.1
  have hlt:¬(len<n):=by have:=Nat.le_of_ble_eq_true hg.2;omega
  cases hc with
  |bW n c=>
   simp only [Instr.arrayAt,Sem.run_bind,run_underlying hu,Result.andThen_ok,Sem.run_pure,if_neg hlt]
   exact aS h .kM
  |slice hl=>
   simp only [Instr.arrayAt,Sem.run_bind,run_underlying hu,Result.andThen_ok,Sem.run_pure,if_neg hlt]
   exact aS h (.ptr hl)
  |dead=>omega
 ·cases hr
theorem Jw (h:HR P base ρ s w)(he:EvR ρ ev η){t:TypeId}{x:Option Operand}(C:Cfg)(hC:C.P=P){r:Res}(hr:AY C ev s t x=some r) :
  nJ P base ρ s w (Sem.run P (do pure (.value (←Instr.makeMap t (x.map η)))) w) r:=by
 have hg:=Goes.aiD h
 have hv:VR (ρ.set s.next ⟨w.heap.size,0,0⟩) (.map (some s.next)) (.map (some w.heap.size)):=VR.map (l:=⟨w.heap.size,0,0⟩) (Ren.cu ρ _ _)
 cases x with
 |none=>
  rw [aU hr]
  have hrun:Sem.run P (do pure (Next.value (←Instr.makeMap t (Option.map η none)))) w = .ok (.value (.map (some w.heap.size))) (w.alloc (.map #[] 0)):=by
   simp [Instr.makeMap]
  rw [hrun]
  exact dX hg hv
 |some y=>
  obtain ⟨hg0,hr⟩:=au.1 hr
  obtain ⟨v,hy,hr⟩:=ah.1 hr
  obtain ⟨n,hn,hr⟩:=ah.1 hr
  rw [aU hr]
  obtain ⟨k,hk⟩:=(he y v hy).nat hn
  obtain ⟨kt,e,hu⟩:∃ k e,P.underlying t=some (.map k e):=by
   unfold isMap at hg0
   rw [hC] at hg0
   split at hg0
   ·exact ⟨_,_,by assumption⟩
   ·cases hg0
  have hrun:Sem.run P (do pure (Next.value (←Instr.makeMap t (Option.map η (some y))))) w = .ok (.value (.map (some w.heap.size))) (w.alloc (.map #[] 0)):=by
   simp [Instr.makeMap,hk,run_underlying hu,asInt,jm]
  rw [hrun]
  exact dX hg hv
end
end Go.Ax
namespace Go.Ax
variable [Lo]
open Go
section
variable {P:Program} {base:Nat} {ρ:Ren} {s s':St} {w w':World} {ev:Ev} {η:Operand→Value}
inductive PlR (ρ:Ren):Pl→Place→Prop
 |val {v c:Value} (h:VR ρ v c):PlR ρ (.val v) (.val c)
 |var {b o:Nat} {l:Loc} (h:ρ.at b=some l):PlR ρ (.var b o) (.var ⟨l.blk,l.off+o,none⟩)
theorem Aj (h:HR P base ρ s w){t:TypeId}{x:Pl}{y:Place}{v:Value}(hxy:PlR ρ x y)(hv:x.get P s t=some v):∃ c,(y.get t).run P w = .ok c w∧VR ρ v c:=by
 cases hxy with
 |val hvc=>cases hv;exact ⟨_,by simp [Place.get],hvc⟩
 |var hl=>exact lN h hl hv
theorem yH {a:Addr}{f:Field}{n:Nat}(hn:size P f.type=some n)(hg:(!Nat.beq n 0)=true):(fieldPlace a f).run P w = .ok (a.add f.offset) w:=by
 have hn0:n≠0:=by rintro rfl;simp at hg
 simp only [fieldPlace,run_sizeOf hn,hn0,if_false,Sem.run_bind,Sem.run_pure,Result.andThen_ok]
theorem ny (h:HR P base ρ s w):∀ (st:List FieldStep) {t:TypeId} {x:Pl} {y:Place} {r:TypeId × Pl},PlR ρ x y→follow P s st t x=some r→
  ∃ y',(Go.follow st t y).run P w = .ok (r.1,y') w∧PlR ρ r.2 y'
 |[],t,x,y,r,hxy,hr=>by
  cases hr
  exact ⟨y,by simp [Go.follow],hxy⟩
 |st::rest,t,x,y,r,hxy,hr=>by
  change aj (Vf P s st t x) (fun r=>follow P s rest r.1 r.2)=some r at hr
  obtain ⟨q,hq,hr⟩:=ah.1 hr
  unfold Vf at hq
  obtain ⟨f,hf,hq⟩:=ah.1 hq
  obtain ⟨n,hn,hq⟩:=ah.1 hq
  obtain ⟨fs,hu,hfs⟩:=rC hf
  cases hd:st.deref with
  |true=>
   rw [hd,aH] at hq
   split at hq
   ·rename_i a hx
    obtain ⟨hg,hq⟩:=au.1 hq
    cases hq
    obtain ⟨c,h1,h2⟩:=Aj h hxy hx
    cases h2 with
    |@ptr b o l hl=>
     obtain ⟨y',h3,h4⟩:=ny h rest (t:=f.type) (y:=.var ⟨l.blk,l.off+(o+f.offset),none⟩) (PlR.var hl) hr
     refine ⟨y',?_,h4⟩
     simp only [Go.follow,run_underlying hu,hfs,hd,if_true,Sem.run_bind,Result.andThen_ok,h1,asAddr,Sem.run_pure,yH hn hg,add_eq]
     rw [Nat.add_assoc]
     exact h3
   ·cases hq
  |false=>
   rw [hd,aF] at hq
   cases hxy with
   |@var b o l hl=>
    obtain ⟨hg,hq⟩:=au.1 hq
    cases hq
    obtain ⟨y',h3,h4⟩:=ny h rest (t:=f.type) (y:=.var ⟨l.blk,l.off+(o+f.offset),none⟩) (PlR.var hl) hr
    refine ⟨y',?_,h4⟩
    simp only [Go.follow,run_underlying hu,hfs,hd,Bool.false_eq_true,if_false,Sem.run_bind,Result.andThen_ok,yH hn hg,add_eq]
    rw [Nat.add_assoc]
    exact h3
   |@val a0 c0 hv=>
    obtain ⟨la,lc,hl,rfl,rfl⟩:∃ la lc,VRs ρ la lc∧a0=Value.agg ⟨la⟩∧c0=Value.agg ⟨lc⟩:=by
     cases hv with
     |agg hl=>exact ⟨_,_,hl,rfl,rfl⟩
     |_=>cases hq
    change aj (part P f.type la f.offset) (fun v=>some (f.type,Pl.val v))=some q at hq
    obtain ⟨v,hv,hq⟩:=ah.1 hq
    cases hq
    obtain ⟨c,h1,h2⟩:=sJ (w:=w) hv hl
    obtain ⟨y',h3,h4⟩:=ny h rest (t:=f.type) (y:=.val c) (PlR.val h2) hr
    refine ⟨y',?_,h4⟩
    simp only [Go.follow,run_underlying hu,hfs,hd,Bool.false_eq_true,if_false,Sem.run_bind,Result.andThen_ok,h1]
    exact h3
theorem yF (h:HR P base ρ s w){xt:TypeId}{x:Pl}{y:Place}{pr:Bool}{v:Value}(wrapper:Option String)(hxy:PlR ρ x y)(hr:receiver P s xt x pr=some v) :
  ∃ c,(receiverAt xt y pr wrapper).run P w = .ok c w∧VR ρ v c:=by
 unfold receiver at hr
 split at hr
 ·rename_i elem hu
  cases pr with
  |true=>
   rw [aH] at hr
   obtain ⟨c,h1,h2⟩:=Aj h hxy hr
   exact ⟨c,by simp [receiverAt,run_underlying hu,h1],h2⟩
  |false=>
   rw [aF] at hr
   split at hr
   ·rename_i a hx
    obtain ⟨c,h1,h2⟩:=Aj h hxy hx
    cases h2 with
    |@ptr b o l hl=>
     obtain ⟨c',h3,h4⟩:=lN h hl hr
     refine ⟨c',?_,h4⟩
     cases wrapper with
     |none=>simp [receiverAt,run_underlying hu,h1,asAddr,h3]
     |some name=>
      have hs:(Builtin.ssaWrapNilChk_ #[xt] xt #[.pointer (some ⟨l.blk,l.off+o,none⟩),strVal "",strVal name]).run P w = .ok (.pointer (some ⟨l.blk,l.off+o,none⟩)) w:=rfl
      simp [receiverAt,run_underlying hu,h1,asAddr,h3,hs]
   ·cases hr
 ·rename_i d hnp hu
  cases hxy with
  |@var b o l hl=>
   cases pr with
   |true=>
    change some (ptr b o)=some v at hr
    cases hr
    refine ⟨.pointer (some ⟨l.blk,l.off+o,none⟩),?_,.ptr hl⟩
    cases d <;> first|exact absurd rfl (hnp _)|simp [receiverAt,run_underlying hu]
   |false=>
    change Pl.get P s xt (.var b o)=some v at hr
    obtain ⟨c,h1,h2⟩:=Aj h (PlR.var hl) hr
    refine ⟨c,?_,h2⟩
    cases d <;> first|exact absurd rfl (hnp _)|simp [receiverAt,run_underlying hu,h1]
  |val hv=>
   cases pr with
   |true=>cases hr
   |false=>
    cases hr
    refine ⟨_,?_,hv⟩
    cases d <;> first|exact absurd rfl (hnp _)|simp [receiverAt,run_underlying hu,Place.get]
 ·cases hr
theorem vW {t:TypeId}{name:String}{m:Method}(h:xB P t name=some m):∃ i,P.info? t=some i∧i.methods.find? (·.name == name)=some m:=by
 unfold xB at h
 cases hi:P.info? t with
 |none=>simp [hi] at h
 |some i=>
  rw [hi] at h
  refine ⟨i,rfl,?_⟩
  rw [←Array.find?_toList]
  exact h
theorem Qd (h:HR P base ρ s w){t:TypeId}{v c:Value}{name:String}{q:FuncId × Value}(hv:VR ρ v c)(hq:method P s t v name=some q)(fuel:Nat) :
  ∃ c',(Go.method (fuel+1) t c name).run P w = .ok (q.1,c') w∧VR ρ q.2 c':=by
 unfold Ax.method at hq
 obtain ⟨m,hm,hq⟩:=ah.1 hq
 obtain ⟨r,hr,hq⟩:=ah.1 hq
 obtain ⟨i,hi,hfm⟩:=vW hm
 obtain ⟨y,h1,h2⟩:=ny h m.path.toList (PlR.val hv) hr
 cases hf:m.func with
 |none=>rw [hf] at hq;cases hq
 |some fp=>
  rw [hf] at hq
  change aj (receiver P s r.1 r.2 fp.2) (fun v=>some (fp.1,v))=some q at hq
  obtain ⟨u,hu,hq⟩:=ah.1 hq
  cases hq
  obtain ⟨c',h3,h4⟩:=yF h (if m.path.isEmpty then some ((name.splitOn ".").getLastD name) else none) h2 hu
  refine ⟨c',?_,h4⟩
  obtain ⟨f,pr⟩:=fp
  simp only [Go.method,Go.typeInfo,Sem.run_bind,run_program,Result.andThen_ok,hi,Sem.run_pure,hfm,h1,hf,h3]
end
end Go.Ax
namespace Go.Ax
variable [Lo]
open Go
theorem KU {l:List String}:Instr.least l=none↔l=[]:=by cases l <;> simp [Instr.least]
theorem XC (p:String→Bool)(g:String→String)(l:List String):(Instr.least (l.partition p).2 <|> Instr.least ((l.partition p).1.map g))=none↔l=[]:=by
 rw [List.partition_eq_filter_filter]
 constructor
 ·intro h
  have h3:Instr.least (l.filter (not ∘ p))=none∧Instr.least ((l.filter p).map g)=none:=by
   cases hx:Instr.least (l.filter (not ∘ p)) with
   |none=>rw [hx] at h;exact ⟨rfl,h⟩
   |some q=>rw [hx] at h;cases h
  rw [KU,KU,List.map_eq_nil_iff,List.filter_eq_nil_iff,List.filter_eq_nil_iff] at h3
  cases l with
  |nil=>rfl
  |cons a t=>
   have h1:=h3.1 a (by simp)
   have h2:=h3.2 a (by simp)
   cases hb:p a
   ·simp only [Function.comp,hb] at h1;exact absurd rfl h1
   ·exact absurd hb h2
 ·rintro rfl
  simp [Instr.least]
theorem missingMethod_none (want:Array (String × TypeId))(got:Array Method) :
  Instr.missingMethod want got=none↔(want.toList.any fun w=>!(got.toList.any fun m=>m.name == w.1&&m.sig == w.2))=false:=by
 unfold Instr.missingMethod
 generalize hl:(List.filter (fun x=>match x with|(name,sig)=>!got.any fun m=>m.name == name&&m.sig == sig) want.toList).map (·.1)=l
 have h1:(want.toList.any fun w=>!(got.toList.any fun m=>m.name == w.1&&m.sig == w.2))=false↔l=[]:=by
  rw [←hl,List.map_eq_nil_iff,List.filter_eq_nil_iff,List.any_eq_false]
  constructor
  ·intro h a ha
   have:=h a ha
   simpa using this
  ·intro h a ha
   have:=h a ha
   simpa using this
 rw [h1]
 exact XC _ _ l
section
variable {P:Program} {base:Nat} {ρ:Ren} {s s':St} {w w':World} {ev:Ev} {η:Operand→Value}
theorem Dx {t:TypeId}{z:Value}(h:Dj P t=some z):∃ i,P.info? t=some i∧i.zero=some z:=by
 have h:=(au.1 h).2
 cases hi:P.info? t with
 |none=>simp [hi] at h
 |some i=>exact ⟨i,rfl,by simpa [hi] using h⟩
theorem yO {t:TypeId}{z:Value}(h:Dj P t=some z):(zeroValue t).run P w = .ok z w:=by
 obtain ⟨i,h1,h2⟩:=Dx h
 simp [zeroValue,Go.typeInfo,h1,h2]
theorem nN.at (hZ:nN P){t:TypeId}{z:Value}(h:Dj P t=some z):VR ρ z z:=by
 obtain ⟨i,h1,h2⟩:=Dx h
 exact hZ t i z (Nat.le_of_ble_eq_true (au.1 h).1) h1 h2 ρ
theorem LM (h:HR P base ρ s w)(he:EvR ρ ev η)(hZ:nN P){x:Operand}{xt asserted:TypeId}{ok:Bool}(C:Cfg)(hC:C.P=P){r:Res}(hr:F8 C ev s x asserted ok=some r) :
  nJ P base ρ s w (Sem.run P (do pure (.value (←Instr.typeAssert (η x) xt asserted ok))) w) r:=by
 obtain ⟨hg,hr⟩:=au.1 hr
 obtain ⟨a,ha,hr⟩:=ah.1 hr
 have hc:=he x a ha
 generalize η x=c at hc
 rw [hC] at hg
 obtain ⟨d,hd⟩:=Option.isSome_iff_exists.1 hg
 have afO:∀ {r},oz C s asserted ok=some r→∃ z,ok=true∧(zeroValue asserted).run P w = .ok z w∧VR ρ z z∧r = .val (.tuple #[z,.bool false]) s:=by
  intro r hr
  obtain ⟨hok,hr⟩:=au.1 hr
  obtain ⟨z,hz,hr⟩:=ah.1 hr
  rw [hC] at hz
  exact ⟨z,hok,yO hz,hZ.at hz,aU hr⟩
 have aoK:∀ {z:Value},VR ρ z z→VR ρ (.tuple #[z,.bool false]) (.tuple #[z,.bool false]):=fun hz=>.tuple (.cons hz (.cons (.bool _) .nil))
 have aln:∀ {v c:Value},VR ρ v c→VR ρ (sel ok (.tuple #[v,.bool true]) v) (if ok then .tuple #[c,.bool true] else c):=by
  intro v c hv
  cases ok
  ·exact hv
  ·exact .tuple (.cons hv (.cons (.bool _) .nil))
 cases hc with
 |nilIface=>
  obtain ⟨z,rfl,h1,h2,rfl⟩:=afO hr
  have hrun:(Instr.typeAssert .nilIface xt asserted true).run P w = .ok (.tuple #[z,.bool false]) w:=by
   cases d <;> simp [Instr.typeAssert,run_underlying hd,h1]
  simp only [Sem.run_bind,hrun,Result.andThen_ok,Sem.run_pure]
  exact aS h (aoK h2)
 |@iface t y y' hy=>
  change sel (isIface C.P asserted) (guard (C.P.info? t).isSome <| sel (missing C.P asserted t) (oz C s asserted ok) (xI s (.iface t y) ok)) (sel (Nat.beq t asserted) (xI s y ok) (oz C s asserted ok))=some r at hr
  rw [hC,aC] at hr
  split at hr
  ·rename_i hi
   obtain ⟨want,rfl⟩:∃ want,d = .interface want:=by
    unfold isIface at hi
    rw [hd] at hi
    cases d <;> first|exact ⟨_,rfl⟩|cases hi
   obtain ⟨hg2,hr⟩:=au.1 hr
   obtain ⟨i,UQ⟩:=Option.isSome_iff_exists.1 hg2
   have hmm:=missingMethod_none want i.methods
   have aqc:missing P asserted t=(want.toList.any fun w=>!(i.methods.toList.any fun m=>m.name == w.1&&m.sig == w.2)):=by
    unfold missing;rw [hd,UQ]
   rw [←aqc] at hmm
   cases hm:missing P asserted t with
   |true=>
    rw [hm,aH] at hr
    obtain ⟨z,rfl,h1,h2,rfl⟩:=afO hr
    rw [hm] at hmm
    cases hq:Instr.missingMethod want i.methods with
    |none=>exact absurd (hmm.1 hq) (by simp)
    |some q=>
     have hrun:(Instr.typeAssert (.iface t y') xt asserted true).run P w = .ok (.tuple #[z,.bool false]) w:=by
      simp [Instr.typeAssert,run_underlying hd,h1,Go.typeInfo,UQ,hq]
     simp only [Sem.run_bind,hrun,Result.andThen_ok,Sem.run_pure]
     exact aS h (aoK h2)
   |false=>
    rw [hm,aF] at hr
    rw [aU hr]
    have hq:=hmm.2 hm
    have hrun:(Instr.typeAssert (.iface t y') xt asserted ok).run P w = .ok (if ok then .tuple #[.iface t y',.bool true] else .iface t y') w:=by
     simp [Instr.typeAssert,run_underlying hd,Go.typeInfo,UQ,hq]
    simp only [Sem.run_bind,hrun,Result.andThen_ok,Sem.run_pure]
    exact aS h (aln (.iface t hy))
  ·rename_i hi
   have hni:∀ want,d ≠ .interface want:=by
    rintro want rfl
    apply hi
    unfold isIface
    rw [hd]
   rw [aC] at hr
   split at hr
   ·rename_i hta
    have hta:=Nat.eq_of_beq_eq_true hta
    have hr2:=aU hr
    rw [hr2]
    have hrun:(Instr.typeAssert (.iface t y') xt asserted ok).run P w = .ok (if ok then .tuple #[y',.bool true] else y') w:=by
     cases d <;> first|exact absurd rfl (hni _)|simp [Instr.typeAssert,run_underlying hd,hta]
    simp only [Sem.run_bind,hrun,Result.andThen_ok,Sem.run_pure]
    exact aS h (aln hy)
   ·rename_i hta
    have hta:t≠asserted:=fun e=>hta (by rw [e];exact Nat.beq_refl _)
    obtain ⟨z,rfl,h1,h2,rfl⟩:=afO hr
    have hrun:(Instr.typeAssert (.iface t y') xt asserted true).run P w = .ok (.tuple #[z,.bool false]) w:=by
     cases d <;> first|exact absurd rfl (hni _)|simp [Instr.typeAssert,run_underlying hd,hta,h1]
    simp only [Sem.run_bind,hrun,Result.andThen_ok,Sem.run_pure]
    exact aS h (aoK h2)
 |_=>cases hr
end
end Go.Ax
namespace Go.Ax
variable [Lo]
open Go
section
variable {P:Program} {base:Nat} {ρ:Ren} {s s':St} {w w':World} {ev:Ev} {η:Operand→Value}
theorem L8 {t:TypeId}{v c:Value}{name:String}(hv:VR ρ v c)(h:LZ P t v name=true)(fuel:Nat):(nilAhead (fuel+1) t c name).run P w = .ok (some false) w:=by
 unfold LZ at h
 split at h
 ·cases h
 ·rename_i m hm
  obtain ⟨i,hi,hfm⟩:=vW hm
  rw [aC] at h
  split at h
  ·rename_i hp
   have hp:m.path.toList=[]:=by
    have:m.path=#[]:=by simpa [Array.isEmpty_iff] using hp
    rw [this]
   have h0:(followBlind m.path.toList t (some c)).run P w = .ok (.ok (t,some c)) w:=by rw [hp];simp [followBlind]
   split at h
   ·rename_i f hf
    simp [nilAhead,Go.typeInfo,hi,hfm,h0,hf]
   ·rename_i f e a hf hu
    cases hv with
    |ptr hl=>simp [nilAhead,Go.typeInfo,hi,hfm,h0,hf,run_underlying hu]
   ·cases h
   ·rename_i f d hnp hf hu _
    have hd:∀ e,d ≠ .pointer e:=fun e h=>hnp e h
    cases d <;> first|exact absurd rfl (hd _)|simp [nilAhead,Go.typeInfo,hi,hfm,h0,hf,run_underlying hu]
   ·cases h
  ·cases h
theorem Ik (h:HR P base ρ s w)(he:EvR ρ ev η){x:Operand}(C:Cfg)(hC:C.P=P){r:Res}{o:Oper}(ho:o.op = .nilCheck x)(hr:vX C ev s x=some r) :
  nJ P base ρ s w (Sem.run P (Go.execOp η o) w) r:=by
 obtain ⟨a,ha,hr⟩:=ah.1 hr
 have hc:=he x a ha
 unfold Go.execOp
 simp only [ho]
 generalize η x=c at hc
 cases hc with
 |ptr hl=>
  have hr2:=aU hr
  rw [hr2]
  simp only [Sem.run_pure]
  exact aS h (.ptr hl)
 |iface t hv=>
  have hr2:=aU hr
  rw [hr2]
  simp only [Sem.run_pure]
  exact aS h (.iface t hv)
 |@func f f' la lc lb lb' hf hfirst hcap=>
  change guard (Xn C f la) (ret (.func f ⟨la⟩ ⟨lb⟩) s)=some r at hr
  obtain ⟨hg,hr⟩:=au.1 hr
  have hr2:=aU hr
  rw [hr2]
  have hv:=VR.func hf hfirst hcap
  cases hf with
  |method name=>
   unfold Xn at hg
   cases hfirst with
   |nil=>cases hg
   |@cons v v' l l' hv1 hl=>
    cases hv1 with
    |iface t hw=>
     change LZ C.P t _ name=true at hg
     rw [hC] at hg
     have:=L8 (w:=w) hw hg (P.types.size+Made.depth-1)
     have e:P.types.size+Made.depth-1+1=P.types.size+Made.depth:=by
      have:0<Made.depth:=by decide
      omega
     rw [e] at this
     simp [this]
     exact aS h hv
    |_=>cases hg
  |func f=>simp only [Sem.run_pure];exact aS h hv
  |methodOf t n=>simp only [Sem.run_pure];exact aS h hv
  |via t p f b=>simp only [Sem.run_pure];exact aS h hv
  |yield hl=>simp only [Sem.run_pure];exact aS h hv
 |_=>cases hr
theorem Ou (hZ:nN P){t e:TypeId}{l c:Nat}{i:TypeInfo}{z:List Value}(hu:P.underlying t=some (.slice e))(hi:P.info? e=some i)(hz:zero P e=some z)
  (hg1:aV z=i.size) (hg2:1≤i.size) (hg3:l≤c) (hg4:c≤100000) (hg5:i.bytes*c≤281474976710656) {x y:Value} {k1 k2:IntKind} (hk1:x = .int k1 (l:Int)) (hk2:y = .int k2 (c:Int)) :
  ∃ arr,VRs ρ (repeatL c z) arr.toList∧(Instr.makeSlice t x y).run P w = .ok (.slice (some ⟨w.heap.size,0,none⟩) l c) (w.alloc (.cells arr e)):=by
 rw [aP] at hg1
 obtain ⟨i2,v,h1,h2,h3,h4⟩:=oH hZ hz ρ
 rw [hi] at h1
 cases h1
 have hzv:(zeroValue e).run P w = .ok v w:=by simp [zeroValue,Go.typeInfo,hi,h2]
 have hvn:v.cells.size=i.size:=by
  have:=h4.length
  simp at this
  omega
 have hsz:(Go.sizeOf e).run P w = .ok i.size w:=by simp [Go.sizeOf,Go.typeInfo,hi]
 have hzz:VRs ρ (repeatL c z) ((Array.range (c*i.size)).map fun j=>v.cells[j%v.cells.size]!).toList:=by
  have:=lH h4 c (.inl (by omega))
  have e0:c*v.cells.size=c*i.size:=by rw [hvn]
  rwa [e0] at this
 have hw1:IntKind.i64.wrap (l:Int)=(l:Int):=jO (by omega)
 have hw2:IntKind.i64.wrap (c:Int)=(c:Int):=jO (by omega)
 have ht:¬((c:Int)<0∨(i.bytes:Int)*(c:Int)>2 ^ 48):=by
  have:(i.bytes:Int)*(c:Int)=((i.bytes*c:Nat):Int):=by simp
  omega
 have hlc:¬((l:Int)<0):=by omega
 have am0:¬((l:Int)>(c:Int)):=by omega
 have hrun:(Instr.makeSlice t x y).run P w = .ok (.slice (some ⟨w.heap.size,0,none⟩) l c) (w.alloc (.cells ((Array.range (c*i.size)).map fun j=>v.cells[j%v.cells.size]!) e)):=by
  rw [hk1,hk2]
  have hcond:((decide ((c:Int)<0)||decide ((i.bytes:Int)*(c:Int)>2 ^ 48))||decide ((l:Int)<0)||decide ((l:Int)>(c:Int)))=false:=by
   simp only [not_or] at ht
   simp only [ht.1,ht.2,hlc,am0,decide_false,Bool.or_false]
  simp only [Instr.makeSlice,run_underlying hu,Sem.run_bind,Result.andThen_ok,asInt,jm,Sem.run_pure,Go.typeInfo,run_program,hi,hw1,hw2,hcond,Bool.false_eq_true,if_false,run_askRoom,Int.toNat_natCast,hsz]
  by_cases h0:c*i.size=0
  ·have hc0:c=0:=by
    rcases Nat.mul_eq_zero.1 h0 with h|h
    ·exact h
    ·omega
   subst hc0
   have e0:Array.range 0=#[]:=rfl
   simp [newRow,e0]
  ·simp only [h0,if_false,Sem.run_bind,hzv,Result.andThen_ok,Sem.run_pure]
   simp [newRow]
 exact ⟨_,hzz,hrun⟩
theorem ED (h:HR P base ρ s w)(he:EvR ρ ev η)(hZ:nN P){t:TypeId}{x y:Operand}(C:Cfg)(hC:C.P=P){r:Res}(hr:kF C ev s t x y=some r) :
  nJ P base ρ s w (Sem.run P (do pure (.value (←Instr.makeSlice t (η x) (η y)))) w) r:=by
 unfold kF at hr
 rw [hC] at hr
 split at hr
 ·rename_i e hu
  obtain ⟨a,ha,hr⟩:=ah.1 hr
  obtain ⟨l,hl,hr⟩:=ah.1 hr
  obtain ⟨b,hb,hr⟩:=ah.1 hr
  obtain ⟨c,hc,hr⟩:=ah.1 hr
  obtain ⟨i,hi,hr⟩:=ah.1 hr
  obtain ⟨z,hz,hr⟩:=ah.1 hr
  obtain ⟨hg,hr⟩:=au.1 hr
  have hr2:=aU hr
  rw [hr2]
  simp only [Bool.and_eq_true] at hg
  obtain ⟨⟨⟨⟨hg1,hg2⟩,hg3⟩,hg4⟩,hg5⟩:=hg
  have hg1:=Nat.eq_of_beq_eq_true hg1
  have hg2:=Nat.le_of_ble_eq_true hg2
  have hg3:=Nat.le_of_ble_eq_true hg3
  have hg4:=Nat.le_of_ble_eq_true hg4
  have hg5:=Nat.le_of_ble_eq_true hg5
  change i.bytes*c≤281474976710656 at hg5
  rw [aP] at hg1
  obtain ⟨k1,hk1⟩:=(he x a ha).nat hl
  obtain ⟨k2,hk2⟩:=(he y b hb).nat hc
  obtain ⟨i2,v,h1,h2,h3,h4⟩:=oH hZ hz ρ
  rw [hi] at h1
  cases h1
  have hzv:(zeroValue e).run P w = .ok v w:=by simp [zeroValue,Go.typeInfo,hi,h2]
  have hvn:v.cells.size=i.size:=by
   have:=h4.length
   simp at this
   omega
  have hsz:(Go.sizeOf e).run P w = .ok i.size w:=by simp [Go.sizeOf,Go.typeInfo,hi]
  have hzz:VRs ρ (repeatL c z) ((Array.range (c*i.size)).map fun j=>v.cells[j%v.cells.size]!).toList:=by
   have:=lH h4 c (.inl (by omega))
   have e0:c*v.cells.size=c*i.size:=by rw [hvn]
   rwa [e0] at this
  have hw1:IntKind.i64.wrap (l:Int)=(l:Int):=jO (by omega)
  have hw2:IntKind.i64.wrap (c:Int)=(c:Int):=jO (by omega)
  have ht:¬((c:Int)<0∨(i.bytes:Int)*(c:Int)>2 ^ 48):=by
   have:(i.bytes:Int)*(c:Int)=((i.bytes*c:Nat):Int):=by simp
   omega
  have hlc:¬((l:Int)<0):=by omega
  have am0:¬((l:Int)>(c:Int)):=by omega
  have hrun:(Instr.makeSlice t (η x) (η y)).run P w = .ok (.slice (some ⟨w.heap.size,0,none⟩) l c) (w.alloc (.cells ((Array.range (c*i.size)).map fun j=>v.cells[j%v.cells.size]!) e)):=by
   rw [hk1,hk2]
   have hcond:((decide ((c:Int)<0)||decide ((i.bytes:Int)*(c:Int)>2 ^ 48))||decide ((l:Int)<0)||decide ((l:Int)>(c:Int)))=false:=by
    simp only [not_or] at ht
    simp only [ht.1,ht.2,hlc,am0,decide_false,Bool.or_false]
   simp only [Instr.makeSlice,run_underlying hu,Sem.run_bind,Result.andThen_ok,asInt,jm,Sem.run_pure,Go.typeInfo,run_program,hi,Int.ofNat_eq_natCast,hw1,hw2,hcond,Bool.false_eq_true,if_false,run_askRoom,Int.toNat_natCast,hsz]
   by_cases h0:c*i.size=0
   ·have hc0:c=0:=by
     rcases Nat.mul_eq_zero.1 h0 with h|h
     ·exact h
     ·omega
    subst hc0
    have e0:Array.range 0=#[]:=rfl
    simp [newRow,e0]
   ·simp only [h0,if_false,Sem.run_bind,hzv,Result.andThen_ok,Sem.run_pure]
    simp [newRow]
  have hgo:=Goes.newRow (e:=e) h hzz
  simp only [Sem.run_bind,hrun,Result.andThen_ok,Sem.run_pure]
  refine dX hgo ?_
  have:=VR.slice (ρ:=ρ.set s.next ⟨w.heap.size,0,0⟩) (b:=s.next) (o:=0) (n:=l) (c:=c) (l:=⟨w.heap.size,0,0⟩) (by rw [Ren.bJ h.next,Ren.cu])
  have hcap:capOf ⟨w.heap.size,0,0⟩ c=c:=by
   unfold capOf;rw [if_neg];unfold aQ;omega
  rw [hcap] at this
  exact this
 ·cases hr
end
end Go.Ax
namespace Go.Ax
variable [Lo]
open Go
inductive Td (ρ:Ren):Option Value→Option Value→Prop
 |none:Td ρ none none
 |some {v c:Value} (h:VR ρ v c):Td ρ (some v) (some c)
section
variable {P:Program} {base:Nat} {ρ:Ren} {s s':St} {w w':World} {ev:Ev} {η:Operand→Value}
theorem CV (he:EvR ρ ev η){x:Option Operand}{k:Option Value→Option Res}{r:Res}(hr:Po ev x k=some r):∃ v,Td ρ v (x.map η)∧k v=some r:=by
 cases x with
 |none=>exact ⟨none,.none,hr⟩
 |some x=>
  obtain ⟨v,hv,hr⟩:=ah.1 hr
  exact ⟨some v,.some (he x v hv),hr⟩
theorem run_sliceBound {v c:Value}{n y:Nat}(hv:VR ρ v c)(hn:asNat v=some n)(hy:n≤y)(code:BoundsCode):(Instr.sliceBound c y code).run P w = .ok n w:=by
 obtain ⟨k,rfl⟩:=hv.nat hn
 have:(0:Int)≤(n:Int)∧(n:Int)≤(y:Int):=by omega
 simp only [Instr.sliceBound,Sem.run_bind,jm,Result.andThen_ok,Int.ofNat_eq_natCast,if_pos this,Sem.run_pure,Int.toNat_natCast]
theorem zu {β:Type}{lo hi mx:Option Value}{len cap:Nat}{k:Nat→Nat→Nat→Option β}{r:β}(h:bounds lo hi mx len cap k=some r) :
  ∃ l h m,bound lo 0=some l∧bound hi len=some h∧bound mx cap=some m∧k l h m=some r:=by
 obtain ⟨l,h1,h⟩:=ah.1 h
 obtain ⟨hh,h2,h⟩:=ah.1 h
 obtain ⟨m,h3,h⟩:=ah.1 h
 exact ⟨l,hh,m,h1,h2,h3,h⟩
theorem gX {lo hi mx lo' hi' mx':Option Value}(hlo:Td ρ lo lo')(hhi:Td ρ hi hi')(hmx:Td ρ mx mx'){isSlice:Bool}{len apz acp l h m M:Nat}
  (h1:bound lo 0=some l) (h2:bound hi len=some h) (h3:bound mx apz=some m) (hM:mx.isSome=true→M=m∧hi.isSome=true) (hM2:mx=none→M=acp)
  (hl:l≤h) (hh:h≤M) (hm:M≤acp):(Instr.sliceBounds isSlice len acp lo' hi' mx').run P w = .ok (l,h,M) w:=by
 cases hmx with
 |none=>
  have hM2:=hM2 rfl
  subst hM2
  cases hhi with
  |none=>
   cases h2
   cases hlo with
   |none=>cases h1;simp [Instr.sliceBounds]
   |some hv=>simp [Instr.sliceBounds,run_sliceBound hv h1 hl]
  |some hv2=>
   cases hlo with
   |none=>cases h1;simp [Instr.sliceBounds,run_sliceBound hv2 h2 hh]
   |some hv=>simp [Instr.sliceBounds,run_sliceBound hv h1 hl,run_sliceBound hv2 h2 hh]
 |some hv3=>
  obtain ⟨rfl,hi1⟩:=hM rfl
  cases hhi with
  |none=>cases hi1
  |some hv2=>
   cases hlo with
   |none=>cases h1;simp [Instr.sliceBounds,run_sliceBound hv2 h2 hh,run_sliceBound hv3 h3 hm]
   |some hv=>simp [Instr.sliceBounds,run_sliceBound hv h1 hl,run_sliceBound hv2 h2 hh,run_sliceBound hv3 h3 hm]
theorem gK {l:Loc}{c:Nat}(h:c<aQ):capOf l c=c:=by unfold capOf;rw [if_neg (by omega)]
theorem oD {l:Loc}{c:Nat}(h:aQ≤c):capOf l c=l.cap-(aA-c):=by unfold capOf;rw [if_pos h]
theorem E5 (h:HR P base ρ s w){b o cap n k:Nat}{cs:List Value}{e:TypeId}{f:Nat}{l:Loc}(hl:ρ.at b=some l)(hc:s.cells b=some (cs,e,f))(hf:f≠0)(hn:size P e=some n)
  (ho:o=(aA-cap)*n) (hk:o+k*n≤cs.length) (hn0:0<n):(aA-cap)+k≤l.cap:=by
 obtain ⟨q,hq⟩:=h.rows b cs e f hc
 have hql:q=l:=by have:=hq.at_;rw [hl] at this;exact (Option.some.inj this).symm
 subst hql
 obtain ⟨_,a,fz,_,_,_,_,g5⟩:=hq
 obtain ⟨n',h1,h2,h3,h4⟩:=g5 hf
 rw [hn] at h1
 cases h1
 have:((aA-cap)+k)*n≤q.cap*n:=by rw [Nat.add_mul];omega
 exact Nat.le_of_mul_le_mul_right this hn0
end
end Go.Ax
namespace Go.Ax
variable [Lo]
open Go
section
variable {P:Program} {base:Nat} {ρ:Ren} {s s':St} {w w':World}
theorem Nv (hH:HR P base ρ s w){b o cap l h m n M:Nat}{e:TypeId}{L:Loc}{v:Value}(hL:ρ.at b=some L)(hcap:aQ≤cap)(hn:size P e=some n)
  (hlh:l≤h) (hhm:h≤m) (hmc:m≤cap) (hM:(m<aQ∧M=m)∨(m=cap∧M=capOf L cap)) (hr:rD s ⟨b,o,none⟩ e cap l h m n=some (v,s')) :
  h≤M∧M≤capOf L cap∧∃ ρ',Goes P base ρ s w ρ' s' w∧
   VR ρ' v (.slice (some (if M=l then ⟨L.blk,L.off+o,none⟩ else ⟨L.blk,L.off+o+l*n,none⟩)) (h-l) (M-l)):=by
 unfold rD at hr
 obtain ⟨⟨cs,e',f⟩,hc,hr2⟩:=ah.1 hr
 clear hr
 obtain ⟨hg,hr⟩:=au.1 hr2
 clear hr2
 simp only [Bool.and_eq_true,Bool.not_eq_true',Bool.or_eq_true] at hg
 obtain ⟨⟨⟨⟨⟨⟨g1,g2⟩,g3⟩,g4⟩,g5⟩,g6⟩,g7⟩:=hg
 have g1:=Nat.eq_of_beq_eq_true g1
 subst g1
 have g2:o=(aA-cap)*n:=Nat.eq_of_beq_eq_true g2
 have g3:=Nat.le_of_ble_eq_true g3
 have g4:f≠0:=by rintro rfl;simp at g4
 have g5:=Nat.le_of_ble_eq_true g5
 have g7:=Nat.le_of_ble_eq_true g7
 rw [aP] at g7
 change o+(sel (Nat.ble aQ m) h m)*n≤cs.length at g7
 rw [oD hcap] at hM ⊢
 have hd:∀ k,o+k*n≤cs.length→(aA-cap)+k≤L.cap:=fun k hk=>E5 hH hL hc g4 hn g2 hk (by omega)
 obtain ⟨q,hq⟩:=hH.rows b cs e' f hc
 have hql:q=L:=by have:=hq.at_;rw [hL] at this;exact (Option.some.inj this).symm
 subst hql
 obtain ⟨_,a,fz,ha,wK,hfz,h0,h1⟩:=hq
 obtain ⟨n',hn',_,hsz,hlen⟩:=h1 g4
 rw [hn] at hn'
 cases hn'
 have hb:h≤M∧M≤q.cap-(aA-cap):=by
  rcases hM with ⟨hm,rfl⟩|⟨rfl,rfl⟩
  ·have:Nat.ble aQ M=false:=by
    rw [←Bool.not_eq_true];intro hb;have:=Nat.le_of_ble_eq_true hb;omega
   rw [this,aF] at g7
   have:=hd M g7
   exact ⟨hhm,by omega⟩
  ·rw [Nat.ble_eq_true_of_le hcap,aH] at g7
   have:=hd h g7
   exact ⟨by omega,Nat.le_refl _⟩
 refine ⟨hb.1,hb.2,?_⟩
 rw [aC] at hr
 split at hr
 ·rename_i hcond
  cases hr
  refine ⟨ρ,Goes.refl hH,?_⟩
  rcases hM with ⟨hm,rfl⟩|⟨rfl,rfl⟩
  ·
   have hk:M-l<aQ:=by omega
   rw [aC]
   by_cases hml:M=l
   ·subst hml
    rw [if_pos (Nat.beq_refl _),if_pos rfl]
    have:=VR.slice (ρ:=ρ) (b:=b) (o:=o) (n:=h-M) (c:=M-M) hL
    rw [gK hk] at this
    exact this
   ·rw [if_neg (fun hh=>hml (Nat.eq_of_beq_eq_true hh)),if_neg hml]
    have:=VR.slice (ρ:=ρ) (b:=b) (o:=o+l*n) (n:=h-l) (c:=M-l) hL
    rw [gK hk,←Nat.add_assoc] at this
    exact this
  ·have hge:aQ≤m-l:=by
    rcases g6 with g6|g6
    ·have:=aY g6;omega
    ·exact Nat.le_of_ble_eq_true g6
   have hml:m≠l:=by unfold aQ at hge;omega
   rw [aC,if_neg (fun hh=>hml (Nat.eq_of_beq_eq_true hh))]
   have hcp:capOf q (Nat.sub m l)=q.cap-(aA-m)-l:=by
    rw [oD (by exact hge)]
    show q.cap-(aA-(m-l))=_
    omega
   have key:=VR.slice (ρ:=ρ) (b:=b) (o:=o+l*n) (n:=h-l) (c:=Nat.sub m l) hL
   rw [hcp,←Nat.add_assoc] at key
   by_cases hMl:q.cap-(aA-m)=l
   ·rw [if_pos hMl]
    have hl0:l=0:=by
     simp only [Bool.or_eq_true] at hcond
     rcases hcond with ((hc1|hc1)|hc1)|hc1
     ·have:=aY hc1;omega
     ·have:=aY hc1;omega
     ·have hc1:=aY hc1
      rw [aP] at hc1
      change o+l*n<cs.length at hc1
      have:=hd (l) (by omega)
      have hlt:((aA-m)+l)*n<q.cap*n:=by rw [Nat.add_mul];omega
      have:=Nat.lt_of_mul_lt_mul_right hlt
      omega
     ·exact Nat.eq_of_beq_eq_true hc1
    subst hl0
    simpa using key
   ·rw [if_neg hMl]
    exact key
 ·rename_i hcond
  simp only [Bool.or_eq_true,not_or] at hcond
  obtain ⟨⟨⟨hc1,hc2⟩,hc3⟩,hc4⟩:=hcond
  have apX:h-l=0:=by
   have:¬(l<h):=fun hh=>hc2 (Nat.ble_eq_true_of_le hh)
   omega
  cases hr
  refine ⟨ρ,Goes.refl hH,?_⟩
  rw [apX]
  exact .dead _ _
end
end Go.Ax
namespace Go.Ax
variable [Lo]
open Go
section
variable {P:Program} {base:Nat} {ρ:Ren} {s s':St} {w w':World} {ev:Ev} {η:Operand→Value}
theorem G8 {b o l h m n:Nat}{L:Loc}{v:Value}(hL:ρ.at b=some L)(hm:m<aQ)(hr:xR ⟨b,o,none⟩ l h m n s=some (v,s')) :
  s'=s∧VR ρ v (.slice (some (if m=l then ⟨L.blk,L.off+o,none⟩ else ⟨L.blk,L.off+o+l*n,none⟩)) (h-l) (m-l)):=by
 cases hr
 refine ⟨rfl,?_⟩
 have hk:m-l<aQ:=by omega
 rw [aC]
 by_cases hml:m=l
 ·subst hml
  rw [if_pos (Nat.beq_refl _),if_pos rfl]
  have:=VR.slice (ρ:=ρ) (b:=b) (o:=o) (n:=h-m) (c:=m-m) hL
  rw [gK hk] at this
  exact this
 ·rw [if_neg (fun hh=>hml (Nat.eq_of_beq_eq_true hh)),if_neg hml]
  have:=VR.slice (ρ:=ρ) (b:=b) (o:=o+l*n) (n:=h-l) (c:=m-l) hL
  rw [gK hk,←Nat.add_assoc] at this
  exact this
theorem Me (M l n o c:Nat):(if M=l then (⟨c,o,none⟩:Addr) else ⟨c,o+l*n,none⟩)=(if M=l then ⟨c,o,none⟩ else (⟨c,o,none⟩:Addr).add (l*n)):=by
 rw [add_eq]
theorem Ro {α:Type}{x:Option α}(h:x.isNone=true):x=none:=by cases x <;> first|rfl|cases h
theorem zN (hH:HR P base ρ s w){t e:TypeId}{n:Nat}(hu:P.underlying t=some (.slice e))(hn:size P e=some n){A:Addr}{len K l h m:Nat}{lo hi mx lo' hi' mx':Option Value}{v:Value}
  (hlo:Td ρ lo lo') (hhi:Td ρ hi hi') (hmx:Td ρ mx mx') (h1:bound lo 0=some l) (h2:bound hi len=some h) (h3:bound mx aA=some m)
  (hg:mx.isNone=true∨hi.isSome=true∧ltN m aQ=true) (adY:mx.isSome=true→hi.isSome=true) (g1:l≤h)
  (hr:guard (Nat.beq h 0&&Nat.beq aA aA&&(Nat.beq m 0||Nat.beq m aA)) (some (CQ,s))=some (v,s')) :
  ∃ ρ' c',(Instr.sliceAt t (.slice (some A) len K) lo' hi' mx').run P w = .ok c' w∧Goes P base ρ s w ρ' s' w∧VR ρ' v c':=by
 obtain ⟨hq,hr⟩:=au.1 hr
 cases hr
 simp only [Bool.and_eq_true,Bool.or_eq_true] at hq
 have h0:h=0:=Nat.eq_of_beq_eq_true hq.1.1
 subst h0
 have l0:l=0:=by omega
 subst l0
 have amH:∃ M,(mx.isSome=true→M=m)∧(mx=none→M=K)∧M≤K:=by
  cases mx with
  |none=>exact ⟨K,fun hs=>(by cases hs),fun _=>rfl,Nat.le_refl _⟩
  |some q=>
   refine ⟨m,fun _=>rfl,fun hs=>(by cases hs),?_⟩
   rcases hg with hg|hg
   ·cases hg
   ·have hlt:=aY hg.2
    rcases hq.2 with hm|hm
    ·have:=Nat.eq_of_beq_eq_true hm;omega
    ·have:=Nat.eq_of_beq_eq_true hm
     unfold aQ at hlt
     unfold aA at this
     omega
 obtain ⟨M,hM1,hM2,hM3⟩:=amH
 have hb:=gX (P:=P) (w:=w) hlo hhi hmx (isSlice:=true) (len:=len) (acp:=K) (M:=M) h1 h2 h3 (fun hs=>⟨hM1 hs,adY hs⟩) hM2 g1 (Nat.zero_le _) hM3
 refine ⟨ρ,.slice (if M=0 then some A else some (A.add (0*n))) 0 M,?_,Goes.refl hH,?_⟩
 ·simp only [Instr.sliceAt,Instr.slice,run_underlying hu,Sem.run_bind,Result.andThen_ok,hb,run_sizeOf hn,Sem.run_pure]
  by_cases hMl:M=0 <;> simp [hMl]
 ·split <;> exact .dead _ _
theorem nK (hH:HR P base ρ s w){t:TypeId}{a:Option Addr}{len cap:Nat}{lo hi mx lo' hi' mx':Option Value}{v c:Value}(hx:VR ρ (.slice a len cap) c)
  (hlo:Td ρ lo lo') (hhi:Td ρ hi hi') (hmx:Td ρ mx mx') (hr:ou P s t a len cap lo hi mx=some (v,s')) :
  ∃ ρ' c',(Instr.sliceAt t c lo' hi' mx').run P w = .ok c' w∧Goes P base ρ s w ρ' s' w∧VR ρ' v c':=by
 unfold ou at hr
 split at hr
 ·rename_i e hu
  obtain ⟨n,hn,hr1⟩:=ah.1 hr
  obtain ⟨l,h,m,h1,h2,h3,hr2⟩:=zu hr1
  obtain ⟨hg,hr3⟩:=au.1 hr2
  unfold pY at hr3
  obtain ⟨hg2,hr4⟩:=au.1 hr3
  clear hr hr1 hr2 hr3
  have hr:=hr4
  clear hr4
  simp only [Bool.and_eq_true] at hg2
  obtain ⟨⟨g1,g2⟩,g3⟩:=hg2
  have g1:=Nat.le_of_ble_eq_true g1
  have g2:=Nat.le_of_ble_eq_true g2
  have g3:=Nat.le_of_ble_eq_true g3
  simp only [Bool.or_eq_true,Bool.and_eq_true] at hg
  have adY:mx.isSome=true→hi.isSome=true:=fun hs=>by
   rcases hg with hg|hg
   ·rw [Ro hg] at hs;cases hs
   ·exact hg.1
  cases hx with
  |bW=>
   cases hr
   have hb:=gX (P:=P) (w:=w) hlo hhi hmx (isSlice:=true) (len:=len) (acp:=cap) (M:=m) h1 h2 h3 (fun hs=>⟨rfl,adY hs⟩) (fun hs=>by subst hs;cases h3;rfl) g1 g2 g3
   refine ⟨ρ,_,?_,Goes.refl hH,.bW _ _⟩
   simp [Instr.sliceAt,Instr.slice,run_underlying hu,hb,run_sizeOf hn]
  |dead A K=>
   change sel (Nat.beq dN dN) (guard (Nat.beq h 0&&Nat.beq aA aA&&(Nat.beq m 0||Nat.beq m aA)) (some (CQ,s))) _=some (v,s') at hr
   rw [Nat.beq_refl,aH] at hr
   exact zN hH hu hn (A:=A) (K:=K) hlo hhi hmx h1 h2 h3 hg adY g1 hr
  |@slice b o _ _ L hL=>
   change sel (Nat.beq b dN) (guard (Nat.beq h 0&&Nat.beq cap aA&&(Nat.beq m 0||Nat.beq m aA)) (some (CQ,s))) (sel (Nat.ble aQ cap) (rD s ⟨b,o,none⟩ e cap l h m n) (xR ⟨b,o,none⟩ l h m n s))=some (v,s') at hr
   rw [aC] at hr
   split at hr
   ·have hcb:cap=aA:=by
     obtain ⟨hq,_⟩:=au.1 hr
     simp only [Bool.and_eq_true] at hq
     exact Nat.eq_of_beq_eq_true hq.1.2
    subst hcb
    exact zN hH hu hn hlo hhi hmx h1 h2 h3 hg adY g1 hr
   rw [aC] at hr
   split at hr
   ·rename_i hcap
    have hcap:=Nat.le_of_ble_eq_true hcap
    have amH:∃ M,((m<aQ∧M=m)∨(m=cap∧M=capOf L cap))∧(mx.isSome=true→M=m)∧(mx=none→M=capOf L cap):=by
     cases mx with
     |none=>cases h3;exact ⟨_,.inr ⟨rfl,rfl⟩,fun hs=>(by cases hs),fun _=>rfl⟩
     |some q=>
      rcases hg with hg|hg
      ·cases hg
      ·exact ⟨m,.inl ⟨aY hg.2,rfl⟩,fun _=>rfl,fun hs=>by cases hs⟩
    obtain ⟨M,hM,hM1,hM2⟩:=amH
    obtain ⟨b1,b2,ρ',hgo,hv⟩:=Nv hH hL hcap hn g1 g2 g3 hM hr
    have hb:=gX (P:=P) (w:=w) hlo hhi hmx (isSlice:=true) (len:=len) (acp:=capOf L cap) (M:=M) h1 h2 h3 (fun hs=>⟨hM1 hs,adY hs⟩) hM2 g1 b1 b2
    rw [Me] at hv
    refine ⟨ρ',_,?_,hgo,hv⟩
    simp only [Instr.sliceAt,Instr.slice,run_underlying hu,Sem.run_bind,Result.andThen_ok,hb,run_sizeOf hn,Sem.run_pure]
    by_cases hMl:M=l <;> simp [hMl]
   ·rename_i hcap
    have hcap:cap<aQ:=by
     have:¬(aQ≤cap):=fun hh=>hcap (Nat.ble_eq_true_of_le hh)
     omega
    obtain ⟨rfl,hv⟩:=G8 hL (by omega) hr
    rw [gK hcap]
    have hb:=gX (P:=P) (w:=w) hlo hhi hmx (isSlice:=true) (len:=len) (acp:=cap) (M:=m) h1 h2 h3 (fun hs=>⟨rfl,adY hs⟩) (fun hs=>by subst hs;cases h3;rfl) g1 g2 g3
    rw [Me] at hv
    refine ⟨ρ,_,?_,Goes.refl hH,hv⟩
    simp only [Instr.sliceAt,Instr.slice,run_underlying hu,Sem.run_bind,Result.andThen_ok,hb,run_sizeOf hn,Sem.run_pure]
    by_cases hMl:m=l <;> simp [hMl]
 ·cases hr
theorem yD {k:Nat}{e:TypeId}{b o:Nat}{L:Loc}(hL:ρ.at b=some L){lo hi mx lo' hi' mx':Option Value}{v:Value}
  (hlo:Td ρ lo lo') (hhi:Td ρ hi hi') (hmx:Td ρ mx mx') (hr:xC P k e s ⟨b,o,none⟩ lo hi mx=some (v,s')) :
  s'=s∧∃ l h m n c,(Instr.sliceBounds false k k lo' hi' mx').run P w = .ok (l,h,m) w∧(Go.sizeOf e).run P w = .ok n w∧VR ρ v c∧
   c = .slice (some (if m=l then ⟨L.blk,L.off+o,none⟩ else (⟨L.blk,L.off+o,none⟩:Addr).add (l*n))) (h-l) (m-l):=by
 unfold xC at hr
 obtain ⟨n,hn,hr⟩:=ah.1 hr
 obtain ⟨l,h,m,h1,h2,h3,hr⟩:=zu hr
 obtain ⟨hg,hr⟩:=au.1 hr
 unfold pY at hr
 obtain ⟨hg2,hr⟩:=au.1 hr
 simp only [Bool.and_eq_true] at hg2
 obtain ⟨⟨g1,g2⟩,g3⟩:=hg2
 have g1:=Nat.le_of_ble_eq_true g1
 have g2:=Nat.le_of_ble_eq_true g2
 have g3:=Nat.le_of_ble_eq_true g3
 simp only [Bool.or_eq_true,Bool.and_eq_true] at hg
 have hk:=aY hg.2
 have adY:mx.isSome=true→hi.isSome=true:=fun hs=>by
  rcases hg.1 with hg|hg
  ·rw [Ro hg] at hs;cases hs
  ·exact hg
 change sel (Nat.beq b dN) (guard (Nat.beq h 0&&Nat.beq k aA&&(Nat.beq m 0||Nat.beq m aA)) (some (CQ,s))) (sel (Nat.ble aQ k) (rD s ⟨b,o,none⟩ e k l h m n) (xR ⟨b,o,none⟩ l h m n s))=some (v,s') at hr
 have hr:sel (Nat.ble aQ k) (rD s ⟨b,o,none⟩ e k l h m n) (xR ⟨b,o,none⟩ l h m n s)=some (v,s'):=by
  rw [aC] at hr
  split at hr
  ·obtain ⟨hq,_⟩:=au.1 hr
   simp only [Bool.and_eq_true] at hq
   have:=Nat.eq_of_beq_eq_true hq.1.2
   unfold aQ at hk
   unfold aA at this
   omega
  ·exact hr
 have hkn:Nat.ble aQ k=false:=by
  rw [←Bool.not_eq_true];intro hb;have:=Nat.le_of_ble_eq_true hb;omega
 rw [hkn,aF] at hr
 obtain ⟨rfl,hv⟩:=G8 hL (by omega) hr
 have hb:=gX (P:=P) (w:=w) hlo hhi hmx (isSlice:=false) (len:=k) (acp:=k) (M:=m) h1 h2 h3 (fun hs=>⟨rfl,adY hs⟩) (fun hs=>by subst hs;cases h3;rfl) g1 g2 g3
 rw [Me] at hv
 exact ⟨rfl,l,h,m,n,_,hb,run_sizeOf hn,hv,rfl⟩
theorem RF (hH:HR P base ρ s w)(he:EvR ρ ev η){t:TypeId}{x:Operand}{lo hi mx:Option Operand}(C:Cfg)(hC:C.P=P){r:Res}(hr:DU C ev s t x lo hi mx=some r) :
  nJ P base ρ s w (Sem.run P (do pure (.value (←Instr.sliceAt t (η x) (lo.map η) (hi.map η) (mx.map η)))) w) r:=by
 unfold DU at hr
 obtain ⟨a,ha,hr1⟩:=ah.1 hr
 obtain ⟨vlo,hlo,hr2⟩:=CV he hr1
 obtain ⟨vhi,hhi,hr3⟩:=CV he hr2
 obtain ⟨vmx,hmx,hr4⟩:=CV he hr3
 obtain ⟨⟨v,s'⟩,hr5,hres⟩:=ah.1 hr4
 clear hr hr1 hr2 hr3 hr4
 cases hres
 have hr:=hr5
 clear hr5
 rw [hC] at hr
 have hc:=he x a ha
 generalize η x=c at hc
 show Gives P base ρ s w _ v s'
 cases hc with
 |bW n k=>
  obtain ⟨ρ',c',h1,h2,h3⟩:=nK hH (.bW n k) hlo hhi hmx hr
  simp only [Sem.run_bind,h1,Result.andThen_ok,Sem.run_pure]
  exact dX h2 h3
 |dead A K=>
  obtain ⟨ρ',c',h1,h2,h3⟩:=nK hH (.dead A K) hlo hhi hmx hr
  simp only [Sem.run_bind,h1,Result.andThen_ok,Sem.run_pure]
  exact dX h2 h3
 |slice hL=>
  obtain ⟨ρ',c',h1,h2,h3⟩:=nK hH (.slice hL) hlo hhi hmx hr
  simp only [Sem.run_bind,h1,Result.andThen_ok,Sem.run_pure]
  exact dX h2 h3
 |@ptr b o L hL=>
  change Fq P s t ⟨b,o,none⟩ vlo vhi vmx=some (v,s') at hr
  unfold Fq at hr
  split at hr
  ·rename_i k e hu
   obtain ⟨rfl,l,h,m,n,c,h1,h2,h3,rfl⟩:=yD (w:=w) hL hlo hhi hmx hr
   simp only [Instr.sliceAt,Instr.sureAddr,run_underlying hu,Sem.run_bind,Sem.run_pure,h1,h2,Result.andThen_ok]
   exact aS hH h3
  ·rename_i arr hu
   split at hr
   ·rename_i k e hu2
    obtain ⟨rfl,l,h,m,n,c,h1,h2,h3,rfl⟩:=yD (w:=w) hL hlo hhi hmx hr
    simp only [Instr.sliceAt,Instr.slice,asAddr,run_underlying hu,run_underlying hu2,Sem.run_bind,Sem.run_pure,h1,h2,Result.andThen_ok]
    exact aS hH h3
   ·cases hr
  ·cases hr
 |string bs=>
  change (match P.underlying t with|some .string=>Option.casesOn vmx (bounds vlo vhi none (aV bs.data.toList) 0 fun l h _=>aj (sF bs.data.toList l h) fun v=>some (v,s)) (fun _=>none)|_=>none)=some (v,s') at hr
  split at hr
  ·rename_i hu
   cases apt:vmx with
   |some q=>rw [apt] at hr;cases hr
   |none=>
    rw [apt] at hr hmx
    obtain ⟨l,h,m,h1,h2,h3,hr⟩:=zu hr
    obtain ⟨v',hv',hr⟩:=ah.1 hr
    cases hr
    rw [QS] at hv'
    obtain ⟨hg,hv'⟩:=au.1 hv'
    simp only [Bool.and_eq_true] at hg
    have g1:=Nat.le_of_ble_eq_true hg.1
    have g2:=Nat.le_of_ble_eq_true hg.2
    rw [aP] at g2 h2
    have hsz:bs.data.toList.length=bs.size:=rfl
    rw [hsz] at g2 h2
    have hnone:mx.map η=none:=by
     generalize mx.map η=q at hmx
     cases hmx
     rfl
    have hb:=gX (P:=P) (w:=w) hlo hhi (Td.none (ρ:=ρ)) (isSlice:=false) (len:=bs.size) (apz:=bs.size) (acp:=bs.size) (M:=bs.size) h1 h2 rfl (fun hs=>by cases hs) (fun _=>rfl) g1 g2 (Nat.le_refl _)
    cases hv'
    rw [hnone]
    simp only [Instr.sliceAt,Instr.slice,run_underlying hu,Sem.run_bind,Sem.run_pure,hb,Result.andThen_ok,Option.isSome_none,Bool.false_eq_true,if_false]
    have e:bs.extract l h=⟨⟨ng (h-l) (eY l bs.data.toList)⟩⟩:=by
     rw [lC,iY]
     apply ByteArray.ext
     rw [ByteArray.data_extract]
     apply Array.ext'
     simp [List.extract]
    rw [e]
    exact aS hH (.string _)
  ·cases hr
 |_=>cases hr
end
end Go.Ax
namespace Go.Ax
variable [Lo]
open Go
section
variable {P:Program} {base:Nat} {ρ:Ren} {s s':St} {w w':World} {ev:Ev} {η:Operand→Value}
theorem EsR.length {l l':List MapEntry}(h:EsR ρ l l'):l'.length=l.length:=by
 induction h with
 |nil=>rfl
 |cons _ _ _ _ ih=>simp [ih]
theorem wR (h:HR P base ρ s w){r c:Nat}{es:List MapEntry}(hg:QW s r=some (es,c)):∃ l,ρ r=some l∧s.tag r=some (0,r)∧∃ es',w.heap[l.blk]? = some (.map es' c)∧EsR ρ es es'.toList:=by
 unfold QW at hg
 split at hg
 ·rename_i es' c' hh
  cases hg
  obtain ⟨l,h1,es2,h2,h3⟩:=h.maps _ _ _ hh
  exact ⟨l,h1,l9 hh,es2,h2,h3⟩
 ·cases hg
theorem fP {r:Nat}{o:Obj}(h:w.heap[r]? = some o)(hn:∀ c e f,o ≠ .cells c e f):(getObj r).run P w = .ok o w:=by
 simp only [getObj,Sem.run,h]
theorem XF (h:HR P base ρ s w){t:TypeId}{v c:Value}(hv:VR ρ v c)(ts:Array TypeId)(ty:TypeId)(ht:ts[0]? = some t){r:Res}(hr:ala P s t v=some r) :
  nJ P base ρ s w (Sem.run P (do pure (.value (←Builtin.len_ ts ty #[c]))) w) r:=by
 have hi:∀ (n:Nat) (x:Value),(Builtin.len_ ts ty #[c]).run P w = .ok (goInt n) w→r = .val (i64 n) s→nJ P base ρ s w (Sem.run P (do pure (.value (←Builtin.len_ ts ty #[c]))) w) r:=by
  intro n x h1 h2
  rw [h2]
  simp only [Sem.run_bind,h1,Result.andThen_ok,Sem.run_pure]
  exact aS h (.int _ _)
 unfold ala at hr
 split at hr
 ·rename_i hu
  split at hr
  ·rename_i b
   cases hv
   refine hi (aV b.data.toList) undef ?_ (aU hr)
   rw [aP]
   have e:b.data.toList.length=b.size:=rfl
   rw [e]
   simp [Builtin.len_,ht,run_underlying hu]
  ·cases hr
 ·rename_i e hu
  split at hr
  ·rename_i a n k
   cases hv with
   |bW n c=>exact hi n undef (by simp [Builtin.len_,ht,run_underlying hu]) (aU hr)
   |slice hl=>exact hi n undef (by simp [Builtin.len_,ht,run_underlying hu]) (aU hr)
   |dead A K=>exact hi 0 undef (by simp [Builtin.len_,ht,run_underlying hu]) (aU hr)
  ·rename_i k n
   cases hv with
   |opq A n K=>exact hi n undef (by simp [Builtin.len_,ht,run_underlying hu]) (aU hr)
  ·rename_i k lo up
   obtain ⟨hg,hr⟩:=au.1 hr
   rw [aU hr]
   cases hv with
   |acd _ _ A n K h1 h2=>
    have hrun:(Builtin.len_ ts ty #[Value.slice (some A) n K]).run P w = .ok (goInt (n:Int)) w:=by simp [Builtin.len_,ht,run_underlying hu]
    simp only [Sem.run_bind,hrun,Result.andThen_ok,Sem.run_pure]
    exact aS h (.rng lo up n h1 h2)
   |rng _ _ n h1 h2=>cases hg
  ·cases hr
 ·rename_i k e hu
  split at hr
  ·cases hv
   exact hi 0 undef (by simp [Builtin.len_,ht,run_underlying hu]) (aU hr)
  ·rename_i m
   obtain ⟨⟨es,ck⟩,hg,hr2⟩:=ah.1 hr
   cases hv with
   |map hl=>
    obtain ⟨l,h1,_,es',h2,h3⟩:=wR h hg
    rw [hl] at h1
    cases h1
    refine hi (aV es) undef ?_ (aU hr2)
    have:=h3.length
    simp at this
    simp [Builtin.len_,ht,run_underlying hu,fP h2 (by simp),aP,this]
  ·cases hr
 ·rename_i n e hu
  exact hi n undef (by simp [Builtin.len_,ht,run_underlying hu]) (aU hr)
 ·rename_i a hu
  obtain ⟨n,hn,hr2⟩:=ah.1 hr
  unfold apg at hn
  split at hn
  ·rename_i n' e hu2
   cases hn
   exact hi n undef (by simp [Builtin.len_,ht,run_underlying hu,run_underlying hu2]) (aU hr2)
  ·cases hn
 ·cases hr
theorem YR (h:HR P base ρ s w){t:TypeId}{v c:Value}(hv:VR ρ v c)(ts:Array TypeId)(ty:TypeId)(ht:ts[0]? = some t){r:Res}(hr:alN P s t v=some r) :
  nJ P base ρ s w (Sem.run P (do pure (.value (←Builtin.cap_ ts ty #[c]))) w) r:=by
 unfold alN at hr
 split at hr
 ·rename_i e hu
  split at hr
  ·rename_i y n c
   obtain ⟨hg,hr2⟩:=au.1 hr
   have hg:=aY hg
   rw [aU hr2]
   cases hv with
   |bW=>
    have h1:(Builtin.cap_ ts ty #[.slice none n c]).run P w = .ok (goInt c) w:=by simp [Builtin.cap_,ht,run_underlying hu]
    simp only [Sem.run_bind,h1,Result.andThen_ok,Sem.run_pure]
    exact aS h (.int _ _)
   |dead A K=>exact absurd hg (by unfold aQ aA;omega)
   |@slice b o _ _ l hl=>
    rw [gK hg]
    have h1:(Builtin.cap_ ts ty #[.slice (some ⟨l.blk,l.off+o,none⟩) n c]).run P w = .ok (goInt c) w:=by simp [Builtin.cap_,ht,run_underlying hu]
    simp only [Sem.run_bind,h1,Result.andThen_ok,Sem.run_pure]
    exact aS h (.int _ _)
  ·cases hr
 ·cases hr
theorem zT (h:HR P base ρ s w){mx:Bool}{x y x' y':Value}(hx:VR ρ x x')(hy:VR ρ y y')(ts:Array TypeId)(ty:TypeId){r:Res}(hr:yP mx s x y=some r) :
  nJ P base ρ s w (Sem.run P (do pure (.value (←if mx then Builtin.max_ ts ty #[x',y'] else Builtin.min_ ts ty #[x',y']))) w) r:=by
 unfold yP at hr
 split at hr
 ·rename_i k a
  split at hr
  ·rename_i k' b
   rw [aU hr]
   cases hx
   cases hy
   cases mx
   ·have h1:(Builtin.min_ ts ty #[.int k a,.int k' b]).run P w = .ok (.int k (sel (sel false (ltI a b) (ltI b a)) b a)) w:=by
     rw [aF,WS,aC]
     simp [Builtin.min_,Builtin.min2]
    simp only [Bool.false_eq_true,if_false,Sem.run_bind,h1,Result.andThen_ok,Sem.run_pure]
    exact aS h (.int _ _)
   ·have h1:(Builtin.max_ ts ty #[.int k a,.int k' b]).run P w = .ok (.int k (sel (sel true (ltI a b) (ltI b a)) b a)) w:=by
     rw [aH,WS,aC]
     simp [Builtin.max_,Builtin.max2]
    simp only [if_true,Sem.run_bind,h1,Result.andThen_ok,Sem.run_pure]
    exact aS h (.int _ _)
  ·cases hr
 ·cases hr
end
end Go.Ax
namespace Go.Ax
variable [Lo]
open Go
section
variable {P:Program} {base:Nat} {ρ:Ren} {s s':St} {w w':World}
theorem GH {v c:Value}{n:Nat}(hv:VR ρ v c)(hn:lenOf v=some n):(Builtin.lenOf c).run P w = .ok n w:=by
 unfold Ax.lenOf at hn
 split at hn
 ·cases hn
  cases hv <;> simp [Builtin.lenOf]
 ·rename_i b
  cases hn
  cases hv
  rw [aP]
  have e:b.data.toList.length=b.size:=rfl
  rw [e]
  simp [Builtin.lenOf]
 ·cases hn
theorem Ef (l:List UInt8):VRs ρ (aK l) (l.map fun b=>.int .u8 (b.toNat:Int)):=by
 unfold aK
 rw [iV]
 induction l with
 |nil=>exact .nil
 |cons a t ih=>exact .cons (.int _ _) ih
theorem iR (h:HR P base ρ s w){v c:Value}{sz n:Nat}{l:List Value}(hv:VR ρ v c)(hl:firstCells s sz n v=some l) :
  ∃ cl,(Builtin.firstCells sz n c).run P w = .ok ⟨cl⟩ w∧VRs ρ l cl∧((∃ a k j,v = .slice (some a) k j)→l.length=n*sz):=by
 unfold Ax.firstCells at hl
 split at hl
 ·rw [aC] at hl
  split at hl
  ·obtain ⟨hg,hl⟩:=au.1 hl
   have hg:=Nat.eq_of_beq_eq_true hg
   subst hg
   cases hl
   have hl0:∀ A:Addr,(Go.loadCells A 0).run P w = .ok ⟨[]⟩ w:=fun A=>by
    have:=run_loadCells_list (P:=P) w A [] (fun j v hj=>by simp at hj)
    simpa using this
   cases hv with
   |dead A K=>exact ⟨[],by simp [Builtin.firstCells,hl0],.nil,fun _=>by simp⟩
   |slice hL=>exact ⟨[],by simp [Builtin.firstCells,hl0],.nil,fun _=>by simp⟩
  obtain ⟨⟨cs,e,f⟩,hc,hl2⟩:=ah.1 hl
  rw [qp,iY] at hl2
  obtain ⟨h1,rfl⟩:=hl2
  cases hv with
  |dead A K=>exact (h.IQ hc).elim
  |@slice b o _ _ L hL=>
   obtain ⟨q,hq⟩:=h.rows b cs e f hc
   have hql:q=L:=by have:=hq.at_;rw [hL] at this;exact (Option.some.inj this).symm
   subst hql
   have h1':n*sz≤cs.length-o:=by simpa using h1
   by_cases ho:o≤cs.length
   ·obtain ⟨cl,h2,h3,h4⟩:=hq.seg (o:=o) (n:=n*sz) (by omega)
    have hl':=run_loadCells_list (P:=P) w ⟨q.blk,q.off+o,none⟩ cl (fun j v hj=>by rw [add_eq];exact h4 j v hj)
    rw [h3] at hl'
    exact ⟨cl,by simp [Builtin.firstCells,hl'],h2,fun _=>by simp;exact Nat.min_eq_left h1'⟩
   ·have h0:n*sz=0:=by omega
    have hl':=run_loadCells_list (P:=P) w ⟨q.blk,q.off+o,none⟩ [] (fun j v hj=>by simp at hj)
    simp at hl'
    refine ⟨[],by simp [Builtin.firstCells,h0,hl'],?_,fun _=>by simp;exact Nat.min_eq_left h1'⟩
    rw [show Nat.mul n sz=0 from h0]
    simpa using VRs.nil (ρ:=ρ)
 ·obtain ⟨_,hl⟩:=au.1 hl
  cases hl
  cases hv
  exact ⟨[],by simp [Builtin.firstCells],.nil,fun ⟨_,_,_,e⟩=>by cases e⟩
 ·rename_i b
  obtain ⟨_,hl⟩:=au.1 hl
  cases hl
  cases hv
  refine ⟨((ng n b.data.toList).map fun b=>.int .u8 (b.toNat:Int)),?_,Ef _,fun ⟨_,_,_,e⟩=>by cases e⟩
  rw [lC]
  simp only [Builtin.firstCells,Sem.run_pure]
  congr 1
  apply Array.ext'
  simp
 ·cases hl
theorem Vj (h:HR P base ρ s w){t:TypeId}{d x d' x':Value}(hd:VR ρ d d')(hx:VR ρ x x')(ts:Array TypeId)(ty:TypeId)(ht:ts[0]? = some t){r:Res}(hr:aay P s t d x=some r) :
  nJ P base ρ s w (Sem.run P (do pure (.value (←Builtin.copy_ ts ty #[d',x']))) w) r:=by
 unfold aay at hr
 split at hr
 ·rename_i e hu
  split at hr
  ·rename_i bs dLen k
   obtain ⟨sl,hsl,hr1⟩:=ah.1 hr
   obtain ⟨sz,hsz,hr2⟩:=ah.1 hr1
   obtain ⟨new,hnew,hr3⟩:=ah.1 hr2
   clear hr hr1 hr2
   have hmin:sel (Nat.ble sl dLen) sl dLen=Nat.min sl dLen:=by
    rw [aC]
    by_cases hh:sl≤dLen
    ·rw [if_pos (Nat.ble_eq_true_of_le hh)];exact (Nat.min_eq_left hh).symm
    ·rw [if_neg (fun h'=>hh (Nat.le_of_ble_eq_true h'))];exact (Nat.min_eq_right (by omega)).symm
   rw [hmin] at hnew hr3
   generalize hn:Nat.min sl dLen=n at hnew hr3
   obtain ⟨cl,h1,h2,h3⟩:=iR h hx hnew
   have hlen:=GH (P:=P) (w:=w) hx hsl
   rw [aC] at hr3
   split at hr3
   ·rename_i h0
    have h0:n=0:=Nat.eq_of_beq_eq_true h0
    subst h0
    rw [aU hr3]
    have hcl:cl=[]:=by
     unfold Ax.firstCells at hnew
     split at hnew
     ·have:=h3 ⟨_,_,_,rfl⟩
      have h4:=h2.length
      rw [this] at h4
      simpa using h4
     ·obtain ⟨_,hnew⟩:=au.1 hnew
      cases hnew
      cases h2
      rfl
     ·obtain ⟨_,hnew⟩:=au.1 hnew
      cases hnew
      cases h2
      rfl
     ·cases hnew
    subst hcl
    have hrun:(Builtin.copy_ ts ty #[d',x']).run P w = .ok (goInt 0) w:=by
     cases hd <;> simp [Builtin.copy_,ht,run_underlying hu,hlen,run_sizeOf hsz,hn,h1,Go.storeCells]
    simp only [Sem.run_bind,hrun,Result.andThen_ok,Sem.run_pure]
    exact aS h (.int _ _)
   ·rename_i h0
    cases hd with
    |dead A K=>exact absurd (show Nat.beq n 0=true by rw [←hn];simp) h0
    |bW=>cases hr3
    |@slice b o _ _ l hl=>
     change aj (storeCells s b o new) (fun s=>ret (i64 n) s)=some r at hr3
     obtain ⟨s2,hs2,hr4⟩:=ah.1 hr3
     rw [aU hr4]
     obtain ⟨w2,h5,h6⟩:=jT h hl hs2 h2
     have hrun:(Builtin.copy_ ts ty #[.slice (some ⟨l.blk,l.off+o,none⟩) dLen (capOf l k),x']).run P w = .ok (goInt n) w2:=by
      simp [Builtin.copy_,ht,run_underlying hu,hlen,run_sizeOf hsz,hn,h1,h5]
     simp only [Sem.run_bind,hrun,Result.andThen_ok,Sem.run_pure]
     exact dX h6 (.int _ _)
  ·cases hr
 ·cases hr
theorem S9 (h:HR P base ρ s w)(hZ:nN P){t:TypeId}{d d':Value}(hd:VR ρ d d')(ts:Array TypeId)(ty:TypeId)(ht:ts[0]? = some t){r:Res}(hr:aa3 P s t d=some r) :
  nJ P base ρ s w (Sem.run P (do pure (.value (←Builtin.clear_ ts ty #[d']))) w) r:=by
 unfold aa3 at hr
 obtain ⟨hg,hr0⟩:=au.1 hr
 clear hr
 rename _=some r=>hr
 obtain ⟨td,hu⟩:=Option.isSome_iff_exists.1 hg
 have hunit:VR ρ unit (.tuple #[]):=.tuple .nil
 split at hr
 ·rename_i bs n k
  rw [aC] at hr
  split at hr
  ·rename_i h0
   have h0:n=0:=Nat.eq_of_beq_eq_true h0
   subst h0
   rw [aU hr]
   have hrun:(Builtin.clear_ ts ty #[d']).run P w = .ok (.tuple #[]) w:=by
    cases hd <;> simp [Builtin.clear_,ht,run_underlying hu]
   simp only [Sem.run_bind,hrun,Result.andThen_ok,Sem.run_pure]
   exact aS h hunit
  ·rename_i h0
   cases hd with
   |dead A K=>exact absurd rfl h0
   |bW=>
    have hr:=aU hr
    rw [hr]
    have hrun:(Builtin.clear_ ts ty #[.slice none n k]).run P w = .ok (.tuple #[]) w:=by
     simp [Builtin.clear_,ht,run_underlying hu]
    simp only [Sem.run_bind,hrun,Result.andThen_ok,Sem.run_pure]
    exact aS h hunit
   |@slice b o _ _ l hl=>
    change (match P.underlying t with|some (.slice e)=>aj (zero P e) fun z=>guard (Nat.ble 1 (aV z)) (aj (storeCells s b o (repeatL n z)) fun s=>ret unit s)|_=>none)=some r at hr
    split at hr
    ·rename_i e hu2
     rw [hu] at hu2
     cases hu2
     obtain ⟨z,hz,hr⟩:=ah.1 hr
     obtain ⟨hg,hr⟩:=au.1 hr
     obtain ⟨s2,hs2,hr⟩:=ah.1 hr
     have hr:=aU hr
     rw [hr]
     have hg:=Nat.le_of_ble_eq_true hg
     rw [aP] at hg
     obtain ⟨i,v,h1,h2,h3,h4⟩:=oH hZ hz ρ
     have hzv:(zeroValue e).run P w = .ok v w:=by simp [zeroValue,Go.typeInfo,h1,h2]
     have hzz:=lH h4 n (.inl (by omega))
     obtain ⟨w2,h5,h6⟩:=jT h hl hs2 hzz
     have hn0:n≠0:=by rintro rfl;exact h0 rfl
     have hrun:(Builtin.clear_ ts ty #[.slice (some ⟨l.blk,l.off+o,none⟩) n (capOf l k)]).run P w = .ok (.tuple #[]) w2:=by
      have e:Builtin.zeroCells v.cells n=(Array.range (n*v.cells.size)).map fun i=>v.cells[i%v.cells.size]!:=rfl
      cases n with
      |zero=>exact absurd rfl hn0
      |succ n=>simp only [Builtin.clear_,ht,run_underlying hu,hzv,e,h5,Sem.run_bind,Result.andThen_ok,Sem.run_pure,List.getElem?_toArray,List.getElem?_cons_zero]
     simp only [Sem.run_bind,hrun,Result.andThen_ok,Sem.run_pure]
     exact dX h6 (.tuple .nil)
    ·cases hr
 ·cases hr
end
end Go.Ax
namespace Go.Ax
open Go
theorem Ru (need:Nat):∀ (r c:Nat),c≤2*need+768→Builtin.growBy need r c≤2*need+768
 |0,c,h=>h
 |r+1,c,h=>by
  unfold Builtin.growBy
  split
  ·exact h
  ·exact Ru need r _ (by omega)
theorem nextslicecap_le {need old:Nat}(h:old<need):Builtin.nextslicecap need old≤2*need+768:=by
 unfold Builtin.nextslicecap
 split
 ·omega
 ·split
  ·omega
  ·exact Ru need 4 old (by omega)
end Go.Ax
namespace Go.Ax
variable [Lo]
open Go
section
variable {P:Program} {base:Nat} {ρ:Ren} {s s':St} {w w':World}
theorem Ho {T:Option TypeId}(h:JB P T=true):T=none∨∃ u d,T=some u∧P.underlying u=some d∧∀ k,d = .int k→False:=by
 cases T with
 |none=>exact .inl rfl
 |some t=>
  right
  change (match P.underlying t with|none=>false|some (.int _)=>false|_=>true)=true at h
  split at h
  ·cases h
  ·cases h
  ·rename_i d hn hi
   cases hu:P.underlying t with
   |none=>exact absurd hu (by simpa using hn)
   |some d=>
    exact ⟨t,d,rfl,hu,fun k e=>by subst e;exact absurd hu (hi _)⟩
theorem fM {ts:Array TypeId}{t ty e:TypeId}{i:TypeInfo}(ht:ts[0]? = some t)(hu:P.underlying t=some (.slice e))(hi:P.info? e=some i)(hni:JB P ts[1]? = true)
  {b:Option Addr} {sLen sCap n:Nat} {x:Value} {new:List Value} (hlen:(Builtin.lenOf x).run P w = .ok n w) (hnew:(Builtin.firstCells i.size n x).run P w = .ok ⟨new⟩ w) (hfit:sLen+n≤sCap)
  (hst:∀ a,b=some a→(Go.storeCells (a.add (sLen*i.size)) new).run P w = .ok () w') (hnone:b=none→w'=w) :
  (Builtin.append_ ts ty #[.slice b sLen sCap,x]).run P w = .ok (.slice b (sLen+n) sCap) w':=by
 have hsz:(Go.sizeOf e).run P w = .ok i.size w:=by simp [Go.sizeOf,Go.typeInfo,hi]
 rcases Ho hni with h1|⟨u,d,h1,h2,h3⟩
 ·cases b with
  |none=>rw [hnone rfl];simp [Builtin.append_,ht,run_underlying hu,hsz,h1,hlen,hfit,hnew]
  |some a=>simp [Builtin.append_,ht,run_underlying hu,hsz,h1,hlen,hfit,hnew,hst a rfl]
 ·cases b with
  |none=>rw [hnone rfl];simp [Builtin.append_,ht,run_underlying hu,run_underlying h2,hsz,h1,hlen,hfit,hnew]
  |some a=>simp [Builtin.append_,ht,run_underlying hu,run_underlying h2,hsz,h1,hlen,hfit,hnew,hst a rfl]
theorem G9 {ts:Array TypeId}{t ty e:TypeId}{i:TypeInfo}{z:Value}(ht:ts[0]? = some t)(hu:P.underlying t=some (.slice e))(hi:P.info? e=some i)(hz:i.zero=some z)(hni:JB P ts[1]? = true)
  {b:Option Addr} {sLen sCap n:Nat} {x:Value} {old new:List Value} (hlen:(Builtin.lenOf x).run P w = .ok n w) (hold:(Builtin.firstCells i.size sLen (.slice b sLen sCap)).run P w.drew = .ok ⟨old⟩ w.drew)
  (hnew:(Builtin.firstCells i.size n x).run P w.drew = .ok ⟨new⟩ w.drew) (hfit:sCap<sLen+n) (h63:sLen+n≤281474976710656) (h48:Builtin.nextslicecap (sLen+n) sCap*i.bytes≤281474976710656) :
  (Builtin.append_ ts ty #[.slice b sLen sCap,x]).run P w =
   .ok (.slice (some ⟨w.heap.size,0,none⟩) (sLen+n) (grownCap w (sLen+n) sCap e))
    (w.drew.alloc (.cells ((⟨old⟩:Array Value)++⟨new⟩++Builtin.zeroCells z.cells (grownCap w (sLen+n) sCap e-(sLen+n))) e)):=by
 have hn:¬(sLen+n≤sCap):=by omega
 have h63':¬(9223372036854775807<((sLen:Int)+(n:Int))):=by omega
 have h48':¬(281474976710656<Builtin.nextslicecap (sLen+n) sCap*i.bytes):=by omega
 rcases Ho hni with h1|⟨u,d,h1,h2,h3⟩
 ·simp [Builtin.append_,ht,run_underlying hu,sizeOf,typeInfo,zeroValue,hi,hz,h1,hlen,hn,h63',h48',Question.forced,hold,hnew,newRow,grownCap]
  congr 2
  apply Array.ext'
  simp [List.append_assoc]
 ·simp [Builtin.append_,ht,run_underlying hu,run_underlying h2,sizeOf,typeInfo,zeroValue,hi,hz,h1,hlen,hn,h63',h48',Question.forced,hold,hnew,newRow,grownCap]
  congr 2
  apply Array.ext'
  simp [List.append_assoc]
end
end Go.Ax
namespace Go.Ax
variable [Lo]
open Go
section
variable {P:Program} {base:Nat} {ρ:Ren} {s s':St} {w w':World}
theorem JF {v:Value}{sz n m:Nat}{l:List Value}(hl:firstCells s sz n v=some l)(hn:lenOf v=some m)(hm:n≤m):l.length=n*sz:=by
 unfold Ax.firstCells at hl
 split at hl
 ·rw [aC] at hl
  split at hl
  ·obtain ⟨hg,hl⟩:=au.1 hl
   cases hl
   rw [Nat.eq_of_beq_eq_true hg]
   simp
  obtain ⟨c,hc,hl2⟩:=ah.1 hl
  rw [qp] at hl2
  obtain ⟨h1,rfl⟩:=hl2
  rw [List.length_take]
  exact Nat.min_eq_left h1
 ·obtain ⟨hg,hl⟩:=au.1 hl
  cases hl
  rw [Nat.eq_of_beq_eq_true hg]
  simp
 ·rename_i b
  obtain ⟨hg,hl⟩:=au.1 hl
  cases hl
  cases hn
  rw [aP] at hm
  rw [Nat.eq_of_beq_eq_true hg,aK,iV,lC]
  simp at hm ⊢
  omega
 ·cases hl
theorem Hw {v:Value}{sz:Nat}{l cl:List Value}(hl:firstCells s sz 0 v=some l)(hv:VRs ρ l cl):cl=[]:=by
 unfold Ax.firstCells at hl
 split at hl
 ·rw [aC] at hl
  split at hl
  ·obtain ⟨hg,hl⟩:=au.1 hl
   cases hl
   cases hv
   rfl
  obtain ⟨c,hc,hl2⟩:=ah.1 hl
  rw [qp] at hl2
  obtain ⟨h1,rfl⟩:=hl2
  have:=hv.length
  simpa using this
 ·obtain ⟨hg,hl⟩:=au.1 hl
  cases hl
  cases hv
  rfl
 ·obtain ⟨hg,hl⟩:=au.1 hl
  cases hl
  have:=hv.length
  simpa [aK,iV,lC] using this
 ·cases hl
theorem FN {e:TypeId}{need:Nat}(h:vC P e need=true):∃ i z,P.info? e=some i∧i.zero=some z∧z.cells.size=i.size∧1≤i.size∧need≤281474976710656∧(2*need+768)*i.bytes≤281474976710656:=by
 unfold vC at h
 cases hi:P.info? e with
 |none=>rw [hi] at h;cases h
 |some i=>
  rw [hi] at h
  simp only [Bool.and_eq_true] at h
  obtain ⟨⟨⟨h1,h2⟩,h3⟩,h4⟩:=h
  cases hz:i.zero with
  |none=>rw [hz] at h4;cases h4
  |some z=>
   rw [hz] at h4
   have h4:=Nat.eq_of_beq_eq_true h4
   rw [aP] at h4
   exact ⟨i,z,rfl,hz,by simpa using h4,Nat.le_of_ble_eq_true h3,Nat.le_of_ble_eq_true h1,Nat.le_of_ble_eq_true h2⟩
theorem yX {ts:Array TypeId}{t ty e:TypeId}{sz:Nat}(ht:ts[0]? = some t)(hu:P.underlying t=some (.slice e))(hsz:size P e=some sz)(hni:JB P ts[1]? = true)
  {b:Option Addr} {sLen sCap n:Nat} {x:Value} {old new ocl ncl:List Value} (hg:vC P e (sLen+n)=true) (hlen:(Builtin.lenOf x).run P w = .ok n w)
  (hold:(Builtin.firstCells sz sLen (.slice b sLen sCap)).run P w.drew = .ok ⟨ocl⟩ w.drew) (ho:VRs ρ old ocl) (hol:old.length=sLen*sz)
  (hnew:(Builtin.firstCells sz n x).run P w.drew = .ok ⟨ncl⟩ w.drew) (hn:VRs ρ new ncl) (hnl:new.length=n*sz) (hfit:sCap<sLen+n) :
  ∃ arr cap,(Builtin.append_ ts ty #[.slice b sLen sCap,x]).run P w = .ok (.slice (some ⟨w.heap.size,0,none⟩) (sLen+n) cap) (w.drew.alloc (.cells arr e))∧0<sz∧arr.size=cap*sz∧
   (old++new).length≤cap*sz∧∀ (j:Nat) (y:Value),(old++new)[j]? = some y→∃ y',arr[j]? = some y'∧VR ρ y y':=by
 obtain ⟨i,z,hi,hz,hzs,h1,h63,h48⟩:=FN hg
 obtain ⟨i',hi',hs⟩:=mP hsz
 rw [hi] at hi'
 cases hi'
 subst hs
 have hcap:=nextslicecap_le hfit
 have h48':Builtin.nextslicecap (sLen+n) sCap*i.bytes≤281474976710656:=Nat.le_trans (Nat.mul_le_mul_right _ hcap) h48
 have hrun:=G9 (ty:=ty) ht hu hi hz hni hlen hold hnew hfit h63 h48'
 have hge:=grownCap_ge w (sLen+n) sCap e
 have apR:=ho.length
 have apj:=hn.length
 have hap:=ho.append hn
 refine ⟨_,_,hrun,by omega,?_,?_,?_⟩
 ·have hzc:(Builtin.zeroCells z.cells (grownCap w (sLen+n) sCap e-(sLen+n))).size=(grownCap w (sLen+n) sCap e-(sLen+n))*i.size:=by
   simp [Builtin.zeroCells,hzs]
  simp only [Array.size_append,List.size_toArray,hzc]
  rw [apR,apj,hol,hnl,←Nat.add_mul,←Nat.add_mul]
  congr 1
  omega
 ·rw [List.length_append,hol,hnl,←Nat.add_mul]
  exact Nat.mul_le_mul_right _ hge
 ·intro j y hj
  obtain ⟨y',h2,h3⟩:=hap.get hj
  refine ⟨y',?_,h3⟩
  have hjl:=(List.getElem?_eq_some_iff.1 h2).1
  rw [Array.getElem?_append_left (by simpa using hjl)]
  simpa using h2
end
end Go.Ax
namespace Go.Ax
variable [Lo]
open Go
section
variable {P:Program} {base:Nat} {ρ:Ren} {s s':St} {w w':World}
def alg (P:Program)(base:Nat)(ρ:Ren)(s:St)(w:World)(run:Result Value)(v:Value)(s':St):Prop:=
 ∃ c ρ' w',run = .ok c w'∧Goes P base ρ s w ρ' s' w'∧VR ρ' v c
theorem oK (b o c:Nat):capOf ⟨b,o,c⟩ aA=c:=by rw [oD (by unfold aQ aA;omega)];simp
theorem mG (a:Addr):(Go.storeCells a []).run P w = .ok () w:=by simp [Go.storeCells]
theorem EC (h:HR P base ρ s w){ts:Array TypeId}{t ty e:TypeId}{i:TypeInfo}(ht:ts[0]? = some t)(hu:P.underlying t=some (.slice e))(hi:P.info? e=some i)(hni:JB P ts[1]? = true)
  {b:Option Addr} {len cap:Nat} {a' x:Value} {v:Value} (ha:VR ρ (.slice b len cap) a') (hlen:(Builtin.lenOf x).run P w = .ok 0 w) (hnew:(Builtin.firstCells i.size 0 x).run P w = .ok #[] w)
  (hr:rY s e b len cap i.size (.slice b len cap)=some (v,s')):alg P base ρ s w ((Builtin.append_ ts ty #[a',x]).run P w) v s':=by
 unfold rY at hr
 rw [aC] at hr
 split at hr
 ·rename_i hc
  obtain ⟨hg,hr⟩:=au.1 hr
  cases hr
  have hg:=Nat.le_of_ble_eq_true hg
  cases ha with
  |bW=>
   have hrun:=fM (ty:=ty) (w:=w) (w':=w) (b:=none) (sLen:=len) (sCap:=cap) ht hu hi hni hlen hnew (by omega) (fun _ e=>by cases e) (fun _=>rfl)
   exact ⟨_,ρ,w,hrun,Goes.refl h,.bW _ _⟩
  |dead A K=>
   exfalso
   simp only [Bool.or_eq_true] at hc
   rcases hc with hc|hc
   ·have:=aY hc
    unfold aQ aA at this
    omega
   ·cases hc
  |@slice b o _ _ l hl=>
   have hcap:cap<aQ:=by
    simp only [Bool.or_eq_true] at hc
    rcases hc with hc|hc
    ·exact aY hc
    ·cases hc
   have hv:=VR.slice (o:=o) (n:=len) (c:=cap) hl
   rw [gK hcap] at hv ⊢
   have hrun:=fM (ty:=ty) (w:=w) (w':=w) (b:=some ⟨l.blk,l.off+o,none⟩) (sLen:=len) (sCap:=cap) ht hu hi hni hlen hnew (by omega) (fun _ _=>mG _) (fun e=>by cases e)
   exact ⟨_,ρ,w,hrun,Goes.refl h,hv⟩
 ·rename_i hc
  cases b with
  |none=>cases hr
  |some p=>
   have hr:sel (Nat.beq p.block dN) (guard (Nat.beq len 0) (some (.slice (some p) len cap,s))) (aj (s.cells p.block) fun c=>
    guard (Nat.beq c.2.1 e&&Ep p.off cap i.size&&Nat.ble 1 i.size && !Nat.beq c.2.2 0&&Nat.ble (Nat.add p.off (Nat.mul len i.size)) (aV c.1)) (some (.slice (some p) len cap,s)))=some (v,s'):=hr
   rw [aC] at hr
   split at hr
   ·obtain ⟨hg,hr⟩:=au.1 hr
    have hg:=Nat.eq_of_beq_eq_true hg
    subst hg
    cases hr
    cases ha with
    |dead A K=>
     have hrun:=fM (ty:=ty) (w:=w) (w':=w) (b:=some A) (sLen:=0) (sCap:=K) ht hu hi hni hlen hnew (by omega) (fun _ _=>mG _) (fun e=>by cases e)
     exact ⟨_,ρ,w,hrun,Goes.refl h,.dead _ _⟩
    |@slice b o _ _ l hl=>
     have hrun:=fM (ty:=ty) (w:=w) (w':=w) (b:=some ⟨l.blk,l.off+o,none⟩) (sLen:=0) (sCap:=capOf l cap) ht hu hi hni hlen hnew (by omega) (fun _ _=>mG _) (fun e=>by cases e)
     exact ⟨_,ρ,w,hrun,Goes.refl h,VR.slice hl⟩
   obtain ⟨⟨cs,e',f⟩,hcs,hr2⟩:=ah.1 hr
   obtain ⟨hg,hr⟩:=au.1 hr2
   clear hr2
   cases hr
   simp only [Bool.and_eq_true,Bool.not_eq_true'] at hg
   obtain ⟨⟨⟨⟨g1,g2⟩,g3⟩,g4⟩,g5⟩:=hg
   have g1:=Nat.eq_of_beq_eq_true g1
   subst g1
   have g4:f≠0:=by rintro rfl;simp at g4
   have g5:=Nat.le_of_ble_eq_true g5
   have g3:=Nat.le_of_ble_eq_true g3
   rw [aP] at g5
   cases ha with
   |dead A K=>exact (h.IQ hcs).elim
   |@slice b o _ _ l hl=>
    have g2:o=(aA-cap)*i.size:=Nat.eq_of_beq_eq_true g2
    have hcap:aQ≤cap:=by
     simp only [Bool.or_eq_true,not_or] at hc
     have:¬(cap<aQ):=fun hh=>hc.1 (Nat.ble_eq_true_of_le hh)
     omega
    have hsz:size P e'=some i.size:=by unfold size;rw [hi];rfl
    have hop:=E5 h hl hcs g4 hsz g2 g5 (by omega)
    have hv:=VR.slice (o:=o) (n:=len) (c:=cap) hl
    rw [oD hcap] at hv ⊢
    have hrun:=fM (ty:=ty) (w:=w) (w':=w) (b:=some ⟨l.blk,l.off+o,none⟩) (sLen:=len) (sCap:=l.cap-(aA-cap)) ht hu hi hni hlen hnew (by omega) (fun _ _=>mG _) (fun e=>by cases e)
    exact ⟨_,ρ,w,hrun,Goes.refl h,hv⟩
theorem uQ (h:HR P base ρ s w){ts:Array TypeId}{t ty e:TypeId}{sz:Nat}(ht:ts[0]? = some t)(hu:P.underlying t=some (.slice e))(hsz:size P e=some sz)(hni:JB P ts[1]? = true)
  {b:Option Addr} {sLen sCap n:Nat} {x:Value} {old new ocl ncl:List Value} (hg:vC P e (sLen+n)=true) (hlen:(Builtin.lenOf x).run P w = .ok n w)
  (hold:(Builtin.firstCells sz sLen (.slice b sLen sCap)).run P w.drew = .ok ⟨ocl⟩ w.drew) (ho:VRs ρ old ocl) (hol:old.length=sLen*sz)
  (hnew:(Builtin.firstCells sz n x).run P w.drew = .ok ⟨ncl⟩ w.drew) (hn:VRs ρ new ncl) (hnl:new.length=n*sz) (hfit:sCap<sLen+n) :
  alg P base ρ s w ((Builtin.append_ ts ty #[.slice b sLen sCap,x]).run P w) (grow s e (old++new) (sLen+n)).1 (grow s e (old++new) (sLen+n)).2:=by
 obtain ⟨arr,cap,hrun,h0,hsize,hle,hcells⟩:=yX (ty:=ty) ht hu hsz hni hg hlen hold ho hol hnew hn hnl hfit
 have hgo:=Goes.aiV (k:=w.drawn+1) h hsz h0 hcells hsize hle
 refine ⟨_,_,_,hrun,hgo,?_⟩
 have key:=VR.slice (ρ:=ρ.set s.next ⟨w.heap.size,0,cap⟩) (b:=s.next) (o:=0) (n:=sLen+n) (c:=aA) (l:=⟨w.heap.size,0,cap⟩) (by rw [Ren.bJ h.next,Ren.cu])
 have hbc:=oK w.heap.size 0 cap
 rw [hbc] at key
 exact key
theorem Bc (h:HR P base ρ s w){ts:Array TypeId}{t ty e:TypeId}{sz:Nat}{i:TypeInfo}(ht:ts[0]? = some t)(hu:P.underlying t=some (.slice e))(hi:P.info? e=some i)(hsz:i.size=sz)(hni:JB P ts[1]? = true)
  {b o len cap n f:Nat} {l:Loc} {x:Value} {cs old new ocl ncl ano:List Value} (hl:ρ.at b=some l) (hc:s.cells b=some (cs,e,f)) (hf:f≠0) (hcap:aQ≤cap) (hop:o=(aA-cap)*sz) (h1:1≤sz)
  (hb:ak≤b) (hone:kV new=true) (hend:o+len*sz=cs.length) (ajU:old=(cs.drop o).take (len*sz))
  (hg:vC P e (len+n)=true) (hlen:(Builtin.lenOf x).run P w = .ok n w)
  (hold:(Builtin.firstCells sz len (.slice (some ⟨l.blk,l.off+o,none⟩) len (capOf l cap))).run P w.drew = .ok ⟨ocl⟩ w.drew) (ho:VRs ρ old ocl)
  (amx:(Builtin.firstCells sz n x).run P w.drew = .ok ⟨ano⟩ w.drew) (hn':VRs ρ new ano) (hnew:(Builtin.firstCells sz n x).run P w = .ok ⟨ncl⟩ w) (hn:VRs ρ new ncl) (hnl:new.length=n*sz) :
  alg P base ρ s w ((Builtin.append_ ts ty #[.slice (some ⟨l.blk,l.off+o,none⟩) len (capOf l cap),x]).run P w) (branch s b (old++new) e f (len+n)).1 (branch s b (old++new) e f (len+n)).2:=by
 have hsz':size P e=some sz:=by unfold size;rw [hi];exact congrArg some hsz
 have hol:old.length=len*sz:=by rw [ajU];simp;omega
 have aru:=E5 h hl hc hf hsz' hop (k:=len) (by omega) (by omega)
 by_cases hfit:len+n≤capOf l cap
 ·
  obtain ⟨q,hq⟩:=h.rows b cs e f hc
  have hql:q=l:=by have:=hq.at_;rw [hl] at this;exact (Option.some.inj this).symm
  subst hql
  obtain ⟨_,a,fz,⟨e9,ha,he9⟩,wK,hfz,_,h4⟩:=hq
  have he9:=(he9 (.inr hb)).symm
  subst he9
  obtain ⟨n',hn',h0,aoO,aqm⟩:=h4 hf
  rw [hsz'] at hn'
  cases hn'
  clear h4
  have ahH:=oD (l:=q) hcap
  rw [ahH] at hfit
  have hmul:(len+n)*sz≤(q.cap-(aA-cap))*sz:=Nat.mul_le_mul_right _ hfit
  have hall:o+(q.cap-(aA-cap))*sz=q.cap*sz:=by
   rw [hop,←Nat.add_mul];congr 1;omega
  have hsum:(len+n)*sz=len*sz+n*sz:=Nat.add_mul _ _ _
  have hnc:=hn.length
  have akc:=gB P q.blk (q.off+o+len*sz) e fz ncl 0 a w ha (by omega) (hfz hb) (xu hn hone)
  let a':Array Value:=(a.toList.take (q.off+o+len*sz+0)++ncl++a.toList.drop (q.off+o+len*sz+0+ncl.length)).toArray
  have hsa:a'.size=a.size:=by simp [a'];omega
  have hlow:∀ j,j<q.off+o+len*sz→a'[j]? = a[j]?:=by
   intro j hj
   simp only [a',List.getElem?_toArray,Nat.add_zero]
   rw [List.append_assoc,List.getElem?_append_left (by simp;omega),List.getElem?_take,if_pos hj]
   simp
  have hmid:∀ j,j<ncl.length→a'[q.off+o+len*sz+j]? = ncl[j]?:=by
   intro j hj
   simp only [a',List.getElem?_toArray,Nat.add_zero]
   rw [List.append_assoc,List.getElem?_append_right (by simp;omega),List.getElem?_append_left (by simp;omega)]
   congr 1
   simp;omega
  have hrun:=fM (ty:=ty) (w:=w) (w':=w.setRow q.blk a') (b:=some ⟨q.blk,q.off+o,none⟩) (sLen:=len) (sCap:=capOf q cap) ht hu hi hni hlen (by rw [hsz];exact hnew) (by rw [ahH];exact hfit)
   (fun p hp=>by cases hp;rw [hsz,add_eq];exact akc) (fun e=>by cases e)
  let ln:Loc:=⟨q.blk,q.off+o,q.cap-(aA-cap)⟩
  have hgo:=Goes.share (cells:=old++new) (ln:=ln) h hb hc hf hl ha hsa (fun j x hj=>by
    have hjl:=(List.getElem?_eq_some_iff.1 hj).1
    rw [hlow (q.off+j) (by omega)]
    exact wK j x hj) rfl (fun j x hj=>by
    show ∃ y,a'[q.off+o+j]? = some y∧_
    by_cases hjo:j<old.length
    ·rw [List.getElem?_append_left hjo,ajU,List.getElem?_take,if_pos (by omega),List.getElem?_drop] at hj
     rw [hlow _ (by omega),Nat.add_assoc]
     exact wK _ x hj
    ·rw [List.getElem?_append_right (by omega)] at hj
     have hjl:=(List.getElem?_eq_some_iff.1 hj).1
     obtain ⟨y,hy,hv⟩:=hn.get hj
     refine ⟨y,?_,hv⟩
     have:=hmid (j-old.length) (by omega)
     rw [hy] at this
     rw [←this]
     congr 1
     omega) (fun n2 hn2=>by
    rw [hsz'] at hn2
    cases hn2
    refine ⟨?_,?_⟩
    ·show q.off+o+(q.cap-(aA-cap))*sz≤a.size
     omega
    ·show (old++new).length≤(q.cap-(aA-cap))*sz
     rw [List.length_append,hol,hnl]
     omega)
  refine ⟨_,_,_,hrun,hgo,?_⟩
  have key:=VR.slice (ρ:=ρ.set s.next ln) (b:=s.next) (o:=0) (n:=len+n) (c:=aA) (l:=ln) (by rw [Ren.bJ h.next,Ren.cu])
  have hbc:capOf ln aA=ln.cap:=oK _ _ _
  rw [hbc] at key
  rw [ahH]
  exact key
 ·obtain ⟨arr,cp,hrun,h0,hsize,hle,hcells⟩:=yX (ty:=ty) ht hu hsz' hni hg hlen hold ho hol amx hn' hnl (by omega)
  have hgo:=Goes.WB (k:=w.drawn+1) h hc hf hsz' h0 hcells hsize hle
  refine ⟨_,_,_,hrun,hgo,?_⟩
  have key:=VR.slice (ρ:=ρ.set s.next ⟨w.heap.size,0,cp⟩) (b:=s.next) (o:=0) (n:=len+n) (c:=aA) (l:=⟨w.heap.size,0,cp⟩) (by rw [Ren.bJ h.next,Ren.cu])
  have hbc:=oK w.heap.size 0 cp
  rw [hbc] at key
  exact key
theorem QF (h:HR P base ρ s w){ts:Array TypeId}{sT ty:TypeId}{a b a' b' v:Value}(ha:VR ρ a a')(hb:VR ρ b b')(ht:ts[0]? = some sT)(hr:append P s sT ts[1]? a b=some (v,s')) :
  alg P base ρ s w ((Builtin.append_ ts ty #[a',b']).run P w) v s':=by
 unfold append at hr
 obtain ⟨hni,hr1⟩:=au.1 hr
 clear hr
 split at hr1
 ·rename_i e hu
  split at hr1
  ·rename_i bs len cap
   obtain ⟨n,hn,hr2⟩:=ah.1 hr1
   obtain ⟨sz,hsz,hr3⟩:=ah.1 hr2
   obtain ⟨new,hnew,hr⟩:=ah.1 hr3
   clear hr1 hr2 hr3
   obtain ⟨i,hi,hsi⟩:=mP hsz
   subst hsi
   have hlen:=GH (P:=P) (w:=w) hb hn
   obtain ⟨ncl,hf1,hf2,hf3⟩:=iR h hb hnew
   have hd:HR P base ρ s w.drew:=h.drew _
   obtain ⟨ano,amY,amz,_⟩:=iR hd hb hnew
   have hnl:=JF hnew hn (Nat.le_refl _)
   unfold Og at hr
   rw [aC] at hr
   split at hr
   ·rename_i h0
    have h0:n=0:=Nat.eq_of_beq_eq_true h0
    subst h0
    have:=Hw hnew hf2
    subst this
    exact EC h ht hu hi hni ha hlen hf1 hr
   ·rename_i hne
    cases bs with
    |none=>
     obtain ⟨hg,hr9⟩:=au.1 hr
     clear hr
     have hr:=Option.some.inj hr9
     simp only [Bool.and_eq_true] at hg
     obtain ⟨⟨g1,g2⟩,g3⟩:=hg
     have g1:len=0:=Nat.eq_of_beq_eq_true g1
     have g2:cap=0:=Nat.eq_of_beq_eq_true g2
     subst g1 g2
     have h0:n≠0:=by rintro rfl;exact hne rfl
     cases ha
     have:=uQ (ty:=ty) (old:=[]) (ocl:=[]) (sLen:=0) (sCap:=0) (b:=none) h ht hu hsz hni (by simpa using g3) hlen (by simp [Builtin.firstCells]) .nil (by simp) amY amz hnl (by omega)
     rw [Nat.zero_add,List.nil_append] at this
     rw [hr] at this
     exact this
    |some p=>
     change Bo P s e p len cap n i.size new=some (v,s') at hr
     unfold Bo at hr
     obtain ⟨⟨cs,e',f⟩,hc,hr2⟩:=ah.1 hr
     clear hr
     obtain ⟨hg,hr⟩:=au.1 hr2
     clear hr2
     simp only [Bool.and_eq_true,Bool.or_eq_true,Bool.not_eq_true'] at hg
     obtain ⟨⟨g1,g2⟩,g3⟩:=hg
     have g1:e'=e:=Nat.eq_of_beq_eq_true g1
     subst g1
     have g2:=Nat.le_of_ble_eq_true g2
     cases ha with
     |dead A K=>exact (h.IQ hc).elim
     |@slice bb o _ _ l hl=>
      rw [aC] at hr
      split at hr
      ·rename_i hcnd
       simp only [Bool.and_eq_true] at hcnd
       obtain ⟨c1,c2⟩:=hcnd
       have c1:len+n≤cap:=Nat.le_of_ble_eq_true c1
       have c2:o+len*i.size+n*i.size≤cs.length:=by have:=Nat.le_of_ble_eq_true c2;rw [aP] at this;exact this
       unfold ET at hr
       obtain ⟨s2,hs2,hr2⟩:=ah.1 hr
       have hr:=Option.some.inj hr2
       cases hr
       obtain ⟨w2,h5,h6⟩:=jT h hl hs2 hf2
       have hfit:len+n≤capOf l cap:=by
        by_cases hk:cap<aQ
        ·rw [gK hk];exact c1
        ·have hk':aQ≤cap:=by omega
         rcases g3 with g3|⟨g3,g4⟩
         ·exact absurd (aY g3) hk
         ·have g3:o=(aA-cap)*i.size:=Nat.eq_of_beq_eq_true g3
          have g4:f≠0:=by rintro rfl;simp at g4
          have:=E5 h hl hc g4 hsz g3 (k:=len+n) (by rw [Nat.add_mul];omega) (by omega)
          rw [oD hk']
          omega
       have hrun:=fM (ty:=ty) (w:=w) (w':=w2) (b:=some ⟨l.blk,l.off+o,none⟩) (sLen:=len) (sCap:=capOf l cap) ht hu hi hni hlen hf1 hfit
        (fun p hp=>by cases hp;rw [add_eq,Nat.add_assoc];exact h5) (fun e=>by cases e)
       exact ⟨_,ρ,w2,hrun,h6,.slice (h6.le |> fun hle=>Ren.TK hle hl)⟩
      ·unfold Aq at hr
       rw [V5] at hr
       obtain ⟨hgo,hr2⟩:=au.1 hr
       obtain ⟨old,hold,hr⟩:=ah.1 hr2
       clear hr2
       have hgo:vC P e' (len+n)=true:=hgo
       have alC:=hold
       rw [qp,iY] at alC
       obtain ⟨ho1,ho2⟩:=alC
       have ho1:len*i.size≤cs.length-o:=by simpa using ho1
       have ho2:old=(cs.drop o).take (len*i.size):=ho2
       have hbd:Nat.beq bb dN=false:=by
        cases hq:Nat.beq bb dN with
        |false=>rfl
        |true=>
         have:=Nat.eq_of_beq_eq_true hq
         subst this
         exact (h.IQ hc).elim
       have hfc:firstCells s i.size len (.slice (some ⟨bb,o,none⟩) len cap)=some old:=by
        show sel (Nat.beq bb dN) _ (aj (s.cells bb) _)=_
        rw [hbd,aF]
        show aj (s.cells bb) _=_
        rw [hc]
        exact hold
       obtain ⟨ocl,anC,aps,aqd⟩:=iR hd (VR.slice (n:=len) (c:=cap) hl) hfc
       have hol:=aqd ⟨_,_,_,rfl⟩
       rw [aC] at hr
       split at hr
       ·rename_i hk
        have hk:=aY hk
        obtain ⟨hlt,hr⟩:=au.1 hr
        have hlt:cap<len+n:=aY hlt
        have hr:=Option.some.inj hr
        rw [gK hk] at anC ⊢
        have:=uQ (ty:=ty) h ht hu hsz hni hgo hlen anC aps hol amY amz hnl hlt
        rw [aX] at hr
        have e:grow s e' (old++new) (len+n)=(v,s'):=hr
        rw [e] at this
        exact this
       ·rename_i hk
        have hk:aQ≤cap:=by
         have:¬(cap<aQ):=fun hh=>hk (Nat.ble_eq_true_of_le hh)
         omega
        obtain ⟨hgg,hr⟩:=au.1 hr
        simp only [Bool.and_eq_true] at hgg
        obtain ⟨⟨k1,k2⟩,k3⟩:=hgg
        have k1:o+len*i.size=cs.length:=by have:=Nat.eq_of_beq_eq_true k1;rw [aP] at this;exact this
        have k2:ak≤bb:=Nat.le_of_ble_eq_true k2
        rcases g3 with g3|⟨g3,g4⟩
        ·exact absurd (aY g3) (by omega)
        have g3:o=(aA-cap)*i.size:=Nat.eq_of_beq_eq_true g3
        have g4:f≠0:=by rintro rfl;simp at g4
        have hr:=Option.some.inj hr
        have:=Bc (ty:=ty) h ht hu hi rfl hni hl hc g4 hk g3 g2 k2 k3 k1 ho2 hgo hlen anC aps amY amz hf1 hf2 hnl
        rw [aX] at hr
        have e:branch s bb (old++new) e' f (len+n)=(v,s'):=hr
        rw [e] at this
        exact this
  ·cases hr1
 ·cases hr1
end
end Go.Ax
