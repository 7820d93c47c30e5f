import GoSem.Dispatch
import Derived.RangeFuncIn
import Derived.DefersIn
import Derived.Laws.Sem
import Derived.Laws.World
import Derived.Below
import Derived.Laws.CopyRow
import Derived.Laws.AppendOwn
import Derived.Great.FillDense
import Derived.ChangeKeysEq
import Derived.Laws.Append
open Nat renaming le_of_ble_eq_true→qaa,eq_of_beq_eq_true→qab,beq→qaf,ble→qah,succ→qak,ble_eq_true_of_le→qan,le_refl→qar,mul→qat,add_assoc→qax,add→qaz,beq_eq→qaE,sub→qaF,beq_refl→qaG,lt_of_lt_of_le→qaH,add_mul→qaI,mod→qaJ,mul_le_mul_right→qaL,min_eq_left→qaO,add_zero→qaP,mod_eq_of_lt→qaS,not_lt_zero→qaU,le_trans→qaV,ble_eq→qaY,xor_lt_two_pow→qaZ,pow→qa4,lt_succ_self→qa5,zero_mul→qa6,div→qa8,mod_lt→qba,land→qbc,lor→qbe
open Go.Result renaming andThen_ok→qac
open Go.Sem renaming run_pure→qad,run_bind→qae,run→qau
open Int renaming ofNat→qag,ofNat_eq_natCast→qam,toNat_natCast→qaB,negSucc→qaT
open Bool renaming and_eq_true→qai,false_eq_true→qao,eq_iff_iff→qap,or_eq_true→qaw,not_eq_true→qaC,not_eq_true'→qaD,not_true→qa7
open List renaming getElem?_append_left→qaj,getElem?_append_right→qal,append_assoc→qaq,getElem?_toArray→qas,getElem?_take→qav,getElem?_eq_getElem→qay,getElem?_drop→qaA,filter_eq_nil_iff→qaK,length_append→qaR,map_eq_nil_iff→qa1,take→qa9
open Array renaming range→qaM,getElem?_setIfInBounds→qaN,toList_map→qaQ,ext'→qaW,getElem?_modify→qaX,getElem?_push→qa3,map_empty→qbb
set_option linter.unusedVariables false
set_option linter.unusedSectionVars false
namespace Go.Ax
open Go
noncomputable section
inductive Tr (α:Type) where
 |e
 |n (v:Option α) (x y:Tr α)
abbrev Path:=List Bool
def amE:Nat→Nat→Path:=fun d=>Nat.rec (fun _=>[]) (fun _ ih k=>Bool.rec (List.cons (qaf (qaJ k 2) 1) (ih (qa8 k 2))) [] (qaf k 0)) d
def path (k:Nat):Path:=amE (qak k) k
def Tr.val {α:Type}:Tr α→Option α:=fun t=>Tr.rec none (fun v _ _ _ _=>v) t
def Tr.left {α:Type}:Tr α→Tr α:=fun t=>Tr.rec .e (fun _ x _ _ _=>x) t
def Tr.right {α:Type}:Tr α→Tr α:=fun t=>Tr.rec .e (fun _ _ y _ _=>y) t
def Tr.agC {α:Type}:Path→Tr α→Option α:=fun p=>
 List.rec (fun t=>t.val) (fun b _ ih t=>Tr.rec none (fun _ x y _ _=>ih (Bool.rec x y b)) t) p
def Tr.agy {α:Type}(a:α):Path→Tr α→Tr α:=fun p=>
 List.rec (fun t=>Tr.rec (.n (some a) .e .e) (fun _ x y _ _=>.n (some a) x y) t)
  (fun b _ ih t=>Tr.rec (Bool.rec (.n none (ih .e) .e) (.n none .e (ih .e)) b) (fun v x y _ _=>Bool.rec (.n v (ih x) y) (.n v x (ih y)) b) t) p
def Tr.get {α:Type}(t:Tr α)(k:Nat):Option α:=Tr.agC (path k) t
def Tr.set {α:Type}(t:Tr α)(k:Nat)(a:α):Tr α:=Tr.agy a (path k) t
inductive Hp (α:Type) where
 |s (b lo:Nat)
 |l (k:Nat) (v:α)
 |n (m:Nat) (x y:Hp α)
def Hp.get {α:Type}(t:Hp α)(k:Nat):Option α:=
 Hp.rec (fun _ _=>none) (fun j v=>Bool.rec none (some v) (qaf j k)) (fun m _ _ x y=>Bool.rec x y (qah m k)) t
def Hp.one {α:Type}(k:Nat)(v:α):Nat→Nat→Hp α:=fun b=>
 Nat.rec (fun _=>.l k v) (fun b ih lo=>Nat.rec (Bool.rec (.n 0 (ih lo) (.s b 0)) (.n 0 (.s b lo) (ih 0)) (qah 0 k))
  (fun m _=>Bool.rec (.n (qak m) (ih lo) (.s b (qak m))) (.n (qak m) (.s b lo) (ih (qak m))) (qah (qak m) k)) (qaz lo (qa4 2 b))) b
def Hp.set {α:Type}(t:Hp α)(k:Nat)(v:α):Hp α:=
 Hp.rec (fun b lo=>Hp.one k v b lo)
  (fun j u=>Bool.rec (Bool.rec (.n k (.l j u) (.l k v)) (.n j (.l k v) (.l j u)) (qah k j)) (.l k v) (qaf j k))
  (fun m x y ihx ihy=>Bool.rec (.n m ihx y) (.n m x ihy) (qah m k)) t
def jB {α β:Type}(l:List α)(z:β)(f:α→List α→β):β:=List.rec z (fun a t _=>f a t) l
def Gz {β:Type}(n:Nat)(z:β)(f:Nat→β):β:=Nat.rec z (fun m _=>f m) n
def nth {α:Type}:List α→Nat→Option α:=fun l=>
 List.rec (fun _=>none) (fun a _ ih k=>Gz k (some a) ih) l
def eH {α:Type}:Nat→List α→List α:=fun n=>Nat.rec (fun l=>l) (fun _ ih l=>jB l [] (fun _ t=>ih t)) n
def aA {α:Type}:Nat→List α→List α:=fun n=>Nat.rec (fun _=>[]) (fun _ ih l=>jB l [] (fun a t=>a::ih t)) n
def aQ {α:Type}:List α→Nat:=fun l=>List.rec 0 (fun _ _ ih=>qak ih) l
def aK {α:Type}:List α→List α→List α:=fun l r=>List.rec r (fun a _ ih=>a::ih) l
def zO {α β:Type}(f:α→β):List α→List β:=fun l=>List.rec [] (fun a _ ih=>f a::ih) l
def aj {α β:Type}(x:Option α)(k:α→Option β):Option β:=Option.rec none k x
def guard {β:Type}(b:Bool)(k:Option β):Option β:=Bool.rec none k b
def sel {α:Type}(b:Bool)(x y:α):α:=Bool.rec y x b
structure Ee where
 state:LoopState
 pending:Option Code
 fn:FuncId
 vars:Tr Value
 params:List Tmp
 assign:Code
 body:Code
 n:Nat
structure abt where
 map:Nat
 since:Nat
 seen:List Nat
 stepped:Nat
inductive anE where
 |loop (l:Ee)
 |iter (r:abt)
def anE.awf (o:anE):Option Ee:=
 match o with
 |.loop r=>some r
 |.iter _=>none
inductive Row where
 |row (cells:List Value) (elem:TypeId) (fam:Nat)
 |map (es:List MapEntry) (clock:Nat)
 |loop (l:anE)
 |other
structure St where
 heap:Hp Row
 bZ:Hp (List Nat)
 next:Nat
def ak:Nat:=64
def eU:Nat:=32
def fP:Nat:=63
def aC:Nat:=18446744073709551616
def bf:Nat:=9223372036854775808
def yT (b:Nat):List Nat→Bool:=fun l=>List.rec false (fun a _ ih=>sel (qaf a b) true ih) l
def Lu (bZ:Hp (List Nat))(b:Nat)(cs:List Value)(e:TypeId)(f:Nat):Option (List Value × TypeId × Nat):=
 sel (qaf f 0) (some (cs,e,f)) (aj (bZ.get f) fun l=>guard (yT b l) (some (cs,e,f)))
def St.cells (s:St)(b:Nat):Option (List Value × TypeId × Nat):=
 aj (s.heap.get b) fun r=>Row.casesOn r (fun cs e f=>Lu s.bZ b cs e f) (fun _ _=>none) (fun _=>none) none
def St.new {β:Type}(s:St)(r:Row)(k:Nat→St→β):β:=
 k s.next { heap:=s.heap.set s.next r,bZ:=s.bZ,next:=qak s.next }
def EG (d:TypeDesc):Bool:=
 match d with
 |.struct _|.array _ _=>true
 |_=>false
def isAgg (P:Program)(t:TypeId):Option Bool:=aj (P.underlying t) fun d=>some (EG d)
def size (P:Program)(t:TypeId):Option Nat:=(P.info? t).map (·.size)
def zero (P:Program)(t:TypeId):Option (List Value):=guard (qah (qak t) P.types.size) (((P.info? t).bind (·.zero)).map fun v=>v.cells.toList)
def cellsOf (v:Value):List Value:=
 match v with
 |.agg ⟨cs⟩=>cs
 |v=>[v]
def FY (l:List Value):Value:=.agg ⟨l⟩
def takeN (n:Nat)(l:List Value):Option (List Value):=
 Nat.rec (fun _=>some []) (fun _ ih l=>jB l none (fun a t=>aj (ih t) fun r=>some (a::r))) n l
def arz (n:Nat)(l:List Value):Option (List Value):=sel (qaf n (aQ l)) (some l) (takeN n l)
def Jb (P:Program)(t:TypeId)(o:Nat)(cs:List Value):Option Value:=
 aj (isAgg P t) fun g=>sel g (aj (size P t) fun n=>aj (takeN n (eH o cs)) fun l=>some (FY l)) (nth cs o)
def load (P:Program)(s:St)(t:TypeId)(b o:Nat):Option Value:=
 aj (s.cells b) fun c=>Jb P t o c.1
def aaG:List Value→List Value→Option (List Value):=fun vs=>
 List.rec (fun l=>some l) (fun v _ ih l=>jB l none (fun _ t=>aj (ih t) fun r=>some (v::r))) vs
def splice (vs:List Value):Nat→List Value→Option (List Value):=fun o=>
 Nat.rec (fun cs=>aaG vs cs) (fun _ ih cs=>jB cs none (fun a t=>aj (ih t) fun r=>some (a::r))) o
def putRow (s:St)(b:Nat)(cs:List Value)(e:TypeId)(f:Nat):St:=
 { heap:=s.heap.set b (.row cs e f),bZ:=sel (qaf f 0) s.bZ (s.bZ.set f [b]),next:=s.next }
def aoa (v:Value):Bool:=
 match v with
 |.agg _=>false
 |.tuple _=>false
 |_=>true
def rV (l:List Value):Bool:=List.rec true (fun v _ ih=>sel (aoa v) ih false) l
def storeCells (s:St)(b o:Nat)(vs:List Value):Option St:=
 guard (qah ak b&&rV vs) <| aj (s.cells b) fun c=>aj (splice vs o c.1) fun cs=>some (putRow s b cs c.2.1 c.2.2)
def store (P:Program)(s:St)(t:TypeId)(b o:Nat)(vs:List Value):Option St:=
 aj (size P t) fun n=>guard (qaf (aQ vs) n) (storeCells s b o vs)
inductive Res where
 |val (v:Value) (s:St)
 |call (f:FuncId) (args:List Value) (s:St)
 |yield (l:Nat) (args:List Value) (s:St)
 |defer (f:FuncId) (args:List Value) (s:St)
abbrev Ev:=Operand→Option Value
def ptr (b o:Nat):Value:=.pointer (some ⟨b,o,none⟩)
def i64 (n:Nat):Value:=.int .i64 (qag n)
def unit:Value:=.tuple #[]
def asNat (v:Value):Option Nat:=
 match v with
 |.int _ n=>Int.casesOn n (fun n=>some n) (fun _=>none)
 |_=>none
def ret (v:Value)(s:St):Option Res:=some (.val v s)
inductive Ext where
 |cmp|indexByte|alp|aqi|aqM|overlaps
 |alm (l:List (Nat × Unit))|avL (l:List (Nat × Nat))|YC (l:List (Nat × Nat × Bool))|XG (l:List (Nat × Nat × Bool))
 |akq (l:List (Nat × Nat))|ara (l:List (Nat × Nat))|asF (l:List (Nat × Nat))|ap1 (l:List (Nat × Nat × Nat × Nat))|ayO (l:List (Nat × Nat × Nat))|aqI (l:List (Nat × Nat))
inductive Tree (α:Type) where
 |fail
 |leaf (a:α)
 |test (b:Bool) (x y:Tree α)
def Tree.run {α:Type}(t:Tree α):Option α:=Tree.rec none (fun a=>some a) (fun b _ _ x y=>sel b x y) t
def Tree.vS {α β:Type}(t:Tree α)(k:α→Option β):Option β:=Tree.rec none k (fun b _ _ x y=>sel b x y) t
def Tree.runK {α β:Type}(t:Tree α)(k:α→Option β)(z:Option β):Option β:=Tree.rec z k (fun b x y _ _=>sel b (x.vS k) (y.vS k)) t
structure Fr where
 vars:Tr Value
 loc:List (Nat × Value)
 defers:List (FuncId × List Value)
inductive Ex where
 |normal
 |exit (id:Nat)
 |ret
inductive Con where
 |tree (F:St→List Value→Tree (Value × St))
 |insert (t:TypeId)
 |closed (ok:St→Bool)
 |fn (F:St→List Value→Option (Value × St))
 |pure (G:List Value→Option Value)
structure Cfg where
 P:Program
 ext:FuncId→Option Ext
 rtype:TypeId
 body:FuncId→Option Code
 params:FuncId→List Nat
 results:FuncId→List ResultVar
 vars:FuncId→Nat
 insert:FuncId→Option Con
 apt:TypeId→Bool
 order:FuncId→Nat→List Nat
 lies:List (Nat × Nat × Nat × Nat):=[]
 MQ:FuncId→Nat→Option (Fr→St→Tree (Ex × Fr × St)):=fun _ _=>none
def gY (a b:IntKind):Bool:=qaf a.ctorIdx b.ctorIdx
def ahW (k:IntKind)(n:Nat):Int:=
 match k with
 |.i64=>sel (qah 9223372036854775808 n) (IntKind.wrap .i64 (qag n)) (qag n)
 |.u64=>qag (qaJ n 18446744073709551616)
 |.u8=>qag (qaJ n 256)
 |k=>IntKind.wrap k (qag n)
def wrap (k:IntKind)(n:Int):Int:=Int.casesOn n (fun n=>ahW k n) (fun n=>IntKind.wrap k (qaT n))
def subNat (a b:Nat):Int:=sel (qah b a) (qag (qaF a b)) (qaT (qaF (qaF b a) 1))
def Zu (fn:Nat→Nat→Int)(fi:Int→Int→Int)(a b:Int):Int:=
 Int.casesOn a (fun x=>Int.casesOn b (fun y=>fn x y) (fun y=>fi (qag x) (qaT y))) (fun x=>fi (qaT x) b)
def ape:Int→Int→Int:=Zu (fun x y=>qag (qaz x y)) (fun a b=>a+b)
def ahz:Int→Int→Int:=Zu subNat (fun a b=>a-b)
def anX:Int→Int→Int:=Zu (fun x y=>qag (qat x y)) (fun a b=>a*b)
def axn:Int→Int→Int:=Zu (fun x y=>qag (qa8 x y)) (fun a b=>a.tdiv b)
def ali:Int→Int→Int:=Zu (fun x y=>qag (qaJ x y)) (fun a b=>a.tmod b)
def arA (fn:Nat→Nat→Bool)(on no:Bool)(nn:Nat→Nat→Bool)(a b:Int):Bool:=
 Int.casesOn a (fun x=>Int.casesOn b (fun y=>fn x y) (fun _=>on)) (fun x=>Int.casesOn b (fun _=>no) (fun y=>nn x y))
def eqI:Int→Int→Bool:=arA qaf false false qaf
def ltI:Int→Int→Bool:=arA (fun x y=>qah (qak x) y) false true (fun x y=>qah (qak y) x)
def leI:Int→Int→Bool:=arA qah false true (fun x y=>qah y x)
def vO (k:IntKind):Nat:=
 match k with
 |.u64=>18446744073709551616
 |.u8=>256
 |.u32=>4294967296
 |.u16=>65536
 |_=>0
def ltN (a b:Nat):Bool:=qah (qak a) b
def KD (k:FloatKind):Bool:=
 match k with
 |.f64=>true
 |.f32=>false
def qR (k:IntKind):Bool:=
 match k with
 |.u64|.u8|.u32|.u16=>true
 |_=>false
def QE (op:Nat→Nat→Nat)(k:IntKind)(a b:Int):Option Value:=
 Int.casesOn a (fun a=>Int.casesOn b (fun b=>guard (qR k) (some (.int k (qag (op (qaJ a (vO k)) (qaJ b (vO k))))))) (fun _=>none)) (fun _=>none)
def agO (op:BinOp)(k:IntKind)(a b:Int):Option Value:=
 match op with
 |.add=>some (.int k (wrap k (ape a b)))
 |.sub=>some (.int k (wrap k (ahz a b)))
 |.mul=>some (.int k (wrap k (anX a b)))
 |.quo=>guard (!eqI b 0) (some (.int k (wrap k (axn a b))))
 |.rem=>guard (!eqI b 0) (some (.int k (ali a b)))
 |.and=>(QE qbc k a b)
 |.or=>(QE qbe k a b)
 |.xor=>(QE Nat.xor k a b)
 |.andNot=>(QE (fun a b=>Nat.xor a (qbc a b)) k a b)
 |.eql=>some (.bool (eqI a b))
 |.neq=>some (.bool (!eqI a b))
 |.lss=>some (.bool (ltI a b))
 |.leq=>some (.bool (leI a b))
 |.gtr=>some (.bool (ltI b a))
 |.geq=>some (.bool (leI b a))
 |_=>none
def aoF (a b:Addr):Option Bool:=guard (qaf a.block b.block) (some (qaf a.off b.off))
def nO:List UInt8→List UInt8→Bool:=fun l=>
 List.rec (fun r=>jB r true (fun _ _=>false)) (fun a _ ih r=>jB r false (fun b t=>sel (qaf a.toNat b.toNat) (ih t) false)) l
def awt (P:Program)(e:TypeId)(x y:Option Addr):Option Bool:=
 Option.casesOn x (some y.isNone) fun a=>Option.casesOn y (some false) fun b=>aj (size P e) fun n=>guard (!qaf n 0) (aoF a b)
def eqD (P:Program)(d:TypeDesc)(x y:Value):Option Bool:=
 match d with
 |.bool=>match x with
  |.bool a=>match y with
   |.bool b=>some (a == b)
   |_=>none
  |_=>none
 |.int _=>match x with
  |.int k a=>match y with
   |.int k' b=>guard (gY k k') (some (eqI a b))
   |_=>none
  |_=>none
 |.string=>match x with
  |.string a=>match y with
   |.string b=>some (nO a.data.toList b.data.toList)
   |_=>none
  |_=>none
 |.pointer e=>match x with
  |.pointer a=>match y with
   |.pointer b=>awt P e a b
   |_=>none
  |_=>none
 |.slice _=>match x with
  |.slice a _ _=>match y with
   |.slice b _ _=>Option.casesOn a (some b.isNone) fun _=>Option.casesOn b (some false) fun _=>none
   |_=>none
  |_=>none
 |.map _ _=>match x with
  |.map a=>match y with
   |.map b=>Option.casesOn a (some b.isNone) fun _=>Option.casesOn b (some false) fun _=>none
   |_=>none
  |_=>none
 |.func _ _ _=>match x with
  |.nilFunc=>match y with
   |.nilFunc=>some true
   |.func _ _ _=>some false
   |_=>none
  |.func _ _ _=>match y with
   |.nilFunc=>some false
   |_=>none
  |_=>none
 |.interface _=>match x with
  |.nilIface=>match y with
   |.nilIface=>some true
   |.iface _ _=>some false
   |_=>none
  |.iface _ _=>match y with
   |.nilIface=>some false
   |_=>none
  |_=>none
 |_=>none
def af6 (f:Value→Value→Option Bool)(n:Nat):List Value→List Value→Option Bool:=
 Nat.rec (fun _ _=>some true) (fun _ ih xs ys=>jB xs none fun x xt=>jB ys none fun y yt=>aj (f x y) fun b=>sel b (ih xt yt) (some false)) n
def part (P:Program)(t:TypeId)(cs:List Value)(off:Nat):Option Value:=
 aj (isAgg P t) fun g=>sel g (aj (size P t) fun n=>some (FY (aA n (eH off cs)))) (nth cs off)
abbrev EqF:=TypeId→Value→Value→Option Bool
def amX (x y:Value)(k:List Value→List Value→Option Bool):Option Bool:=
 match x with
 |.agg ⟨xs⟩=>match y with
  |.agg ⟨ys⟩=>k xs ys
  |_=>none
 |_=>none
def vw (P:Program)(ih:EqF)(t:TypeId)(o:Nat)(xs ys:List Value):Option Bool:=
 aj (part P t xs o) fun x=>aj (part P t ys o) fun y=>ih t x y
def DW (P:Program)(ih:EqF)(e:TypeId)(n:Nat)(xs ys:List Value)(k:Nat):Nat→Option Bool:=
 Nat.rec (fun _=>some true) (fun _ go i=>aj (vw P ih e (qat i n) xs ys) fun b=>sel b (go (qak i)) (some false)) k
def eqFields (P:Program)(ih:EqF)(xs ys:List Value):List Field→Option Bool:=
 List.rec (some true) (fun f _ go=>aj (vw P ih f.type f.offset xs ys) fun b=>sel b go (some false))
def zJ (C:Cfg)(ih:EqF)(t:TypeId)(x y:Value):Option Bool:=
 aj (C.P.underlying t) fun d=>match d with
  |.array n e=>amX x y fun xs ys=>aj (C.P.underlying e) fun d=>aj (size C.P e) fun k=>sel (!EG d&&qaf k 1) (af6 (eqD C.P d) n xs ys) (DW C.P ih e k xs ys n 0)
  |.struct fs=>guard (C.apt t) (amX x y fun xs ys=>eqFields C.P ih xs ys fs.toList)
  |d=>eqD C.P d x y
def alk (C:Cfg):EqF:=Nat.rec (fun _ _ _=>none) (fun _ ih=>zJ C ih) 6
def comparable (P:Program)(t:TypeId):Bool:=Option.casesOn (P.info? t) false (·.comparable)
def eqT (C:Cfg)(t:TypeId)(x y:Value):Option Bool:=
 match x with
  |.iface tx vx=>match y with
   |.iface ty vy=>match C.P.underlying t with
    |some (.interface _)=>sel (qaf tx ty) (guard (comparable C.P tx) (alk C tx vx vy)) (some false)
    |_=>none
   |y=>alk C t (.iface tx vx) y
  |x=>alk C t x y
def zK:List UInt8→List UInt8→Bool:=fun l=>
 List.rec (fun r=>jB r false (fun _ _=>true))
  (fun a _ ih r=>jB r false (fun b t=>sel (qah (qak a.toNat) b.toNat) true (sel (qaf a.toNat b.toNat) (ih t) false))) l
def auU (op:BinOp)(a b:List UInt8):Option Value:=
 match op with
 |.add=>guard (qah (qaz (aQ a) (aQ b)) 9223372036854775807) (some (.string ⟨⟨aK a b⟩⟩))
 |.eql=>some (.bool (nO a b))
 |.neq=>some (.bool (!nO a b))
 |.lss=>some (.bool (zK a b))
 |.gtr=>some (.bool (zK b a))
 |.leq=>some (.bool (!zK b a))
 |.geq=>some (.bool (!zK a b))
 |_=>none
def shiftOp (left:Bool)(k:IntKind)(a n:Nat):Option Value:=
 sel left (guard (qR k) (some (.int k (qag (qaJ (qat a (qa4 2 (sel (qah n k.bits) n k.bits))) (qa4 2 k.bits))))))
  (some (.int k (qag (qa8 a (qa4 2 (sel (qah n k.bits) n k.bits))))))
def shift (left:Bool)(x y:Value):Option Value:=
 match x with
 |.int k a=>match y with
  |.int _ b=>Int.casesOn a (fun a=>Int.casesOn b (fun b=>shiftOp left k a b) (fun _=>none)) (fun _=>none)
  |_=>none
 |_=>none
def axz (C:Cfg)(t:TypeId)(op:BinOp)(x y:Value):Option Value:=
 match op with
 |.eql=>aj (eqT C t x y) fun b=>some (.bool b)
 |.neq=>aj (eqT C t x y) fun b=>some (.bool !b)
 |_=>none
def aqk (op:BinOp)(k:FloatKind)(lo hi:Nat)(y:Value):Option Value:=
 match y with
 |.int .i64 c=>Int.casesOn c (fun c=>guard (KD k) (match op with
   |.gtr=>sel (qah hi c && !qaf hi 0) (some (.bool false)) (guard (ltN c lo) (some (.bool true)))
   |_=>none)) (fun _=>none)
 |_=>none
def ak0 (C:Cfg)(t:TypeId)(op:BinOp)(x y:Value):Option Value:=
 match x with
 |.int k a=>match y with
  |.int k' b=>guard (gY k k') (agO op k a b)
  |_=>none
 |.string a=>match y with
  |.string b=>auU op a.data.toList b.data.toList
  |_=>none
 |.complex k lo hi=>aqk op k lo hi y
 |x=>axz C t op x y
def binOp (C:Cfg)(t:TypeId)(op:BinOp)(x y:Value):Option Value:=
 match op with
 |.shl=>shift true x y
 |.shr=>shift false x y
 |op=>ak0 C t op x y
def isConst (x:Operand):Bool:=
 match x with
 |.const _=>true
 |_=>false
def rO (C:Cfg)(t:TypeId)(x y:Operand)(a b:Value):Bool:=
 match a with
 |.agg _=>C.apt t
 |.nilIface=>match b with
  |.nilIface=>isConst x||isConst y
  |_=>true
 |_=>true
def fieldInfo (P:Program)(t:TypeId)(i:Nat):Option Field:=
 match P.underlying t with
 |some (.struct fs)=>nth fs.toList i
 |_=>none
def fill (place:Nat→Option (Nat × Nat)):List (Nat × Value)→List Value→Option (List Value):=fun l=>
 List.rec (fun cs=>some cs)
  (fun p _ ih cs=>aj (place p.1) fun q=>guard (qaf (aQ (cellsOf p.2)) q.2) (aj (splice (cellsOf p.2) q.1 cs) ih)) l
def repeatL (n:Nat)(l:List Value):List Value:=Nat.rec [] (fun _ ih=>aK l ih) n
def bound (lo:Option Value)(dflt:Nat):Option Nat:=Option.casesOn lo (some dflt) asNat
def branch (s:St)(b:Nat)(cells:List Value)(elem:TypeId)(f:Nat)(len:Nat):Value × St:=
 (.slice (some ⟨s.next,0,none⟩) len aC,
  { heap:=s.heap.set s.next (.row cells elem f),bZ:=s.bZ.set f [s.next,b],next:=qak s.next })
def BO (a:Addr)(l h m n:Nat)(s:St):Option (Value × St):=
 some (.slice (some (sel (qaf m l) a ⟨a.block,qaz a.off (qat l n),none⟩)) (qaF h l) (qaF m l),s)
def JM (o cap n:Nat):Bool:=qaf o (qat (qaF aC cap) n)
def bY:Value:=.slice (some ⟨fP,0,none⟩) 0 aC
def xu (s:St)(a:Addr)(e:TypeId)(cap l h m n:Nat):Option (Value × St):=
 aj (s.cells a.block) fun c=>
  guard (qaf c.2.1 e&&JM a.off cap n&&qah 1 n && !qaf c.2.2 0&&qah cap aC&&(ltN m bf||qah bf (qaF m l))&&qah (qaz a.off (qat (sel (qah bf m) h m) n)) (aQ c.1))
   (sel (ltN m bf||ltN l h||ltN (qaz a.off (qat l n)) (aQ c.1)||qaf l 0)
    (some (.slice (some (sel (qaf m l) a ⟨a.block,qaz a.off (qat l n),none⟩)) (qaF h l) (qaF m l),s))
    (some (bY,s)))
def wF (s:St)(a:Option Addr)(e:TypeId)(cap l h m n:Nat):Option (Value × St):=
 guard (qah l h&&qah h m&&qah m cap)
  (Option.casesOn a (some (.slice none (qaF h l) (qaF m l),s))
   fun a=>sel (qaf a.block fP) (guard (qaf h 0&&qaf cap aC&&(qaf m 0||qaf m aC)) (some (bY,s))) (sel (qah bf cap) (xu s a e cap l h m n) (BO a l h m n s)))
def E5 (b:List UInt8)(l h:Nat):Option Value:=
 guard (qah l h&&qah h (aQ b)) (sel (qaf h (aQ b)) (some (.string ⟨⟨eH l b⟩⟩)) (some (.string ⟨⟨aA (qaF h l) (eH l b)⟩⟩)))
def bounds {β:Type}(lo hi mx:Option Value)(len cap:Nat)(k:Nat→Nat→Nat→Option β):Option β:=
 aj (bound lo 0) fun l=>aj (bound hi len) fun h=>aj (bound mx cap) fun m=>k l h m
def uz (P:Program)(s:St)(t:TypeId)(a:Option Addr)(len cap:Nat)(lo hi mx:Option Value):Option (Value × St):=
 match P.underlying t with
 |some (.slice e)=>aj (size P e) fun n=>bounds lo hi mx len cap fun l h m=>guard (mx.isNone||(hi.isSome&&ltN m bf)) (wF s a e cap l h m n)
 |_=>none
def BP (P:Program)(k:Nat)(e:TypeId)(s:St)(a:Addr)(lo hi mx:Option Value):Option (Value × St):=
 aj (size P e) fun n=>bounds lo hi mx k k fun l h m=>guard ((mx.isNone||hi.isSome)&&ltN k bf) (wF s (some a) e k l h m n)
def KU (P:Program)(s:St)(t:TypeId)(a:Addr)(lo hi mx:Option Value):Option (Value × St):=
 match P.underlying t with
 |some (.array k e)=>BP P k e s a lo hi mx
 |some (.pointer arr)=>match P.underlying arr with
  |some (.array k e)=>BP P k e s a lo hi mx
  |_=>none
 |_=>none
def Le (P:Program)(s:St)(t:TypeId)(x:Value)(lo hi mx:Option Value):Option (Value × St):=
 match x with
 |.slice a len cap=>uz P s t a len cap lo hi mx
 |.pointer (some a)=>KU P s t a lo hi mx
 |.string b=>match P.underlying t with
  |some .string=>Option.casesOn mx (bounds lo hi none (aQ b.data.toList) 0 fun l h _=>aj (E5 b.data.toList l h) fun v=>some (v,s)) (fun _=>none)
  |_=>none
 |_=>none
def qY (l:List UInt8):List Value:=zO (fun c=>.int .u8 (qag c.toNat)) l
def firstCells (s:St)(sz n:Nat)(v:Value):Option (List Value):=
 match v with
 |.slice (some a) _ _=>sel (qaf a.block fP) (guard (qaf n 0) (some [])) (aj (s.cells a.block) fun c=>takeN (qat n sz) (eH a.off c.1))
 |.slice none _ _=>guard (qaf n 0) (some [])
 |.string b=>guard (qaf sz 1) (some (qY (aA n b.data.toList)))
 |_=>none
def lenOf (v:Value):Option Nat:=
 match v with
 |.slice _ n _=>some n
 |.string b=>some (aQ b.data.toList)
 |_=>none
def grow (s:St)(elem:TypeId)(cells:List Value)(len:Nat):Value × St:=
 (.slice (some ⟨s.next,0,none⟩) len aC,
  { heap:=s.heap.set s.next (.row cells elem s.next),bZ:=s.bZ.set s.next [s.next],next:=qak s.next })
def Ae (P:Program)(elem:TypeId)(need:Nat):Bool:=
 Option.casesOn (P.info? elem) false fun i=>qah need 281474976710656&&qah (qat (qaz (qat 2 need) 768) i.bytes) 281474976710656 &&
  qah 1 i.size&&Option.casesOn i.zero false fun z=>qaf (aQ z.cells.toList) i.size
def Lr (s:St)(p:Addr)(len cap need e:Nat)(new:List Value):Option (Value × St):=
 aj (storeCells s p.block e new) fun s=>some (.slice (some p) need cap,s)
def Fz (P:Program)(s:St)(p:Addr)(len cap need e sz:Nat)(new:List Value)(c:List Value × TypeId × Nat):Option (Value × St):=
 guard (Ae P c.2.1 need) <| aj (arz (qat len sz) (eH p.off c.1)) fun old=>
  sel (ltN cap bf)
   (guard (ltN cap need) (some (grow s c.2.1 (aK old new) need)))
   (guard (qaf e (aQ c.1)&&qah ak p.block&&rV new) (some (branch s p.block (aK old new) c.2.1 c.2.2 need)))
def Gy (P:Program)(s:St)(elem:TypeId)(p:Addr)(len cap n sz:Nat)(new:List Value):Option (Value × St):=
 aj (s.cells p.block) fun c=>
  guard (qaf c.2.1 elem&&qah 1 sz&&(ltN cap bf||(JM p.off cap sz && !qaf c.2.2 0))) <| sel (qah (qaz len n) cap&&qah (qaz (qaz p.off (qat len sz)) (qat n sz)) (aQ c.1))
   (Lr s p len cap (qaz len n) (qaz p.off (qat len sz)) new)
   (Fz P s p len cap (qaz len n) (qaz p.off (qat len sz)) sz new c)
def xK (s:St)(elem:TypeId)(base:Option Addr)(len cap sz:Nat)(a:Value):Option (Value × St):=
 sel (ltN cap bf||base.isNone) (guard (qah len cap) (some (a,s)))
  (Option.casesOn base none fun p=>sel (qaf p.block fP) (guard (qaf len 0) (some (a,s))) <| aj (s.cells p.block) fun c=>
   guard (qaf c.2.1 elem&&JM p.off cap sz&&qah 1 sz && !qaf c.2.2 0&&qah (qaz p.off (qat len sz)) (aQ c.1)) (some (a,s)))
def SK (P:Program)(s:St)(elem:TypeId)(base:Option Addr)(len cap n sz:Nat)(new:List Value)(a:Value):Option (Value × St):=
 sel (qaf n 0) (xK s elem base len cap sz a) (Option.casesOn base (guard (qaf len 0&&qaf cap 0&&Ae P elem n) (some (grow s elem new n))) fun p=>Gy P s elem p len cap n sz new)
def Qn (P:Program)(T:Option TypeId):Bool:=
 Option.casesOn T true fun t=>match P.underlying t with
  |none=>false
  |some (.int _)=>false
  |_=>true
def append (P:Program)(s:St)(sT:TypeId)(T2:Option TypeId)(a b:Value):Option (Value × St):=
 guard (Qn P T2) <| match P.underlying sT with
 |some (.slice elem)=>match a with
  |.slice base len cap=>aj (lenOf b) fun n=>aj (size P elem) fun sz=>aj (firstCells s sz n b) fun new=>SK P s elem base len cap n sz new a
  |_=>none
 |_=>none
def byteOf (v:Value):Option UInt8:=
 match v with
 |.int .u8 n=>Int.casesOn n (fun n=>some (UInt8.ofNat n)) (fun _=>none)
 |_=>none
def bytesOf:List Value→Option (List UInt8):=fun l=>List.rec (some []) (fun v _ ih=>aj (byteOf v) fun b=>aj ih fun r=>some (b::r)) l
def toStr (s:St)(n:Nat)(x:Value):Option (Value × St):=
 aj (firstCells s 1 n x) fun l=>aj (bytesOf l) fun l=>some (.string ⟨⟨l⟩⟩,s)
def isBytes (P:Program)(e:TypeId):Bool:=
 match P.underlying e with
 |some (.int .u8)=>true
 |_=>false
def isStr (P:Program)(e:TypeId):Bool:=
 match P.underlying e with
 |some .string=>true
 |_=>false
def convert (P:Program)(s:St)(src dst:TypeId)(x:Value):Option (Value × St):=
 guard (P.underlying src).isSome <| match P.underlying dst with
 |some (.int k)=>match x with
  |.int _ n=>some (.int k (wrap k n),s)
  |_=>none
 |some .string=>match x with
  |.string b=>some (.string b,s)
  |.int _ n=>some (.string (Utf8.encode n),s)
  |.slice a n c=>match P.underlying src with
   |some (.slice e)=>guard (isBytes P e) (Option.casesOn a (some (.string ⟨⟨[]⟩⟩,s)) fun _=>toStr s n x)
   |_=>none
  |_=>none
 |some (.slice e)=>match x with
  |.string b=>guard (isBytes P e&&isStr P src) (some (grow s e (qY b.data.toList) (aQ b.data.toList)))
  |_=>none
 |_=>none
def unOp (op:UnOp)(x:Value):Option Value:=
 match x with
 |.bool b=>match op with
  |.not=>some (.bool !b)
  |_=>none
 |.int k n=>match op with
  |.neg=>some (.int k (wrap k (ahz 0 n)))
  |.xor=>match k with
   |.u64=>Int.casesOn n (fun n=>some (.int .u64 (qag (qaF 18446744073709551615 (qaJ n 18446744073709551616))))) (fun _=>none)
   |_=>none
  |_=>none
 |_=>none
inductive Pl where
 |val (v:Value)
 |var (b o:Nat)
def Pl.get (P:Program)(s:St)(t:TypeId)(x:Pl):Option Value:=Pl.casesOn x (fun v=>some v) (fun b o=>load P s t b o)
def abU (P:Program)(s:St)(st:FieldStep)(t:TypeId)(x:Pl):Option (TypeId × Pl):=
 aj (fieldInfo P st.struct st.index) fun f=>aj (size P f.type) fun n=>
  sel st.deref
   (match x.get P s t with
    |some (.pointer (some a))=>guard (!qaf n 0) (some (f.type,.var a.block (qaz a.off f.offset)))
    |_=>none)
   (match x with
    |.var b o=>guard (!qaf n 0) (some (f.type,.var b (qaz o f.offset)))
    |.val (.agg ⟨cs⟩)=>aj (part P f.type cs f.offset) fun v=>some (f.type,.val v)
    |_=>none)
def follow (P:Program)(s:St):List FieldStep→TypeId→Pl→Option (TypeId × Pl):=fun l=>
 List.rec (fun t x=>some (t,x)) (fun st _ ih t x=>aj (abU P s st t x) fun r=>ih r.1 r.2) l
def receiver (P:Program)(s:St)(xt:TypeId)(x:Pl)(pr:Bool):Option Value:=
 match P.underlying xt with
 |some (.pointer elem)=>sel pr (x.get P s xt)
   (match x.get P s xt with
    |some (.pointer (some a))=>load P s elem a.block a.off
    |_=>none)
 |some _=>match x with
  |.var b o=>sel pr (some (ptr b o)) (x.get P s xt)
  |.val v=>sel pr none (some v)
 |none=>none
def BQ (P:Program)(t:TypeId)(name:String):Option Method:=(P.info? t).bind (fun i=>i.methods.toList.find? (·.name == name))
def method (P:Program)(s:St)(t:TypeId)(v:Value)(name:String):Option (FuncId × Value):=
 aj (BQ P t name) fun m=>aj (follow P s m.path.toList t (.val v)) fun r=>
  Option.casesOn m.func none fun q=>aj (receiver P s r.1 r.2 q.2) fun v=>some (q.1,v)
def handle (P:Program)(t:TypeId):Value:=.pointer (some ⟨P.globals.size,t,none⟩)
def ofHandle (P:Program)(v:Value):Option TypeId:=
 match v with
 |.pointer (some a)=>guard (qaf a.block P.globals.size) (some a.off)
 |_=>none
def missing (P:Program)(iface:TypeId)(t:TypeId):Bool:=
 match P.underlying iface,P.info? t with
 |some (.interface want),some i=>want.toList.any fun w=>!(i.methods.toList.any fun m=>m.name == w.1&&m.sig == w.2)
 |_,_=>true
def isIface (P:Program)(t:TypeId):Bool:=
 match P.underlying t with
 |some (.interface _)=>true
 |_=>false
def aeb (x y c:Nat)(s:St):Option (Value × St):=
 guard (qah c 1) (some (.tuple #[.int .u64 (qag (qaJ (qaz (qaz x y) c) aC)),.int .u64 (qag (qa8 (qaz (qaz x y) c) aC))],s))
def ac1 (x y c:Nat)(s:St):Option (Value × St):=
 guard (qah c 1) (some (.tuple #[.int .u64 (qag (qaJ (qaF (qaF (qaz x aC) y) c) aC)),.int .u64 (sel (ltN x (qaz y c)) 1 0)],s))
def atq (args:List Value)(k:Nat→Nat→Nat→Option (Value × St)):Option (Value × St):=
 match args with
 |[x,y,c]=>aj (asNat x) fun x=>aj (asNat y) fun y=>aj (asNat c) fun c=>k x y c
 |_=>none
def abY (C:Cfg)(t:TypeId):Value:=.iface C.rtype (.agg #[handle C.P t])
def fC {β:Type}(l:List (Nat × β))(n:Nat):Option β:=List.rec none (fun p _ ih=>sel (qaf p.1 n) (some p.2) ih) l
def awT (l:List (Nat × Nat × Bool))(t u:Nat):Option Bool:=List.rec none (fun p _ ih=>sel (qaf p.1 t&&qaf p.2.1 u) (some p.2.2) ih) l
def akJ (C:Cfg)(l:List (Nat × Unit))(s:St)(args:List Value):Option (Value × St):=
 match args with
 |[.iface t _]=>aj (fC l t) fun _=>some (abY C t,s)
 |_=>none
def asM (C:Cfg)(l:List (Nat × Nat))(s:St)(args:List Value):Option (Value × St):=
 match args with
 |[.agg ⟨[h]⟩]=>aj (ofHandle C.P h) fun t=>aj (fC l t) fun e=>some (abY C e,s)
 |_=>none
def amP (C:Cfg)(args:List Value)(k:TypeId→TypeId→Option (Value × St)):Option (Value × St):=
 match args with
 |[.agg ⟨[h]⟩,.iface r (.agg ⟨[g]⟩)]=>guard (qaf r C.rtype) (aj (ofHandle C.P h) fun t=>aj (ofHandle C.P g) fun u=>k t u)
 |_=>none
def apN (C:Cfg)(l:List (Nat × Nat × Bool))(s:St)(args:List Value):Option (Value × St):=
 amP C args fun t u=>aj (awT l t u) fun b=>some (.bool b,s)
def afH (C:Cfg)(l:List (Nat × Nat))(s:St)(args:List Value):Option (Value × St):=
 match args with
 |[.iface t v]=>aj (fC l t) fun f=>s.new (.row (cellsOf v) t 0) fun id s=>some (.agg ⟨[handle C.P t,ptr id 0,.int .u64 (qag f)]⟩,s)
 |_=>none
def Xo (C:Cfg)(v:Value)(k:TypeId→Addr→Nat→Option (Value × St)):Option (Value × St):=
 match v with
 |.agg ⟨[h,.pointer (some a),.int .u64 f]⟩=>aj (ofHandle C.P h) fun t=>Int.casesOn f (fun f=>k t a f) (fun _=>none)
 |_=>none
def al7 (C:Cfg)(l:List (Nat × Nat))(s:St)(args:List Value):Option (Value × St):=
 match args with
 |[v]=>Xo C v fun t _ f=>aj (fC l t) fun g=>guard (qaf g f) (some (abY C t,s))
 |_=>none
def aw9 (v:Value):Option Bool:=
 match v with
 |.pointer none=>some true
 |.pointer (some _)=>some false
 |_=>none
def aov (C:Cfg)(l:List (Nat × Nat))(s:St)(args:List Value):Option (Value × St):=
 match args with
 |[v]=>Xo C v fun t a f=>aj (fC l t) fun g=>guard (qaf g f) (aj (load C.P s t a.block a.off) fun v=>aj (aw9 v) fun b=>some (.bool b,s))
 |_=>none
def alP (C:Cfg)(l:List (Nat × Nat × Nat × Nat))(s:St)(args:List Value):Option (Value × St):=
 match args with
 |[v]=>Xo C v fun t a f=>aj (fC l t) fun q=>guard (qaf q.1 f) (aj (load C.P s t a.block a.off) fun v=>match v with
  |.pointer (some p)=>some (.agg ⟨[handle C.P q.2.1,.pointer (some p),.int .u64 (qag q.2.2)]⟩,s)
  |_=>none)
 |_=>none
def awy (C:Cfg)(l:List (Nat × Nat × Nat))(s:St)(args:List Value):Option (Value × St):=
 match args with
 |[v,x]=>Xo C v fun t a f=>Xo C x fun u b g=>aj (fC l t) fun q=>guard (qaf t u&&qaf q.1 f&&qaf q.2 g) <|
  aj (load C.P s t b.block b.off) fun v=>aj (store C.P s t a.block a.off (cellsOf v)) fun s=>some (unit,s)
 |_=>none
def am7 (C:Cfg)(l:List (Nat × Nat))(s:St)(args:List Value):Option (Value × St):=
 match args with
 |[h]=>aj (ofHandle C.P h) fun t=>aj (fC l t) fun k=>some (.int .u8 (qag k),s)
 |_=>none
def abQ (s:St)(args:List Value):Option (Value × St):=
 match args with
 |[.slice a la _,.slice b lb _]=>sel (qaf la 0||qaf lb 0||a.isNone||b.isNone) (some (.bool false,s)) none
 |_=>none
def agZ (s:St)(args:List Value):Option (Value × St):=
 match args with
 |[.slice a la ca,.slice b lb cb]=>aj (firstCells s 1 la (.slice a la ca)) fun x=>aj (bytesOf x) fun x=>aj (firstCells s 1 lb (.slice b lb cb)) fun y=>aj (bytesOf y) fun y=>
   some (.int .i64 (sel (zK x y) (-1) (sel (zK y x) 1 0)),s)
 |_=>none
def indexB (c:Nat)(l:List UInt8):Nat→Int:=List.rec (fun _=>-1) (fun b _ ih i=>sel (qaf b.toNat c) (qag i) (ih (qak i))) l
def WO (s:St)(args:List Value):Option (Value × St):=
 match args with
 |[.string b,.int .u8 (.ofNat c)]=>guard (ltN c 256) (some (.int .i64 (indexB c b.data.toList 0),s))
 |_=>none
def yw (C:Cfg)(t:TypeId)(s:St)(args:List Value):Option (Value × St):=
 match args with
 |[.slice (some a) n cap,.int .i64 i,.slice (some v) m _]=>aj (asNat (.int .i64 i)) fun i=>guard (qaf m 1) <| aj (s.cells a.block) fun c=>aj (s.cells v.block) fun d=>aj (size C.P t) fun sz=>
   guard (qaf c.2.1 t&&qaf a.off 0&&qaf (aQ c.1) (qat n sz)&&qah i n && !(qaf c.2.2 0)&&qaf cap aC&&qah ak a.block&&qah ak v.block&&qaf d.2.2 0&&qah 1 (aQ d.1)&&qah 1 sz&&Ae C.P t (qak n)&&qah n 1099511627776) <| aj (takeN sz (eH v.off d.1)) fun new=>guard (rV new&&rV c.1) <|
    some (.slice (some ⟨s.next,0,none⟩) (qak n) aC,{ heap:=(s.heap.set a.block (.row [] t c.2.2)).set s.next (.row (aK (aA (qat i sz) c.1) (aK new (eH (qat i sz) c.1))) t c.2.2),bZ:=s.bZ.set c.2.2 [s.next,a.block],next:=qak s.next })
 |_=>none
def lZ (v:Value):Bool:=
 match v with
 |.bool _|.int _ _|.string _=>true
 |_=>false
def flatAll:List Value→Bool:=fun l=>List.rec true (fun a _ ih=>sel (lZ a) ih false) l
def ahy (v:Value):Bool:=
 match v with
 |.agg cs=>flatAll cs.toList
 |.tuple cs=>flatAll cs.toList
 |v=>lZ v
def yX:List Value→Bool:=fun l=>List.rec true (fun a _ ih=>sel (ahy a) ih false) l
def CS (G:List Value→Option Value)(args:List Value):Option Value:=guard (yX args) (aj (G args) fun v=>guard (ahy v) (some v))
def abM (G:List Value→Option Value)(s:St)(args:List Value):Option (Value × St):=aj (CS G args) fun v=>some (v,s)
def Lh (t:Con)(args:List Value):Bool:=
 match t with
 |.pure G=>(CS G args).isSome
 |_=>false
def mY (C:Cfg)(c:Con)(s:St)(args:List Value):Option (Value × St):=
 match c with
 |.insert t=>yw C t s args
 |.closed ok=>match args with
  |[]=>guard (ok s) (some (.bool true,s))
  |_=>none
 |.fn F=>F s args
 |.pure G=>abM G s args
 |.tree F=>(F s args).run
def VE (C:Cfg)(s:St)(e:Ext)(args:List Value):Option (Value × St):=
 match e with
 |.aqi=>atq args fun x y c=>aeb x y c s
 |.aqM=>atq args fun x y c=>ac1 x y c s
 |.alm l=>akJ C l s args
 |.avL l=>asM C l s args
 |.YC l=>apN C l s args
 |.XG l=>apN C l s args
 |.akq l=>afH C l s args
 |.ara l=>al7 C l s args
 |.asF l=>aov C l s args
 |.ap1 l=>alP C l s args
 |.ayO l=>awy C l s args
 |.aqI l=>am7 C l s args
 |.overlaps=>abQ s args
 |.cmp=>agZ s args
 |.indexByte=>WO s args
 |.alp=>match args with
  |[p]=>some (p,s)
  |_=>none
def H9 (r:Value × St):Option Res:=some (.val r.1 r.2)
def wS (C:Cfg)(s:St)(f:FuncId)(args:List Value):Option Res:=
 Option.casesOn (C.ext f) (guard (C.body f).isSome (some (.call f args s))) fun e=>aj (VE C s e args) H9
def abO (a b:Addr):Bool:=qaf a.block b.block&&qaf a.off b.off&&a.spot.isNone&&b.spot.isNone
def UD (a b:Option Addr):Bool:=Option.casesOn a b.isNone fun a=>Option.casesOn b false fun b=>abO a b
def VI (a b:Option Nat):Bool:=Option.casesOn a b.isNone fun a=>Option.casesOn b false fun b=>qaf a b
def Iu (f:Value→Value→Bool):List Value→List Value→Bool:=fun l=>
 List.rec (fun r=>jB r true (fun _ _=>false)) (fun a _ ih r=>jB r false (fun b t=>sel (f a b) (ih t) false)) l
def apo (g h:Fn):Bool:=
 match g with
 |.func g=>match h with
  |.func h=>qaf g h
  |_=>false
 |_=>false
def VG (f:Value→Value→Bool)(x y:Value):Bool:=
 match x with
 |.bool a=>match y with
  |.bool b=>a == b
  |_=>false
 |.int j a=>match y with
  |.int k b=>gY j k&&eqI a b
  |_=>false
 |.string a=>match y with
  |.string b=>nO a.data.toList b.data.toList
  |_=>false
 |.pointer a=>match y with
  |.pointer b=>UD a b
  |_=>false
 |.slice a n c=>match y with
  |.slice b m d=>UD a b&&qaf n m&&qaf c d
  |_=>false
 |.map a=>match y with
  |.map b=>VI a b
  |_=>false
 |.nilFunc=>match y with
  |.nilFunc=>true
  |_=>false
 |.func g a b=>match y with
  |.func h c d=>apo g h&&Iu f a.toList c.toList&&Iu f b.toList d.toList
  |_=>false
 |.chan a=>match y with
  |.chan b=>VI a b
  |_=>false
 |.complex j a b=>match y with
  |.complex k c d=>KD j&&KD k&&qaf a c&&qaf b d
  |_=>false
 |.float j a=>match y with
  |.float k b=>KD j&&KD k&&qaf a b
  |_=>false
 |.nilIface=>match y with
  |.nilIface=>true
  |_=>false
 |.iface t v=>match y with
  |.iface u w=>qaf t u&&f v w
  |_=>false
 |.agg ⟨a⟩=>match y with
  |.agg ⟨b⟩=>Iu f a b
  |_=>false
 |.tuple ⟨a⟩=>match y with
  |.tuple ⟨b⟩=>Iu f a b
  |_=>false
def Y4:Nat→Value→Value→Bool:=fun n=>Nat.rec (fun _ _=>false) (fun _ ih=>VG ih) n
def Oa (T:List (List Value × Value))(args:List Value):Option Value:=List.rec none (fun p _ ih=>sel (Iu (Y4 4) p.1 args) (some p.2) ih) T
def IZ (v:Value):Bool:=
 match v with
 |.bool _|.int _ _|.string _=>true
 |_=>false
def Pm:List Value→Bool:=fun l=>List.rec true (fun a _ ih=>sel (IZ a) ih false) l
def Hf (v:Value):Bool:=
 match v with
 |.agg ⟨l⟩=>Pm l
 |v=>IZ v
def Ls (es:List MapEntry)(i:Nat)(k:Value):Bool:=Option.casesOn (nth es i) false fun e=>Hf k&&Y4 2 e.key k
def findKey (C:Cfg)(t:TypeId)(k:Value):List MapEntry→Nat→Option (Option (Nat × Value)):=fun l=>
 List.rec (fun _=>some none) (fun e _ ih i=>aj (alk C t k e.key) fun b=>sel b (some (some (i,e.val))) (ih (qak i))) l
def Qz (d:TypeDesc):Bool:=
 match d with
 |.bool|.int _|.string|.pointer _=>true
 |_=>false
def Sr (P:Program)(t:TypeId):Bool:=Option.casesOn (P.underlying t) false Qz
def aa1 (P:Program)(n:Nat):List Field→Bool:=List.rec true (fun f _ ih=>sel (Sr P f.type&&ltN f.offset n) ih false)
def aqo (P:Program)(d:TypeDesc)(k:Value):Bool:=
 match d with
 |.array n e=>match k with
  |.agg ⟨cs⟩=>qah n (aQ cs)&&Sr P e&&Option.casesOn (size P e) false (fun k=>qaf k 1)
  |_=>false
 |.struct fs=>match k with
  |.agg ⟨cs⟩=>aa1 P (aQ cs) fs.toList
  |_=>false
 |d=>Qz d
def arY (C:Cfg)(kt:TypeId)(k:Value)(es:List MapEntry):Option (Option (Nat × Value)):=
 aj (C.P.underlying kt) fun d=>guard (aqo C.P d k) (findKey C kt k es 0)
def WR (s:St)(r:Nat):Option (List MapEntry × Nat):=
 match s.heap.get r with
 |some (.map es c)=>some (es,c)
 |_=>none
def St.put (s:St)(r:Nat)(x:Row):St:={ heap:=s.heap.set r x,bZ:=s.bZ,next:=s.next }
def axA {α:Type}(f:α→α)(l:List α)(n:Nat):List α:=Nat.rec (fun l=>jB l [] (fun a t=>f a::t)) (fun _ ih l=>jB l [] (fun a t=>a::ih t)) n l
def ark (k v:Value)(e:MapEntry):MapEntry:={ key:=k,val:=v,born:=e.born }
def ajG (k:Value)(e:MapEntry):MapEntry:={ key:=k,val:=e.val,born:=e.born }
def ahU (es:List MapEntry)(i:Nat):Nat:=Option.casesOn (nth es i) 0 (·.born)
def TK (s:St)(m:Value)(k:Nat→List MapEntry→Nat→Option Res):Option Res:=
 match m with
 |.map (some r)=>aj (WR s r) fun q=>k r q.1 q.2
 |_=>none
def mapUpdate (C:Cfg)(s:St)(kt:TypeId)(m key val:Value):Option Res:=
 TK s m fun r es c=>aj (arY C kt key es) fun q=>
  Option.casesOn q (ret unit (s.put r (.map (aK es [{ key:=key,val:=val,born:=c }]) (qak c)))) fun p=>guard (Ls es p.1 key) (ret unit (s.put r (.map (axA (ark key val) es p.1) c)))
def GV (P:Program)(t:TypeId):Option Value:=guard (ltN t P.types.size) ((P.info? t).bind (·.zero))
def mapEntry (C:Cfg)(s:St)(kt e:TypeId)(m key:Value):Option Res:=
 TK s m fun r es c=>aj (arY C kt key es) fun q=>
  Option.casesOn q (aj (GV C.P e) fun z=>ret (.tuple #[z,i64 c]) (s.put r (.map (aK es [{ key:=key,val:=z,born:=c }]) (qak c))))
   fun p=>guard (Ls es p.1 key) (ret (.tuple #[p.2,i64 (ahU es p.1)]) (s.put r (.map (axA (ajG key) es p.1) c)))
def lookup (C:Cfg)(s:St)(t:TypeId)(m key:Value)(ok:Bool):Option Res:=
 match C.P.underlying t with
 |some (.map kt e)=>
  aj (match m with
   |.map none=>arY C kt key []
   |.map (some r)=>aj (WR s r) fun q=>arY C kt key q.1
   |_=>none) fun q=>Option.casesOn q (aj (GV C.P e) fun z=>ret (sel ok (.tuple #[z,.bool false]) z) s) fun p=>ret (sel ok (.tuple #[p.2,.bool true]) p.2) s
 |_=>none
def aAQ (P:Program)(t:TypeId):Option Nat:=
 match P.underlying t with
 |some (.array n _)=>some n
 |_=>none
def avU (P:Program)(s:St)(t:TypeId)(v:Value):Option Res:=
 match P.underlying t with
 |some .string=>match v with
  |.string b=>ret (i64 (aQ b.data.toList)) s
  |_=>none
 |some (.slice _)=>match v with
  |.slice _ n _=>ret (i64 n) s
  |.float _ n=>ret (i64 n) s
  |.complex k lo hi=>guard (!KD k) (ret (.complex .f64 lo hi) s)
  |_=>none
 |some (.map _ _)=>match v with
  |.map none=>ret (i64 0) s
  |.map (some r)=>aj (WR s r) fun q=>ret (i64 (aQ q.1)) s
  |_=>none
 |some (.array n _)=>ret (i64 n) s
 |some (.pointer a)=>aj (aAQ P a) fun n=>ret (i64 n) s
 |_=>none
def axp (P:Program)(s:St)(t:TypeId)(v:Value):Option Res:=
 match P.underlying t with
 |some (.slice _)=>match v with
  |.slice _ _ c=>guard (ltN c bf) (ret (i64 c) s)
  |_=>none
 |_=>none
def ahK (P:Program)(s:St)(t:TypeId)(d x:Value):Option Res:=
 match P.underlying t with
 |some (.slice e)=>match d with
  |.slice base dLen _=>aj (lenOf x) fun sl=>aj (size P e) fun sz=>aj (firstCells s sz (sel (qah sl dLen) sl dLen) x) fun new=>
    sel (qaf (sel (qah sl dLen) sl dLen) 0) (ret (i64 0) s)
     (Option.casesOn base none fun a=>aj (storeCells s a.block a.off new) fun s=>ret (i64 (sel (qah sl dLen) sl dLen)) s)
  |_=>none
 |_=>none
def aji (P:Program)(s:St)(t:TypeId)(d:Value):Option Res:=
 guard (P.underlying t).isSome <| match d with
 |.slice base n _=>sel (qaf n 0) (ret unit s) (Option.casesOn base (ret unit s) fun a=>
   match P.underlying t with
   |some (.slice e)=>aj (zero P e) fun z=>guard (qah 1 (aQ z)) (aj (storeCells s a.block a.off (repeatL n z)) fun s=>ret unit s)
   |_=>none)
 |_=>none
def Ew (mx:Bool)(s:St)(x y:Value):Option Res:=
 match x with
 |.int k a=>match y with
  |.int _ b=>ret (.int k (sel (sel mx (ltI a b) (ltI b a)) b a)) s
  |_=>none
 |_=>none
def Hw (s:St)(x:Value):Option Res:=
 match x with
 |.slice none _ _=>ret (.pointer none) s
 |.slice (some a) _ c=>guard (a.spot.isNone && !qaf a.block fP) (sel (ltN c bf) (guard (qah 1 c) (ret (.pointer (some a)) s))
   (aj (s.cells a.block) fun d=>guard (qaf c aC&&(!qaf d.2.2 0&&qah 1 (aQ d.1))) (ret (.pointer (some a)) s)))
 |_=>none
def killed (s:St)(b f:Nat):St:={ heap:=s.heap.set b .other,bZ:=sel (qaf f 0) s.bZ (s.bZ.set f []),next:=s.next }
def aaY (P:Program)(s:St)(t:TypeId)(x y:Value):Option Res:=
 match x with
 |.pointer none=>match y with
  |.int .i64 n=>guard (eqI n 0) (ret (.string ⟨⟨[]⟩⟩) s)
  |_=>none
 |.pointer (some a)=>match y with
  |.int .i64 n=>aj (asNat (.int .i64 n)) fun n=>aj (s.cells a.block) fun c=>match P.underlying t with
   |some (.pointer e)=>guard (qaf e c.2.1&&(qah 1 n&&(qah n 140737488355328&&qah ak a.block))) <| aj (size P e) fun k=>guard (qaf k 1) <|
     aj (takeN n (eH a.off c.1)) fun l=>aj (bytesOf l) fun bs=>some (.val (.string ⟨⟨bs⟩⟩) (killed s a.block c.2.2))
   |_=>none
  |_=>none
 |_=>none
def builtin (C:Cfg)(s:St)(b:Builtin)(T T2:Option TypeId)(args:List Value):Option Res:=
 match args with
 |[x]=>match b with
  |.len=>aj T fun t=>avU C.P s t x
  |.cap=>aj T fun t=>axp C.P s t x
  |.clear=>aj T fun t=>aji C.P s t x
  |.unsafeSliceData=>Hw s x
  |_=>none
 |[x,y]=>match b with
  |.append=>aj T fun t=>aj (append C.P s t T2 x y) H9
  |.copy=>aj T fun t=>ahK C.P s t x y
  |.min=>Ew false s x y
  |.max=>Ew true s x y
  |.unsafeString=>aj T fun t=>aaY C.P s t x y
  |_=>none
 |_=>none
def callMethod (C:Cfg)(s:St)(t:TypeId)(v:Value)(name:String)(args:List Value):Option Res:=
 aj (method C.P s t v name) fun q=>wS C s q.1 (q.2::args)
def NV (C:Cfg)(s:St)(t:TypeId)(path:List FieldStep)(f:FuncId)(pr:Bool)(args:List Value):Option Res:=
 match args with
 |x::rest=>aj (follow C.P s path t (.val x)) fun r=>aj (receiver C.P s r.1 r.2 pr) fun v=>wS C s f (v::rest)
 |[]=>none
def callName (C:Cfg)(s:St)(name:String)(args:List Value):Option Res:=
 match args with
 |.iface t v::rest=>callMethod C s t v name rest
 |_=>none
def acp (C:Cfg)(s:St)(fn:Fn)(first captured args:List Value):Option Res:=
 match fn with
 |.func f=>wS C s f (aK first (aK args captured))
 |.yield l=>some (.yield l (aK first args) s)
 |.method name=>callName C s name (aK first args)
 |.methodOf _ _=>none
 |.via t path f pr=>NV C s t path.toList f pr (aK first args)
def invoke (C:Cfg)(s:St)(f:Value)(args:List Value):Option Res:=
 match f with
 |.func fn first captured=>acp C s fn first.toList captured.toList args
 |_=>none
def YT (ev:Ev)(x:Option Operand)(k:Option Value→Option Res):Option Res:=
 Option.casesOn x (k none) fun x=>aj (ev x) fun v=>k (some v)
def evs (ev:Ev):List Operand→Option (List Value):=fun l=>List.rec (some []) (fun x _ ih=>aj (ev x) fun v=>aj ih fun r=>some (v::r)) l
def yG (ev:Ev):List (Nat × Operand)→Option (List (Nat × Value)):=fun l=>List.rec (some []) (fun x _ ih=>aj (ev x.2) fun v=>aj ih fun r=>some ((x.1,v)::r)) l
def AZ (C:Cfg)(ev:Ev)(s:St)(x:Operand):Option Res:=aj (ev x) fun v=>ret v s
def abb (C:Cfg)(ev:Ev)(s:St)(c a b:Operand):Option Res:=
 aj (ev c) fun v=>match v with
  |.bool c=>sel c (AZ C ev s a) (AZ C ev s b)
  |_=>none
def akt (C:Cfg)(s:St)(t:TypeId):Option Res:=aj (zero C.P t) fun z=>s.new (.row z t 0) fun id s=>ret (ptr id 0) s
def atp (C:Cfg)(ev:Ev)(s:St)(t:TypeId)(x:Operand):Option Res:=aj (ev x) fun v=>s.new (.row (cellsOf v) t 0) fun id s=>ret (ptr id 0) s
def avD (P:Program)(fs:List Field)(i:Nat):Option (Nat × Nat):=aj (nth fs i) fun f=>aj (size P f.type) fun n=>some (f.offset,n)
def JF (n i:Nat):Option (Nat × Nat):=some (qat i n,n)
def aoM (P:Program)(t:TypeId):Option (Nat→Option (Nat × Nat)):=
 match P.underlying t with
 |some (.struct fs)=>some (avD P fs.toList)
 |some (.array _ e)=>aj (size P e) fun n=>some (JF n)
 |_=>none
def SB (C:Cfg)(ev:Ev)(s:St)(t:TypeId)(parts:Array (Nat × Operand)):Option Res:=
 aj (aoM C.P t) fun pl=>aj (yG ev parts.toList) fun ps=>aj (zero C.P t) fun z=>aj (fill pl ps z) fun l=>ret (FY l) s
def qN (C:Cfg)(ev:Ev)(s:St)(t:TypeId)(len:Nat)(parts:Array (Nat × Operand)):Option Res:=
 match C.P.underlying t with
 |some (.slice e)=>aj (size C.P e) fun n=>aj (zero C.P e) fun z=>guard (qaf (aQ z) n&&qah 1 n&&qah (qat len n) 16777216) <| aj (yG ev parts.toList) fun ps=>
   aj (fill (JF n) ps (repeatL len z)) fun l=>s.new (.row l e 0) fun id s=>ret (.slice (some ⟨id,0,none⟩) len len) s
 |_=>none
def xg (ev:Ev)(a:Operand)(k:Addr→Option Res):Option Res:=
 aj (ev a) fun v=>match v with
  |.pointer (some a)=>k a
  |_=>none
def aaw (C:Cfg)(ev:Ev)(s:St)(t:TypeId)(a:Operand):Option Res:=
 xg ev a fun a=>aj (load C.P s t a.block a.off) fun v=>ret v s
def JU (C:Cfg)(ev:Ev)(s:St)(t:TypeId)(a x:Operand):Option Res:=
 xg ev a fun a=>aj (ev x) fun v=>aj (store C.P s t a.block a.off (cellsOf v)) fun s=>ret unit s
def TM (P:Program)(t:TypeId)(w:Value)(name:String):Bool:=
 match BQ P t name with
 |none=>false
 |some m=>sel m.path.isEmpty (match m.func,P.underlying t,w with
  |some (_,true),_,_=>true
  |some (_,false),some (.pointer _),.pointer (some _)=>true
  |some (_,false),some (.pointer _),_=>false
  |some (_,false),some _,_=>true
  |_,_,_=>false) false
def aes (C:Cfg)(fn:Fn)(first:List Value):Bool:=
 match fn with
 |.method name=>match first with
  |.iface t w::_=>TM C.P t w name
  |_=>false
 |_=>true
def Aj (C:Cfg)(ev:Ev)(s:St)(x:Operand):Option Res:=
 aj (ev x) fun v=>match v with
  |.pointer (some a)=>ret v s
  |.func fn first _=>guard (aes C fn first.toList) (ret v s)
  |.iface _ _=>ret v s
  |_=>none
def ap6 (C:Cfg)(ev:Ev)(s:St)(op:BinOp)(t:TypeId)(x y:Operand):Option Res:=
 aj (ev x) fun a=>aj (ev y) fun b=>guard (rO C t x y a b) (aj (binOp C t op a b) fun v=>ret v s)
def oUn (C:Cfg)(ev:Ev)(s:St)(op:UnOp)(x:Operand):Option Res:=
 aj (ev x) fun x=>aj (unOp op x) fun v=>ret v s
def akg (l:List (Nat × Nat × Nat × Nat))(e n o u:Nat):Bool:=List.rec false (fun p _ ih=>sel (qaf p.1 e&&(qaf p.2.1 n&&(qaf p.2.2.1 o&&qaf p.2.2.2 u))) true ih) l
def ptrTo (C:Cfg)(src:TypeId)(o:Nat)(c:List Value × TypeId × Nat)(x:Value):Option Value:=
 match C.P.underlying src with
 |some (.pointer t)=>aj (size C.P t) fun n=>guard (qah 1 n&&ltN o (aQ c.1)) (some x)
 |_=>none
def ajx (C:Cfg)(src u:TypeId)(o:Nat)(c:List Value × TypeId × Nat)(x:Value):Option Value:=
 match C.P.underlying src with
 |some .unsafePointer=>guard (akg C.lies c.2.1 (aQ c.1) o u&&(C.P.info? u).isSome) (some x)
 |_=>none
def Ei (C:Cfg)(s:St)(src dst:TypeId)(x:Value):Option Value:=
 match x with
 |.pointer (some a)=>aj (s.cells a.block) fun c=>guard (qaf c.2.2 0) (match C.P.underlying dst with
  |some .unsafePointer=>ptrTo C src a.off c x
  |some (.pointer u)=>ajx C src u a.off c x
  |_=>none)
 |_=>none
def jY (C:Cfg)(ev:Ev)(s:St)(src dst:TypeId)(x:Operand):Option Res:=
 aj (ev x) fun x=>Option.casesOn (Ei C s src dst x) (aj (convert C.P s src dst x) H9) fun v=>ret v s
def Zo (C:Cfg)(ev:Ev)(s:St)(t:TypeId)(x:Operand):Option Res:=
 guard (!isIface C.P t&&(C.P.underlying t).isSome) (aj (ev x) fun x=>ret (.iface t x) s)
def Ov (fn:Fn):Bool:=
 match fn with
 |.yield _=>false
 |_=>true
def aks (C:Cfg)(ev:Ev)(s:St)(fn:Fn)(first captured:Array Operand):Option Res:=
 guard (Ov fn) <| aj (evs ev first.toList) fun a=>aj (evs ev captured.toList) fun b=>ret (.func fn ⟨a⟩ ⟨b⟩) s
def isMap (P:Program)(t:TypeId):Bool:=
 match P.underlying t with
 |some (.map _ _)=>true
 |_=>false
def FH (C:Cfg)(ev:Ev)(s:St)(t:TypeId)(r:Option Operand):Option Res:=
 Option.casesOn r (s.new (.map [] 0) fun id s=>ret (.map (some id)) s) fun x=>guard (isMap C.P t) <| aj (ev x) fun v=>aj (asNat v) fun _=>s.new (.map [] 0) fun id s=>ret (.map (some id)) s
def nR (C:Cfg)(ev:Ev)(s:St)(t:TypeId)(l c:Operand):Option Res:=
 match C.P.underlying t with
 |some (.slice e)=>aj (ev l) fun l=>aj (asNat l) fun l=>aj (ev c) fun c=>aj (asNat c) fun c=>aj (C.P.info? e) fun i=>aj (zero C.P e) fun z=>
   guard (qaf (aQ z) i.size&&qah 1 i.size&&qah l c&&qah c 100000&&qah (qat i.bytes c) 281474976710656) (s.new (.row (repeatL c z) e 0) fun id s=>ret (.slice (some ⟨id,0,none⟩) l c) s)
 |_=>none
def Kw (C:Cfg)(ev:Ev)(s:St)(t:TypeId)(x:Operand)(lo hi mx:Option Operand):Option Res:=
 aj (ev x) fun x=>YT ev lo fun lo=>YT ev hi fun hi=>YT ev mx fun mx=>aj (Le C.P s t x lo hi mx) H9
def yc (C:Cfg)(ev:Ev)(s:St)(t:TypeId)(x:Operand)(i:Nat):Option Res:=
 xg ev x fun a=>aj (fieldInfo C.P t i) fun f=>aj (size C.P f.type) fun n=>guard (!qaf n 0) (ret (ptr a.block (qaz a.off f.offset)) s)
def Xn (C:Cfg)(ev:Ev)(s:St)(t:TypeId)(x:Operand)(i:Nat):Option Res:=
 aj (ev x) fun x=>match x with
  |.agg cs=>aj (fieldInfo C.P t i) fun f=>aj (part C.P f.type cs.toList f.offset) fun v=>ret v s
  |_=>none
def Em (C:Cfg)(s:St)(e:TypeId)(len i:Nat)(a:Addr):Option Res:=
 guard (ltN i len) (aj (size C.P e) fun n=>ret (ptr a.block (qaz a.off (qat i n))) s)
def kN (C:Cfg)(ev:Ev)(s:St)(t:TypeId)(x i:Operand):Option Res:=
 aj (ev x) fun x=>aj (ev i) fun i=>aj (asNat i) fun i=>match C.P.underlying t with
  |some (.slice e)=>match x with
   |.slice (some a) len _=>Em C s e len i a
   |_=>none
  |some (.array len e)=>match x with
   |.pointer (some a)=>Em C s e len i a
   |_=>none
  |_=>none
def ZC (C:Cfg)(ev:Ev)(s:St)(t:TypeId)(x i:Operand):Option Res:=
 aj (ev x) fun x=>aj (ev i) fun i=>aj (asNat i) fun i=>match x with
  |.agg cs=>match C.P.underlying t with
   |some (.array len e)=>guard (ltN i len) (aj (size C.P e) fun n=>aj (part C.P e cs.toList (qat i n)) fun v=>ret v s)
   |_=>none
  |.string b=>match C.P.underlying t with
   |some .string=>aj (nth b.data.toList i) fun c=>ret (.int .u8 (qag c.toNat)) s
   |_=>none
  |_=>none
def OW (C:Cfg)(ev:Ev)(s:St)(t:TypeId)(m k:Operand)(ok:Bool):Option Res:=
 aj (ev m) fun m=>aj (ev k) fun k=>lookup C s t m k ok
def wR (C:Cfg)(ev:Ev)(s:St)(t:TypeId)(m k x:Operand):Option Res:=
 match C.P.underlying t with
 |some (.map kt _)=>aj (ev m) fun m=>aj (ev k) fun k=>aj (ev x) fun x=>mapUpdate C s kt m k x
 |_=>none
def QF (C:Cfg)(ev:Ev)(s:St)(t:TypeId)(m k:Operand):Option Res:=
 match C.P.underlying t with
 |some (.map kt e)=>aj (ev m) fun m=>aj (ev k) fun k=>mapEntry C s kt e m k
 |_=>none
def anE.azN (o:anE):Option abt:=
 match o with
 |.loop _=>none
 |.iter r=>some r
def Vm (s:St)(l:Nat):Option abt:=
 match s.heap.get l with
 |some (.loop r)=>r.azN
 |_=>none
def NS (s:St)(m:Nat):Option (List MapEntry × Nat):=
 match s.heap.get m with
 |some (.map es c)=>some (es,c)
 |_=>none
def leftOf (seen:List Nat):List MapEntry→List MapEntry:=fun l=>List.rec [] (fun e _ ih=>sel (yT e.born seen) ih (e::ih)) l
def acg (k:Nat):List MapEntry→Bool:=fun l=>List.rec true (fun e _ ih=>sel (qah k e.born) ih false) l
def aea {α:Type}(l:List α):Bool:=jB l true fun _ _=>false
def aq4:List Nat→Option Nat:=fun l=>List.rec none (fun a _ ih=>Option.casesOn ih (some a) some) l
def MZ (k:Nat):List MapEntry→Option MapEntry:=fun l=>List.rec none (fun e _ ih=>sel (qaf e.born k) (some e) ih) l
def Q5 (C:Cfg)(ev:Ev)(s:St)(t:TypeId)(x:Operand):Option Res:=
 guard (isMap C.P t) <| aj (ev x) fun v=>match v with
  |.map (some m)=>aj (NS s m) fun q=>s.new (.loop (.iter { map:=m,since:=q.2,seen:=[],stepped:=q.2 })) fun id s=>ret (ptr id 0) s
  |_=>none
def acU (s:St)(b:Nat)(r:abt)(q:List MapEntry × Nat):Option Res:=
 guard (aea r.seen||aea q.1 || !acg r.stepped q.1) <| jB (leftOf r.seen q.1) (ret (.tuple ⟨[.bool false]⟩) s) fun e rest=>
  guard (aea rest&&ltN e.born r.since) (ret (.tuple ⟨[.bool true,e.key,e.val]⟩) { heap:=s.heap.set b (.loop (.iter { map:=r.map,since:=r.since,seen:=aK r.seen [e.born],stepped:=q.2 })),bZ:=s.bZ,next:=s.next })
def afm (C:Cfg)(ev:Ev)(s:St)(x:Operand)(str:Bool):Option Res:=
 guard (!str) <| aj (ev x) fun v=>match v with
  |.pointer (some a)=>guard (qaf a.off 0) <| aj (Vm s a.block) fun r=>aj (NS s r.map) fun q=>acU s a.block r q
  |_=>none
def uo (C:Cfg)(ev:Ev)(s:St)(x:Operand):Option Res:=
 aj (ev x) fun v=>match v with
  |.pointer (some a)=>guard (qaf a.off 0) <| aj (Vm s a.block) fun r=>aj (aq4 r.seen) fun k=>aj (NS s r.map) fun q=>guard (qaf q.2 r.stepped) <| aj (MZ k q.1) fun e=>ret (.tuple ⟨[e.key,e.val]⟩) s
  |_=>none
def uw (C:Cfg)(s:St)(asserted:TypeId)(ok:Bool):Option Res:=
 guard ok (aj (GV C.P asserted) fun z=>ret (.tuple #[z,.bool false]) s)
def Ce (s:St)(v:Value)(ok:Bool):Option Res:=ret (sel ok (.tuple #[v,.bool true]) v) s
def LJ (C:Cfg)(ev:Ev)(s:St)(x:Operand)(asserted:TypeId)(ok:Bool):Option Res:=
 guard (C.P.underlying asserted).isSome <| aj (ev x) fun x=>match x with
  |.nilIface=>uw C s asserted ok
  |.iface t y=>sel (isIface C.P asserted) (guard (C.P.info? t).isSome <| sel (missing C.P asserted t) (uw C s asserted ok) (Ce s x ok))
    (sel (qaf t asserted) (Ce s y ok) (uw C s asserted ok))
  |_=>none
def ET (C:Cfg)(ev:Ev)(s:St)(x:Operand)(i:Nat):Option Res:=
 aj (ev x) fun x=>match x with
  |.tuple vs=>aj (nth vs.toList i) fun v=>ret v s
  |_=>none
def Bq (C:Cfg)(ev:Ev)(s:St)(c:Call):Option Res:=
 aj (evs ev c.args.toList) fun args=>match c.callee with
  |.builtin b=>builtin C s b (nth c.argTypes.toList 0) (nth c.argTypes.toList 1) args
  |.value f=>aj (ev f) fun f=>invoke C s f args
  |.invoke r name=>aj (ev r) fun r=>callName C s name (r::args)
def Ku (C:Cfg)(ev:Ev)(s:St)(c:Call):Option Res:=
 match c.callee with
 |.value f=>aj (ev f) fun f=>match f with
  |.func (.func f) first captured=>aj (evs ev c.args.toList) fun args=>some (.defer f (aK first.toList (aK args captured.toList)) s)
  |_=>none
 |_=>none
def awJ (C:Cfg)(ev:Ev)(s:St)(arr:TypeId)(x:Operand):Option Res:=
 aj (ev x) fun x=>match C.P.underlying arr,x with
  |some (.array n _),.slice a len _=>guard (qah 1 n&&qah n len) (ret (.pointer a) s)
  |_,_=>none
def execOp (C:Cfg)(ev:Ev)(s:St)(o:Op):Option Res:=
 match o with
 |.move x=>AZ C ev s x
 |.assign x=>AZ C ev s x
 |.pick c a b=>abb C ev s c a b
 |.alloc t=>akt C s t
 |.box t x=>atp C ev s t x
 |.build t parts=>SB C ev s t parts
 |.buildSlice t len parts=>qN C ev s t len parts
 |.load t a=>aaw C ev s t a
 |.store t a x=>JU C ev s t a x
 |.nilCheck x=>Aj C ev s x
 |.binOp op t x y _=>ap6 C ev s op t x y
 |.unOp op _ x=>oUn C ev s op x
 |.convert src dst x=>jY C ev s src dst x
 |.makeInterface t x=>Zo C ev s t x
 |.makeFunc fn first captured=>aks C ev s fn first captured
 |.makeMap t r=>FH C ev s t r
 |.makeSlice t l c=>nR C ev s t l c
 |.slice t x lo hi mx=>Kw C ev s t x lo hi mx
 |.fieldAddr t x f=>yc C ev s t x f
 |.field t x f=>Xn C ev s t x f
 |.indexAddr t x i=>kN C ev s t x i
 |.index t x i=>ZC C ev s t x i
 |.lookup t m k ok=>OW C ev s t m k ok
 |.mapUpdate t m k x=>wR C ev s t m k x
 |.insert t m k x=>wR C ev s t m k x
 |.mapEntry t m k=>QF C ev s t m k
 |.range t x=>Q5 C ev s t x
 |.next x str=>afm C ev s x str
 |.entry x=>uo C ev s x
 |.typeAssert x _ asserted ok=>LJ C ev s x asserted ok
 |.extract x i=>ET C ev s x i
 |.call c=>Bq C ev s c
 |.defer c=>Ku C ev s c
 |.sliceToArrayPointer arr x=>awJ C ev s arr x
 |_=>none
def nN (t:Nat):List (Nat × Value)→Option Value:=fun l=>List.rec none (fun p _ ih=>sel (qaf p.1 t) (some p.2) ih) l
def Fr.ev (n:Nat)(fr:Fr)(x:Operand):Option Value:=
 match x with
 |.tmp t=>sel (ltN t n) (fr.vars.get t) (nN t fr.loc)
 |.const v=>some v
 |.global g=>some (ptr g 0)
 |.func f=>some (.func (.func f) #[] #[])
def Fr.put (n:Nat)(fr:Fr)(dst:Option Tmp)(v:Value):Fr:=
 Option.casesOn dst fr fun d=>sel (ltN d n) { vars:=fr.vars.set d v,loc:=fr.loc,defers:=fr.defers } { vars:=fr.vars,loc:=(d,v)::fr.loc,defers:=fr.defers }
def Fr.fresh (fr:Fr):Fr:={ vars:=fr.vars,loc:=[],defers:=fr.defers }
def isBool (w:Bool)(v:Value):Bool:=
 match v with
 |.bool b=>b == w
 |_=>false
def jW (n:Nat)(ops:List Oper)(fr:Fr)(g:Option (Nat × Bool)):Option Bool:=
 Option.casesOn g (some true) fun g=>aj (nth ops g.1) fun o=>aj o.dst fun d=>aj (Fr.ev n fr (.tmp d)) fun v=>some (isBool g.2 v)
abbrev gX:=FuncId→List Value→St→Option (Value × St)
abbrev dS:=Nat→List Value→St→Option (Value × St)
abbrev aaP:=Fr→St→Option (Fr × St)
def qI (call:gX)(yield:dS)(rd:Bool)(n:Nat)(fr:Fr)(dst:Option Tmp)(k:aaP)(r:Res):Option (Fr × St):=
 match r with
 |.val v s=>k (fr.put n dst v) s
 |.call f args s=>aj (call f args s) fun q=>k (fr.put n dst q.1) q.2
 |.yield l args s=>aj (yield l args s) fun q=>k (fr.put n dst q.1) q.2
 |.defer f args s=>sel rd none (k (Fr.put n { vars:=fr.vars,loc:=fr.loc,defers:=(f,args)::fr.defers } dst unit) s)
def an1 (C:Cfg)(call:gX)(yield:dS)(rd:Bool)(n:Nat)(all:List Oper)(o:Oper)(k:aaP)(fr:Fr)(s:St):Option (Fr × St):=
 aj (jW n all fr o.guard) fun g=>sel g (aj (execOp C (fr.ev n) s o.op) (qI call yield rd n fr o.dst k)) (k (fr.put n o.dst unit) s)
def qG (C:Cfg)(call:gX)(yield:dS)(rd:Bool)(n:Nat)(all:List Oper)(ops:List Oper):aaP:=
 List.rec (fun fr s=>some (fr,s)) (fun o _ ih=>an1 C call yield rd n all o ih) ops
def ale (f:Value→Bool):List Value→Bool:=fun l=>List.rec true (fun a _ ih=>sel (f a) ih false) l
def adL (f:Value→Bool)(v:Value):Bool:=
 match v with
 |.bool _|.int _ _|.string _|.nilFunc|.nilIface=>true
 |.pointer a=>a.isNone
 |.slice a _ _=>a.isNone
 |.map a=>a.isNone
 |.iface _ v=>f v
 |.agg ⟨l⟩=>ale f l
 |.tuple ⟨l⟩=>ale f l
 |.func (.func _) ⟨a⟩ ⟨b⟩=>ale f a&&ale f b
 |_=>false
def ZU:Nat→Value→Bool:=fun n=>Nat.rec (fun _=>false) (fun _ ih=>adL ih) n
def Jk (x:Operand):Bool:=
 match x with
 |.const v=>ZU 5 v
 |.global g=>ltN g eU
 |_=>true
def Oz:List Operand→Bool:=fun l=>List.rec true (fun a _ ih=>sel (Jk a) ih false) l
def WL (nt:Nat)(d:Option Tmp):Bool:=Option.casesOn d true fun d=>ltN d nt
def cls (o:Op):Nat:=
 match o with
 |.move _|.assign _|.pick ..|.build ..|.field ..|.fieldAddr ..|.indexAddr ..|.index ..|.binOp ..|.unOp ..|.makeInterface ..|.makeFunc ..|.nilCheck _|.typeAssert ..|.extract ..|.sliceToArrayPointer ..=>0
 |.load ..|.lookup ..|.slice ..|.convert ..=>1
 |.alloc _|.box ..|.buildSlice ..|.makeSlice ..=>2
 |.call c=>match c.callee with
  |.builtin b=>match b with
   |.len|.cap|.min|.max=>1
   |_=>3
  |_=>3
 |_=>3
def apD (x:Option Operand)(l:List Operand):List Operand:=Option.casesOn x l fun x=>x::l
def eP (o:Op):List Operand:=
 match o with
 |.move x|.assign x|.nilCheck x=>[x]
 |.pick c a b=>[c,a,b]
 |.box _ x=>[x]
 |.build _ parts=>zO (fun p=>p.2) parts.toList
 |.buildSlice _ _ parts=>zO (fun p=>p.2) parts.toList
 |.load _ a=>[a]
 |.store _ a x=>[a,x]
 |.binOp _ _ x y _=>[x,y]
 |.unOp _ _ x=>[x]
 |.convert _ _ x=>[x]
 |.makeInterface _ x=>[x]
 |.makeFunc _ a b=>aK a.toList b.toList
 |.makeMap _ r=>apD r []
 |.makeSlice _ l c=>[l,c]
 |.slice _ x lo hi mx=>x::apD lo (apD hi (apD mx []))
 |.fieldAddr _ x _|.field _ x _=>[x]
 |.indexAddr _ x i|.index _ x i=>[x,i]
 |.lookup _ m k _=>[m,k]
 |.mapUpdate _ m k x=>[m,k,x]
 |.insert _ m k x=>[m,k,x]
 |.mapEntry _ m k=>[m,k]
 |.range _ x|.next x _|.entry x=>[x]
 |.typeAssert x _ _ _=>[x]
 |.extract x _=>[x]
 |.call c|.defer c=>match c.callee with
  |.builtin _=>c.args.toList
  |.value f=>f::c.args.toList
  |.invoke r _=>r::c.args.toList
 |.sliceToArrayPointer _ x=>[x]
 |_=>[]
def Jr (nt:Nat)(o:Oper):Bool:=WL nt o.dst&&Oz (eP o.op)
def sG (nt:Nat):List Oper→Bool:=fun l=>List.rec true (fun a _ ih=>sel (Jr nt a) ih false) l
def I7 (nt:Nat):List Nat→Bool:=fun l=>List.rec true (fun a _ ih=>sel (ltN a nt) ih false) l
def qg (nt:Nat)(c:Code):Bool:=
 Code.rec (motive:=fun _=>Bool) true (fun _ ops _=>sG nt ops.toList) (fun _ _ a b=>sel a b false) (fun c _ _ a b=>sel (Jk c) (sel a b false) false) (fun _ _ a=>a) (fun _ a=>a)
  (fun f ps _ _ a b=>sel (Jk f&&I7 nt ps.toList) (sel a b false) false) (fun _=>true) (fun _ a=>a) (fun _=>true) (fun _=>true) true (fun _=>true) c
def Ro (e:Edge):Bool:=
 match e.ground with
 |.textOnly _=>false
 |.gcOnly _=>false
 |_=>true
def dY (m j:Nat):Bool:=qaf (qaJ (qa8 m (qa4 2 j)) 2) 1
def Eu (m j:Nat):Nat:=qbe m (qa4 2 j)
def aqm (l:List Nat)(i:Nat):Nat:=Option.casesOn (nth l i) 0 id
def Aw (acc:List Nat):List Edge→Nat:=fun l=>
 List.rec 0 (fun e _ m=>sel (Ro e) (qbe (Eu m e.on) (aqm acc e.on)) m) l
def Fa (i:Nat):List Edge→Bool:=fun l=>List.rec true (fun e _ ih=>sel (Ro e) (sel (qah (qak e.on) i) ih false) ih) l
def Y3 (x:Operand)(m:Nat):Nat:=
 match x with
 |.tmp t=>Eu m t
 |_=>m
def IG (m:Nat):List Operand→Nat:=fun l=>List.rec m (fun x _ ih=>Y3 x ih) l
def EK (d:Option Tmp):Nat:=Option.casesOn d 0 fun t=>Eu 0 t
def Nv (all:List Oper)(g:Option (Nat × Bool)):Nat:=Option.casesOn g 0 fun g=>Option.casesOn (nth all g.1) 0 fun o=>EK o.dst
structure Info where
 i:Nat
 op:Oper
 mask:Nat
 cls:Nat
 dst:Nat
 names:Nat
def apc (all:List Oper)(i m:Nat)(o:Oper):Info:={ i:=i,op:=o,mask:=m,cls:=cls o.op,dst:=EK o.dst,names:=qbe (IG (EK o.dst) (eP o.op)) (Nv all o.guard) }
def adB (all:List Oper):List Oper→Nat→List Nat→Option (List Info):=fun l=>
 List.rec (fun _ _=>some []) (fun o _ ih i acc=>guard (Fa i o.after.toList) (aj (ih (qak i) (aK acc [Aw acc o.after.toList])) fun r=>some (apc all i (Aw acc o.after.toList) o::r))) l
def infos (all:List Oper):Option (List Info):=adB all all 0 []
def awg (a b:Nat):Bool:=qaf (qbc a b) 0
def ordered (a b:Info):Bool:=!(awg a.dst b.names&&awg b.dst a.names)||(qah 2 a.cls&&qaf (qaJ b.cls 2) 1)
def QC (a b:Info):Bool:=sel (ordered a b) (dY b.mask a.i) true
def abK:List Info→Bool:=fun l=>List.rec true (fun a t ih=>sel (List.rec true (fun b _ q=>sel (QC a b) q false) t) ih false) l
def ahI:List Info→Nat→Bool:=fun l=>List.rec (fun _=>true) (fun a _ ih m=>sel (dY m a.i) false (ih (Eu m a.i))) l
def loud (i:Nat)(a:Info):Info:=sel (qah 1000 i) { i:=a.i,op:=a.op,mask:=a.mask,cls:=3,dst:=a.dst,names:=a.names } a
def abo (l:List Info):List Nat→Option (List Info):=fun p=>List.rec (some []) (fun i _ ih=>aj (nth l (qaJ i 1000)) fun a=>aj ih fun r=>some (loud i a::r)) p
def bitsOf:List Info→Nat→Nat:=fun l=>List.rec (fun m=>m) (fun a _ ih m=>ih (Eu m a.i)) l
def covers (m n:Nat):Bool:=Nat.rec true (fun k ih=>sel (dY m k) ih false) n
def Jv (all:List Oper)(order:List Nat):Option (List Info):=
 aj (infos all) fun l=>aj (abo l order) fun r=>guard (ahI r 0&&covers (bitsOf r 0) (aQ all)&&abK r) (some r)
def aOp (C:Cfg)(ev:Ev)(o:Op):Option (Row × (Nat→Value)):=
 match o with
 |.alloc t=>aj (zero C.P t) fun z=>some (.row z t 0,fun id=>ptr id 0)
 |.box t x=>aj (ev x) fun v=>some (.row (cellsOf v) t 0,fun id=>ptr id 0)
 |.buildSlice t len parts=>match C.P.underlying t with
  |some (.slice e)=>aj (size C.P e) fun n=>aj (zero C.P e) fun z=>guard (qaf (aQ z) n&&qah 1 n&&qah (qat len n) 16777216) <| aj (yG ev parts.toList) fun ps=>
    aj (fill (JF n) ps (repeatL len z)) fun l=>some (.row l e 0,fun id=>.slice (some ⟨id,0,none⟩) len len)
  |_=>none
 |.makeSlice t l c=>match C.P.underlying t with
  |some (.slice e)=>aj (ev l) fun l=>aj (asNat l) fun l=>aj (ev c) fun c=>aj (asNat c) fun c=>aj (C.P.info? e) fun i=>aj (zero C.P e) fun z=>
    guard (qaf (aQ z) i.size&&qah 1 i.size&&qah l c&&qah c 100000&&qah (qat i.bytes c) 281474976710656) (some (.row (repeatL c z) e 0,fun id=>.slice (some ⟨id,0,none⟩) l c))
  |_=>none
 |_=>none
def lH (s:St)(v:Value):Bool:=
 match v with
 |.slice (some a) _ _=>ltN a.block s.next
 |_=>true
structure aan where
 i:Nat
 op:Op
 fr:Fr
 v:Value
def NR (C:Cfg)(n:Nat)(s:St)(p:aan):Bool:=
 Option.casesOn (execOp C (p.fr.ev n) s p.op) false fun r=>match r with
  |.val v _=>lH s v&&Y4 4 p.v v
  |_=>false
def vN (C:Cfg)(n:Nat)(s:St)(m:Nat):List aan→Bool:=fun l=>List.rec true (fun p _ ih=>sel (dY m p.i||NR C n s p) ih false) l
def lg (s:St)(base:Nat):List Info→Bool:=fun l=>List.rec true (fun a _ ih=>sel (qaf a.cls 2) (sel (s.heap.get (qaz base a.i)).isNone ih false) ih) l
def vJ (C:Cfg)(r:Res):Bool:=
 match r with
 |.call f args _=>Option.casesOn (C.insert f) false fun t=>Lh t args
 |_=>false
def nC (o:Op):Bool:=
 match o with
 |.call c=>match c.callee with
  |.value _=>true
  |_=>false
 |_=>false
abbrev abh:=Bool→List aan→Fr→St→Option (Fr × St)
def yP (C:Cfg)(call:gX)(yield:dS)(rd:Bool)(n:Nat)(base:Nat)(a:Info)(rest:List Info)(k:abh)(cl:Bool)(pend:List aan)(fr:Fr)(r:Res):Option (Fr × St):=
 sel (cl&&(nC a.op.op&&vJ C r)) (qI call yield rd n fr a.op.dst (fun fr s=>guard (lg s base rest) (k true pend fr s)) r)
  (qI call yield rd n fr a.op.dst (fun fr s=>guard (vN C n s a.mask pend&&lg s base rest) (k false pend fr s)) r)
def Es (C:Cfg)(call:gX)(yield:dS)(rd:Bool)(n:Nat)(all:List Oper)(base:Nat)(a:Info)(rest:List Info)(k:abh)(cl:Bool)(pend:List aan)(fr:Fr)(s:St):Option (Fr × St):=
 aj (jW n all fr a.op.guard) fun g=>sel g
  (Gz a.cls
   (aj (execOp C (fr.ev n) s a.op.op) fun r=>match r with
    |.val v _=>k cl pend (fr.put n a.op.dst v) s
    |_=>none)
   fun c1=>Gz c1
    (aj (execOp C (fr.ev n) s a.op.op) fun r=>match r with
     |.val v _=>guard (lH s v) (k cl ({ i:=a.i,op:=a.op.op,fr:=fr,v:=v }::pend) (fr.put n a.op.dst v) s)
     |_=>none)
    fun c2=>Gz c2
     (aj (aOp C (fr.ev n) a.op.op) fun q=>k false pend (fr.put n a.op.dst (q.2 (qaz base a.i))) { heap:=s.heap.set (qaz base a.i) q.1,bZ:=s.bZ,next:=s.next })
     fun _=>aj (execOp C (fr.ev n) s a.op.op) (yP C call yield rd n base a rest k cl pend fr))
  (k cl pend (fr.put n a.op.dst unit) s)
def MG (C:Cfg)(call:gX)(yield:dS)(rd:Bool)(n:Nat)(all:List Oper)(base:Nat)(l:List Info):abh:=
 List.rec (fun _ _ fr s=>some (fr,s)) (fun a rest ih=>Es C call yield rd n all base a rest ih) l
def uj (C:Cfg)(call:gX)(yield:dS)(rd:Bool)(n:Nat)(all:List Oper)(order:List Nat)(fr:Fr)(s:St):Option (Fr × St):=
 aj (Jv all order) fun l=>MG C call yield rd n all s.next l true [] fr { heap:=s.heap,bZ:=s.bZ,next:=qaz s.next (aQ all) }
abbrev Out:=Option (Ex × Fr × St)
abbrev Run:=Fr→St→Out
def ni (k:Run)(r:Ex × Fr × St):Out:=
 match r.1 with
 |.normal=>k r.2.1 r.2.2
 |_=>some r
def iter (f:Run):Nat→Run:=fun n=>Nat.rec (fun _ _=>none) (fun _ ih fr s=>aj (f fr s) (ni ih)) n
def getLoop (s:St)(l:Nat):Option Ee:=
 match s.heap.get l with
 |some (.loop r)=>r.awf
 |_=>none
def uK (s:St)(l:Nat)(r:Ee)(state:LoopState)(pending:Option Code):St:=
 { heap:=s.heap.set l (.loop (.loop { state:=state,pending:=pending,fn:=r.fn,vars:=r.vars,params:=r.params,assign:=r.assign,body:=r.body,n:=r.n })),bZ:=s.bZ,next:=s.next }
def arh (x:LoopState):Bool:=
 match x with
 |.busy=>false
 |_=>true
def IJ (fr:Fr)(s:St)(l:Nat)(r:Ee):Out:=
 guard (arh r.state) <| match r.pending with
 |none=>some (.normal,fr,uK s l r .exhausted r.pending)
 |some .ret=>some (.ret,fr,uK s l r .exhausted r.pending)
 |some (.exit id)=>some (.exit id,fr,uK s l r .exhausted r.pending)
 |some _=>none
def rangeCall (C:Cfg)(call:gX)(fr:Fr)(l:Nat)(f:Value)(s:St):Out:=
 aj (invoke C s f [.func (.yield l) #[] #[]]) fun r=>match r with
  |.call g args s=>aj (call g args s) fun q=>aj (getLoop q.2 l) fun r=>IJ fr q.2 l r
  |_=>none
def rangeFunc (C:Cfg)(call:gX)(n:Nat)(fn:FuncId)(inRound:Bool)(f:Operand)(params:Array Tmp)(assign body:Code)(fr:Fr)(s:St):Out:=
 sel inRound none <| aj (fr.ev n f) fun f=>s.new .other fun _ s=>
  s.new (.loop (.loop { state:=.ready,pending:=none,fn:=fn,vars:=fr.vars,params:=params.toList,assign:=assign,body:=body,n:=n })) fun l s=>rangeCall C call fr l f s
def yD (a b:Run)(fr:Fr)(s:St)(v:Value):Out:=
 match v with
 |.bool c=>sel c (a fr s) (b fr s)
 |_=>none
def y8 (id:Nat)(r:Ex × Fr × St):Out:=
 match r.1 with
 |.exit id'=>sel (qaf id id') (some (.normal,r.2)) (some r)
 |_=>some r
def jR (c:Code):Nat:=
 Code.rec (motive:=fun _=>Nat) 0 (fun id _ _=>id) (fun _ _ a _=>a) (fun _ _ _ a _=>a) (fun _ _ a=>a) (fun _ a=>a) (fun _ _ _ _ a _=>a) (fun _=>0) (fun _ a=>a) (fun _=>0) (fun _=>0) 0 (fun _=>0) c
def sJ (C:Cfg)(fn:FuncId)(rd:Bool)(body:Code)(it:Run)(fr:Fr)(s:St):Out:=
 sel rd (it fr s) (Option.casesOn (C.MQ fn (jR body)) (it fr s) fun F=>Option.casesOn (F fr s).run (it fr s) some)
def exec (C:Cfg)(call:gX)(yield:dS)(n:Nat)(fn:FuncId)(inRound:Bool)(c:Code):Run:=
 Code.rec (motive:=fun _=>Run)
  (fun fr s=>some (.normal,fr,s))
  (fun id ops draw fr s=>aj (sel draw (uj C call yield inRound n ops.toList (C.order fn id) fr.fresh s) (qG C call yield inRound n ops.toList ops.toList fr.fresh s)) fun r=>some (.normal,r))
  (fun _ _ a b fr s=>aj (a fr s) (ni b))
  (fun c _ _ a b fr s=>aj (fr.ev n c) (yD a b fr s))
  (fun id _ a fr s=>aj (a fr s) (y8 id))
  (fun b a fr s=>sJ C fn inRound b (iter a 100000) fr s)
  (fun f params assign body _ _ fr s=>rangeFunc C call n fn inRound f params assign body fr s)
  (fun id fr s=>some (.exit id,fr,s))
  (fun _ a fr s=>sel inRound none (a fr s))
  (fun _ fr s=>some (.normal,fr,s))
  (fun _ _ _=>none)
  (fun fr s=>some (.ret,fr,s))
  (fun _ _ _=>none) c
def aee (P:Program)(n:Nat)(fr:Fr)(s:St)(r:ResultVar):Option Value:=
 match r with
 |.tmp t=>fr.ev n (.tmp t)
 |.cell a t=>aj (fr.ev n (.tmp a)) fun v=>match v with
  |.pointer (some a)=>load P s t a.block a.off
  |_=>none
def results (P:Program)(n:Nat)(fr:Fr)(s:St):List ResultVar→Option (List Value):=fun l=>
 List.rec (some []) (fun r _ ih=>aj (aee P n fr s r) fun v=>aj ih fun vs=>some (v::vs)) l
def unwind (call:gX):List (FuncId × List Value)→St→Option St:=fun l=>
 List.rec (fun s=>some s) (fun d _ ih s=>aj (call d.1 d.2 s) fun q=>ih q.2) l
def GZ (c:Code):Bool:=
 Code.rec (motive:=fun _=>Bool) true (fun _ _ _=>true) (fun _ _ a b=>sel a b false) (fun _ _ _ a b=>sel a b false) (fun _ _ a=>a) (fun _ a=>a) (fun _ _ _ _ _ _=>false) (fun _=>true) (fun _ a=>a) (fun _=>true) (fun _=>true) true (fun _=>true) c
def tuple (vs:List Value):Value:=
 match vs with
 |[v]=>v
 |vs=>.tuple ⟨vs⟩
def UA (vs:List Value):Nat→Tr Value→Tr Value:=List.rec (fun _ t=>t) (fun v _ ih i t=>ih (qak i) (t.set i v)) vs
def Lp (ps:List Nat):List Value→Tr Value→Option (Tr Value):=
 List.rec (fun vs t=>jB vs (some t) (fun _ _=>none)) (fun p _ ih vs t=>jB vs none (fun v r=>ih r (t.set p v))) ps
def qH (args:List Value):Fr:={ vars:=UA args 0 .e,loc:=[],defers:=[] }
def ahY (C:Cfg)(f:FuncId)(r:Ex × Fr × St):Option (Value × St):=
 match r.1 with
 |.exit _=>none
 |_=>jB r.2.1.defers (aj (results C.P (C.vars f) r.2.1 r.2.2 (C.results f)) fun vs=>some (tuple vs,r.2.2)) fun _ _=>none
def ae3 (C:Cfg)(call:gX)(yield:dS)(f:FuncId)(args:List Value)(s:St):Option (Value × St):=
 aj (C.body f) fun c=>guard (GZ c) (aj (exec C call yield (C.vars f) f false c (qH args) s) (ahY C f))
def isRecover (o:Op):Bool:=
 match o with
 |.call c=>match c.callee with
  |.builtin b=>match b with
   |.recover=>match c.args.toList with
    |[]=>true
    |_=>false
   |_=>false
  |_=>false
 |_=>false
def aaV (C:Cfg)(n:Nat)(o:Oper)(k:aaP)(fr:Fr)(s:St):Option (Fr × St):=
 aj (execOp C (fr.ev n) s o.op) fun r=>match r with
  |.val v s=>k (fr.put n o.dst v) s
  |_=>none
def aBR (C:Cfg)(n:Nat)(all:List Oper)(o:Oper)(k:aaP)(fr:Fr)(s:St):Option (Fr × St):=
 aj (jW n all fr o.guard) fun g=>sel g (sel (isRecover o.op) (k (fr.put n o.dst .nilIface) s) (aaV C n o k fr s)) (k (fr.put n o.dst unit) s)
def asl (C:Cfg)(n:Nat)(all:List Oper)(ops:List Oper):aaP:=
 List.rec (fun fr s=>some (fr,s)) (fun o _ ih=>aBR C n all o ih) ops
def afe (C:Cfg)(n:Nat)(c:Code):Run:=
 Code.rec (motive:=fun _=>Run)
  (fun fr s=>some (.normal,fr,s))
  (fun _ ops draw fr s=>sel draw none (aj (asl C n ops.toList ops.toList fr.fresh s) fun r=>some (.normal,r)))
  (fun _ _ a b fr s=>aj (a fr s) (ni b))
  (fun c _ _ a b fr s=>aj (fr.ev n c) (yD a b fr s))
  (fun _ _ _ _ _=>none)
  (fun _ _ _ _=>none)
  (fun _ _ _ _ _ _ _ _=>none)
  (fun _ _ _=>none)
  (fun _ _ _ _=>none)
  (fun _ _ _=>none)
  (fun _ _ _=>none)
  (fun fr s=>some (.ret,fr,s))
  (fun _ _ _=>none) c
def akK (C:Cfg)(f:FuncId)(args:List Value)(s:St):Option (Value × St):=
 aj (C.body f) fun c=>aj (afe C (C.vars f) c (qH args) s) (ahY C f)
def Qw (C:Cfg)(call:gX)(yield:dS)(f:FuncId)(args:List Value)(s:St):Option (Value × St):=
 Option.casesOn (ae3 C call yield f args s) (akK C f args s) some
def finish (C:Cfg)(dcall:gX)(f:FuncId)(r:Ex × Fr × St):Option (Value × St):=
 match r.1 with
 |.exit _=>none
 |_=>aj (unwind dcall r.2.1.defers r.2.2) fun s=>aj (results C.P (C.vars f) r.2.1 s (C.results f)) fun vs=>some (tuple vs,s)
def jZ (C:Cfg)(call:gX)(yield:dS)(f:FuncId)(args:List Value)(s:St):Option (Value × St):=
 aj (C.body f) fun c=>aj (exec C call yield (C.vars f) f false c (qH args) s) (finish C (Qw C call yield) f)
def pO (C:Cfg)(call:gX)(yield:dS)(f:FuncId)(args:List Value)(s:St):Option (Value × St):=
 Option.casesOn (C.insert f) (jZ C call yield f args s) fun t=>Option.casesOn (mY C t s args) (jZ C call yield f args s) some
def endRound (l:Nat)(q:Ex × Fr × St):Option (Value × St):=
 jB q.2.1.defers (aj (getLoop q.2.2 l) fun r=>
  match q.1 with
  |.normal=>some (.bool true,uK q.2.2 l r .ready none)
  |.ret=>some (.bool false,uK q.2.2 l r .done (some .ret))
  |.exit id=>some (.bool false,uK q.2.2 l r .done (some (.exit id)))) fun _ _=>none
def akA (C:Cfg)(call:gX)(yield:dS)(l:Nat)(r0:Ee)(q:Ex × Fr × St):Option (Value × St):=
 match q.1 with
 |.normal=>aj (getLoop q.2.2 l) fun r=>match r.state with
  |.ready=>aj (exec C call yield r0.n r0.fn true r0.body q.2.1 (uK q.2.2 l r .busy r.pending)) (endRound l)
  |_=>none
 |_=>none
def rM (C:Cfg)(call:gX)(yield:dS)(l:Nat)(args:List Value)(s:St):Option (Value × St):=
 aj (getLoop s l) fun r=>aj (Lp r.params args r.vars) fun vars=>
  aj (exec C call yield r.n r.fn true r.assign { vars:=vars,loc:=[],defers:=[] } s) (akA C call yield l r)
def runN (C:Cfg)(n:Nat):gX × dS:=
 Nat.rec (fun _ _ _=>none,fun _ _ _=>none) (fun _ ih=>(pO C ih.1 ih.2,rM C ih.1 ih.2)) n
end
end Go.Ax
namespace Go.Ax
open Go
def decode:Path→Nat
 |[]=>0
 |b::p=>(if b then 1 else 0)+2*decode p
theorem afA (d k:Nat):amE (d+1) (k+1)=qaf (qaJ (k+1) 2) 1::amE d (qa8 (k+1) 2):=rfl
theorem JH (d:Nat):∀ k,k<d→decode (amE d k)=k:=by
 induction d with
 |zero=>intro k h;omega
 |succ d ih=>
  intro k h
  cases k with
  |zero=>rfl
  |succ k=>
   rw [afA]
   have h2:qa8 (k+1) 2<d:=by show (k+1)/2<d;omega
   simp only [decode,ih _ h2]
   show (if qaf ((k+1)%2) 1=true then 1 else 0)+2*((k+1)/2)=k+1
   by_cases hm:(k+1)%2=1
   ·simp [hm];omega
   ·have h0:(k+1)%2=0:=by omega
    simp [h0];omega
theorem anL {j k:Nat}(h:path j=path k):j=k:=by
 rw [←JH (qak j) j (qa5 j),←JH (qak k) k (qa5 k)]
 exact congrArg decode h
section
variable {α:Type}
theorem acv (t:Tr α):Tr.agC [] t=t.val:=rfl
theorem EM (b:Bool)(p:Path)(v:Option α)(x y:Tr α):Tr.agC (b::p) (.n v x y)=Tr.agC p (if b then y else x):=by cases b <;> rfl
theorem apG (p:Path):Tr.agC p (.e:Tr α)=none:=by cases p <;> rfl
theorem acw (a:α)(t:Tr α):Tr.agy a [] t = .n (some a) t.left t.right:=by cases t <;> rfl
theorem Xp (a:α)(p:Path)(t:Tr α):Tr.agy a (true::p) t = .n t.val t.left (Tr.agy a p t.right):=by cases t <;> rfl
theorem QS (a:α)(p:Path)(t:Tr α):Tr.agy a (false::p) t = .n t.val (Tr.agy a p t.left) t.right:=by cases t <;> rfl
theorem W9 (b:Bool)(p:Path)(t:Tr α):Tr.agC (b::p) t=Tr.agC p (if b then t.right else t.left):=by
 cases t with
 |e=>cases b <;> simp [Tr.left,Tr.right,apG]
 |n v x y=>rw [EM];cases b <;> rfl
theorem aib (a:α)(p:Path):∀ (q:Path) (t:Tr α),Tr.agC q (Tr.agy a p t)=if q=p then some a else Tr.agC q t:=by
 induction p with
 |nil=>
  intro q t
  cases q with
  |nil=>rw [acw];simp [acv,Tr.val]
  |cons b q=>rw [acw,EM,W9];cases b <;> simp
 |cons c p ih=>
  intro q t
  cases q with
  |nil=>cases c <;> simp [Xp,QS,acv,Tr.val]
  |cons b q=>
   rw [W9 b q t]
   cases c <;> cases b <;> simp [Xp,QS,EM,ih]
theorem Tr.jv (t:Tr α)(k:Nat)(a:α)(j:Nat):(t.set k a).get j=if j=k then some a else t.get j:=by
 unfold Tr.get Tr.set
 rw [aib]
 by_cases h:j=k
 ·simp [h]
 ·have:path j≠path k:=fun e=>h (anL e)
  simp [h,this]
theorem Tr.get_set_same (t:Tr α)(k:Nat)(a:α):(t.set k a).get k=some a:=by rw [Tr.jv];simp
theorem Tr.get_set_other (t:Tr α){k j:Nat}(a:α)(h:j≠k):(t.set k a).get j=t.get j:=by rw [Tr.jv];simp [h]
theorem Tr.avu (k:Nat):(Tr.e:Tr α).get k=none:=apG _
end
section
variable {α:Type}
theorem Hp.zL (b lo k:Nat):(Hp.s b lo:Hp α).get k=none:=rfl
theorem Hp.U7 (m:Nat)(x y:Hp α)(k:Nat):(Hp.n m x y).get k=if qah m k then y.get k else x.get k:=by
 show (Bool.rec (x.get k) (y.get k) (qah m k):Option α)=_
 cases qah m k <;> rfl
theorem Hp.Vz (j:Nat)(v:α)(k:Nat):(Hp.l j v).get k=if j=k then some v else none:=by
 show (Bool.rec none (some v) (qaf j k):Option α)=_
 cases h:qaf j k with
 |true=>rw [if_pos (qab h)]
 |false=>rw [if_neg (fun e=>by rw [e,qaG] at h;cases h)]
theorem Hp.anj (k:Nat)(v:α)(b lo:Nat):Hp.one k v (b+1) lo=if qah (lo+2 ^ b) k then .n (lo+2 ^ b) (.s b lo) (Hp.one k v b (lo+2 ^ b)) else .n (lo+2 ^ b) (Hp.one k v b lo) (.s b (lo+2 ^ b)):=by
 show (Nat.rec (Bool.rec (.n 0 (Hp.one k v b lo) (.s b 0)) (.n 0 (.s b lo) (Hp.one k v b 0)) (qah 0 k))
  (fun m _=>Bool.rec (.n (qak m) (Hp.one k v b lo) (.s b (qak m))) (.n (qak m) (.s b lo) (Hp.one k v b (qak m))) (qah (qak m) k)) (lo+2 ^ b):Hp α)=_
 generalize lo+2 ^ b=q
 cases q with
 |zero=>cases qah 0 k <;> rfl
 |succ m=>
  show (Bool.rec (.n (qak m) (Hp.one k v b lo) (.s b (qak m))) (.n (qak m) (.s b lo) (Hp.one k v b (qak m))) (qah (qak m) k):Hp α)=_
  cases h:qah (qak m) k <;> rfl
theorem Hp.aqp (k:Nat)(v:α)(j:Nat):∀ b lo,(Hp.one k v b lo).get j=if j=k then some v else none:=by
 intro b
 induction b with
 |zero=>intro lo;show (Hp.l k v).get j=_;rw [Hp.Vz];by_cases h:j=k
        ·rw [if_pos h,if_pos h.symm]
        ·rw [if_neg h,if_neg fun e=>h e.symm]
 |succ b ih=>
  intro lo
  rw [Hp.anj]
  by_cases h:qah (lo+2 ^ b) k=true
  ·rw [if_pos h,Hp.U7,ih,Hp.zL]
   by_cases e:j=k
   ·subst e;rw [if_pos h]
   ·simp [e]
  ·rw [if_neg h,Hp.U7,ih,Hp.zL]
   by_cases e:j=k
   ·subst e;rw [if_neg h]
   ·simp [e]
theorem Hp.axQ (m:Nat)(x y:Hp α)(k:Nat)(v:α):(Hp.n m x y).set k v=if qah m k then .n m x (y.set k v) else .n m (x.set k v) y:=by
 show (Bool.rec (.n m (x.set k v) y) (.n m x (y.set k v)) (qah m k):Hp α)=_
 cases qah m k <;> rfl
theorem Hp.ayg (j:Nat)(u:α)(k:Nat)(v:α):(Hp.l j u).set k v=if j=k then .l k v else if qah k j then .n j (.l k v) (.l j u) else .n k (.l j u) (.l k v):=by
 show (Bool.rec (Bool.rec (.n k (.l j u) (.l k v)) (.n j (.l k v) (.l j u)) (qah k j)) (.l k v) (qaf j k):Hp α)=_
 cases h:qaf j k with
 |true=>rw [if_pos (qab h)]
 |false=>
  rw [if_neg (fun e=>by rw [e,qaG] at h;cases h)]
  cases qah k j <;> rfl
theorem Hp.jv (t:Hp α)(k:Nat)(v:α)(j:Nat):(t.set k v).get j=if j=k then some v else t.get j:=by
 induction t with
 |s b lo=>show (Hp.one k v b lo).get j=_;rw [Hp.aqp,Hp.zL]
 |l i u=>
  have hle:∀ {a b:Nat},qah a b=true↔a≤b:=⟨qaa,qan⟩
  rw [Hp.ayg]
  by_cases hik:i=k
  ·rw [if_pos hik,Hp.Vz,Hp.Vz]
   subst hik
   by_cases e:j=i
   ·simp [e]
   ·have e':¬i=j:=fun h=>e h.symm
    simp [e,e']
  ·rw [if_neg hik]
   by_cases hki:qah k i=true
   ·rw [if_pos hki,Hp.U7,Hp.Vz,Hp.Vz]
    have hki:=hle.1 hki
    by_cases e:j=k
    ·subst e
     have hn:¬qah i j=true:=fun h=>hik (Nat.le_antisymm (hle.1 h) hki)
     simp [hn]
    ·have e':¬k=j:=fun h=>e h.symm
     by_cases hij:i=j
     ·subst hij
      have:qah i i=true:=hle.2 (qar _)
      simp [this,e]
     ·simp [hij,e,e']
   ·rw [if_neg hki,Hp.U7,Hp.Vz,Hp.Vz]
    by_cases e:j=k
    ·subst e
     have:qah j j=true:=hle.2 (qar _)
     simp [this]
    ·have e':¬k=j:=fun h=>e h.symm
     by_cases hij:i=j
     ·subst hij
      simp [hki,e]
     ·simp [hij,e,e']
 |n m x y ihx ihy=>
  rw [Hp.axQ,Hp.U7]
  by_cases h:qah m k=true
  ·rw [if_pos h,Hp.U7,ihy]
   by_cases e:j=k
   ·subst e;rw [if_pos h,if_pos rfl,if_pos rfl]
   ·rw [if_neg e,if_neg e]
  ·rw [if_neg h,Hp.U7,ihx]
   by_cases e:j=k
   ·subst e;rw [if_neg h,if_pos rfl,if_pos rfl]
   ·rw [if_neg e,if_neg e]
theorem Hp.get_set_same (t:Hp α)(k:Nat)(a:α):(t.set k a).get k=some a:=by rw [Hp.jv];simp
theorem Hp.get_set_other (t:Hp α){k j:Nat}(a:α)(h:j≠k):(t.set k a).get j=t.get j:=by rw [Hp.jv];simp [h]
end
section
variable {α β:Type}
theorem jk (l:List α):∀ k,nth l k=l[k]?:=by
 induction l with
 |nil=>intro k;rfl
 |cons a t ih=>intro k;cases k with
  |zero=>rfl
  |succ k=>exact ih k
theorem iy (n:Nat):∀ l:List α,eH n l=l.drop n:=by
 induction n with
 |zero=>intro l;rfl
 |succ n ih=>intro l;cases l with
  |nil=>rfl
  |cons a t=>exact ih t
theorem qU (n:Nat):∀ l:List α,aA n l=l.take n:=by
 induction n with
 |zero=>intro l;rfl
 |succ n ih=>intro l;cases l with
  |nil=>rfl
  |cons a t=>show a::aA n t=_;rw [ih t];rfl
theorem aW (l:List α):aQ l=l.length:=by
 induction l with
 |nil=>rfl
 |cons a t ih=>show qak (aQ t)=_;rw [ih];rfl
theorem iG (l r:List α):aK l r=l++r:=by
 induction l with
 |nil=>rfl
 |cons a t ih=>show a::aK t r=_;rw [ih];rfl
theorem kP (f:α→β)(l:List α):zO f l=l.map f:=by
 induction l with
 |nil=>rfl
 |cons a t ih=>show f a::zO f t=_;rw [ih];rfl
theorem ah {x:Option α}{k:α→Option β}{b:β}:aj x k=some b↔∃ a,x=some a∧k a=some b:=by
 cases x with
 |none=>simp [aj]
 |some a=>simp [aj]
theorem au {b:Bool}{k:Option β}{r:β}:guard b k=some r↔b=true∧k=some r:=by cases b <;> simp [guard]
theorem aN (x y:α):sel true x y=x:=rfl
theorem aP (x y:α):sel false x y=y:=rfl
theorem aG (b:Bool)(x y:α):sel b x y=if b then x else y:=by cases b <;> rfl
theorem wG (n:Nat):∀ (l r:List Value),takeN n l=some r↔n≤l.length∧r=l.take n:=by
 induction n with
 |zero=>intro l r;show some []=some r↔_;simp [eq_comm]
 |succ n ih=>
  intro l r
  cases l with
  |nil=>show none=some r↔_;simp
  |cons a t=>
   show aj (takeN n t) (fun r=>some (a::r))=some r↔_
   rw [ah]
   constructor
   ·rintro ⟨q,hq,h⟩
    obtain ⟨h1,h2⟩:=(ih t q).1 hq
    cases h;subst h2
    exact ⟨by simpa using h1,rfl⟩
   ·rintro ⟨h1,h2⟩
    exact ⟨t.take n,(ih t _).2 ⟨by simpa using h1,rfl⟩,by rw [h2];rfl⟩
theorem adD (n:Nat)(l:List Value):arz n l=takeN n l:=by
 unfold arz
 rw [aG]
 split
 ·rename_i h
  have h:=qab h
  rw [aW] at h
  exact ((wG n l l).2 ⟨by omega,by rw [h,List.take_length]⟩).symm
 ·rfl
theorem Yt (b:List UInt8)(l h:Nat):E5 b l h=guard (qah l h&&qah h (aQ b)) (some (.string ⟨⟨aA (qaF h l) (eH l b)⟩⟩)):=by
 unfold E5
 rw [aG]
 split
 ·rename_i hh
  have hh:=qab hh
  have:aA (qaF h l) (eH l b)=eH l b:=by
   rw [aW] at hh
   rw [qU,iy]
   apply List.take_of_length_le
   rw [List.length_drop,hh]
   exact qar _
  rw [this]
 ·rfl
theorem aop (vs:List Value):∀ (l r:List Value),aaG vs l=some r↔vs.length≤l.length∧r=vs++l.drop vs.length:=by
 induction vs with
 |nil=>intro l r;show some l=some r↔_;simp;exact ⟨fun h=>h.symm,fun h=>h.symm⟩
 |cons v t ih=>
  intro l r
  cases l with
  |nil=>show none=some r↔_;simp
  |cons a l=>
   show aj (aaG t l) (fun r=>some (v::r))=some r↔_
   rw [ah]
   constructor
   ·rintro ⟨q,hq,h⟩
    obtain ⟨h1,h2⟩:=(ih l q).1 hq
    cases h;subst h2
    exact ⟨by simpa using h1,by simp⟩
   ·rintro ⟨h1,h2⟩
    exact ⟨t++l.drop t.length,(ih l _).2 ⟨by simpa using h1,rfl⟩,by rw [h2];simp⟩
theorem P8 (vs:List Value)(o:Nat):∀ (l r:List Value),splice vs o l=some r↔o+vs.length≤l.length∧r=l.take o++vs++l.drop (o+vs.length):=by
 induction o with
 |zero=>intro l r;show aaG vs l=some r↔_;rw [aop];simp
 |succ o ih=>
  intro l r
  cases l with
  |nil=>show none=some r↔_;simp
  |cons a l=>
   show aj (splice vs o l) (fun r=>some (a::r))=some r↔_
   rw [ah]
   constructor
   ·rintro ⟨q,hq,h⟩
    obtain ⟨h1,h2⟩:=(ih l q).1 hq
    cases h;subst h2
    exact ⟨by simp;omega,by simp [Nat.succ_add]⟩
   ·rintro ⟨h1,h2⟩
    refine ⟨_,(ih l _).2 ⟨by simp at h1;omega,rfl⟩,?_⟩
    rw [h2];simp [Nat.succ_add]
end
end Go.Ax
namespace Go.Ax
open Go
structure Loc where
 blk:Nat
 off:Nat
 cap:Nat
abbrev Ren:=Nat→Option Loc
class Lo where
 lo:Nat→Loc
 fix:∀ i,i<eU→lo i=⟨i,0,0⟩
instance ax5:Lo:=⟨fun i=>⟨i,0,0⟩,fun _ _=>rfl⟩
variable [Lo]
def Ren.at (ρ:Ren)(b:Nat):Option Loc:=if b<ak then some (Lo.lo b) else ρ b
def Ren.le (ρ ρ':Ren):Prop:=∀ i l,ρ i=some l→ρ' i=some l
theorem Ren.le_refl (ρ:Ren):ρ.le ρ:=fun _ _ h=>h
theorem Ren.le_trans {a b c:Ren}(h:a.le b)(k:b.le c):a.le c:=fun i l hi=>k i l (h i l hi)
theorem Ren.abL {ρ ρ':Ren}(h:ρ.le ρ'){b:Nat}{l:Loc}(hb:ρ.at b=some l):ρ'.at b=some l:=by
 unfold Ren.at at *
 split at hb
 ·rename_i hlt;simp [hlt];simpa using hb
 ·rename_i hlt;simp [hlt];exact h _ _ hb
def capOf (l:Loc)(c:Nat):Nat:=if bf≤c then l.cap-(aC-c) else c
inductive FR (ρ:Ren):Fn→Fn→Prop
 |func (f:FuncId):FR ρ (.func f) (.func f)
 |method (n:String):FR ρ (.method n) (.method n)
 |methodOf (t:TypeId) (n:String):FR ρ (.methodOf t n) (.methodOf t n)
 |via (t:TypeId) (p:Array FieldStep) (f:FuncId) (b:Bool):FR ρ (.via t p f b) (.via t p f b)
 |yield {l:Nat} {q:Loc} (h:ρ l=some q):FR ρ (.yield l) (.yield q.blk)
mutual
inductive VR (ρ:Ren):Value→Value→Prop
 |bool (b:Bool):VR ρ (.bool b) (.bool b)
 |int (k:IntKind) (n:Int):VR ρ (.int k n) (.int k n)
 |string (s:ByteArray):VR ρ (.string s) (.string s)
 |nY:VR ρ (.pointer none) (.pointer none)
 |ptr {b o:Nat} {l:Loc} (h:ρ.at b=some l):VR ρ (.pointer (some ⟨b,o,none⟩)) (.pointer (some ⟨l.blk,l.off+o,none⟩))
 |dW (n c:Nat):VR ρ (.slice none n c) (.slice none n c)
 |slice {b o n c:Nat} {l:Loc} (h:ρ.at b=some l):VR ρ (.slice (some ⟨b,o,none⟩) n c) (.slice (some ⟨l.blk,l.off+o,none⟩) n (capOf l c))
 |dead (a:Addr) (c:Nat):VR ρ (.slice (some ⟨fP,0,none⟩) 0 aC) (.slice (some a) 0 c)
 |opq (a:Addr) (n c:Nat):VR ρ (.float .f64 n) (.slice (some a) n c)
 |alg (lo hi:Nat) (a:Addr) (n c:Nat) (h:lo≤n) (hh:hi=0∨n≤hi):VR ρ (.complex .f32 lo hi) (.slice (some a) n c)
 |rng (lo hi n:Nat) (h:lo≤n) (hh:hi=0∨n≤hi):VR ρ (.complex .f64 lo hi) (.int .i64 (n:Int))
 |tok (i:Nat) (k:IntKind) (n:Int):VR ρ (.chan (some i)) (.int k n)
 |uH:VR ρ (.map none) (.map none)
 |map {r:Nat} {l:Loc} (h:ρ r=some l):VR ρ (.map (some r)) (.map (some l.blk))
 |func {f f':Fn} {a a' b b':List Value} (h:FR ρ f f') (ha:VRs ρ a a') (hb:VRs ρ b b'):VR ρ (.func f ⟨a⟩ ⟨b⟩) (.func f' ⟨a'⟩ ⟨b'⟩)
 |nilFunc:VR ρ .nilFunc .nilFunc
 |iface (t:TypeId) {v v':Value} (h:VR ρ v v'):VR ρ (.iface t v) (.iface t v')
 |nilIface:VR ρ .nilIface .nilIface
 |agg {a a':List Value} (h:VRs ρ a a'):VR ρ (.agg ⟨a⟩) (.agg ⟨a'⟩)
 |tuple {a a':List Value} (h:VRs ρ a a'):VR ρ (.tuple ⟨a⟩) (.tuple ⟨a'⟩)
inductive VRs (ρ:Ren):List Value→List Value→Prop
 |nil:VRs ρ [] []
 |cons {v v':Value} {l l':List Value} (h:VR ρ v v') (hl:VRs ρ l l'):VRs ρ (v::l) (v'::l')
end
theorem FR.mono {ρ ρ':Ren}(h:ρ.le ρ'){f f':Fn}(hf:FR ρ f f'):FR ρ' f f':=by
 cases hf with
 |func f=>exact .func f
 |method n=>exact .method n
 |methodOf t n=>exact .methodOf t n
 |via t p f b=>exact .via t p f b
 |yield hl=>exact .yield (h _ _ hl)
mutual
theorem VR.mono {ρ ρ':Ren}(h:ρ.le ρ'):∀ {v v':Value},VR ρ v v'→VR ρ' v v'
 |_,_,.bool b=>.bool b
 |_,_,.int k n=>.int k n
 |_,_,.string s=>.string s
 |_,_,.nY=>.nY
 |_,_,.ptr hl=>.ptr (Ren.abL h hl)
 |_,_,.dW n c=>.dW n c
 |_,_,.slice hl=>.slice (Ren.abL h hl)
 |_,_,.dead a c=>.dead a c
 |_,_,.opq a n c=>.opq a n c
 |_,_,.alg lo hi a n c h hh=>.alg lo hi a n c h hh
 |_,_,.rng lo hi n h hh=>.rng lo hi n h hh
 |_,_,.tok i k n=>.tok i k n
 |_,_,.uH=>.uH
 |_,_,.map hl=>.map (h _ _ hl)
 |_,_,.func hf ha hb=>.func (hf.mono h) (VRs.mono h ha) (VRs.mono h hb)
 |_,_,.nilFunc=>.nilFunc
 |_,_,.iface t hv=>.iface t (VR.mono h hv)
 |_,_,.nilIface=>.nilIface
 |_,_,.agg ha=>.agg (VRs.mono h ha)
 |_,_,.tuple ha=>.tuple (VRs.mono h ha)
theorem VRs.mono {ρ ρ':Ren}(h:ρ.le ρ'):∀ {l l':List Value},VRs ρ l l'→VRs ρ' l l'
 |_,_,.nil=>.nil
 |_,_,.cons hv hl=>.cons (VR.mono h hv) (VRs.mono h hl)
end
section lists
variable {ρ:Ren} {l l':List Value}
theorem VRs.length (h:VRs ρ l l'):l'.length=l.length:=by
 induction l generalizing l' with
 |nil=>cases h;rfl
 |cons a t ih=>cases h with|cons _ ht=>simp [ih ht]
theorem VRs.get {k:Nat}{v:Value}(h:VRs ρ l l')(hk:l[k]? = some v):∃ v',l'[k]? = some v'∧VR ρ v v':=by
 induction l generalizing l' k with
 |nil=>simp at hk
 |cons a t ih=>
  cases h with
  |cons hv ht=>
   cases k with
   |zero=>simp at hk;subst hk;exact ⟨_,rfl,hv⟩
   |succ k=>simp at hk;simpa using ih ht hk
theorem VRs.append {r r':List Value}(h:VRs ρ l l')(hr:VRs ρ r r'):VRs ρ (l++r) (l'++r'):=by
 induction l generalizing l' with
 |nil=>cases h;exact hr
 |cons a t ih=>cases h with|cons hv ht=>exact .cons hv (ih ht)
theorem VRs.take (n:Nat)(h:VRs ρ l l'):VRs ρ (l.take n) (l'.take n):=by
 induction l generalizing l' n with
 |nil=>cases h;simpa using VRs.nil
 |cons a t ih=>
  cases h with
  |cons hv ht=>cases n with
   |zero=>exact .nil
   |succ n=>exact .cons hv (ih n ht)
theorem VRs.drop (n:Nat)(h:VRs ρ l l'):VRs ρ (l.drop n) (l'.drop n):=by
 induction l generalizing l' n with
 |nil=>cases h;simpa using VRs.nil
 |cons a t ih=>
  cases h with
  |cons hv ht=>cases n with
   |zero=>exact .cons hv ht
   |succ n=>exact ih n ht
theorem VRs.ao9 (hlen:l'.length=l.length)(h:∀ (k:Nat) (v:Value),l[k]? = some v→∃ v',l'[k]? = some v'∧VR ρ v v'):VRs ρ l l':=by
 induction l generalizing l' with
 |nil=>have:l'=[]:=by simpa using hlen
       subst this;exact .nil
 |cons a t ih=>
  cases l' with
  |nil=>simp at hlen
  |cons b t'=>
   obtain ⟨v',h1,h2⟩:=h 0 a rfl
   simp at h1;subst h1
   exact .cons h2 (ih (by simpa using hlen) fun k v hk=>by simpa using h (k+1) v (by simpa using hk))
end lists
end Go.Ax
namespace Go.Ax
variable [Lo]
open Go
noncomputable def St.tag (s:St)(i:Nat):Option (Nat × Nat):=
 match s.heap.get i with
 |some (.row _ _ f)=>if f=0 then some (0,i) else match s.bZ.get f with
  |some l=>if i∈l then some (1,f) else none
  |none=>none
 |some (.map _ _)=>some (0,i)
 |some (.loop _)=>some (0,i)
 |_=>none
theorem Cb (b:Nat)(l:List Nat):yT b l=decide (b∈l):=by
 induction l with
 |nil=>rfl
 |cons a t ih=>
  show sel (qaf a b) true (yT b t)=_
  rw [aG,ih]
  by_cases h:a=b
  ·subst h;simp
  ·have:qaf a b=false:=by rw [←qaC,qaE];exact h
   have h':¬b=a:=fun e=>h e.symm
   simp [this,h']
theorem aO {s:St}{i:Nat}{cs:List Value}{e:TypeId}{f:Nat} :
  s.cells i=some (cs,e,f)↔s.heap.get i=some (.row cs e f)∧(f=0∨∃ l,s.bZ.get f=some l∧i∈l):=by
 unfold St.cells
 rw [ah]
 constructor
 ·rintro ⟨r,hr,h⟩
  cases r with
  |row cs' e' f'=>
   simp only [Lu,aG] at h
   split at h
   ·rename_i h0
    cases h
    exact ⟨hr,.inl (by simpa using h0)⟩
   ·obtain ⟨l,hl,h⟩:=ah.1 h
    obtain ⟨h1,h2⟩:=au.1 h
    cases h2
    rw [Cb] at h1
    exact ⟨hr,.inr ⟨l,hl,by simpa using h1⟩⟩
  |map es c=>cases h
  |loop l=>cases h
  |other=>cases h
 ·rintro ⟨hr,h⟩
  refine ⟨_,hr,?_⟩
  show Lu s.bZ i cs e f=_
  simp only [Lu,aG]
  split
  ·rfl
  ·rename_i h0
   rcases h with h|⟨l,hl,hm⟩
   ·subst h;simp at h0
   ·rw [ah];exact ⟨l,hl,by rw [au,Cb];exact ⟨by simpa using hm,rfl⟩⟩
theorem dH {s:St}{i:Nat}{cs:List Value}{e:TypeId}{f:Nat}(h:s.cells i=some (cs,e,f)):s.tag i=some (if f=0 then (0,i) else (1,f)):=by
 obtain ⟨h1,h2⟩:=aO.1 h
 unfold St.tag
 rw [h1]
 by_cases hf:f=0
 ·simp [hf]
 ·rcases h2 with h2|⟨l,hl,hm⟩
  ·exact absurd h2 hf
  ·simp [hf,hl,hm]
structure alc (P:Program) (ρ:Ren) (w:World) (i:Nat) (cs:List Value) (e:TypeId) (f:Nat) (l:Loc):Prop where
 at_:ρ.at i=some l
 arr:∃ (a:Array Value) (fz:Nat × Nat),(∃ e':TypeId,w.heap[l.blk]? = some (.cells a e' fz)∧((f=0∨ak≤i)→e'=e))∧
  (∀ (j:Nat) (x:Value),cs[j]? = some x→∃ y,a[l.off+j]? = some y∧VR ρ x y)∧
  (ak≤i→∀ o,o<a.size→¬(fz.1≤o∧o<fz.2))∧
  (f=0→l.off=0∧a.size=cs.length∧(ak≤i→¬(fz.1≤a.size∧a.size<fz.2)))∧
  (f≠0→∃ n,size P e=some n∧0<n∧l.off+l.cap*n≤a.size∧cs.length≤l.cap*n)
inductive EsR (ρ:Ren):List MapEntry→List MapEntry→Prop
 |nil:EsR ρ [] []
 |cons {a b:MapEntry} {l l':List MapEntry} (hk:VR ρ a.key b.key) (hv:VR ρ a.val b.val) (hb:a.born=b.born) (h:EsR ρ l l'):EsR ρ (a::l) (b::l')
theorem EsR.mono {ρ ρ':Ren}(h:ρ.le ρ'){l l':List MapEntry}(hl:EsR ρ l l'):EsR ρ' l l':=by
 induction hl with
 |nil=>exact .nil
 |cons hk hv hb _ ih=>exact .cons (hk.mono h) (hv.mono h) hb ih
def ab1 (ρ:Ren)(n:Nat)(t:Tr Value)(tmps:Array Value):Prop:=∀ k v,k<n→t.get k=some v→VR ρ v (tmps.getD k undef)
theorem ab1.mono {ρ ρ':Ren}(h:ρ.le ρ'){n:Nat}{t:Tr Value}{tmps:Array Value}(hv:ab1 ρ n t tmps):ab1 ρ' n t tmps:=
 fun k v hn hk=>(hv k v hn hk).mono h
structure Yk (ρ:Ren) (r:Ee) (q:Loop):Prop where
 state:q.state=r.state
 pending:q.pending=r.pending
 vars:ab1 ρ r.n r.vars q.tmps
 params:q.params.toList=r.params
 assign:q.assign=r.assign
 body:q.body=r.body
 code:qg q.tmps.size r.assign=true∧qg q.tmps.size r.body=true∧I7 q.tmps.size r.params=true
theorem Yk.mono {ρ ρ':Ren}(h:ρ.le ρ'){r:Ee}{q:Loop}(hl:Yk ρ r q):Yk ρ' r q:=
 ⟨hl.state,hl.pending,hl.vars.mono h,hl.params,hl.assign,hl.body,hl.code⟩
inductive anc (ρ:Ren) (l:Loc):anE→Obj→Prop
 |loop {r:Ee} {q:Loop} (h:Yk ρ r q):anc ρ l (.loop r) (.loop q)
 |iter {r:abt} {m:Loc} (hl:l.off=0) (hm:ρ r.map=some m):anc ρ l (.iter r) (.mapIter (some m.blk) r.since ⟨r.seen⟩ r.stepped)
theorem anc.mono {ρ ρ':Ren}(h:ρ.le ρ'){l:Loc}{r:anE}{q:Obj}(hl:anc ρ l r q):anc ρ' l r q:=by
 cases hl with
 |loop hq=>exact .loop (hq.mono h)
 |iter h0 hm=>exact .iter h0 (h _ _ hm)
structure HR (P:Program) (base:Nat) (ρ:Ren) (s:St) (w:World):Prop where
 dom:∀ i l,ρ i=some l→ak≤i∧i<s.next∧base≤l.blk∧l.blk<w.heap.size
 next:ak≤s.next
 iF:base≤w.heap.size
 low:∀ i,i<ak→s.tag i≠none→(Lo.lo i).blk<base∧i≠fP
 dO:∀ i r,s.heap.get i=some r→i<s.next
 fM:∀ i cs e f,s.heap.get i=some (.row cs e f)→f<s.next
 rows:∀ i cs e f,s.cells i=some (cs,e,f)→∃ l,alc P ρ w i cs e f l
 maps:∀ i es c,s.heap.get i=some (.map es c)→∃ l,ρ i=some l∧∃ es',w.heap[l.blk]? = some (.map es' c)∧EsR ρ es es'.toList
 loops:∀ i r,s.heap.get i=some (.loop r)→∃ l,ρ i=some l∧∃ q,w.heap[l.blk]? = some q∧anc ρ l r q
 sep:∀ i j a b l l',s.tag i=some a→s.tag j=some b→a≠b→ρ.at i=some l→ρ.at j=some l'→(ak≤i∨ak≤j)→l.blk≠l'.blk
def xO (ρ:Ren)(s:St)(b:Nat):Prop:=∃ i l a,ak≤i∧s.tag i=some a∧ρ i=some l∧l.blk=b
structure Goes (P:Program) (base:Nat) (ρ:Ren) (s:St) (w:World) (ρ':Ren) (s':St) (w':World):Prop where
 le:ρ.le ρ'
 hr:HR P base ρ' s' w'
 os:w'.os=w.os
 tape:w'.tape=w.tape
 output:w'.output=w.output
 grow:w.heap.size≤w'.heap.size
 next:s.next≤s'.next
 frame:∀ b,b<w.heap.size→¬xO ρ s b→w'.heap[b]? = w.heap[b]?
 own:∀ b,xO ρ' s' b→xO ρ s b∨w.heap.size≤b
 old:∀ i,i<s.next→ρ' i=ρ i
theorem Goes.refl {P:Program}{base:Nat}{ρ:Ren}{s:St}{w:World}(h:HR P base ρ s w):Goes P base ρ s w ρ s w:=
 ⟨Ren.le_refl ρ,h,rfl,rfl,rfl,qar _,qar _,fun _ _ _=>rfl,fun _ h=>.inl h,fun _ _=>rfl⟩
theorem Goes.trans {P:Program}{base:Nat}{ρ ρ' ρ'':Ren}{s s' s'':St}{w w' w'':World}
  (h:Goes P base ρ s w ρ' s' w') (k:Goes P base ρ' s' w' ρ'' s'' w''):Goes P base ρ s w ρ'' s'' w'' where
 le:=Ren.le_trans h.le k.le
 hr:=k.hr
 os:=k.os.trans h.os
 tape:=k.tape.trans h.tape
 output:=k.output.trans h.output
 grow:=qaV h.grow k.grow
 next:=qaV h.next k.next
 frame:=fun b hb hn=>by
  rw [k.frame b (qaH hb h.grow) ?_,h.frame b hb hn]
  intro ho
  rcases h.own b ho with h1|h1
  ·exact hn h1
  ·omega
 own:=fun b hb=>by
  rcases k.own b hb with h1|h1
  ·exact h.own b h1
  ·exact .inr (qaV h.grow h1)
 old:=fun i hi=>(k.old i (qaH hi h.next)).trans (h.old i hi)
theorem xO.base {P:Program}{base:Nat}{ρ:Ren}{s:St}{w:World}(h:HR P base ρ s w){b:Nat}(hb:xO ρ s b):base≤b:=by
 obtain ⟨i,l,a,_,_,hl,rfl⟩:=hb
 exact (h.dom i l hl).2.2.1
theorem Goes.below {P:Program}{base:Nat}{ρ ρ':Ren}{s s':St}{w w':World}(h0:HR P base ρ s w)(h:Goes P base ρ s w ρ' s' w'):RowKit.Below base w w':=
 ⟨h.os,h.tape,h.output,h.grow,fun k hk=>h.frame k (qaH hk h0.iF) fun ho=>by have:=xO.base h0 ho;omega⟩
theorem HR.drew {P:Program}{base:Nat}{ρ:Ren}{s:St}{w:World}(h:HR P base ρ s w)(n:Nat):HR P base ρ s { w with drawn:=n }:=
 ⟨h.dom,h.next,h.iF,h.low,h.dO,h.fM,fun i cs e f hc=>let ⟨l,r⟩:=h.rows i cs e f hc;⟨l,r.at_,r.arr⟩,h.maps,h.loops,h.sep⟩
theorem Goes.drew {P:Program}{base:Nat}{ρ:Ren}{s:St}{w:World}(h:HR P base ρ s w)(n:Nat):Goes P base ρ s w ρ s { w with drawn:=n }:=
 ⟨Ren.le_refl ρ,h.drew n,rfl,rfl,rfl,qar _,qar _,fun _ _ _=>rfl,fun _ h=>.inl h,fun _ _=>rfl⟩
def Ren.set (ρ:Ren)(i:Nat)(l:Loc):Ren:=fun j=>if j=i then some l else ρ j
theorem Ren.dQ (ρ:Ren)(i:Nat)(l:Loc):ρ.set i l i=some l:=by simp [Ren.set]
theorem Ren.iJ (ρ:Ren){i j:Nat}(l:Loc)(h:j≠i):ρ.set i l j=ρ j:=by simp [Ren.set,h]
theorem Ren.Dz {P:Program}{base:Nat}{ρ:Ren}{s:St}{w:World}(h:HR P base ρ s w)(l:Loc):ρ.le (ρ.set s.next l):=by
 intro i q hi
 have:=(h.dom i q hi).2.1
 rw [Ren.iJ ρ l (by omega)]
 exact hi
theorem Ren.dw {ρ:Ren}{i:Nat}(h:ak≤i):ρ.at i=ρ i:=by
 unfold Ren.at;rw [if_neg (by omega)]
theorem Ren.kU {ρ:Ren}{i:Nat}(h:i<ak):ρ.at i=some (Lo.lo i):=by
 unfold Ren.at;rw [if_pos h]
theorem Ren.Ya {ρ:Ren}{i:Nat}(h:i<eU):ρ.at i=some ⟨i,0,0⟩:=by
 have e:eU=32:=rfl
 have e2:ak=64:=rfl
 rw [Ren.kU (by omega),Lo.fix i h]
theorem alc.move {P:Program}{ρ ρ':Ren}{w w':World}{i:Nat}{cs:List Value}{e:TypeId}{f:Nat}{l:Loc}(hle:ρ.le ρ')
  (h:alc P ρ w i cs e f l) (hw:w'.heap[l.blk]? = w.heap[l.blk]?):alc P ρ' w' i cs e f l:=by
 obtain ⟨h1,a,fz,h2,h3,h4⟩:=h
 exact ⟨Ren.abL hle h1,a,fz,by rw [hw];exact h2,fun j x hj=>let ⟨y,hy,hv⟩:=h3 j x hj;⟨y,hy,hv.mono hle⟩,h4⟩
theorem HR.rQ {P:Program}{base:Nat}{ρ:Ren}{s:St}{w:World}(h:HR P base ρ s w){i:Nat}{a:Nat × Nat}{l:Loc}(ht:s.tag i=some a)(hl:ρ.at i=some l):l.blk<w.heap.size:=by
 by_cases hi:i<ak
 ·rw [Ren.kU hi] at hl
  cases hl
  have:=h.low i hi (by rw [ht];simp)
  have:=h.iF
  omega
 ·rw [Ren.dw (by omega)] at hl
  exact (h.dom i l hl).2.2.2
theorem HR.O7 {P:Program}{base:Nat}{ρ:Ren}{s:St}{w:World}(h:HR P base ρ s w){c:List Value × TypeId × Nat}(hc:s.cells fP=some c):False:=by
 obtain ⟨cs,e,f⟩:=c
 exact (h.low fP (by decide) (by rw [dH hc];simp)).2 rfl
theorem qj {s:St}{i:Nat}{es:List MapEntry}{c:Nat}(h:s.heap.get i=some (.map es c)):s.tag i=some (0,i):=by unfold St.tag;rw [h]
theorem kR {s:St}{i:Nat}{r:anE}(h:s.heap.get i=some (.loop r)):s.tag i=some (0,i):=by unfold St.tag;rw [h]
theorem HR.push {P:Program}{base:Nat}{ρ:Ren}{s s':St}{w w':World}(h:HR P base ρ s w)(r:Row)(l:Loc)(o:Obj)
  (hnext:s'.next=s.next+1) (hheap:s'.heap=s.heap.set s.next r)
  (lJ:∀ i t,i≠s.next→s'.tag i=some t→s.tag i=some t)
  (hcells:∀ i c,i≠s.next→s'.cells i=some c→s.cells i=some c)
  (hw:w'.heap=w.heap.push o) (hl:l.blk=w.heap.size)
  (atm:∀ cs e f,r = .row cs e f→f≤s.next)
  (hrow:∀ c,s'.cells s.next=some c→alc P (ρ.set s.next l) w' s.next c.1 c.2.1 c.2.2 l)
  (hmap:∀ es c,r = .map es c→∃ es',o = .map es' c∧EsR (ρ.set s.next l) es es'.toList)
  (hloop:∀ q,r = .loop q→anc (ρ.set s.next l) l q o):HR P base (ρ.set s.next l) s' w':=by
 have hle:=Ren.Dz h l
 have hold:∀ b,b<w.heap.size→w'.heap[b]? = w.heap[b]?:=fun b hb=>by rw [hw,qa3,if_neg (by omega)]
 have hnew:w'.heap[w.heap.size]? = some o:=by rw [hw];simp
 have hsz:w'.heap.size=w.heap.size+1:=by rw [hw];simp
 have hnx:=h.next
 have hbl:=h.iF
 have hother:∀ i,i≠s.next→s'.heap.get i=s.heap.get i:=fun i hi=>by rw [hheap,Hp.get_set_other _ _ hi]
 have hsame:s'.heap.get s.next=some r:=by rw [hheap,Hp.get_set_same]
 refine ⟨?_,by omega,by omega,?_,?_,?_,?_,?_,?_,?_⟩
 ·intro i q hi
  by_cases e:i=s.next
  ·subst e
   rw [Ren.dQ] at hi
   cases hi
   exact ⟨hnx,by omega,by omega,by omega⟩
  ·rw [Ren.iJ ρ l e] at hi
   obtain ⟨a,b,c,d⟩:=h.dom i q hi
   exact ⟨a,by omega,c,by omega⟩
 ·intro i hi ht
  have e:i≠s.next:=by omega
  cases ht':s'.tag i with
  |none=>exact absurd ht' ht
  |some t=>exact h.low i hi (by rw [lJ i t e ht'];simp)
 ·intro i q hi
  by_cases e:i=s.next
  ·omega
  ·rw [hother i e] at hi
   have:=h.dO i q hi
   omega
 ·intro i cs e f hi
  by_cases e':i=s.next
  ·subst e'
   rw [hsame] at hi
   cases hi
   have:=atm cs e f rfl
   omega
  ·rw [hother i e'] at hi
   have:=h.fM i cs e f hi
   omega
 ·intro i cs e f hc
  by_cases e':i=s.next
  ·subst e'
   exact ⟨l,hrow _ hc⟩
  ·have hc':=hcells i _ e' hc
   obtain ⟨q,hq⟩:=h.rows i cs e f hc'
   exact ⟨q,hq.move hle (hold _ (h.rQ (dH hc') hq.at_))⟩
 ·intro i es c hi
  by_cases e':i=s.next
  ·subst e'
   rw [hsame] at hi
   cases hi
   obtain ⟨es',rfl,he⟩:=hmap es c rfl
   exact ⟨l,Ren.dQ _ _ _,es',by rw [hl];exact hnew,he⟩
  ·rw [hother i e'] at hi
   obtain ⟨q,hq,es',h1,h2⟩:=h.maps i es c hi
   exact ⟨q,hle _ _ hq,es',by rw [hold _ (h.dom i q hq).2.2.2];exact h1,h2.mono hle⟩
 ·intro i q hi
  by_cases e':i=s.next
  ·subst e'
   rw [hsame] at hi
   cases hi
   exact ⟨l,Ren.dQ _ _ _,o,by rw [hl];exact hnew,hloop q rfl⟩
  ·rw [hother i e'] at hi
   obtain ⟨u,hu,q',h1,h2⟩:=h.loops i q hi
   exact ⟨u,hle _ _ hu,q',by rw [hold _ (h.dom i u hu).2.2.2];exact h1,h2.mono hle⟩
 ·intro i j a b u v hi hj hab hu hv hh
  by_cases ei:i=s.next
  ·subst ei
   rw [Ren.dw hnx,Ren.dQ] at hu
   cases hu
   by_cases ej:j=s.next
   ·subst ej
    rw [hi] at hj
    exact absurd (Option.some.inj hj) hab
   ·have hj':=lJ j b ej hj
    have hv':ρ.at j=some v:=by
     by_cases hlo:j<ak
     ·rw [Ren.kU hlo] at hv ⊢;exact hv
     ·rw [Ren.dw (by omega)] at hv ⊢;rwa [Ren.iJ ρ l ej] at hv
    have:=h.rQ hj' hv'
    omega
  ·have hi':=lJ i a ei hi
   have hu':ρ.at i=some u:=by
    by_cases hlo:i<ak
    ·rw [Ren.kU hlo] at hu ⊢;exact hu
    ·rw [Ren.dw (by omega)] at hu ⊢;rwa [Ren.iJ ρ l ei] at hu
   by_cases ej:j=s.next
   ·subst ej
    rw [Ren.dw hnx,Ren.dQ] at hv
    cases hv
    have:=h.rQ hi' hu'
    omega
   ·have hj':=lJ j b ej hj
    have hv':ρ.at j=some v:=by
     by_cases hlo:j<ak
     ·rw [Ren.kU hlo] at hv ⊢;exact hv
     ·rw [Ren.dw (by omega)] at hv ⊢;rwa [Ren.iJ ρ l ej] at hv
    exact h.sep i j a b u v hi' hj' hab hu' hv' hh
end Go.Ax
namespace Go.Ax
variable [Lo]
open Go
section
variable {P:Program} {base:Nat} {ρ:Ren} {s s':St} {w w':World}
theorem alloc_at (w:World)(o:Obj):(w.alloc o).heap[w.heap.size]? = some o:=by
 show (w.heap.push o)[w.heap.size]? = _
 simp
theorem Goes.push (h:HR P base ρ s w)(r:Row)(l:Loc)(o:Obj)
  (hnext:s'.next=s.next+1) (hheap:s'.heap=s.heap.set s.next r)
  (lJ:∀ i t,i≠s.next→s'.tag i=some t→s.tag i=some t)
  (hcells:∀ i c,i≠s.next→s'.cells i=some c→s.cells i=some c)
  (hw:w'.heap=w.heap.push o) (hos:w'.os=w.os) (hta:w'.tape=w.tape) (hou:w'.output=w.output) (hl:l.blk=w.heap.size)
  (atm:∀ cs e f,r = .row cs e f→f≤s.next)
  (hrow:∀ c,s'.cells s.next=some c→alc P (ρ.set s.next l) w' s.next c.1 c.2.1 c.2.2 l)
  (hmap:∀ es c,r = .map es c→∃ es',o = .map es' c∧EsR (ρ.set s.next l) es es'.toList)
  (hloop:∀ q,r = .loop q→anc (ρ.set s.next l) l q o):Goes P base ρ s w (ρ.set s.next l) s' w':=by
 refine ⟨Ren.Dz h l,h.push r l o hnext hheap lJ hcells hw hl atm hrow hmap hloop,hos,hta,hou,by rw [hw];simp,by omega,?_,?_,fun i hi=>Ren.iJ ρ l (by omega)⟩
 ·intro b hb _
  rw [hw,qa3,if_neg (by omega)]
 ·rintro b ⟨i,q,a,hi,ht,hq,rfl⟩
  by_cases e:i=s.next
  ·subst e
   rw [Ren.dQ] at hq
   cases hq
   right;omega
  ·rw [Ren.iJ ρ l e] at hq
   exact .inl ⟨i,q,a,hi,lJ i a e ht,hq,rfl⟩
theorem jg {t:Hp Row}{bZ:Hp (List Nat)}{n k i:Nat}{r:Row}(hi:i≠k):St.tag { heap:=t.set k r,bZ:=bZ,next:=n } i=St.tag { heap:=t,bZ:=bZ,next:=n } i:=by
 unfold St.tag
 simp only [Hp.get_set_other _ _ hi]
theorem iC {t:Hp Row}{bZ:Hp (List Nat)}{n k i:Nat}{r:Row}(hi:i≠k):St.cells { heap:=t.set k r,bZ:=bZ,next:=n } i=St.cells { heap:=t,bZ:=bZ,next:=n } i:=by
 unfold St.cells
 simp only [Hp.get_set_other _ _ hi]
theorem qB {t:Hp Row}{bZ:Hp (List Nat)}{n k i f:Nat}{r:Row}{ch:List Nat}{a:Nat × Nat}(hi:i≠k)
  (hch:∀ j,j∈ch→j≠k→∃ l,bZ.get f=some l∧j∈l)
  (h:St.tag { heap:=t.set k r,bZ:=bZ.set f ch,next:=n } i=some a):St.tag { heap:=t,bZ:=bZ,next:=n } i=some a:=by
 unfold St.tag at h ⊢
 simp only [Hp.get_set_other _ _ hi] at h
 cases hg:t.get i with
 |none=>simp [hg] at h
 |some x=>
  simp only [hg] at h ⊢
  cases x with
  |row cs e g=>
   simp only at h ⊢
   by_cases h0:g=0
   ·simpa [h0] using h
   ·simp only [h0,if_false] at h ⊢
    by_cases hgf:g=f
    ·subst hgf
     simp only [Hp.get_set_same] at h
     split at h
     ·rename_i hm
      obtain ⟨l,hl,hj⟩:=hch i hm hi
      simpa [hl,hj] using h
     ·cases h
    ·simpa only [Hp.get_set_other _ _ hgf] using h
  |map es c=>exact h
  |loop q=>exact h
  |other=>exact h
theorem lM {t:Hp Row}{bZ:Hp (List Nat)}{n k i f:Nat}{r:Row}{ch:List Nat}{c:List Value × TypeId × Nat}(hi:i≠k)
  (hch:∀ j,j∈ch→j≠k→∃ l,bZ.get f=some l∧j∈l)
  (h:St.cells { heap:=t.set k r,bZ:=bZ.set f ch,next:=n } i=some c):St.cells { heap:=t,bZ:=bZ,next:=n } i=some c:=by
 obtain ⟨cs,e,g⟩:=c
 rw [aO] at h ⊢
 simp only [Hp.get_set_other _ _ hi] at h
 refine ⟨h.1,?_⟩
 rcases h.2 with h2|⟨l,hl,hm⟩
 ·exact .inl h2
 ·by_cases hgf:g=f
  ·subst hgf
   simp only [Hp.get_set_same] at hl
   cases hl
   exact .inr (hch i hm hi)
  ·simp only [Hp.get_set_other _ _ hgf] at hl
   exact .inr ⟨l,hl,hm⟩
theorem Goes.newRow (h:HR P base ρ s w){cs:List Value}{e:TypeId}{a:Array Value}(ha:VRs ρ cs a.toList) :
  Goes P base ρ s w (ρ.set s.next ⟨w.heap.size,0,0⟩) { heap:=s.heap.set s.next (.row cs e 0),bZ:=s.bZ,next:=qak s.next } (w.alloc (.cells a e)):=by
 refine Goes.push h (.row cs e 0) ⟨w.heap.size,0,0⟩ (.cells a e) rfl rfl (fun i t hi ht=>?_) (fun i c hi hc=>?_) rfl rfl rfl rfl rfl ?_ ?_ (fun _ _ e=>by cases e) (fun _ e=>by cases e)
 ·rw [jg hi] at ht;exact ht
 ·rw [iC hi] at hc;exact hc
 ·intro cs' e' f hr;cases hr;omega
 ·rintro ⟨cs',e',f⟩ hc
  obtain ⟨h1,_⟩:=aO.1 hc
  rw [Hp.get_set_same] at h1
  cases h1
  have hlen:=ha.length
  simp at hlen
  refine ⟨by rw [Ren.dw h.next,Ren.dQ],a,(0,0),⟨_,alloc_at _ _,fun _=>rfl⟩,?_,fun _ o _=>by omega,fun _=>⟨rfl,hlen,fun _ hh=>absurd hh.2 (qaU _)⟩,fun h0=>absurd rfl h0⟩
  intro j x hj
  obtain ⟨y,hy,hv⟩:=ha.get hj
  exact ⟨y,by simpa using hy,hv.mono (Ren.Dz h _)⟩
theorem Goes.awV (h:HR P base ρ s w){cs:List Value}{e:TypeId}{a:Array Value}{cap n k:Nat}(hn:size P e=some n)(hn0:0<n)
  (ha:∀ (j:Nat) (x:Value),cs[j]? = some x→∃ y,a[j]? = some y∧VR ρ x y) (hsz:a.size=cap*n) (hle:cs.length≤cap*n) :
  Goes P base ρ s w (ρ.set s.next ⟨w.heap.size,0,cap⟩) { heap:=s.heap.set s.next (.row cs e s.next),bZ:=s.bZ.set s.next [s.next],next:=qak s.next }
   ({ w with drawn:=k }.alloc (.cells a e)):=by
 have hch:∀ j,j∈[s.next]→j≠s.next→∃ l,s.bZ.get s.next=some l∧j∈l:=fun j hj hne=>absurd (by simpa using hj) hne
 refine Goes.push h (.row cs e s.next) ⟨w.heap.size,0,cap⟩ (.cells a e) rfl rfl (fun i t hi ht=>?_) (fun i c hi hc=>?_) rfl rfl rfl rfl rfl ?_ ?_ (fun _ _ e=>by cases e) (fun _ e=>by cases e)
 ·exact qB hi hch ht
 ·exact lM hi hch hc
 ·intro cs' e' f hr;cases hr;omega
 ·rintro ⟨cs',e',f⟩ hc
  obtain ⟨h1,_⟩:=aO.1 hc
  rw [Hp.get_set_same] at h1
  cases h1
  have:=h.next
  have hft:ak=64:=rfl
  refine ⟨by rw [Ren.dw h.next,Ren.dQ],a,(0,0),⟨_,alloc_at { w with drawn:=k } _,fun _=>rfl⟩,?_,fun _ o _=>by omega,fun h0=>absurd (show s.next=0 from h0) (by omega),fun _=>⟨n,hn,hn0,by simp [hsz],hle⟩⟩
  intro j x hj
  obtain ⟨y,hy,hv⟩:=ha j x hj
  exact ⟨y,by simpa using hy,hv.mono (Ren.Dz h _)⟩
theorem Goes.awY (h:HR P base ρ s w):Goes P base ρ s w (ρ.set s.next ⟨w.heap.size,0,0⟩) { heap:=s.heap.set s.next (.map [] 0),bZ:=s.bZ,next:=qak s.next } (w.alloc (.map #[] 0)):=by
 refine Goes.push h (.map [] 0) ⟨w.heap.size,0,0⟩ (.map #[] 0) rfl rfl (fun i t hi ht=>?_) (fun i c hi hc=>?_) rfl rfl rfl rfl rfl (fun _ _ _ e=>by cases e) ?_ ?_ (fun _ e=>by cases e)
 ·rw [jg hi] at ht;exact ht
 ·rw [iC hi] at hc;exact hc
 ·rintro ⟨cs',e',f⟩ hc
  obtain ⟨h1,_⟩:=aO.1 hc
  rw [Hp.get_set_same] at h1
  cases h1
 ·intro es c hr
  cases hr
  exact ⟨#[],rfl,.nil⟩
theorem Goes.an6 (h:HR P base ρ s w)(o:Obj):Goes P base ρ s w (ρ.set s.next ⟨w.heap.size,0,0⟩) { heap:=s.heap.set s.next .other,bZ:=s.bZ,next:=qak s.next } (w.alloc o):=by
 refine Goes.push h .other ⟨w.heap.size,0,0⟩ o rfl rfl (fun i t hi ht=>?_) (fun i c hi hc=>?_) rfl rfl rfl rfl rfl (fun _ _ _ e=>by cases e) ?_ (fun _ _ e=>by cases e) (fun _ e=>by cases e)
 ·rw [jg hi] at ht;exact ht
 ·rw [iC hi] at hc;exact hc
 ·rintro ⟨cs',e',f⟩ hc
  obtain ⟨h1,_⟩:=aO.1 hc
  rw [Hp.get_set_same] at h1
  cases h1
theorem Goes.aq5 (h:HR P base ρ s w){r:Ee}{q:Loop}(hr:Yk ρ r q):Goes P base ρ s w (ρ.set s.next ⟨w.heap.size,0,0⟩) { heap:=s.heap.set s.next (.loop (.loop r)),bZ:=s.bZ,next:=qak s.next } (w.alloc (.loop q)):=by
 refine Goes.push h (.loop (.loop r)) ⟨w.heap.size,0,0⟩ (.loop q) rfl rfl (fun i t hi ht=>?_) (fun i c hi hc=>?_) rfl rfl rfl rfl rfl (fun _ _ _ e=>by cases e) ?_ (fun _ _ e=>by cases e) ?_
 ·rw [jg hi] at ht;exact ht
 ·rw [iC hi] at hc;exact hc
 ·rintro ⟨cs',e',f⟩ hc
  obtain ⟨h1,_⟩:=aO.1 hc
  rw [Hp.get_set_same] at h1
  cases h1
 ·intro q' e
  cases e
  exact .loop (hr.mono (Ren.Dz h _))
theorem Goes.arR (h:HR P base ρ s w){r:abt}{m:Loc}(hm:ρ r.map=some m):Goes P base ρ s w (ρ.set s.next ⟨w.heap.size,0,0⟩) { heap:=s.heap.set s.next (.loop (.iter r)),bZ:=s.bZ,next:=qak s.next } (w.alloc (.mapIter (some m.blk) r.since ⟨r.seen⟩ r.stepped)):=by
 refine Goes.push h (.loop (.iter r)) ⟨w.heap.size,0,0⟩ (.mapIter (some m.blk) r.since ⟨r.seen⟩ r.stepped) rfl rfl (fun i t hi ht=>?_) (fun i c hi hc=>?_) rfl rfl rfl rfl rfl (fun _ _ _ e=>by cases e) ?_ (fun _ _ e=>by cases e) ?_
 ·rw [jg hi] at ht;exact ht
 ·rw [iC hi] at hc;exact hc
 ·rintro ⟨cs',e',f⟩ hc
  obtain ⟨h1,_⟩:=aO.1 hc
  rw [Hp.get_set_same] at h1
  cases h1
 ·intro q' e
  cases e
  exact .iter rfl (Ren.Dz h _ _ _ hm)
theorem Goes.put (h:HR P base ρ s w){b:Nat}{cs cs':List Value}{e:TypeId}{f:Nat}{l:Loc}(hb:ak≤b)(hc:s.cells b=some (cs,e,f))(hl:ρ.at b=some l)
  {a a':Array Value} {fz:Nat × Nat} (ha:w.heap[l.blk]? = some (.cells a e fz)) (hlen:cs'.length=cs.length) (hsz:a'.size=a.size)
  (hv:∀ (j:Nat) (x:Value),cs'[j]? = some x→∃ y,a'[l.off+j]? = some y∧VR ρ x y):Goes P base ρ s w ρ (putRow s b cs' e f) (w.setRow l.blk a'):=by
 obtain ⟨hg,hlive⟩:=aO.1 hc
 have htb:=dH hc
 have hlt:=h.rQ htb hl
 have hother:∀ k,k≠l.blk→(w.setRow l.blk a').heap[k]? = w.heap[k]?:=fun k hk=>by
  simp only [World.setRow,qaX]
  rw [if_neg (by omega)]
 have hsame:(w.setRow l.blk a').heap[l.blk]? = some (.cells a' e fz):=setRow_heap w l.blk a a' e fz ha
 have hsize:(w.setRow l.blk a').heap.size=w.heap.size:=by simp [World.setRow]
 have hch:∀ j,j∈[b]→j≠b→∃ q,s.bZ.get f=some q∧j∈q:=fun j hj hne=>absurd (by simpa using hj) hne
 have lJ:∀ i t,i≠b→(putRow s b cs' e f).tag i=some t→s.tag i=some t:=by
  intro i t hi ht
  unfold putRow at ht
  by_cases h0:f=0
  ·subst h0
   exact (jg (n:=s.next) hi)▸ht
  ·have:qaf f 0=false:=by rw [←qaC,qaE];exact h0
   rw [this,aP] at ht
   exact qB hi hch ht
 have hcells:∀ i c,i≠b→(putRow s b cs' e f).cells i=some c→s.cells i=some c:=by
  intro i c hi ht
  unfold putRow at ht
  by_cases h0:f=0
  ·subst h0
   exact (iC (n:=s.next) hi)▸ht
  ·have:qaf f 0=false:=by rw [←qaC,qaE];exact h0
   rw [this,aP] at ht
   exact lM hi hch ht
 have hdiff:∀ i t,i≠b→(putRow s b cs' e f).tag i=some t→t≠(if f=0 then (0,b) else (1,f)):=by
  intro i t hi ht
  have ht':=lJ i t hi ht
  unfold putRow at ht
  by_cases h0:f=0
  ·subst h0
   simp only [if_true]
   rintro rfl
   unfold St.tag at ht'
   split at ht'
   ·split at ht'
    ·simp at ht';exact hi ht'
    ·split at ht'
     ·split at ht' <;> simp at ht'
     ·cases ht'
   ·simp at ht';exact hi ht'
   ·simp at ht';exact hi ht'
   ·cases ht'
  ·have hbf:qaf f 0=false:=by rw [←qaC,qaE];exact h0
   rw [hbf,aP] at ht
   simp only [h0,if_false]
   rintro rfl
   unfold St.tag at ht
   simp only [Hp.get_set_other _ _ hi] at ht
   split at ht
   ·rename_i cs1 e1 g1 hg1
    by_cases h1:g1=0
    ·simp [h1] at ht
    ·simp only [h1,if_false] at ht
     by_cases hgf:g1=f
     ·subst hgf
      simp only [Hp.get_set_same,List.mem_singleton,hi,if_false] at ht
      cases ht
     ·split at ht
      ·split at ht
       ·simp at ht;exact hgf ht
       ·cases ht
      ·cases ht
   ·simp at ht
   ·simp at ht
   ·cases ht
 have hrow:∀ i t q,i≠b→(putRow s b cs' e f).tag i=some t→ρ.at i=some q→q.blk≠l.blk:=by
  intro i t q hi ht hq
  exact h.sep i b t _ q l (lJ i t hi ht) htb (hdiff i t hi ht) hq hl (.inr hb)
 have htb':(putRow s b cs' e f).tag b=some (if f=0 then (0,b) else (1,f)):=by
  unfold putRow St.tag
  simp only [Hp.get_set_same]
  by_cases h0:f=0
  ·simp [h0]
  ·have hbf:qaf f 0=false:=by rw [←qaC,qaE];exact h0
   simp [h0,hbf,aP,Hp.get_set_same]
 have hHR:HR P base ρ (putRow s b cs' e f) (w.setRow l.blk a'):=by
  refine ⟨fun i q hi=>?_,h.next,by rw [hsize];exact h.iF,fun i hi ht=>?_,fun i r hi=>?_,fun i cs1 e1 f1 hi=>?_,fun i cs1 e1 f1 hi=>?_,fun i es c hi=>?_,fun i r hi=>?_,fun i j x y u v hi hj hxy hu hv=>?_⟩
  ·rw [hsize];exact h.dom i q hi
  ·have hib:i≠b:=by omega
   cases ht':(putRow s b cs' e f).tag i with
   |none=>exact absurd ht' ht
   |some t=>exact h.low i hi (by rw [lJ i t hib ht'];simp)
  ·by_cases hib:i=b
   ·subst hib;exact h.dO i _ hg
   ·unfold putRow at hi
    simp only [Hp.get_set_other _ _ hib] at hi
    exact h.dO i r hi
  ·by_cases hib:i=b
   ·subst hib
    unfold putRow at hi
    simp only [Hp.get_set_same] at hi
    cases hi
    exact h.fM i _ _ _ hg
   ·unfold putRow at hi
    simp only [Hp.get_set_other _ _ hib] at hi
    exact h.fM i _ _ _ hi
  ·by_cases hib:i=b
   ·subst hib
    obtain ⟨h1,_⟩:=aO.1 hi
    unfold putRow at h1
    simp only [Hp.get_set_same] at h1
    cases h1
    obtain ⟨q,hq⟩:=h.rows i cs e f hc
    have hql:q=l:=by have:=hq.at_;rw [hl] at this;exact (Option.some.inj this).symm
    subst hql
    obtain ⟨_,a0,fz0,⟨e9,g1,_⟩,g2,g3,g4,g5⟩:=hq
    rw [ha] at g1
    cases g1
    exact ⟨q,hl,a',fz,⟨_,hsame,fun _=>rfl⟩,hv,fun hi o ho=>g3 hi o (by omega),fun h0=>⟨(g4 h0).1,by rw [hsz,(g4 h0).2.1,hlen],fun hi=>by rw [hsz];exact (g4 h0).2.2 hi⟩,fun h0=>by rw [hsz,hlen];exact g5 h0⟩
   ·have hi':=hcells i _ hib hi
    obtain ⟨q,hq⟩:=h.rows i cs1 e1 f1 hi'
    exact ⟨q,hq.move (Ren.le_refl ρ) (hother _ (hrow i _ q hib (dH hi) hq.at_))⟩
  ·have hib:i≠b:=by
    rintro rfl
    unfold putRow at hi
    simp only [Hp.get_set_same] at hi
    cases hi
   have ht:(putRow s b cs' e f).tag i=some (0,i):=qj hi
   unfold putRow at hi
   simp only [Hp.get_set_other _ _ hib] at hi
   obtain ⟨q,hq,es',h1,h2⟩:=h.maps i es c hi
   exact ⟨q,hq,es',by rw [hother _ (hrow i _ q hib ht (by rw [Ren.dw (h.dom i q hq).1];exact hq))];exact h1,h2⟩
  ·have hib:i≠b:=by
    rintro rfl
    unfold putRow at hi
    simp only [Hp.get_set_same] at hi
    cases hi
   have ht:(putRow s b cs' e f).tag i=some (0,i):=kR hi
   unfold putRow at hi
   simp only [Hp.get_set_other _ _ hib] at hi
   obtain ⟨q,hq,es',h1,h2⟩:=h.loops i r hi
   exact ⟨q,hq,es',by rw [hother _ (hrow i _ q hib ht (by rw [Ren.dw (h.dom i q hq).1];exact hq))];exact h1,h2⟩
  ·have hi':s.tag i=some x:=by
    by_cases hib:i=b
    ·subst hib;rw [htb'] at hi;rw [htb];exact hi
    ·exact lJ i x hib hi
   have hj':s.tag j=some y:=by
    by_cases hjb:j=b
    ·subst hjb;rw [htb'] at hj;rw [htb];exact hj
    ·exact lJ j y hjb hj
   exact h.sep i j x y u v hi' hj' hxy hu hv
 refine ⟨Ren.le_refl ρ,hHR,rfl,rfl,rfl,by rw [hsize];exact qar _,qar _,fun k hk hn=>hother k ?_,?_,fun _ _=>rfl⟩
 ·rintro rfl
  exact hn ⟨b,l,_,hb,htb,by rwa [Ren.dw hb] at hl,rfl⟩
 ·rintro k ⟨i,q,t,hi,ht,hq,rfl⟩
  left
  by_cases hib:i=b
  ·subst hib;rw [htb'] at ht;exact ⟨i,q,t,hi,by rw [htb];exact ht,hq,rfl⟩
  ·exact ⟨i,q,t,hi,lJ i t hib ht,hq,rfl⟩
theorem Goes.share (h:HR P base ρ s w){b:Nat}{cs cells:List Value}{e:TypeId}{f:Nat}{l ln:Loc}(hb:ak≤b)(hc:s.cells b=some (cs,e,f))(hf:f≠0)(hl:ρ.at b=some l)
  {a a':Array Value} {fz:Nat × Nat} (ha:w.heap[l.blk]? = some (.cells a e fz)) (hsz:a'.size=a.size)
  (hv:∀ (j:Nat) (x:Value),cs[j]? = some x→∃ y,a'[l.off+j]? = some y∧VR ρ x y)
  (hln:ln.blk=l.blk) (hn:∀ (j:Nat) (x:Value),cells[j]? = some x→∃ y,a'[ln.off+j]? = some y∧VR ρ x y)
  (hcap:∀ n,size P e=some n→ln.off+ln.cap*n≤a.size∧cells.length≤ln.cap*n) :
  Goes P base ρ s w (ρ.set s.next ln) { heap:=s.heap.set s.next (.row cells e f),bZ:=s.bZ.set f [s.next,b],next:=qak s.next } (w.setRow l.blk a'):=by
 obtain ⟨hg,hlive⟩:=aO.1 hc
 have hle:=Ren.Dz h ln
 have htb:=dH hc
 have hlt:=h.rQ htb hl
 have hbn:b<s.next:=h.dO b _ hg
 have hnx:=h.next
 have hfn:=h.fM b _ _ _ hg
 have hlb:ρ b=some l:=by rwa [Ren.dw hb] at hl
 obtain ⟨q0,hq0⟩:=h.rows b cs e f hc
 have hql:q0=l:=by have:=hq0.at_;rw [hl] at this;exact (Option.some.inj this).symm
 subst hql
 obtain ⟨_,a0,fz0,⟨e9,g1,_⟩,g2,g3,g4,g5⟩:=hq0
 rw [ha] at g1
 cases g1
 obtain ⟨n,hn1,hn2,hn3,hn4⟩:=g5 hf
 have hother:∀ k,k≠q0.blk→(w.setRow q0.blk a').heap[k]? = w.heap[k]?:=fun k hk=>by
  simp only [World.setRow,qaX]
  rw [if_neg (by omega)]
 have hsame:(w.setRow q0.blk a').heap[q0.blk]? = some (.cells a' e fz):=setRow_heap w q0.blk a a' e fz ha
 have hsize:(w.setRow q0.blk a').heap.size=w.heap.size:=by simp [World.setRow]
 obtain ⟨lst,azT,hmem⟩:=hlive.resolve_left hf
 have hch:∀ j,j∈[s.next,b]→j≠s.next→∃ q,s.bZ.get f=some q∧j∈q:=fun j hj hne=>by
  have:j=b:=by simpa [hne] using hj
  subst this
  exact ⟨lst,azT,hmem⟩
 generalize hs':({ heap:=s.heap.set s.next (.row cells e f),bZ:=s.bZ.set f [s.next,b],next:=qak s.next }:St)=s'
 have hheap:s'.heap=s.heap.set s.next (.row cells e f):=by rw [←hs']
 have aAF:s'.next=s.next+1:=by rw [←hs']
 have lJ:∀ i t,i≠s.next→s'.tag i=some t→s.tag i=some t:=by
  intro i t hi ht
  rw [←hs'] at ht
  exact qB hi hch ht
 have hcells:∀ i c,i≠s.next→s'.cells i=some c→s.cells i=some c:=by
  intro i c hi ht
  rw [←hs'] at ht
  exact lM hi hch ht
 have htn:s'.tag s.next=some (1,f):=by
  rw [←hs'];unfold St.tag
  simp [Hp.get_set_same,hf]
 have ayL:s.tag b=some (1,f):=by rw [htb];simp [hf]
 have hdiff:∀ i t,i≠s.next→i≠b→s'.tag i=some t→t≠(1,f):=by
  intro i t hi hib ht
  rw [←hs'] at ht
  rintro rfl
  unfold St.tag at ht
  simp only [Hp.get_set_other _ _ hi] at ht
  split at ht
  ·rename_i cs1 e1 g1 hg1
   by_cases h1:g1=0
   ·simp [h1] at ht
   ·simp only [h1,if_false] at ht
    by_cases hgf:g1=f
    ·subst hgf
     simp [Hp.get_set_same,hi,hib] at ht
    ·split at ht
     ·split at ht
      ·simp at ht;exact hgf ht
      ·cases ht
     ·cases ht
  ·simp at ht
  ·simp at ht
  ·cases ht
 have hblk:∀ i t q,i≠s.next→i≠b→s'.tag i=some t→ρ.at i=some q→q.blk≠q0.blk:=fun i t q hi hib ht hq=>
  h.sep i b t _ q q0 (lJ i t hi ht) ayL (hdiff i t hi hib ht) hq hl (.inr hb)
 have ax4:(ρ.set s.next ln).at s.next=some ln:=by rw [Ren.dw hnx,Ren.dQ]
 have axL:∀ i,i≠s.next→(ρ.set s.next ln).at i=ρ.at i:=fun i hi=>by
  by_cases hlo:i<ak
  ·rw [Ren.kU hlo,Ren.kU hlo]
  ·rw [Ren.dw (by omega),Ren.dw (by omega),Ren.iJ ρ ln hi]
 have hHR:HR P base (ρ.set s.next ln) s' (w.setRow q0.blk a'):=by
  refine ⟨fun i q hi=>?_,by omega,by rw [hsize];exact h.iF,fun i hi ht=>?_,fun i r hi=>?_,fun i cs1 e1 f1 hi=>?_,fun i cs1 e1 f1 hi=>?_,fun i es c hi=>?_,fun i r hi=>?_,fun i j x y u v hi hj hxy hu hv hh=>?_⟩
  ·rw [hsize]
   by_cases e':i=s.next
   ·subst e'
    rw [Ren.dQ] at hi
    cases hi
    have:=h.dom b q0 hlb
    exact ⟨hnx,by omega,by omega,by omega⟩
   ·rw [Ren.iJ ρ ln e'] at hi
    obtain ⟨x,y,z,u⟩:=h.dom i q hi
    exact ⟨x,by omega,z,u⟩
  ·have e':i≠s.next:=by omega
   cases ht':s'.tag i with
   |none=>exact absurd ht' ht
   |some t=>exact h.low i hi (by rw [lJ i t e' ht'];simp)
  ·by_cases e':i=s.next
   ·omega
   ·rw [hheap,Hp.get_set_other _ _ e'] at hi
    have:=h.dO i r hi
    omega
  ·by_cases e':i=s.next
   ·subst e'
    rw [hheap,Hp.get_set_same] at hi
    cases hi
    omega
   ·rw [hheap,Hp.get_set_other _ _ e'] at hi
    have:=h.fM i _ _ _ hi
    omega
  ·by_cases e':i=s.next
   ·subst e'
    obtain ⟨h1,_⟩:=aO.1 hi
    rw [hheap,Hp.get_set_same] at h1
    cases h1
    obtain ⟨c1,c2⟩:=hcap n hn1
    exact ⟨ln,ax4,a',fz,⟨_,by rw [hln];exact hsame,fun _=>rfl⟩,fun j x hj=>let ⟨y,hy,hv⟩:=hn j x hj;⟨y,hy,hv.mono hle⟩,fun _ o ho=>g3 hb o (by omega),
     fun h0=>absurd h0 hf,fun _=>⟨n,hn1,hn2,by omega,c2⟩⟩
   ·have hi':=hcells i _ e' hi
    by_cases hib:i=b
    ·subst hib
     rw [hc] at hi'
     cases hi'
     exact ⟨q0,by rw [axL i e'];exact hl,a',fz,⟨_,hsame,fun _=>rfl⟩,fun j x hj=>let ⟨y,hy,hv⟩:=hv j x hj;⟨y,hy,hv.mono hle⟩,fun hi o ho=>g3 hi o (by omega),
      fun h0=>absurd h0 hf,fun _=>⟨n,hn1,hn2,by omega,hn4⟩⟩
    ·obtain ⟨q,hq⟩:=h.rows i cs1 e1 f1 hi'
     exact ⟨q,hq.move hle (hother _ (hblk i _ q e' hib (dH hi) hq.at_))⟩
  ·have e':i≠s.next:=by
    rintro rfl
    rw [hheap,Hp.get_set_same] at hi
    cases hi
   have ht:s'.tag i=some (0,i):=qj hi
   rw [hheap,Hp.get_set_other _ _ e'] at hi
   have hib:i≠b:=by rintro rfl;rw [hg] at hi;cases hi
   obtain ⟨q,hq,es',h1,h2⟩:=h.maps i es c hi
   exact ⟨q,hle _ _ hq,es',by rw [hother _ (hblk i _ q e' hib ht (by rw [Ren.dw (h.dom i q hq).1];exact hq))];exact h1,h2.mono hle⟩
  ·have e':i≠s.next:=by
    rintro rfl
    rw [hheap,Hp.get_set_same] at hi
    cases hi
   have ht:s'.tag i=some (0,i):=kR hi
   rw [hheap,Hp.get_set_other _ _ e'] at hi
   have hib:i≠b:=by rintro rfl;rw [hg] at hi;cases hi
   obtain ⟨q,hq,es',h1,h2⟩:=h.loops i r hi
   exact ⟨q,hle _ _ hq,es',by rw [hother _ (hblk i _ q e' hib ht (by rw [Ren.dw (h.dom i q hq).1];exact hq))];exact h1,h2.mono hle⟩
  ·by_cases ei:i=s.next
   ·subst ei
    rw [htn] at hi
    cases hi
    rw [ax4] at hu
    cases hu
    have ej:j≠s.next:=by rintro rfl;rw [htn] at hj;cases hj;exact hxy rfl
    rw [axL j ej] at hv
    rw [hln]
    exact h.sep b j _ y q0 v ayL (lJ j y ej hj) hxy hl hv (.inl hb)
   ·rw [axL i ei] at hu
    by_cases ej:j=s.next
    ·subst ej
     rw [htn] at hj
     cases hj
     rw [ax4] at hv
     cases hv
     rw [hln]
     exact h.sep i b x _ u q0 (lJ i x ei hi) ayL hxy hu hl (.inr hb)
    ·rw [axL j ej] at hv
     exact h.sep i j x y u v (lJ i x ei hi) (lJ j y ej hj) hxy hu hv hh
 refine ⟨hle,hHR,rfl,rfl,rfl,by rw [hsize];exact qar _,by omega,fun k hk hn=>hother k ?_,?_,fun i hi=>Ren.iJ ρ ln (by omega)⟩
 ·rintro rfl
  exact hn ⟨b,q0,_,hb,htb,hlb,rfl⟩
 ·rintro k ⟨i,q,t,hi,ht,hq,rfl⟩
  left
  by_cases e':i=s.next
  ·subst e'
   rw [Ren.dQ] at hq
   cases hq
   exact ⟨b,q0,_,hb,htb,hlb,hln.symm⟩
  ·rw [Ren.iJ ρ ln e'] at hq
   exact ⟨i,q,t,hi,lJ i t e' ht,hq,rfl⟩
theorem Goes.adI (h:HR P base ρ s w){b:Nat}{cs cells:List Value}{e:TypeId}{f:Nat}{cap n k:Nat}(hc:s.cells b=some (cs,e,f))(hf:f≠0){a:Array Value}
  (hn:size P e=some n) (hn0:0<n) (ha:∀ (j:Nat) (x:Value),cells[j]? = some x→∃ y,a[j]? = some y∧VR ρ x y) (hsz:a.size=cap*n) (hle:cells.length≤cap*n) :
  Goes P base ρ s w (ρ.set s.next ⟨w.heap.size,0,cap⟩) { heap:=s.heap.set s.next (.row cells e f),bZ:=s.bZ.set f [s.next,b],next:=qak s.next }
   ({ w with drawn:=k }.alloc (.cells a e)):=by
 obtain ⟨hg,hlive⟩:=aO.1 hc
 obtain ⟨lst,azT,hmem⟩:=hlive.resolve_left hf
 have hfn:=h.fM b _ _ _ hg
 have hch:∀ j,j∈[s.next,b]→j≠s.next→∃ q,s.bZ.get f=some q∧j∈q:=fun j hj hne=>by
  have:j=b:=by simpa [hne] using hj
  subst this
  exact ⟨lst,azT,hmem⟩
 refine Goes.push h (.row cells e f) ⟨w.heap.size,0,cap⟩ (.cells a e) rfl rfl (fun i t hi ht=>?_) (fun i c hi hc=>?_) rfl rfl rfl rfl rfl ?_ ?_ (fun _ _ e=>by cases e) (fun _ e=>by cases e)
 ·exact qB hi hch ht
 ·exact lM hi hch hc
 ·intro cs' e' f hr;cases hr;omega
 ·rintro ⟨cs',e',f'⟩ hc
  obtain ⟨h1,_⟩:=aO.1 hc
  rw [Hp.get_set_same] at h1
  cases h1
  refine ⟨by rw [Ren.dw h.next,Ren.dQ],a,(0,0),⟨_,alloc_at { w with drawn:=k } _,fun _=>rfl⟩,?_,fun _ o _=>by omega,fun h0=>absurd h0 hf,fun _=>⟨n,hn,hn0,by simp [hsz],hle⟩⟩
  intro j x hj
  obtain ⟨y,hy,hv⟩:=ha j x hj
  exact ⟨y,by simpa using hy,hv.mono (Ren.Dz h _)⟩
theorem Goes.putObj (h:HR P base ρ s w){i:Nat}{l:Loc}{r:Row}{o:Obj}(ht:s.tag i=some (0,i))(hl:ρ i=some l)
  (hr:(∃ es c,r = .map es c∧∃ es',o = .map es' c∧EsR ρ es es'.toList)∨(∃ q,r = .loop q∧anc ρ l q o)) :
  Goes P base ρ s w ρ (s.put i r) { w with heap:=w.heap.setIfInBounds l.blk o }:=by
 obtain ⟨d1,d2,d3,d4⟩:=h.dom i l hl
 have hother:∀ k,k≠l.blk→(w.heap.setIfInBounds l.blk o)[k]? = w.heap[k]?:=fun k hk=>by
  rw [qaN,if_neg (by omega)]
 have hsame:(w.heap.setIfInBounds l.blk o)[l.blk]? = some o:=by
  rw [qaN,if_pos rfl,if_pos d4]
 have hsize:(w.heap.setIfInBounds l.blk o).size=w.heap.size:=by simp
 have hget:∀ j,j≠i→(s.put i r).heap.get j=s.heap.get j:=fun j hj=>Hp.get_set_other _ _ hj
 have Px:(s.put i r).heap.get i=some r:=Hp.get_set_same _ _ _
 have hti:(s.put i r).tag i=some (0,i):=by
  rcases hr with ⟨es,c,rfl,_⟩|⟨q,rfl,_⟩
  ·exact qj Px
  ·exact kR Px
 have lJ:∀ j t,(s.put i r).tag j=some t→s.tag j=some t:=by
  intro j t hj
  by_cases e:j=i
  ·subst e;rw [hti] at hj;rw [ht];exact hj
  ·unfold St.tag at hj ⊢
   rw [hget j e] at hj
   exact hj
 have hcells:∀ j c,(s.put i r).cells j=some c→j≠i∧s.cells j=some c:=by
  rintro j ⟨cs,e,f⟩ hj
  have hj':=aO.1 hj
  have hji:j≠i:=by
   rintro rfl
   rw [Px] at hj'
   rcases hr with ⟨es,c,rfl,_⟩|⟨q,rfl,_⟩ <;> simp at hj'
  exact ⟨hji,aO.2 ⟨by rw [←hget j hji];exact hj'.1,hj'.2⟩⟩
 have hblk:∀ j t q,j≠i→s.tag j=some t→ρ.at j=some q→q.blk≠l.blk:=by
  intro j t q hj htj hq
  refine h.sep j i t _ q l htj ht ?_ hq (by rw [Ren.dw d1];exact hl) (.inr d1)
  rintro rfl
  unfold St.tag at htj
  split at htj
  ·split at htj
   ·simp at htj;exact hj htj
   ·split at htj
    ·split at htj <;> simp at htj
    ·cases htj
  ·simp at htj;exact hj htj
  ·simp at htj;exact hj htj
  ·cases htj
 refine ⟨Ren.le_refl ρ,?_,rfl,rfl,rfl,by show _≤(w.heap.setIfInBounds l.blk o).size;rw [hsize];exact qar _,qar _,fun k hk hn=>hother k ?_,?_,fun _ _=>rfl⟩
 ·refine ⟨fun j q hj=>by show _∧_∧_∧_<(w.heap.setIfInBounds l.blk o).size;rw [hsize];exact h.dom j q hj,h.next,by show base≤(w.heap.setIfInBounds l.blk o).size;rw [hsize];exact h.iF,fun j hj htj=>?_,fun j q hj=>?_,fun j cs e f hj=>?_,
   fun j cs e f hj=>?_,fun j es c hj=>?_,fun j q hj=>?_,fun j k x y u v hj hk hxy hu hv=>h.sep j k x y u v (lJ j x hj) (lJ k y hk) hxy hu hv⟩
  ·cases ht':(s.put i r).tag j with
   |none=>exact absurd ht' htj
   |some t=>exact h.low j hj (by rw [lJ j t ht'];simp)
  ·by_cases e:j=i
   ·subst e;exact d2
   ·rw [hget j e] at hj;exact h.dO j q hj
  ·by_cases e':j=i
   ·subst e';rw [Px] at hj
    rcases hr with ⟨es,c,rfl,_⟩|⟨q,rfl,_⟩ <;> simp at hj
   ·rw [hget j e'] at hj;exact h.fM j cs e f hj
  ·obtain ⟨hji,hj'⟩:=hcells j _ hj
   obtain ⟨q,hq⟩:=h.rows j cs e f hj'
   exact ⟨q,hq.move (Ren.le_refl ρ) (hother _ (hblk j _ q hji (dH hj') hq.at_))⟩
  ·by_cases e':j=i
   ·subst e'
    rw [Px] at hj
    rcases hr with ⟨es0,c0,rfl,es',rfl,he⟩|⟨q,rfl,_⟩
    ·cases hj
     exact ⟨l,hl,es',hsame,he⟩
    ·cases hj
   ·rw [hget j e'] at hj
    obtain ⟨q,hq,es',h1,h2⟩:=h.maps j es c hj
    exact ⟨q,hq,es',by show (w.heap.setIfInBounds l.blk o)[q.blk]? = _;rw [hother _ (hblk j _ q e' (qj hj) (by rw [Ren.dw (h.dom j q hq).1];exact hq))];exact h1,h2⟩
  ·by_cases e':j=i
   ·subst e'
    rw [Px] at hj
    rcases hr with ⟨es0,c0,rfl,_⟩|⟨q0,rfl,he⟩
    ·cases hj
    ·cases hj
     exact ⟨l,hl,o,hsame,he⟩
   ·rw [hget j e'] at hj
    obtain ⟨u,hu,q',h1,h2⟩:=h.loops j q hj
    exact ⟨u,hu,q',by show (w.heap.setIfInBounds l.blk o)[u.blk]? = _;rw [hother _ (hblk j _ u e' (kR hj) (by rw [Ren.dw (h.dom j u hu).1];exact hu))];exact h1,h2⟩
 ·rintro rfl
  exact hn ⟨i,l,_,d1,ht,hl,rfl⟩
 ·rintro k ⟨j,q,t,hj,htj,hq,rfl⟩
  exact .inl ⟨j,q,t,hj,lJ j t htj,hq,rfl⟩
end
end Go.Ax
namespace Go.Ax
variable [Lo]
open Go
theorem jC (P:Program)(g o:Nat)(t:TypeId)(fz:Nat × Nat):∀ (vs:List Value) (i:Nat) (cur:Array Value) (w:World),w.heap[g]? = some (.cells cur t fz)→o+i+vs.length≤cur.size→
  (∀ k,k<cur.size→¬(fz.1≤k∧k<fz.2))→(∀ v∈vs,v.oneCell'=true)→
  (Go.storeCells ⟨g,o,none⟩ vs i).run P w = .ok () (w.setRow g (cur.toList.take (o+i)++vs++cur.toList.drop (o+i+vs.length)).toArray)
 |[],i,cur,w,hg,_,_,_=>by
  simp only [Go.storeCells,List.append_nil,List.length_nil,qaP,List.take_append_drop,Array.toArray_toList]
  rw [setRow_self w g cur t fz hg]
  rfl
 |v::rest,i,cur,w,hg,hl,hz,h1=>by
  have hi:o+i<cur.size:=by simp at hl;omega
  have hadd:(⟨g,o,none⟩:Addr).add i=⟨g,o+i,none⟩:=by unfold Addr.add;split <;> simp_all
  have hcell:w.cell? ⟨g,o+i,none⟩=some cur[o+i]:=by simp [World.cell?,hg,hi]
  have hz':=hz (o+i) hi
  have hfro:w.frozen? ⟨g,o+i,none⟩=false:=by
   have h2:(decide (fz.1≤o+i)&&decide (o+i<fz.2))=false:=by
    rw [←qaC];simpa using hz'
   simp only [World.frozen?,hg]
   exact h2
  have hst:(Go.store ((⟨g,o,none⟩:Addr).add i) v).run P w = .ok () (w.setRow g (cur.setIfInBounds (o+i) v)):=by
   rw [hadd,run_store P w _ v _ (h1 v (by simp)),hcell]
   simp [hfro,setCell_eq_setRow w g (o+i) cur t fz v hg]
  have ih:=jC P g o t fz rest (i+1) (cur.setIfInBounds (o+i) v) (w.setRow g (cur.setIfInBounds (o+i) v)) (setRow_heap w g cur _ t _ hg) (by simp at hl ⊢;omega) (by simpa using hz) (fun x hx=>h1 x (by simp [hx]))
  simp only [Go.storeCells,qae,hst,qac,ih,setRow_setRow]
  congr 3
  have e:=list_seg_step cur.toList (o+i) v rest (by simp at hl ⊢;omega)
  simpa [Array.toList_setIfInBounds,qax] using e
section
variable {P:Program} {base:Nat} {ρ:Ren} {s s':St} {w:World}
theorem al9 {v c:Value}(h:VR ρ v c)(h1:aoa v=true):c.oneCell'=true:=by
 cases h <;> first|rfl|cases h1
theorem aay (v:Value)(l:List Value):rV (v::l)=sel (aoa v) (rV l) false:=rfl
theorem CW {l l':List Value}(h:VRs ρ l l')(h1:rV l=true):∀ c∈l',c.oneCell'=true:=by
 induction l generalizing l' with
 |nil=>cases h;simp
 |cons v t ih=>
  cases h with
  |cons hv ht=>
   rw [aay,aG] at h1
   split at h1
   ·rename_i h0
    intro c hc
    rcases List.mem_cons.1 hc with rfl|hc
    ·exact al9 hv h0
    ·exact ih ht h1 c hc
   ·cases h1
theorem ql {v c:Value}(h:VR ρ v c):VRs ρ (cellsOf v) c.cells.toList:=by
 cases h with
 |agg ha=>exact ha
 |bool b=>exact .cons (.bool b) .nil
 |int k n=>exact .cons (.int k n) .nil
 |string s=>exact .cons (.string s) .nil
 |nY=>exact .cons .nY .nil
 |ptr h=>exact .cons (.ptr h) .nil
 |dW n c=>exact .cons (.dW n c) .nil
 |slice h=>exact .cons (.slice h) .nil
 |dead a c=>exact .cons (.dead a c) .nil
 |opq a n c=>exact .cons (.opq a n c) .nil
 |tok i k n=>exact .cons (.tok i k n) .nil
 |alg lo hi a n c h hh=>exact .cons (.alg lo hi a n c h hh) .nil
 |rng lo hi n h hh=>exact .cons (.rng lo hi n h hh) .nil
 |uH=>exact .cons .uH .nil
 |map h=>exact .cons (.map h) .nil
 |func h ha hb=>exact .cons (.func h ha hb) .nil
 |nilFunc=>exact .cons .nilFunc .nil
 |iface t h=>exact .cons (.iface t h) .nil
 |nilIface=>exact .cons .nilIface .nil
 |tuple h=>exact .cons (.tuple h) .nil
theorem alc.seg {i:Nat}{cs:List Value}{e:TypeId}{f:Nat}{l:Loc}(h:alc P ρ w i cs e f l){o n:Nat}(ho:o+n≤cs.length) :
  ∃ cl,VRs ρ ((cs.drop o).take n) cl∧cl.length=n∧∀ (j:Nat) (v:Value),cl[j]? = some v→w.cell? ⟨l.blk,l.off+o+j,none⟩=some v:=by
 obtain ⟨_,a,fz,⟨e9,h1,_⟩,h2,_⟩:=h
 refine ⟨(a.toList.drop (l.off+o)).take n,?_,?_,?_⟩
 ·refine VRs.ao9 ?_ fun k v hk=>?_
  ·have hsz:l.off+o+n≤a.size∨n=0:=by
    by_cases h0:n=0
    ·exact .inr h0
    ·left
     have hlt:o+(n-1)<cs.length:=by omega
     obtain ⟨y,hy,_⟩:=h2 (o+(n-1)) _ (qay hlt)
     have:=(Array.getElem?_eq_some_iff.1 hy).1
     omega
   rcases hsz with hsz|hsz
   ·simp;omega
   ·subst hsz;simp
  ·rw [qav] at hk
   split at hk
   ·rename_i hkn
    rw [qaA] at hk
    obtain ⟨y,hy,hv⟩:=h2 _ _ hk
    refine ⟨y,?_,hv⟩
    rw [qav,if_pos hkn,qaA]
    have:l.off+o+k=l.off+(o+k):=by omega
    rw [this]
    simpa using hy
   ·cases hk
 ·by_cases h0:n=0
  ·subst h0;simp
  ·have hlt:o+(n-1)<cs.length:=by omega
   obtain ⟨y,hy,_⟩:=h2 (o+(n-1)) _ (qay hlt)
   have:=(Array.getElem?_eq_some_iff.1 hy).1
   simp;omega
 ·intro j v hj
  rw [qav] at hj
  split at hj
  ·rw [qaA] at hj
   simp only [World.cell?,h1]
   simpa using hj
  ·cases hj
theorem Vo {t:TypeId}{g:Bool}(h:isAgg P t=some g):∃ d,P.underlying t=some d∧g=EG d:=by
 unfold isAgg at h
 obtain ⟨d,h1,h2⟩:=ah.1 h
 exact ⟨d,h1,(Option.some.inj h2).symm⟩
theorem MW {t:TypeId}{g:Bool}(h:isAgg P t=some g):(Go.isAgg t).run P w = .ok g w:=by
 obtain ⟨d,h1,rfl⟩:=Vo h
 simp only [Go.isAgg,qae,run_underlying h1,qac]
 cases d <;> rfl
theorem rW {t:TypeId}{n:Nat}(h:size P t=some n):∃ i,P.info? t=some i∧i.size=n:=by
 unfold size at h
 cases hi:P.info? t with
 |none=>simp [hi] at h
 |some i=>simp [hi] at h;exact ⟨i,rfl,h⟩
theorem run_sizeOf {t:TypeId}{n:Nat}(h:size P t=some n):(Go.sizeOf t).run P w = .ok n w:=by
 obtain ⟨i,h1,rfl⟩:=rW h
 simp [Go.sizeOf,Go.typeInfo,h1]
theorem add_eq (b o n:Nat):(⟨b,o,none⟩:Addr).add n=⟨b,o+n,none⟩:=by
 unfold Addr.add;split <;> simp_all
theorem Cj (h:HR P base ρ s w){t:TypeId}{b o:Nat}{v:Value}{l:Loc}(hl:ρ.at b=some l)(hv:load P s t b o=some v) :
  ∃ c,(Go.loadVar t ⟨l.blk,l.off+o,none⟩).run P w = .ok c w∧VR ρ v c:=by
 unfold load at hv
 obtain ⟨⟨cs,e,f⟩,hc,hv⟩:=ah.1 hv
 obtain ⟨q,hq⟩:=h.rows b cs e f hc
 have:q=l:=by have:=hq.at_;rw [hl] at this;exact (Option.some.inj this).symm
 subst this
 unfold Jb at hv
 obtain ⟨g,hg,hv⟩:=ah.1 hv
 have hr:=MW (P:=P) (w:=w) hg
 cases g with
 |true=>
  rw [aN] at hv
  obtain ⟨n,hn,hv⟩:=ah.1 hv
  obtain ⟨r,hr',hv⟩:=ah.1 hv
  cases hv
  rw [wG,iy] at hr'
  obtain ⟨h1,rfl⟩:=hr'
  by_cases ho:o≤cs.length
  ·obtain ⟨cl,h2,h3,h4⟩:=hq.seg (o:=o) (n:=n) (by simp at h1;omega)
   refine ⟨.agg ⟨cl⟩,?_,.agg h2⟩
   have hl':=run_loadCells_list (P:=P) w ⟨q.blk,q.off+o,none⟩ cl (fun j v hj=>by rw [add_eq];exact h4 j v hj)
   rw [h3] at hl'
   simp [Go.loadVar,hr,run_sizeOf hn,hl']
  ·have:n=0:=by simp at h1;omega
   subst this
   refine ⟨.agg #[],?_,by simpa [FY] using VR.agg (VRs.nil (ρ:=ρ))⟩
   have hl':=run_loadCells_list (P:=P) w ⟨q.blk,q.off+o,none⟩ [] (fun j v hj=>by simp at hj)
   simp at hl'
   simp [Go.loadVar,hr,run_sizeOf hn,hl']
 |false=>
  rw [aP,jk] at hv
  obtain ⟨_,a,fz,⟨e9,h1,_⟩,h2,_⟩:=hq
  obtain ⟨y,hy,hvy⟩:=h2 _ _ hv
  refine ⟨y,?_,hvy⟩
  have hcell:w.cell? ⟨q.blk,q.off+o,none⟩=some y:=by simp only [World.cell?,h1];simpa using hy
  simp [Go.loadVar,hr,hcell]
theorem ny (h:HR P base ρ s w){b o:Nat}{vs cl:List Value}{l:Loc}(hl:ρ.at b=some l)(hs:storeCells s b o vs=some s')(hv:VRs ρ vs cl) :
  ∃ w',(Go.storeCells ⟨l.blk,l.off+o,none⟩ cl).run P w = .ok () w'∧Goes P base ρ s w ρ s' w':=by
 unfold storeCells at hs
 obtain ⟨hg,hs⟩:=au.1 hs
 simp only [qai] at hg
 obtain ⟨hft,hone⟩:=hg
 have hb:ak≤b:=qaa hft
 obtain ⟨⟨cs,e,f⟩,hc,hs⟩:=ah.1 hs
 obtain ⟨cs',hcs',hs⟩:=ah.1 hs
 cases hs
 rw [P8] at hcs'
 obtain ⟨hlen,rfl⟩:=hcs'
 dsimp only at hlen
 obtain ⟨q,hq⟩:=h.rows b cs e f hc
 have:q=l:=by have:=hq.at_;rw [hl] at this;exact (Option.some.inj this).symm
 subst this
 obtain ⟨_,a,fz,⟨e9,h1,he9⟩,h2,h3,h4⟩:=hq
 have he9:=(he9 (.inr hb)).symm
 subst he9
 have hvl:=hv.length
 have hsz:q.off+o+cl.length≤a.size:=by
  by_cases h0:vs.length=0
  ·
   by_cases hcs:cs.length=0
   ·have ho:o=0:=by omega
    by_cases hf:f=0
    ·have:=(h4.1 hf);omega
    ·obtain ⟨n,_,_,h5,_⟩:=h4.2 hf
     omega
   ·have hlt:cs.length-1<cs.length:=by omega
    obtain ⟨y,hy,_⟩:=h2 (cs.length-1) _ (qay hlt)
    have:=(Array.getElem?_eq_some_iff.1 hy).1
    omega
  ·have hlt:o+(vs.length-1)<cs.length:=by omega
   obtain ⟨y,hy,_⟩:=h2 (o+(vs.length-1)) _ (qay hlt)
   have:=(Array.getElem?_eq_some_iff.1 hy).1
   omega
 have hrun:=jC P q.blk (q.off+o) e fz cl 0 a w h1 (by omega) (h3 hb) (CW hv hone)
 refine ⟨_,hrun,Goes.put h hb hc hl h1 (by simp;omega) (by simp;omega) ?_⟩
 intro j x hj
 have hj':=List.getElem?_eq_some_iff.1 hj
 simp only [qaP]
 by_cases hj1:j<o
 ·
  have hx:cs[j]? = some x:=by
   rw [qaq,qaj (by simp;omega),qav,if_pos hj1] at hj
   exact hj
  obtain ⟨y,hy,hvy⟩:=h2 j x hx
  refine ⟨y,?_,hvy⟩
  simp only [qas]
  rw [qaq,qaj (by simp;omega),qav,if_pos (by omega)]
  simpa using hy
 ·by_cases hj2:j<o+vs.length
  ·have hx:vs[j-o]? = some x:=by
    rw [qaq,qal (by simp;omega),qaj (by simp;omega)] at hj
    have:j-(qa9 o cs).length=j-o:=by simp;omega
    rw [this] at hj
    exact hj
   obtain ⟨y,hy,hvy⟩:=hv.get hx
   refine ⟨y,?_,hvy⟩
   simp only [qas]
   rw [qaq,qal (by simp;omega),qaj (by simp;omega)]
   have:q.off+j-(qa9 (q.off+o) a.toList).length=j-o:=by simp;omega
   rw [this]
   exact hy
  ·have hx:cs[j]? = some x:=by
    rw [qal (by simp;omega),qaA] at hj
    have:o+vs.length+(j-(qa9 o cs++vs).length)=j:=by simp;omega
    rw [this] at hj
    exact hj
   obtain ⟨y,hy,hvy⟩:=h2 j x hx
   refine ⟨y,?_,hvy⟩
   simp only [qas]
   have hya:=(Array.getElem?_eq_some_iff.1 hy).1
   rw [qal (by simp;omega),qaA]
   have:q.off+o+cl.length+(q.off+j-(qa9 (q.off+o) a.toList++cl).length)=q.off+j:=by simp;omega
   rw [this]
   simpa using hy
theorem ab3 (h:HR P base ρ s w){t:TypeId}{b o:Nat}{v c:Value}{l:Loc}(hl:ρ.at b=some l)(hs:store P s t b o (cellsOf v)=some s')(hv:VR ρ v c) :
  ∃ w',(Go.storeVar t ⟨l.blk,l.off+o,none⟩ c).run P w = .ok () w'∧Goes P base ρ s w ρ s' w':=by
 unfold store at hs
 obtain ⟨n,hn,hs⟩:=ah.1 hs
 obtain ⟨hg,hs⟩:=au.1 hs
 have hlen:(cellsOf v).length=n:=by rw [aW] at hg;exact qab hg
 have hcv:=ql hv
 obtain ⟨w',hr,hgo⟩:=ny h hl hs hcv
 refine ⟨w',?_,hgo⟩
 have hcl:c.cells.size=n:=by have:=hcv.length;simp at this;omega
 simp [Go.storeVar,run_sizeOf hn,hcl,hr]
end
end Go.Ax
namespace Go.Ax
variable [Lo]
open Go
def EvR (ρ:Ren)(ev:Ev)(η:Operand→Value):Prop:=∀ x v,ev x=some v→VR ρ v (η x)
def Gives (P:Program)(base:Nat)(ρ:Ren)(s:St)(w:World)(run:Result Next)(v:Value)(s':St):Prop:=
 ∃ ρ' w' c,(run = .ok (.value c) w'∨(run = .ok .skip w'∧c=undef))∧Goes P base ρ s w ρ' s' w'∧VR ρ' v c
def sW (P:Program)(base:Nat)(ρ:Ren)(s:St)(w:World)(run:Result Next):Res→Prop
 |.val v s'=>Gives P base ρ s w run v s'
 |.call f args s'=>s'=s∧∃ aZ,run = .ok (.enter f ⟨aZ⟩) w∧VRs ρ args aZ
 |.yield l args s'=>s'=s∧∃ q aZ,ρ l=some q∧run=(Instr.yield q.blk ⟨aZ⟩).run P w∧VRs ρ args aZ
 |.defer f args s'=>s'=s∧∃ d first captured,run = .ok (.defer d) w∧d.target = .fn (.func f) ⟨captured⟩∧d.args=⟨first⟩∧VRs ρ args (first++captured)
section
variable {P:Program} {base:Nat} {ρ:Ren} {s s':St} {w w':World} {ev:Ev} {η:Operand→Value}
theorem aY (h:HR P base ρ s w){v c:Value}(hv:VR ρ v c):Gives P base ρ s w (.ok (.value c) w) v s:=⟨ρ,w,c,.inl rfl,Goes.refl h,hv⟩
theorem iK {ρ':Ren}(h:Goes P base ρ s w ρ' s' w'){v c:Value}(hv:VR ρ' v c):Gives P base ρ s w (.ok (.value c) w') v s':=⟨ρ',w',c,.inl rfl,h,hv⟩
theorem Ia {ρ':Ren}(h:Goes P base ρ s w ρ' s' w'):Gives P base ρ s w (.ok .skip w') unit s':=⟨ρ',w',undef,.inr ⟨rfl,rfl⟩,h,.tuple .nil⟩
theorem bC {v:Value}{s:St}{r:Res}(h:ret v s=some r):r = .val v s:=(Option.some.inj h).symm
theorem FN (he:EvR ρ ev η):∀ {xs:List Operand} {vs:List Value},evs ev xs=some vs→VRs ρ vs (xs.map η)
 |[],vs,h=>by cases h;exact .nil
 |x::xs,vs,h=>by
  change aj (ev x) (fun v=>aj (evs ev xs) fun r=>some (v::r))=some vs at h
  obtain ⟨v,hv,h⟩:=ah.1 h
  obtain ⟨r,hr,h⟩:=ah.1 h
  cases h
  exact .cons (he x v hv) (FN he hr)
theorem yJ (h:HR P base ρ s w)(he:EvR ρ ev η)(C:Cfg){x:Operand}{r:Res}(hr:AZ C ev s x=some r):sW P base ρ s w (.ok (.value (η x)) w) r:=by
 obtain ⟨v,hv,hr⟩:=ah.1 hr
 rw [bC hr]
 exact aY h (he x v hv)
theorem ab4 (h:HR P base ρ s w)(he:EvR ρ ev η)(C:Cfg){c a b:Operand}{r:Res}(hr:abb C ev s c a b=some r) :
  sW P base ρ s w (qau P (do pure (.value (if ←asBool (η c) then η a else η b))) w) r:=by
 obtain ⟨v,hv,hr⟩:=ah.1 hr
 have hc:=he c v hv
 generalize η c=q at hc
 cases hc with
 |bool t=>
  cases t
  ·simpa [asBool] using yJ h he C (x:=b) hr
  ·simpa [asBool] using yJ h he C (x:=a) hr
 |_=>cases hr
theorem VR.aoB (h:HR P base ρ s w)(l:Loc)(hl:l.off=0):VR (ρ.set s.next l) (Ax.ptr s.next 0) (.pointer (some ⟨l.blk,0,none⟩)):=by
 have:=VR.ptr (ρ:=ρ.set s.next l) (b:=s.next) (o:=0) (l:=l) (by rw [Ren.dw h.next,Ren.dQ])
 simpa [Ax.ptr,hl] using this
theorem V3 {t:TypeId}{z:List Value}(hz:zero P t=some z):t<P.types.size:=qaa (au.1 hz).1
theorem NW {t:TypeId}{z:List Value}(hz:zero P t=some z):∃ i v,P.info? t=some i∧i.zero=some v∧v.cells.toList=z:=by
 have hz:=(au.1 hz).2
 cases hi:P.info? t with
 |none=>simp [hi] at hz
 |some i=>
  cases hv:i.zero with
  |none=>simp [hi,hv] at hz
  |some v=>exact ⟨i,v,rfl,hv,by simpa [hi,hv] using hz⟩
def tH (P:Program):Prop:=∀ (t:TypeId) (i:TypeInfo) (v:Value),t<P.types.size→P.info? t=some i→i.zero=some v→∀ ρ:Ren,VR ρ v v
theorem XI (h:HR P base ρ s w)(hZ:tH P){t:TypeId}(C:Cfg)(hC:C.P=P){r:Res}(hr:akt C s t=some r) :
  sW P base ρ s w (qau P (do pure (.value (←Instr.alloc t true (.tuple #[])))) w) r:=by
 unfold akt at hr
 rw [hC] at hr
 obtain ⟨z,hz,hr⟩:=ah.1 hr
 obtain ⟨i,v,h1,h2,rfl⟩:=NW hz
 rw [bC hr]
 have hv:=hZ t i v (V3 hz) h1 h2 ρ
 have hg:=Goes.newRow (e:=t) h (a:=v.cells) (cs:=v.cells.toList) (by
  have:=ql hv
  have e:cellsOf v=v.cells.toList:=by cases v <;> rfl
  rwa [e] at this)
 have hrun:qau P (do pure (Next.value (←Instr.alloc t true (.tuple #[])))) w = .ok (.value (.pointer (some ⟨w.heap.size,0,none⟩))) (w.alloc (.cells v.cells t)):=by
  simp [Instr.alloc,zeroValue,Go.typeInfo,h1,h2,newVar,newRow]
 rw [hrun]
 exact iK hg (VR.aoB h ⟨w.heap.size,0,0⟩ rfl)
theorem afY (h:HR P base ρ s w)(he:EvR ρ ev η){t:TypeId}{x:Operand}(C:Cfg){r:Res}(hr:atp C ev s t x=some r) :
  sW P base ρ s w (qau P (do pure (.value (←Instr.box t (η x)))) w) r:=by
 unfold atp at hr
 obtain ⟨v,hv,hr⟩:=ah.1 hr
 rw [bC hr]
 have hg:=Goes.newRow (e:=t) h (a:=(η x).cells) (ql (he x v hv))
 have hrun:qau P (do pure (Next.value (←Instr.box t (η x)))) w = .ok (.value (.pointer (some ⟨w.heap.size,0,none⟩))) (w.alloc (.cells (η x).cells t)):=by
  simp [Instr.box,newVar,newRow]
 rw [hrun]
 exact iK hg (VR.aoB h ⟨w.heap.size,0,0⟩ rfl)
theorem BG (he:EvR ρ ev η){a:Operand}{k:Addr→Option Res}{r:Res}(hr:xg ev a k=some r) :
  ∃ b o l,ρ.at b=some l∧η a = .pointer (some ⟨l.blk,l.off+o,none⟩)∧k ⟨b,o,none⟩=some r:=by
 obtain ⟨v,hv,hr⟩:=ah.1 hr
 have hc:=he a v hv
 generalize η a=q at hc
 cases hc <;> first|exact ⟨_,_,_,by assumption,rfl,hr⟩|cases hr
theorem aar (h:HR P base ρ s w)(he:EvR ρ ev η){t:TypeId}{a:Operand}(C:Cfg)(hC:C.P=P){r:Res}(hr:aaw C ev s t a=some r) :
  sW P base ρ s w (qau P (do pure (.value (←Instr.loadAt t (η a)))) w) r:=by
 obtain ⟨b,o,l,hl,hη,hr⟩:=BG he hr
 obtain ⟨v,hv,hr⟩:=ah.1 hr
 rw [bC hr]
 rw [hC] at hv
 obtain ⟨c,hrun,hc⟩:=Cj h hl hv
 simp only [hη,Instr.loadAt,Instr.sureAddr,qae,qad,qac,hrun]
 exact aY h hc
theorem Z8 (h:HR P base ρ s w)(he:EvR ρ ev η){t:TypeId}{a x:Operand}(C:Cfg)(hC:C.P=P){r:Res}(hr:JU C ev s t a x=some r) :
  sW P base ρ s w (qau P (do Instr.storeAt t (η a) (η x);pure .skip) w) r:=by
 obtain ⟨b,o,l,hl,hη,hr⟩:=BG he hr
 obtain ⟨v,hv,hr⟩:=ah.1 hr
 obtain ⟨s',hs,hr⟩:=ah.1 hr
 rw [bC hr]
 rw [hC] at hs
 obtain ⟨w',hrun,hg⟩:=ab3 h hl hs (he x v hv)
 simp only [hη,Instr.storeAt,Instr.sureAddr,qae,qad,qac,hrun]
 exact Ia hg
theorem xk {t:TypeId}{i:Nat}{f:Field}(hf:fieldInfo P t i=some f):∃ fs,P.underlying t=some (.struct fs)∧fs[i]? = some f:=by
 unfold fieldInfo at hf
 split at hf
 ·rename_i fs hu
  rw [jk] at hf
  exact ⟨fs,hu,by simpa using hf⟩
 ·cases hf
theorem KJ (h:HR P base ρ s w)(he:EvR ρ ev η){t:TypeId}{x:Operand}{i:Nat}(C:Cfg)(hC:C.P=P){r:Res}(hr:yc C ev s t x i=some r) :
  sW P base ρ s w (qau P (do pure (.value (←Instr.fieldAt t (η x) i))) w) r:=by
 obtain ⟨b,o,l,hl,hη,hr⟩:=BG he hr
 obtain ⟨f,hf,hr⟩:=ah.1 hr
 obtain ⟨n,hn,hr⟩:=ah.1 hr
 obtain ⟨hg,hr⟩:=au.1 hr
 rw [bC hr]
 rw [hC] at hf hn
 obtain ⟨fs,hu,hfs⟩:=xk hf
 have hn0:n≠0:=by
  rintro rfl
  simp at hg
 simp only [hη,Instr.fieldAt,run_underlying hu,hfs,Instr.sureAddr,fieldPlace,run_sizeOf hn,hn0,if_false,qae,qad,qac,add_eq]
 refine aY h ?_
 have:=VR.ptr (ρ:=ρ) (b:=b) (o:=o+f.offset) (l:=l) hl
 simpa [ptr,qax] using this
theorem xR {t:TypeId}{cs cl:List Value}{off:Nat}{v:Value}(hv:part P t cs off=some v)(hc:VRs ρ cs cl):∃ c,(Go.part t ⟨cl⟩ off).run P w = .ok c w∧VR ρ v c:=by
 unfold Ax.part at hv
 obtain ⟨g,hg,hv⟩:=ah.1 hv
 have hr:=MW (P:=P) (w:=w) hg
 cases g with
 |true=>
  rw [aN] at hv
  obtain ⟨n,hn,hv⟩:=ah.1 hv
  cases hv
  refine ⟨.agg ⟨(cl.drop off).take n⟩,?_,?_⟩
  ·simp [Go.part,hr,run_sizeOf hn]
  ·rw [qU,iy]
   exact .agg ((hc.drop off).take n)
 |false=>
  rw [aP,jk] at hv
  obtain ⟨c,h1,h2⟩:=hc.get hv
  refine ⟨c,?_,h2⟩
  simp [Go.part,hr,h1]
theorem YO (h:HR P base ρ s w)(he:EvR ρ ev η){t:TypeId}{x:Operand}{i:Nat}(C:Cfg)(hC:C.P=P){r:Res}(hr:Xn C ev s t x i=some r) :
  sW P base ρ s w (qau P (do pure (.value (←Instr.field t (η x) i))) w) r:=by
 obtain ⟨v,hv,hr⟩:=ah.1 hr
 have hc:=he x v hv
 cases hq:η x with
 |agg cl=>
  rw [hq] at hc
  cases hc with
  |agg ha=>
   obtain ⟨f,hf,hr⟩:=ah.1 hr
   obtain ⟨y,hy,hr⟩:=ah.1 hr
   rw [bC hr]
   rw [hC] at hf hy
   obtain ⟨fs,hu,hfs⟩:=xk hf
   obtain ⟨c,hrun,hcv⟩:=xR (w:=w) hy ha
   simp only [Instr.field,run_underlying hu,hfs,asAgg,qae,qad,qac,hrun]
   exact aY h hcv
 |_=>
  rw [hq] at hc
  cases hc <;> cases hr
end
end Go.Ax
namespace Go.Ax
variable [Lo]
open Go
theorem aag (off:Nat)(vs cells:Array Value)(h:off+vs.size≤cells.size) :
  (vs.zipIdx.foldl (fun cs (x:Value × Nat)=>cs.setIfInBounds (off+x.2) x.1) cells).toList=cells.toList.take off++vs.toList++cells.toList.drop (off+vs.size):=by
 rw [←Array.foldl_toList,Array.toList_zipIdx]
 obtain ⟨h1,h2⟩:=Great.foldl_set off vs.toList 0 cells
 apply List.ext_getElem?
 intro k
 rw [Array.getElem?_toList,h2 k]
 simp only [qaP,Array.length_toList]
 by_cases ha:k<off
 ·rw [if_neg (by omega),qaq,qaj (by simp;omega),qav,if_pos ha]
  simp
 ·by_cases hb:k<off+vs.size
  ·rw [if_pos (by omega),qaq,qal (by simp;omega),qaj (by simp;omega)]
   congr 1
   simp;omega
  ·rw [if_neg (by omega),qal (by simp;omega),qaA]
   have:off+vs.size+(k-(qa9 off cells.toList++vs.toList).length)=k:=by simp;omega
   rw [this]
   simp
inductive PsR (ρ:Ren):List (Nat × Value)→List (Nat × Value)→Prop
 |nil:PsR ρ [] []
 |cons {i:Nat} {v c:Value} {l l':List (Nat × Value)} (h:VR ρ v c) (hl:PsR ρ l l'):PsR ρ ((i,v)::l) ((i,c)::l')
section
variable {P:Program} {base:Nat} {ρ:Ren} {s s':St} {w w':World} {ev:Ev} {η:Operand→Value}
theorem wo (he:EvR ρ ev η):∀ {xs:List (Nat × Operand)} {vs:List (Nat × Value)},yG ev xs=some vs→PsR ρ vs (xs.map fun (i,x)=>(i,η x))
 |[],vs,h=>by cases h;exact .nil
 |(i,x)::xs,vs,h=>by
  change aj (ev x) (fun v=>aj (yG ev xs) fun r=>some ((i,v)::r))=some vs at h
  obtain ⟨v,hv,h⟩:=ah.1 h
  obtain ⟨r,hr,h⟩:=ah.1 h
  cases h
  exact .cons (he x v hv) (wo he hr)
theorem VRs.splice {vs vs' cs cs' r:List Value}{o:Nat}(hv:VRs ρ vs vs')(hc:VRs ρ cs cs')(h:Ax.splice vs o cs=some r):VRs ρ r (cs'.take o++vs'++cs'.drop (o+vs'.length)):=by
 rw [P8] at h
 obtain ⟨_,rfl⟩:=h
 rw [hv.length]
 exact ((hc.take o).append hv).append (hc.drop _)
theorem yh {place:Nat→Option (Nat × Nat)}:∀ {ps ps':List (Nat × Value)} {z r:List Value} {zc:Array Value},PsR ρ ps ps'→VRs ρ z zc.toList→Ax.fill place ps z=some r→
  ∃ rc,Instr.fill place zc ps'=some rc∧VRs ρ r rc.toList
 |[],_,z,r,zc,hp,hz,h=>by
  cases hp
  cases h
  exact ⟨zc,rfl,hz⟩
 |(i,v)::ps,_,z,r,zc,hp,hz,h=>by
  cases hp with
  |cons hv hl=>
   rename_i c l'
   change aj (place i) (fun q=>Ax.guard (qaf (aQ (cellsOf v)) q.2) (aj (Ax.splice (cellsOf v) q.1 z) (Ax.fill place ps)))=some r at h
   obtain ⟨⟨off,n⟩,hpl,h⟩:=ah.1 h
   obtain ⟨hg,h⟩:=au.1 h
   obtain ⟨z',hz',h⟩:=ah.1 h
   have hlen:(cellsOf v).length=n:=by rw [aW] at hg;exact qab hg
   have hcv:=ql hv
   have hcl:=hcv.length
   have hzl:=hz.length
   have hfit:=(P8 _ _ _ _).1 hz'
   simp at hcl hzl
   dsimp only at hfit
   have e:=aag off c.cells zc (by omega)
   have hz2:VRs ρ z' (c.cells.zipIdx.foldl (fun cs (x:Value × Nat)=>cs.setIfInBounds (off+x.2) x.1) zc).toList:=by
    rw [e]
    have:=VRs.splice hcv hz hz'
    simpa using this
   obtain ⟨rc,h1,h2⟩:=yh hl hz2 h
   refine ⟨rc,?_,h2⟩
   simp only [Instr.fill,hpl]
   rw [if_neg (by simp;omega)]
   exact h1
theorem RZ {p q:Nat→Option (Nat × Nat)}(h:∀ i x,p i=some x→q i=some x):∀ {ps:List (Nat × Value)} {z r:List Value},Ax.fill p ps z=some r→Ax.fill q ps z=some r
 |[],z,r,hr=>hr
 |(i,v)::ps,z,r,hr=>by
  change aj (p i) (fun q=>Ax.guard (qaf (aQ (cellsOf v)) q.2) (aj (Ax.splice (cellsOf v) q.1 z) (Ax.fill p ps)))=some r at hr
  change aj (q i) (fun x=>Ax.guard (qaf (aQ (cellsOf v)) x.2) (aj (Ax.splice (cellsOf v) x.1 z) (Ax.fill q ps)))=some r
  obtain ⟨x,hx,hr⟩:=ah.1 hr
  obtain ⟨hg,hr⟩:=au.1 hr
  obtain ⟨z',hz,hr⟩:=ah.1 hr
  exact ah.2 ⟨x,h i x hx,au.2 ⟨hg,ah.2 ⟨z',hz,RZ h hr⟩⟩⟩
theorem uF (hZ:tH P){t:TypeId}{z:List Value}(hz:zero P t=some z)(ρ:Ren):∃ i v,P.info? t=some i∧i.zero=some v∧v.cells.toList=z∧VRs ρ z v.cells.toList:=by
 obtain ⟨i,v,h1,h2,h3⟩:=NW hz
 refine ⟨i,v,h1,h2,h3,?_⟩
 have:=ql (hZ t i v (V3 hz) h1 h2 ρ)
 have e:cellsOf v=v.cells.toList:=by cases v <;> rfl
 rw [e] at this
 rw [←h3];exact this
theorem NJ:∀ (l:List Field),(∀ f∈l,∃ n,size P f.type=some n)→(l.mapM (m:=Sem) fun f=>do pure (f.offset,←Go.sizeOf f.type)).run P w = .ok (l.map fun f=>(f.offset,P.cellsOf f.type)) w
 |[],_=>rfl
 |f::l,h=>by
  obtain ⟨n,hn⟩:=h f (by simp)
  have ih:=NJ l fun g hg=>h g (by simp [hg])
  obtain ⟨i,h1,h2⟩:=rW hn
  have hc:P.cellsOf f.type=n:=by simp [Program.cellsOf,h1,h2]
  simp only [List.mapM_cons,qae,run_sizeOf hn,qac,qad,ih,List.map_cons,hc]
def UW (P:Program):Prop:=∀ (t:TypeId) (fs:Array Field),t<P.types.size→P.underlying t=some (.struct fs)→∀ f∈fs.toList,∃ n,size P f.type=some n
theorem Xr (h:HR P base ρ s w)(he:EvR ρ ev η)(hZ:tH P)(hF:UW P){t:TypeId}{parts:Array (Nat × Operand)}(C:Cfg)(hC:C.P=P){r:Res}(hr:SB C ev s t parts=some r) :
  sW P base ρ s w (qau P (do pure (.value (←Instr.build t (parts.map fun (i,x)=>(i,η x))))) w) r:=by
 unfold SB at hr
 rw [hC] at hr
 obtain ⟨pl,hpl,hr⟩:=ah.1 hr
 obtain ⟨ps,hps,hr⟩:=ah.1 hr
 obtain ⟨z,hz,hr⟩:=ah.1 hr
 obtain ⟨l,hl,hr⟩:=ah.1 hr
 rw [bC hr]
 have hp:=wo he hps
 obtain ⟨i,v,h1,h2,h3,h4⟩:=uF hZ hz ρ
 have hzv:(zeroValue t).run P w = .ok v w:=by simp [zeroValue,Go.typeInfo,h1,h2]
 unfold aoM at hpl
 split at hpl
 ·rename_i fs hu
  cases hpl
  have hl':Ax.fill (fun i=>(fs.map fun f=>(f.offset,P.cellsOf f.type))[i]?) ps z=some l:=by
   refine RZ (fun i x hx=>?_) hl
   obtain ⟨f,hf,hx⟩:=ah.1 hx
   obtain ⟨n,hn,hx⟩:=ah.1 hx
   cases hx
   rw [jk] at hf
   obtain ⟨i',h1',h2'⟩:=rW hn
   have hf':fs[i]? = some f:=by simpa using hf
   simp [hf',Program.cellsOf,h1',h2']
  obtain ⟨rc,h5,h6⟩:=yh hp h4 hl'
  have hm:(fs.mapM (m:=Sem) fun f=>do pure (f.offset,←Go.sizeOf f.type)).run P w = .ok (fs.map fun f=>(f.offset,P.cellsOf f.type)) w:=by
   have:=NJ (P:=P) (w:=w) fs.toList (hF t fs (V3 hz) hu)
   rw [Array.mapM_eq_mapM_toList,Sem.run_map,this]
   show Result.ok _ w=_
   congr 1
   apply qaW
   simp
  have hrun:qau P (do pure (Next.value (←Instr.build t (parts.map fun (i,x)=>(i,η x))))) w = .ok (.value (.agg rc)) w:=by
   simp only [Instr.build,hzv,run_underlying hu,hm,qae,qac,qad,qaQ]
   rw [h5]
   rfl
  rw [hrun]
  exact aY h (by
   have:=VR.agg h6
   simpa [FY] using this)
 ·rename_i k e hu
  obtain ⟨n,hsz,hpl⟩:=ah.1 hpl
  cases hpl
  obtain ⟨rc,h5,h6⟩:=yh hp h4 hl
  have hrun:qau P (do pure (Next.value (←Instr.build t (parts.map fun (i,x)=>(i,η x))))) w = .ok (.value (.agg rc)) w:=by
   simp only [Instr.build,hzv,run_underlying hu,run_sizeOf hsz,qae,qac,qad,qaQ]
   rw [show (fun i=>some (i*n,n))=JF n from rfl,h5]
   rfl
  rw [hrun]
  exact aY h (by
   have:=VR.agg h6
   simpa [FY] using this)
 ·cases hpl
theorem DL (n:Nat)(l:List Value):(repeatL n l).length=n*l.length:=by
 induction n with
 |zero=>rw [qa6];rfl
 |succ n ih=>show (aK l (repeatL n l)).length=_;rw [iG,qaR,ih,Nat.succ_mul];omega
theorem aaQ (n:Nat)(l:List Value):∀ k,k<n*l.length→(repeatL n l)[k]? = l[k%l.length]?:=by
 induction n with
 |zero=>intro k hk;omega
 |succ n ih=>
  intro k hk
  show (aK l (repeatL n l))[k]? = _
  rw [iG]
  by_cases h:k<l.length
  ·rw [qaj h,qaS h]
  ·rw [qal (by omega),ih _ (by rw [Nat.succ_mul] at hk;omega)]
   rw [Nat.mod_eq_sub_mod (show l.length≤k by omega)]
theorem oW {z:List Value}{zc:Array Value}(hz:VRs ρ z zc.toList)(n:Nat)(hpos:0<z.length∨n=0) :
  VRs ρ (repeatL n z) ((qaM (n*zc.size)).map fun i=>zc[i%zc.size]!).toList:=by
 have hl:=hz.length
 simp at hl
 refine VRs.ao9 (by simp [DL,hl]) fun k v hk=>?_
 have hlt:=(List.getElem?_eq_some_iff.1 hk).1
 rw [DL] at hlt
 have hz0:0<z.length:=by
  rcases hpos with h|h
  ·exact h
  ·subst h;omega
 rw [aaQ n z k hlt] at hk
 obtain ⟨c,hc,hv⟩:=hz.get hk
 refine ⟨c,?_,hv⟩
 have hlt2:k%zc.size<zc.size:=qba _ (by omega)
 have hk2:k<n*zc.size:=by rw [hl];exact hlt
 have hc':zc[k%zc.size]? = some c:=by rw [hl];simpa using hc
 simp [hk2]
 rw [getElem!_def,hc']
theorem IK (h:HR P base ρ s w)(he:EvR ρ ev η)(hZ:tH P){t:TypeId}{len:Nat}{parts:Array (Nat × Operand)}(C:Cfg)(hC:C.P=P){r:Res}(hr:qN C ev s t len parts=some r) :
  sW P base ρ s w (qau P (do pure (.value (←Instr.buildSlice t len (parts.map fun (i,x)=>(i,η x))))) w) r:=by
 unfold qN at hr
 rw [hC] at hr
 split at hr
 ·rename_i e hu
  obtain ⟨n,hn,hr⟩:=ah.1 hr
  obtain ⟨z,hz,hr⟩:=ah.1 hr
  obtain ⟨hg,hr⟩:=au.1 hr
  obtain ⟨ps,hps,hr⟩:=ah.1 hr
  obtain ⟨l,hl,hr⟩:=ah.1 hr
  rw [bC hr]
  simp only [qai] at hg
  obtain ⟨⟨hg1,hg2⟩,hg3⟩:=hg
  have hzn:z.length=n:=by rw [aW] at hg1;exact qab hg1
  have hn0:0<n:=qaa hg2
  have hbig:len*n≤16777216:=qaa hg3
  have hp:=wo he hps
  obtain ⟨i,v,h1,h2,h3,h4⟩:=uF hZ hz ρ
  have hzv:(zeroValue e).run P w = .ok v w:=by simp [zeroValue,Go.typeInfo,h1,h2]
  have hvn:v.cells.size=n:=by have:=h4.length;simp at this;omega
  have hzz:VRs ρ (repeatL len z) ((qaM (len*n)).map fun i=>v.cells[i%v.cells.size]!).toList:=by
   have:=oW h4 len (.inl (by omega))
   have e0:len*v.cells.size=len*n:=by rw [hvn]
   rwa [e0] at this
  obtain ⟨rc,h5,h6⟩:=yh hp hzz hl
  have hrun:qau P (do pure (Next.value (←Instr.buildSlice t len (parts.map fun (i,x)=>(i,η x))))) w = .ok (.value (.slice (some ⟨w.heap.size,0,none⟩) len len)) (w.alloc (.cells rc e)):=by
   have hb:¬(len*n>2 ^ 24):=by omega
   by_cases h0:len*n=0
   ·have hlen:len=0:=by
     rcases Nat.mul_eq_zero.1 h0 with h|h
     ·exact h
     ·omega
    subst hlen
    simp only [qa6,Array.range_zero',qbb] at h5
    simp only [Instr.buildSlice,run_underlying hu,run_sizeOf hn,qae,qac,qad,qaQ,qa6,Array.range_zero',qbb]
    simp
    rw [show (fun i=>some (i*n,n))=JF n from rfl,h5]
    simp [newRow]
   ·simp only [Instr.buildSlice,run_underlying hu,run_sizeOf hn,hzv,qae,qac,qad,qaQ,if_neg hb,if_neg h0]
    rw [show (fun i=>some (i*n,n))=JF n from rfl,h5]
    simp [newRow]
  rw [hrun]
  have hg:=Goes.newRow (e:=e) h h6
  refine iK hg ?_
  have:=VR.slice (ρ:=ρ.set s.next ⟨w.heap.size,0,0⟩) (b:=s.next) (o:=0) (n:=len) (c:=len) (l:=⟨w.heap.size,0,0⟩) (by rw [Ren.dw h.next,Ren.dQ])
  have hc:capOf ⟨w.heap.size,0,0⟩ len=len:=by
   unfold capOf;rw [if_neg];unfold bf
   have:len*1≤len*n:=Nat.mul_le_mul_left _ hn0
   omega
  rw [hc] at this
  exact this
 ·cases hr
end
end Go.Ax
namespace Go.Ax
variable [Lo]
open Go
theorem mM {a b:IntKind}(h:gY a b=true):a=b:=by cases a <;> cases b <;> first|rfl|cases h
theorem mO {n:Nat}(h:n<9223372036854775808):IntKind.wrap .i64 (qag n)=qag n:=by
 have e:(n:Int)%18446744073709551616=n:=by omega
 have h2:¬((n:Int)≥9223372036854775808):=by omega
 show (if (true&&decide ((n:Int)%18446744073709551616≥9223372036854775808))=true then (n:Int)%18446744073709551616-18446744073709551616 else (n:Int)%18446744073709551616)=(n:Int)
 simp only [e,h2,decide_false,Bool.and_false,qao,if_false]
theorem tY {k:IntKind}(hk:k.signed=false)(n:Nat):IntKind.wrap k (qag n)=qag (n%2 ^ k.bits):=by
 unfold IntKind.wrap
 simp [hk]
theorem ae0 (k:IntKind)(n:Nat):ahW k n=k.wrap (qag n):=by
 match k with
 |.i64=>
  show sel (qah 9223372036854775808 n) (IntKind.wrap .i64 (qag n)) (qag n)=_
  rw [aG]
  by_cases h:qah 9223372036854775808 n=true
  ·rw [if_pos h]
  ·rw [if_neg h,mO]
   have:¬(9223372036854775808≤n):=fun h'=>h (qan h')
   omega
 |.u8=>
  show qag (qaJ n 256)=_
  rw [tY rfl]
  rfl
 |.u64=>
  show qag (qaJ n 18446744073709551616)=_
  rw [tY rfl]
  rfl
 |.i8|.i16|.i32|.u16|.u32=>rfl
theorem wrap_eq (k:IntKind)(n:Int):wrap k n=k.wrap n:=by
 cases n with
 |ofNat n=>exact ae0 k n
 |negSucc n=>rfl
theorem ahf (a b:Nat):subNat a b=(a:Int)-b:=by
 unfold subNat
 rw [aG]
 split
 ·rename_i h
  have:=qaa h
  show ((a-b:Nat):Int)=_
  omega
 ·rename_i h
  have:¬(b≤a):=fun h'=>h (qan h')
  show qaT ((b-a)-1)=_
  rw [Int.negSucc_eq]
  omega
theorem arX (a b:Int):ape a b=a+b:=by cases a <;> cases b <;> rfl
theorem aaZ (a b:Int):ahz a b=a-b:=by
 cases a <;> cases b <;> first|exact ahf _ _|rfl
theorem arV (a b:Int):anX a b=a*b:=by
 cases a <;> cases b <;> first|rfl|skip
theorem ap3 (a b:Int):axn a b=a.tdiv b:=by cases a <;> cases b <;> rfl
theorem asf (a b:Int):ali a b=a.tmod b:=by cases a <;> cases b <;> rfl
theorem jm (a b:Int):eqI a b=decide (a=b):=by
 cases a with
 |ofNat a=>cases b with
  |ofNat b=>
   show qaf a b=_
   rw [qap,qaE]
   simp
   omega
  |negSucc b=>rfl
 |negSucc a=>cases b with
  |ofNat b=>rfl
  |negSucc b=>
   show qaf a b=_
   rw [qap,qaE]
   simp
theorem kX (a b:Int):ltI a b=decide (a<b):=by
 cases a with
 |ofNat a=>cases b with
  |ofNat b=>
   show qah (a+1) b=_
   rw [qap,qaY]
   simp
   omega
  |negSucc b=>
   show false=_
   symm
   rw [decide_eq_false_iff_not]
   simp only [qam]
   omega
 |negSucc a=>cases b with
  |ofNat b=>
   show true=_
   symm
   rw [decide_eq_true_iff]
   simp only [qam]
   omega
  |negSucc b=>
   show qah (b+1) a=_
   rw [qap,qaY,decide_eq_true_iff]
   omega
theorem lS (a b:Int):leI a b=decide (a≤b):=by
 cases a with
 |ofNat a=>cases b with
  |ofNat b=>
   show qah a b=_
   rw [qap,qaY]
   simp
  |negSucc b=>
   show false=_
   symm
   rw [decide_eq_false_iff_not]
   simp only [qam]
   omega
 |negSucc a=>cases b with
  |ofNat b=>
   show true=_
   symm
   rw [decide_eq_true_iff]
   simp only [qam]
   omega
  |negSucc b=>
   show qah b a=_
   rw [qap,qaY,decide_eq_true_iff]
   omega
theorem yI {k:IntKind}{a:Nat}(h:a<vO k):vO k=2 ^ k.bits∧k.signed=false:=by
 cases k <;> first|exact ⟨rfl,rfl⟩|exact absurd h (qaU _)
theorem pK {k:IntKind}{a:Nat}(h:a<vO k):(BitVec.ofInt k.bits (qag a)).toNat=a:=by
 rw [(yI h).1] at h
 simp
 exact qaS h
theorem wrap_small {k:IntKind}{a:Nat}(h:a<vO k):k.wrap (a:Int)=a:=by
 have:=yI h
 rw [show (a:Int)=qag a from rfl,tY this.2,qaS (by rw [←this.1];exact h)]
theorem Af {k:IntKind}(h:qR k=true):vO k=2 ^ k.bits∧0<vO k:=by
 cases k <;> first|(exact Bool.noConfusion (show false=true from h))|(constructor <;> decide)
theorem yx {op:Nat→Nat→Nat}{k:IntKind}{a b:Int}{v:Value}(h:QE op k a b=some v) :
  ∃ a' b' x y:Nat,a=qag a'∧b=qag b'∧a'%vO k=x∧b'%vO k=y∧x<vO k∧y<vO k∧qR k=true∧v = .int k (qag (op x y)):=by
 cases a with
 |negSucc a=>cases h
 |ofNat a=>cases b with
  |negSucc b=>cases h
  |ofNat b=>
   obtain ⟨hg,h⟩:=au.1 h
   cases h
   exact ⟨a,b,_,_,rfl,rfl,rfl,rfl,qba _ (Af hg).2,qba _ (Af hg).2,hg,rfl⟩
theorem oQ {k:IntKind}{a:Nat}(hk:qR k=true):BitVec.ofInt k.bits (qag a)=BitVec.ofInt k.bits (qag (a%vO k)):=by
 apply BitVec.eq_of_toNat_eq
 rw [(Af hk).1]
 simp
 rw [show ((a:Int)%2 ^ k.bits)=((a%2 ^ k.bits:Nat):Int) by push_cast;rfl]
 rfl
section
variable {P:Program} {w:World}
theorem abd {op:BinOp}{k:IntKind}{a b:Int}{v:Value}(t:TypeId)(h:agO op k a b=some v)(h1:op ≠ .shl)(h2:op ≠ .shr) :
  (Go.binOp op t (.int k a) (.int k b)).run P w = .ok v w∧∀ ρ,VR ρ v v:=by
 have hand:∀ {x y:Nat},x<vO k→y<vO k→x &&& y<vO k:=fun hx hy=>by
  rw [(yI hx).1] at *;exact Nat.and_lt_two_pow _ hy
 cases op
 case add=>cases h;refine ⟨?_,fun ρ=>.int _ _⟩;simp [Go.binOp,Op.intArith,wrap_eq,arX]
 case sub=>cases h;refine ⟨?_,fun ρ=>.int _ _⟩;simp [Go.binOp,Op.intArith,wrap_eq,aaZ]
 case mul=>cases h;refine ⟨?_,fun ρ=>.int _ _⟩;simp [Go.binOp,Op.intArith,wrap_eq,arV]
 case quo=>
  obtain ⟨hg,h⟩:=au.1 h
  cases h
  rw [jm] at hg
  refine ⟨?_,fun ρ=>.int _ _⟩
  simp at hg
  simp [Go.binOp,Op.intDiv,wrap_eq,ap3,hg]
 case rem=>
  obtain ⟨hg,h⟩:=au.1 h
  cases h
  rw [jm] at hg
  refine ⟨?_,fun ρ=>.int _ _⟩
  simp at hg
  simp [Go.binOp,Op.intDiv,asf,hg]
 case and=>
  obtain ⟨a',b',x,y,rfl,rfl,ha',hb',hx,hy,hwk,rfl⟩:=yx h
  refine ⟨?_,fun ρ=>.int _ _⟩
  have e:(BitVec.ofInt k.bits (qag a') &&& BitVec.ofInt k.bits (qag b')).toNat=x &&& y:=by rw [BitVec.toNat_and,oQ hwk (a:=a'),oQ hwk (a:=b'),ha',hb',pK hx,pK hy]
  simp only [Go.binOp,Op.intBits,ne_eq,not_true_eq_false,if_false,e,qad,wrap_small (hand hx hy)]
  rfl
 case or=>
  obtain ⟨a',b',x,y,rfl,rfl,ha',hb',hx,hy,hwk,rfl⟩:=yx h
  refine ⟨?_,fun ρ=>.int _ _⟩
  have hor:x ||| y<vO k:=by
   have:=(yI hx).1
   rw [this] at hx hy ⊢;exact Nat.or_lt_two_pow hx hy
  have e:(BitVec.ofInt k.bits (qag a') ||| BitVec.ofInt k.bits (qag b')).toNat=x ||| y:=by rw [BitVec.toNat_or,oQ hwk (a:=a'),oQ hwk (a:=b'),ha',hb',pK hx,pK hy]
  simp only [Go.binOp,Op.intBits,ne_eq,not_true_eq_false,if_false,e,qad,wrap_small hor]
  rfl
 case xor=>
  obtain ⟨a',b',x,y,rfl,rfl,ha',hb',hx,hy,hwk,rfl⟩:=yx h
  refine ⟨?_,fun ρ=>.int _ _⟩
  have hor:x ^^^ y<vO k:=by
   have:=(yI hx).1
   rw [this] at hx hy ⊢;exact qaZ hx hy
  have e:(BitVec.ofInt k.bits (qag a') ^^^ BitVec.ofInt k.bits (qag b')).toNat=x ^^^ y:=by rw [BitVec.toNat_xor,oQ hwk (a:=a'),oQ hwk (a:=b'),ha',hb',pK hx,pK hy]
  simp only [Go.binOp,Op.intBits,ne_eq,not_true_eq_false,if_false,e,qad,wrap_small hor]
  rfl
 case andNot=>
  obtain ⟨a',b',x,y,rfl,rfl,ha',hb',hx,hy,hwk,rfl⟩:=yx (op:=fun a b=>Nat.xor a (qbc a b)) (show QE _ k a b=some v from h)
  refine ⟨?_,fun ρ=>.int _ _⟩
  have hor:x ^^^ (x &&& y)<vO k:=by
   have:=(yI hx).1
   have h3:=hand hx hy
   rw [this] at hx h3 ⊢;exact qaZ hx h3
  have hb:=(yI hx).1
  have e:(BitVec.ofInt k.bits (qag a') &&& ~~~ BitVec.ofInt k.bits (qag b')).toNat=x ^^^ (x &&& y):=by
   rw [show (BitVec.ofInt k.bits (qag a') &&& ~~~ BitVec.ofInt k.bits (qag b'))=BitVec.ofInt k.bits (qag a') ^^^ (BitVec.ofInt k.bits (qag a') &&& BitVec.ofInt k.bits (qag b')) from by
    ext i hi
    simp
    cases (BitVec.ofNat k.bits a')[i] <;> cases (BitVec.ofNat k.bits b')[i] <;> rfl]
   rw [BitVec.toNat_xor,BitVec.toNat_and,oQ hwk (a:=a'),oQ hwk (a:=b'),ha',hb',pK hx,pK hy]
  simp only [Go.binOp,Op.intBits,ne_eq,not_true_eq_false,if_false,e,qad,wrap_small hor]
  rfl
 case eql=>cases h;refine ⟨?_,fun ρ=>.bool _⟩;simp [Go.binOp,Op.intCmp,jm];rfl
 case neq=>cases h;refine ⟨?_,fun ρ=>.bool _⟩;simp [Go.binOp,Op.intCmp,jm];rfl
 case lss=>cases h;refine ⟨?_,fun ρ=>.bool _⟩;simp [Go.binOp,Op.intCmp,kX]
 case leq=>cases h;refine ⟨?_,fun ρ=>.bool _⟩;simp [Go.binOp,Op.intCmp,lS]
 case gtr=>cases h;refine ⟨?_,fun ρ=>.bool _⟩;simp [Go.binOp,Op.intCmp,kX]
 case geq=>cases h;refine ⟨?_,fun ρ=>.bool _⟩;simp [Go.binOp,Op.intCmp,lS]
 case shl=>exact absurd rfl h1
 case shr=>exact absurd rfl h2
end
end Go.Ax
namespace Go.Ax
variable [Lo]
open Go
theorem um:∀ (a b:List UInt8),nO a b=(a == b)
 |[],[]=>rfl
 |[],_::_=>rfl
 |_::_,[]=>rfl
 |a::s,b::t=>by
  show sel (qaf a.toNat b.toNat) (nO s t) false=_
  rw [um s t,aG]
  by_cases h:a=b
  ·subst h;simp
  ·have:¬(a.toNat=b.toNat):=fun e=>h (UInt8.toNat_inj.1 e)
   simp [h,this,qaE]
theorem FT:∀ (a b:List UInt8),zK a b=Op.bytesLess a b
 |[],[]=>rfl
 |[],_::_=>by simp [Op.bytesLess];rfl
 |_::_,[]=>by simp [Op.bytesLess];rfl
 |a::s,b::t=>by
  show sel (qah (a.toNat+1) b.toNat) true (sel (qaf a.toNat b.toNat) (zK s t) false)=_
  rw [FT s t,aG,aG,Op.bytesLess]
  simp only [qaY,qaE]
  rw [show (decide (a<b))=decide (a.toNat<b.toNat) from by rw [qap];simp [UInt8.lt_iff_toNat_lt]]
  rw [show (a == b)=decide (a.toNat=b.toNat) from by rw [qap];simp [UInt8.toNat_inj]]
  by_cases h:a.toNat<b.toNat
  ·simp [h,Nat.succ_le_of_lt h]
  ·have:¬(a.toNat+1≤b.toNat):=by omega
   by_cases h2:a.toNat=b.toNat
   ·have h3:¬(b.toNat+1≤b.toNat):=by omega
    simp [h2,h3]
   ·simp [h,h2,this]
theorem uY:∀ (a b:List UInt8),(Op.bytesLess a b||(a == b)) = !Op.bytesLess b a
 |[],[]=>by simp [Op.bytesLess]
 |[],_::_=>by simp [Op.bytesLess]
 |_::_,[]=>by simp [Op.bytesLess]
 |a::s,b::t=>by
  have ih:=uY s t
  simp only [Op.bytesLess,List.cons_beq_cons]
  rw [show (decide (a<b))=decide (a.toNat<b.toNat) from by rw [qap];simp [UInt8.lt_iff_toNat_lt]]
  rw [show (decide (b<a))=decide (b.toNat<a.toNat) from by rw [qap];simp [UInt8.lt_iff_toNat_lt]]
  rw [show (a == b)=decide (a.toNat=b.toNat) from by rw [qap];simp [UInt8.toNat_inj]]
  rw [show (b == a)=decide (a.toNat=b.toNat) from by rw [qap];simp only [beq_iff_eq,decide_eq_true_eq,←UInt8.toNat_inj];exact eq_comm]
  by_cases h2:a.toNat=b.toNat
  ·simp [h2,ih]
  ·by_cases h:a.toNat<b.toNat
   ·have:¬(b.toNat<a.toNat):=by omega
    simp [h2,h,this]
   ·have:b.toNat<a.toNat:=by omega
    simp [h2,h,this]
section
variable {P:Program} {w:World}
theorem abP {op:BinOp}{a b:ByteArray}{v:Value}(t:TypeId)(h:auU op a.data.toList b.data.toList=some v)(h1:op ≠ .shl)(h2:op ≠ .shr) :
  (Go.binOp op t (.string a) (.string b)).run P w = .ok v w∧∀ ρ,VR ρ v v:=by
 have ta:=ByteArray.toList_eq a
 have tb:=ByteArray.toList_eq b
 cases op
 case add=>
  obtain ⟨hg,h⟩:=au.1 h
  cases h
  refine ⟨?_,fun ρ=>.string _⟩
  have hs:¬(((a.size+b.size:Nat):Int)>IntKind.i64.max):=by
   have hg:=qaa hg
   rw [aW,aW] at hg
   have e1:a.size=a.data.toList.length:=rfl
   have e2:b.size=b.data.toList.length:=rfl
   have e3:IntKind.i64.max=9223372036854775807:=rfl
   rw [e3,e1,e2]
   have:a.data.toList.length+b.data.toList.length≤9223372036854775807:=hg
   omega
  have e:a++b=⟨⟨aK a.data.toList b.data.toList⟩⟩:=by
   rw [iG]
   apply ByteArray.ext
   rw [ByteArray.data_append]
   apply qaW
   simp
  simp only [Go.binOp,Op.stringOp,if_neg hs,qad,e]
 case eql=>cases h;refine ⟨?_,fun ρ=>.bool _⟩;rw [um,←ta,←tb];rfl
 case neq=>cases h;refine ⟨?_,fun ρ=>.bool _⟩;rw [um,←ta,←tb];rfl
 case lss=>cases h;refine ⟨?_,fun ρ=>.bool _⟩;simp only [Go.binOp,Op.stringOp,FT,ta,tb,qad]
 case leq=>cases h;refine ⟨?_,fun ρ=>.bool _⟩;simp only [Go.binOp,Op.stringOp,FT,ta,tb,uY,qad]
 case gtr=>cases h;refine ⟨?_,fun ρ=>.bool _⟩;simp only [Go.binOp,Op.stringOp,FT,ta,tb,uY,qad,Bool.not_not]
 case geq=>cases h;refine ⟨?_,fun ρ=>.bool _⟩;simp only [Go.binOp,Op.stringOp,FT,ta,tb,qad]
 case shl=>exact absurd rfl h1
 case shr=>exact absurd rfl h2
 all_goals cases h
theorem Ph {left:Bool}{x y v:Value}(t:TypeId)(h:shift left x y=some v) :
  ∃ k a k' b,x = .int k a∧y = .int k' b∧(Go.binOp (if left then .shl else .shr) t (.int k a) (.int k' b)).run P w = .ok v w∧∀ ρ,VR ρ v v:=by
 obtain ⟨k,a,rfl⟩:∃ k a,x = .int k a:=by cases x <;> first|exact ⟨_,_,rfl⟩|cases h
 obtain ⟨k',b,rfl⟩:∃ k b,y = .int k b:=by cases y <;> first|exact ⟨_,_,rfl⟩|cases h
 cases a with
 |negSucc a=>cases h
 |ofNat a=>cases b with
  |negSucc b=>cases h
  |ofNat b=>
   refine ⟨k,_,k',_,rfl,rfl,?_⟩
   change shiftOp left k a b=some v at h
   have hmin:sel (qah b k.bits) b k.bits=min b k.bits:=by
    rw [aG]
    by_cases h:b≤k.bits
    ·rw [if_pos (qan h)];omega
    ·rw [if_neg (fun h'=>h (qaa h'))];omega
   have hneg:¬((qag b)<0):=by simp only [qam];omega
   cases left with
   |true=>
    unfold shiftOp at h
    rw [aN] at h
    obtain ⟨hg,h⟩:=au.1 h
    cases h
    refine ⟨?_,fun ρ=>.int _ _⟩
    have hs:k.signed=false:=by cases k <;> first|rfl|cases hg
    have e:k.wrap ((qag a)*2 ^ (min b k.bits))=qag (qaJ (qat a (qa4 2 (min b k.bits))) (qa4 2 k.bits)):=by
     have:(qag a)*2 ^ (min b k.bits)=qag (a*2 ^ (min b k.bits)):=by simp
     rw [this,tY hs]
     rfl
    simp only [if_true,Go.binOp,Op.shift,if_neg hneg,qad,hmin]
    rw [show (qag b).toNat=b from rfl,e]
   |false=>
    unfold shiftOp at h
    rw [aP] at h
    cases h
    refine ⟨?_,fun ρ=>.int _ _⟩
    simp only [qao,if_false,Go.binOp,Op.shift,if_neg hneg,qad,hmin]
    rw [show (qag b).toNat=b from rfl]
    have:(qag a).fdiv (2 ^ (min b k.bits))=qag (a/2 ^ (min b k.bits)):=by
     rw [show (2:Int) ^ (min b k.bits)=qag (2 ^ (min b k.bits)) from by simp]
     exact (Int.ofNat_fdiv a _).symm
    rw [this]
    rfl
theorem afx {op:UnOp}{x v:Value}(h:unOp op x=some v):(Op.unary op x).run P w = .ok v w∧∀ ρ,VR ρ v v:=by
 cases x
 case bool b=>
  cases op <;> cases h
  exact ⟨by simp [Op.unary],fun ρ=>.bool _⟩
 case int k n=>
  cases op
  case neg=>
   cases h
   refine ⟨?_,fun ρ=>.int _ _⟩
   simp [Op.unary,Op.intArith,wrap_eq,aaZ]
  case xor=>
   cases k <;> try (cases h)
   cases n with
   |negSucc n=>cases h
   |ofNat n=>
    cases h
    refine ⟨?_,fun ρ=>.int _ _⟩
    have h1:(18446744073709551615:Nat)<vO .u64:=by decide
    have h2:n%18446744073709551616<vO .u64:=by show n%18446744073709551616<18446744073709551616;omega
    have e:(BitVec.ofInt IntKind.u64.bits (qag 18446744073709551615) ^^^ BitVec.ofInt IntKind.u64.bits (qag n)).toNat=18446744073709551615-n%18446744073709551616:=by
     have h3:=pK h2
     have h4:=oQ (k:=.u64) (a:=n) rfl
     change BitVec.ofInt 64 (qag n)=BitVec.ofInt 64 (qag (n%18446744073709551616)) at h4
     change (BitVec.ofInt 64 (qag (n%18446744073709551616))).toNat=n%18446744073709551616 at h3
     show (BitVec.ofInt 64 (qag 18446744073709551615) ^^^ BitVec.ofInt 64 (qag n)).toNat=_
     have ha:BitVec.ofInt 64 (qag 18446744073709551615)=BitVec.allOnes 64:=by rfl
     rw [h4,ha,BitVec.allOnes_xor,BitVec.toNat_not,h3]
    have e2:(18446744073709551615-n%18446744073709551616)<vO .u64:=by show _<18446744073709551616;omega
    simp only [Op.unary,Op.intBits]
    rw [show (if IntKind.u64.signed then (-1:Int) else IntKind.u64.max)=qag 18446744073709551615 from rfl,e,wrap_small e2]
    rfl
  all_goals cases h
 all_goals cases h
end
end Go.Ax
namespace Go.Ax
variable [Lo]
open Go
section
variable {P:Program} {ρ:Ren} {w:World}
theorem abC {a b:Addr}{r:Bool}(h:aoF a b=some r):a.block=b.block∧r=qaf a.off b.off:=by
 obtain ⟨hg,h⟩:=au.1 h
 cases h
 exact ⟨qab hg,rfl⟩
theorem ES (c o o':Nat):(sameAddr ⟨c,o,none⟩ ⟨c,o',none⟩).run P w = .ok (decide (o=o')) w:=by
 have e:((⟨c,o,none⟩:Addr) == ⟨c,o',none⟩)=decide (o=o'):=by
  rw [qap];simp
 simp [sameAddr,e]
theorem abn {t e:TypeId}{a b:Option Addr}{r:Bool}{x' y':Value}(hu:P.underlying t=some (.pointer e))(h:awt P e a b=some r)(hx:VR ρ (.pointer a) x')(hy:VR ρ (.pointer b) y')(D:Nat) :
  (Op.equalIn (D+1) t x' y').run P w = .ok r w:=by
 cases hx with
 |nY=>
  cases h
  cases hy with
  |nY=>rw [Op.equalIn];simp [run_underlying hu]
  |ptr hl=>rw [Op.equalIn];simp [run_underlying hu]
 |ptr hl=>
  cases hy with
  |nY=>cases h;rw [Op.equalIn];simp [run_underlying hu]
  |ptr hl2=>
   obtain ⟨n,hn,h⟩:=ah.1 h
   obtain ⟨hg,h⟩:=au.1 h
   obtain ⟨hb,rfl⟩:=abC h
   cases hb
   rw [hl] at hl2
   cases hl2
   have hn0:n≠0:=by rintro rfl;simp at hg
   rw [Op.equalIn]
   simp only [qae,run_underlying hu,qac,run_sizeOf hn,ne_eq,hn0,not_false_eq_true,if_true,ES]
   congr 1
   rw [qap,qaE]
   simp
theorem WT {t:TypeId}{d:TypeDesc}{x y x' y':Value}{r:Bool}(hu:P.underlying t=some d)(h:eqD P d x y=some r)(hx:VR ρ x x')(hy:VR ρ y y')(D:Nat) :
  (Op.equalIn (D+1) t x' y').run P w = .ok r w:=by
 cases d <;> try (cases h;done)
 case bool=>
  cases hx <;> try (cases h;done)
  cases hy <;> try (cases h;done)
  cases h
  exact run_equalIn_bool w D t _ _ hu
 case int k0=>
  cases hx <;> try (cases h;done)
  cases hy <;> try (cases h;done)
  obtain ⟨hg,h⟩:=au.1 h
  cases h
  rw [mM hg,run_equalIn_int w D t _ _ _ _ hu,jm]
  rfl
 case string=>
  cases hx <;> try (cases h;done)
  cases hy <;> try (cases h;done)
  cases h
  rw [run_equalIn_string w D t _ _ hu,um,ByteArray.toList_eq,ByteArray.toList_eq]
 case pointer e=>
  cases x <;> try (cases h;done)
  cases y <;> try (cases h;done)
  exact abn hu h hx hy D
 case slice e=>
  cases hx <;> try (cases h;done)
  all_goals (cases hy <;> first|(cases h;done)|(cases h;rw [Op.equalIn];simp [run_underlying hu]))
 case map k e=>
  cases hx <;> try (cases h;done)
  ·cases hy <;> try (cases h;done)
   ·cases h;rw [Op.equalIn];simp [run_underlying hu]
   ·cases h;rw [Op.equalIn];simp [run_underlying hu]
  ·cases hy <;> try (cases h;done)
   ·cases h;rw [Op.equalIn];simp [run_underlying hu]
 case func=>
  cases hx <;> try (cases h;done)
  ·cases hy <;> try (cases h;done)
   cases h;rw [Op.equalIn];simp [run_underlying hu]
  ·cases hy <;> try (cases h;done)
   ·cases h;rw [Op.equalIn];simp [run_underlying hu]
   ·cases h;rw [Op.equalIn];simp [run_underlying hu]
 case interface ms=>
  cases hx <;> try (cases h;done)
  ·cases hy <;> try (cases h;done)
   cases h;rw [Op.equalIn];simp [run_underlying hu]
  ·cases hy <;> try (cases h;done)
   ·cases h;rw [Op.equalIn];simp [run_underlying hu]
   ·cases h;rw [Op.equalIn];simp [run_underlying hu]
end
end Go.Ax
namespace Go.Ax
variable [Lo]
open Go
section
variable {P:Program} {ρ:Ren} {w:World}
def EqS (P:Program)(ih:EqF)(d:Nat):Prop:=∀ (t:TypeId) (x y:Value) (r:Bool),ih t x y=some r→∀ (ρ:Ren) (w:World) (x' y':Value),VR ρ x x'→VR ρ y y'→∀ D,(Op.equalIn (D+d) t x' y').run P w = .ok r w
def av6 (P:Program)(ih:EqF)(e:TypeId)(d:Nat):Prop:=∀ (x y:Value) (r:Bool),ih e x y=some r→∀ (ρ:Ren) (w:World) (x' y':Value),VR ρ x x'→VR ρ y y'→∀ D,(Op.equalIn (D+d) e x' y').run P w = .ok r w
theorem JR {ih:EqF}{d:Nat}{t:TypeId}(hE:av6 P ih t d){o:Nat}{xs ys xl yl:List Value}{r:Bool}(h:vw P ih t o xs ys=some r)(hx:VRs ρ xs xl)(hy:VRs ρ ys yl)(D:Nat) :
  ∃ a b,(Go.part t ⟨xl⟩ o).run P w = .ok a w∧(Go.part t ⟨yl⟩ o).run P w = .ok b w∧(Op.equalIn (D+d) t a b).run P w = .ok r w:=by
 obtain ⟨x,h1,h⟩:=ah.1 h
 obtain ⟨y,h2,h⟩:=ah.1 h
 obtain ⟨a,h3,h4⟩:=xR (w:=w) h1 hx
 obtain ⟨b,h5,h6⟩:=xR (w:=w) h2 hy
 exact ⟨a,b,h3,h5,hE x y r h ρ w a b h4 h6 D⟩
theorem yF {ih:EqF}{d:Nat}{e:TypeId}(hE:av6 P ih e d){n:Nat}{xs ys xl yl:List Value}(hx:VRs ρ xs xl)(hy:VRs ρ ys yl)(D:Nat):∀ (k i:Nat) {r:Bool},
  DW P ih e n xs ys k i=some r→(Op.eqItems (D+d) e n ⟨xl⟩ ⟨yl⟩ (List.range' i k)).run P w = .ok r w
 |0,i,r,h=>by cases h;simp [Op.eqItems]
 |k+1,i,r,h=>by
  change aj (vw P ih e (qat i n) xs ys) (fun b=>sel b (DW P ih e n xs ys k (i+1)) (some false))=some r at h
  obtain ⟨b,hb,h⟩:=ah.1 h
  obtain ⟨a',b',h1,h2,h3⟩:=JR (w:=w) hE hb hx hy D
  change (Go.part e ⟨xl⟩ (i*n)).run P w=_ at h1
  change (Go.part e ⟨yl⟩ (i*n)).run P w=_ at h2
  rw [List.range'_succ]
  simp only [Op.eqItems,qae,h1,h2,h3,qac]
  cases b with
  |true=>
   rw [aN] at h
   simp only [qa7,qao,if_false]
   exact yF hE hx hy D k (i+1) h
  |false=>
   rw [aP] at h
   cases h
   simp
theorem Nb {e:TypeId}(he:isAgg P e=some false){f:Value→Value→Option Bool}{xs ys:List Value}:∀ (k i:Nat) {r:Bool},
  af6 f k (xs.drop i) (ys.drop i)=some r→DW P (fun _=>f) e 1 xs ys k i=some r
 |0,i,r,h=>h
 |k+1,i,r,h=>by
  show aj (vw P (fun _=>f) e (qat i 1) xs ys) (fun b=>sel b (DW P (fun _=>f) e 1 xs ys k (i+1)) (some false))=some r
  change jB (xs.drop i) none (fun x xt=>jB (ys.drop i) none fun y yt=>aj (f x y) fun b=>sel b (af6 f k xt yt) (some false))=some r at h
  cases hx:xs.drop i with
  |nil=>rw [hx] at h;cases h
  |cons x xt=>
   cases hy:ys.drop i with
   |nil=>rw [hx,hy] at h;cases h
   |cons y yt=>
    rw [hx,hy] at h
    change aj (f x y) (fun b=>sel b (af6 f k xt yt) (some false))=some r at h
    obtain ⟨b,hb,h⟩:=ah.1 h
    have gx:xs[i]? = some x:=by have:=congrArg List.head? hx;simpa using this
    have gy:ys[i]? = some y:=by have:=congrArg List.head? hy;simpa using this
    have px:part P e xs (qat i 1)=some x:=by
     rw [show qat i 1=i from Nat.mul_one i]
     simp only [Ax.part,he,aj,aP,jk,gx]
    have py:part P e ys (qat i 1)=some y:=by
     rw [show qat i 1=i from Nat.mul_one i]
     simp only [Ax.part,he,aj,aP,jk,gy]
    refine ah.2 ⟨b,?_,?_⟩
    ·exact ah.2 ⟨x,px,ah.2 ⟨y,py,hb⟩⟩
    ·have hxt:xt=xs.drop (i+1):=by
      have:=congrArg List.tail hx
      simpa using this.symm
     have hyt:yt=ys.drop (i+1):=by
      have:=congrArg List.tail hy
      simpa using this.symm
     cases b with
     |true=>rw [aN] at h ⊢;exact Nb he k (i+1) (by rw [←hxt,←hyt];exact h)
     |false=>exact h
theorem DT {ih:EqF}{d:Nat}(hE:EqS P ih d){xs ys xl yl:List Value}(hx:VRs ρ xs xl)(hy:VRs ρ ys yl)(D:Nat):∀ (fs:List Field) {r:Bool},(∀ f∈fs,f.name≠"_")→
  eqFields P ih xs ys fs=some r→(Op.eqFields (D+d) ⟨xl⟩ ⟨yl⟩ fs).run P w = .ok r w
 |[],r,_,h=>by cases h;simp [Op.eqFields]
 |f::fs,r,hn,h=>by
  change aj (vw P ih f.type f.offset xs ys) (fun b=>sel b (eqFields P ih xs ys fs) (some false))=some r at h
  obtain ⟨b,hb,h⟩:=ah.1 h
  obtain ⟨a',b',h1,h2,h3⟩:=JR (w:=w) (fun x y r hr=>hE f.type x y r hr) hb hx hy D
  simp only [Op.eqFields,if_pos (hn f (by simp)),qae,h1,h2,h3,qac]
  cases b with
  |true=>
   rw [aN] at h
   simp only [qa7,qao,if_false]
   exact DT hE hx hy D fs (fun g hg=>hn g (by simp [hg])) h
  |false=>
   rw [aP] at h
   cases h
   simp
structure aeg (C:Cfg):Prop where
 guard:∀ t,C.apt t=true→C.P.eqGuardType C.P.depth t=false
 held:∀ t fs,C.apt t=true→C.P.underlying t=some (.struct fs)→C.P.stoodInHeld t=false∧∀ f∈fs.toList,f.name≠"_"
theorem YF {x y:Value}{k:List Value→List Value→Option Bool}{r:Bool}(h:amX x y k=some r):∃ xs ys,x = .agg ⟨xs⟩∧y = .agg ⟨ys⟩∧k xs ys=some r:=by
 unfold amX at h
 split at h
 ·split at h
  ·exact ⟨_,_,rfl,rfl,h⟩
  ·cases h
 ·cases h
theorem nU {C:Cfg}(hC:C.P=P)(hO:aeg C){ih:EqF}{d:Nat}(hE:EqS P ih (d+1)):EqS P (zJ C ih) (d+1+1):=by
 intro t x y r h ρ w x' y' hx hy D
 unfold zJ at h
 rw [hC] at h
 obtain ⟨de,hu,h⟩:=ah.1 h
 split at h
 ·rename_i n e
  obtain ⟨xs,ys,rfl,rfl,h⟩:=YF h
  obtain ⟨d',hd,h⟩:=ah.1 h
  obtain ⟨k,hk,h⟩:=ah.1 h
  cases hx with
  |agg hxs=>cases hy with
   |agg hys=>
    obtain ⟨i,hi,hik⟩:=rW hk
    have hcells:P.cellsOf e=k:=by simp [Program.cellsOf,hi,hik]
    rw [show D+(d+1+1)=(D+d+1)+1 from rfl,run_equalIn_array w (D+d+1) _ _ hu hi,hcells,List.range_eq_range']
    rw [aG] at h
    split at h
    ·rename_i hg
     simp only [qai,qaD] at hg
     have hag:isAgg P e=some false:=by simp only [isAgg,hd,aj];rw [hg.1]
     have k1:k=1:=qab hg.2
     subst k1
     have:=Nb hag n 0 (xs:=xs) (ys:=ys) (r:=r) (by simpa using h)
     exact yF (w:=w) (ih:=fun _=>eqD P d') (d:=1) (fun x y r hr ρ w x' y' hx hy D=>WT hd hr hx hy D) hxs hys (D+d) n 0 this
    ·exact yF (fun x y r hr=>hE e x y r hr) hxs hys D n 0 h
 ·rename_i fs
  obtain ⟨hg,h⟩:=au.1 h
  obtain ⟨xs,ys,rfl,rfl,h⟩:=YF h
  cases hx with
  |agg hxs=>cases hy with
   |agg hys=>
    have hf:P.fieldsOf t=fs:=by simp [Program.fieldsOf,hu]
    have hh:=hO.held t fs hg (by rw [hC];exact hu)
    rw [hC] at hh
    rw [show D+(d+1+1)=(D+d+1)+1 from rfl,run_equalIn_struct w (D+d+1) t _ _ (by rw [hf];exact hu) hh.1,hf]
    exact DT hE hxs hys D fs.toList hh.2 h
 ·exact WT hu h hx hy (D+d+1)
theorem RY {C:Cfg}(hC:C.P=P)(hO:aeg C):EqS P (alk C) 7:=by
 have h0:EqS P (fun _ _ _=>none) (0+1):=fun t x y r h=>by cases h
 exact nU hC hO (nU hC hO (nU hC hO (nU hC hO (nU hC hO (nU hC hO h0)))))
theorem ED {C:Cfg}(hC:C.P=P)(hO:aeg C){t:TypeId}{x y x' y':Value}{r:Bool}(h:alk C t x y=some r)(hx:VR ρ x x')(hy:VR ρ y y'):(Op.equal t x' y').run P w = .ok r w:=
 RY hC hO t x y r h ρ w x' y' hx hy 9993
theorem Y7 {C:Cfg}(hC:C.P=P)(hO:aeg C){t:TypeId}{x y x' y':Value}{r:Bool}(h:eqT C t x y=some r)(hx:VR ρ x x')(hy:VR ρ y y'):(Op.equal t x' y').run P w = .ok r w:=by
 unfold eqT at h
 split at h
 ·rename_i tx vx
  split at h
  ·rename_i ty vy
   split at h
   ·rename_i ms hu
    rw [hC] at hu h
    cases hx with
    |iface _ hvx=>cases hy with
     |iface _ hvy=>
      rw [Op.equal,Op.maxDepth,show 10000=9999+1 from rfl,Op.equalIn]
      simp only [qae,run_underlying hu,qac]
      rw [aG] at h
      split at h
      ·rename_i he
       have he:=qab he
       subst he
       obtain ⟨hg,h⟩:=au.1 h
       unfold comparable at hg
       cases hi:P.info? tx with
       |none=>rw [hi] at hg;cases hg
       |some i=>
        rw [hi] at hg
        change i.comparable=true at hg
        have:=RY hC hO tx vx vy r h ρ w _ _ hvx hvy 9992
        simp only [ne_eq,not_true_eq_false,if_false,Go.typeInfo,qae,run_program,qac,hi,qad,hg,qa7,qao]
        exact this
      ·rename_i he
       have he:¬tx=ty:=fun e=>he (by rw [e];exact qaG _)
       cases h
       simp [he]
   ·cases h
  ·exact ED hC hO h hx hy
 ·exact ED hC hO h hx hy
theorem UN {C:Cfg}(hC:C.P=P)(hO:aeg C){op:BinOp}{t:TypeId}{x y:Operand}{a b a' b':Value}(h:rO C t x y a b=true)(ha:VR ρ a a')(hb:VR ρ b b'):(eqGuard op t x y a' b').run P w = .ok () w:=by
 have key:op = .eql∨op = .neq∨(eqGuard op t x y a' b').run P w = .ok () w:=by
  cases op <;> first|exact .inl rfl|exact .inr (.inl rfl)|exact .inr (.inr (by simp [eqGuard]))
 rcases key with rfl|rfl|key
 ·cases ha <;> try (simp [eqGuard];done)
  ·cases hb <;> try (simp [eqGuard];done)
   have h:(isConst x||isConst y)=true:=h
   cases x <;> cases y <;> first|(simp [eqGuard];done)|cases h
  ·have hg:=hO.guard t h
   rw [hC] at hg
   cases hb <;> try (simp [eqGuard];done)
   exact run_eqGuard_agg w _ t x y _ _ hg
 ·cases ha <;> try (simp [eqGuard];done)
  ·cases hb <;> try (simp [eqGuard];done)
   have h:(isConst x||isConst y)=true:=h
   cases x <;> cases y <;> first|(simp [eqGuard];done)|cases h
  ·have hg:=hO.guard t h
   rw [hC] at hg
   cases hb <;> try (simp [eqGuard];done)
   exact run_eqGuard_agg w _ t x y _ _ hg
 ·exact key
end
end Go.Ax
namespace Go.Ax
variable [Lo]
open Go
section
variable {P:Program} {base:Nat} {ρ:Ren} {s s':St} {w w':World} {ev:Ev} {η:Operand→Value}
theorem afZ {v:Value}{n:Nat}(h:asNat v=some n):∃ k,v = .int k (qag n):=by
 cases v <;> try (cases h;done)
 rename_i k i
 cases i with
 |ofNat i=>cases h;exact ⟨k,rfl⟩
 |negSucc i=>cases h
theorem VR.nat {v c:Value}{n:Nat}(h:VR ρ v c)(hn:asNat v=some n):∃ k,c = .int k (qag n):=by
 obtain ⟨k,rfl⟩:=afZ hn
 cases h
 exact ⟨k,rfl⟩
theorem amW {d:TypeDesc}{i:Option Nat}{y:Value}{b:Bool}(h:eqD P d (.chan i) y=some b):False:=by
 cases d <;> cases h
theorem aae {C:Cfg}:∀ (n:Nat) {t:TypeId} {i:Option Nat} {y:Value} {b:Bool},(Nat.rec (fun _ _ _=>none) (fun _ ih=>zJ C ih) n:EqF) t (.chan i) y=some b→False
 |0,_,_,_,_,h=>by cases h
 |n+1,t,i,y,b,h=>by
  change zJ C _ t (.chan i) y=some b at h
  unfold zJ at h
  obtain ⟨d,_,h⟩:=ah.1 h
  split at h
  ·cases h
  ·obtain ⟨_,h⟩:=au.1 h
   cases h
  ·exact amW h
theorem ag5 {C:Cfg}{t:TypeId}{op:BinOp}{i:Option Nat}{y v:Value}(h:ak0 C t op (.chan i) y=some v):False:=by
 change axz C t op (.chan i) y=some v at h
 unfold axz at h
 split at h
 ·obtain ⟨b,hb,_⟩:=ah.1 h
  exact aae 6 hb
 ·obtain ⟨b,hb,_⟩:=ah.1 h
  exact aae 6 hb
 ·cases h
theorem Rk {op:BinOp}{k:FloatKind}{lo hi:Nat}{y v:Value}(h:aqk op k lo hi y=some v) :
  k = .f64∧∃ c:Nat,y = .int .i64 (qag c)∧op = .gtr∧((v = .bool false∧hi≤c∧hi≠0)∨(v = .bool true∧c<lo)):=by
 unfold aqk at h
 split at h
 ·rename_i c
  cases c with
  |negSucc c=>cases h
  |ofNat c=>
   obtain ⟨hk,h⟩:=au.1 h
   have hk:k = .f64:=by cases k <;> first|rfl|cases hk
   split at h
   ·rw [aG] at h
    split at h
    ·rename_i hg
     cases h
     simp only [qai,qaD] at hg
     refine ⟨hk,c,rfl,rfl,.inl ⟨rfl,qaa hg.1,?_⟩⟩
     intro e
     rw [e] at hg
     exact Bool.noConfusion hg.2
    ·obtain ⟨hg,h⟩:=au.1 h
     cases h
     exact ⟨hk,c,rfl,rfl,.inr ⟨rfl,qaa hg⟩⟩
   ·cases h
 ·cases h
theorem aa9 {C:Cfg}(hC:C.P=P)(hO:aeg C){op:BinOp}{t:TypeId}{a b a' b' v:Value}(h:binOp C t op a b=some v)(ha:VR ρ a a')(hb:VR ρ b b') :
  (Go.binOp op t a' b').run P w = .ok v w∧∀ ρ,VR ρ v v:=by
 have rest:∀ op',op'≠BinOp.shl→op'≠BinOp.shr→ak0 C t op' a b=some v→(Go.binOp op' t a' b').run P w = .ok v w∧∀ ρ,VR ρ v v:=by
  intro op h1 h2 h
  have eqs:axz C t op a b=some v→(∀ k x k' y,¬(a' = .int k x∧b' = .int k' y))→(∀ x y,¬(a' = .string x∧b' = .string y))→(Go.binOp op t a' b').run P w = .ok v w∧∀ ρ,VR ρ v v:=by
   intro h hni hns
   cases op <;> try (cases h;done)
   ·obtain ⟨r,hr,h⟩:=ah.1 h
    cases h
    refine ⟨?_,fun ρ=>.bool _⟩
    have:=Y7 (w:=w) hC hO hr ha hb
    cases ha <;> cases hb <;> first|exact absurd ⟨rfl,rfl⟩ (hni _ _ _ _)|exact absurd ⟨rfl,rfl⟩ (hns _ _)|simp [Go.binOp,this]
   ·obtain ⟨r,hr,h⟩:=ah.1 h
    cases h
    refine ⟨?_,fun ρ=>.bool _⟩
    have:=Y7 (w:=w) hC hO hr ha hb
    cases ha <;> cases hb <;> first|exact absurd ⟨rfl,rfl⟩ (hni _ _ _ _)|exact absurd ⟨rfl,rfl⟩ (hns _ _)|simp [Go.binOp,this]
  cases ha with
  |int k x=>
   cases hb with
   |int k' y=>
    obtain ⟨hg,h3⟩:=au.1 h
    have hk:=mM hg
    subst hk
    exact abd t h3 h1 h2
   |_=>cases h
  |string x=>
   cases hb with
   |string y=>exact abP t h h1 h2
   |_=>cases h
  |tok i k n=>exact (ag5 h).elim
  |alg lo hi a n c h1 h2=>exact Bool.noConfusion (show KD .f32=true by rw [(Rk h).1];rfl)
  |rng lo hi n hlo hhi=>
   obtain ⟨_,c,rfl,rfl,hq⟩:=Rk h
   cases hb
   rcases hq with ⟨rfl,h3,h4⟩|⟨rfl,h3⟩
   ·have h5:¬(c<n):=by rcases hhi with h6|h6 <;> omega
    refine ⟨?_,fun ρ=>.bool _⟩
    simp [Go.binOp,Op.intCmp,h5]
   ·have h5:c<n:=qaH h3 hlo
    refine ⟨?_,fun ρ=>.bool _⟩
    simp [Go.binOp,Op.intCmp,h5]
  |_=>exact eqs h (fun _ _ _ _ hh=>by cases hh.1) (fun _ _ hh=>by cases hh.1)
 cases op
 case shl=>
  obtain ⟨k,x,k',y,rfl,rfl,h1,h2⟩:=Ph (P:=P) (w:=w) t h
  cases ha;cases hb
  exact ⟨h1,h2⟩
 case shr=>
  obtain ⟨k,x,k',y,rfl,rfl,h1,h2⟩:=Ph (P:=P) (w:=w) t h
  cases ha;cases hb
  exact ⟨h1,h2⟩
 all_goals exact rest _ (by simp) (by simp) h
theorem ae1 (h:HR P base ρ s w)(he:EvR ρ ev η){op:BinOp}{t:TypeId}{x y:Operand}(C:Cfg)(hC:C.P=P)(hO:aeg C){r:Res}(hr:ap6 C ev s op t x y=some r) :
  sW P base ρ s w (qau P (do pure (.value (←do eqGuard op t x y (η x) (η y);Go.binOp op t (η x) (η y)))) w) r:=by
 obtain ⟨a,ha,hr⟩:=ah.1 hr
 obtain ⟨b,hb,hr⟩:=ah.1 hr
 obtain ⟨hg,hr⟩:=au.1 hr
 obtain ⟨v,hv,hr⟩:=ah.1 hr
 rw [bC hr]
 have h1:=UN (w:=w) hC hO (op:=op) hg (he x a ha) (he y b hb)
 have h2:=aa9 (w:=w) hC hO hv (he x a ha) (he y b hb)
 simp only [qae,h1,qac,h2.1,qad]
 exact aY h (h2.2 ρ)
theorem aiZ (h:HR P base ρ s w)(he:EvR ρ ev η){op:UnOp}{x:Operand}(C:Cfg){r:Res}(hr:oUn C ev s op x=some r) :
  sW P base ρ s w (qau P (do pure (.value (←Op.unary op (η x)))) w) r:=by
 obtain ⟨a,ha,hr⟩:=ah.1 hr
 obtain ⟨v,hv,hr⟩:=ah.1 hr
 rw [bC hr]
 have h2:=afx (P:=P) (w:=w) hv
 have hc:=he x a ha
 have e:η x=a:=by
  generalize η x=c at hc
  cases hc <;> first|rfl|cases hv
 simp only [e,qae,h2.1,qac,qad]
 exact aY h (h2.2 ρ)
theorem WH (h:HR P base ρ s w)(he:EvR ρ ev η){t:TypeId}{x:Operand}(C:Cfg)(hC:C.P=P){r:Res}(hr:Zo C ev s t x=some r) :
  sW P base ρ s w (qau P (do pure (.value (←Instr.makeInterface t (η x)))) w) r:=by
 obtain ⟨hg,hr⟩:=au.1 hr
 obtain ⟨a,ha,hr⟩:=ah.1 hr
 rw [bC hr]
 rw [hC] at hg
 simp only [qai,qaD] at hg
 obtain ⟨hg1,hg2⟩:=hg
 cases hu:P.underlying t with
 |none=>rw [hu] at hg2;cases hg2
 |some d=>
  unfold isIface at hg1
  rw [hu] at hg1
  have:(Instr.makeInterface t (η x)).run P w = .ok (.iface t (η x)) w:=by
   cases d <;> first|(simp [Instr.makeInterface,run_underlying hu];done)|cases hg1
  simp only [qae,this,qac,qad]
  exact aY h (.iface t (he x a ha))
theorem aa2 (h:HR P base ρ s w)(he:EvR ρ ev η){fn:Fn}{first captured:Array Operand}(C:Cfg){r:Res}(hr:aks C ev s fn first captured=some r) :
  sW P base ρ s w (qau P (do pure (.value (←Instr.makeFunc fn (first.map η) (captured.map η)))) w) r:=by
 obtain ⟨hf,hr⟩:=au.1 hr
 obtain ⟨a,ha,hr⟩:=ah.1 hr
 obtain ⟨b,hb,hr⟩:=ah.1 hr
 rw [bC hr]
 simp only [Instr.makeFunc,qae,qad,qac]
 have e1:first.map η=⟨first.toList.map η⟩:=by apply qaW;simp
 have e2:captured.map η=⟨captured.toList.map η⟩:=by apply qaW;simp
 rw [e1,e2]
 have hfr:FR ρ fn fn:=by
  cases fn with
  |func f=>exact .func f
  |method n=>exact .method n
  |methodOf t n=>exact .methodOf t n
  |via t p f b=>exact .via t p f b
  |yield l=>cases hf
 exact aY h (.func hfr (FN he ha) (FN he hb))
theorem Qp (h:HR P base ρ s w)(he:EvR ρ ev η){x:Operand}{i:Nat}(C:Cfg){r:Res}(hr:ET C ev s x i=some r) :
  sW P base ρ s w (qau P (do pure (.value (←Instr.extract (η x) i))) w) r:=by
 obtain ⟨a,ha,hr⟩:=ah.1 hr
 have hc:=he x a ha
 generalize η x=c at hc
 cases hc <;> try (cases hr;done)
 rename_i la lc hl
 obtain ⟨v,hv,hr⟩:=ah.1 hr
 rw [bC hr]
 rw [jk] at hv
 obtain ⟨v',h1,h2⟩:=hl.get hv
 simp only [Instr.extract,qas,h1,qae,qad,qac]
 exact aY h h2
theorem bD {a b:Nat}(h:ltN a b=true):a<b:=qaa h
theorem lG (k:IntKind)(n:Int):(asIntOf (.int k n)).run P w = .ok (k,n) w:=by simp [asIntOf]
theorem XB (h:HR P base ρ s w)(he:EvR ρ ev η){t:TypeId}{x i:Operand}(C:Cfg)(hC:C.P=P){r:Res}(hr:ZC C ev s t x i=some r) :
  sW P base ρ s w (qau P (do pure (.value (←Instr.index t (η x) (η i)))) w) r:=by
 obtain ⟨a,ha,hr⟩:=ah.1 hr
 obtain ⟨b,hb,hr⟩:=ah.1 hr
 obtain ⟨n,hn,hr⟩:=ah.1 hr
 obtain ⟨k,hk⟩:=(he i b hb).nat hn
 have hc:=he x a ha
 rw [hk]
 generalize η x=c at hc
 rw [hC] at hr
 cases hc with
 |string bs=>
  change (match P.underlying t with|some .string=>aj (nth bs.data.toList n) fun c=>ret (.int .u8 (qag c.toNat)) s|_=>none)=some r at hr
  split at hr
  ·rename_i hu
   obtain ⟨c,hc,hr⟩:=ah.1 hr
   rw [bC hr]
   rw [jk] at hc
   have hlt:n<bs.data.size:=by
    have:=(List.getElem?_eq_some_iff.1 hc).1
    simpa using this
   have hg:bs[n]? = some c:=by
    rw [getElem?_pos bs n hlt]
    rw [qay (by simpa using hlt)] at hc
    have hc':bs.data[n]=c:=by simpa using hc
    exact congrArg some hc'
   have hpos:(0:Int)≤(n:Int):=by omega
   simp only [Instr.index,qae,lG,run_underlying hu,qac,qam,if_pos hpos,qaB,hg,qad]
   exact aY h (.int _ _)
  ·cases hr
 |@agg la lc hl=>
  change (match P.underlying t with|some (.array len e)=>guard (ltN n len) (aj (size P e) fun k=>aj (part P e la (qat n k)) fun v=>ret v s)|_=>none)=some r at hr
  split at hr
  ·rename_i len e hu
   obtain ⟨hg,hr⟩:=au.1 hr
   obtain ⟨sz,hsz,hr⟩:=ah.1 hr
   obtain ⟨v,hv,hr⟩:=ah.1 hr
   rw [bC hr]
   obtain ⟨c,hrun,hcv⟩:=xR (w:=w) hv hl
   change (Go.part e ⟨lc⟩ (n*sz)).run P w=_ at hrun
   have hlt:=bD hg
   have hcond:(0:Int)≤(n:Int)∧(n:Int)<(len:Int):=by omega
   simp only [Instr.index,qae,lG,run_underlying hu,qac,qam,if_pos hcond,qaB,run_sizeOf hsz,hrun,qad]
   exact aY h hcv
  ·cases hr
 |_=>cases hr
theorem KC (h:HR P base ρ s w)(he:EvR ρ ev η){t:TypeId}{x i:Operand}(C:Cfg)(hC:C.P=P){r:Res}(hr:kN C ev s t x i=some r) :
  sW P base ρ s w (qau P (do pure (.value (←Instr.indexAt t (η x) (η i)))) w) r:=by
 obtain ⟨a,ha,hr⟩:=ah.1 hr
 obtain ⟨b,hb,hr⟩:=ah.1 hr
 obtain ⟨n,hn,hr⟩:=ah.1 hr
 obtain ⟨k,hk⟩:=(he i b hb).nat hn
 have hc:=he x a ha
 rw [hk]
 generalize η x=c at hc
 rw [hC] at hr
 split at hr
 ·rename_i e hu
  obtain ⟨bk,o,len,cap,l,hl,rfl,rfl⟩:∃ bk o len cap l,ρ.at bk=some l∧a = .slice (some ⟨bk,o,none⟩) len cap∧c = .slice (some ⟨l.blk,l.off+o,none⟩) len (capOf l cap):=by
   cases hc with
   |slice hl=>exact ⟨_,_,_,_,_,hl,rfl,rfl⟩
   |dead=>exact absurd (bD (au.1 hr).1) (qaU _)
   |_=>cases hr
  obtain ⟨hg,hr⟩:=au.1 hr
  obtain ⟨sz,hsz,hr⟩:=ah.1 hr
  rw [bC hr]
  rw [hC] at hsz
  have hlt:=bD hg
  have hcond:(0:Int)≤(n:Int)∧(n:Int)<(len:Int):=by omega
  simp only [Instr.indexAt,qae,lG,run_underlying hu,qac,qam,qad,if_pos hcond,run_sizeOf hsz,add_eq]
  simp only [qaB]
  refine aY h ?_
  have:=VR.ptr (ρ:=ρ) (b:=bk) (o:=o+n*sz) (l:=l) hl
  simpa [ptr,qax] using this
 ·rename_i len e hu
  obtain ⟨bk,o,l,hl,rfl,rfl⟩:∃ bk o l,ρ.at bk=some l∧a = .pointer (some ⟨bk,o,none⟩)∧c = .pointer (some ⟨l.blk,l.off+o,none⟩):=by
   cases hc with
   |ptr hl=>exact ⟨_,_,_,hl,rfl,rfl⟩
   |_=>cases hr
  obtain ⟨hg,hr⟩:=au.1 hr
  obtain ⟨sz,hsz,hr⟩:=ah.1 hr
  rw [bC hr]
  rw [hC] at hsz
  have hlt:=bD hg
  have hcond:(0:Int)≤(n:Int)∧(n:Int)<(len:Int):=by omega
  simp only [Instr.indexAt,Instr.sureAddr,qae,lG,run_underlying hu,qac,qam,qad,if_pos hcond,run_sizeOf hsz,add_eq]
  simp only [qaB]
  refine aY h ?_
  have:=VR.ptr (ρ:=ρ) (b:=bk) (o:=o+n*sz) (l:=l) hl
  simpa [ptr,qax] using this
 ·cases hr
theorem afv (h:HR P base ρ s w)(he:EvR ρ ev η){arr:TypeId}{x:Operand}(C:Cfg)(hC:C.P=P){r:Res}(hr:awJ C ev s arr x=some r) :
  sW P base ρ s w (qau P (do pure (.value (←Instr.arrayAt arr (η x)))) w) r:=by
 obtain ⟨a,ha,hr⟩:=ah.1 hr
 have hc:=he x a ha
 generalize η x=c at hc
 rw [hC] at hr
 split at hr
 ·rename_i n e a' len c' hu
  obtain ⟨hg,hr⟩:=au.1 hr
  rw [bC hr]
  simp only [qai] at hg
  have h1n:=qaa hg.1
  have hlt:¬(len<n):=by have:=qaa hg.2;omega
  cases hc with
  |dW n c=>
   simp only [Instr.arrayAt,qae,run_underlying hu,qac,qad,if_neg hlt]
   exact aY h .nY
  |slice hl=>
   simp only [Instr.arrayAt,qae,run_underlying hu,qac,qad,if_neg hlt]
   exact aY h (.ptr hl)
  |dead=>omega
 ·cases hr
theorem Qs (h:HR P base ρ s w)(he:EvR ρ ev η){t:TypeId}{x:Option Operand}(C:Cfg)(hC:C.P=P){r:Res}(hr:FH C ev s t x=some r) :
  sW P base ρ s w (qau P (do pure (.value (←Instr.makeMap t (x.map η)))) w) r:=by
 have hg:=Goes.awY h
 have hv:VR (ρ.set s.next ⟨w.heap.size,0,0⟩) (.map (some s.next)) (.map (some w.heap.size)):=VR.map (l:=⟨w.heap.size,0,0⟩) (Ren.dQ ρ _ _)
 cases x with
 |none=>
  rw [bC hr]
  have hrun:qau P (do pure (Next.value (←Instr.makeMap t (Option.map η none)))) w = .ok (.value (.map (some w.heap.size))) (w.alloc (.map #[] 0)):=by
   simp [Instr.makeMap]
  rw [hrun]
  exact iK hg hv
 |some y=>
  obtain ⟨hg0,hr⟩:=au.1 hr
  obtain ⟨v,hy,hr⟩:=ah.1 hr
  obtain ⟨n,hn,hr⟩:=ah.1 hr
  rw [bC hr]
  obtain ⟨k,hk⟩:=(he y v hy).nat hn
  obtain ⟨kt,e,hu⟩:∃ k e,P.underlying t=some (.map k e):=by
   unfold isMap at hg0
   rw [hC] at hg0
   split at hg0
   ·exact ⟨_,_,by assumption⟩
   ·cases hg0
  have hrun:qau P (do pure (Next.value (←Instr.makeMap t (Option.map η (some y))))) w = .ok (.value (.map (some w.heap.size))) (w.alloc (.map #[] 0)):=by
   simp [Instr.makeMap,hk,run_underlying hu,asInt,lG]
  rw [hrun]
  exact iK hg hv
end
end Go.Ax
namespace Go.Ax
variable [Lo]
open Go
section
variable {P:Program} {base:Nat} {ρ:Ren} {s s':St} {w w':World} {ev:Ev} {η:Operand→Value}
inductive PlR (ρ:Ren):Pl→Place→Prop
 |val {v c:Value} (h:VR ρ v c):PlR ρ (.val v) (.val c)
 |var {b o:Nat} {l:Loc} (h:ρ.at b=some l):PlR ρ (.var b o) (.var ⟨l.blk,l.off+o,none⟩)
theorem FV (h:HR P base ρ s w){t:TypeId}{x:Pl}{y:Place}{v:Value}(hxy:PlR ρ x y)(hv:x.get P s t=some v):∃ c,(y.get t).run P w = .ok c w∧VR ρ v c:=by
 cases hxy with
 |val hvc=>cases hv;exact ⟨_,by simp [Place.get],hvc⟩
 |var hl=>exact Cj h hl hv
theorem Dn {a:Addr}{f:Field}{n:Nat}(hn:size P f.type=some n)(hg:(!qaf n 0)=true):(fieldPlace a f).run P w = .ok (a.add f.offset) w:=by
 have hn0:n≠0:=by rintro rfl;simp at hg
 simp only [fieldPlace,run_sizeOf hn,hn0,if_false,qae,qad,qac]
theorem rX (h:HR P base ρ s w):∀ (st:List FieldStep) {t:TypeId} {x:Pl} {y:Place} {r:TypeId × Pl},PlR ρ x y→follow P s st t x=some r→
  ∃ y',(Go.follow st t y).run P w = .ok (r.1,y') w∧PlR ρ r.2 y'
 |[],t,x,y,r,hxy,hr=>by
  cases hr
  exact ⟨y,by simp [Go.follow],hxy⟩
 |st::rest,t,x,y,r,hxy,hr=>by
  change aj (abU P s st t x) (fun r=>follow P s rest r.1 r.2)=some r at hr
  obtain ⟨q,hq,hr⟩:=ah.1 hr
  unfold abU at hq
  obtain ⟨f,hf,hq⟩:=ah.1 hq
  obtain ⟨n,hn,hq⟩:=ah.1 hq
  obtain ⟨fs,hu,hfs⟩:=xk hf
  cases hd:st.deref with
  |true=>
   rw [hd,aN] at hq
   split at hq
   ·rename_i a hx
    obtain ⟨hg,hq⟩:=au.1 hq
    cases hq
    obtain ⟨c,h1,h2⟩:=FV h hxy hx
    cases h2 with
    |@ptr b o l hl=>
     obtain ⟨y',h3,h4⟩:=rX h rest (t:=f.type) (y:=.var ⟨l.blk,l.off+(o+f.offset),none⟩) (PlR.var hl) hr
     refine ⟨y',?_,h4⟩
     simp only [Go.follow,run_underlying hu,hfs,hd,if_true,qae,qac,h1,asAddr,qad,Dn hn hg,add_eq]
     rw [qax]
     exact h3
   ·cases hq
  |false=>
   rw [hd,aP] at hq
   cases hxy with
   |@var b o l hl=>
    obtain ⟨hg,hq⟩:=au.1 hq
    cases hq
    obtain ⟨y',h3,h4⟩:=rX h rest (t:=f.type) (y:=.var ⟨l.blk,l.off+(o+f.offset),none⟩) (PlR.var hl) hr
    refine ⟨y',?_,h4⟩
    simp only [Go.follow,run_underlying hu,hfs,hd,qao,if_false,qae,qac,Dn hn hg,add_eq]
    rw [qax]
    exact h3
   |@val a0 c0 hv=>
    obtain ⟨la,lc,hl,rfl,rfl⟩:∃ la lc,VRs ρ la lc∧a0=Value.agg ⟨la⟩∧c0=Value.agg ⟨lc⟩:=by
     cases hv with
     |agg hl=>exact ⟨_,_,hl,rfl,rfl⟩
     |_=>cases hq
    change aj (part P f.type la f.offset) (fun v=>some (f.type,Pl.val v))=some q at hq
    obtain ⟨v,hv,hq⟩:=ah.1 hq
    cases hq
    obtain ⟨c,h1,h2⟩:=xR (w:=w) hv hl
    obtain ⟨y',h3,h4⟩:=rX h rest (t:=f.type) (y:=.val c) (PlR.val h2) hr
    refine ⟨y',?_,h4⟩
    simp only [Go.follow,run_underlying hu,hfs,hd,qao,if_false,qae,qac,h1]
    exact h3
theorem DN (h:HR P base ρ s w){xt:TypeId}{x:Pl}{y:Place}{pr:Bool}{v:Value}(wrapper:Option String)(hxy:PlR ρ x y)(hr:receiver P s xt x pr=some v) :
  ∃ c,(receiverAt xt y pr wrapper).run P w = .ok c w∧VR ρ v c:=by
 unfold receiver at hr
 split at hr
 ·rename_i elem hu
  cases pr with
  |true=>
   rw [aN] at hr
   obtain ⟨c,h1,h2⟩:=FV h hxy hr
   exact ⟨c,by simp [receiverAt,run_underlying hu,h1],h2⟩
  |false=>
   rw [aP] at hr
   split at hr
   ·rename_i a hx
    obtain ⟨c,h1,h2⟩:=FV h hxy hx
    cases h2 with
    |@ptr b o l hl=>
     obtain ⟨c',h3,h4⟩:=Cj h hl hr
     refine ⟨c',?_,h4⟩
     cases wrapper with
     |none=>simp [receiverAt,run_underlying hu,h1,asAddr,h3]
     |some name=>
      have hs:(Builtin.ssaWrapNilChk_ #[xt] xt #[.pointer (some ⟨l.blk,l.off+o,none⟩),strVal "",strVal name]).run P w = .ok (.pointer (some ⟨l.blk,l.off+o,none⟩)) w:=rfl
      simp [receiverAt,run_underlying hu,h1,asAddr,h3,hs]
   ·cases hr
 ·rename_i d hnp hu
  cases hxy with
  |@var b o l hl=>
   cases pr with
   |true=>
    change some (ptr b o)=some v at hr
    cases hr
    refine ⟨.pointer (some ⟨l.blk,l.off+o,none⟩),?_,.ptr hl⟩
    cases d <;> first|exact absurd rfl (hnp _)|simp [receiverAt,run_underlying hu]
   |false=>
    change Pl.get P s xt (.var b o)=some v at hr
    obtain ⟨c,h1,h2⟩:=FV h (PlR.var hl) hr
    refine ⟨c,?_,h2⟩
    cases d <;> first|exact absurd rfl (hnp _)|simp [receiverAt,run_underlying hu,h1]
  |val hv=>
   cases pr with
   |true=>cases hr
   |false=>
    cases hr
    refine ⟨_,?_,hv⟩
    cases d <;> first|exact absurd rfl (hnp _)|simp [receiverAt,run_underlying hu,Place.get]
 ·cases hr
theorem Bg {t:TypeId}{name:String}{m:Method}(h:BQ P t name=some m):∃ i,P.info? t=some i∧i.methods.find? (·.name == name)=some m:=by
 unfold BQ at h
 cases hi:P.info? t with
 |none=>simp [hi] at h
 |some i=>
  rw [hi] at h
  refine ⟨i,rfl,?_⟩
  rw [←Array.find?_toList]
  exact h
theorem Z7 (h:HR P base ρ s w){t:TypeId}{v c:Value}{name:String}{q:FuncId × Value}(hv:VR ρ v c)(hq:method P s t v name=some q)(fuel:Nat) :
  ∃ c',(Go.method (fuel+1) t c name).run P w = .ok (q.1,c') w∧VR ρ q.2 c':=by
 unfold Ax.method at hq
 obtain ⟨m,hm,hq⟩:=ah.1 hq
 obtain ⟨r,hr,hq⟩:=ah.1 hq
 obtain ⟨i,hi,hfm⟩:=Bg hm
 obtain ⟨y,h1,h2⟩:=rX h m.path.toList (PlR.val hv) hr
 cases hf:m.func with
 |none=>rw [hf] at hq;cases hq
 |some fp=>
  rw [hf] at hq
  change aj (receiver P s r.1 r.2 fp.2) (fun v=>some (fp.1,v))=some q at hq
  obtain ⟨u,hu,hq⟩:=ah.1 hq
  cases hq
  obtain ⟨c',h3,h4⟩:=DN h (if m.path.isEmpty then some ((name.splitOn ".").getLastD name) else none) h2 hu
  refine ⟨c',?_,h4⟩
  obtain ⟨f,pr⟩:=fp
  simp only [Go.method,Go.typeInfo,qae,run_program,qac,hi,qad,hfm,h1,hf,h3]
end
end Go.Ax
namespace Go.Ax
variable [Lo]
open Go
theorem RS {l:List String}:Instr.least l=none↔l=[]:=by cases l <;> simp [Instr.least]
theorem afM (p:String→Bool)(g:String→String)(l:List String):(Instr.least (l.partition p).2 <|> Instr.least ((l.partition p).1.map g))=none↔l=[]:=by
 rw [List.partition_eq_filter_filter]
 constructor
 ·intro h
  have h3:Instr.least (l.filter (not ∘ p))=none∧Instr.least ((l.filter p).map g)=none:=by
   cases hx:Instr.least (l.filter (not ∘ p)) with
   |none=>rw [hx] at h;exact ⟨rfl,h⟩
   |some q=>rw [hx] at h;cases h
  rw [RS,RS,qa1,qaK,qaK] at h3
  cases l with
  |nil=>rfl
  |cons a t=>
   have h1:=h3.1 a (by simp)
   have h2:=h3.2 a (by simp)
   cases hb:p a
   ·simp only [Function.comp,hb] at h1;exact absurd rfl h1
   ·exact absurd hb h2
 ·rintro rfl
  simp [Instr.least]
theorem missingMethod_none (want:Array (String × TypeId))(got:Array Method) :
  Instr.missingMethod want got=none↔(want.toList.any fun w=>!(got.toList.any fun m=>m.name == w.1&&m.sig == w.2))=false:=by
 unfold Instr.missingMethod
 generalize hl:(List.filter (fun x=>match x with|(name,sig)=>!got.any fun m=>m.name == name&&m.sig == sig) want.toList).map (·.1)=l
 have h1:(want.toList.any fun w=>!(got.toList.any fun m=>m.name == w.1&&m.sig == w.2))=false↔l=[]:=by
  rw [←hl,qa1,qaK,List.any_eq_false]
  constructor
  ·intro h a ha
   have:=h a ha
   simpa using this
  ·intro h a ha
   have:=h a ha
   simpa using this
 rw [h1]
 exact afM _ _ l
section
variable {P:Program} {base:Nat} {ρ:Ren} {s s':St} {w w':World} {ev:Ev} {η:Operand→Value}
theorem JJ {t:TypeId}{z:Value}(h:GV P t=some z):∃ i,P.info? t=some i∧i.zero=some z:=by
 have h:=(au.1 h).2
 cases hi:P.info? t with
 |none=>simp [hi] at h
 |some i=>exact ⟨i,rfl,by simpa [hi] using h⟩
theorem Ea {t:TypeId}{z:Value}(h:GV P t=some z):(zeroValue t).run P w = .ok z w:=by
 obtain ⟨i,h1,h2⟩:=JJ h
 simp [zeroValue,Go.typeInfo,h1,h2]
theorem tH.at (hZ:tH P){t:TypeId}{z:Value}(h:GV P t=some z):VR ρ z z:=by
 obtain ⟨i,h1,h2⟩:=JJ h
 exact hZ t i z (qaa (au.1 h).1) h1 h2 ρ
theorem UF (h:HR P base ρ s w)(he:EvR ρ ev η)(hZ:tH P){x:Operand}{xt asserted:TypeId}{ok:Bool}(C:Cfg)(hC:C.P=P){r:Res}(hr:LJ C ev s x asserted ok=some r) :
  sW P base ρ s w (qau P (do pure (.value (←Instr.typeAssert (η x) xt asserted ok))) w) r:=by
 obtain ⟨hg,hr⟩:=au.1 hr
 obtain ⟨a,ha,hr⟩:=ah.1 hr
 have hc:=he x a ha
 generalize η x=c at hc
 rw [hC] at hg
 obtain ⟨d,hd⟩:=Option.isSome_iff_exists.1 hg
 have asV:∀ {r},uw C s asserted ok=some r→∃ z,ok=true∧(zeroValue asserted).run P w = .ok z w∧VR ρ z z∧r = .val (.tuple #[z,.bool false]) s:=by
  intro r hr
  obtain ⟨hok,hr⟩:=au.1 hr
  obtain ⟨z,hz,hr⟩:=ah.1 hr
  rw [hC] at hz
  exact ⟨z,hok,Ea hz,hZ.at hz,bC hr⟩
 have aAj:∀ {z:Value},VR ρ z z→VR ρ (.tuple #[z,.bool false]) (.tuple #[z,.bool false]):=fun hz=>.tuple (.cons hz (.cons (.bool _) .nil))
 have auB:∀ {v c:Value},VR ρ v c→VR ρ (sel ok (.tuple #[v,.bool true]) v) (if ok then .tuple #[c,.bool true] else c):=by
  intro v c hv
  cases ok
  ·exact hv
  ·exact .tuple (.cons hv (.cons (.bool _) .nil))
 cases hc with
 |nilIface=>
  obtain ⟨z,rfl,h1,h2,rfl⟩:=asV hr
  have hrun:(Instr.typeAssert .nilIface xt asserted true).run P w = .ok (.tuple #[z,.bool false]) w:=by
   cases d <;> simp [Instr.typeAssert,run_underlying hd,h1]
  simp only [qae,hrun,qac,qad]
  exact aY h (aAj h2)
 |@iface t y y' hy=>
  change sel (isIface C.P asserted) (guard (C.P.info? t).isSome <| sel (missing C.P asserted t) (uw C s asserted ok) (Ce s (.iface t y) ok)) (sel (qaf t asserted) (Ce s y ok) (uw C s asserted ok))=some r at hr
  rw [hC,aG] at hr
  split at hr
  ·rename_i hi
   obtain ⟨want,rfl⟩:∃ want,d = .interface want:=by
    unfold isIface at hi
    rw [hd] at hi
    cases d <;> first|exact ⟨_,rfl⟩|cases hi
   obtain ⟨hg2,hr⟩:=au.1 hr
   obtain ⟨i,abW⟩:=Option.isSome_iff_exists.1 hg2
   have hmm:=missingMethod_none want i.methods
   have aBp:missing P asserted t=(want.toList.any fun w=>!(i.methods.toList.any fun m=>m.name == w.1&&m.sig == w.2)):=by
    unfold missing;rw [hd,abW]
   rw [←aBp] at hmm
   cases hm:missing P asserted t with
   |true=>
    rw [hm,aN] at hr
    obtain ⟨z,rfl,h1,h2,rfl⟩:=asV hr
    rw [hm] at hmm
    cases hq:Instr.missingMethod want i.methods with
    |none=>exact absurd (hmm.1 hq) (by simp)
    |some q=>
     have hrun:(Instr.typeAssert (.iface t y') xt asserted true).run P w = .ok (.tuple #[z,.bool false]) w:=by
      simp [Instr.typeAssert,run_underlying hd,h1,Go.typeInfo,abW,hq]
     simp only [qae,hrun,qac,qad]
     exact aY h (aAj h2)
   |false=>
    rw [hm,aP] at hr
    rw [bC hr]
    have hq:=hmm.2 hm
    have hrun:(Instr.typeAssert (.iface t y') xt asserted ok).run P w = .ok (if ok then .tuple #[.iface t y',.bool true] else .iface t y') w:=by
     simp [Instr.typeAssert,run_underlying hd,Go.typeInfo,abW,hq]
    simp only [qae,hrun,qac,qad]
    exact aY h (auB (.iface t hy))
  ·rename_i hi
   have hni:∀ want,d ≠ .interface want:=by
    rintro want rfl
    apply hi
    unfold isIface
    rw [hd]
   rw [aG] at hr
   split at hr
   ·rename_i hta
    have hta:=qab hta
    have hr2:=bC hr
    rw [hr2]
    have hrun:(Instr.typeAssert (.iface t y') xt asserted ok).run P w = .ok (if ok then .tuple #[y',.bool true] else y') w:=by
     cases d <;> first|exact absurd rfl (hni _)|simp [Instr.typeAssert,run_underlying hd,hta]
    simp only [qae,hrun,qac,qad]
    exact aY h (auB hy)
   ·rename_i hta
    have hta:t≠asserted:=fun e=>hta (by rw [e];exact qaG _)
    obtain ⟨z,rfl,h1,h2,rfl⟩:=asV hr
    have hrun:(Instr.typeAssert (.iface t y') xt asserted true).run P w = .ok (.tuple #[z,.bool false]) w:=by
     cases d <;> first|exact absurd rfl (hni _)|simp [Instr.typeAssert,run_underlying hd,hta,h1]
    simp only [qae,hrun,qac,qad]
    exact aY h (aAj h2)
 |_=>cases hr
end
end Go.Ax
namespace Go.Ax
variable [Lo]
open Go
section
variable {P:Program} {base:Nat} {ρ:Ren} {s s':St} {w w':World} {ev:Ev} {η:Operand→Value}
theorem Va {t:TypeId}{v c:Value}{name:String}(hv:VR ρ v c)(h:TM P t v name=true)(fuel:Nat):(nilAhead (fuel+1) t c name).run P w = .ok (some false) w:=by
 unfold TM at h
 split at h
 ·cases h
 ·rename_i m hm
  obtain ⟨i,hi,hfm⟩:=Bg hm
  rw [aG] at h
  split at h
  ·rename_i hp
   have hp:m.path.toList=[]:=by
    have:m.path=#[]:=by simpa [Array.isEmpty_iff] using hp
    rw [this]
   have h0:(followBlind m.path.toList t (some c)).run P w = .ok (.ok (t,some c)) w:=by rw [hp];simp [followBlind]
   split at h
   ·rename_i f hf
    simp [nilAhead,Go.typeInfo,hi,hfm,h0,hf]
   ·rename_i f e a hf hu
    cases hv with
    |ptr hl=>simp [nilAhead,Go.typeInfo,hi,hfm,h0,hf,run_underlying hu]
   ·cases h
   ·rename_i f d hnp hf hu _
    have hd:∀ e,d ≠ .pointer e:=fun e h=>hnp e h
    cases d <;> first|exact absurd rfl (hd _)|simp [nilAhead,Go.typeInfo,hi,hfm,h0,hf,run_underlying hu]
   ·cases h
  ·cases h
theorem O5 (h:HR P base ρ s w)(he:EvR ρ ev η){x:Operand}(C:Cfg)(hC:C.P=P){r:Res}{o:Oper}(ho:o.op = .nilCheck x)(hr:Aj C ev s x=some r) :
  sW P base ρ s w (qau P (Go.execOp η o) w) r:=by
 obtain ⟨a,ha,hr⟩:=ah.1 hr
 have hc:=he x a ha
 unfold Go.execOp
 simp only [ho]
 generalize η x=c at hc
 cases hc with
 |ptr hl=>
  have hr2:=bC hr
  rw [hr2]
  simp only [qad]
  exact aY h (.ptr hl)
 |iface t hv=>
  have hr2:=bC hr
  rw [hr2]
  simp only [qad]
  exact aY h (.iface t hv)
 |@func f f' la lc lb lb' hf hfirst hcap=>
  change guard (aes C f la) (ret (.func f ⟨la⟩ ⟨lb⟩) s)=some r at hr
  obtain ⟨hg,hr⟩:=au.1 hr
  have hr2:=bC hr
  rw [hr2]
  have hv:=VR.func hf hfirst hcap
  cases hf with
  |method name=>
   unfold aes at hg
   cases hfirst with
   |nil=>cases hg
   |@cons v v' l l' hv1 hl=>
    cases hv1 with
    |iface t hw=>
     change TM C.P t _ name=true at hg
     rw [hC] at hg
     have:=Va (w:=w) hw hg (P.types.size+Made.depth-1)
     have e:P.types.size+Made.depth-1+1=P.types.size+Made.depth:=by
      have:0<Made.depth:=by decide
      omega
     rw [e] at this
     simp [this]
     exact aY h hv
    |_=>cases hg
  |func f=>simp only [qad];exact aY h hv
  |methodOf t n=>simp only [qad];exact aY h hv
  |via t p f b=>simp only [qad];exact aY h hv
  |yield hl=>simp only [qad];exact aY h hv
 |_=>cases hr
theorem U3 (hZ:tH P){t e:TypeId}{l c:Nat}{i:TypeInfo}{z:List Value}(hu:P.underlying t=some (.slice e))(hi:P.info? e=some i)(hz:zero P e=some z)
  (hg1:aQ z=i.size) (hg2:1≤i.size) (hg3:l≤c) (hg4:c≤100000) (hg5:i.bytes*c≤281474976710656) {x y:Value} {k1 k2:IntKind} (hk1:x = .int k1 (l:Int)) (hk2:y = .int k2 (c:Int)) :
  ∃ arr,VRs ρ (repeatL c z) arr.toList∧(Instr.makeSlice t x y).run P w = .ok (.slice (some ⟨w.heap.size,0,none⟩) l c) (w.alloc (.cells arr e)):=by
 rw [aW] at hg1
 obtain ⟨i2,v,h1,h2,h3,h4⟩:=uF hZ hz ρ
 rw [hi] at h1
 cases h1
 have hzv:(zeroValue e).run P w = .ok v w:=by simp [zeroValue,Go.typeInfo,hi,h2]
 have hvn:v.cells.size=i.size:=by
  have:=h4.length
  simp at this
  omega
 have hsz:(Go.sizeOf e).run P w = .ok i.size w:=by simp [Go.sizeOf,Go.typeInfo,hi]
 have hzz:VRs ρ (repeatL c z) ((qaM (c*i.size)).map fun j=>v.cells[j%v.cells.size]!).toList:=by
  have:=oW h4 c (.inl (by omega))
  have e0:c*v.cells.size=c*i.size:=by rw [hvn]
  rwa [e0] at this
 have hw1:IntKind.i64.wrap (l:Int)=(l:Int):=mO (by omega)
 have hw2:IntKind.i64.wrap (c:Int)=(c:Int):=mO (by omega)
 have ht:¬((c:Int)<0∨(i.bytes:Int)*(c:Int)>2 ^ 48):=by
  have:(i.bytes:Int)*(c:Int)=((i.bytes*c:Nat):Int):=by simp
  omega
 have hlc:¬((l:Int)<0):=by omega
 have azy:¬((l:Int)>(c:Int)):=by omega
 have hrun:(Instr.makeSlice t x y).run P w = .ok (.slice (some ⟨w.heap.size,0,none⟩) l c) (w.alloc (.cells ((qaM (c*i.size)).map fun j=>v.cells[j%v.cells.size]!) e)):=by
  rw [hk1,hk2]
  have hcond:((decide ((c:Int)<0)||decide ((i.bytes:Int)*(c:Int)>2 ^ 48))||decide ((l:Int)<0)||decide ((l:Int)>(c:Int)))=false:=by
   simp only [not_or] at ht
   simp only [ht.1,ht.2,hlc,azy,decide_false,Bool.or_false]
  simp only [Instr.makeSlice,run_underlying hu,qae,qac,asInt,lG,qad,Go.typeInfo,run_program,hi,hw1,hw2,hcond,qao,if_false,run_askRoom,qaB,hsz]
  by_cases h0:c*i.size=0
  ·have hc0:c=0:=by
    rcases Nat.mul_eq_zero.1 h0 with h|h
    ·exact h
    ·omega
   subst hc0
   have e0:qaM 0=#[]:=rfl
   simp [newRow,e0]
  ·simp only [h0,if_false,qae,hzv,qac,qad]
   simp [newRow]
 exact ⟨_,hzz,hrun⟩
theorem KA (h:HR P base ρ s w)(he:EvR ρ ev η)(hZ:tH P){t:TypeId}{x y:Operand}(C:Cfg)(hC:C.P=P){r:Res}(hr:nR C ev s t x y=some r) :
  sW P base ρ s w (qau P (do pure (.value (←Instr.makeSlice t (η x) (η y)))) w) r:=by
 unfold nR at hr
 rw [hC] at hr
 split at hr
 ·rename_i e hu
  obtain ⟨a,ha,hr⟩:=ah.1 hr
  obtain ⟨l,hl,hr⟩:=ah.1 hr
  obtain ⟨b,hb,hr⟩:=ah.1 hr
  obtain ⟨c,hc,hr⟩:=ah.1 hr
  obtain ⟨i,hi,hr⟩:=ah.1 hr
  obtain ⟨z,hz,hr⟩:=ah.1 hr
  obtain ⟨hg,hr⟩:=au.1 hr
  have hr2:=bC hr
  rw [hr2]
  simp only [qai] at hg
  obtain ⟨⟨⟨⟨hg1,hg2⟩,hg3⟩,hg4⟩,hg5⟩:=hg
  have hg1:=qab hg1
  have hg2:=qaa hg2
  have hg3:=qaa hg3
  have hg4:=qaa hg4
  have hg5:=qaa hg5
  change i.bytes*c≤281474976710656 at hg5
  rw [aW] at hg1
  obtain ⟨k1,hk1⟩:=(he x a ha).nat hl
  obtain ⟨k2,hk2⟩:=(he y b hb).nat hc
  obtain ⟨i2,v,h1,h2,h3,h4⟩:=uF hZ hz ρ
  rw [hi] at h1
  cases h1
  have hzv:(zeroValue e).run P w = .ok v w:=by simp [zeroValue,Go.typeInfo,hi,h2]
  have hvn:v.cells.size=i.size:=by
   have:=h4.length
   simp at this
   omega
  have hsz:(Go.sizeOf e).run P w = .ok i.size w:=by simp [Go.sizeOf,Go.typeInfo,hi]
  have hzz:VRs ρ (repeatL c z) ((qaM (c*i.size)).map fun j=>v.cells[j%v.cells.size]!).toList:=by
   have:=oW h4 c (.inl (by omega))
   have e0:c*v.cells.size=c*i.size:=by rw [hvn]
   rwa [e0] at this
  have hw1:IntKind.i64.wrap (l:Int)=(l:Int):=mO (by omega)
  have hw2:IntKind.i64.wrap (c:Int)=(c:Int):=mO (by omega)
  have ht:¬((c:Int)<0∨(i.bytes:Int)*(c:Int)>2 ^ 48):=by
   have:(i.bytes:Int)*(c:Int)=((i.bytes*c:Nat):Int):=by simp
   omega
  have hlc:¬((l:Int)<0):=by omega
  have azy:¬((l:Int)>(c:Int)):=by omega
  have hrun:(Instr.makeSlice t (η x) (η y)).run P w = .ok (.slice (some ⟨w.heap.size,0,none⟩) l c) (w.alloc (.cells ((qaM (c*i.size)).map fun j=>v.cells[j%v.cells.size]!) e)):=by
   rw [hk1,hk2]
   have hcond:((decide ((c:Int)<0)||decide ((i.bytes:Int)*(c:Int)>2 ^ 48))||decide ((l:Int)<0)||decide ((l:Int)>(c:Int)))=false:=by
    simp only [not_or] at ht
    simp only [ht.1,ht.2,hlc,azy,decide_false,Bool.or_false]
   simp only [Instr.makeSlice,run_underlying hu,qae,qac,asInt,lG,qad,Go.typeInfo,run_program,hi,qam,hw1,hw2,hcond,qao,if_false,run_askRoom,qaB,hsz]
   by_cases h0:c*i.size=0
   ·have hc0:c=0:=by
     rcases Nat.mul_eq_zero.1 h0 with h|h
     ·exact h
     ·omega
    subst hc0
    have e0:qaM 0=#[]:=rfl
    simp [newRow,e0]
   ·simp only [h0,if_false,qae,hzv,qac,qad]
    simp [newRow]
  have hgo:=Goes.newRow (e:=e) h hzz
  simp only [qae,hrun,qac,qad]
  refine iK hgo ?_
  have:=VR.slice (ρ:=ρ.set s.next ⟨w.heap.size,0,0⟩) (b:=s.next) (o:=0) (n:=l) (c:=c) (l:=⟨w.heap.size,0,0⟩) (by rw [Ren.dw h.next,Ren.dQ])
  have hcap:capOf ⟨w.heap.size,0,0⟩ c=c:=by
   unfold capOf;rw [if_neg];unfold bf;omega
  rw [hcap] at this
  exact this
 ·cases hr
end
end Go.Ax
namespace Go.Ax
variable [Lo]
open Go
inductive aal (ρ:Ren):Option Value→Option Value→Prop
 |none:aal ρ none none
 |some {v c:Value} (h:VR ρ v c):aal ρ (some v) (some c)
section
variable {P:Program} {base:Nat} {ρ:Ren} {s s':St} {w w':World} {ev:Ev} {η:Operand→Value}
theorem IC (he:EvR ρ ev η){x:Option Operand}{k:Option Value→Option Res}{r:Res}(hr:YT ev x k=some r):∃ v,aal ρ v (x.map η)∧k v=some r:=by
 cases x with
 |none=>exact ⟨none,.none,hr⟩
 |some x=>
  obtain ⟨v,hv,hr⟩:=ah.1 hr
  exact ⟨some v,.some (he x v hv),hr⟩
theorem run_sliceBound {v c:Value}{n y:Nat}(hv:VR ρ v c)(hn:asNat v=some n)(hy:n≤y)(code:BoundsCode):(Instr.sliceBound c y code).run P w = .ok n w:=by
 obtain ⟨k,rfl⟩:=hv.nat hn
 have:(0:Int)≤(n:Int)∧(n:Int)≤(y:Int):=by omega
 simp only [Instr.sliceBound,qae,lG,qac,qam,if_pos this,qad,qaB]
theorem DY {β:Type}{lo hi mx:Option Value}{len cap:Nat}{k:Nat→Nat→Nat→Option β}{r:β}(h:bounds lo hi mx len cap k=some r) :
  ∃ l h m,bound lo 0=some l∧bound hi len=some h∧bound mx cap=some m∧k l h m=some r:=by
 obtain ⟨l,h1,h⟩:=ah.1 h
 obtain ⟨hh,h2,h⟩:=ah.1 h
 obtain ⟨m,h3,h⟩:=ah.1 h
 exact ⟨l,hh,m,h1,h2,h3,h⟩
theorem jU {lo hi mx lo' hi' mx':Option Value}(hlo:aal ρ lo lo')(hhi:aal ρ hi hi')(hmx:aal ρ mx mx'){isSlice:Bool}{len aBi alZ l h m M:Nat}
  (h1:bound lo 0=some l) (h2:bound hi len=some h) (h3:bound mx aBi=some m) (hM:mx.isSome=true→M=m∧hi.isSome=true) (hM2:mx=none→M=alZ)
  (hl:l≤h) (hh:h≤M) (hm:M≤alZ):(Instr.sliceBounds isSlice len alZ lo' hi' mx').run P w = .ok (l,h,M) w:=by
 cases hmx with
 |none=>
  have hM2:=hM2 rfl
  subst hM2
  cases hhi with
  |none=>
   cases h2
   cases hlo with
   |none=>cases h1;simp [Instr.sliceBounds]
   |some hv=>simp [Instr.sliceBounds,run_sliceBound hv h1 hl]
  |some hv2=>
   cases hlo with
   |none=>cases h1;simp [Instr.sliceBounds,run_sliceBound hv2 h2 hh]
   |some hv=>simp [Instr.sliceBounds,run_sliceBound hv h1 hl,run_sliceBound hv2 h2 hh]
 |some hv3=>
  obtain ⟨rfl,hi1⟩:=hM rfl
  cases hhi with
  |none=>cases hi1
  |some hv2=>
   cases hlo with
   |none=>cases h1;simp [Instr.sliceBounds,run_sliceBound hv2 h2 hh,run_sliceBound hv3 h3 hm]
   |some hv=>simp [Instr.sliceBounds,run_sliceBound hv h1 hl,run_sliceBound hv2 h2 hh,run_sliceBound hv3 h3 hm]
theorem jK {l:Loc}{c:Nat}(h:c<bf):capOf l c=c:=by unfold capOf;rw [if_neg (by omega)]
theorem uD {l:Loc}{c:Nat}(h:bf≤c):capOf l c=l.cap-(aC-c):=by unfold capOf;rw [if_pos h]
theorem KX (h:HR P base ρ s w){b o cap n k:Nat}{cs:List Value}{e:TypeId}{f:Nat}{l:Loc}(hl:ρ.at b=some l)(hc:s.cells b=some (cs,e,f))(hf:f≠0)(hn:size P e=some n)
  (ho:o=(aC-cap)*n) (hk:o+k*n≤cs.length) (hn0:0<n):(aC-cap)+k≤l.cap:=by
 obtain ⟨q,hq⟩:=h.rows b cs e f hc
 have hql:q=l:=by have:=hq.at_;rw [hl] at this;exact (Option.some.inj this).symm
 subst hql
 obtain ⟨_,a,fz,_,_,_,_,g5⟩:=hq
 obtain ⟨n',h1,h2,h3,h4⟩:=g5 hf
 rw [hn] at h1
 cases h1
 have:((aC-cap)+k)*n≤q.cap*n:=by rw [qaI];omega
 exact Nat.le_of_mul_le_mul_right this hn0
end
end Go.Ax
namespace Go.Ax
variable [Lo]
open Go
section
variable {P:Program} {base:Nat} {ρ:Ren} {s s':St} {w w':World}
theorem UL (hH:HR P base ρ s w){b o cap l h m n M:Nat}{e:TypeId}{L:Loc}{v:Value}(hL:ρ.at b=some L)(hcap:bf≤cap)(hn:size P e=some n)
  (hlh:l≤h) (hhm:h≤m) (hmc:m≤cap) (hM:(m<bf∧M=m)∨(m=cap∧M=capOf L cap)) (hr:xu s ⟨b,o,none⟩ e cap l h m n=some (v,s')) :
  h≤M∧M≤capOf L cap∧∃ ρ',Goes P base ρ s w ρ' s' w∧
   VR ρ' v (.slice (some (if M=l then ⟨L.blk,L.off+o,none⟩ else ⟨L.blk,L.off+o+l*n,none⟩)) (h-l) (M-l)):=by
 unfold xu at hr
 obtain ⟨⟨cs,e',f⟩,hc,hr2⟩:=ah.1 hr
 clear hr
 obtain ⟨hg,hr⟩:=au.1 hr2
 clear hr2
 simp only [qai,qaD,qaw] at hg
 obtain ⟨⟨⟨⟨⟨⟨g1,g2⟩,g3⟩,g4⟩,g5⟩,g6⟩,g7⟩:=hg
 have g1:=qab g1
 subst g1
 have g2:o=(aC-cap)*n:=qab g2
 have g3:=qaa g3
 have g4:f≠0:=by rintro rfl;simp at g4
 have g5:=qaa g5
 have g7:=qaa g7
 rw [aW] at g7
 change o+(sel (qah bf m) h m)*n≤cs.length at g7
 rw [uD hcap] at hM ⊢
 have hd:∀ k,o+k*n≤cs.length→(aC-cap)+k≤L.cap:=fun k hk=>KX hH hL hc g4 hn g2 hk (by omega)
 obtain ⟨q,hq⟩:=hH.rows b cs e' f hc
 have hql:q=L:=by have:=hq.at_;rw [hL] at this;exact (Option.some.inj this).symm
 subst hql
 obtain ⟨_,a,fz,ha,AV,hfz,h0,h1⟩:=hq
 obtain ⟨n',hn',_,hsz,hlen⟩:=h1 g4
 rw [hn] at hn'
 cases hn'
 have hb:h≤M∧M≤q.cap-(aC-cap):=by
  rcases hM with ⟨hm,rfl⟩|⟨rfl,rfl⟩
  ·have:qah bf M=false:=by
    rw [←qaC];intro hb;have:=qaa hb;omega
   rw [this,aP] at g7
   have:=hd M g7
   exact ⟨hhm,by omega⟩
  ·rw [qan hcap,aN] at g7
   have:=hd h g7
   exact ⟨by omega,qar _⟩
 refine ⟨hb.1,hb.2,?_⟩
 rw [aG] at hr
 split at hr
 ·rename_i hcond
  cases hr
  refine ⟨ρ,Goes.refl hH,?_⟩
  rcases hM with ⟨hm,rfl⟩|⟨rfl,rfl⟩
  ·
   have hk:M-l<bf:=by omega
   rw [aG]
   by_cases hml:M=l
   ·subst hml
    rw [if_pos (qaG _),if_pos rfl]
    have:=VR.slice (ρ:=ρ) (b:=b) (o:=o) (n:=h-M) (c:=M-M) hL
    rw [jK hk] at this
    exact this
   ·rw [if_neg (fun hh=>hml (qab hh)),if_neg hml]
    have:=VR.slice (ρ:=ρ) (b:=b) (o:=o+l*n) (n:=h-l) (c:=M-l) hL
    rw [jK hk,←qax] at this
    exact this
  ·have hge:bf≤m-l:=by
    rcases g6 with g6|g6
    ·have:=bD g6;omega
    ·exact qaa g6
   have hml:m≠l:=by unfold bf at hge;omega
   rw [aG,if_neg (fun hh=>hml (qab hh))]
   have hcp:capOf q (qaF m l)=q.cap-(aC-m)-l:=by
    rw [uD (by exact hge)]
    show q.cap-(aC-(m-l))=_
    omega
   have key:=VR.slice (ρ:=ρ) (b:=b) (o:=o+l*n) (n:=h-l) (c:=qaF m l) hL
   rw [hcp,←qax] at key
   by_cases hMl:q.cap-(aC-m)=l
   ·rw [if_pos hMl]
    have hl0:l=0:=by
     simp only [qaw] at hcond
     rcases hcond with ((hc1|hc1)|hc1)|hc1
     ·have:=bD hc1;omega
     ·have:=bD hc1;omega
     ·have hc1:=bD hc1
      rw [aW] at hc1
      change o+l*n<cs.length at hc1
      have:=hd (l) (by omega)
      have hlt:((aC-m)+l)*n<q.cap*n:=by rw [qaI];omega
      have:=Nat.lt_of_mul_lt_mul_right hlt
      omega
     ·exact qab hc1
    subst hl0
    simpa using key
   ·rw [if_neg hMl]
    exact key
 ·rename_i hcond
  simp only [qaw,not_or] at hcond
  obtain ⟨⟨⟨hc1,hc2⟩,hc3⟩,hc4⟩:=hcond
  have aBE:h-l=0:=by
   have:¬(l<h):=fun hh=>hc2 (qan hh)
   omega
  cases hr
  refine ⟨ρ,Goes.refl hH,?_⟩
  rw [aBE]
  exact .dead _ _
end
end Go.Ax
namespace Go.Ax
variable [Lo]
open Go
section
variable {P:Program} {base:Nat} {ρ:Ren} {s s':St} {w w':World} {ev:Ev} {η:Operand→Value}
theorem NQ {b o l h m n:Nat}{L:Loc}{v:Value}(hL:ρ.at b=some L)(hm:m<bf)(hr:BO ⟨b,o,none⟩ l h m n s=some (v,s')) :
  s'=s∧VR ρ v (.slice (some (if m=l then ⟨L.blk,L.off+o,none⟩ else ⟨L.blk,L.off+o+l*n,none⟩)) (h-l) (m-l)):=by
 cases hr
 refine ⟨rfl,?_⟩
 have hk:m-l<bf:=by omega
 rw [aG]
 by_cases hml:m=l
 ·subst hml
  rw [if_pos (qaG _),if_pos rfl]
  have:=VR.slice (ρ:=ρ) (b:=b) (o:=o) (n:=h-m) (c:=m-m) hL
  rw [jK hk] at this
  exact this
 ·rw [if_neg (fun hh=>hml (qab hh)),if_neg hml]
  have:=VR.slice (ρ:=ρ) (b:=b) (o:=o+l*n) (n:=h-l) (c:=m-l) hL
  rw [jK hk,←qax] at this
  exact this
theorem Tj (M l n o c:Nat):(if M=l then (⟨c,o,none⟩:Addr) else ⟨c,o+l*n,none⟩)=(if M=l then ⟨c,o,none⟩ else (⟨c,o,none⟩:Addr).add (l*n)):=by
 rw [add_eq]
theorem Y1 {α:Type}{x:Option α}(h:x.isNone=true):x=none:=by cases x <;> first|rfl|cases h
theorem FQ (hH:HR P base ρ s w){t e:TypeId}{n:Nat}(hu:P.underlying t=some (.slice e))(hn:size P e=some n){A:Addr}{len K l h m:Nat}{lo hi mx lo' hi' mx':Option Value}{v:Value}
  (hlo:aal ρ lo lo') (hhi:aal ρ hi hi') (hmx:aal ρ mx mx') (h1:bound lo 0=some l) (h2:bound hi len=some h) (h3:bound mx aC=some m)
  (hg:mx.isNone=true∨hi.isSome=true∧ltN m bf=true) (amg:mx.isSome=true→hi.isSome=true) (g1:l≤h)
  (hr:guard (qaf h 0&&qaf aC aC&&(qaf m 0||qaf m aC)) (some (bY,s))=some (v,s')) :
  ∃ ρ' c',(Instr.sliceAt t (.slice (some A) len K) lo' hi' mx').run P w = .ok c' w∧Goes P base ρ s w ρ' s' w∧VR ρ' v c':=by
 obtain ⟨hq,hr⟩:=au.1 hr
 cases hr
 simp only [qai,qaw] at hq
 have h0:h=0:=qab hq.1.1
 subst h0
 have l0:l=0:=by omega
 subst l0
 have ax6:∃ M,(mx.isSome=true→M=m)∧(mx=none→M=K)∧M≤K:=by
  cases mx with
  |none=>exact ⟨K,fun hs=>(by cases hs),fun _=>rfl,qar _⟩
  |some q=>
   refine ⟨m,fun _=>rfl,fun hs=>(by cases hs),?_⟩
   rcases hg with hg|hg
   ·cases hg
   ·have hlt:=bD hg.2
    rcases hq.2 with hm|hm
    ·have:=qab hm;omega
    ·have:=qab hm
     unfold bf at hlt
     unfold aC at this
     omega
 obtain ⟨M,hM1,hM2,hM3⟩:=ax6
 have hb:=jU (P:=P) (w:=w) hlo hhi hmx (isSlice:=true) (len:=len) (alZ:=K) (M:=M) h1 h2 h3 (fun hs=>⟨hM1 hs,amg hs⟩) hM2 g1 (Nat.zero_le _) hM3
 refine ⟨ρ,.slice (if M=0 then some A else some (A.add (0*n))) 0 M,?_,Goes.refl hH,?_⟩
 ·simp only [Instr.sliceAt,Instr.slice,run_underlying hu,qae,qac,hb,run_sizeOf hn,qad]
  by_cases hMl:M=0 <;> simp [hMl]
 ·split <;> exact .dead _ _
theorem su (hH:HR P base ρ s w){t:TypeId}{a:Option Addr}{len cap:Nat}{lo hi mx lo' hi' mx':Option Value}{v c:Value}(hx:VR ρ (.slice a len cap) c)
  (hlo:aal ρ lo lo') (hhi:aal ρ hi hi') (hmx:aal ρ mx mx') (hr:uz P s t a len cap lo hi mx=some (v,s')) :
  ∃ ρ' c',(Instr.sliceAt t c lo' hi' mx').run P w = .ok c' w∧Goes P base ρ s w ρ' s' w∧VR ρ' v c':=by
 unfold uz at hr
 split at hr
 ·rename_i e hu
  obtain ⟨n,hn,hr1⟩:=ah.1 hr
  obtain ⟨l,h,m,h1,h2,h3,hr2⟩:=DY hr1
  obtain ⟨hg,hr3⟩:=au.1 hr2
  unfold wF at hr3
  obtain ⟨hg2,hr4⟩:=au.1 hr3
  clear hr hr1 hr2 hr3
  have hr:=hr4
  clear hr4
  simp only [qai] at hg2
  obtain ⟨⟨g1,g2⟩,g3⟩:=hg2
  have g1:=qaa g1
  have g2:=qaa g2
  have g3:=qaa g3
  simp only [qaw,qai] at hg
  have amg:mx.isSome=true→hi.isSome=true:=fun hs=>by
   rcases hg with hg|hg
   ·rw [Y1 hg] at hs;cases hs
   ·exact hg.1
  cases hx with
  |dW=>
   cases hr
   have hb:=jU (P:=P) (w:=w) hlo hhi hmx (isSlice:=true) (len:=len) (alZ:=cap) (M:=m) h1 h2 h3 (fun hs=>⟨rfl,amg hs⟩) (fun hs=>by subst hs;cases h3;rfl) g1 g2 g3
   refine ⟨ρ,_,?_,Goes.refl hH,.dW _ _⟩
   simp [Instr.sliceAt,Instr.slice,run_underlying hu,hb,run_sizeOf hn]
  |dead A K=>
   change sel (qaf fP fP) (guard (qaf h 0&&qaf aC aC&&(qaf m 0||qaf m aC)) (some (bY,s))) _=some (v,s') at hr
   rw [qaG,aN] at hr
   exact FQ hH hu hn (A:=A) (K:=K) hlo hhi hmx h1 h2 h3 hg amg g1 hr
  |@slice b o _ _ L hL=>
   change sel (qaf b fP) (guard (qaf h 0&&qaf cap aC&&(qaf m 0||qaf m aC)) (some (bY,s))) (sel (qah bf cap) (xu s ⟨b,o,none⟩ e cap l h m n) (BO ⟨b,o,none⟩ l h m n s))=some (v,s') at hr
   rw [aG] at hr
   split at hr
   ·have hcb:cap=aC:=by
     obtain ⟨hq,_⟩:=au.1 hr
     simp only [qai] at hq
     exact qab hq.1.2
    subst hcb
    exact FQ hH hu hn hlo hhi hmx h1 h2 h3 hg amg g1 hr
   rw [aG] at hr
   split at hr
   ·rename_i hcap
    have hcap:=qaa hcap
    have ax6:∃ M,((m<bf∧M=m)∨(m=cap∧M=capOf L cap))∧(mx.isSome=true→M=m)∧(mx=none→M=capOf L cap):=by
     cases mx with
     |none=>cases h3;exact ⟨_,.inr ⟨rfl,rfl⟩,fun hs=>(by cases hs),fun _=>rfl⟩
     |some q=>
      rcases hg with hg|hg
      ·cases hg
      ·exact ⟨m,.inl ⟨bD hg.2,rfl⟩,fun _=>rfl,fun hs=>by cases hs⟩
    obtain ⟨M,hM,hM1,hM2⟩:=ax6
    obtain ⟨b1,b2,ρ',hgo,hv⟩:=UL hH hL hcap hn g1 g2 g3 hM hr
    have hb:=jU (P:=P) (w:=w) hlo hhi hmx (isSlice:=true) (len:=len) (alZ:=capOf L cap) (M:=M) h1 h2 h3 (fun hs=>⟨hM1 hs,amg hs⟩) hM2 g1 b1 b2
    rw [Tj] at hv
    refine ⟨ρ',_,?_,hgo,hv⟩
    simp only [Instr.sliceAt,Instr.slice,run_underlying hu,qae,qac,hb,run_sizeOf hn,qad]
    by_cases hMl:M=l <;> simp [hMl]
   ·rename_i hcap
    have hcap:cap<bf:=by
     have:¬(bf≤cap):=fun hh=>hcap (qan hh)
     omega
    obtain ⟨rfl,hv⟩:=NQ hL (by omega) hr
    rw [jK hcap]
    have hb:=jU (P:=P) (w:=w) hlo hhi hmx (isSlice:=true) (len:=len) (alZ:=cap) (M:=m) h1 h2 h3 (fun hs=>⟨rfl,amg hs⟩) (fun hs=>by subst hs;cases h3;rfl) g1 g2 g3
    rw [Tj] at hv
    refine ⟨ρ,_,?_,Goes.refl hH,hv⟩
    simp only [Instr.sliceAt,Instr.slice,run_underlying hu,qae,qac,hb,run_sizeOf hn,qad]
    by_cases hMl:m=l <;> simp [hMl]
 ·cases hr
theorem Dq {k:Nat}{e:TypeId}{b o:Nat}{L:Loc}(hL:ρ.at b=some L){lo hi mx lo' hi' mx':Option Value}{v:Value}
  (hlo:aal ρ lo lo') (hhi:aal ρ hi hi') (hmx:aal ρ mx mx') (hr:BP P k e s ⟨b,o,none⟩ lo hi mx=some (v,s')) :
  s'=s∧∃ l h m n c,(Instr.sliceBounds false k k lo' hi' mx').run P w = .ok (l,h,m) w∧(Go.sizeOf e).run P w = .ok n w∧VR ρ v c∧
   c = .slice (some (if m=l then ⟨L.blk,L.off+o,none⟩ else (⟨L.blk,L.off+o,none⟩:Addr).add (l*n))) (h-l) (m-l):=by
 unfold BP at hr
 obtain ⟨n,hn,hr⟩:=ah.1 hr
 obtain ⟨l,h,m,h1,h2,h3,hr⟩:=DY hr
 obtain ⟨hg,hr⟩:=au.1 hr
 unfold wF at hr
 obtain ⟨hg2,hr⟩:=au.1 hr
 simp only [qai] at hg2
 obtain ⟨⟨g1,g2⟩,g3⟩:=hg2
 have g1:=qaa g1
 have g2:=qaa g2
 have g3:=qaa g3
 simp only [qaw,qai] at hg
 have hk:=bD hg.2
 have amg:mx.isSome=true→hi.isSome=true:=fun hs=>by
  rcases hg.1 with hg|hg
  ·rw [Y1 hg] at hs;cases hs
  ·exact hg
 change sel (qaf b fP) (guard (qaf h 0&&qaf k aC&&(qaf m 0||qaf m aC)) (some (bY,s))) (sel (qah bf k) (xu s ⟨b,o,none⟩ e k l h m n) (BO ⟨b,o,none⟩ l h m n s))=some (v,s') at hr
 have hr:sel (qah bf k) (xu s ⟨b,o,none⟩ e k l h m n) (BO ⟨b,o,none⟩ l h m n s)=some (v,s'):=by
  rw [aG] at hr
  split at hr
  ·obtain ⟨hq,_⟩:=au.1 hr
   simp only [qai] at hq
   have:=qab hq.1.2
   unfold bf at hk
   unfold aC at this
   omega
  ·exact hr
 have hkn:qah bf k=false:=by
  rw [←qaC];intro hb;have:=qaa hb;omega
 rw [hkn,aP] at hr
 obtain ⟨rfl,hv⟩:=NQ hL (by omega) hr
 have hb:=jU (P:=P) (w:=w) hlo hhi hmx (isSlice:=false) (len:=k) (alZ:=k) (M:=m) h1 h2 h3 (fun hs=>⟨rfl,amg hs⟩) (fun hs=>by subst hs;cases h3;rfl) g1 g2 g3
 rw [Tj] at hv
 exact ⟨rfl,l,h,m,n,_,hb,run_sizeOf hn,hv,rfl⟩
theorem XD (hH:HR P base ρ s w)(he:EvR ρ ev η){t:TypeId}{x:Operand}{lo hi mx:Option Operand}(C:Cfg)(hC:C.P=P){r:Res}(hr:Kw C ev s t x lo hi mx=some r) :
  sW P base ρ s w (qau P (do pure (.value (←Instr.sliceAt t (η x) (lo.map η) (hi.map η) (mx.map η)))) w) r:=by
 unfold Kw at hr
 obtain ⟨a,ha,hr1⟩:=ah.1 hr
 obtain ⟨vlo,hlo,hr2⟩:=IC he hr1
 obtain ⟨vhi,hhi,hr3⟩:=IC he hr2
 obtain ⟨vmx,hmx,hr4⟩:=IC he hr3
 obtain ⟨⟨v,s'⟩,hr5,hres⟩:=ah.1 hr4
 clear hr hr1 hr2 hr3 hr4
 cases hres
 have hr:=hr5
 clear hr5
 rw [hC] at hr
 have hc:=he x a ha
 generalize η x=c at hc
 show Gives P base ρ s w _ v s'
 cases hc with
 |dW n k=>
  obtain ⟨ρ',c',h1,h2,h3⟩:=su hH (.dW n k) hlo hhi hmx hr
  simp only [qae,h1,qac,qad]
  exact iK h2 h3
 |dead A K=>
  obtain ⟨ρ',c',h1,h2,h3⟩:=su hH (.dead A K) hlo hhi hmx hr
  simp only [qae,h1,qac,qad]
  exact iK h2 h3
 |slice hL=>
  obtain ⟨ρ',c',h1,h2,h3⟩:=su hH (.slice hL) hlo hhi hmx hr
  simp only [qae,h1,qac,qad]
  exact iK h2 h3
 |@ptr b o L hL=>
  change KU P s t ⟨b,o,none⟩ vlo vhi vmx=some (v,s') at hr
  unfold KU at hr
  split at hr
  ·rename_i k e hu
   obtain ⟨rfl,l,h,m,n,c,h1,h2,h3,rfl⟩:=Dq (w:=w) hL hlo hhi hmx hr
   simp only [Instr.sliceAt,Instr.sureAddr,run_underlying hu,qae,qad,h1,h2,qac]
   exact aY hH h3
  ·rename_i arr hu
   split at hr
   ·rename_i k e hu2
    obtain ⟨rfl,l,h,m,n,c,h1,h2,h3,rfl⟩:=Dq (w:=w) hL hlo hhi hmx hr
    simp only [Instr.sliceAt,Instr.slice,asAddr,run_underlying hu,run_underlying hu2,qae,qad,h1,h2,qac]
    exact aY hH h3
   ·cases hr
  ·cases hr
 |string bs=>
  change (match P.underlying t with|some .string=>Option.casesOn vmx (bounds vlo vhi none (aQ bs.data.toList) 0 fun l h _=>aj (E5 bs.data.toList l h) fun v=>some (v,s)) (fun _=>none)|_=>none)=some (v,s') at hr
  split at hr
  ·rename_i hu
   cases aAr:vmx with
   |some q=>rw [aAr] at hr;cases hr
   |none=>
    rw [aAr] at hr hmx
    obtain ⟨l,h,m,h1,h2,h3,hr⟩:=DY hr
    obtain ⟨v',hv',hr⟩:=ah.1 hr
    cases hr
    rw [Yt] at hv'
    obtain ⟨hg,hv'⟩:=au.1 hv'
    simp only [qai] at hg
    have g1:=qaa hg.1
    have g2:=qaa hg.2
    rw [aW] at g2 h2
    have hsz:bs.data.toList.length=bs.size:=rfl
    rw [hsz] at g2 h2
    have hnone:mx.map η=none:=by
     generalize mx.map η=q at hmx
     cases hmx
     rfl
    have hb:=jU (P:=P) (w:=w) hlo hhi (aal.none (ρ:=ρ)) (isSlice:=false) (len:=bs.size) (aBi:=bs.size) (alZ:=bs.size) (M:=bs.size) h1 h2 rfl (fun hs=>by cases hs) (fun _=>rfl) g1 g2 (qar _)
    cases hv'
    rw [hnone]
    simp only [Instr.sliceAt,Instr.slice,run_underlying hu,qae,qad,hb,qac,Option.isSome_none,qao,if_false]
    have e:bs.extract l h=⟨⟨aA (h-l) (eH l bs.data.toList)⟩⟩:=by
     rw [qU,iy]
     apply ByteArray.ext
     rw [ByteArray.data_extract]
     apply qaW
     simp [List.extract]
    rw [e]
    exact aY hH (.string _)
  ·cases hr
 |_=>cases hr
end
end Go.Ax
namespace Go.Ax
variable [Lo]
open Go
section
variable {P:Program} {base:Nat} {ρ:Ren} {s s':St} {w w':World} {ev:Ev} {η:Operand→Value}
theorem EsR.length {l l':List MapEntry}(h:EsR ρ l l'):l'.length=l.length:=by
 induction h with
 |nil=>rfl
 |cons _ _ _ _ ih=>simp [ih]
theorem AU (h:HR P base ρ s w){r c:Nat}{es:List MapEntry}(hg:WR s r=some (es,c)):∃ l,ρ r=some l∧s.tag r=some (0,r)∧∃ es',w.heap[l.blk]? = some (.map es' c)∧EsR ρ es es'.toList:=by
 unfold WR at hg
 split at hg
 ·rename_i es' c' hh
  cases hg
  obtain ⟨l,h1,es2,h2,h3⟩:=h.maps _ _ _ hh
  exact ⟨l,h1,qj hh,es2,h2,h3⟩
 ·cases hg
theorem jo {r:Nat}{o:Obj}(h:w.heap[r]? = some o)(hn:∀ c e f,o ≠ .cells c e f):(getObj r).run P w = .ok o w:=by
 simp only [getObj,qau,h]
theorem aeH (h:HR P base ρ s w){t:TypeId}{v c:Value}(hv:VR ρ v c)(ts:Array TypeId)(ty:TypeId)(ht:ts[0]? = some t){r:Res}(hr:avU P s t v=some r) :
  sW P base ρ s w (qau P (do pure (.value (←Builtin.len_ ts ty #[c]))) w) r:=by
 have hi:∀ (n:Nat) (x:Value),(Builtin.len_ ts ty #[c]).run P w = .ok (goInt n) w→r = .val (i64 n) s→sW P base ρ s w (qau P (do pure (.value (←Builtin.len_ ts ty #[c]))) w) r:=by
  intro n x h1 h2
  rw [h2]
  simp only [qae,h1,qac,qad]
  exact aY h (.int _ _)
 unfold avU at hr
 split at hr
 ·rename_i hu
  split at hr
  ·rename_i b
   cases hv
   refine hi (aQ b.data.toList) undef ?_ (bC hr)
   rw [aW]
   have e:b.data.toList.length=b.size:=rfl
   rw [e]
   simp [Builtin.len_,ht,run_underlying hu]
  ·cases hr
 ·rename_i e hu
  split at hr
  ·rename_i a n k
   cases hv with
   |dW n c=>exact hi n undef (by simp [Builtin.len_,ht,run_underlying hu]) (bC hr)
   |slice hl=>exact hi n undef (by simp [Builtin.len_,ht,run_underlying hu]) (bC hr)
   |dead A K=>exact hi 0 undef (by simp [Builtin.len_,ht,run_underlying hu]) (bC hr)
  ·rename_i k n
   cases hv with
   |opq A n K=>exact hi n undef (by simp [Builtin.len_,ht,run_underlying hu]) (bC hr)
  ·rename_i k lo up
   obtain ⟨hg,hr⟩:=au.1 hr
   rw [bC hr]
   cases hv with
   |alg _ _ A n K h1 h2=>
    have hrun:(Builtin.len_ ts ty #[Value.slice (some A) n K]).run P w = .ok (goInt (n:Int)) w:=by simp [Builtin.len_,ht,run_underlying hu]
    simp only [qae,hrun,qac,qad]
    exact aY h (.rng lo up n h1 h2)
   |rng _ _ n h1 h2=>cases hg
  ·cases hr
 ·rename_i k e hu
  split at hr
  ·cases hv
   exact hi 0 undef (by simp [Builtin.len_,ht,run_underlying hu]) (bC hr)
  ·rename_i m
   obtain ⟨⟨es,ck⟩,hg,hr2⟩:=ah.1 hr
   cases hv with
   |map hl=>
    obtain ⟨l,h1,_,es',h2,h3⟩:=AU h hg
    rw [hl] at h1
    cases h1
    refine hi (aQ es) undef ?_ (bC hr2)
    have:=h3.length
    simp at this
    simp [Builtin.len_,ht,run_underlying hu,jo h2 (by simp),aW,this]
  ·cases hr
 ·rename_i n e hu
  exact hi n undef (by simp [Builtin.len_,ht,run_underlying hu]) (bC hr)
 ·rename_i a hu
  obtain ⟨n,hn,hr2⟩:=ah.1 hr
  unfold aAQ at hn
  split at hn
  ·rename_i n' e hu2
   cases hn
   exact hi n undef (by simp [Builtin.len_,ht,run_underlying hu,run_underlying hu2]) (bC hr2)
  ·cases hn
 ·cases hr
theorem aeP (h:HR P base ρ s w){t:TypeId}{v c:Value}(hv:VR ρ v c)(ts:Array TypeId)(ty:TypeId)(ht:ts[0]? = some t){r:Res}(hr:axp P s t v=some r) :
  sW P base ρ s w (qau P (do pure (.value (←Builtin.cap_ ts ty #[c]))) w) r:=by
 unfold axp at hr
 split at hr
 ·rename_i e hu
  split at hr
  ·rename_i y n c
   obtain ⟨hg,hr2⟩:=au.1 hr
   have hg:=bD hg
   rw [bC hr2]
   cases hv with
   |dW=>
    have h1:(Builtin.cap_ ts ty #[.slice none n c]).run P w = .ok (goInt c) w:=by simp [Builtin.cap_,ht,run_underlying hu]
    simp only [qae,h1,qac,qad]
    exact aY h (.int _ _)
   |dead A K=>exact absurd hg (by unfold bf aC;omega)
   |@slice b o _ _ l hl=>
    rw [jK hg]
    have h1:(Builtin.cap_ ts ty #[.slice (some ⟨l.blk,l.off+o,none⟩) n c]).run P w = .ok (goInt c) w:=by simp [Builtin.cap_,ht,run_underlying hu]
    simp only [qae,h1,qac,qad]
    exact aY h (.int _ _)
  ·cases hr
 ·cases hr
theorem EO (h:HR P base ρ s w){mx:Bool}{x y x' y':Value}(hx:VR ρ x x')(hy:VR ρ y y')(ts:Array TypeId)(ty:TypeId){r:Res}(hr:Ew mx s x y=some r) :
  sW P base ρ s w (qau P (do pure (.value (←if mx then Builtin.max_ ts ty #[x',y'] else Builtin.min_ ts ty #[x',y']))) w) r:=by
 unfold Ew at hr
 split at hr
 ·rename_i k a
  split at hr
  ·rename_i k' b
   rw [bC hr]
   cases hx
   cases hy
   cases mx
   ·have h1:(Builtin.min_ ts ty #[.int k a,.int k' b]).run P w = .ok (.int k (sel (sel false (ltI a b) (ltI b a)) b a)) w:=by
     rw [aP,kX,aG]
     simp [Builtin.min_,Builtin.min2]
    simp only [qao,if_false,qae,h1,qac,qad]
    exact aY h (.int _ _)
   ·have h1:(Builtin.max_ ts ty #[.int k a,.int k' b]).run P w = .ok (.int k (sel (sel true (ltI a b) (ltI b a)) b a)) w:=by
     rw [aN,kX,aG]
     simp [Builtin.max_,Builtin.max2]
    simp only [if_true,qae,h1,qac,qad]
    exact aY h (.int _ _)
  ·cases hr
 ·cases hr
end
end Go.Ax
namespace Go.Ax
variable [Lo]
open Go
section
variable {P:Program} {base:Nat} {ρ:Ren} {s s':St} {w w':World}
theorem N9 {v c:Value}{n:Nat}(hv:VR ρ v c)(hn:lenOf v=some n):(Builtin.lenOf c).run P w = .ok n w:=by
 unfold Ax.lenOf at hn
 split at hn
 ·cases hn
  cases hv <;> simp [Builtin.lenOf]
 ·rename_i b
  cases hn
  cases hv
  rw [aW]
  have e:b.data.toList.length=b.size:=rfl
  rw [e]
  simp [Builtin.lenOf]
 ·cases hn
theorem Kt (l:List UInt8):VRs ρ (qY l) (l.map fun b=>.int .u8 (b.toNat:Int)):=by
 unfold qY
 rw [kP]
 induction l with
 |nil=>exact .nil
 |cons a t ih=>exact .cons (.int _ _) ih
theorem kJ (h:HR P base ρ s w){v c:Value}{sz n:Nat}{l:List Value}(hv:VR ρ v c)(hl:firstCells s sz n v=some l) :
  ∃ cl,(Builtin.firstCells sz n c).run P w = .ok ⟨cl⟩ w∧VRs ρ l cl∧((∃ a k j,v = .slice (some a) k j)→l.length=n*sz):=by
 unfold Ax.firstCells at hl
 split at hl
 ·rw [aG] at hl
  split at hl
  ·obtain ⟨hg,hl⟩:=au.1 hl
   have hg:=qab hg
   subst hg
   cases hl
   have hl0:∀ A:Addr,(Go.loadCells A 0).run P w = .ok ⟨[]⟩ w:=fun A=>by
    have:=run_loadCells_list (P:=P) w A [] (fun j v hj=>by simp at hj)
    simpa using this
   cases hv with
   |dead A K=>exact ⟨[],by simp [Builtin.firstCells,hl0],.nil,fun _=>by simp⟩
   |slice hL=>exact ⟨[],by simp [Builtin.firstCells,hl0],.nil,fun _=>by simp⟩
  obtain ⟨⟨cs,e,f⟩,hc,hl2⟩:=ah.1 hl
  rw [wG,iy] at hl2
  obtain ⟨h1,rfl⟩:=hl2
  cases hv with
  |dead A K=>exact (h.O7 hc).elim
  |@slice b o _ _ L hL=>
   obtain ⟨q,hq⟩:=h.rows b cs e f hc
   have hql:q=L:=by have:=hq.at_;rw [hL] at this;exact (Option.some.inj this).symm
   subst hql
   have h1':n*sz≤cs.length-o:=by simpa using h1
   by_cases ho:o≤cs.length
   ·obtain ⟨cl,h2,h3,h4⟩:=hq.seg (o:=o) (n:=n*sz) (by omega)
    have hl':=run_loadCells_list (P:=P) w ⟨q.blk,q.off+o,none⟩ cl (fun j v hj=>by rw [add_eq];exact h4 j v hj)
    rw [h3] at hl'
    exact ⟨cl,by simp [Builtin.firstCells,hl'],h2,fun _=>by simp;exact qaO h1'⟩
   ·have h0:n*sz=0:=by omega
    have hl':=run_loadCells_list (P:=P) w ⟨q.blk,q.off+o,none⟩ [] (fun j v hj=>by simp at hj)
    simp at hl'
    refine ⟨[],by simp [Builtin.firstCells,h0,hl'],?_,fun _=>by simp;exact qaO h1'⟩
    rw [show qat n sz=0 from h0]
    simpa using VRs.nil (ρ:=ρ)
 ·obtain ⟨_,hl⟩:=au.1 hl
  cases hl
  cases hv
  exact ⟨[],by simp [Builtin.firstCells],.nil,fun ⟨_,_,_,e⟩=>by cases e⟩
 ·rename_i b
  obtain ⟨_,hl⟩:=au.1 hl
  cases hl
  cases hv
  refine ⟨((aA n b.data.toList).map fun b=>.int .u8 (b.toNat:Int)),?_,Kt _,fun ⟨_,_,_,e⟩=>by cases e⟩
  rw [qU]
  simp only [Builtin.firstCells,qad]
  congr 1
  apply qaW
  simp
 ·cases hl
theorem aaN (h:HR P base ρ s w){t:TypeId}{d x d' x':Value}(hd:VR ρ d d')(hx:VR ρ x x')(ts:Array TypeId)(ty:TypeId)(ht:ts[0]? = some t){r:Res}(hr:ahK P s t d x=some r) :
  sW P base ρ s w (qau P (do pure (.value (←Builtin.copy_ ts ty #[d',x']))) w) r:=by
 unfold ahK at hr
 split at hr
 ·rename_i e hu
  split at hr
  ·rename_i bs dLen k
   obtain ⟨sl,hsl,hr1⟩:=ah.1 hr
   obtain ⟨sz,hsz,hr2⟩:=ah.1 hr1
   obtain ⟨new,hnew,hr3⟩:=ah.1 hr2
   clear hr hr1 hr2
   have hmin:sel (qah sl dLen) sl dLen=Nat.min sl dLen:=by
    rw [aG]
    by_cases hh:sl≤dLen
    ·rw [if_pos (qan hh)];exact (qaO hh).symm
    ·rw [if_neg (fun h'=>hh (qaa h'))];exact (Nat.min_eq_right (by omega)).symm
   rw [hmin] at hnew hr3
   generalize hn:Nat.min sl dLen=n at hnew hr3
   obtain ⟨cl,h1,h2,h3⟩:=kJ h hx hnew
   have hlen:=N9 (P:=P) (w:=w) hx hsl
   rw [aG] at hr3
   split at hr3
   ·rename_i h0
    have h0:n=0:=qab h0
    subst h0
    rw [bC hr3]
    have hcl:cl=[]:=by
     unfold Ax.firstCells at hnew
     split at hnew
     ·have:=h3 ⟨_,_,_,rfl⟩
      have h4:=h2.length
      rw [this] at h4
      simpa using h4
     ·obtain ⟨_,hnew⟩:=au.1 hnew
      cases hnew
      cases h2
      rfl
     ·obtain ⟨_,hnew⟩:=au.1 hnew
      cases hnew
      cases h2
      rfl
     ·cases hnew
    subst hcl
    have hrun:(Builtin.copy_ ts ty #[d',x']).run P w = .ok (goInt 0) w:=by
     cases hd <;> simp [Builtin.copy_,ht,run_underlying hu,hlen,run_sizeOf hsz,hn,h1,Go.storeCells]
    simp only [qae,hrun,qac,qad]
    exact aY h (.int _ _)
   ·rename_i h0
    cases hd with
    |dead A K=>exact absurd (show qaf n 0=true by rw [←hn];simp) h0
    |dW=>cases hr3
    |@slice b o _ _ l hl=>
     change aj (storeCells s b o new) (fun s=>ret (i64 n) s)=some r at hr3
     obtain ⟨s2,hs2,hr4⟩:=ah.1 hr3
     rw [bC hr4]
     obtain ⟨w2,h5,h6⟩:=ny h hl hs2 h2
     have hrun:(Builtin.copy_ ts ty #[.slice (some ⟨l.blk,l.off+o,none⟩) dLen (capOf l k),x']).run P w = .ok (goInt n) w2:=by
      simp [Builtin.copy_,ht,run_underlying hu,hlen,run_sizeOf hsz,hn,h1,h5]
     simp only [qae,hrun,qac,qad]
     exact iK h6 (.int _ _)
  ·cases hr
 ·cases hr
theorem Zq (h:HR P base ρ s w)(hZ:tH P){t:TypeId}{d d':Value}(hd:VR ρ d d')(ts:Array TypeId)(ty:TypeId)(ht:ts[0]? = some t){r:Res}(hr:aji P s t d=some r) :
  sW P base ρ s w (qau P (do pure (.value (←Builtin.clear_ ts ty #[d']))) w) r:=by
 unfold aji at hr
 obtain ⟨hg,hr0⟩:=au.1 hr
 clear hr
 rename _=some r=>hr
 obtain ⟨td,hu⟩:=Option.isSome_iff_exists.1 hg
 have hunit:VR ρ unit (.tuple #[]):=.tuple .nil
 split at hr
 ·rename_i bs n k
  rw [aG] at hr
  split at hr
  ·rename_i h0
   have h0:n=0:=qab h0
   subst h0
   rw [bC hr]
   have hrun:(Builtin.clear_ ts ty #[d']).run P w = .ok (.tuple #[]) w:=by
    cases hd <;> simp [Builtin.clear_,ht,run_underlying hu]
   simp only [qae,hrun,qac,qad]
   exact aY h hunit
  ·rename_i h0
   cases hd with
   |dead A K=>exact absurd rfl h0
   |dW=>
    have hr:=bC hr
    rw [hr]
    have hrun:(Builtin.clear_ ts ty #[.slice none n k]).run P w = .ok (.tuple #[]) w:=by
     simp [Builtin.clear_,ht,run_underlying hu]
    simp only [qae,hrun,qac,qad]
    exact aY h hunit
   |@slice b o _ _ l hl=>
    change (match P.underlying t with|some (.slice e)=>aj (zero P e) fun z=>guard (qah 1 (aQ z)) (aj (storeCells s b o (repeatL n z)) fun s=>ret unit s)|_=>none)=some r at hr
    split at hr
    ·rename_i e hu2
     rw [hu] at hu2
     cases hu2
     obtain ⟨z,hz,hr⟩:=ah.1 hr
     obtain ⟨hg,hr⟩:=au.1 hr
     obtain ⟨s2,hs2,hr⟩:=ah.1 hr
     have hr:=bC hr
     rw [hr]
     have hg:=qaa hg
     rw [aW] at hg
     obtain ⟨i,v,h1,h2,h3,h4⟩:=uF hZ hz ρ
     have hzv:(zeroValue e).run P w = .ok v w:=by simp [zeroValue,Go.typeInfo,h1,h2]
     have hzz:=oW h4 n (.inl (by omega))
     obtain ⟨w2,h5,h6⟩:=ny h hl hs2 hzz
     have hn0:n≠0:=by rintro rfl;exact h0 rfl
     have hrun:(Builtin.clear_ ts ty #[.slice (some ⟨l.blk,l.off+o,none⟩) n (capOf l k)]).run P w = .ok (.tuple #[]) w2:=by
      have e:Builtin.zeroCells v.cells n=(qaM (n*v.cells.size)).map fun i=>v.cells[i%v.cells.size]!:=rfl
      cases n with
      |zero=>exact absurd rfl hn0
      |succ n=>simp only [Builtin.clear_,ht,run_underlying hu,hzv,e,h5,qae,qac,qad,qas,List.getElem?_cons_zero]
     simp only [qae,hrun,qac,qad]
     exact iK h6 (.tuple .nil)
    ·cases hr
 ·cases hr
end
end Go.Ax
namespace Go.Ax
open Go
theorem Zz (need:Nat):∀ (r c:Nat),c≤2*need+768→Builtin.growBy need r c≤2*need+768
 |0,c,h=>h
 |r+1,c,h=>by
  unfold Builtin.growBy
  split
  ·exact h
  ·exact Zz need r _ (by omega)
theorem nextslicecap_le {need old:Nat}(h:old<need):Builtin.nextslicecap need old≤2*need+768:=by
 unfold Builtin.nextslicecap
 split
 ·omega
 ·split
  ·omega
  ·exact Zz need 4 old (by omega)
end Go.Ax
namespace Go.Ax
variable [Lo]
open Go
section
variable {P:Program} {base:Nat} {ρ:Ren} {s s':St} {w w':World}
theorem O6 {T:Option TypeId}(h:Qn P T=true):T=none∨∃ u d,T=some u∧P.underlying u=some d∧∀ k,d = .int k→False:=by
 cases T with
 |none=>exact .inl rfl
 |some t=>
  right
  change (match P.underlying t with|none=>false|some (.int _)=>false|_=>true)=true at h
  split at h
  ·cases h
  ·cases h
  ·rename_i d hn hi
   cases hu:P.underlying t with
   |none=>exact absurd hu (by simpa using hn)
   |some d=>
    exact ⟨t,d,rfl,hu,fun k e=>by subst e;exact absurd hu (hi _)⟩
theorem ji {ts:Array TypeId}{t ty e:TypeId}{i:TypeInfo}(ht:ts[0]? = some t)(hu:P.underlying t=some (.slice e))(hi:P.info? e=some i)(hni:Qn P ts[1]? = true)
  {b:Option Addr} {sLen sCap n:Nat} {x:Value} {new:List Value} (hlen:(Builtin.lenOf x).run P w = .ok n w) (hnew:(Builtin.firstCells i.size n x).run P w = .ok ⟨new⟩ w) (hfit:sLen+n≤sCap)
  (hst:∀ a,b=some a→(Go.storeCells (a.add (sLen*i.size)) new).run P w = .ok () w') (hnone:b=none→w'=w) :
  (Builtin.append_ ts ty #[.slice b sLen sCap,x]).run P w = .ok (.slice b (sLen+n) sCap) w':=by
 have hsz:(Go.sizeOf e).run P w = .ok i.size w:=by simp [Go.sizeOf,Go.typeInfo,hi]
 rcases O6 hni with h1|⟨u,d,h1,h2,h3⟩
 ·cases b with
  |none=>rw [hnone rfl];simp [Builtin.append_,ht,run_underlying hu,hsz,h1,hlen,hfit,hnew]
  |some a=>simp [Builtin.append_,ht,run_underlying hu,hsz,h1,hlen,hfit,hnew,hst a rfl]
 ·cases b with
  |none=>rw [hnone rfl];simp [Builtin.append_,ht,run_underlying hu,run_underlying h2,hsz,h1,hlen,hfit,hnew]
  |some a=>simp [Builtin.append_,ht,run_underlying hu,run_underlying h2,hsz,h1,hlen,hfit,hnew,hst a rfl]
theorem OH {ts:Array TypeId}{t ty e:TypeId}{i:TypeInfo}{z:Value}(ht:ts[0]? = some t)(hu:P.underlying t=some (.slice e))(hi:P.info? e=some i)(hz:i.zero=some z)(hni:Qn P ts[1]? = true)
  {b:Option Addr} {sLen sCap n:Nat} {x:Value} {old new:List Value} (hlen:(Builtin.lenOf x).run P w = .ok n w) (hold:(Builtin.firstCells i.size sLen (.slice b sLen sCap)).run P w.drew = .ok ⟨old⟩ w.drew)
  (hnew:(Builtin.firstCells i.size n x).run P w.drew = .ok ⟨new⟩ w.drew) (hfit:sCap<sLen+n) (h63:sLen+n≤281474976710656) (h48:Builtin.nextslicecap (sLen+n) sCap*i.bytes≤281474976710656) :
  (Builtin.append_ ts ty #[.slice b sLen sCap,x]).run P w =
   .ok (.slice (some ⟨w.heap.size,0,none⟩) (sLen+n) (grownCap w (sLen+n) sCap e))
    (w.drew.alloc (.cells ((⟨old⟩:Array Value)++⟨new⟩++Builtin.zeroCells z.cells (grownCap w (sLen+n) sCap e-(sLen+n))) e)):=by
 have hn:¬(sLen+n≤sCap):=by omega
 have h63':¬(9223372036854775807<((sLen:Int)+(n:Int))):=by omega
 have h48':¬(281474976710656<Builtin.nextslicecap (sLen+n) sCap*i.bytes):=by omega
 rcases O6 hni with h1|⟨u,d,h1,h2,h3⟩
 ·simp [Builtin.append_,ht,run_underlying hu,sizeOf,typeInfo,zeroValue,hi,hz,h1,hlen,hn,h63',h48',Question.forced,hold,hnew,newRow,grownCap]
  congr 2
  apply qaW
  simp [qaq]
 ·simp [Builtin.append_,ht,run_underlying hu,run_underlying h2,sizeOf,typeInfo,zeroValue,hi,hz,h1,hlen,hn,h63',h48',Question.forced,hold,hnew,newRow,grownCap]
  congr 2
  apply qaW
  simp [qaq]
end
end Go.Ax
namespace Go.Ax
variable [Lo]
open Go
section
variable {P:Program} {base:Nat} {ρ:Ren} {s s':St} {w w':World}
theorem Qq {v:Value}{sz n m:Nat}{l:List Value}(hl:firstCells s sz n v=some l)(hn:lenOf v=some m)(hm:n≤m):l.length=n*sz:=by
 unfold Ax.firstCells at hl
 split at hl
 ·rw [aG] at hl
  split at hl
  ·obtain ⟨hg,hl⟩:=au.1 hl
   cases hl
   rw [qab hg]
   simp
  obtain ⟨c,hc,hl2⟩:=ah.1 hl
  rw [wG] at hl2
  obtain ⟨h1,rfl⟩:=hl2
  rw [List.length_take]
  exact qaO h1
 ·obtain ⟨hg,hl⟩:=au.1 hl
  cases hl
  rw [qab hg]
  simp
 ·rename_i b
  obtain ⟨hg,hl⟩:=au.1 hl
  cases hl
  cases hn
  rw [aW] at hm
  rw [qab hg,qY,kP,qU]
  simp at hm ⊢
  omega
 ·cases hl
theorem Nu {v:Value}{sz:Nat}{l cl:List Value}(hl:firstCells s sz 0 v=some l)(hv:VRs ρ l cl):cl=[]:=by
 unfold Ax.firstCells at hl
 split at hl
 ·rw [aG] at hl
  split at hl
  ·obtain ⟨hg,hl⟩:=au.1 hl
   cases hl
   cases hv
   rfl
  obtain ⟨c,hc,hl2⟩:=ah.1 hl
  rw [wG] at hl2
  obtain ⟨h1,rfl⟩:=hl2
  have:=hv.length
  simpa using this
 ·obtain ⟨hg,hl⟩:=au.1 hl
  cases hl
  cases hv
  rfl
 ·obtain ⟨hg,hl⟩:=au.1 hl
  cases hl
  have:=hv.length
  simpa [qY,kP,qU] using this
 ·cases hl
theorem OB {e:TypeId}{need:Nat}(h:Ae P e need=true):∃ i z,P.info? e=some i∧i.zero=some z∧z.cells.size=i.size∧1≤i.size∧need≤281474976710656∧(2*need+768)*i.bytes≤281474976710656:=by
 unfold Ae at h
 cases hi:P.info? e with
 |none=>rw [hi] at h;cases h
 |some i=>
  rw [hi] at h
  simp only [qai] at h
  obtain ⟨⟨⟨h1,h2⟩,h3⟩,h4⟩:=h
  cases hz:i.zero with
  |none=>rw [hz] at h4;cases h4
  |some z=>
   rw [hz] at h4
   have h4:=qab h4
   rw [aW] at h4
   exact ⟨i,z,rfl,hz,by simpa using h4,qaa h3,qaa h1,qaa h2⟩
theorem DV {ts:Array TypeId}{t ty e:TypeId}{sz:Nat}(ht:ts[0]? = some t)(hu:P.underlying t=some (.slice e))(hsz:size P e=some sz)(hni:Qn P ts[1]? = true)
  {b:Option Addr} {sLen sCap n:Nat} {x:Value} {old new ocl ncl:List Value} (hg:Ae P e (sLen+n)=true) (hlen:(Builtin.lenOf x).run P w = .ok n w)
  (hold:(Builtin.firstCells sz sLen (.slice b sLen sCap)).run P w.drew = .ok ⟨ocl⟩ w.drew) (ho:VRs ρ old ocl) (hol:old.length=sLen*sz)
  (hnew:(Builtin.firstCells sz n x).run P w.drew = .ok ⟨ncl⟩ w.drew) (hn:VRs ρ new ncl) (hnl:new.length=n*sz) (hfit:sCap<sLen+n) :
  ∃ arr cap,(Builtin.append_ ts ty #[.slice b sLen sCap,x]).run P w = .ok (.slice (some ⟨w.heap.size,0,none⟩) (sLen+n) cap) (w.drew.alloc (.cells arr e))∧0<sz∧arr.size=cap*sz∧
   (old++new).length≤cap*sz∧∀ (j:Nat) (y:Value),(old++new)[j]? = some y→∃ y',arr[j]? = some y'∧VR ρ y y':=by
 obtain ⟨i,z,hi,hz,hzs,h1,h63,h48⟩:=OB hg
 obtain ⟨i',hi',hs⟩:=rW hsz
 rw [hi] at hi'
 cases hi'
 subst hs
 have hcap:=nextslicecap_le hfit
 have h48':Builtin.nextslicecap (sLen+n) sCap*i.bytes≤281474976710656:=qaV (qaL _ hcap) h48
 have hrun:=OH (ty:=ty) ht hu hi hz hni hlen hold hnew hfit h63 h48'
 have hge:=grownCap_ge w (sLen+n) sCap e
 have aBV:=ho.length
 have aBe:=hn.length
 have hap:=ho.append hn
 refine ⟨_,_,hrun,by omega,?_,?_,?_⟩
 ·have hzc:(Builtin.zeroCells z.cells (grownCap w (sLen+n) sCap e-(sLen+n))).size=(grownCap w (sLen+n) sCap e-(sLen+n))*i.size:=by
   simp [Builtin.zeroCells,hzs]
  simp only [Array.size_append,List.size_toArray,hzc]
  rw [aBV,aBe,hol,hnl,←qaI,←qaI]
  congr 1
  omega
 ·rw [qaR,hol,hnl,←qaI]
  exact qaL _ hge
 ·intro j y hj
  obtain ⟨y',h2,h3⟩:=hap.get hj
  refine ⟨y',?_,h3⟩
  have hjl:=(List.getElem?_eq_some_iff.1 h2).1
  rw [Array.getElem?_append_left (by simpa using hjl)]
  simpa using h2
end
end Go.Ax
namespace Go.Ax
variable [Lo]
open Go
section
variable {P:Program} {base:Nat} {ρ:Ren} {s s':St} {w w':World}
def aub (P:Program)(base:Nat)(ρ:Ren)(s:St)(w:World)(run:Result Value)(v:Value)(s':St):Prop:=
 ∃ c ρ' w',run = .ok c w'∧Goes P base ρ s w ρ' s' w'∧VR ρ' v c
theorem uP (b o c:Nat):capOf ⟨b,o,c⟩ aC=c:=by rw [uD (by unfold bf aC;omega)];simp
theorem ru (a:Addr):(Go.storeCells a []).run P w = .ok () w:=by simp [Go.storeCells]
theorem KI (h:HR P base ρ s w){ts:Array TypeId}{t ty e:TypeId}{i:TypeInfo}(ht:ts[0]? = some t)(hu:P.underlying t=some (.slice e))(hi:P.info? e=some i)(hni:Qn P ts[1]? = true)
  {b:Option Addr} {len cap:Nat} {a' x:Value} {v:Value} (ha:VR ρ (.slice b len cap) a') (hlen:(Builtin.lenOf x).run P w = .ok 0 w) (hnew:(Builtin.firstCells i.size 0 x).run P w = .ok #[] w)
  (hr:xK s e b len cap i.size (.slice b len cap)=some (v,s')):aub P base ρ s w ((Builtin.append_ ts ty #[a',x]).run P w) v s':=by
 unfold xK at hr
 rw [aG] at hr
 split at hr
 ·rename_i hc
  obtain ⟨hg,hr⟩:=au.1 hr
  cases hr
  have hg:=qaa hg
  cases ha with
  |dW=>
   have hrun:=ji (ty:=ty) (w:=w) (w':=w) (b:=none) (sLen:=len) (sCap:=cap) ht hu hi hni hlen hnew (by omega) (fun _ e=>by cases e) (fun _=>rfl)
   exact ⟨_,ρ,w,hrun,Goes.refl h,.dW _ _⟩
  |dead A K=>
   exfalso
   simp only [qaw] at hc
   rcases hc with hc|hc
   ·have:=bD hc
    unfold bf aC at this
    omega
   ·cases hc
  |@slice b o _ _ l hl=>
   have hcap:cap<bf:=by
    simp only [qaw] at hc
    rcases hc with hc|hc
    ·exact bD hc
    ·cases hc
   have hv:=VR.slice (o:=o) (n:=len) (c:=cap) hl
   rw [jK hcap] at hv ⊢
   have hrun:=ji (ty:=ty) (w:=w) (w':=w) (b:=some ⟨l.blk,l.off+o,none⟩) (sLen:=len) (sCap:=cap) ht hu hi hni hlen hnew (by omega) (fun _ _=>ru _) (fun e=>by cases e)
   exact ⟨_,ρ,w,hrun,Goes.refl h,hv⟩
 ·rename_i hc
  cases b with
  |none=>cases hr
  |some p=>
   have hr:sel (qaf p.block fP) (guard (qaf len 0) (some (.slice (some p) len cap,s))) (aj (s.cells p.block) fun c=>
    guard (qaf c.2.1 e&&JM p.off cap i.size&&qah 1 i.size && !qaf c.2.2 0&&qah (qaz p.off (qat len i.size)) (aQ c.1)) (some (.slice (some p) len cap,s)))=some (v,s'):=hr
   rw [aG] at hr
   split at hr
   ·obtain ⟨hg,hr⟩:=au.1 hr
    have hg:=qab hg
    subst hg
    cases hr
    cases ha with
    |dead A K=>
     have hrun:=ji (ty:=ty) (w:=w) (w':=w) (b:=some A) (sLen:=0) (sCap:=K) ht hu hi hni hlen hnew (by omega) (fun _ _=>ru _) (fun e=>by cases e)
     exact ⟨_,ρ,w,hrun,Goes.refl h,.dead _ _⟩
    |@slice b o _ _ l hl=>
     have hrun:=ji (ty:=ty) (w:=w) (w':=w) (b:=some ⟨l.blk,l.off+o,none⟩) (sLen:=0) (sCap:=capOf l cap) ht hu hi hni hlen hnew (by omega) (fun _ _=>ru _) (fun e=>by cases e)
     exact ⟨_,ρ,w,hrun,Goes.refl h,VR.slice hl⟩
   obtain ⟨⟨cs,e',f⟩,hcs,hr2⟩:=ah.1 hr
   obtain ⟨hg,hr⟩:=au.1 hr2
   clear hr2
   cases hr
   simp only [qai,qaD] at hg
   obtain ⟨⟨⟨⟨g1,g2⟩,g3⟩,g4⟩,g5⟩:=hg
   have g1:=qab g1
   subst g1
   have g4:f≠0:=by rintro rfl;simp at g4
   have g5:=qaa g5
   have g3:=qaa g3
   rw [aW] at g5
   cases ha with
   |dead A K=>exact (h.O7 hcs).elim
   |@slice b o _ _ l hl=>
    have g2:o=(aC-cap)*i.size:=qab g2
    have hcap:bf≤cap:=by
     simp only [qaw,not_or] at hc
     have:¬(cap<bf):=fun hh=>hc.1 (qan hh)
     omega
    have hsz:size P e'=some i.size:=by unfold size;rw [hi];rfl
    have hop:=KX h hl hcs g4 hsz g2 g5 (by omega)
    have hv:=VR.slice (o:=o) (n:=len) (c:=cap) hl
    rw [uD hcap] at hv ⊢
    have hrun:=ji (ty:=ty) (w:=w) (w':=w) (b:=some ⟨l.blk,l.off+o,none⟩) (sLen:=len) (sCap:=l.cap-(aC-cap)) ht hu hi hni hlen hnew (by omega) (fun _ _=>ru _) (fun e=>by cases e)
    exact ⟨_,ρ,w,hrun,Goes.refl h,hv⟩
theorem zG (h:HR P base ρ s w){ts:Array TypeId}{t ty e:TypeId}{sz:Nat}(ht:ts[0]? = some t)(hu:P.underlying t=some (.slice e))(hsz:size P e=some sz)(hni:Qn P ts[1]? = true)
  {b:Option Addr} {sLen sCap n:Nat} {x:Value} {old new ocl ncl:List Value} (hg:Ae P e (sLen+n)=true) (hlen:(Builtin.lenOf x).run P w = .ok n w)
  (hold:(Builtin.firstCells sz sLen (.slice b sLen sCap)).run P w.drew = .ok ⟨ocl⟩ w.drew) (ho:VRs ρ old ocl) (hol:old.length=sLen*sz)
  (hnew:(Builtin.firstCells sz n x).run P w.drew = .ok ⟨ncl⟩ w.drew) (hn:VRs ρ new ncl) (hnl:new.length=n*sz) (hfit:sCap<sLen+n) :
  aub P base ρ s w ((Builtin.append_ ts ty #[.slice b sLen sCap,x]).run P w) (grow s e (old++new) (sLen+n)).1 (grow s e (old++new) (sLen+n)).2:=by
 obtain ⟨arr,cap,hrun,h0,hsize,hle,hcells⟩:=DV (ty:=ty) ht hu hsz hni hg hlen hold ho hol hnew hn hnl hfit
 have hgo:=Goes.awV (k:=w.drawn+1) h hsz h0 hcells hsize hle
 refine ⟨_,_,_,hrun,hgo,?_⟩
 have key:=VR.slice (ρ:=ρ.set s.next ⟨w.heap.size,0,cap⟩) (b:=s.next) (o:=0) (n:=sLen+n) (c:=aC) (l:=⟨w.heap.size,0,cap⟩) (by rw [Ren.dw h.next,Ren.dQ])
 have hbc:=uP w.heap.size 0 cap
 rw [hbc] at key
 exact key
theorem FB (h:HR P base ρ s w){ts:Array TypeId}{t ty e:TypeId}{sz:Nat}{i:TypeInfo}(ht:ts[0]? = some t)(hu:P.underlying t=some (.slice e))(hi:P.info? e=some i)(hsz:i.size=sz)(hni:Qn P ts[1]? = true)
  {b o len cap n f:Nat} {l:Loc} {x:Value} {cs old new ocl ncl azg:List Value} (hl:ρ.at b=some l) (hc:s.cells b=some (cs,e,f)) (hf:f≠0) (hcap:bf≤cap) (hop:o=(aC-cap)*sz) (h1:1≤sz)
  (hb:ak≤b) (hone:rV new=true) (hend:o+len*sz=cs.length) (auF:old=(cs.drop o).take (len*sz))
  (hg:Ae P e (len+n)=true) (hlen:(Builtin.lenOf x).run P w = .ok n w)
  (hold:(Builtin.firstCells sz len (.slice (some ⟨l.blk,l.off+o,none⟩) len (capOf l cap))).run P w.drew = .ok ⟨ocl⟩ w.drew) (ho:VRs ρ old ocl)
  (azZ:(Builtin.firstCells sz n x).run P w.drew = .ok ⟨azg⟩ w.drew) (hn':VRs ρ new azg) (hnew:(Builtin.firstCells sz n x).run P w = .ok ⟨ncl⟩ w) (hn:VRs ρ new ncl) (hnl:new.length=n*sz) :
  aub P base ρ s w ((Builtin.append_ ts ty #[.slice (some ⟨l.blk,l.off+o,none⟩) len (capOf l cap),x]).run P w) (branch s b (old++new) e f (len+n)).1 (branch s b (old++new) e f (len+n)).2:=by
 have hsz':size P e=some sz:=by unfold size;rw [hi];exact congrArg some hsz
 have hol:old.length=len*sz:=by rw [auF];simp;omega
 have aB5:=KX h hl hc hf hsz' hop (k:=len) (by omega) (by omega)
 by_cases hfit:len+n≤capOf l cap
 ·
  obtain ⟨q,hq⟩:=h.rows b cs e f hc
  have hql:q=l:=by have:=hq.at_;rw [hl] at this;exact (Option.some.inj this).symm
  subst hql
  obtain ⟨_,a,fz,⟨e9,ha,he9⟩,AV,hfz,_,h4⟩:=hq
  have he9:=(he9 (.inr hb)).symm
  subst he9
  obtain ⟨n',hn',h0,ayk,aB3⟩:=h4 hf
  rw [hsz'] at hn'
  cases hn'
  clear h4
  have aq7:=uD (l:=q) hcap
  rw [aq7] at hfit
  have hmul:(len+n)*sz≤(q.cap-(aC-cap))*sz:=qaL _ hfit
  have hall:o+(q.cap-(aC-cap))*sz=q.cap*sz:=by
   rw [hop,←qaI];congr 1;omega
  have hsum:(len+n)*sz=len*sz+n*sz:=qaI _ _ _
  have hnc:=hn.length
  have aur:=jC P q.blk (q.off+o+len*sz) e fz ncl 0 a w ha (by omega) (hfz hb) (CW hn hone)
  let a':Array Value:=(a.toList.take (q.off+o+len*sz+0)++ncl++a.toList.drop (q.off+o+len*sz+0+ncl.length)).toArray
  have hsa:a'.size=a.size:=by simp [a'];omega
  have hlow:∀ j,j<q.off+o+len*sz→a'[j]? = a[j]?:=by
   intro j hj
   simp only [a',qas,qaP]
   rw [qaq,qaj (by simp;omega),qav,if_pos hj]
   simp
  have hmid:∀ j,j<ncl.length→a'[q.off+o+len*sz+j]? = ncl[j]?:=by
   intro j hj
   simp only [a',qas,qaP]
   rw [qaq,qal (by simp;omega),qaj (by simp;omega)]
   congr 1
   simp;omega
  have hrun:=ji (ty:=ty) (w:=w) (w':=w.setRow q.blk a') (b:=some ⟨q.blk,q.off+o,none⟩) (sLen:=len) (sCap:=capOf q cap) ht hu hi hni hlen (by rw [hsz];exact hnew) (by rw [aq7];exact hfit)
   (fun p hp=>by cases hp;rw [hsz,add_eq];exact aur) (fun e=>by cases e)
  let ln:Loc:=⟨q.blk,q.off+o,q.cap-(aC-cap)⟩
  have hgo:=Goes.share (cells:=old++new) (ln:=ln) h hb hc hf hl ha hsa (fun j x hj=>by
    have hjl:=(List.getElem?_eq_some_iff.1 hj).1
    rw [hlow (q.off+j) (by omega)]
    exact AV j x hj) rfl (fun j x hj=>by
    show ∃ y,a'[q.off+o+j]? = some y∧_
    by_cases hjo:j<old.length
    ·rw [qaj hjo,auF,qav,if_pos (by omega),qaA] at hj
     rw [hlow _ (by omega),qax]
     exact AV _ x hj
    ·rw [qal (by omega)] at hj
     have hjl:=(List.getElem?_eq_some_iff.1 hj).1
     obtain ⟨y,hy,hv⟩:=hn.get hj
     refine ⟨y,?_,hv⟩
     have:=hmid (j-old.length) (by omega)
     rw [hy] at this
     rw [←this]
     congr 1
     omega) (fun n2 hn2=>by
    rw [hsz'] at hn2
    cases hn2
    refine ⟨?_,?_⟩
    ·show q.off+o+(q.cap-(aC-cap))*sz≤a.size
     omega
    ·show (old++new).length≤(q.cap-(aC-cap))*sz
     rw [qaR,hol,hnl]
     omega)
  refine ⟨_,_,_,hrun,hgo,?_⟩
  have key:=VR.slice (ρ:=ρ.set s.next ln) (b:=s.next) (o:=0) (n:=len+n) (c:=aC) (l:=ln) (by rw [Ren.dw h.next,Ren.dQ])
  have hbc:capOf ln aC=ln.cap:=uP _ _ _
  rw [hbc] at key
  rw [aq7]
  exact key
 ·obtain ⟨arr,cp,hrun,h0,hsize,hle,hcells⟩:=DV (ty:=ty) ht hu hsz' hni hg hlen hold ho hol azZ hn' hnl (by omega)
  have hgo:=Goes.adI (k:=w.drawn+1) h hc hf hsz' h0 hcells hsize hle
  refine ⟨_,_,_,hrun,hgo,?_⟩
  have key:=VR.slice (ρ:=ρ.set s.next ⟨w.heap.size,0,cp⟩) (b:=s.next) (o:=0) (n:=len+n) (c:=aC) (l:=⟨w.heap.size,0,cp⟩) (by rw [Ren.dw h.next,Ren.dQ])
  have hbc:=uP w.heap.size 0 cp
  rw [hbc] at key
  exact key
theorem Zg (h:HR P base ρ s w){ts:Array TypeId}{sT ty:TypeId}{a b a' b' v:Value}(ha:VR ρ a a')(hb:VR ρ b b')(ht:ts[0]? = some sT)(hr:append P s sT ts[1]? a b=some (v,s')) :
  aub P base ρ s w ((Builtin.append_ ts ty #[a',b']).run P w) v s':=by
 unfold append at hr
 obtain ⟨hni,hr1⟩:=au.1 hr
 clear hr
 split at hr1
 ·rename_i e hu
  split at hr1
  ·rename_i bs len cap
   obtain ⟨n,hn,hr2⟩:=ah.1 hr1
   obtain ⟨sz,hsz,hr3⟩:=ah.1 hr2
   obtain ⟨new,hnew,hr⟩:=ah.1 hr3
   clear hr1 hr2 hr3
   obtain ⟨i,hi,hsi⟩:=rW hsz
   subst hsi
   have hlen:=N9 (P:=P) (w:=w) hb hn
   obtain ⟨ncl,hf1,hf2,hf3⟩:=kJ h hb hnew
   have hd:HR P base ρ s w.drew:=h.drew _
   obtain ⟨azg,ayc,axT,_⟩:=kJ hd hb hnew
   have hnl:=Qq hnew hn (qar _)
   unfold SK at hr
   rw [aG] at hr
   split at hr
   ·rename_i h0
    have h0:n=0:=qab h0
    subst h0
    have:=Nu hnew hf2
    subst this
    exact KI h ht hu hi hni ha hlen hf1 hr
   ·rename_i hne
    cases bs with
    |none=>
     obtain ⟨hg,hr9⟩:=au.1 hr
     clear hr
     have hr:=Option.some.inj hr9
     simp only [qai] at hg
     obtain ⟨⟨g1,g2⟩,g3⟩:=hg
     have g1:len=0:=qab g1
     have g2:cap=0:=qab g2
     subst g1 g2
     have h0:n≠0:=by rintro rfl;exact hne rfl
     cases ha
     have:=zG (ty:=ty) (old:=[]) (ocl:=[]) (sLen:=0) (sCap:=0) (b:=none) h ht hu hsz hni (by simpa using g3) hlen (by simp [Builtin.firstCells]) .nil (by simp) ayc axT hnl (by omega)
     rw [Nat.zero_add,List.nil_append] at this
     rw [hr] at this
     exact this
    |some p=>
     change Gy P s e p len cap n i.size new=some (v,s') at hr
     unfold Gy at hr
     obtain ⟨⟨cs,e',f⟩,hc,hr2⟩:=ah.1 hr
     clear hr
     obtain ⟨hg,hr⟩:=au.1 hr2
     clear hr2
     simp only [qai,qaw,qaD] at hg
     obtain ⟨⟨g1,g2⟩,g3⟩:=hg
     have g1:e'=e:=qab g1
     subst g1
     have g2:=qaa g2
     cases ha with
     |dead A K=>exact (h.O7 hc).elim
     |@slice bb o _ _ l hl=>
      rw [aG] at hr
      split at hr
      ·rename_i hcnd
       simp only [qai] at hcnd
       obtain ⟨c1,c2⟩:=hcnd
       have c1:len+n≤cap:=qaa c1
       have c2:o+len*i.size+n*i.size≤cs.length:=by have:=qaa c2;rw [aW] at this;exact this
       unfold Lr at hr
       obtain ⟨s2,hs2,hr2⟩:=ah.1 hr
       have hr:=Option.some.inj hr2
       cases hr
       obtain ⟨w2,h5,h6⟩:=ny h hl hs2 hf2
       have hfit:len+n≤capOf l cap:=by
        by_cases hk:cap<bf
        ·rw [jK hk];exact c1
        ·have hk':bf≤cap:=by omega
         rcases g3 with g3|⟨g3,g4⟩
         ·exact absurd (bD g3) hk
         ·have g3:o=(aC-cap)*i.size:=qab g3
          have g4:f≠0:=by rintro rfl;simp at g4
          have:=KX h hl hc g4 hsz g3 (k:=len+n) (by rw [qaI];omega) (by omega)
          rw [uD hk']
          omega
       have hrun:=ji (ty:=ty) (w:=w) (w':=w2) (b:=some ⟨l.blk,l.off+o,none⟩) (sLen:=len) (sCap:=capOf l cap) ht hu hi hni hlen hf1 hfit
        (fun p hp=>by cases hp;rw [add_eq,qax];exact h5) (fun e=>by cases e)
       exact ⟨_,ρ,w2,hrun,h6,.slice (h6.le |> fun hle=>Ren.abL hle hl)⟩
      ·unfold Fz at hr
       rw [adD] at hr
       obtain ⟨hgo,hr2⟩:=au.1 hr
       obtain ⟨old,hold,hr⟩:=ah.1 hr2
       clear hr2
       have hgo:Ae P e' (len+n)=true:=hgo
       have auI:=hold
       rw [wG,iy] at auI
       obtain ⟨ho1,ho2⟩:=auI
       have ho1:len*i.size≤cs.length-o:=by simpa using ho1
       have ho2:old=(cs.drop o).take (len*i.size):=ho2
       have hbd:qaf bb fP=false:=by
        cases hq:qaf bb fP with
        |false=>rfl
        |true=>
         have:=qab hq
         subst this
         exact (h.O7 hc).elim
       have hfc:firstCells s i.size len (.slice (some ⟨bb,o,none⟩) len cap)=some old:=by
        show sel (qaf bb fP) _ (aj (s.cells bb) _)=_
        rw [hbd,aP]
        show aj (s.cells bb) _=_
        rw [hc]
        exact hold
       obtain ⟨ocl,aym,aAO,aBG⟩:=kJ hd (VR.slice (n:=len) (c:=cap) hl) hfc
       have hol:=aBG ⟨_,_,_,rfl⟩
       rw [aG] at hr
       split at hr
       ·rename_i hk
        have hk:=bD hk
        obtain ⟨hlt,hr⟩:=au.1 hr
        have hlt:cap<len+n:=bD hlt
        have hr:=Option.some.inj hr
        rw [jK hk] at aym ⊢
        have:=zG (ty:=ty) h ht hu hsz hni hgo hlen aym aAO hol ayc axT hnl hlt
        rw [iG] at hr
        have e:grow s e' (old++new) (len+n)=(v,s'):=hr
        rw [e] at this
        exact this
       ·rename_i hk
        have hk:bf≤cap:=by
         have:¬(cap<bf):=fun hh=>hk (qan hh)
         omega
        obtain ⟨hgg,hr⟩:=au.1 hr
        simp only [qai] at hgg
        obtain ⟨⟨k1,k2⟩,k3⟩:=hgg
        have k1:o+len*i.size=cs.length:=by have:=qab k1;rw [aW] at this;exact this
        have k2:ak≤bb:=qaa k2
        rcases g3 with g3|⟨g3,g4⟩
        ·exact absurd (bD g3) (by omega)
        have g3:o=(aC-cap)*i.size:=qab g3
        have g4:f≠0:=by rintro rfl;simp at g4
        have hr:=Option.some.inj hr
        have:=FB (ty:=ty) h ht hu hi rfl hni hl hc g4 hk g3 g2 k2 k3 k1 ho2 hgo hlen aym aAO ayc axT hf1 hf2 hnl
        rw [iG] at hr
        have e:branch s bb (old++new) e' f (len+n)=(v,s'):=hr
        rw [e] at this
        exact this
  ·cases hr1
 ·cases hr1
end
end Go.Ax
