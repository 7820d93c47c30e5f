import Derived.Test.YtgpfgjhbiehafaaGreatDoorDc
import Derived.Test.YtgpfgjhbiehafaaGreatDoorDe
import Derived.Test.YtgpfgjhbiehafaaGreatDoorDd
import Derived.Test.YtgpfgjhbiehafaaGreatDoorDn
set_option maxRecDepth 1000000
set_option linter.unusedSectionVars false
set_option maxHeartbeats 0
set_option linter.unusedSimpArgs false
set_option linter.unusedVariables false
namespace Go.Ax
open Go
noncomputable section
namespace Fn
def db (w:Nat):UInt8:=UInt8.ofNat (Nat.add 48 (Nat.mod w 10))
def ail:Nat→Nat→List UInt8→List UInt8:=fun k=>Nat.rec (fun _ acc=>acc) (fun _ ih w acc=>sel (ltN w 10) (db w::acc) (ih (Nat.div w 10) (db w::acc))) k
def dec (n:Nat):List UInt8:=ail 20 n []
end Fn
def Gj:Nat→Nat→List UInt8
 |0,_=>[]
 |k+1,w=>Gj k (w/10)++[Fn.db w]
theorem SV (k w:Nat)(acc:List UInt8):Fn.ail (k+1) w acc=if w<10 then Fn.db w::acc else Fn.ail k (w/10) (Fn.db w::acc):=by
 show sel (ltN w 10) (Fn.db w::acc) (Fn.ail k (w/10) (Fn.db w::acc))=_
 rw [aC,iZ]
 simp only [decide_eq_true_eq]
theorem OD:∀ (k c w:Nat) (acc:List UInt8),c≤k→1≤c→w<10 ^ c→(c=1∨10 ^ (c-1)≤w)→Fn.ail k w acc=Gj c w++acc
 |0,c,w,acc,h,h1,_,_=>by omega
 |k+1,c,w,acc,h,h1,h2,h3=>by
  rw [SV]
  by_cases hw:w<10
  ·rw [if_pos hw]
   have hc:c=1:=by
    rcases h3 with h3|h3
    ·exact h3
    ·by_cases hc:c=1
     ·exact hc
     ·have:10 ^ 1≤10 ^ (c-1):=Nat.pow_le_pow_right (by omega) (by omega)
      omega
   subst hc
   rfl
  ·rw [if_neg hw]
   have hc:c≠1:=fun hc=>by subst hc;omega
   obtain ⟨c,rfl⟩:∃ d,c=d+1:=⟨c-1,by omega⟩
   have e:10 ^ (c+1)=10 ^ c*10:=Nat.pow_succ ..
   rw [OD k c (w/10) (Fn.db w::acc) (by omega) (by omega) (by rw [e] at h2;omega) (by
    by_cases h4:c=1
    ·exact .inl h4
    ·refine .inr ?_
     rcases h3 with h3|h3
     ·omega
     ·have e2:10 ^ (c+1-1)=10 ^ (c-1)*10:=by
       rw [show c+1-1=(c-1)+1 by omega]
       exact Nat.pow_succ ..
      rw [e2] at h3
      omega)]
   show _=Gj c (w/10)++[Fn.db w]++acc
   simp
theorem Uz {c w:Nat}(h:c≤20)(h1:1≤c)(h2:w<10 ^ c)(h3:c=1∨10 ^ (c-1)≤w):Fn.dec w=Gj c w:=by
 unfold Fn.dec
 rw [OD 20 c w [] h h1 h2 h3,List.append_nil]
theorem F9:∀ (k w:Nat),(Gj k w).length=k
 |0,_=>rfl
 |k+1,w=>by
  show (Gj k (w/10)++[Fn.db w]).length=_
  rw [List.length_append,F9 k]
  rfl
theorem PE (w:Nat)(h:w<18446744073709551616):∃ c,1≤c∧c≤20∧w<10 ^ c∧(c=1∨10 ^ (c-1)≤w):=by
 have key:∀ k,w<10 ^ k→∃ c,1≤c∧c≤max k 1∧w<10 ^ c∧(c=1∨10 ^ (c-1)≤w):=by
  intro k
  induction k with
  |zero=>intro h;exact ⟨1,by omega,by omega,by simp at h;omega,.inl rfl⟩
  |succ k ih=>
   intro h
   by_cases hk:w<10 ^ k
   ·obtain ⟨c,a1,a2,a3⟩:=ih hk
    exact ⟨c,a1,by omega,a3⟩
   ·exact ⟨k+1,by omega,by omega,h,.inr (by simpa using Nat.le_of_not_lt hk)⟩
 obtain ⟨c,a1,a2,a3⟩:=key 20 (by omega)
 exact ⟨c,a1,by omega,a3⟩
theorem kC (w:Nat)(h:w<18446744073709551616):1≤(Fn.dec w).length∧(Fn.dec w).length≤20:=by
 obtain ⟨c,a1,a2,a3,a4⟩:=PE w h
 rw [Uz a2 a1 a3 a4,F9]
 exact ⟨a1,a2⟩
end
end Go.Ax
namespace Go.Ax
open Go Go.Proofs
noncomputable section
def KN:KP:={ L:=22,B:=some true }
def l8:List UInt8:=0::1::dG (List.replicate 2 2) (dG (List.replicate 4 3) (dG (List.replicate 8 4) (dG (List.replicate 16 5) (dG (List.replicate 32 6) (dG (List.replicate 64 7) (List.replicate 128 8))))))
namespace Fn
def b8 (b x:Nat):Nat:=Nat.add b (uX l8 (Nat.mod x 256))
def bl8 (b x:Nat):Nat:=sel (leI 256 (Int.ofNat x)) (b8 (Nat.add b 8) (Nat.div x 256)) (b8 b x)
def ab7 (b x:Nat):Nat:=sel (leI 65536 (Int.ofNat x)) (bl8 (Nat.add b 16) (Nat.div x 65536)) (bl8 b x)
def bl (n:Nat):Nat:=sel (leI 4294967296 (Int.ofNat n)) (ab7 32 (Nat.div n 4294967296)) (ab7 0 n)
end Fn
def lt8 (b x:Nat):Option Value:=sel (ltN (Nat.mod x 256) 256) (sel (Nat.ble 9223372036854775808 (uX l8 (Nat.mod x 256))) none (sel (Nat.ble (Fn.b8 b x) 9223372036854775807) (some (.int .i64 (Int.ofNat (Fn.b8 b x)))) none)) none
def al8 (b x:Nat):Option Value:=sel (leI 256 (Int.ofNat x)) (lt8 (Nat.add b 8) (Nat.div x 256)) (lt8 b x)
def alW (b x:Nat):Option Value:=sel (leI 65536 (Int.ofNat x)) (al8 (Nat.add b 16) (Nat.div x 65536)) (al8 b x)
theorem XD (n:Nat):(runK KN CB 8).1 139 [.int .u64 (Int.ofNat n)] bK (fun r=>some r.1)=sel (leI 4294967296 (Int.ofNat n)) (alW 32 (Nat.div n 4294967296)) (alW 0 n):=by kernel_rfl
theorem ac4:∀ x,x<256→uX l8 x=if x=0 then 0 else Nat.log2 x+1:=by
 have h:(List.range 256).all (fun x=>Nat.beq (uX l8 x) (if x=0 then 0 else Nat.log2 x+1))=true:=by decide +kernel
 intro x hx
 exact Nat.eq_of_beq_eq_true (List.all_eq_true.1 h x (List.mem_range.2 hx))
theorem acz (l:List UInt8)(x:Nat):uX l x<256:=by
 unfold uX
 exact UInt8.toNat_lt _
theorem afg {b x:Nat}(hb:b≤1000):lt8 b x=some (.int .i64 (Int.ofNat (Fn.b8 b x))):=by
 have h1:Nat.mod x 256<256:=Nat.mod_lt _ (by omega)
 have h2:=acz l8 (Nat.mod x 256)
 unfold lt8 Fn.b8
 rw [show ltN (Nat.mod x 256) 256=true by rw [iZ];simpa using h1]
 rw [show Nat.ble 9223372036854775808 (uX l8 (Nat.mod x 256))=false by rw [←Bool.not_eq_true];exact fun e=>absurd (Nat.le_of_ble_eq_true e) (by omega)]
 rw [show Nat.ble (Nat.add b (uX l8 (Nat.mod x 256))) 9223372036854775807=true from Nat.ble_eq_true_of_le (by show b+uX l8 (Nat.mod x 256)≤_;omega)]
 rfl
theorem abX {b x:Nat}(hb:b≤900):al8 b x=some (.int .i64 (Int.ofNat (Fn.bl8 b x))):=by
 unfold al8 Fn.bl8
 rw [afg (show Nat.add b 8≤1000 by show b+8≤_;omega),afg (show b≤1000 by omega)]
 cases leI 256 (Int.ofNat x) <;> rfl
theorem aac {b x:Nat}(hb:b≤800):alW b x=some (.int .i64 (Int.ofNat (Fn.ab7 b x))):=by
 unfold alW Fn.ab7
 rw [abX (show Nat.add b 16≤900 by show b+16≤_;omega),abX (show b≤900 by omega)]
 cases leI 65536 (Int.ofNat x) <;> rfl
theorem abS (n:Nat):(runK KN CB 8).1 139 [.int .u64 (Int.ofNat n)] bK (fun r=>some r.1)=some (.int .i64 (Int.ofNat (Fn.bl n))):=by
 rw [XD]
 unfold Fn.bl
 rw [aac (by omega),aac (by omega)]
 cases leI 4294967296 (Int.ofNat n) <;> rfl
theorem abz {b x:Nat}(hx:x<256):(x=0∧Fn.b8 b x=b)∨(∃ k,Fn.b8 b x=b+(k+1)∧2 ^ k≤x∧x<2 ^ (k+1)):=by
 have e:Nat.mod x 256=x:=Nat.mod_eq_of_lt hx
 unfold Fn.b8
 rw [e,ac4 x hx]
 by_cases h0:x=0
 ·rw [if_pos h0];exact .inl ⟨h0,rfl⟩
 ·rw [if_neg h0]
  exact .inr ⟨Nat.log2 x,rfl,Nat.log2_self_le h0,Nat.lt_log2_self⟩
def Ba (b x r:Nat):Prop:=(x=0∧r=b)∨∃ k,r=b+(k+1)∧2 ^ k≤x∧x<2 ^ (k+1)
theorem Ba.shift {b x r j:Nat}(h:Ba (b+j) (x/2 ^ j) r)(hx:2 ^ j≤x):Ba b x r:=by
 have hp:0<2 ^ j:=Nat.pos_of_ne_zero (by simp)
 rcases h with ⟨h0,_⟩|⟨k,h1,h2,h3⟩
 ·have:=(Nat.div_eq_zero_iff).1 h0
  omega
 ·refine .inr ⟨k+j,by omega,?_,?_⟩
  ·rw [Nat.pow_add]
   exact (Nat.le_div_iff_mul_le hp).1 h2
  ·rw [show k+j+1=(k+1)+j by omega,Nat.pow_add]
   exact (Nat.div_lt_iff_lt_mul hp).1 h3
theorem CG (a b:Nat):leI (Int.ofNat a) (Int.ofNat b)=decide (a≤b):=by
 show Nat.ble a b=_
 by_cases h:a≤b
 ·rw [Nat.ble_eq_true_of_le h];simp [h]
 ·rw [show Nat.ble a b=false by rw [←Bool.not_eq_true];exact fun e=>h (Nat.le_of_ble_eq_true e)];simp [h]
theorem Vz {b x:Nat}(hx:x<65536):Ba b x (Fn.bl8 b x):=by
 unfold Fn.bl8
 rw [show leI 256 (Int.ofNat x)=decide (256≤x) from CG 256 x]
 by_cases h:256≤x
 ·rw [decide_eq_true h,aH]
  exact Ba.shift (j:=8) (abz (show x/256<256 by omega)) h
 ·rw [decide_eq_false h,aF]
  exact abz (by omega)
theorem RX {b x:Nat}(hx:x<4294967296):Ba b x (Fn.ab7 b x):=by
 unfold Fn.ab7
 rw [show leI 65536 (Int.ofNat x)=decide (65536≤x) from CG 65536 x]
 by_cases h:65536≤x
 ·rw [decide_eq_true h,aH]
  exact Ba.shift (j:=16) (Vz (show x/65536<65536 by omega)) h
 ·rw [decide_eq_false h,aF]
  exact Vz (by omega)
theorem afB {n:Nat}(hn:n<18446744073709551616):Ba 0 n (Fn.bl n):=by
 unfold Fn.bl
 rw [show leI 4294967296 (Int.ofNat n)=decide (4294967296≤n) from CG 4294967296 n]
 by_cases h:4294967296≤n
 ·rw [decide_eq_true h,aH]
  exact Ba.shift (j:=32) (RX (b:=0+32) (show n/4294967296<4294967296 by omega)) h
 ·rw [decide_eq_false h,aF]
  exact RX (by omega)
def an4 (args:List Value):Option Value:=
 match args with
 |[.int .u64 (.ofNat n)]=>some (.int .i64 (Int.ofNat (Fn.bl n)))
 |_=>none
theorem ahL:∀ args v,nM args=true→an4 args=some v→∃ s1,(runN CB 8).1 139 args bK=some (v,s1):=by
 intro args v hfr h
 unfold an4 at h
 split at h
 ·rename_i n
  cases h
  have h1:=(iy (K:=KN) (by decide) CB dI bQ 8).1 _ _ _ _ _ (abS n)
  obtain ⟨q,h2,h3⟩:=ah.1 h1
  obtain ⟨v',s'⟩:=q
  cases h3
  exact ⟨_,h2⟩
 ·cases h
variable [Lo]
def afW:List (Nat × Con):=(139,.pure an4)::[]
def CL1:Cfg:={ CB with ext:=dJ [],insert:=dJ afW }
theorem agZ:fJ Tryz.prog CL1 afW:=fJ.pure pV ahL fJ.nil
theorem ak1:dH CL1 Tryz.prog:=vG (ext:=dJ []) (ins:=dJ afW) rfl (fun f t h=>agZ f t h) (fun f e h=>by cases h)
end
end Go.Ax
namespace Go.Ax
open Go Go.Proofs
noncomputable section
def iN (n:Nat):Value:=.int .i64 (Int.ofNat n)
def uN (n:Nat):Value:=.int .u64 (Int.ofNat n)
def Qz (n:Nat):List Value:=Nat.rec (motive:=fun _=>Nat→List Value) (fun _=>[]) (fun _ ih p=>.int .u64 (Int.ofNat p)::ih (Nat.mul 10 p)) n 1
def spT:bZ:={ N:=64,need:=[],low:=[0],keep:=[],new:=[] }
def spZ:bZ:={ N:=64,need:=[],low:=[],keep:=[],new:=[] }
def mT:xZ:={ pre:=spT,ends:=[spZ] }
def Yc (t:TypeId):List (Nat × Row):=[(0,.row (Qz 20) t 0)]
def upN (n:Nat):List Nat:=Nat.rec (motive:=fun _=>Nat→List Nat) (fun _=>[]) (fun _ ih j=>j::ih (Nat.succ j)) n 0
def KB1:KP:={ L:=4,B:=some true,post:=fun f _=>sel (Nat.beq f 139) (qB Int.ofNat (upN 65)) [] }
def jOf (L:Nat):Nat:=Nat.div (Nat.mul L 78913) 262144
def ndR (t k:Nat):Option (Nat × bC):=some (0,⟨[iN k],[]⟩)
def ndS (n t L:Nat):Option (Nat × bC):=sel (leI (Int.ofNat (Nat.pow 10 (jOf L))) (Int.ofNat n)) (ndR t (Nat.add (jOf L) 1)) (ndR t (jOf L))
def ndT (n t:Nat)(l:List Nat):Option (Nat × bC):=List.rec none (fun L _ ih=>sel (eqI (Int.ofNat (Fn.bl n)) (Int.ofNat L)) (ndS n t L) ih) l
theorem agx (n t:Nat):(runK KB1 CL1 8).1 92 [uN n] (uT mT.pre.next ⟨[uN n],Yc t⟩) (fun r=>(eF Tryz.prog mT.ends 0 r).xQ some)=ndT n t (upN 65):=by kernel_rfl
def nd0 (n:Nat):Nat:=sel (leI (Int.ofNat (Nat.pow 10 (jOf (Fn.bl n)))) (Int.ofNat n)) (Nat.add (jOf (Fn.bl n)) 1) (jOf (Fn.bl n))
def bar {α:Type}(n:Nat)(x:α):α:=Nat.rec x (fun _ _=>x) n
theorem ajh {α:Type}(n:Nat)(x:α):bar n x=x:=by cases n <;> rfl
namespace Fn
def nd (n:Nat):Nat:=bar n (nd0 n)
end Fn
theorem aeV (n:Nat):Fn.nd n=nd0 n:=ajh n _
theorem ajF (n:Nat):Fn.bl n≤64:=by
 have h8:∀ b x,Fn.b8 b x≤b+8:=fun b x=>by
  have h1:Nat.mod x 256<256:=Nat.mod_lt _ (by omega)
  have key:(List.range 256).all (fun x=>Nat.ble (uX l8 x) 8)=true:=by decide +kernel
  have h2:=Nat.le_of_ble_eq_true (List.all_eq_true.1 key _ (List.mem_range.2 h1))
  show b+uX l8 (Nat.mod x 256)≤_
  omega
 have h88:∀ b x,Fn.bl8 b x≤b+16:=fun b x=>by
  have h1:=h8 (Nat.add b 8) (Nat.div x 256)
  have h2:=h8 b x
  have e:Nat.add b 8=b+8:=rfl
  unfold Fn.bl8
  cases leI 256 (Int.ofNat x)
  ·show Fn.b8 b x≤_;omega
  ·show Fn.b8 (Nat.add b 8) (Nat.div x 256)≤_;omega
 have h16:∀ b x,Fn.ab7 b x≤b+32:=fun b x=>by
  have h1:=h88 (Nat.add b 16) (Nat.div x 65536)
  have h2:=h88 b x
  have e:Nat.add b 16=b+16:=rfl
  unfold Fn.ab7
  cases leI 65536 (Int.ofNat x)
  ·show Fn.bl8 b x≤_;omega
  ·show Fn.bl8 (Nat.add b 16) (Nat.div x 65536)≤_;omega
 have h1:=h16 32 (Nat.div n 4294967296)
 have h2:=h16 0 n
 unfold Fn.bl
 cases leI 4294967296 (Int.ofNat n)
 ·show Fn.ab7 0 n≤_;omega
 ·show Fn.ab7 32 (Nat.div n 4294967296)≤_;omega
theorem aht (a b:Nat):eqI (Int.ofNat a) (Int.ofNat b)=Nat.beq a b:=rfl
theorem akl (n:Nat):upN n=List.range n:=by
 have key:∀ n j,(Nat.rec (motive:=fun _=>Nat→List Nat) (fun _=>[]) (fun _ ih j=>j::ih (Nat.succ j)) n j:List Nat)=List.range' j n:=by
  intro n
  induction n with
  |zero=>intro j;rfl
  |succ n ih=>
   intro j
   show j::_=_
   rw [ih (Nat.succ j),List.range'_succ]
 show _=_
 rw [List.range_eq_range']
 exact key n 0
theorem aeU (n t:Nat):∀ {l:List Nat},Fn.bl n∈l→ndT n t l=ndR t (Fn.nd n)
 |[],h=>by cases h
 |L::l,h=>by
  show sel (eqI (Int.ofNat (Fn.bl n)) (Int.ofNat L)) (ndS n t L) (ndT n t l)=_
  rw [aht]
  by_cases e:Fn.bl n=L
  ·rw [show Nat.beq (Fn.bl n) L=true by simp [e],aH]
   rw [aeV]
   unfold ndS nd0
   rw [e]
   cases leI (Int.ofNat (Nat.pow 10 (jOf L))) (Int.ofNat n) <;> rfl
  ·rw [show Nat.beq (Fn.bl n) L=false by rw [←Bool.not_eq_true];exact fun h=>e (Nat.eq_of_beq_eq_true h),aF]
   exact aeU n t (by rcases List.mem_cons.1 h with h|h;exact absurd h e;exact h)
theorem akz (n t:Nat):(runK KB1 CL1 8).1 92 [uN n] (uT mT.pre.next ⟨[uN n],Yc t⟩) (fun r=>(eF Tryz.prog mT.ends 0 r).xQ some)=some (0,⟨[iN (Fn.nd n)],[]⟩):=by
 rw [agx]
 exact aeU n t (by rw [akl];exact List.mem_range.2 (by have:=ajF n;omega))
theorem BQ {n:Nat}(h0:1≤n)(hn:n<18446744073709551616):1≤Fn.nd n∧Fn.nd n≤20∧n<10 ^ Fn.nd n∧10 ^ (Fn.nd n-1)≤n:=by
 have key:(List.range 64).all (fun k=>Nat.ble (2 ^ (k+1)) (10 ^ (jOf (k+1)+1))&&(Nat.ble (10 ^ (jOf (k+1)-1)) (2 ^ k)&&Nat.ble (jOf (k+1)) 19))=true:=by decide +kernel
 rcases afB hn with ⟨e,_⟩|⟨k,h1,h2,h3⟩
 ·omega
 have hk:=ajF n
 have hkk:=List.all_eq_true.1 key k (List.mem_range.2 (by omega))
 simp only [Bool.and_eq_true] at hkk
 obtain ⟨a1,a2,a3⟩:=hkk
 have a1:=Nat.le_of_ble_eq_true a1
 have a2:=Nat.le_of_ble_eq_true a2
 have a3:=Nat.le_of_ble_eq_true a3
 have e:Fn.bl n=k+1:=by omega
 rw [aeV]
 unfold nd0
 rw [e,CG]
 by_cases hp:Nat.pow 10 (jOf (k+1))≤n
 ·rw [decide_eq_true hp,aH]
  have hp:10 ^ jOf (k+1)≤n:=hp
  show 1≤jOf (k+1)+1∧jOf (k+1)+1≤20∧n<10 ^ (jOf (k+1)+1)∧10 ^ (jOf (k+1)+1-1)≤n
  exact ⟨by omega,by omega,by omega,by simpa using hp⟩
 ·rw [decide_eq_false hp,aF]
  have hp:n<10 ^ jOf (k+1):=Nat.lt_of_not_le hp
  have hj:jOf (k+1)≠0:=fun hj=>by
   rw [hj] at hp
   simp at hp
   omega
  exact ⟨by omega,by omega,hp,by omega⟩
theorem aa8 {n:Nat}(h0:1≤n)(hn:n<18446744073709551616):Fn.dec n=Gj (Fn.nd n) n:=by
 obtain ⟨h1,h2,h3,h4⟩:=BQ h0 hn
 exact Uz h2 h1 h3 (.inr h4)
abbrev MT:=Tree (Nat × bC)
def ald (o:bC)(k:TypeId→MT):MT:=
 match o.rows with
 |[(i,.row cs e f)]=>sel (Nat.beq i 0&&(Nat.beq f 0&&qR (jG 4) cs (Qz 20))) (k e) .fail
 |_=>.fail
theorem Iw {o:bC}{k:TypeId→MT}{r:Nat × bC}(h:(ald o k).run=some r):∃ t,o.rows=Yc t∧(k t).run=some r:=by
 unfold ald at h
 split at h
 ·rename_i i cs e f hr
  obtain ⟨h1,h2⟩:=bD h
  simp only [Bool.and_eq_true] at h1
  obtain ⟨h1,h3,h4⟩:=h1
  have h1:=Nat.eq_of_beq_eq_true h1
  have h3:=Nat.eq_of_beq_eq_true h3
  have h4:cs=Qz 20:=jQ (fun a b=>jR 4) h4
  subst h1 h3 h4
  exact ⟨e,hr,h2⟩
 ·cases h
def gND (o:bC):MT:=
 match o.vals with
 |[.int .u64 (.ofNat n)]=>ald o fun t=>.leaf (0,⟨[iN (Fn.nd n)],[]⟩)
 |_=>.fail
theorem an5 (t:Nat):rG (Yc t) (flagsOf spT):=⟨fun e=>(by cases e),trivial⟩
theorem Tv {v:List Value}:∀ spe,nth mT.ends (0,(⟨v,[]⟩:bC)).1=some spe→rG (0,(⟨v,[]⟩:bC)).2.rows (flagsOf spe):=fun spe h=>by
 have h:some spZ=some spe:=h
 cases h
 exact trivial
theorem aiF:kZ Tryz.prog CL1 8 92 mT gND:=by
 rintro ⟨vals,rows⟩ q h
 unfold gND at h
 split at h
 ·rename_i n hv
  obtain ⟨t,hr,z⟩:=Iw h
  have hv:vals=_:=hv
  have hr:rows=_:=hr
  subst hv hr
  cases z
  exact ⟨an5 t,Tv,jX (K:=KB1) (by decide) dI bQ (akz n t)⟩
 ·cases h
variable [Lo]
theorem D9 {C:Cfg}{n:Nat}(hC:dH C Tryz.prog){f:FuncId}{m1:xZ}{g1:bC→MT}(h1:kZ Tryz.prog C n f m1 g1):∀ p∈[(m1,g1)],∃ C n,dH C Tryz.prog∧kZ Tryz.prog C n f p.1 p.2:=by
 intro p hp
 rcases List.mem_cons.1 hp with rfl|hp
 ·exact ⟨C,n,hC,h1⟩
 ·cases hp
def afQ:List (Nat × Con):=(92,.tree (oI Tryz.prog [(mT,gND)]))::[]
def CL2:Cfg:={ CB with ext:=dJ [],insert:=dJ afQ }
theorem agB:fJ Tryz.prog CL2 afQ:=fJ.oI (D9 ak1 aiF) fJ.nil
theorem aeK:dH CL2 Tryz.prog:=vG (ext:=dJ []) (ins:=dJ afQ) rfl (fun f t h=>agB f t h) (fun f e h=>by cases h)
end
end Go.Ax
namespace Go.Ax
open Go Go.Proofs
noncomputable section
def sm:List UInt8:=(List.range 100).flatMap fun i=>[UInt8.ofNat (48+i/10),UInt8.ofNat (48+i%10)]
def d36:List UInt8:=(List.range 10).map (fun i=>UInt8.ofNat (48+i))++(List.range 26).map fun i=>UInt8.ofNat (97+i)
section
variable {R:Type}
def pr (x:Nat)(acc:List UInt8)(K:List UInt8→Option R):Option R:=
 sel (ltN (Nat.mod (Nat.add x 1) 4294967296) 200) (sel (ltN x 200) (K (UInt8.ofNat (uX sm x)::UInt8.ofNat (uX sm (Nat.mod (Nat.add x 1) 4294967296))::acc)) none) none
def x2 (v:Nat):Nat:=Nat.mod (Nat.mul (Nat.mod v 100) 2) 4294967296
def h2 (v:Nat):Nat:=Nat.mod (Nat.mul (Nat.mod (Nat.div v 100) 4294967296) 2) 4294967296
def t1 (nd x:Nat)(acc:List UInt8)(K:List UInt8→Option R):Option R:=sel (Nat.ble 1 nd) (K (UInt8.ofNat (Nat.mod (Nat.mod (Nat.add 48 x) 4294967296) 256)::acc)) (K acc)
def t2 (nd x:Nat)(acc:List UInt8)(K:List UInt8→Option R):Option R:=sel (Nat.ble 2 nd) (pr (x2 x) acc fun acc=>t1 (Nat.sub nd 2) (Nat.mod (Nat.div x 100) 4294967296) acc K) (t1 nd x acc K)
def t4 (nd x:Nat)(acc:List UInt8)(K:List UInt8→Option R):Option R:=
 sel (Nat.ble 4 nd) (pr (x2 (Nat.mod x 10000)) acc fun acc=>pr (h2 (Nat.mod x 10000)) acc fun acc=>t2 (Nat.sub nd 4) (Nat.mod (Nat.div x 10000) 4294967296) acc K) (t2 nd x acc K)
def r8 (u:Nat)(acc:List UInt8)(K:List UInt8→Option R):Option R:=
 pr (x2 (Nat.mod (Nat.mod (Nat.mod u 100000000) 4294967296) 10000)) acc fun acc=>pr (h2 (Nat.mod (Nat.mod (Nat.mod u 100000000) 4294967296) 10000)) acc fun acc=>
  pr (x2 (Nat.mod (Nat.div (Nat.mod (Nat.mod u 100000000) 4294967296) 10000) 4294967296)) acc fun acc=>pr (h2 (Nat.mod (Nat.div (Nat.mod (Nat.mod u 100000000) 4294967296) 10000) 4294967296)) acc K
def t8:Nat→Nat→Nat→List UInt8→(List UInt8→Option R)→Option R:=fun k=>
 Nat.rec (fun nd u acc K=>t4 nd (Nat.mod u 4294967296) acc K) (fun _ ih nd u acc K=>sel (Nat.ble 8 nd) (r8 u acc fun acc=>ih (Nat.sub nd 8) (Nat.mod (Nat.div u 100000000) 18446744073709551616) acc K) (t4 nd (Nat.mod u 4294967296) acc K)) k
end
def sK (l:List UInt8):Option (Nat × bC):=some (0,⟨[.string ⟨⟨l⟩⟩],[]⟩)
def smT (n:Nat):Option (Nat × bC):=
 sel (ltI (Int.ofNat n) 10) (sel (Nat.ble (Nat.add n 1) 9223372036854775807) (sel (Nat.ble n (Nat.add n 1)&&Nat.ble (Nat.add n 1) 36) (sel (Nat.beq (Nat.add n 1) 36) (sK (eY n d36)) (sK (ng (Nat.sub (Nat.add n 1) n) (eY n d36)))) none) none)
  (sel (Nat.ble (Nat.mul n 2) 9223372036854775807) (sel (Nat.ble (Nat.mul n 2) 9223372036854775807) (sel (Nat.ble (Nat.add (Nat.mul n 2) 2) 9223372036854775807) (sel (Nat.ble (Nat.mul n 2) (Nat.add (Nat.mul n 2) 2)&&Nat.ble (Nat.add (Nat.mul n 2) 2) 200)
   (sel (Nat.beq (Nat.add (Nat.mul n 2) 2) 200) (sK (eY (Nat.mul n 2) sm)) (sK (ng (Nat.sub (Nat.add (Nat.mul n 2) 2) (Nat.mul n 2)) (eY (Nat.mul n 2) sm)))) none) none) none) none)
def KF (c:Nat):KP:={ L:=4,B:=some true,nar:=true,post:=fun f _=>sel (Nat.beq f 92) [Int.ofNat c] [] }
def fuT (c n:Nat):Option (Nat × bC):=sel (ltI (Int.ofNat n) 100) (sel (Nat.ble 9223372036854775808 n) none (smT n)) (sel (eqI (Int.ofNat (Fn.nd n)) (Int.ofNat c)) (t8 2 c n [] sK) none)
abbrev fuR (c n t:Nat):Option (Nat × bC):=(runK (KF c) CL2 8).1 50 [uN n,iN 10] (uT mT.pre.next ⟨[uN n,iN 10],Yc t⟩) (fun r=>(eF Tryz.prog mT.ends 0 r).xQ some)
theorem ajy (n t:Nat):fuR 3 n t=fuT 3 n∧fuR 4 n t=fuT 4 n∧fuR 5 n t=fuT 5 n∧fuR 6 n t=fuT 6 n∧fuR 7 n t=fuT 7 n∧fuR 8 n t=fuT 8 n∧fuR 9 n t=fuT 9 n∧fuR 10 n t=fuT 10 n∧fuR 11 n t=fuT 11 n∧fuR 12 n t=fuT 12 n∧fuR 13 n t=fuT 13 n∧fuR 14 n t=fuT 14 n∧fuR 15 n t=fuT 15 n∧fuR 16 n t=fuT 16 n∧fuR 17 n t=fuT 17 n∧fuR 18 n t=fuT 18 n∧fuR 19 n t=fuT 19 n∧fuR 20 n t=fuT 20 n:=⟨by kernel_rfl,by kernel_rfl,by kernel_rfl,by kernel_rfl,by kernel_rfl,by kernel_rfl,by kernel_rfl,by kernel_rfl,by kernel_rfl,by kernel_rfl,by kernel_rfl,by kernel_rfl,by kernel_rfl,by kernel_rfl,by kernel_rfl,by kernel_rfl,by kernel_rfl,by kernel_rfl⟩
abbrev fiR (c:Nat)(z:Int)(t:Nat):Option (Nat × bC):=(runK (KF c) CL2 8).1 27 [.int .i64 z] (uT mT.pre.next ⟨[.int .i64 z],Yc t⟩) (fun r=>(eF Tryz.prog mT.ends 0 r).xQ some)
def fiP (c n:Nat):Option (Nat × bC):=sel (ltI (Int.ofNat n) 100) (smT n) (sel (eqI (Int.ofNat (Fn.nd (Nat.mod n 18446744073709551616))) (Int.ofNat c)) (t8 2 c (Nat.mod n 18446744073709551616) [] sK) none)
def ngW (n:Nat):Nat:=air 0 (ae3 n)
def fiM (c n:Nat):Option (Nat × bC):=sel (eqI (Int.ofNat (Fn.nd (ngW n))) (Int.ofNat c)) (t8 2 c (ngW n) [] fun l=>sK (45::l)) none
theorem ajQ (n t:Nat):fiR 3 (Int.ofNat n) t=fiP 3 n∧fiR 4 (Int.ofNat n) t=fiP 4 n∧fiR 5 (Int.ofNat n) t=fiP 5 n∧fiR 6 (Int.ofNat n) t=fiP 6 n∧fiR 7 (Int.ofNat n) t=fiP 7 n∧fiR 8 (Int.ofNat n) t=fiP 8 n∧fiR 9 (Int.ofNat n) t=fiP 9 n∧fiR 10 (Int.ofNat n) t=fiP 10 n∧fiR 11 (Int.ofNat n) t=fiP 11 n∧fiR 12 (Int.ofNat n) t=fiP 12 n∧fiR 13 (Int.ofNat n) t=fiP 13 n∧fiR 14 (Int.ofNat n) t=fiP 14 n∧fiR 15 (Int.ofNat n) t=fiP 15 n∧fiR 16 (Int.ofNat n) t=fiP 16 n∧fiR 17 (Int.ofNat n) t=fiP 17 n∧fiR 18 (Int.ofNat n) t=fiP 18 n∧fiR 19 (Int.ofNat n) t=fiP 19 n∧fiR 20 (Int.ofNat n) t=fiP 20 n:=⟨by kernel_rfl,by kernel_rfl,by kernel_rfl,by kernel_rfl,by kernel_rfl,by kernel_rfl,by kernel_rfl,by kernel_rfl,by kernel_rfl,by kernel_rfl,by kernel_rfl,by kernel_rfl,by kernel_rfl,by kernel_rfl,by kernel_rfl,by kernel_rfl,by kernel_rfl,by kernel_rfl⟩
theorem ajf (n t:Nat):fiR 1 (Int.negSucc n) t=fiM 1 n∧fiR 2 (Int.negSucc n) t=fiM 2 n∧fiR 3 (Int.negSucc n) t=fiM 3 n∧fiR 4 (Int.negSucc n) t=fiM 4 n∧fiR 5 (Int.negSucc n) t=fiM 5 n∧fiR 6 (Int.negSucc n) t=fiM 6 n∧fiR 7 (Int.negSucc n) t=fiM 7 n∧fiR 8 (Int.negSucc n) t=fiM 8 n∧fiR 9 (Int.negSucc n) t=fiM 9 n∧fiR 10 (Int.negSucc n) t=fiM 10 n∧fiR 11 (Int.negSucc n) t=fiM 11 n∧fiR 12 (Int.negSucc n) t=fiM 12 n∧fiR 13 (Int.negSucc n) t=fiM 13 n∧fiR 14 (Int.negSucc n) t=fiM 14 n∧fiR 15 (Int.negSucc n) t=fiM 15 n∧fiR 16 (Int.negSucc n) t=fiM 16 n∧fiR 17 (Int.negSucc n) t=fiM 17 n∧fiR 18 (Int.negSucc n) t=fiM 18 n∧fiR 19 (Int.negSucc n) t=fiM 19 n∧fiR 20 (Int.negSucc n) t=fiM 20 n:=⟨by kernel_rfl,by kernel_rfl,by kernel_rfl,by kernel_rfl,by kernel_rfl,by kernel_rfl,by kernel_rfl,by kernel_rfl,by kernel_rfl,by kernel_rfl,by kernel_rfl,by kernel_rfl,by kernel_rfl,by kernel_rfl,by kernel_rfl,by kernel_rfl,by kernel_rfl,by kernel_rfl,by kernel_rfl,by kernel_rfl⟩
end
end Go.Ax
namespace Go.Ax
open Go Go.Proofs
noncomputable section
section
variable {R:Type}
theorem nO {a b:Nat}(h:a%10=b%10):Fn.db a=Fn.db b:=by
 show UInt8.ofNat (48+a%10)=UInt8.ofNat (48+b%10)
 rw [h]
theorem ag0 {y:Nat}(h:y<100):UInt8.ofNat (uX sm (y*2))=Fn.db (y/10)∧UInt8.ofNat (uX sm (y*2+1))=Fn.db y:=by
 have key:(List.range 100).all (fun y=>decide (UInt8.ofNat (uX sm (y*2))=Fn.db (y/10))&&decide (UInt8.ofNat (uX sm (y*2+1))=Fn.db y))=true:=by decide +kernel
 have h1:=List.all_eq_true.1 key y (List.mem_range.2 h)
 simpa using h1
theorem ai6 {x y:Nat}{acc:List UInt8}{K:List UInt8→Option R}(hx:x=y*2)(hy:y<100):pr x acc K=K (Fn.db (y/10)::Fn.db y::acc):=by
 obtain ⟨h1,h2⟩:=ag0 hy
 have e:Nat.mod (Nat.add x 1) 4294967296=y*2+1:=by show (x+1)%4294967296=_;omega
 unfold pr
 rw [e,hx,show ltN (y*2+1) 200=true by rw [iZ];simp;omega,show ltN (y*2) 200=true by rw [iZ];simp;omega,h1,h2]
 rfl
theorem aer {v:Nat}{acc:List UInt8}{K:List UInt8→Option R}:pr (x2 v) acc K=K (Fn.db (v/10)::Fn.db v::acc):=by
 rw [ai6 (y:=v%100) (by show v%100*2%4294967296=_;omega) (by omega),nO (show v%100/10%10=v/10%10 by omega),nO (show v%100%10=v%10 by omega)]
theorem ag9 {v:Nat}{acc:List UInt8}{K:List UInt8→Option R}(hv:v<10000):pr (h2 v) acc K=K (Fn.db (v/1000)::Fn.db (v/100)::acc):=by
 rw [ai6 (y:=v/100) (by show v/100%4294967296*2%4294967296=_;omega) (by omega),nO (show v/100/10%10=v/1000%10 by omega)]
theorem WI (k x:Nat):Gj (k+1) x=Gj k (x/10)++[Fn.db x]:=rfl
theorem OE (k x:Nat):Gj (k+2) x=Gj k (x/100)++[Fn.db (x/10),Fn.db x]:=by
 rw [WI,WI,Nat.div_div_eq_div_mul,List.append_assoc]
 rfl
theorem GR (k x:Nat):Gj (k+4) x=Gj k (x/10000)++[Fn.db (x/1000),Fn.db (x/100),Fn.db (x/10),Fn.db x]:=by
 rw [OE (k+2) x,OE k (x/100),Nat.div_div_eq_div_mul,Nat.div_div_eq_div_mul,List.append_assoc]
 rfl
theorem XV (k x:Nat):Gj (k+8) x=Gj k (x/100000000)++[Fn.db (x/10000000),Fn.db (x/1000000),Fn.db (x/100000),Fn.db (x/10000),Fn.db (x/1000),Fn.db (x/100),Fn.db (x/10),Fn.db x]:=by
 rw [GR (k+4) x,GR k (x/10000)]
 simp only [Nat.div_div_eq_div_mul,List.append_assoc]
 rfl
theorem aeB {a b:Nat}(h:b<a):Nat.ble a b=false:=by rw [←Bool.not_eq_true];exact fun e=>absurd (Nat.le_of_ble_eq_true e) (by omega)
theorem rH {a b:Nat}(h:a≤b):Nat.ble a b=true:=Nat.ble_eq_true_of_le h
theorem aiZ {nd x:Nat}{acc:List UInt8}{K:List UInt8→Option R}(hn:nd≤1)(hx:x<10 ^ nd):t1 nd x acc K=K (Gj nd x++acc):=by
 unfold t1
 rcases Nat.lt_or_ge nd 1 with h|h
 ·obtain rfl:nd=0:=by omega
  rfl
 ·obtain rfl:nd=1:=by omega
  rw [rH (Nat.le_refl 1),aH]
  have e:Nat.mod (Nat.mod (Nat.add 48 x) 4294967296) 256=48+x%10:=by show (48+x)%4294967296%256=_;omega
  rw [e]
  rfl
theorem akS {nd x:Nat}{acc:List UInt8}{K:List UInt8→Option R}(hn:nd≤3)(hx:x<10 ^ nd):t2 nd x acc K=K (Gj nd x++acc):=by
 unfold t2
 by_cases h:2≤nd
 ·obtain ⟨k,rfl⟩:∃ k,nd=k+2:=⟨nd-2,by omega⟩
  have hp:10 ^ (k+2)=10 ^ k*100:=by rw [Nat.pow_add]
  have hk:10 ^ k≤10 ^ 1:=Nat.pow_le_pow_right (by omega) (by omega)
  have e:Nat.mod (Nat.div x 100) 4294967296=x/100:=by show x/100%4294967296=_;omega
  rw [rH h,aH,aer,e,aiZ (show Nat.sub (k+2) 2≤1 by show k+2-2≤1;omega) (show x/100<10 ^ (k+2-2) by rw [Nat.add_sub_cancel];omega),OE]
  show K (Gj k (x/100)++_)=_
  simp
 ·rw [aeB (by omega),aF]
  exact aiZ (by omega) hx
theorem aoa {nd x:Nat}{acc:List UInt8}{K:List UInt8→Option R}(hn:nd≤7)(hx:x<10 ^ nd):t4 nd x acc K=K (Gj nd x++acc):=by
 unfold t4
 by_cases h:4≤nd
 ·obtain ⟨k,rfl⟩:∃ k,nd=k+4:=⟨nd-4,by omega⟩
  have hp:10 ^ (k+4)=10 ^ k*10000:=by rw [Nat.pow_add]
  have hk:10 ^ k≤10 ^ 3:=Nat.pow_le_pow_right (by omega) (by omega)
  have e:Nat.mod (Nat.div x 10000) 4294967296=x/10000:=by show x/10000%4294967296=_;omega
  have em:Nat.mod x 10000=x%10000:=rfl
  rw [rH h,aH,aer,ag9 (show Nat.mod x 10000<10000 by show x%10000<_;omega),e,akS (show Nat.sub (k+4) 4≤3 by show k+4-4≤3;omega) (show x/10000<10 ^ (k+4-4) by rw [Nat.add_sub_cancel];omega),GR,em,
   nO (show x%10000/10%10=x/10%10 by omega),nO (show x%10000%10=x%10 by omega),nO (show x%10000/1000%10=x/1000%10 by omega),nO (show x%10000/100%10=x/100%10 by omega)]
  show K (Gj k (x/10000)++_)=_
  simp
 ·rw [aeB (by omega),aF]
  exact akS (by omega) hx
theorem anm {u:Nat}{acc:List UInt8}{K:List UInt8→Option R}:r8 u acc K=K (Fn.db (u/10000000)::Fn.db (u/1000000)::Fn.db (u/100000)::Fn.db (u/10000)::Fn.db (u/1000)::Fn.db (u/100)::Fn.db (u/10)::Fn.db u::acc):=by
 have e1:Nat.mod (Nat.mod (Nat.mod u 100000000) 4294967296) 10000=u%10000:=by show u%100000000%4294967296%10000=_;omega
 have e2:Nat.mod (Nat.div (Nat.mod (Nat.mod u 100000000) 4294967296) 10000) 4294967296=u/10000%10000:=by show u%100000000%4294967296/10000%4294967296=_;omega
 unfold r8
 rw [e1,e2,aer,ag9 (by omega),aer,ag9 (by omega),nO (show u%10000/10%10=u/10%10 by omega),nO (show u%10000%10=u%10 by omega),nO (show u%10000/1000%10=u/1000%10 by omega),nO (show u%10000/100%10=u/100%10 by omega),
  nO (show u/10000%10000/10%10=u/100000%10 by omega),nO (show u/10000%10000%10=u/10000%10 by omega),nO (show u/10000%10000/1000%10=u/10000000%10 by omega),nO (show u/10000%10000/100%10=u/1000000%10 by omega)]
theorem Zz {nd u:Nat}{acc:List UInt8}{K:List UInt8→Option R}(hn:nd≤7)(hx:u<10 ^ nd):t4 nd (Nat.mod u 4294967296) acc K=K (Gj nd u++acc):=by
 have hk:10 ^ nd≤10 ^ 7:=Nat.pow_le_pow_right (by omega) hn
 rw [show Nat.mod u 4294967296=u by show u%4294967296=u;omega]
 exact aoa hn hx
theorem acA:∀ (k:Nat) {nd u:Nat} {acc:List UInt8} {K:List UInt8→Option R},nd≤7+8*k→u<10 ^ nd→u<18446744073709551616→t8 k nd u acc K=K (Gj nd u++acc)
 |0,nd,u,acc,K,hn,hx,hu=>Zz (by omega) hx
 |k+1,nd,u,acc,K,hn,hx,hu=>by
  show sel (Nat.ble 8 nd) (r8 u acc fun acc=>t8 k (Nat.sub nd 8) (Nat.mod (Nat.div u 100000000) 18446744073709551616) acc K) (t4 nd (Nat.mod u 4294967296) acc K)=_
  by_cases h:8≤nd
  ·obtain ⟨j,rfl⟩:∃ j,nd=j+8:=⟨nd-8,by omega⟩
   have hp:10 ^ (j+8)=10 ^ j*100000000:=by rw [Nat.pow_add]
   have e:Nat.mod (Nat.div u 100000000) 18446744073709551616=u/100000000:=by show u/100000000%18446744073709551616=_;omega
   rw [rH h,aH,anm,e,acA k (show Nat.sub (j+8) 8≤7+8*k by show j+8-8≤_;omega) (show u/100000000<10 ^ (j+8-8) by rw [Nat.add_sub_cancel];omega) (by omega),XV]
   show K (Gj j (u/100000000)++_)=_
   simp
  ·rw [aeB (by omega),aF]
   exact Zz (by omega) hx
end
theorem Xj {n:Nat}(h:n<100):smT n=sK (Fn.dec n):=by
 have key:(List.range 100).all (fun n=>match smT n with|some (0,⟨[.string ⟨⟨l⟩⟩],[]⟩)=>decide (l=Fn.dec n)|_=>false)=true:=by decide +kernel
 have h1:=List.all_eq_true.1 key n (List.mem_range.2 h)
 split at h1
 ·rename_i l hl
  rw [hl]
  have:l=Fn.dec n:=by simpa using h1
  rw [this]
  rfl
 ·cases h1
theorem qV (a b:Nat):ltI (Int.ofNat a) (Int.ofNat b)=decide (a<b):=by
 show Nat.ble (a+1) b=_
 by_cases h:a<b
 ·rw [rH h];simp [h]
 ·rw [aeB (by omega)];simp [h]
theorem N8 (n:Nat):eqI (Int.ofNat n) (Int.ofNat n)=true:=by show Nat.beq n n=true;simp
theorem ako {n:Nat}(hn:n<18446744073709551616):fuT (Fn.nd n) n=sK (Fn.dec n):=by
 unfold fuT
 rw [show ltI (Int.ofNat n) 100=decide (n<100) from qV n 100]
 by_cases h:n<100
 ·rw [decide_eq_true h,aH,aeB (by omega),aF,Xj h]
 ·obtain ⟨h1,h2,h3,h4⟩:=BQ (n:=n) (by omega) hn
  rw [decide_eq_false h,aF,N8,aH,acA 2 (by omega) h3 hn,List.append_nil,aa8 (by omega) hn]
theorem akN {n:Nat}(h:100≤n)(hn:n<18446744073709551616):3≤Fn.nd n∧Fn.nd n≤20:=by
 obtain ⟨h1,h2,h3,h4⟩:=BQ (n:=n) (by omega) hn
 refine ⟨?_,h2⟩
 by_cases h5:3≤Fn.nd n
 ·exact h5
 ·have:10 ^ Fn.nd n≤10 ^ 2:=Nat.pow_le_pow_right (by omega) (by omega)
  omega
theorem aki {n:Nat}(t:Nat)(hn:n<18446744073709551616):∃ c,fuR c n t=sK (Fn.dec n):=by
 have hall:=ajy n t
 by_cases h:n<100
 ·refine ⟨3,hall.1.trans ?_⟩
  unfold fuT
  rw [show ltI (Int.ofNat n) 100=decide (n<100) from qV n 100,decide_eq_true h,aH,aeB (by omega),aF,Xj h]
 ·obtain ⟨h1,h2⟩:=akN (n:=n) (by omega) hn
  refine ⟨Fn.nd n,Eq.trans ?_ (ako hn)⟩
  generalize Fn.nd n=c at h1 h2
  obtain ⟨q3,q4,q5,q6,q7,q8,q9,q10,q11,q12,q13,q14,q15,q16,q17,q18,q19,q20⟩:=hall
  match c,h1,h2 with
  |3,_,_=>exact q3
  |4,_,_=>exact q4
  |5,_,_=>exact q5
  |6,_,_=>exact q6
  |7,_,_=>exact q7
  |8,_,_=>exact q8
  |9,_,_=>exact q9
  |10,_,_=>exact q10
  |11,_,_=>exact q11
  |12,_,_=>exact q12
  |13,_,_=>exact q13
  |14,_,_=>exact q14
  |15,_,_=>exact q15
  |16,_,_=>exact q16
  |17,_,_=>exact q17
  |18,_,_=>exact q18
  |19,_,_=>exact q19
  |20,_,_=>exact q20
  |c+21,_,h=>omega
namespace Fn
def itoa (z:Int):List UInt8:=
 match z with
 |.ofNat n=>dec n
 |.negSucc m=>45::dec (Nat.succ m)
end Fn
theorem akv {m:Nat}(h:m<9223372036854775808):ngW m=m+1:=by
 unfold ngW air ae3
 show (0+(18446744073709551616-(18446744073709551615-m%18446744073709551616)%18446744073709551616))%18446744073709551616=_
 omega
theorem aiI {n:Nat}(hn:n<9223372036854775808):fiP (Fn.nd n) n=sK (Fn.dec n):=by
 unfold fiP
 have e:Nat.mod n 18446744073709551616=n:=by show n%18446744073709551616=_;omega
 rw [e,show ltI (Int.ofNat n) 100=decide (n<100) from qV n 100]
 by_cases h:n<100
 ·rw [decide_eq_true h,aH,Xj h]
 ·obtain ⟨h1,h2,h3,h4⟩:=BQ (n:=n) (by omega) (by omega)
  rw [decide_eq_false h,aF,N8,aH,acA 2 (by omega) h3 (by omega),List.append_nil,aa8 (by omega) (by omega)]
theorem ajI {m:Nat}(hn:m<9223372036854775808):fiM (Fn.nd (m+1)) m=sK (Fn.itoa (Int.negSucc m)):=by
 obtain ⟨h1,h2,h3,h4⟩:=BQ (n:=m+1) (by omega) (by omega)
 unfold fiM
 rw [akv hn,N8,aH,acA 2 (by omega) h3 (by omega),List.append_nil,←aa8 (by omega) (by omega)]
 rfl
theorem aji {n:Nat}(t:Nat)(hn:n<9223372036854775808):∃ c,fiR c (Int.ofNat n) t=sK (Fn.itoa (Int.ofNat n)):=by
 have hall:=ajQ n t
 by_cases h:n<100
 ·refine ⟨3,hall.1.trans ?_⟩
  unfold fiP
  rw [show ltI (Int.ofNat n) 100=decide (n<100) from qV n 100,decide_eq_true h,aH,Xj h]
  rfl
 ·obtain ⟨h1,h2⟩:=akN (n:=n) (by omega) (by omega)
  refine ⟨Fn.nd n,Eq.trans ?_ (aiI hn)⟩
  generalize Fn.nd n=c at h1 h2
  obtain ⟨q3,q4,q5,q6,q7,q8,q9,q10,q11,q12,q13,q14,q15,q16,q17,q18,q19,q20⟩:=hall
  match c,h1,h2 with
  |3,_,_=>exact q3
  |4,_,_=>exact q4
  |5,_,_=>exact q5
  |6,_,_=>exact q6
  |7,_,_=>exact q7
  |8,_,_=>exact q8
  |9,_,_=>exact q9
  |10,_,_=>exact q10
  |11,_,_=>exact q11
  |12,_,_=>exact q12
  |13,_,_=>exact q13
  |14,_,_=>exact q14
  |15,_,_=>exact q15
  |16,_,_=>exact q16
  |17,_,_=>exact q17
  |18,_,_=>exact q18
  |19,_,_=>exact q19
  |20,_,_=>exact q20
  |c+21,_,h=>omega
theorem aku {m:Nat}(t:Nat)(hn:m<9223372036854775808):∃ c,fiR c (Int.negSucc m) t=sK (Fn.itoa (Int.negSucc m)):=by
 have hall:=ajf m t
 obtain ⟨h1,h2,_⟩:=BQ (n:=m+1) (by omega) (by omega)
 refine ⟨Fn.nd (m+1),Eq.trans ?_ (ajI hn)⟩
 generalize Fn.nd (m+1)=c at h1 h2
 obtain ⟨q1,q2,q3,q4,q5,q6,q7,q8,q9,q10,q11,q12,q13,q14,q15,q16,q17,q18,q19,q20⟩:=hall
 match c,h1,h2 with
 |1,_,_=>exact q1
 |2,_,_=>exact q2
 |3,_,_=>exact q3
 |4,_,_=>exact q4
 |5,_,_=>exact q5
 |6,_,_=>exact q6
 |7,_,_=>exact q7
 |8,_,_=>exact q8
 |9,_,_=>exact q9
 |10,_,_=>exact q10
 |11,_,_=>exact q11
 |12,_,_=>exact q12
 |13,_,_=>exact q13
 |14,_,_=>exact q14
 |15,_,_=>exact q15
 |16,_,_=>exact q16
 |17,_,_=>exact q17
 |18,_,_=>exact q18
 |19,_,_=>exact q19
 |20,_,_=>exact q20
 |c+21,_,h=>omega
def okI (z:Int):Bool:=
 match z with
 |.ofNat n=>Nat.ble n 9223372036854775807
 |.negSucc m=>Nat.ble m 9223372036854775807
def ahC (o:bC):MT:=
 match o.vals with
 |[.int .i64 z]=>ald o fun _=>fF (okI z) (.leaf (0,⟨[.string ⟨⟨Fn.itoa z⟩⟩],[]⟩))
 |_=>.fail
theorem ajq {z:Int}(t:Nat)(h:okI z=true):∃ c,fiR c z t=sK (Fn.itoa z):=by
 cases z with
 |ofNat n=>exact aji t (by have:=Nat.le_of_ble_eq_true (show Nat.ble n 9223372036854775807=true from h);omega)
 |negSucc m=>exact aku t (by have:=Nat.le_of_ble_eq_true (show Nat.ble m 9223372036854775807=true from h);omega)
theorem adX:kZ Tryz.prog CL2 8 27 mT ahC:=by
 rintro ⟨vals,rows⟩ q h
 unfold ahC at h
 split at h
 ·rename_i z hv
  obtain ⟨t,hr,z1⟩:=Iw h
  obtain ⟨h1,z2⟩:=bI z1
  have hv:vals=_:=hv
  have hr:rows=_:=hr
  subst hv hr
  cases z2
  obtain ⟨c,hc⟩:=ajq t h1
  exact ⟨an5 t,Tv,jX (K:=KF c) (by show (4:Nat)≤_;decide) dI bQ hc⟩
 ·cases h
def gFu (o:bC):MT:=
 match o.vals with
 |[.int .u64 (.ofNat n),.int .i64 z]=>sel (eqI z 10) (ald o fun _=>fF (Nat.ble n 18446744073709551615) (.leaf (0,⟨[.string ⟨⟨Fn.dec n⟩⟩],[]⟩))) .fail
 |_=>.fail
theorem alD:kZ Tryz.prog CL2 8 50 mT gFu:=by
 rintro ⟨vals,rows⟩ q h
 unfold gFu at h
 split at h
 ·rename_i n z hv
  obtain ⟨hz,h⟩:=bD h
  obtain ⟨t,hr,z1⟩:=Iw h
  obtain ⟨h1,z2⟩:=bI z1
  have hv:vals=_:=hv
  have hr:rows=_:=hr
  have hz:z=10:=by rw [vM] at hz;simpa using hz
  subst hv hr hz
  cases z2
  obtain ⟨c,hc⟩:=aki (n:=n) t (by have:=Nat.le_of_ble_eq_true h1;omega)
  exact ⟨an5 t,Tv,jX (K:=KF c) (by show (4:Nat)≤_;decide) dI bQ hc⟩
 ·cases h
variable [Lo]
def aiM:List (Nat × Con):=(27,.tree (oI Tryz.prog [(mT,ahC)]))::(50,.tree (oI Tryz.prog [(mT,gFu)]))::[]
theorem ad7 {C:Cfg}:fJ Tryz.prog C aiM:=fJ.oI (D9 aeK adX) (fJ.oI (D9 aeK alD) fJ.nil)
end
end Go.Ax
namespace Go.Ax
open Go Go.Proofs
noncomputable section
def bt (x:Nat):UInt8:=UInt8.ofNat (Nat.mod (Nat.mod (Nat.add 48 x) 18446744073709551616) 256)
def dgT:Nat→Nat→List UInt8→Option Value:=fun k=>Nat.rec (fun _ _=>none) (fun _ ih w acc=>sel (leI 10 (Int.ofNat w)) (ih (Nat.mod (Nat.div w 10) 18446744073709551616) (bt (Nat.mod w 10)::acc)) (some (.string ⟨⟨bt w::acc⟩⟩))) k
theorem ads (n:Nat):(runK { L:=22,B:=some true } CB 8).1 33 [uN n] bK (fun r=>some r.1)=dgT 22 n []:=by kernel_rfl
def dgF:Nat→Nat→List UInt8→List UInt8:=fun k=>Nat.rec (fun _ acc=>acc) (fun _ ih w acc=>sel (leI 10 (Int.ofNat w)) (ih (Nat.mod (Nat.div w 10) 18446744073709551616) (bt (Nat.mod w 10)::acc)) (bt w::acc)) k
namespace Fn
def dg (n:Nat):List UInt8:=dgF 22 n []
end Fn
theorem VX (k w:Nat)(acc:List UInt8):dgT (k+1) w acc=if 10≤w then dgT k (w/10%18446744073709551616) (bt (w%10)::acc) else some (.string ⟨⟨bt w::acc⟩⟩):=by
 show sel (leI 10 (Int.ofNat w)) _ _=_
 rw [show leI 10 (Int.ofNat w)=decide (10≤w) from CG 10 w,aC]
 simp only [decide_eq_true_eq]
 rfl
theorem OG (k w:Nat)(acc:List UInt8):dgF (k+1) w acc=if 10≤w then dgF k (w/10%18446744073709551616) (bt (w%10)::acc) else bt w::acc:=by
 show sel (leI 10 (Int.ofNat w)) _ _=_
 rw [show leI 10 (Int.ofNat w)=decide (10≤w) from CG 10 w,aC]
 simp only [decide_eq_true_eq]
 rfl
theorem ak3:∀ (k w:Nat) (acc:List UInt8),w<10 ^ k→w<18446744073709551616→1≤k→dgT k w acc=some (.string ⟨⟨dgF k w acc⟩⟩)
 |0,w,acc,_,_,h=>by omega
 |k+1,w,acc,h,h2,_=>by
  rw [VX,OG]
  by_cases h10:10≤w
  ·rw [if_pos h10,if_pos h10]
   have hp:10 ^ (k+1)=10 ^ k*10:=Nat.pow_succ ..
   refine ak3 k _ _ (by omega) (by omega) ?_
   rcases Nat.eq_zero_or_pos k with rfl|hk
   ·simp at h;omega
   ·exact hk
  ·rw [if_neg h10,if_neg h10]
theorem afH (n:Nat):(runK { L:=22,B:=some true } CB 8).1 33 [uN n] bK (fun r=>some r.1)=some (.string ⟨⟨Fn.dg n⟩⟩):=by
 rw [ads]
 unfold Fn.dg
 rw [VX,OG]
 by_cases h10:10≤n
 ·rw [if_pos h10,if_pos h10]
  have hm:n/10%18446744073709551616<18446744073709551616:=Nat.mod_lt _ (by omega)
  exact ak3 21 _ _ (by omega) hm (by omega)
 ·rw [if_neg h10,if_neg h10]
theorem akO {w:Nat}(h:w<10):bt w=Fn.db w:=by
 have e:Nat.mod (Nat.mod (Nat.add 48 w) 18446744073709551616) 256=48+w%10:=by show (48+w)%18446744073709551616%256=_;omega
 unfold bt
 rw [e]
 rfl
theorem aau:∀ (k w:Nat) (acc:List UInt8),w<18446744073709551616→dgF k w acc=Fn.ail k w acc
 |0,w,acc,_=>rfl
 |k+1,w,acc,h=>by
  rw [OG,SV]
  by_cases h10:10≤w
  ·rw [if_pos h10,if_neg (by omega),aau k _ _ (Nat.mod_lt _ (by omega)),akO (Nat.mod_lt _ (by omega)),nO (show w%10%10=w%10 by omega),Nat.mod_eq_of_lt (show w/10<18446744073709551616 by omega)]
  ·rw [if_neg h10,if_pos (by omega),akO (by omega)]
theorem abQ {n:Nat}(h:n<18446744073709551616):Fn.dg n=Fn.dec n:=by
 unfold Fn.dg
 rw [aau 22 n [] h]
 obtain ⟨c,a1,a2,a3,a4⟩:=PE n h
 rw [OD 22 c n [] (by omega) a1 a3 a4,Uz a2 a1 a3 a4,List.append_nil]
def aoM (args:List Value):Option Value:=
 match args with
 |[.int .u64 (.ofNat n)]=>some (.string ⟨⟨Fn.dg n⟩⟩)
 |_=>none
theorem ag2:∀ args v,nM args=true→aoM args=some v→∃ s1,(runN CB 8).1 33 args bK=some (v,s1):=by
 intro args v hfr h
 unfold aoM at h
 split at h
 ·rename_i n
  cases h
  have h1:=(iy (K:={ L:=22,B:=some true }) (by show (22:Nat)≤_;decide) CB dI bQ 8).1 _ _ _ _ _ (afH n)
  obtain ⟨q,h2,h3⟩:=ah.1 h1
  obtain ⟨v',s'⟩:=q
  cases h3
  exact ⟨_,h2⟩
 ·cases h
variable [Lo]
def ahk:List (Nat × Con):=(33,.pure aoM)::[]
def CL4:Cfg:={ CB with ext:=dJ [],insert:=dJ ahk }
theorem ahQ:fJ Tryz.prog CL4 ahk:=fJ.pure pV ag2 fJ.nil
theorem Wv:dH CL4 Tryz.prog:=vG (ext:=dJ []) (ins:=dJ ahk) rfl (fun f t h=>ahQ f t h) (fun f e h=>by cases h)
end
end Go.Ax
namespace Go.Ax
open Go Go.Proofs
noncomputable section
def RH:List (Nat × Ext):=[(48,.Fe)]
theorem vI [Lo]{C:Cfg}:∀ f e,dJ RH f=some e→dh C Tryz.prog f e:=by
 intro f e h
 have h:=Au h
 rcases List.mem_cons.1 h with h|h
 ·cases h
  exact yI (by kernel_rfl) (by kernel_rfl)
 ·cases h
def CE:Cfg:={ CB with ext:=dJ RH,insert:=dJ [] }
theorem aiR [Lo]:dH CE Tryz.prog:=vG (ext:=dJ RH) (ins:=dJ []) rfl (fun f t h=>by cases h) vI
def KW:KP:={ L:=4,B:=some true,nar:=true }
abbrev tLn:TypeId:=84
abbrev tB:TypeId:=5
def kP:Value:=.pointer (some ⟨64,0,none⟩)
def str (l:List UInt8):Value:=.string ⟨⟨l⟩⟩
def pW0:bZ:={ N:=64,need:=[],low:=[],keep:=[],new:=[⟨.var 0 0,false,true⟩] }
def pW1:bZ:={ N:=64,need:=[],low:=[],keep:=[],new:=[⟨.var 0 0,false,true⟩,⟨.row 0 1,true,false⟩] }
def eW0:bZ:={ N:=65,need:=[],low:=[],keep:=[(64,false,true)],new:=[⟨.old 64 1,true,false⟩] }
def eW1:bZ:={ N:=66,need:=[],low:=[],keep:=[(64,false,true)],new:=[⟨.old 64 1,true,false⟩] }
def eS:bZ:={ N:=66,need:=[],low:=[],keep:=[],new:=[] }
def mS:xZ:={ pre:=pW1,ends:=[eS] }
def mW0:xZ:={ pre:=pW0,ends:=[eW0] }
def mW1:xZ:={ pre:=pW1,ends:=[eW1] }
def aev:List (Nat × Row):=[(64,.row [.pointer none,.slice none 0 0] tLn 0)]
def uw (i:Nat)(X:List Value)(n:Nat):List (Nat × Row):=[(64,.row [kP,.slice (some ⟨i,0,none⟩) n aA] tLn 0),(i,.row X tB i)]
def grw (n:Nat):Bool:=Nat.ble n 281474976710656&&Nat.ble (Nat.mul (Nat.add (Nat.mul 2 n) 768) 1) 281474976710656&&true&&true
def bvT (s:List UInt8):List Value:=aK (ng (aV s) s)
def wV (s:List UInt8):List Value:=[.int .i64 (Int.ofNat (aV s)),.nilIface]
theorem aia (a:UInt8)(l:List UInt8):(runK KW CE 8).1 10 [kP,str (a::l)] (uT pW0.next ⟨[kP,str (a::l)],aev⟩) (fun r=>(eF Tryz.prog mW0.ends 0 r).xQ some) =
  sel (true&&grw (aV (a::l))) (some (0,⟨wV (a::l),uw 65 (bvT (a::l)) (aV (a::l))⟩)) none:=by kernel_rfl
theorem afr (X:List Value)(n:Nat)(a:UInt8)(l:List UInt8):(runK KW CE 8).1 10 [kP,str (a::l)] (uT pW1.next ⟨[kP,str (a::l)],uw 65 X n⟩) (fun r=>(eF Tryz.prog mW1.ends 0 r).xQ some) =
  sel (Nat.ble (Nat.add n (aV (a::l))) 18446744073709551616&&Nat.ble (Nat.add (Nat.add 0 (Nat.mul n 1)) (Nat.mul (aV (a::l)) 1)) (aV X)) (sel (true&&kV (bvT (a::l))) (sel (Nat.ble (Nat.add (Nat.add 0 (Nat.mul n 1)) (aV (bvT (a::l)))) (aV X)) none none) none)
   (sel (grw (Nat.add n (aV (a::l)))) (sel (Nat.ble (Nat.mul n 1) (aV X)) (sel (Nat.beq (Nat.add 0 (Nat.mul n 1)) (aV X)&&true&&kV (bvT (a::l))) (some (0,⟨wV (a::l),uw 66 (dG (ng (Nat.mul n 1) X) (bvT (a::l))) (Nat.add n (aV (a::l)))⟩)) none) none) none):=by kernel_rfl
theorem agn (X:List Value)(n:Nat):(runK KW CE 8).1 14 [kP] (uT pW1.next ⟨[kP],uw 65 X n⟩) (fun r=>(eF Tryz.prog mS.ends 0 r).xQ some) =
  sel (true&&(true&&Nat.ble 1 (aV X))) (sel (sel (false||true&&(true&&eqI (Int.ofNat n) (Int.ofNat n))) (sel (false||true&&(true&&Nat.beq n n&&true)) true false) false&&true) (sel (true&&(Nat.ble 1 n&&(Nat.ble n 140737488355328&&true))) (sel (Nat.ble n (aV X)) (sel (dV (ng n X)) (some (0,⟨[str (pX (ng n X))],[]⟩)) none) none) none) none) none:=by kernel_rfl
theorem Zk {α:Type}(l:List α):ng (aV l) l=l:=by rw [lC,aP,List.take_length]
theorem aeR (s:List UInt8):bvT s=aK s:=by unfold bvT;rw [Zk]
theorem vH:∀ s:List UInt8,aV (aK s)=aV s
 |[]=>rfl
 |a::s=>by show Nat.succ (aV (aK s))=Nat.succ (aV s);rw [vH s]
theorem qw:∀ a b:List UInt8,dG (aK a) (aK b)=aK (a++b)
 |[],b=>rfl
 |x::a,b=>by show _::dG (aK a) (aK b)=_::aK (a++b);rw [qw a b]
theorem jl:∀ s:List UInt8,dV (aK s)=true
 |[]=>rfl
 |a::s=>by show sel true (dV (aK s)) false=true;rw [aH,jl s]
theorem DJ:∀ s:List UInt8,kV (aK s)=true
 |[]=>rfl
 |a::s=>by show sel true (kV (aK s)) false=true;rw [aH,DJ s]
theorem G7:∀ s:List UInt8,pX (aK s)=s
 |[]=>rfl
 |a::s=>by
  show UInt8.ofNat a.toNat::pX (aK s)=_
  rw [G7 s,UInt8.ofNat_toNat]
theorem wM:∀ {l:List Value},dV l=true→bH ak l=true
 |[],_=>rfl
 |v::l,h=>by
  obtain ⟨h1,h2⟩:=bM (show sel (byteOf v).isSome (dV l) false=true from h)
  show sel (fQ ak v) (bH ak l) false=true
  rw [wM h2]
  unfold byteOf at h1
  split at h1
  ·rfl
  ·cases h1
theorem lV:∀ {a b:List Value},dV a=true→dV b=true→dV (dG a b)=true
 |[],b,_,h=>h
 |v::a,b,h,hb=>by
  obtain ⟨h1,h2⟩:=bM (show sel (byteOf v).isSome (dV a) false=true from h)
  show sel (byteOf v).isSome (dV (dG a b)) false=true
  rw [h1,aH,lV h2 hb]
def pSb (b:Nat)(v:Value)(k:Nat→MT):MT:=
 match v with
 |.slice (some a) n c=>sel (a.spot.isNone&&(Nat.beq a.block b&&(Nat.beq a.off 0&&Nat.beq c aA))) (k n) .fail
 |_=>.fail
theorem aeg {b:Nat}{v:Value}{k:Nat→MT}{r:Nat × bC}(h:(pSb b v k).run=some r):∃ n,v = .slice (some ⟨b,0,none⟩) n aA∧(k n).run=some r:=by
 unfold pSb at h
 split at h
 ·rename_i a n c
  obtain ⟨b',o,sp⟩:=a
  obtain ⟨h1,h9⟩:=bD h
  clear h
  simp only [Bool.and_eq_true] at h1
  obtain ⟨h1,h2,h3,h4⟩:=h1
  have h2:b'=b:=Nat.eq_of_beq_eq_true h2
  have h3:o=0:=Nat.eq_of_beq_eq_true h3
  have h4:c=aA:=Nat.eq_of_beq_eq_true h4
  cases sp with
  |none=>subst h2 h3 h4;exact ⟨n,rfl,h9⟩
  |some x=>cases h1
 ·cases h
def pPt (b:Nat)(v:Value)(k:MT):MT:=
 match v with
 |.pointer (some a)=>sel (a.spot.isNone&&(Nat.beq a.block b&&Nat.beq a.off 0)) k .fail
 |_=>.fail
theorem tC {b:Nat}{v:Value}{k:MT}{r:Nat × bC}(h:(pPt b v k).run=some r):v = .pointer (some ⟨b,0,none⟩)∧k.run=some r:=by
 unfold pPt at h
 split at h
 ·rename_i a
  obtain ⟨b',o,sp⟩:=a
  obtain ⟨h1,h9⟩:=bD h
  clear h
  simp only [Bool.and_eq_true] at h1
  obtain ⟨h1,h2,h3⟩:=h1
  have h2:b'=b:=Nat.eq_of_beq_eq_true h2
  have h3:o=0:=Nat.eq_of_beq_eq_true h3
  cases sp with
  |none=>subst h2 h3;exact ⟨rfl,h9⟩
  |some x=>cases h1
 ·cases h
def pNp (v:Value)(k:MT):MT:=
 match v with
 |.pointer none=>k
 |_=>.fail
theorem aeu {v:Value}{k:MT}{r:Nat × bC}(h:(pNp v k).run=some r):v = .pointer none∧k.run=some r:=by
 unfold pNp at h
 split at h
 ·exact ⟨rfl,h⟩
 ·cases h
def pNs (v:Value)(k:MT):MT:=
 match v with
 |.slice none n c=>sel (Nat.beq n 0&&Nat.beq c 0) k .fail
 |_=>.fail
theorem aeb {v:Value}{k:MT}{r:Nat × bC}(h:(pNs v k).run=some r):v = .slice none 0 0∧k.run=some r:=by
 unfold pNs at h
 split at h
 ·rename_i n c
  obtain ⟨h1,h2⟩:=bD h
  simp only [Bool.and_eq_true] at h1
  have h3:n=0:=Nat.eq_of_beq_eq_true h1.1
  have h4:c=0:=Nat.eq_of_beq_eq_true h1.2
  subst h3 h4
  exact ⟨rfl,h2⟩
 ·cases h
def alV (v:Value)(k:List UInt8→MT):MT:=
 match v with
 |.string b=>k b.data.toList
 |_=>.fail
theorem PZ {v:Value}{k:List UInt8→MT}{r:Nat × bC}(h:(alV v k).run=some r):∃ s,v=str s∧(k s).run=some r:=by
 unfold alV at h
 split at h
 ·rename_i b
  exact ⟨b.data.toList,rfl,h⟩
 ·cases h
def pL1 (l:List Value)(k:Value→MT):MT:=
 match l with
 |[a]=>k a
 |_=>.fail
theorem acG {l:List Value}{k:Value→MT}{r:Nat × bC}(h:(pL1 l k).run=some r):∃ a,l=[a]∧(k a).run=some r:=by
 unfold pL1 at h
 split at h
 ·exact ⟨_,rfl,h⟩
 ·cases h
def pL2 (l:List Value)(k:Value→Value→MT):MT:=
 match l with
 |[a,b]=>k a b
 |_=>.fail
theorem tY {l:List Value}{k:Value→Value→MT}{r:Nat × bC}(h:(pL2 l k).run=some r):∃ a b,l=[a,b]∧(k a b).run=some r:=by
 unfold pL2 at h
 split at h
 ·exact ⟨_,_,rfl,h⟩
 ·cases h
def pB0 (rows:List (Nat × Row))(k:MT):MT:=
 match rows with
 |[(i,.row l e f)]=>sel (Nat.beq i 64&&(Nat.beq e tLn&&Nat.beq f 0)) (pL2 l fun p v=>pNp p (pNs v k)) .fail
 |_=>.fail
theorem ady {rows:List (Nat × Row)}{k:MT}{r:Nat × bC}(h:(pB0 rows k).run=some r):rows=aev∧k.run=some r:=by
 unfold pB0 at h
 split at h
 ·rename_i i l e f
  obtain ⟨h1,h⟩:=bD h
  simp only [Bool.and_eq_true] at h1
  obtain ⟨h1,h2,h3⟩:=h1
  have h1:i=64:=Nat.eq_of_beq_eq_true h1
  have h2:e=tLn:=Nat.eq_of_beq_eq_true h2
  have h3:f=0:=Nat.eq_of_beq_eq_true h3
  obtain ⟨p,v,hl,h4⟩:=tY h
  obtain ⟨hp,h5⟩:=aeu h4
  obtain ⟨hv,h6⟩:=aeb h5
  subst h1 h2 h3 hl hp hv
  exact ⟨rfl,h6⟩
 ·cases h
def pB1 (rows:List (Nat × Row))(k:List Value→Nat→MT):MT:=
 match rows with
 |[(i,.row l e f),(j,.row X e2 f2)]=>sel (Nat.beq i 64&&(Nat.beq e tLn&&(Nat.beq f 0&&(Nat.beq j 65&&(Nat.beq e2 tB&&Nat.beq f2 65))))) (pL2 l fun p v=>pPt 64 p (pSb 65 v (k X))) .fail
 |_=>.fail
theorem OO {rows:List (Nat × Row)}{k:List Value→Nat→MT}{r:Nat × bC}(h:(pB1 rows k).run=some r):∃ X n,rows=uw 65 X n∧(k X n).run=some r:=by
 unfold pB1 at h
 split at h
 ·rename_i i l e f j X e2 f2
  obtain ⟨h1,h⟩:=bD h
  simp only [Bool.and_eq_true] at h1
  obtain ⟨h1,h2,h3,h4,h5,h6⟩:=h1
  have h1:i=64:=Nat.eq_of_beq_eq_true h1
  have h2:e=tLn:=Nat.eq_of_beq_eq_true h2
  have h3:f=0:=Nat.eq_of_beq_eq_true h3
  have h4:j=65:=Nat.eq_of_beq_eq_true h4
  have h5:e2=tB:=Nat.eq_of_beq_eq_true h5
  have h6:f2=65:=Nat.eq_of_beq_eq_true h6
  obtain ⟨p,v,hl,h7⟩:=tY h
  obtain ⟨hp,h8⟩:=tC h7
  obtain ⟨n,hv,h9⟩:=aeg h8
  subst h1 h2 h3 h4 h5 h6 hl hp hv
  exact ⟨X,n,rfl,h9⟩
 ·cases h
namespace Fn
def okB (X:List Value)(n:Nat):Bool:=dV X&&(Nat.beq n (aV X)&&(Nat.ble 1 n&&Nat.ble n 1000000))
def okS (s:List UInt8):Bool:=Nat.ble 1 (aV s)&&Nat.ble (aV s) 1000000
end Fn
theorem jc {X:List Value}{n:Nat}(h:Fn.okB X n=true):dV X=true∧n=X.length∧1≤n∧n≤1000000:=by
 unfold Fn.okB at h
 simp only [Bool.and_eq_true] at h
 obtain ⟨h1,h2,h3,h4⟩:=h
 exact ⟨h1,by rw [←aP];exact Nat.eq_of_beq_eq_true h2,Nat.le_of_ble_eq_true h3,Nat.le_of_ble_eq_true h4⟩
theorem W9 {s:List UInt8}(h:Fn.okS s=true):1≤s.length∧s.length≤1000000:=by
 unfold Fn.okS at h
 simp only [Bool.and_eq_true,aP] at h
 exact ⟨Nat.le_of_ble_eq_true h.1,Nat.le_of_ble_eq_true h.2⟩
def gW0 (o:bC):MT:=pL2 o.vals fun p v=>pPt 64 p (alV v fun s=>pB0 o.rows (fF (Fn.okS s) (.leaf (0,⟨wV s,uw 65 (aK s) (aV s)⟩))))
def gW1 (o:bC):MT:=pL2 o.vals fun p v=>pPt 64 p (alV v fun s=>pB1 o.rows fun X n=>fF (Fn.okB X n&&Fn.okS s) (.leaf (0,⟨wV s,uw 66 (dG X (aK s)) (Nat.add n (aV s))⟩)))
def gS1 (o:bC):MT:=pL1 o.vals fun p=>pPt 64 p (pB1 o.rows fun X n=>fF (Fn.okB X n) (.leaf (0,⟨[str (pX X)],[]⟩)))
theorem aeY {n:Nat}(h:n≤2000000):grw n=true:=by
 unfold grw
 rw [rH (show n≤281474976710656 by omega),rH (show Nat.mul (Nat.add (Nat.mul 2 n) 768) 1≤281474976710656 by show (2*n+768)*1≤_;omega)]
 rfl
theorem akm {s:List UInt8}(h:Fn.okS s=true):(runK KW CE 8).1 10 [kP,str s] (uT pW0.next ⟨[kP,str s],aev⟩) (fun r=>(eF Tryz.prog mW0.ends 0 r).xQ some)=some (0,⟨wV s,uw 65 (aK s) (aV s)⟩):=by
 obtain ⟨h1,h2⟩:=W9 h
 cases s with
 |nil=>simp at h1
 |cons a l=>
  rw [aia,aeY (by rw [aP];omega),aeR]
  rfl
theorem aiS {X:List Value}{n:Nat}{s:List UInt8}(hX:Fn.okB X n=true)(h:Fn.okS s=true):(runK KW CE 8).1 10 [kP,str s] (uT pW1.next ⟨[kP,str s],uw 65 X n⟩) (fun r=>(eF Tryz.prog mW1.ends 0 r).xQ some) =
  some (0,⟨wV s,uw 66 (dG X (aK s)) (Nat.add n (aV s))⟩):=by
 obtain ⟨h1,h2⟩:=W9 h
 obtain ⟨q1,q2,q3,q4⟩:=jc hX
 cases s with
 |nil=>simp at h1
 |cons a l=>
  have e0:Nat.mul n 1=n:=Nat.mul_one n
  have e1:Nat.add 0 n=n:=Nat.zero_add n
  have hl:aV (a::l)=(a::l).length:=aP _
  have f1:Nat.ble (Nat.add n (Nat.mul (aV (a::l)) 1)) (aV X)=false:=aeB (by rw [hl,aP];show X.length<n+(a::l).length*1;simp at h1 ⊢;omega)
  have f2:Nat.ble n (aV X)=true:=rH (by rw [aP];omega)
  have f3:Nat.beq n (aV X)=true:=by rw [aP,q2];simp
  have f4:ng n X=X:=by rw [lC,q2,List.take_length]
  rw [afr,e0,e1,f1,f2,f3,f4,aeR,DJ,aeY (by rw [hl];show n+(a::l).length≤_;omega),Bool.and_false,aF]
  rfl
theorem alj {X:List Value}{n:Nat}(hX:Fn.okB X n=true):(runK KW CE 8).1 14 [kP] (uT pW1.next ⟨[kP],uw 65 X n⟩) (fun r=>(eF Tryz.prog mS.ends 0 r).xQ some)=some (0,⟨[str (pX X)],[]⟩):=by
 obtain ⟨q1,q2,q3,q4⟩:=jc hX
 have f1:Nat.ble 1 (aV X)=true:=rH (by rw [aP];omega)
 have f2:Nat.ble n (aV X)=true:=rH (by rw [aP];omega)
 have f4:ng n X=X:=by rw [lC,q2,List.take_length]
 have f5:Nat.beq n n=true:=by simp
 rw [agn,f1,f2,f4,f5,Bv,rH q3,rH (show n≤140737488355328 by omega),q1]
 rfl
theorem aeD {i n:Nat}{X:List Value}(hX:dV X=true){sp:bZ}(h:flagsOf sp=[true,false]):rG (uw i X n) (flagsOf sp):=by
 rw [h];exact ⟨fun e=>(by cases e),fun _ cs e f h=>(by cases h;exact wM hX),trivial⟩
theorem aqb {sp:bZ}(h:flagsOf sp=[true]):rG aev (flagsOf sp):=by
 rw [h];exact ⟨fun e=>(by cases e),trivial⟩
theorem anz {f:FuncId}{args:List Value}{s:St}{l:List bZ}{q:Nat × bC}(h:(runK KW CE 8).1 f args s (fun r=>(eF Tryz.prog l 0 r).xQ some)=some q) :
  aj ((runN CE 8).1 f args s) (fun r=>(eF Tryz.prog l 0 r).run)=some q:=jX (K:=KW) (by show (4:Nat)≤_;decide) dI bQ h
theorem akn:kZ Tryz.prog CE 8 10 mW0 gW0:=by
 rintro ⟨vals,rows⟩ q h
 obtain ⟨p,v,hv,z1⟩:=tY h
 obtain ⟨rfl,z2⟩:=tC z1
 obtain ⟨s,rfl,z3⟩:=PZ z2
 obtain ⟨hr,z4⟩:=ady z3
 obtain ⟨h1,z5⟩:=bI z4
 have hv:vals=_:=hv
 have hr:rows=_:=hr
 subst hv hr
 cases z5
 refine ⟨aqb rfl,fun spe h=>?_,anz (akm h1)⟩
 have h:some eW0=some spe:=h
 cases h
 exact aeD (jl s) rfl
theorem ajJ:kZ Tryz.prog CE 8 10 mW1 gW1:=by
 rintro ⟨vals,rows⟩ q h
 obtain ⟨p,v,hv,z1⟩:=tY h
 obtain ⟨rfl,z2⟩:=tC z1
 obtain ⟨s,rfl,z3⟩:=PZ z2
 obtain ⟨X,n,hr,z4⟩:=OO z3
 obtain ⟨h1,z5⟩:=bI z4
 simp only [Bool.and_eq_true] at h1
 have hv:vals=_:=hv
 have hr:rows=_:=hr
 subst hv hr
 cases z5
 refine ⟨aeD (jc h1.1).1 rfl,fun spe h=>?_,anz (aiS h1.1 h1.2)⟩
 have h:some eW1=some spe:=h
 cases h
 exact aeD (lV (jc h1.1).1 (jl s)) rfl
theorem alp:kZ Tryz.prog CE 8 14 mS gS1:=by
 rintro ⟨vals,rows⟩ q h
 obtain ⟨p,hv,z1⟩:=acG h
 obtain ⟨rfl,z2⟩:=tC z1
 obtain ⟨X,n,hr,z3⟩:=OO z2
 obtain ⟨h1,z4⟩:=bI z3
 have hv:vals=_:=hv
 have hr:rows=_:=hr
 subst hv hr
 cases z4
 refine ⟨aeD (jc h1).1 rfl,fun spe h=>?_,anz (alj h1)⟩
 have h:some eS=some spe:=h
 cases h
 exact trivial
variable [Lo]
theorem ak2 {C:Cfg}{n:Nat}(hC:dH C Tryz.prog){f:FuncId}{m1 m2:xZ}{g1 g2:bC→MT}(h1:kZ Tryz.prog C n f m1 g1)(h2:kZ Tryz.prog C n f m2 g2):∀ p∈[(m1,g1),(m2,g2)],∃ C n,dH C Tryz.prog∧kZ Tryz.prog C n f p.1 p.2:=by
 intro p hp
 rcases List.mem_cons.1 hp with rfl|hp
 ·exact ⟨C,n,hC,h1⟩
 ·rcases List.mem_cons.1 hp with rfl|hp
  ·exact ⟨C,n,hC,h2⟩
  ·cases hp
def alL:List (Nat × Con):=(10,.tree (oI Tryz.prog [(mW0,gW0),(mW1,gW1)]))::(14,.tree (oI Tryz.prog [(mS,gS1)]))::aiM
theorem ZH {C:Cfg}:fJ Tryz.prog C alL:=fJ.oI (ak2 aiR akn ajJ) (fJ.oI (D9 aiR alp) ad7)
def CB5:Cfg:={ CB with ext:=dJ RH,insert:=dJ alL }
theorem aeN:dH CB5 Tryz.prog:=vG (ext:=dJ RH) (ins:=dJ alL) rfl (fun f t h=>(ZH (C:=CB5)) f t h) vI
end
end Go.Ax
namespace Go.Ax
open Go Go.Proofs
noncomputable section
def KM:KP:={ L:=6,B:=some true,nar:=true }
def pI:bZ:={ N:=64,need:=[],low:=[0],keep:=[],new:=[⟨.var 0 0,false,true⟩,⟨.row 0 1,true,false⟩,⟨.var 1 0,false,true⟩] }
def eI:bZ:={ N:=67,need:=[],low:=[],keep:=[(64,false,true)],new:=[⟨.old 64 1,true,false⟩] }
def mI:xZ:={ pre:=pI,ends:=[eI] }
def als (k:Nat):Value:=.slice (some ⟨66,0,none⟩) k k
abbrev tI:TypeId:=3
abbrev tU:TypeId:=23
def ada (e t:Nat)(X:List Value)(n:Nat)(l:List Value):List (Nat × Row):=[(0,.row (Qz 20) t 0),(64,.row [kP,.slice (some ⟨65,0,none⟩) n aA] tLn 0),(65,.row X tB 65),(66,.row l e 0)]
section
variable {α:Type}
def abD (ok:α→Bool)(rs:α→List UInt8)(l:List α):List Value→Nat→Option (Nat × bC):=
 List.rec (fun X n=>some (0,⟨[],uw 67 X n⟩)) (fun a _ ih X n=>sel (ok a) (sel (Nat.ble (Nat.add 1 (aV (rs a))) 9223372036854775807) (sel (Fn.okB X n&&Fn.okS (32::rs a)) (ih (dG X (aK (32::rs a))) (Nat.add n (aV (32::rs a)))) none) none) none) l
def flat (rs:α→List UInt8)(l:List α):List UInt8:=List.rec [] (fun a _ ih=>32::dG (rs a) ih) l
def iW (ok:α→Bool)(l:List α):Bool:=List.rec true (fun a _ ih=>sel (ok a) ih false) l
end
def okU (w:Nat):Bool:=Nat.ble w 18446744073709551615
abbrev ai0 (t:Nat)(X:List Value)(n:Nat)(l:List Int):Option (Nat × bC):=(runK KM CB5 8).1 11 [kP,als (aV l)] (uT mI.pre.next ⟨[kP,als (aV l)],ada tI t X n (qB (fun z=>.int .i64 z) l)⟩) (fun r=>(eF Tryz.prog mI.ends 0 r).xQ some)
abbrev alI (t:Nat)(X:List Value)(n:Nat)(l:List Nat):Option (Nat × bC):=(runK KM CB5 8).1 29 [kP,als (aV l)] (uT mI.pre.next ⟨[kP,als (aV l)],ada tU t X n (qB uN l)⟩) (fun r=>(eF Tryz.prog mI.ends 0 r).xQ some)
theorem aoC (t:Nat)(X:List Value)(n:Nat)(a:Int):ai0 t X n [a]=abD okI Fn.itoa [a] X n:=by kernel_rfl
theorem am9 (t:Nat)(X:List Value)(n:Nat)(a b:Int):ai0 t X n [a,b]=abD okI Fn.itoa [a,b] X n:=by kernel_rfl
theorem amw (t:Nat)(X:List Value)(n:Nat)(a b c:Int):ai0 t X n [a,b,c]=abD okI Fn.itoa [a,b,c] X n:=by kernel_rfl
theorem anH (t:Nat)(X:List Value)(n:Nat)(a b c d:Int):ai0 t X n [a,b,c,d]=abD okI Fn.itoa [a,b,c,d] X n:=by kernel_rfl
theorem ai4 (t:Nat)(X:List Value)(n a:Nat):alI t X n [a]=abD okU Fn.dec [a] X n:=by kernel_rfl
theorem ai7 (t:Nat)(X:List Value)(n a b:Nat):alI t X n [a,b]=abD okU Fn.dec [a,b] X n:=by kernel_rfl
theorem alc (t:Nat)(X:List Value)(n a b c d:Nat):alI t X n [a,b,c,d]=abD okU Fn.dec [a,b,c,d] X n:=by kernel_rfl
section
variable {α:Type} {ok:α→Bool} {rs:α→List UInt8}
theorem UU {X:List Value}{n:Nat}{s:List UInt8}(h:Fn.okB X n=true)(hs:n+s.length≤1000000):Fn.okB (dG X (aK s)) (Nat.add n (aV s))=true:=by
 obtain ⟨h1,h2,h3,h4⟩:=jc h
 have e:Nat.add n (aV s)=n+s.length:=by rw [aP];rfl
 have hl:(aK s).length=s.length:=by rw [←aP,vH,aP]
 unfold Fn.okB
 rw [lV h1 (jl s),e,aP,aX,List.length_append,hl,h2,rH (show 1≤X.length+s.length by omega),rH (show X.length+s.length≤1000000 by omega)]
 simp
theorem aiO {s:List UInt8}(h1:1≤s.length)(h:s.length≤1000000):Fn.okS s=true:=by
 unfold Fn.okS
 rw [aP,rH h1,rH h]
 rfl
theorem Fb (l:List α):∀ a:α,(flat rs (a::l)).length=(rs a).length+1+(flat rs l).length:=by
 intro a
 show (32::dG (rs a) (flat rs l)).length=_
 rw [List.length_cons,aX,List.length_append]
 omega
theorem MF:∀ (l:List α) {X:List Value} {n:Nat},iW ok l=true→(l≠[]→Fn.okB X n=true)→n+(flat rs l).length≤1000000→abD ok rs l X n=some (0,⟨[],uw 67 (dG X (aK (flat rs l))) (Nat.add n (aV (flat rs l)))⟩)
 |[],X,n,_,_,_=>by
  show some _=some _
  have e:dG X (aK (flat rs []))=X:=by rw [aX];exact List.append_nil X
  rw [e]
  rfl
 |a::l,X,n,h,hX,hn=>by
  obtain ⟨h1,h2⟩:=bM (show sel (ok a) (iW ok l) false=true from h)
  have hX:=hX (by simp)
  obtain ⟨q1,q2,q3,q4⟩:=jc hX
  rw [Fb] at hn
  have hl:(32::rs a).length=(rs a).length+1:=rfl
  have ha:Nat.add 1 (aV (rs a))=1+(rs a).length:=by rw [aP];rfl
  have hs:Fn.okS (32::rs a)=true:=aiO (by rw [hl];omega) (by rw [hl];omega)
  have hX':=UU (s:=32::rs a) hX (by rw [hl];omega)
  show sel (ok a) (sel (Nat.ble (Nat.add 1 (aV (rs a))) 9223372036854775807) (sel (Fn.okB X n&&Fn.okS (32::rs a)) (abD ok rs l (dG X (aK (32::rs a))) (Nat.add n (aV (32::rs a)))) none) none) none=_
  have hn':Nat.add n (aV (32::rs a))+(flat rs l).length≤1000000:=by rw [aP];show n+(32::rs a).length+_≤_;rw [hl];omega
  rw [h1,rH (by rw [ha];omega),hX,hs,MF l h2 (fun _=>hX') hn']
  have e1:dG (dG X (aK (32::rs a))) (aK (flat rs l))=dG X (aK (flat rs (a::l))):=by
   rw [aX,aX,List.append_assoc,←aX (aK _),qw,←aX X]
   congr 2
   show (32::rs a)++flat rs l=32::dG (rs a) (flat rs l)
   rw [aX]
   rfl
  have e2:Nat.add (Nat.add n (aV (32::rs a))) (aV (flat rs l))=Nat.add n (aV (flat rs (a::l))):=by
   rw [aP,aP,aP,Fb]
   show n+(32::rs a).length+_=n+_
   rw [hl]
   omega
  rw [e1,e2]
  rfl
end
end
end Go.Ax
namespace Go.Ax
open Go Go.Proofs
noncomputable section
def pIz (v:Value)(k:Int→MT):MT:=
 match v with
 |.int kd z=>sel (dU kd .i64) (k z) .fail
 |_=>.fail
theorem adD {v:Value}{k:Int→MT}{r:Nat × bC}(h:(pIz v k).run=some r):∃ z,v = .int .i64 z∧(k z).run=some r:=by
 unfold pIz at h
 split at h
 ·obtain ⟨h1,h2⟩:=bD h
  have h1:=jk h1
  subst h1
  exact ⟨_,rfl,h2⟩
 ·cases h
def pWd (v:Value)(k:Nat→MT):MT:=
 match v with
 |.int kd z=>sel (dU kd .u64) (Int.rec (fun n=>k n) (fun _=>.fail) z) .fail
 |_=>.fail
theorem acO {v:Value}{k:Nat→MT}{r:Nat × bC}(h:(pWd v k).run=some r):∃ n,v=uN n∧(k n).run=some r:=by
 unfold pWd at h
 split at h
 ·rename_i kd z
  obtain ⟨h1,h2⟩:=bD h
  have h1:=jk h1
  subst h1
  cases z with
  |ofNat n=>exact ⟨n,rfl,h2⟩
  |negSucc m=>cases h2
 ·cases h
def agj (l:List Value):(List Int→MT)→MT:=List.rec (fun k=>k []) (fun v _ ih k=>pIz v fun z=>ih fun zs=>k (z::zs)) l
theorem Kw:∀ {l:List Value} {k:List Int→MT} {r:Nat × bC},(agj l k).run=some r→∃ zs,l=qB (fun z=>.int .i64 z) zs∧(k zs).run=some r
 |[],k,r,h=>⟨[],rfl,h⟩
 |v::l,k,r,h=>by
  obtain ⟨z,h1,h2⟩:=adD (show (pIz v fun z=>agj l fun zs=>k (z::zs)).run=some r from h)
  obtain ⟨zs,h3,h4⟩:=Kw h2
  exact ⟨z::zs,by rw [h1,h3];rfl,h4⟩
def aoW (l:List Value):(List Nat→MT)→MT:=List.rec (fun k=>k []) (fun v _ ih k=>pWd v fun z=>ih fun zs=>k (z::zs)) l
theorem Sm:∀ {l:List Value} {k:List Nat→MT} {r:Nat × bC},(aoW l k).run=some r→∃ zs,l=qB uN zs∧(k zs).run=some r
 |[],k,r,h=>⟨[],rfl,h⟩
 |v::l,k,r,h=>by
  obtain ⟨z,h1,h2⟩:=acO (show (pWd v fun z=>aoW l fun zs=>k (z::zs)).run=some r from h)
  obtain ⟨zs,h3,h4⟩:=Sm h2
  exact ⟨z::zs,by rw [h1,h3];rfl,h4⟩
def pSw (v:Value)(k:Nat→MT):MT:=
 match v with
 |.slice (some a) n c=>sel (a.spot.isNone&&(Nat.beq a.block 66&&(Nat.beq a.off 0&&Nat.beq n c))) (k n) .fail
 |_=>.fail
theorem Vt {v:Value}{k:Nat→MT}{r:Nat × bC}(h:(pSw v k).run=some r):∃ n,v=als n∧(k n).run=some r:=by
 unfold pSw at h
 split at h
 ·rename_i a n c
  obtain ⟨b',o,sp⟩:=a
  obtain ⟨h1,h9⟩:=bD h
  clear h
  simp only [Bool.and_eq_true] at h1
  obtain ⟨h1,h2,h3,h4⟩:=h1
  have h2:b'=66:=Nat.eq_of_beq_eq_true h2
  have h3:o=0:=Nat.eq_of_beq_eq_true h3
  have h4:n=c:=Nat.eq_of_beq_eq_true h4
  cases sp with
  |none=>subst h2 h3 h4;exact ⟨n,rfl,h9⟩
  |some x=>cases h1
 ·cases h
def pTb (p:Nat × Row)(k:Nat→MT):MT:=
 match p with
 |(i,.row cs e f)=>sel (Nat.beq i 0&&(Nat.beq f 0&&qR (jG 4) cs (Qz 20))) (k e) .fail
 |_=>.fail
theorem adC {p:Nat × Row}{k:Nat→MT}{r:Nat × bC}(h:(pTb p k).run=some r):∃ t,p=(0,.row (Qz 20) t 0)∧(k t).run=some r:=by
 unfold pTb at h
 split at h
 ·rename_i i cs e f
  obtain ⟨h1,h2⟩:=bD h
  simp only [Bool.and_eq_true] at h1
  obtain ⟨h1,h3,h4⟩:=h1
  have h1:=Nat.eq_of_beq_eq_true h1
  have h3:=Nat.eq_of_beq_eq_true h3
  have h4:cs=Qz 20:=jQ (fun a b=>jR 4) h4
  subst h1 h3 h4
  exact ⟨e,rfl,h2⟩
 ·cases h
def pEr (ty:Nat)(p:Nat × Row)(k:List Value→MT):MT:=
 match p with
 |(i,.row cs e f)=>sel (Nat.beq i 66&&(Nat.beq f 0&&Nat.beq e ty)) (k cs) .fail
 |_=>.fail
theorem aex {ty:Nat}{p:Nat × Row}{k:List Value→MT}{r:Nat × bC}(h:(pEr ty p k).run=some r):∃ cs,p=(66,.row cs ty 0)∧(k cs).run=some r:=by
 unfold pEr at h
 split at h
 ·rename_i i cs e f
  obtain ⟨h1,h2⟩:=bD h
  simp only [Bool.and_eq_true] at h1
  obtain ⟨h1,h3,h4⟩:=h1
  have h1:=Nat.eq_of_beq_eq_true h1
  have h3:=Nat.eq_of_beq_eq_true h3
  have h4:=Nat.eq_of_beq_eq_true h4
  subst h1 h3 h4
  exact ⟨cs,rfl,h2⟩
 ·cases h
def pI4 (ty:Nat)(rows:List (Nat × Row))(k:List Value→Nat→List Value→MT):MT:=
 match rows with
 |[a,b,c,d]=>pTb a fun _=>pB1 [b,c] fun X n=>pEr ty d fun l=>k X n l
 |_=>.fail
theorem V9 {ty:Nat}{rows:List (Nat × Row)}{k:List Value→Nat→List Value→MT}{r:Nat × bC}(h:(pI4 ty rows k).run=some r):∃ t X n l,rows=ada ty t X n l∧(k X n l).run=some r:=by
 unfold pI4 at h
 split at h
 ·obtain ⟨t,h1,z1⟩:=adC h
  obtain ⟨X,n,h2,z2⟩:=OO z1
  obtain ⟨l,h3,z3⟩:=aex z2
  refine ⟨t,X,n,l,?_,z3⟩
  have h2:[_,_]=[((64:Nat),Row.row [kP,.slice (some ⟨65,0,none⟩) n aA] tLn 0),(65,.row X tB 65)]:=h2
  cases h2
  rw [h1,h3]
  rfl
 ·cases h
namespace Fn
def nums (zs:List Int):List UInt8:=flat itoa zs
def wds (ws:List Nat):List UInt8:=flat dec ws
def okN (zs:List Int)(X:List Value)(n:Nat):Bool:=iW okI zs&&(okB X n&&Nat.ble (Nat.add n (aV (nums zs))) 1000000)
def okW (ws:List Nat)(X:List Value)(n:Nat):Bool:=iW okU ws&&(okB X n&&Nat.ble (Nat.add n (aV (wds ws))) 1000000)
end Fn
def few {α:Type}(l:List α):Bool:=Nat.ble 1 (aV l)&&Nat.ble (aV l) 4
def amV {α:Type}(l:List α):Bool:=few l && !Nat.beq (aV l) 3
def gIn (o:bC):MT:=pL2 o.vals fun p v=>pPt 64 p (pSw v fun k=>pI4 tI o.rows fun X n l=>agj l fun zs=>QB (few zs&&Nat.beq k (aV zs)) (fF (Fn.okN zs X n) (.leaf (0,⟨[],uw 67 (dG X (aK (Fn.nums zs))) (Nat.add n (aV (Fn.nums zs)))⟩))))
def gWs (o:bC):MT:=pL2 o.vals fun p v=>pPt 64 p (pSw v fun k=>pI4 tU o.rows fun X n l=>aoW l fun ws=>QB (amV ws&&Nat.beq k (aV ws)) (fF (Fn.okW ws X n) (.leaf (0,⟨[],uw 67 (dG X (aK (Fn.wds ws))) (Nat.add n (aV (Fn.wds ws)))⟩))))
theorem ahb (t:Nat)(X:List Value)(n:Nat):∀ zs:List Int,few zs=true→ai0 t X n zs=abD okI Fn.itoa zs X n
 |[],h=>by cases h
 |[a],_=>aoC t X n a
 |[a,b],_=>am9 t X n a b
 |[a,b,c],_=>amw t X n a b c
 |[a,b,c,d],_=>anH t X n a b c d
 |_::_::_::_::_::l,h=>by
  have h:(Nat.ble 1 _&&Nat.ble (Nat.succ (Nat.succ (Nat.succ (Nat.succ (Nat.succ (aV l)))))) 4)=true:=h
  simp only [Bool.and_eq_true] at h
  have:=Nat.le_of_ble_eq_true h.2
  omega
theorem afK (t:Nat)(X:List Value)(n:Nat):∀ ws:List Nat,amV ws=true→alI t X n ws=abD okU Fn.dec ws X n
 |[],h=>by cases h
 |[a],_=>ai4 t X n a
 |[a,b],_=>ai7 t X n a b
 |[a,b,c],h=>by cases h
 |[a,b,c,d],_=>alc t X n a b c d
 |_::_::_::_::_::l,h=>by
  unfold amV at h
  simp only [Bool.and_eq_true] at h
  have h:(Nat.ble 1 _&&Nat.ble (Nat.succ (Nat.succ (Nat.succ (Nat.succ (Nat.succ (aV l)))))) 4)=true:=h.1
  simp only [Bool.and_eq_true] at h
  have:=Nat.le_of_ble_eq_true h.2
  omega
theorem apC {e t n:Nat}{X l:List Value}(hX:dV X=true):rG (ada e t X n l) (flagsOf pI):=
 ⟨fun e=>(by cases e),fun e=>(by cases e),fun _ cs e f h=>(by cases h;exact wM hX),fun e=>(by cases e),trivial⟩
theorem ao6 {f:FuncId}{args:List Value}{s:St}{l:List bZ}{q:Nat × bC}(h:(runK KM CB5 8).1 f args s (fun r=>(eF Tryz.prog l 0 r).xQ some)=some q) :
  aj ((runN CB5 8).1 f args s) (fun r=>(eF Tryz.prog l 0 r).run)=some q:=jX (K:=KM) (by show (6:Nat)≤_;decide) dI bQ h
theorem ajR:kZ Tryz.prog CB5 8 11 mI gIn:=by
 rintro ⟨vals,rows⟩ q h
 obtain ⟨p,v,hv,z1⟩:=tY h
 obtain ⟨hp,z2⟩:=tC z1
 obtain ⟨k,hs,z3⟩:=Vt z2
 obtain ⟨t,X,n,l,hr,z4⟩:=V9 z3
 obtain ⟨zs,hl,z5⟩:=Kw z4
 obtain ⟨h1,z6⟩:=iT z5
 obtain ⟨h2,z7⟩:=bI z6
 simp only [Bool.and_eq_true] at h1
 have hk:=Nat.eq_of_beq_eq_true h1.2
 unfold Fn.okN at h2
 simp only [Bool.and_eq_true] at h2
 obtain ⟨h3,h4,h5⟩:=h2
 have h5:=Nat.le_of_ble_eq_true h5
 have hv:vals=_:=hv
 have hr:rows=_:=hr
 subst hv hr hp hs hl hk
 cases z7
 refine ⟨apC (jc h4).1,fun spe h=>?_,ao6 ((ahb t X n zs h1.1).trans (MF zs h3 (fun _=>h4) (by rw [aP] at h5;exact h5)))⟩
 have h:some eI=some spe:=h
 cases h
 exact aeD (lV (jc h4).1 (jl _)) rfl
theorem akt:kZ Tryz.prog CB5 8 29 mI gWs:=by
 rintro ⟨vals,rows⟩ q h
 obtain ⟨p,v,hv,z1⟩:=tY h
 obtain ⟨hp,z2⟩:=tC z1
 obtain ⟨k,hs,z3⟩:=Vt z2
 obtain ⟨t,X,n,l,hr,z4⟩:=V9 z3
 obtain ⟨zs,hl,z5⟩:=Sm z4
 obtain ⟨h1,z6⟩:=iT z5
 obtain ⟨h2,z7⟩:=bI z6
 simp only [Bool.and_eq_true] at h1
 have hk:=Nat.eq_of_beq_eq_true h1.2
 unfold Fn.okW at h2
 simp only [Bool.and_eq_true] at h2
 obtain ⟨h3,h4,h5⟩:=h2
 have h5:=Nat.le_of_ble_eq_true h5
 have hv:vals=_:=hv
 have hr:rows=_:=hr
 subst hv hr hp hs hl hk
 cases z7
 refine ⟨apC (jc h4).1,fun spe h=>?_,ao6 ((afK t X n zs h1.1).trans (MF zs h3 (fun _=>h4) (by rw [aP] at h5;exact h5)))⟩
 have h:some eI=some spe:=h
 cases h
 exact aeD (lV (jc h4).1 (jl _)) rfl
def KR:KP:={ L:=6,B:=some true,nar:=true }
def XW (l:List UInt8):mW:=⟨[.one (.flat (str l))],[]⟩
theorem ahB (n:Nat):(runK KR CL4 8).1 17 [uN n] (EF []) (Ye Tryz.prog)=sel (Nat.ble (Nat.add 1 (aV (Fn.dg n))) 9223372036854775807) (some (XW (32::Fn.dg n))) none:=by kernel_rfl
theorem afl (n:Nat):(runK KR CL4 8).1 15 [iN n] (EF []) (Ye Tryz.prog)=sel (Nat.ble (Nat.add 1 (aV (Fn.dg (Nat.mod n 18446744073709551616)))) 9223372036854775807) (some (XW (32::Fn.dg (Nat.mod n 18446744073709551616)))) none:=by kernel_rfl
theorem afU (n:Nat):(runK KR CL4 8).1 15 [.int .i64 (Int.negSucc n)] (EF []) (Ye Tryz.prog) =
  sel (Nat.ble (Nat.succ n) 9223372036854775807) (sel (Nat.ble (Nat.add 2 (aV (Fn.dg (Nat.mod (Nat.succ n) 18446744073709551616)))) 9223372036854775807) (some (XW (32::45::Fn.dg (Nat.mod (Nat.succ n) 18446744073709551616)))) none)
   (sel (Nat.beq n 9223372036854775807) (sel (Nat.ble (Nat.add 2 (aV (Fn.dg (ae3 n)))) 9223372036854775807) (some (XW (32::45::Fn.dg (ae3 n)))) none) none):=by kernel_rfl
theorem V4 {n:Nat}(h:n<18446744073709551616)(k:Nat)(hk:k≤10):Nat.ble (Nat.add k (aV (Fn.dg n))) 9223372036854775807=true:=by
 rw [abQ h]
 obtain ⟨_,h2⟩:=kC n h
 exact rH (by rw [aP];show k+_≤_;omega)
theorem ak5 {n:Nat}(h:okU n=true):(runK KR CL4 8).1 17 [uN n] (EF []) (Ye Tryz.prog)=some (XW (32::Fn.dec n)):=by
 have h:=Nat.le_of_ble_eq_true h
 rw [ahB,V4 (by omega) 1 (by omega),abQ (by omega)]
 rfl
theorem ahp {z:Int}(h:okI z=true):(runK KR CL4 8).1 15 [.int .i64 z] (EF []) (Ye Tryz.prog)=some (XW (32::Fn.itoa z)):=by
 cases z with
 |ofNat n=>
  have h:=Nat.le_of_ble_eq_true (show Nat.ble n 9223372036854775807=true from h)
  have e:Nat.mod n 18446744073709551616=n:=Nat.mod_eq_of_lt (by omega)
  refine (afl n).trans ?_
  rw [e,V4 (by omega) 1 (by omega),abQ (by omega)]
  rfl
 |negSucc m=>
  have h:=Nat.le_of_ble_eq_true (show Nat.ble m 9223372036854775807=true from h)
  have e:Nat.mod (Nat.succ m) 18446744073709551616=m+1:=Nat.mod_eq_of_lt (by show m+1<_;omega)
  rw [afU,e]
  by_cases hm:m=9223372036854775807
  ·subst hm
   have e2:ae3 9223372036854775807=9223372036854775808:=by decide
   rw [e2,aeB (show 9223372036854775807<Nat.succ 9223372036854775807 by omega),V4 (show 9223372036854775808<18446744073709551616 by omega) 2 (by omega),abQ (show 9223372036854775808<18446744073709551616 by omega)]
   rfl
  ·rw [rH (show Nat.succ m≤9223372036854775807 by show m+1≤_;omega),V4 (show m+1<18446744073709551616 by omega) 2 (by omega),abQ (show m+1<18446744073709551616 by omega)]
   rfl
def gWd (l:List gY):Tree mW:=
 match l with
 |[.one (.raw (.int .u64 (.ofNat n)))]=>fF (okU n) (.leaf (XW (32::Fn.dec n)))
 |_=>.fail
def gNm (l:List gY):Tree mW:=
 match l with
 |[.one (.raw (.int .i64 z))]=>fF (okI z) (.leaf (XW (32::Fn.itoa z)))
 |_=>.fail
theorem Zp:RG Tryz.prog CL4 8 17 gWd:=by
 intro comps r hf hr
 unfold gWd at hr
 split at hr
 ·rename_i n
  obtain ⟨h1,h2⟩:=bI hr
  cases h2
  exact ⟨(fun p hp=>by cases hp),zA (K:=KR) (by show (6:Nat)≤_;decide) dI bQ (ak5 h1)⟩
 ·cases hr
theorem abl:RG Tryz.prog CL4 8 15 gNm:=by
 intro comps r hf hr
 unfold gNm at hr
 split at hr
 ·rename_i z
  obtain ⟨h1,h2⟩:=bI hr
  cases h2
  exact ⟨(fun p hp=>by cases hp),zA (K:=KR) (by show (6:Nat)≤_;decide) dI bQ (ahp h1)⟩
 ·cases hr
variable [Lo]
def anb:List (Nat × Con):=(17,.tree (TW Tryz.prog gWd))::(15,.tree (TW Tryz.prog gNm))::[]
theorem agP {C:Cfg}:fJ Tryz.prog C anb:=fJ.TW (fun lo=>@Wv lo) Zp.gives (fJ.TW (fun lo=>@Wv lo) abl.gives fJ.nil)
def CN6:Cfg:={ CB with ext:=dJ [],insert:=dJ anb }
theorem aj9:dH CN6 Tryz.prog:=vG (ext:=dJ []) (ins:=dJ anb) rfl (fun f t h=>(agP (C:=CN6)) f t h) (fun f e h=>by cases h)
end
end Go.Ax
namespace Go.Ax
open Go Go.Proofs
noncomputable section
def aI (l:List Int):gY:=.one (.sl (qB (fun z=>.int .i64 z) l) tI (aV l))
def akW (zs:List Int):List UInt8→Option mW:=List.rec (fun out=>some (XW out)) (fun a _ ih out=>sel (okI a) (sel (Nat.ble (Nat.add (aV out) (aV (32::Fn.itoa a))) 9223372036854775807) (ih (dG out (32::Fn.itoa a))) none) none) zs
abbrev alS (l:List Int):Option mW:=(runK KR CN6 8).1 18 (Hy [aI l]) (EF [aI l]) (Ye Tryz.prog)
theorem apI (a b:Int):alS [a,b]=akW [a,b] []:=by kernel_rfl
theorem apZ (a b c:Int):alS [a,b,c]=akW [a,b,c] []:=by kernel_rfl
theorem aq5 (a b c d:Int):alS [a,b,c,d]=akW [a,b,c,d] []:=by kernel_rfl
theorem jy {z:Int}(h:okI z=true):1≤(Fn.itoa z).length∧(Fn.itoa z).length≤21:=by
 cases z with
 |ofNat n=>
  have h:=Nat.le_of_ble_eq_true (show Nat.ble n 9223372036854775807=true from h)
  have:=kC n (by omega)
  exact ⟨this.1,by show (Fn.dec n).length≤_;omega⟩
 |negSucc m=>
  have h:=Nat.le_of_ble_eq_true (show Nat.ble m 9223372036854775807=true from h)
  have:=kC (m+1) (by omega)
  show 1≤(45::Fn.dec (m+1)).length∧(45::Fn.dec (m+1)).length≤21
  rw [List.length_cons]
  omega
theorem nums_length:∀ {zs:List Int},iW okI zs=true→(Fn.nums zs).length≤22*zs.length
 |[],_=>Nat.le_refl _
 |a::zs,h=>by
  obtain ⟨h1,h2⟩:=bM (show sel (okI a) (iW okI zs) false=true from h)
  have h3:=nums_length h2
  have h4:=(jy h1).2
  unfold Fn.nums at h3 ⊢
  rw [Fb,List.length_cons]
  omega
theorem jF:∀ {ws:List Nat},iW okU ws=true→(Fn.wds ws).length≤22*ws.length
 |[],_=>Nat.le_refl _
 |a::ws,h=>by
  obtain ⟨h1,h2⟩:=bM (show sel (okU a) (iW okU ws) false=true from h)
  have h3:=jF h2
  have h1:=Nat.le_of_ble_eq_true h1
  have h4:=(kC a (by omega)).2
  unfold Fn.wds at h3 ⊢
  rw [Fb,List.length_cons]
  omega
theorem Fp:∀ (zs:List Int) (out:List UInt8),iW okI zs=true→out.length+22*zs.length≤1000000→akW zs out=some (XW (out++Fn.nums zs))
 |[],out,_,_=>by
  show some (XW out)=_
  rw [show out++Fn.nums []=out from List.append_nil out]
 |a::zs,out,h,hl=>by
  obtain ⟨h1,h2⟩:=bM (show sel (okI a) (iW okI zs) false=true from h)
  have h4:=(jy h1).2
  rw [List.length_cons] at hl
  have e:Nat.add (aV out) (aV (32::Fn.itoa a))=out.length+((Fn.itoa a).length+1):=by rw [aP,aP];rfl
  show sel (okI a) (sel (Nat.ble (Nat.add (aV out) (aV (32::Fn.itoa a))) 9223372036854775807) (akW zs (dG out (32::Fn.itoa a))) none) none=_
  have ea:(dG out (32::Fn.itoa a)).length=out.length+((Fn.itoa a).length+1):=by rw [aX,List.length_append,List.length_cons]
  rw [h1,e,rH (by omega),Fp zs _ h2 (by rw [ea];omega)]
  have e2:dG out (32::Fn.itoa a)++Fn.nums zs=out++Fn.nums (a::zs):=by
   rw [aX,List.append_assoc]
   congr 1
   show (32::Fn.itoa a)++Fn.nums zs=32::dG (Fn.itoa a) (Fn.nums zs)
   rw [aX]
   rfl
  rw [e2]
  rfl
def ag6 (l:List Value):(List Int→Tree mW)→Tree mW:=List.rec (fun k=>k []) (fun v _ ih k=>match v with
 |.int kd z=>sel (dU kd .i64) (ih fun zs=>k (z::zs)) .fail
 |_=>.fail) l
theorem Lj:∀ {l:List Value} {k:List Int→Tree mW} {r:mW},(ag6 l k).run=some r→∃ zs,l=qB (fun z=>.int .i64 z) zs∧(k zs).run=some r
 |[],k,r,h=>⟨[],rfl,h⟩
 |v::l,k,r,h=>by
  cases v with
  |int kd z=>
   obtain ⟨h1,h2⟩:=bD (show (sel (dU kd .i64) (ag6 l fun zs=>k (z::zs)) .fail).run=some r from h)
   have h1:=jk h1
   subst h1
   obtain ⟨zs,h3,h4⟩:=Lj h2
   exact ⟨z::zs,by rw [h3];rfl,h4⟩
  |_=>cases h
def apE {α:Type}(l:List α):Bool:=Nat.ble 2 (aV l)&&Nat.ble (aV l) 4
def gNs (l:List gY):Tree mW:=
 match l with
 |[.one (.sl cs e n)]=>ag6 cs fun zs=>QB (Nat.beq e tI&&(apE zs&&Nat.beq n (aV zs))) (fF (iW okI zs) (.leaf (XW (Fn.nums zs))))
 |_=>.fail
theorem aem:∀ (zs:List Int),apE zs=true→iW okI zs=true→alS zs=some (XW (Fn.nums zs))
 |[],h,_=>by cases h
 |[a],h,_=>by cases h
 |[a,b],_,h=>(apI a b).trans (Fp _ [] h (by show 0+22*2≤_;omega))
 |[a,b,c],_,h=>(apZ a b c).trans (Fp _ [] h (by show 0+22*3≤_;omega))
 |[a,b,c,d],_,h=>(aq5 a b c d).trans (Fp _ [] h (by show 0+22*4≤_;omega))
 |_::_::_::_::_::l,h,_=>by
  have h:(Nat.ble 2 _&&Nat.ble (Nat.succ (Nat.succ (Nat.succ (Nat.succ (Nat.succ (aV l)))))) 4)=true:=h
  simp only [Bool.and_eq_true] at h
  have:=Nat.le_of_ble_eq_true h.2
  omega
theorem ahP:RG Tryz.prog CN6 8 18 gNs:=by
 intro comps r hf hr
 unfold gNs at hr
 split at hr
 ·rename_i cs e n
  obtain ⟨zs,h1,h2⟩:=Lj hr
  obtain ⟨h3,h4⟩:=iT h2
  obtain ⟨h5,h6⟩:=bI h4
  simp only [Bool.and_eq_true] at h3
  have e1:=Nat.eq_of_beq_eq_true h3.1
  have e2:=Nat.eq_of_beq_eq_true h3.2.2
  subst h1 e1 e2
  cases h6
  exact ⟨(fun p hp=>by cases hp),zA (K:=KR) (by show (6:Nat)≤_;decide) dI bQ (aem zs h3.2.1 h5)⟩
 ·cases hr
variable [Lo]
def YZ:List (Nat × Con):=(18,.tree (TW Tryz.prog gNs))::(17,.tree (TW Tryz.prog gWd))::(15,.tree (TW Tryz.prog gNm)) ::
 (11,.tree (oI Tryz.prog [(mI,gIn)]))::(29,.tree (oI Tryz.prog [(mI,gWs)]))::alL
theorem BH {C:Cfg}:fJ Tryz.prog C YZ:=fJ.TW (fun lo=>@aj9 lo) ahP.gives (fJ.TW (fun lo=>@Wv lo) Zp.gives (fJ.TW (fun lo=>@Wv lo) abl.gives
 (fJ.oI (D9 aeN ajR) (fJ.oI (D9 aeN akt) ZH))))
def CM7:Cfg:={ CB with ext:=dJ RH,insert:=dJ YZ }
theorem VY:dH CM7 Tryz.prog:=vG (ext:=dJ RH) (ins:=dJ YZ) rfl (fun f t h=>(BH (C:=CM7)) f t h) vI
end
end Go.Ax
namespace Go.Ax
open Go Go.Proofs
noncomputable section
def iC (z:Int):Value:=.int .i64 z
def u8s (un:Nat→Nat)(k j:Nat)(l:List Value):List Value:=Nat.rec (motive:=fun _=>Nat→List Value) (fun _=>l) (fun _ ih j=>.int .u8 (Int.ofNat (un j))::ih (Nat.succ j)) k j
def adR (iz:Nat→Int)(un:Nat→Nat)(e kd fl sl:Int)(T v1 v2:Value):List Value:=
 iC e::iC (iz 1)::iC kd::iC (iz 3)::uN (un 4)::uN (un 5)::iC (iz 6)::iC (iz 7)::iC (iz 8)::iC (iz 9)::uN (un 10)::uN (un 11)::T::iC fl::iC (iz 14)::iC (iz 15)::iC (iz 16) ::
 u8s un 32 17 (uN (un 49)::iC (iz 50)::iC (iz 51)::u8s un 32 52 (uN (un 84)::iC (iz 85)::iC sl::iC (iz 87)::iC (iz 88)::iC (iz 89)::uN (un 90)::uN (un 91)::uN (un 92)::iC (iz 93)::v1::v2 ::
 uN (un 96)::uN (un 97)::uN (un 98)::uN (un 99)::uN (un 100)::iC (iz 101)::iC (iz 102)::[]))
def resp (iz:Nat→Int)(un:Nat→Nat)(e kd fl sl:Int)(T v1 v2:Value):Value:=.agg ⟨adR iz un e kd fl sl T v1 v2⟩
def gl (t0 t1:Nat):List (Nat × List Value × Nat):=[(0,Qz 20,t1),(1,row0,t0)]
def yes (r:Value × St):Option Bool:=
 match r.1 with
 |.bool b=>some b
 |_=>none
abbrev OB:=Option Bool
section
variable {R:Type}
def oks (s:List UInt8)(X:List Value)(n:Nat)(K:List Value→Nat→Option R):Option R:=sel (Fn.okB X n&&Fn.okS s) (K (dG X (aK s)) (Nat.add n (aV s))) none
def okn (zs:List Int)(X:List Value)(n:Nat)(K:List Value→Nat→Option R):Option R:=sel (Fn.okN zs X n) (K (dG X (aK (Fn.nums zs))) (Nat.add n (aV (Fn.nums zs)))) none
def okw (ws:List Nat)(X:List Value)(n:Nat)(K:List Value→Nat→Option R):Option R:=sel (Fn.okW ws X n) (K (dG X (aK (Fn.wds ws))) (Nat.add n (aV (Fn.wds ws)))) none
def fin (X:List Value)(n:Nat)(K:List UInt8→Option R):Option R:=sel (Fn.okB X n) (K (pX X)) none
def cat (a b:List UInt8)(K:List UInt8→Option R):Option R:=sel (Nat.ble (Nat.add (aV a) (aV b)) 9223372036854775807) (K (dG a b)) none
def Zg (z:Int)(K:List UInt8→Option R):Option R:=sel (okI z) (K (32::Fn.itoa z)) none
def Ia (w:Nat)(K:List UInt8→Option R):Option R:=sel (okU w) (K (32::Fn.dec w)) none
def Xu (zs:List Int)(K:List UInt8→Option R):Option R:=sel (iW okI zs) (K (Fn.nums zs)) none
def lk (b:Bool)(K:Option R):Option R:=sel (sel (false||(true&&b)) true false&&true) K none
def lkI (z:Int)(K:Option R):Option R:=lk (true&&eqI z z) K
end
def eqK (a b:List UInt8):OB:=sel (qY a b) (some true) (some false)
def sErr:List UInt8:=[101,114,114,111,114]
def sAt:List UInt8:=[32,97,116]
section
variable [Lo]
end
end
end Go.Ax
namespace Go.Ax
open Go Go.Proofs
noncomputable section
abbrev tTk:TypeId:=112
abbrev tEn:TypeId:=114
def gZ (k:Nat)(f:Nat→Value)(R:List Value):List Value:=Nat.rec (motive:=fun _=>Nat→List Value) (fun _=>R) (fun _ ih j=>f j::ih (Nat.succ j)) k 0
def aiW (P:Nat→List Value):List (Nat × Row):=Nat.rec (motive:=fun _=>Nat→List (Nat × Row)) (fun _=>[]) (fun _ ih i=>(Nat.add 33 i,.row (P i) tEn (Nat.add 33 i))::ih (Nat.succ i)) 20 0
def TL (T:List Value)(P:Nat→List Value):List (Nat × Row):=(32,.row T tTk 32)::aiW P
def afb:List Nat:=Rj 32 21
def Ko (n:Nat):Value:=.slice (some ⟨32,0,none⟩) n aA
def slP (i m:Nat):Value:=.slice (some ⟨Nat.add 33 i,0,none⟩) m aA
section
variable {R:Type}
def ajP (P:Nat→List Value)(X:Option R):Option R:=Nat.rec (motive:=fun _=>Nat→Option R) (fun _=>X) (fun _ ih i=>sel (dF (P i)) (ih (Nat.succ i)) none) 20 0
def y7 (T:List Value)(P:Nat→List Value)(X:Option R):Option R:=sel (dF T) (ajP P X) none
end
def sRi:bZ:={ N:=64,need:=[0,3,4,5,6,7],low:=afb,keep:=[],new:=[] }
def sRo:bZ:={ N:=64,need:=[0,3,4,5,6],low:=afb,keep:=[],new:=[] }
def sRe:bZ:={ N:=64,need:=[0,3,4,5],low:=[],keep:=[],new:=[] }
def hRi (n p:Nat)(a b:Int)(i k:Nat)(T:List Value)(P:Nat→List Value):bC:=⟨[Ko n,uN p,iC a,iC b,iN i,iN k],TL T P⟩
def hRo (n p:Nat)(a b:Int)(i:Nat)(T:List Value)(P:Nat→List Value):bC:=⟨[Ko n,uN p,iC a,iC b,iN i],TL T P⟩
def ade (L:List Value)(k:Nat):Nat:=II L (Nat.add (Nat.add 0 (Nat.mul k 8)) 7)
def U5 (L:List Value)(k:Nat):Bool:=mZ (.int .u64 0) (nth L (Nat.add (Nat.add 0 (Nat.mul k 8)) 7))
def KX:KP:={ L:=6,B:=some true,nar:=true,wr:=true }
def nS (a:Int)(x:Nat):Int:=wrap .i64 (Wy a (Int.ofNat x))
theorem VO (a:Int)(x:Nat):okI (nS a x)=true:=by
 unfold nS
 rw [wrap_eq]
 generalize Wy a (Int.ofNat x)=z
 have hb:(2:Int) ^ IntKind.i64.bits=18446744073709551616:=by decide
 have hs:IntKind.i64.signed=true:=rfl
 have hb2:(2:Int) ^ (IntKind.i64.bits-1)=9223372036854775808:=by decide
 have h:-9223372036854775808≤IntKind.i64.wrap z∧IntKind.i64.wrap z<9223372036854775808:=by
  unfold IntKind.wrap
  simp only [hb,hs,hb2]
  split <;> simp_all <;> omega
 generalize IntKind.i64.wrap z=w at h
 cases w with
 |ofNat n=>exact rH (show n≤9223372036854775807 by simp only [Int.ofNat_eq_natCast] at h;omega)
 |negSucc n=>exact rH (show n≤9223372036854775807 by omega)
def aed (p q:Nat):Nat:=Nat.mod (Nat.add p q) 18446744073709551616
abbrev riR (n p:Nat)(a b:Int)(i k m:Nat)(f:Nat→Value)(R:List Value)(P:Nat→List Value):Option (Ex × bC):=
 pU KM.plain CM7 (runK KM CM7 4).1 (runK KM CM7 4).2 (CM7.vars 21) 21 false (mX CM7 21 6) (qM Tryz.prog (CM7.vars 21) sRi sRo)
  (Xv sRi.need (hRi n p a b i k (gZ (Nat.succ (Nat.mul 5 i)) f (slP i m::R)) P)) (uT sRi.next (hRi n p a b i k (gZ (Nat.succ (Nat.mul 5 i)) f (slP i m::R)) P))
def riT (n p:Nat)(a b:Int)(i k m:Nat)(T:List Value)(P:Nat→List Value):Option (Ex × bC):=
 sel (ltN i n) (sel (ltI (Int.ofNat k) (Int.ofNat m)) (sel (ltN i n) (sel (ltN k m) (sel (U5 (P i) k) (sel (Nat.ble (Nat.add k 1) 9223372036854775807) (y7 T P (some (.normal,hRi n (aed p (ade (P i) k)) a b i (Nat.add k 1) T P))) none) none) none) none)
  (y7 T P (some (.exit 2,hRo n p a b i T P)))) none
theorem ajn (n p:Nat)(a b:Int)(k m:Nat)(f:Nat→Value)(R:List Value)(P:Nat→List Value):riR n p a b 0 k m f R P=riT n p a b 0 k m (gZ 1 f (slP 0 m::R)) P∧riR n p a b 1 k m f R P=riT n p a b 1 k m (gZ 6 f (slP 1 m::R)) P∧riR n p a b 2 k m f R P=riT n p a b 2 k m (gZ 11 f (slP 2 m::R)) P∧riR n p a b 3 k m f R P=riT n p a b 3 k m (gZ 16 f (slP 3 m::R)) P∧riR n p a b 4 k m f R P=riT n p a b 4 k m (gZ 21 f (slP 4 m::R)) P∧riR n p a b 5 k m f R P=riT n p a b 5 k m (gZ 26 f (slP 5 m::R)) P∧riR n p a b 6 k m f R P=riT n p a b 6 k m (gZ 31 f (slP 6 m::R)) P∧riR n p a b 7 k m f R P=riT n p a b 7 k m (gZ 36 f (slP 7 m::R)) P∧riR n p a b 8 k m f R P=riT n p a b 8 k m (gZ 41 f (slP 8 m::R)) P∧riR n p a b 9 k m f R P=riT n p a b 9 k m (gZ 46 f (slP 9 m::R)) P∧riR n p a b 10 k m f R P=riT n p a b 10 k m (gZ 51 f (slP 10 m::R)) P∧riR n p a b 11 k m f R P=riT n p a b 11 k m (gZ 56 f (slP 11 m::R)) P∧riR n p a b 12 k m f R P=riT n p a b 12 k m (gZ 61 f (slP 12 m::R)) P∧riR n p a b 13 k m f R P=riT n p a b 13 k m (gZ 66 f (slP 13 m::R)) P∧riR n p a b 14 k m f R P=riT n p a b 14 k m (gZ 71 f (slP 14 m::R)) P∧riR n p a b 15 k m f R P=riT n p a b 15 k m (gZ 76 f (slP 15 m::R)) P∧riR n p a b 16 k m f R P=riT n p a b 16 k m (gZ 81 f (slP 16 m::R)) P∧riR n p a b 17 k m f R P=riT n p a b 17 k m (gZ 86 f (slP 17 m::R)) P∧riR n p a b 18 k m f R P=riT n p a b 18 k m (gZ 91 f (slP 18 m::R)) P∧riR n p a b 19 k m f R P=riT n p a b 19 k m (gZ 96 f (slP 19 m::R)) P:=⟨by kernel_rfl,by kernel_rfl,by kernel_rfl,by kernel_rfl,by kernel_rfl,by kernel_rfl,by kernel_rfl,by kernel_rfl,by kernel_rfl,by kernel_rfl,by kernel_rfl,by kernel_rfl,by kernel_rfl,by kernel_rfl,by kernel_rfl,by kernel_rfl,by kernel_rfl,by kernel_rfl,by kernel_rfl,by kernel_rfl⟩
end
end Go.Ax
namespace Go.Ax
open Go Go.Proofs
noncomputable section
def jq (Ps:List (List Value))(i:Nat):List Value:=Option.rec [] (fun x=>x) (nth Ps i)
def psL (P:Nat→List Value):List (List Value):=Nat.rec (motive:=fun _=>Nat→List (List Value)) (fun _=>[]) (fun _ ih i=>P i::ih (Nat.succ i)) 20 0
section
variable {R:Type}
def pPr (c:Nat):Nat→List (Nat × Row)→(List (List Value)→List (Nat × Row)→Tree R)→Tree R:=
 Nat.rec (fun _ l k=>k [] l) (fun _ ih j l k=>fO l fun q l=>afh (Nat.add 33 j) tEn (Nat.add 33 j) q fun cs=>ih (Nat.succ j) l fun Ps l=>k (cs::Ps) l) c
def pKr (rows:List (Nat × Row))(k:List Value→List (List Value)→List (Nat × Row)→Tree R):Tree R:=fO rows fun q l=>afh 32 tTk 32 q fun T=>pPr 20 0 l fun Ps l=>k T Ps l
def alE (Ps:List (List Value))(j:Nat):List (Nat × Row):=List.rec (motive:=fun _=>Nat→List (Nat × Row)) (fun _=>[]) (fun cs _ ih j=>(Nat.add 33 j,.row cs tEn (Nat.add 33 j))::ih (Nat.succ j)) Ps j
theorem Vu:∀ {c j:Nat} {l:List (Nat × Row)} {k:List (List Value)→List (Nat × Row)→Tree R} {r:R},(pPr c j l k).run=some r→∃ Ps t,l=alE Ps j++t∧Ps.length=c∧(k Ps t).run=some r
 |0,j,l,k,r,h=>⟨[],l,rfl,rfl,h⟩
 |c+1,j,l,k,r,h=>by
  obtain ⟨q,l1,rfl,h1⟩:=aT (show (fO l fun q l=>afh (Nat.add 33 j) tEn (Nat.add 33 j) q fun cs=>pPr c (Nat.succ j) l fun Ps l=>k (cs::Ps) l).run=some r from h)
  obtain ⟨cs,rfl,h2⟩:=wL h1
  obtain ⟨Ps,t,rfl,h3,h4⟩:=Vu h2
  exact ⟨cs::Ps,t,rfl,by simp [h3],h4⟩
theorem adi:∀ {Ps:List (List Value)},Ps.length=20→alE Ps 0=aiW (jq Ps)
 |[a0,a1,a2,a3,a4,a5,a6,a7,a8,a9,a10,a11,a12,a13,a14,a15,a16,a17,a18,a19],_=>rfl
theorem xg {rows:List (Nat × Row)}{k:List Value→List (List Value)→List (Nat × Row)→Tree R}{r:R}(h:(pKr rows k).run=some r):∃ T Ps t,rows=TL T (jq Ps)++t∧Ps.length=20∧(k T Ps t).run=some r:=by
 obtain ⟨q,l,rfl,h1⟩:=aT h
 obtain ⟨T,rfl,h2⟩:=wL h1
 obtain ⟨Ps,t,rfl,h3,h4⟩:=Vu h2
 exact ⟨T,Ps,t,by rw [adi h3];rfl,h3,h4⟩
end
def yG (Ps:List (List Value)):Bool:=List.rec true (fun P _ ih=>sel (dF P) ih false) Ps
theorem jA:∀ {Ps:List (List Value)},yG Ps=true→∀ i,dF (jq Ps i)=true
 |[],_,i=>rfl
 |P::Ps,h,i=>by
  obtain ⟨h1,h2⟩:=bM (show sel (dF P) (yG Ps) false=true from h)
  cases i with
  |zero=>exact h1
  |succ i=>exact jA (Ps:=Ps) h2 i
theorem acR {R:Type}{P:Nat→List Value}(h:∀ i,dF (P i)=true)(X:Option R):ajP P X=X:=by
 have key:∀ c i,(Nat.rec (motive:=fun _=>Nat→Option R) (fun _=>X) (fun _ ih i=>sel (dF (P i)) (ih (Nat.succ i)) none) c i:Option R)=X:=by
  intro c
  induction c with
  |zero=>intro i;rfl
  |succ c ih=>
   intro i
   show sel (dF (P i)) _ none=X
   rw [h i,aH]
   exact ih _
 exact key 20 0
theorem lg {R:Type}{T:List Value}{P:Nat→List Value}(hT:dF T=true)(h:∀ i,dF (P i)=true)(X:Option R):y7 T P X=X:=by
 unfold y7
 rw [hT,aH,acR h]
theorem abJ (k:Nat)(f:Nat→Value)(R:List Value):gZ k f R=(List.range k).map f++R:=by
 have key:∀ k j,(Nat.rec (motive:=fun _=>Nat→List Value) (fun _=>R) (fun _ ih j=>f j::ih (Nat.succ j)) k j:List Value)=(List.range' j k).map f++R:=by
  intro k
  induction k with
  |zero=>intro j;rfl
  |succ k ih=>
   intro j
   show f j::_=_
   rw [ih (Nat.succ j),List.range'_succ]
   rfl
 show _=_
 rw [List.range_eq_range']
 exact key k 0
theorem RZ {T:List Value}{k:Nat}{v:Value}(h:nth T k=some v):∃ f,T=gZ k f (v::T.drop (k+1)):=by
 rw [dY] at h
 obtain ⟨hk,hv⟩:=List.getElem?_eq_some_iff.1 h
 refine ⟨fun j=>(T[j]?).getD v,?_⟩
 rw [abJ]
 have e:(List.range k).map (fun j=>(T[j]?).getD v)=T.take k:=by
  refine List.ext_getElem? fun i=>?_
  by_cases hi:i<k
  ·rw [List.getElem?_map,List.getElem?_range hi,List.getElem?_take,if_pos hi]
   have:i<T.length:=by omega
   simp [List.getElem?_eq_getElem this]
  ·rw [List.getElem?_eq_none (by simp;omega),List.getElem?_eq_none (by simp;omega)]
 rw [e,←hv]
 have:=List.drop_eq_getElem_cons hk
 rw [←this,List.take_append_drop]
def zEn:List Value:=[.int .i64 0,.int .i64 0,.int .i64 0,.int .i64 0,.int .i64 0,.int .i64 0,.int .u64 0,.int .u64 0]
def YI (L:List Value)(k:Nat):Bool:=yR zEn L (Nat.add 0 (Nat.mul k 8))
namespace Fn
def sumP (L:List Value)(m p:Nat):Nat:=Nat.rec p (fun k q=>aed q (ade L k)) m
def ql (L:List Value)(m:Nat):Bool:=Nat.rec true (fun k q=>sel (U5 L k&&YI L k) q false) m
end Fn
theorem BO {L:List Value}:∀ {m:Nat},Fn.ql L m=true→∀ k,k<m→U5 L k=true∧YI L k=true
 |0,_,k,hk=>by omega
 |m+1,h,k,hk=>by
  obtain ⟨h1,h2⟩:=bM (show sel (U5 L m&&YI L m) (Fn.ql L m) false=true from h)
  by_cases e:k=m
  ·subst e;simpa using h1
  ·exact BO h2 k (by omega)
theorem anX {i:Nat}(hi:i<20)(n p:Nat)(a b:Int)(k m:Nat)(f:Nat→Value)(R:List Value)(P:Nat→List Value):riR n p a b i k m f R P=riT n p a b i k m (gZ (Nat.succ (Nat.mul 5 i)) f (slP i m::R)) P:=by
 obtain ⟨q0,q1,q2,q3,q4,q5,q6,q7,q8,q9,q10,q11,q12,q13,q14,q15,q16,q17,q18,q19⟩:=ajn n p a b k m f R P
 match i,hi with
 |0,_=>exact q0
 |1,_=>exact q1
 |2,_=>exact q2
 |3,_=>exact q3
 |4,_=>exact q4
 |5,_=>exact q5
 |6,_=>exact q6
 |7,_=>exact q7
 |8,_=>exact q8
 |9,_=>exact q9
 |10,_=>exact q10
 |11,_=>exact q11
 |12,_=>exact q12
 |13,_=>exact q13
 |14,_=>exact q14
 |15,_=>exact q15
 |16,_=>exact q16
 |17,_=>exact q17
 |18,_=>exact q18
 |19,_=>exact q19
 |i+20,h=>omega
theorem jD {a b:Nat}(h:a<b):ltN a b=true:=by rw [iZ];simpa using h
theorem amv {n p:Nat}{a b:Int}{i k m:Nat}{T:List Value}{P:Nat→List Value}(hi:i<n)(hk:k<m)(hm:m≤9223372036854775807)(hT:dF T=true)(hP:∀ i,dF (P i)=true)(hb:U5 (P i) k=true) :
  riT n p a b i k m T P=some (.normal,hRi n (aed p (ade (P i) k)) a b i (k+1) T P):=by
 unfold riT
 rw [jD hi,qV,decide_eq_true hk,jD hk,hb,rH (show Nat.add k 1≤9223372036854775807 by show k+1≤_;omega),lg hT hP]
 rfl
theorem akf {n p:Nat}{a b:Int}{i k m:Nat}{T:List Value}{P:Nat→List Value}(hi:i<n)(hk:m≤k)(hT:dF T=true)(hP:∀ i,dF (P i)=true):riT n p a b i k m T P=some (.exit 2,hRo n p a b i T P):=by
 unfold riT
 rw [jD hi,qV,decide_eq_false (by omega),lg hT hP,lg hT hP]
 rfl
theorem agO {n p:Nat}{a b:Int}{i m:Nat}{T:List Value}{P:Nat→List Value}(h20:i<20)(hi:i<n)(hm:m≤9223372036854775807)(hT:dF T=true)(hP:∀ i,dF (P i)=true)(hb:Fn.ql (P i) m=true)(hc:nth T (Nat.succ (Nat.mul 5 i))=some (slP i m)) :
  sRo.N=sRi.N∧∃ R k,R k sRi (hRi n p a b i 0 T P)∧yw Tryz.prog CM7 KM 4 21 (mX CM7 21 6) sRi.N R (.exit 2) sRo (hRo n (Fn.sumP (P i) m p) a b i T P):=by
 obtain ⟨f,hf⟩:=RZ hc
 refine ⟨rfl,fun j sp y=>sp=sRi∧∃ k,k≤m∧j=m-k+1∧y=hRi n (Fn.sumP (P i) k p) a b i k T P,m-0+1,⟨rfl,0,Nat.zero_le _,rfl,rfl⟩,⟨?_⟩⟩
 rintro j sp y ⟨rfl,k,hk,rfl,rfl⟩
 refine ⟨m-k,rfl,sRi,?_⟩
 have hr:=anX h20 n (Fn.sumP (P i) k p) a b k m f (T.drop (Nat.succ (Nat.mul 5 i)+1)) P
 unfold riR at hr
 rw [←hf] at hr
 by_cases hkm:k<m
 ·rw [amv hi hkm hm hT hP (BO hb k hkm).1] at hr
  exact ⟨_,rfl,hr,.inl ⟨rfl,rfl,k+1,by omega,by omega,rfl⟩⟩
 ·have:k=m:=by omega
  subst this
  rw [akf hi (Nat.le_refl _) hT hP] at hr
  exact ⟨_,rfl,hr,.inr ⟨(fun h=>by cases h),rfl⟩⟩
abbrev LT:=Tree (Ex × bZ × bC)
def ait (T:List Value)(Ps:List (List Value))(L:List Value)(n i m:Nat):Bool:=dF T&&(yG Ps&&(ltN i n&&(Nat.ble m 9223372036854775807&&Fn.ql L m)))
def gRi (o:bC):LT:=
 fO o.vals fun v l=>pSl 32 aA v fun n=>fO l fun v l=>MJ .u64 v fun p=>fO l fun v l=>aiv .i64 v fun a=>fO l fun v l=>aiv .i64 v fun b=>fO l fun v l=>MJ .i64 v fun i=>fO l fun v l=>MJ .i64 v fun k=>Yx l (
  QB (Nat.beq k 0&&ltN i 20) (pKr o.rows fun T Ps t=>Yx t (nT (nth T (Nat.succ (Nat.mul 5 i))) fun v=>pSl (Nat.add 33 i) aA v fun m=>fF (ait T Ps (jq Ps i) n i m) (.leaf (.exit 2,sRo,hRo n (Fn.sumP (jq Ps i) m p) a b i T (jq Ps))))))
theorem ZT:∀ o e spe O,(gRi o).run=some (e,spe,O)→spe.N=sRi.N∧∃ R k,R k sRi o∧yw Tryz.prog CM7 KM 4 21 (mX CM7 21 6) sRi.N R e spe O:=by
 rintro ⟨vals,rows⟩ e spe O h
 obtain ⟨v1,l1,hv,z1⟩:=aT h
 obtain ⟨n,e1,z2⟩:=mM z1
 obtain ⟨v2,l2,e2,z3⟩:=aT z2
 obtain ⟨p,e3,z4⟩:=eX z3
 obtain ⟨v3,l3,e4,z5⟩:=aT z4
 obtain ⟨a,e5,z6⟩:=A8 z5
 obtain ⟨v4,l4,e6,z7⟩:=aT z6
 obtain ⟨b,e7,z8⟩:=A8 z7
 obtain ⟨v5,l5,e8,z9⟩:=aT z8
 obtain ⟨i,e9,z10⟩:=eX z9
 obtain ⟨v6,l6,e10,z11⟩:=aT z10
 obtain ⟨k,e11,z12⟩:=eX z11
 obtain ⟨e12,z13⟩:=iQ z12
 obtain ⟨h1,z14⟩:=iT z13
 obtain ⟨T,Ps,t,hr,hl,z15⟩:=xg z14
 obtain ⟨e13,z16⟩:=iQ z15
 obtain ⟨v,hc,z17⟩:=dK z16
 obtain ⟨m,e14,z18⟩:=mM z17
 obtain ⟨hg,z19⟩:=bI z18
 simp only [Bool.and_eq_true] at h1
 have hk:=Nat.eq_of_beq_eq_true h1.1
 have h20:i<20:=Nat.le_of_ble_eq_true h1.2
 unfold ait at hg
 simp only [Bool.and_eq_true] at hg
 obtain ⟨g1,g2,g3,g4,g5⟩:=hg
 have g3:i<n:=Nat.le_of_ble_eq_true g3
 have g4:=Nat.le_of_ble_eq_true g4
 have hv:vals=_:=hv
 have hr:rows=_:=hr
 subst hk e14 e13 e12 e11 e10 e9 e8 e7 e6 e5 e4 e3 e2 e1
 rw [List.append_nil] at hr
 subst hv hr
 cases z19
 exact agO h20 g3 g4 g1 (jA g2) g5 hc
theorem kJ [Lo]{P:Program}{C:Cfg}{fn:FuncId}{body:Code}{F:BU}(pre:Fr→St→Bool)(h:xJ P C fn body F):xJ P C fn body fun fr s=>sel (pre fr s) (F fr s) .fail:=by
 intro fr s e fr' s' hF
 exact h fr s e fr' s' (bD hF).2
def al4 (n t:Nat)(fr:Fr)(k:Value→Bool):Bool:=Option.rec false (fun v=>k v) (fr.ev n (.tmp t))
def ae7 (v:Value):Bool:=
 match v with
 |.slice (some a) _ _=>Nat.ble 33 a.block&&Nat.ble a.block 52
 |_=>false
def am5 (v:Value):Nat:=
 match v with
 |.int _ z=>Int.rec (fun n=>n) (fun _=>0) z
 |_=>0
def aqp (n:Nat)(fr:Fr)(s:St):Bool:=al4 n 6 fr fun v=>Option.rec false (fun c:List Value × TypeId × Nat=>Option.rec false (fun v=>ae7 v) (nth c.1 (Nat.succ (Nat.mul 5 (am5 v))))) (s.cells 32)
variable [Lo]
def Wl:List (Nat × Nat × BU):=[(21,6,fun fr s=>sel (aqp (CB.vars 21) fr s) (vZ Tryz.prog (CB.vars 21) sRi gRi fr s) .fail)]
def CR1:Cfg:={ CB with ext:=dJ RH,insert:=dJ YZ,EK:=IB Wl }
theorem aiC:Nat.beq (aV (uI CM7 21 6)) 1=true:=by kernel_rfl
theorem abW:∀ fn c body,CR1.body fn=some c→PartOf c (.loop body)→nD Tryz.prog CR1 fn body:=by
 refine Fa (L:=Wl) rfl fun q hq=>?_
 rcases List.mem_cons.1 hq with rfl|hq
 ·exact fun c body h1 h2 h3=>kJ _ (kH (K:=KM) (C0:=CM7) (m:=4) (by show (6:Nat)≤_;decide) dI bQ VY rfl rfl aiC rfl ZT c body h1 h2 h3)
 ·cases hq
theorem alm:dH CR1 Tryz.prog:=MZ (ext:=dJ RH) (ins:=dJ YZ) (lf:=IB Wl) rfl (fun f t h=>(BH (C:=CR1)) f t h) vI abW
end
end Go.Ax
namespace Go.Ax
open Go Go.Proofs
noncomputable section
def pvF (c i m:Nat):Value:=pO c (.slice none 0 0) fun c=>pO c CQ fun _=>slP i m
def ovF (c x:Nat):Value:=pO c (.slice none 0 0) fun _=>.float .f64 x
def lnF (c x:Nat):Nat:=pO c 0 fun _=>x
def cells (c d e i m x y:Nat)(h:Int)(q:Value)(R:List Value):List Value:=iC h::pvF c i m::q::ovF d x::ovF e y::R
def tkT (c d e i m x y:Nat)(h:Int)(q:Value)(f:Nat→Value)(R:List Value):List Value:=gZ (Nat.mul 5 i) f (cells c d e i m x y h q R)
def oRe (n p:Nat)(a b:Int):bC:=⟨[Ko n,uN p,iC a,iC b],[]⟩
abbrev roR (c d e i n p:Nat)(a b:Int)(m x y:Nat)(h:Int)(q:Value)(f:Nat→Value)(R:List Value)(P:Nat→List Value):Option (Ex × bC):=
 pU KX.plain CR1 (runK KX CR1 4).1 (runK KX CR1 4).2 (CR1.vars 21) 21 false (mX CR1 21 3) (qM Tryz.prog (CR1.vars 21) sRo sRe)
  (Xv sRo.need (hRo n p a b i (tkT c d e i m x y h q f R) P)) (uT sRo.next (hRo n p a b i (tkT c d e i m x y h q f R) P))
def roI (c i n m p:Nat)(T:List Value)(P:Nat→List Value)(X:Nat→Option (Ex × bC)):Option (Ex × bC):=
 pO c (sel (ltN i n) (X p) none) fun c=>pO c (sel (ltN i n) (X p) none) fun _=>y7 T P (sel (ait T (psL P) (jq (psL P) i) n i m) (X (Fn.sumP (jq (psL P) i) m p)) none)
def roT (c d e i n p:Nat)(a b:Int)(m x y:Nat)(T:List Value)(P:Nat→List Value):Option (Ex × bC):=
 sel (ltI (Int.ofNat i) (Int.ofNat n)) (roI c i n m p T P fun p=>sel (ltN i n) (sel (ltN i n)
  (y7 T P (some (.normal,hRo n p (nS a (lnF d x)) (nS b (lnF e y)) (Nat.succ i) T P))) none) none) (some (.exit 0,oRe n p a b))
abbrev roE (c d e i n p:Nat)(a b:Int)(m x y:Nat)(h:Int)(q:Value)(f:Nat→Value)(R:List Value)(P:Nat→List Value):Prop:=roR c d e i n p a b m x y h q f R P=roT c d e i n p a b m x y (tkT c d e i m x y h q f R) P
theorem apM (n p:Nat)(a b:Int)(m x y:Nat)(h:Int)(q:Value)(f:Nat→Value)(R:List Value)(P:Nat→List Value):roE 0 0 0 0 n p a b m x y h q f R P∧roE 0 0 1 0 n p a b m x y h q f R P∧roE 0 1 0 0 n p a b m x y h q f R P∧roE 0 1 1 0 n p a b m x y h q f R P∧roE 1 0 0 0 n p a b m x y h q f R P∧roE 1 0 1 0 n p a b m x y h q f R P∧roE 1 1 0 0 n p a b m x y h q f R P∧roE 1 1 1 0 n p a b m x y h q f R P∧roE 2 0 0 0 n p a b m x y h q f R P∧roE 2 0 1 0 n p a b m x y h q f R P∧roE 2 1 0 0 n p a b m x y h q f R P∧roE 2 1 1 0 n p a b m x y h q f R P:=⟨(by unfold roE;kernel_rfl),(by unfold roE;kernel_rfl),(by unfold roE;kernel_rfl),(by unfold roE;kernel_rfl),(by unfold roE;kernel_rfl),(by unfold roE;kernel_rfl),(by unfold roE;kernel_rfl),(by unfold roE;kernel_rfl),(by unfold roE;kernel_rfl),(by unfold roE;kernel_rfl),(by unfold roE;kernel_rfl),(by unfold roE;kernel_rfl)⟩
theorem apH (n p:Nat)(a b:Int)(m x y:Nat)(h:Int)(q:Value)(f:Nat→Value)(R:List Value)(P:Nat→List Value):roE 0 0 0 1 n p a b m x y h q f R P∧roE 0 0 1 1 n p a b m x y h q f R P∧roE 0 1 0 1 n p a b m x y h q f R P∧roE 0 1 1 1 n p a b m x y h q f R P∧roE 1 0 0 1 n p a b m x y h q f R P∧roE 1 0 1 1 n p a b m x y h q f R P∧roE 1 1 0 1 n p a b m x y h q f R P∧roE 1 1 1 1 n p a b m x y h q f R P∧roE 2 0 0 1 n p a b m x y h q f R P∧roE 2 0 1 1 n p a b m x y h q f R P∧roE 2 1 0 1 n p a b m x y h q f R P∧roE 2 1 1 1 n p a b m x y h q f R P:=⟨(by unfold roE;kernel_rfl),(by unfold roE;kernel_rfl),(by unfold roE;kernel_rfl),(by unfold roE;kernel_rfl),(by unfold roE;kernel_rfl),(by unfold roE;kernel_rfl),(by unfold roE;kernel_rfl),(by unfold roE;kernel_rfl),(by unfold roE;kernel_rfl),(by unfold roE;kernel_rfl),(by unfold roE;kernel_rfl),(by unfold roE;kernel_rfl)⟩
theorem aqX (n p:Nat)(a b:Int)(m x y:Nat)(h:Int)(q:Value)(f:Nat→Value)(R:List Value)(P:Nat→List Value):roE 0 0 0 2 n p a b m x y h q f R P∧roE 0 0 1 2 n p a b m x y h q f R P∧roE 0 1 0 2 n p a b m x y h q f R P∧roE 0 1 1 2 n p a b m x y h q f R P∧roE 1 0 0 2 n p a b m x y h q f R P∧roE 1 0 1 2 n p a b m x y h q f R P∧roE 1 1 0 2 n p a b m x y h q f R P∧roE 1 1 1 2 n p a b m x y h q f R P∧roE 2 0 0 2 n p a b m x y h q f R P∧roE 2 0 1 2 n p a b m x y h q f R P∧roE 2 1 0 2 n p a b m x y h q f R P∧roE 2 1 1 2 n p a b m x y h q f R P:=⟨(by unfold roE;kernel_rfl),(by unfold roE;kernel_rfl),(by unfold roE;kernel_rfl),(by unfold roE;kernel_rfl),(by unfold roE;kernel_rfl),(by unfold roE;kernel_rfl),(by unfold roE;kernel_rfl),(by unfold roE;kernel_rfl),(by unfold roE;kernel_rfl),(by unfold roE;kernel_rfl),(by unfold roE;kernel_rfl),(by unfold roE;kernel_rfl)⟩
theorem apK (n p:Nat)(a b:Int)(m x y:Nat)(h:Int)(q:Value)(f:Nat→Value)(R:List Value)(P:Nat→List Value):roE 0 0 0 3 n p a b m x y h q f R P∧roE 0 0 1 3 n p a b m x y h q f R P∧roE 0 1 0 3 n p a b m x y h q f R P∧roE 0 1 1 3 n p a b m x y h q f R P∧roE 1 0 0 3 n p a b m x y h q f R P∧roE 1 0 1 3 n p a b m x y h q f R P∧roE 1 1 0 3 n p a b m x y h q f R P∧roE 1 1 1 3 n p a b m x y h q f R P∧roE 2 0 0 3 n p a b m x y h q f R P∧roE 2 0 1 3 n p a b m x y h q f R P∧roE 2 1 0 3 n p a b m x y h q f R P∧roE 2 1 1 3 n p a b m x y h q f R P:=⟨(by unfold roE;kernel_rfl),(by unfold roE;kernel_rfl),(by unfold roE;kernel_rfl),(by unfold roE;kernel_rfl),(by unfold roE;kernel_rfl),(by unfold roE;kernel_rfl),(by unfold roE;kernel_rfl),(by unfold roE;kernel_rfl),(by unfold roE;kernel_rfl),(by unfold roE;kernel_rfl),(by unfold roE;kernel_rfl),(by unfold roE;kernel_rfl)⟩
theorem aqB (n p:Nat)(a b:Int)(m x y:Nat)(h:Int)(q:Value)(f:Nat→Value)(R:List Value)(P:Nat→List Value):roE 0 0 0 4 n p a b m x y h q f R P∧roE 0 0 1 4 n p a b m x y h q f R P∧roE 0 1 0 4 n p a b m x y h q f R P∧roE 0 1 1 4 n p a b m x y h q f R P∧roE 1 0 0 4 n p a b m x y h q f R P∧roE 1 0 1 4 n p a b m x y h q f R P∧roE 1 1 0 4 n p a b m x y h q f R P∧roE 1 1 1 4 n p a b m x y h q f R P∧roE 2 0 0 4 n p a b m x y h q f R P∧roE 2 0 1 4 n p a b m x y h q f R P∧roE 2 1 0 4 n p a b m x y h q f R P∧roE 2 1 1 4 n p a b m x y h q f R P:=⟨(by unfold roE;kernel_rfl),(by unfold roE;kernel_rfl),(by unfold roE;kernel_rfl),(by unfold roE;kernel_rfl),(by unfold roE;kernel_rfl),(by unfold roE;kernel_rfl),(by unfold roE;kernel_rfl),(by unfold roE;kernel_rfl),(by unfold roE;kernel_rfl),(by unfold roE;kernel_rfl),(by unfold roE;kernel_rfl),(by unfold roE;kernel_rfl)⟩
theorem aqJ (n p:Nat)(a b:Int)(m x y:Nat)(h:Int)(q:Value)(f:Nat→Value)(R:List Value)(P:Nat→List Value):roE 0 0 0 5 n p a b m x y h q f R P∧roE 0 0 1 5 n p a b m x y h q f R P∧roE 0 1 0 5 n p a b m x y h q f R P∧roE 0 1 1 5 n p a b m x y h q f R P∧roE 1 0 0 5 n p a b m x y h q f R P∧roE 1 0 1 5 n p a b m x y h q f R P∧roE 1 1 0 5 n p a b m x y h q f R P∧roE 1 1 1 5 n p a b m x y h q f R P∧roE 2 0 0 5 n p a b m x y h q f R P∧roE 2 0 1 5 n p a b m x y h q f R P∧roE 2 1 0 5 n p a b m x y h q f R P∧roE 2 1 1 5 n p a b m x y h q f R P:=⟨(by unfold roE;kernel_rfl),(by unfold roE;kernel_rfl),(by unfold roE;kernel_rfl),(by unfold roE;kernel_rfl),(by unfold roE;kernel_rfl),(by unfold roE;kernel_rfl),(by unfold roE;kernel_rfl),(by unfold roE;kernel_rfl),(by unfold roE;kernel_rfl),(by unfold roE;kernel_rfl),(by unfold roE;kernel_rfl),(by unfold roE;kernel_rfl)⟩
theorem arf (n p:Nat)(a b:Int)(m x y:Nat)(h:Int)(q:Value)(f:Nat→Value)(R:List Value)(P:Nat→List Value):roE 0 0 0 6 n p a b m x y h q f R P∧roE 0 0 1 6 n p a b m x y h q f R P∧roE 0 1 0 6 n p a b m x y h q f R P∧roE 0 1 1 6 n p a b m x y h q f R P∧roE 1 0 0 6 n p a b m x y h q f R P∧roE 1 0 1 6 n p a b m x y h q f R P∧roE 1 1 0 6 n p a b m x y h q f R P∧roE 1 1 1 6 n p a b m x y h q f R P∧roE 2 0 0 6 n p a b m x y h q f R P∧roE 2 0 1 6 n p a b m x y h q f R P∧roE 2 1 0 6 n p a b m x y h q f R P∧roE 2 1 1 6 n p a b m x y h q f R P:=⟨(by unfold roE;kernel_rfl),(by unfold roE;kernel_rfl),(by unfold roE;kernel_rfl),(by unfold roE;kernel_rfl),(by unfold roE;kernel_rfl),(by unfold roE;kernel_rfl),(by unfold roE;kernel_rfl),(by unfold roE;kernel_rfl),(by unfold roE;kernel_rfl),(by unfold roE;kernel_rfl),(by unfold roE;kernel_rfl),(by unfold roE;kernel_rfl)⟩
theorem aqK (n p:Nat)(a b:Int)(m x y:Nat)(h:Int)(q:Value)(f:Nat→Value)(R:List Value)(P:Nat→List Value):roE 0 0 0 7 n p a b m x y h q f R P∧roE 0 0 1 7 n p a b m x y h q f R P∧roE 0 1 0 7 n p a b m x y h q f R P∧roE 0 1 1 7 n p a b m x y h q f R P∧roE 1 0 0 7 n p a b m x y h q f R P∧roE 1 0 1 7 n p a b m x y h q f R P∧roE 1 1 0 7 n p a b m x y h q f R P∧roE 1 1 1 7 n p a b m x y h q f R P∧roE 2 0 0 7 n p a b m x y h q f R P∧roE 2 0 1 7 n p a b m x y h q f R P∧roE 2 1 0 7 n p a b m x y h q f R P∧roE 2 1 1 7 n p a b m x y h q f R P:=⟨(by unfold roE;kernel_rfl),(by unfold roE;kernel_rfl),(by unfold roE;kernel_rfl),(by unfold roE;kernel_rfl),(by unfold roE;kernel_rfl),(by unfold roE;kernel_rfl),(by unfold roE;kernel_rfl),(by unfold roE;kernel_rfl),(by unfold roE;kernel_rfl),(by unfold roE;kernel_rfl),(by unfold roE;kernel_rfl),(by unfold roE;kernel_rfl)⟩
theorem aql (n p:Nat)(a b:Int)(m x y:Nat)(h:Int)(q:Value)(f:Nat→Value)(R:List Value)(P:Nat→List Value):roE 0 0 0 8 n p a b m x y h q f R P∧roE 0 0 1 8 n p a b m x y h q f R P∧roE 0 1 0 8 n p a b m x y h q f R P∧roE 0 1 1 8 n p a b m x y h q f R P∧roE 1 0 0 8 n p a b m x y h q f R P∧roE 1 0 1 8 n p a b m x y h q f R P∧roE 1 1 0 8 n p a b m x y h q f R P∧roE 1 1 1 8 n p a b m x y h q f R P∧roE 2 0 0 8 n p a b m x y h q f R P∧roE 2 0 1 8 n p a b m x y h q f R P∧roE 2 1 0 8 n p a b m x y h q f R P∧roE 2 1 1 8 n p a b m x y h q f R P:=⟨(by unfold roE;kernel_rfl),(by unfold roE;kernel_rfl),(by unfold roE;kernel_rfl),(by unfold roE;kernel_rfl),(by unfold roE;kernel_rfl),(by unfold roE;kernel_rfl),(by unfold roE;kernel_rfl),(by unfold roE;kernel_rfl),(by unfold roE;kernel_rfl),(by unfold roE;kernel_rfl),(by unfold roE;kernel_rfl),(by unfold roE;kernel_rfl)⟩
theorem aq6 (n p:Nat)(a b:Int)(m x y:Nat)(h:Int)(q:Value)(f:Nat→Value)(R:List Value)(P:Nat→List Value):roE 0 0 0 9 n p a b m x y h q f R P∧roE 0 0 1 9 n p a b m x y h q f R P∧roE 0 1 0 9 n p a b m x y h q f R P∧roE 0 1 1 9 n p a b m x y h q f R P∧roE 1 0 0 9 n p a b m x y h q f R P∧roE 1 0 1 9 n p a b m x y h q f R P∧roE 1 1 0 9 n p a b m x y h q f R P∧roE 1 1 1 9 n p a b m x y h q f R P∧roE 2 0 0 9 n p a b m x y h q f R P∧roE 2 0 1 9 n p a b m x y h q f R P∧roE 2 1 0 9 n p a b m x y h q f R P∧roE 2 1 1 9 n p a b m x y h q f R P:=⟨(by unfold roE;kernel_rfl),(by unfold roE;kernel_rfl),(by unfold roE;kernel_rfl),(by unfold roE;kernel_rfl),(by unfold roE;kernel_rfl),(by unfold roE;kernel_rfl),(by unfold roE;kernel_rfl),(by unfold roE;kernel_rfl),(by unfold roE;kernel_rfl),(by unfold roE;kernel_rfl),(by unfold roE;kernel_rfl),(by unfold roE;kernel_rfl)⟩
theorem aoh (n p:Nat)(a b:Int)(m x y:Nat)(h:Int)(q:Value)(f:Nat→Value)(R:List Value)(P:Nat→List Value):roE 0 0 0 10 n p a b m x y h q f R P∧roE 0 0 1 10 n p a b m x y h q f R P∧roE 0 1 0 10 n p a b m x y h q f R P∧roE 0 1 1 10 n p a b m x y h q f R P∧roE 1 0 0 10 n p a b m x y h q f R P∧roE 1 0 1 10 n p a b m x y h q f R P∧roE 1 1 0 10 n p a b m x y h q f R P∧roE 1 1 1 10 n p a b m x y h q f R P∧roE 2 0 0 10 n p a b m x y h q f R P∧roE 2 0 1 10 n p a b m x y h q f R P∧roE 2 1 0 10 n p a b m x y h q f R P∧roE 2 1 1 10 n p a b m x y h q f R P:=⟨(by unfold roE;kernel_rfl),(by unfold roE;kernel_rfl),(by unfold roE;kernel_rfl),(by unfold roE;kernel_rfl),(by unfold roE;kernel_rfl),(by unfold roE;kernel_rfl),(by unfold roE;kernel_rfl),(by unfold roE;kernel_rfl),(by unfold roE;kernel_rfl),(by unfold roE;kernel_rfl),(by unfold roE;kernel_rfl),(by unfold roE;kernel_rfl)⟩
theorem anl (n p:Nat)(a b:Int)(m x y:Nat)(h:Int)(q:Value)(f:Nat→Value)(R:List Value)(P:Nat→List Value):roE 0 0 0 11 n p a b m x y h q f R P∧roE 0 0 1 11 n p a b m x y h q f R P∧roE 0 1 0 11 n p a b m x y h q f R P∧roE 0 1 1 11 n p a b m x y h q f R P∧roE 1 0 0 11 n p a b m x y h q f R P∧roE 1 0 1 11 n p a b m x y h q f R P∧roE 1 1 0 11 n p a b m x y h q f R P∧roE 1 1 1 11 n p a b m x y h q f R P∧roE 2 0 0 11 n p a b m x y h q f R P∧roE 2 0 1 11 n p a b m x y h q f R P∧roE 2 1 0 11 n p a b m x y h q f R P∧roE 2 1 1 11 n p a b m x y h q f R P:=⟨(by unfold roE;kernel_rfl),(by unfold roE;kernel_rfl),(by unfold roE;kernel_rfl),(by unfold roE;kernel_rfl),(by unfold roE;kernel_rfl),(by unfold roE;kernel_rfl),(by unfold roE;kernel_rfl),(by unfold roE;kernel_rfl),(by unfold roE;kernel_rfl),(by unfold roE;kernel_rfl),(by unfold roE;kernel_rfl),(by unfold roE;kernel_rfl)⟩
theorem anc (n p:Nat)(a b:Int)(m x y:Nat)(h:Int)(q:Value)(f:Nat→Value)(R:List Value)(P:Nat→List Value):roE 0 0 0 12 n p a b m x y h q f R P∧roE 0 0 1 12 n p a b m x y h q f R P∧roE 0 1 0 12 n p a b m x y h q f R P∧roE 0 1 1 12 n p a b m x y h q f R P∧roE 1 0 0 12 n p a b m x y h q f R P∧roE 1 0 1 12 n p a b m x y h q f R P∧roE 1 1 0 12 n p a b m x y h q f R P∧roE 1 1 1 12 n p a b m x y h q f R P∧roE 2 0 0 12 n p a b m x y h q f R P∧roE 2 0 1 12 n p a b m x y h q f R P∧roE 2 1 0 12 n p a b m x y h q f R P∧roE 2 1 1 12 n p a b m x y h q f R P:=⟨(by unfold roE;kernel_rfl),(by unfold roE;kernel_rfl),(by unfold roE;kernel_rfl),(by unfold roE;kernel_rfl),(by unfold roE;kernel_rfl),(by unfold roE;kernel_rfl),(by unfold roE;kernel_rfl),(by unfold roE;kernel_rfl),(by unfold roE;kernel_rfl),(by unfold roE;kernel_rfl),(by unfold roE;kernel_rfl),(by unfold roE;kernel_rfl)⟩
theorem aoI (n p:Nat)(a b:Int)(m x y:Nat)(h:Int)(q:Value)(f:Nat→Value)(R:List Value)(P:Nat→List Value):roE 0 0 0 13 n p a b m x y h q f R P∧roE 0 0 1 13 n p a b m x y h q f R P∧roE 0 1 0 13 n p a b m x y h q f R P∧roE 0 1 1 13 n p a b m x y h q f R P∧roE 1 0 0 13 n p a b m x y h q f R P∧roE 1 0 1 13 n p a b m x y h q f R P∧roE 1 1 0 13 n p a b m x y h q f R P∧roE 1 1 1 13 n p a b m x y h q f R P∧roE 2 0 0 13 n p a b m x y h q f R P∧roE 2 0 1 13 n p a b m x y h q f R P∧roE 2 1 0 13 n p a b m x y h q f R P∧roE 2 1 1 13 n p a b m x y h q f R P:=⟨(by unfold roE;kernel_rfl),(by unfold roE;kernel_rfl),(by unfold roE;kernel_rfl),(by unfold roE;kernel_rfl),(by unfold roE;kernel_rfl),(by unfold roE;kernel_rfl),(by unfold roE;kernel_rfl),(by unfold roE;kernel_rfl),(by unfold roE;kernel_rfl),(by unfold roE;kernel_rfl),(by unfold roE;kernel_rfl),(by unfold roE;kernel_rfl)⟩
theorem anu (n p:Nat)(a b:Int)(m x y:Nat)(h:Int)(q:Value)(f:Nat→Value)(R:List Value)(P:Nat→List Value):roE 0 0 0 14 n p a b m x y h q f R P∧roE 0 0 1 14 n p a b m x y h q f R P∧roE 0 1 0 14 n p a b m x y h q f R P∧roE 0 1 1 14 n p a b m x y h q f R P∧roE 1 0 0 14 n p a b m x y h q f R P∧roE 1 0 1 14 n p a b m x y h q f R P∧roE 1 1 0 14 n p a b m x y h q f R P∧roE 1 1 1 14 n p a b m x y h q f R P∧roE 2 0 0 14 n p a b m x y h q f R P∧roE 2 0 1 14 n p a b m x y h q f R P∧roE 2 1 0 14 n p a b m x y h q f R P∧roE 2 1 1 14 n p a b m x y h q f R P:=⟨(by unfold roE;kernel_rfl),(by unfold roE;kernel_rfl),(by unfold roE;kernel_rfl),(by unfold roE;kernel_rfl),(by unfold roE;kernel_rfl),(by unfold roE;kernel_rfl),(by unfold roE;kernel_rfl),(by unfold roE;kernel_rfl),(by unfold roE;kernel_rfl),(by unfold roE;kernel_rfl),(by unfold roE;kernel_rfl),(by unfold roE;kernel_rfl)⟩
theorem aoE (n p:Nat)(a b:Int)(m x y:Nat)(h:Int)(q:Value)(f:Nat→Value)(R:List Value)(P:Nat→List Value):roE 0 0 0 15 n p a b m x y h q f R P∧roE 0 0 1 15 n p a b m x y h q f R P∧roE 0 1 0 15 n p a b m x y h q f R P∧roE 0 1 1 15 n p a b m x y h q f R P∧roE 1 0 0 15 n p a b m x y h q f R P∧roE 1 0 1 15 n p a b m x y h q f R P∧roE 1 1 0 15 n p a b m x y h q f R P∧roE 1 1 1 15 n p a b m x y h q f R P∧roE 2 0 0 15 n p a b m x y h q f R P∧roE 2 0 1 15 n p a b m x y h q f R P∧roE 2 1 0 15 n p a b m x y h q f R P∧roE 2 1 1 15 n p a b m x y h q f R P:=⟨(by unfold roE;kernel_rfl),(by unfold roE;kernel_rfl),(by unfold roE;kernel_rfl),(by unfold roE;kernel_rfl),(by unfold roE;kernel_rfl),(by unfold roE;kernel_rfl),(by unfold roE;kernel_rfl),(by unfold roE;kernel_rfl),(by unfold roE;kernel_rfl),(by unfold roE;kernel_rfl),(by unfold roE;kernel_rfl),(by unfold roE;kernel_rfl)⟩
theorem anO (n p:Nat)(a b:Int)(m x y:Nat)(h:Int)(q:Value)(f:Nat→Value)(R:List Value)(P:Nat→List Value):roE 0 0 0 16 n p a b m x y h q f R P∧roE 0 0 1 16 n p a b m x y h q f R P∧roE 0 1 0 16 n p a b m x y h q f R P∧roE 0 1 1 16 n p a b m x y h q f R P∧roE 1 0 0 16 n p a b m x y h q f R P∧roE 1 0 1 16 n p a b m x y h q f R P∧roE 1 1 0 16 n p a b m x y h q f R P∧roE 1 1 1 16 n p a b m x y h q f R P∧roE 2 0 0 16 n p a b m x y h q f R P∧roE 2 0 1 16 n p a b m x y h q f R P∧roE 2 1 0 16 n p a b m x y h q f R P∧roE 2 1 1 16 n p a b m x y h q f R P:=⟨(by unfold roE;kernel_rfl),(by unfold roE;kernel_rfl),(by unfold roE;kernel_rfl),(by unfold roE;kernel_rfl),(by unfold roE;kernel_rfl),(by unfold roE;kernel_rfl),(by unfold roE;kernel_rfl),(by unfold roE;kernel_rfl),(by unfold roE;kernel_rfl),(by unfold roE;kernel_rfl),(by unfold roE;kernel_rfl),(by unfold roE;kernel_rfl)⟩
theorem anA (n p:Nat)(a b:Int)(m x y:Nat)(h:Int)(q:Value)(f:Nat→Value)(R:List Value)(P:Nat→List Value):roE 0 0 0 17 n p a b m x y h q f R P∧roE 0 0 1 17 n p a b m x y h q f R P∧roE 0 1 0 17 n p a b m x y h q f R P∧roE 0 1 1 17 n p a b m x y h q f R P∧roE 1 0 0 17 n p a b m x y h q f R P∧roE 1 0 1 17 n p a b m x y h q f R P∧roE 1 1 0 17 n p a b m x y h q f R P∧roE 1 1 1 17 n p a b m x y h q f R P∧roE 2 0 0 17 n p a b m x y h q f R P∧roE 2 0 1 17 n p a b m x y h q f R P∧roE 2 1 0 17 n p a b m x y h q f R P∧roE 2 1 1 17 n p a b m x y h q f R P:=⟨(by unfold roE;kernel_rfl),(by unfold roE;kernel_rfl),(by unfold roE;kernel_rfl),(by unfold roE;kernel_rfl),(by unfold roE;kernel_rfl),(by unfold roE;kernel_rfl),(by unfold roE;kernel_rfl),(by unfold roE;kernel_rfl),(by unfold roE;kernel_rfl),(by unfold roE;kernel_rfl),(by unfold roE;kernel_rfl),(by unfold roE;kernel_rfl)⟩
theorem ana (n p:Nat)(a b:Int)(m x y:Nat)(h:Int)(q:Value)(f:Nat→Value)(R:List Value)(P:Nat→List Value):roE 0 0 0 18 n p a b m x y h q f R P∧roE 0 0 1 18 n p a b m x y h q f R P∧roE 0 1 0 18 n p a b m x y h q f R P∧roE 0 1 1 18 n p a b m x y h q f R P∧roE 1 0 0 18 n p a b m x y h q f R P∧roE 1 0 1 18 n p a b m x y h q f R P∧roE 1 1 0 18 n p a b m x y h q f R P∧roE 1 1 1 18 n p a b m x y h q f R P∧roE 2 0 0 18 n p a b m x y h q f R P∧roE 2 0 1 18 n p a b m x y h q f R P∧roE 2 1 0 18 n p a b m x y h q f R P∧roE 2 1 1 18 n p a b m x y h q f R P:=⟨(by unfold roE;kernel_rfl),(by unfold roE;kernel_rfl),(by unfold roE;kernel_rfl),(by unfold roE;kernel_rfl),(by unfold roE;kernel_rfl),(by unfold roE;kernel_rfl),(by unfold roE;kernel_rfl),(by unfold roE;kernel_rfl),(by unfold roE;kernel_rfl),(by unfold roE;kernel_rfl),(by unfold roE;kernel_rfl),(by unfold roE;kernel_rfl)⟩
theorem amZ (n p:Nat)(a b:Int)(m x y:Nat)(h:Int)(q:Value)(f:Nat→Value)(R:List Value)(P:Nat→List Value):roE 0 0 0 19 n p a b m x y h q f R P∧roE 0 0 1 19 n p a b m x y h q f R P∧roE 0 1 0 19 n p a b m x y h q f R P∧roE 0 1 1 19 n p a b m x y h q f R P∧roE 1 0 0 19 n p a b m x y h q f R P∧roE 1 0 1 19 n p a b m x y h q f R P∧roE 1 1 0 19 n p a b m x y h q f R P∧roE 1 1 1 19 n p a b m x y h q f R P∧roE 2 0 0 19 n p a b m x y h q f R P∧roE 2 0 1 19 n p a b m x y h q f R P∧roE 2 1 0 19 n p a b m x y h q f R P∧roE 2 1 1 19 n p a b m x y h q f R P:=⟨(by unfold roE;kernel_rfl),(by unfold roE;kernel_rfl),(by unfold roE;kernel_rfl),(by unfold roE;kernel_rfl),(by unfold roE;kernel_rfl),(by unfold roE;kernel_rfl),(by unfold roE;kernel_rfl),(by unfold roE;kernel_rfl),(by unfold roE;kernel_rfl),(by unfold roE;kernel_rfl),(by unfold roE;kernel_rfl),(by unfold roE;kernel_rfl)⟩
def aip (i:Nat)(L:List Value)(v:Value):Bool:=
 match v with
 |.slice none n c=>Nat.beq n 0&&Nat.beq c 0
 |.slice (some a) n c=>a.spot.isNone&&(Nat.beq a.off 0&&(Nat.beq c aA&&sel (Nat.beq a.block 63) (Nat.beq n 0) (Nat.beq a.block (Nat.add 33 i)&&(Nat.ble n 9223372036854775807&&Fn.ql L n))))
 |_=>false
def Y1 (v:Value):Bool:=
 match v with
 |.slice none n c=>Nat.beq n 0&&Nat.beq c 0
 |.float k _=>BF k
 |_=>false
def al1 (v:Value):Bool:=
 match v with
 |.int k _=>dU k .i64
 |_=>false
def Gi (L:List Value)(p:Nat)(v:Value):Nat:=
 match v with
 |.slice (some a) n _=>sel (Nat.beq a.block 63) p (Fn.sumP L n p)
 |_=>p
def acH (v:Value):Nat:=
 match v with
 |.float _ x=>x
 |_=>0
def Uc (T:List Value)(j:Nat):Value:=Option.rec (.slice none 0 0) (fun v=>v) (nth T j)
def okO (v:Option Value)(g:Value→Bool):Bool:=Option.rec false (fun v=>g v) v
def okC (T:List Value)(L:List Value)(i:Nat):Bool:=
 okO (nth T (5*i)) al1&&(okO (nth T (5*i+1)) (aip i L)&&(okO (nth T (5*i+2)) Y1&&(okO (nth T (5*i+3)) Y1&&okO (nth T (5*i+4)) Y1)))
namespace Fn
def tkP (T:List Value)(Ps:List (List Value))(n:Nat):Nat:=Nat.rec 0 (fun i p=>Gi (jq Ps i) p (Uc T (5*i+1))) n
def tkA (T:List Value)(n:Nat):Int:=Nat.rec 0 (fun i a=>nS a (acH (Uc T (5*i+3)))) n
def tkB (T:List Value)(n:Nat):Int:=Nat.rec 0 (fun i a=>nS a (acH (Uc T (5*i+4)))) n
def aj1 (T:List Value)(Ps:List (List Value))(n:Nat):Bool:=Nat.rec true (fun i r=>sel (okC T (jq Ps i) i) r false) n
def Sr (T:List Value)(Ps:List (List Value))(n:Nat):Bool:=dF T&&(yG Ps&&(Nat.ble 1 n&&(Nat.ble n 20&&aj1 T Ps n)))
end Fn
theorem ZL {i:Nat}{L:List Value}{v:Value}(h:aip i L v=true):∃ c m,c<3∧v=pvF c i m∧(c=2→m≤9223372036854775807∧Fn.ql L m=true)∧∀ p,Gi L p v=if c=2 then Fn.sumP L m p else p:=by
 unfold aip at h
 split at h
 ·rename_i n c
  simp only [Bool.and_eq_true] at h
  have h1:n=0:=Nat.eq_of_beq_eq_true h.1
  have h2:c=0:=Nat.eq_of_beq_eq_true h.2
  subst h1 h2
  exact ⟨0,0,by omega,rfl,fun h=>by omega,fun p=>rfl⟩
 ·rename_i a n c
  obtain ⟨b,o,sp⟩:=a
  simp only [Bool.and_eq_true] at h
  obtain ⟨h1,h2,h3,h4⟩:=h
  have h2:o=0:=Nat.eq_of_beq_eq_true h2
  have h3:c=aA:=Nat.eq_of_beq_eq_true h3
  cases sp with
  |some x=>cases h1
  |none=>
   subst h2 h3
   by_cases hb:b=63
   ·subst hb
    have h5:n=0:=Nat.eq_of_beq_eq_true (show Nat.beq n 0=true from h4)
    subst h5
    exact ⟨1,0,by omega,rfl,fun h=>by omega,fun p=>rfl⟩
   ·have hb':Nat.beq b 63=false:=by rw [←Bool.not_eq_true];exact fun e=>hb (Nat.eq_of_beq_eq_true e)
    rw [hb',aF] at h4
    simp only [Bool.and_eq_true] at h4
    obtain ⟨h5,h6,h7⟩:=h4
    have h5:b=Nat.add 33 i:=Nat.eq_of_beq_eq_true h5
    refine ⟨2,n,by omega,by rw [h5];rfl,fun _=>⟨Nat.le_of_ble_eq_true h6,h7⟩,fun p=>?_⟩
    show sel (Nat.beq b 63) p (Fn.sumP L n p)=_
    rw [hb',aF,if_pos rfl]
 ·cases h
theorem I8 {v:Value}(h:Y1 v=true):∃ d x,d<2∧v=ovF d x∧acH v=lnF d x:=by
 unfold Y1 at h
 split at h
 ·rename_i n c
  simp only [Bool.and_eq_true] at h
  have h1:n=0:=Nat.eq_of_beq_eq_true h.1
  have h2:c=0:=Nat.eq_of_beq_eq_true h.2
  subst h1 h2
  exact ⟨0,0,by omega,rfl,rfl⟩
 ·rename_i k x
  cases k with
  |f64=>exact ⟨1,x,by omega,rfl,rfl⟩
  |f32=>cases h
 ·cases h
theorem zV {v:Option Value}{g:Value→Bool}(h:okO v g=true):∃ w,v=some w∧g w=true:=by
 cases v with
 |none=>cases h
 |some w=>exact ⟨w,rfl,h⟩
theorem Fj {T:List Value}{k:Nat}{v:Value}(h:nth T k=some v):T.drop k=v::T.drop (k+1):=by
 rw [dY] at h
 obtain ⟨hk,hv⟩:=List.getElem?_eq_some_iff.1 h
 rw [List.drop_eq_getElem_cons hk,hv]
theorem Il {T:List Value}{k:Nat}{v:Value}(h:nth T k=some v):Uc T k=v:=by unfold Uc;rw [h]
theorem WE {T L:List Value}{i:Nat}(h:okC T L i=true):∃ c d e m x y hh q f R,c<3∧d<2∧e<2∧T=tkT c d e i m x y hh q f R∧(∃ g z,g<2∧q=ovF g z)∧(c=2→m≤9223372036854775807∧Fn.ql L m=true∧nth T (Nat.succ (Nat.mul 5 i))=some (slP i m))∧
  (∀ p,Gi L p (Uc T (5*i+1))=if c=2 then Fn.sumP L m p else p)∧acH (Uc T (5*i+3))=lnF d x∧acH (Uc T (5*i+4))=lnF e y:=by
 unfold okC at h
 simp only [Bool.and_eq_true] at h
 obtain ⟨h0,h1,h2,h3,h4⟩:=h
 obtain ⟨v0,e0,g0⟩:=zV h0
 obtain ⟨v1,e1,g1⟩:=zV h1
 obtain ⟨v2,e2,g2⟩:=zV h2
 obtain ⟨g,z,hg,hv2,_⟩:=I8 g2
 obtain ⟨v3,e3,g3⟩:=zV h3
 obtain ⟨v4,e4,g4⟩:=zV h4
 obtain ⟨c,m,hc,hv1,hm,hp⟩:=ZL g1
 obtain ⟨d,x,hd,hv3,hl3⟩:=I8 g3
 obtain ⟨e,y,he,hv4,hl4⟩:=I8 g4
 obtain ⟨hh,hv0⟩:∃ hh,v0=iC hh:=by
  unfold al1 at g0
  split at g0
  ·rename_i k z
   have:=jk g0
   subst this
   exact ⟨z,rfl⟩
  ·cases g0
 obtain ⟨f,hf⟩:=RZ e0
 refine ⟨c,d,e,m,x,y,hh,v2,f,T.drop (5*i+5),hc,hd,he,?_,⟨g,z,hg,hv2⟩,fun h=>?_,fun p=>?_,?_,?_⟩
 ·have e5:T.drop (5*i+1)=v1::v2::v3::v4::T.drop (5*i+5):=by rw [Fj e1,Fj e2,Fj e3,Fj e4]
  rw [e5,hv0,hv1,hv3,hv4] at hf
  exact hf
 ·obtain ⟨a1,a2⟩:=hm h
  refine ⟨a1,a2,?_⟩
  show nth T (5*i+1)=_
  rw [e1,hv1,h]
  rfl
 ·rw [Il e1];exact hp p
 ·rw [Il e3];exact hl3
 ·rw [Il e4];exact hl4
theorem uD:∀ {Ps:List (List Value)},Ps.length=20→psL (jq Ps)=Ps
 |[a0,a1,a2,a3,a4,a5,a6,a7,a8,a9,a10,a11,a12,a13,a14,a15,a16,a17,a18,a19],_=>rfl
theorem ant {c d e i n p:Nat}{a b:Int}{m x y:Nat}{T:List Value}{Ps:List (List Value)}(hl:Ps.length=20)(hc:c<3)(hi:i<n)(hT:dF T=true)(hP:yG Ps=true)(h2:c=2→m≤9223372036854775807∧Fn.ql (jq Ps i) m=true) :
  roT c d e i n p a b m x y T (jq Ps)=some (.normal,hRo n (if c=2 then Fn.sumP (jq Ps i) m p else p) (nS a (lnF d x)) (nS b (lnF e y)) (i+1) T (jq Ps)):=by
 have hP':=jA hP
 have hX:∀ q,sel (ltN i n) (sel (ltN i n)
  (y7 T (jq Ps) (some (Ex.normal,hRo n q (nS a (lnF d x)) (nS b (lnF e y)) (Nat.succ i) T (jq Ps)))) none) none=some (.normal,hRo n q (nS a (lnF d x)) (nS b (lnF e y)) (i+1) T (jq Ps)):=fun q=>by
  rw [jD hi,lg hT hP']
  rfl
 unfold roT
 rw [qV,decide_eq_true hi,aH]
 match c,hc with
 |0,_=>
  show sel (ltN i n) _ none=_
  rw [jD hi,aH,if_neg (by omega)]
  rw [←jD hi]
  exact hX p
 |1,_=>
  show sel (ltN i n) _ none=_
  rw [jD hi,aH,if_neg (by omega)]
  rw [←jD hi]
  exact hX p
 |2,_=>
  obtain ⟨h3,h4⟩:=h2 rfl
  have hg:ait T (psL (jq Ps)) (jq (psL (jq Ps)) i) n i m=true:=by
   rw [uD hl]
   unfold ait
   rw [hT,hP,jD hi,rH h3,h4]
   rfl
  show y7 T (jq Ps) (sel (ait T (psL (jq Ps)) (jq (psL (jq Ps)) i) n i m) _ none)=_
  rw [lg hT hP',hg,aH,if_pos rfl,uD hl]
  exact hX _
 |c+3,h=>omega
theorem VW {T:List Value}{Ps:List (List Value)}:∀ {n:Nat},Fn.aj1 T Ps n=true→∀ i,i<n→okC T (jq Ps i) i=true
 |0,_,i,h=>by omega
 |n+1,h,i,hi=>by
  obtain ⟨h1,h2⟩:=bM (show sel (okC T (jq Ps n) n) (Fn.aj1 T Ps n) false=true from h)
  by_cases e:i=n
  ·subst e;exact h1
  ·exact VW h2 i (by omega)
theorem wS {T:List Value}{Ps:List (List Value)}{n:Nat}(h:Fn.Sr T Ps n=true):dF T=true∧yG Ps=true∧1≤n∧n≤20∧∀ i,i<n→okC T (jq Ps i) i=true:=by
 unfold Fn.Sr at h
 simp only [Bool.and_eq_true] at h
 obtain ⟨h1,h2,h3,h4,h5⟩:=h
 exact ⟨h1,h2,Nat.le_of_ble_eq_true h3,Nat.le_of_ble_eq_true h4,VW h5⟩
theorem aaj (T:List Value):∀ n,okI (Fn.tkA T n)=true
 |0=>rfl
 |n+1=>VO _ _
theorem abq (T:List Value):∀ n,okI (Fn.tkB T n)=true
 |0=>rfl
 |n+1=>VO _ _
abbrev reR (i p:Nat)(a b:Int)(T:List Value)(P:Nat→List Value):Option (Ex × bC):=
 pU KX.plain CR1 (runK KX CR1 4).1 (runK KX CR1 4).2 (CR1.vars 21) 21 false (mX CR1 21 3) (qM Tryz.prog (CR1.vars 21) sRo sRe)
  (Xv sRo.need (hRo i p a b i T P)) (uT sRo.next (hRo i p a b i T P))
theorem aiG (p:Nat)(a b:Int)(T:List Value)(P:Nat→List Value):reR 1 p a b T P=some (.exit 0,oRe 1 p a b)∧reR 2 p a b T P=some (.exit 0,oRe 2 p a b)∧reR 3 p a b T P=some (.exit 0,oRe 3 p a b)∧reR 4 p a b T P=some (.exit 0,oRe 4 p a b)∧reR 5 p a b T P=some (.exit 0,oRe 5 p a b)∧reR 6 p a b T P=some (.exit 0,oRe 6 p a b)∧reR 7 p a b T P=some (.exit 0,oRe 7 p a b)∧reR 8 p a b T P=some (.exit 0,oRe 8 p a b)∧reR 9 p a b T P=some (.exit 0,oRe 9 p a b)∧reR 10 p a b T P=some (.exit 0,oRe 10 p a b)∧reR 11 p a b T P=some (.exit 0,oRe 11 p a b)∧reR 12 p a b T P=some (.exit 0,oRe 12 p a b)∧reR 13 p a b T P=some (.exit 0,oRe 13 p a b)∧reR 14 p a b T P=some (.exit 0,oRe 14 p a b)∧reR 15 p a b T P=some (.exit 0,oRe 15 p a b)∧reR 16 p a b T P=some (.exit 0,oRe 16 p a b)∧reR 17 p a b T P=some (.exit 0,oRe 17 p a b)∧reR 18 p a b T P=some (.exit 0,oRe 18 p a b)∧reR 19 p a b T P=some (.exit 0,oRe 19 p a b)∧reR 20 p a b T P=some (.exit 0,oRe 20 p a b):=⟨by kernel_rfl,by kernel_rfl,by kernel_rfl,by kernel_rfl,by kernel_rfl,by kernel_rfl,by kernel_rfl,by kernel_rfl,by kernel_rfl,by kernel_rfl,by kernel_rfl,by kernel_rfl,by kernel_rfl,by kernel_rfl,by kernel_rfl,by kernel_rfl,by kernel_rfl,by kernel_rfl,by kernel_rfl,by kernel_rfl⟩
theorem aoY {i:Nat}(h1:1≤i)(h20:i≤20)(p:Nat)(a b:Int)(T:List Value)(P:Nat→List Value):reR i p a b T P=some (.exit 0,oRe i p a b):=by
 obtain ⟨q1,q2,q3,q4,q5,q6,q7,q8,q9,q10,q11,q12,q13,q14,q15,q16,q17,q18,q19,q20⟩:=aiG p a b T P
 match i,h1,h20 with
 |1,_,_=>exact q1
 |2,_,_=>exact q2
 |3,_,_=>exact q3
 |4,_,_=>exact q4
 |5,_,_=>exact q5
 |6,_,_=>exact q6
 |7,_,_=>exact q7
 |8,_,_=>exact q8
 |9,_,_=>exact q9
 |10,_,_=>exact q10
 |11,_,_=>exact q11
 |12,_,_=>exact q12
 |13,_,_=>exact q13
 |14,_,_=>exact q14
 |15,_,_=>exact q15
 |16,_,_=>exact q16
 |17,_,_=>exact q17
 |18,_,_=>exact q18
 |19,_,_=>exact q19
 |20,_,_=>exact q20
 |i+21,_,h=>omega
def akR (v:Value):Bool:=
 match v with
 |.slice (some a) _ _=>Nat.beq a.block 32
 |_=>false
def hTk (n i:Nat)(T:List Value)(Ps:List (List Value)):bC:=hRo n (Fn.tkP T Ps i) (Fn.tkA T i) (Fn.tkB T i) i T (jq Ps)
theorem amE {i:Nat}(h20:i<20){c d e:Nat}(hc:c<3)(hd:d<2)(he:e<2)(n p:Nat)(a b:Int)(m x y:Nat)(h:Int)(q:Value)(f:Nat→Value)(R:List Value)(P:Nat→List Value):roE c d e i n p a b m x y h q f R P:=by
 match i,h20 with
 |0,_=>obtain ⟨iO,iq,iP,iL,iM,iw,iE,iF,iH,iD,iJ,iK⟩:=apM n p a b m x y h q f R P;match c,d,e,hc,hd,he with
  |0,0,0,_,_,_=>exact iO
  |0,0,1,_,_,_=>exact iq
  |0,1,0,_,_,_=>exact iP
  |0,1,1,_,_,_=>exact iL
  |1,0,0,_,_,_=>exact iM
  |1,0,1,_,_,_=>exact iw
  |1,1,0,_,_,_=>exact iE
  |1,1,1,_,_,_=>exact iF
  |2,0,0,_,_,_=>exact iH
  |2,0,1,_,_,_=>exact iD
  |2,1,0,_,_,_=>exact iJ
  |2,1,1,_,_,_=>exact iK
  |c+3,_,_,h,_,_=>omega
  |0,d+2,_,_,h,_|1,d+2,_,_,h,_|2,d+2,_,_,h,_=>omega
  |0,0,e+2,_,_,h|0,1,e+2,_,_,h|1,0,e+2,_,_,h|1,1,e+2,_,_,h|2,0,e+2,_,_,h|2,1,e+2,_,_,h=>omega
 |1,_=>obtain ⟨iO,iq,iP,iL,iM,iw,iE,iF,iH,iD,iJ,iK⟩:=apH n p a b m x y h q f R P;match c,d,e,hc,hd,he with
  |0,0,0,_,_,_=>exact iO
  |0,0,1,_,_,_=>exact iq
  |0,1,0,_,_,_=>exact iP
  |0,1,1,_,_,_=>exact iL
  |1,0,0,_,_,_=>exact iM
  |1,0,1,_,_,_=>exact iw
  |1,1,0,_,_,_=>exact iE
  |1,1,1,_,_,_=>exact iF
  |2,0,0,_,_,_=>exact iH
  |2,0,1,_,_,_=>exact iD
  |2,1,0,_,_,_=>exact iJ
  |2,1,1,_,_,_=>exact iK
  |c+3,_,_,h,_,_=>omega
  |0,d+2,_,_,h,_|1,d+2,_,_,h,_|2,d+2,_,_,h,_=>omega
  |0,0,e+2,_,_,h|0,1,e+2,_,_,h|1,0,e+2,_,_,h|1,1,e+2,_,_,h|2,0,e+2,_,_,h|2,1,e+2,_,_,h=>omega
 |2,_=>obtain ⟨iO,iq,iP,iL,iM,iw,iE,iF,iH,iD,iJ,iK⟩:=aqX n p a b m x y h q f R P;match c,d,e,hc,hd,he with
  |0,0,0,_,_,_=>exact iO
  |0,0,1,_,_,_=>exact iq
  |0,1,0,_,_,_=>exact iP
  |0,1,1,_,_,_=>exact iL
  |1,0,0,_,_,_=>exact iM
  |1,0,1,_,_,_=>exact iw
  |1,1,0,_,_,_=>exact iE
  |1,1,1,_,_,_=>exact iF
  |2,0,0,_,_,_=>exact iH
  |2,0,1,_,_,_=>exact iD
  |2,1,0,_,_,_=>exact iJ
  |2,1,1,_,_,_=>exact iK
  |c+3,_,_,h,_,_=>omega
  |0,d+2,_,_,h,_|1,d+2,_,_,h,_|2,d+2,_,_,h,_=>omega
  |0,0,e+2,_,_,h|0,1,e+2,_,_,h|1,0,e+2,_,_,h|1,1,e+2,_,_,h|2,0,e+2,_,_,h|2,1,e+2,_,_,h=>omega
 |3,_=>obtain ⟨iO,iq,iP,iL,iM,iw,iE,iF,iH,iD,iJ,iK⟩:=apK n p a b m x y h q f R P;match c,d,e,hc,hd,he with
  |0,0,0,_,_,_=>exact iO
  |0,0,1,_,_,_=>exact iq
  |0,1,0,_,_,_=>exact iP
  |0,1,1,_,_,_=>exact iL
  |1,0,0,_,_,_=>exact iM
  |1,0,1,_,_,_=>exact iw
  |1,1,0,_,_,_=>exact iE
  |1,1,1,_,_,_=>exact iF
  |2,0,0,_,_,_=>exact iH
  |2,0,1,_,_,_=>exact iD
  |2,1,0,_,_,_=>exact iJ
  |2,1,1,_,_,_=>exact iK
  |c+3,_,_,h,_,_=>omega
  |0,d+2,_,_,h,_|1,d+2,_,_,h,_|2,d+2,_,_,h,_=>omega
  |0,0,e+2,_,_,h|0,1,e+2,_,_,h|1,0,e+2,_,_,h|1,1,e+2,_,_,h|2,0,e+2,_,_,h|2,1,e+2,_,_,h=>omega
 |4,_=>obtain ⟨iO,iq,iP,iL,iM,iw,iE,iF,iH,iD,iJ,iK⟩:=aqB n p a b m x y h q f R P;match c,d,e,hc,hd,he with
  |0,0,0,_,_,_=>exact iO
  |0,0,1,_,_,_=>exact iq
  |0,1,0,_,_,_=>exact iP
  |0,1,1,_,_,_=>exact iL
  |1,0,0,_,_,_=>exact iM
  |1,0,1,_,_,_=>exact iw
  |1,1,0,_,_,_=>exact iE
  |1,1,1,_,_,_=>exact iF
  |2,0,0,_,_,_=>exact iH
  |2,0,1,_,_,_=>exact iD
  |2,1,0,_,_,_=>exact iJ
  |2,1,1,_,_,_=>exact iK
  |c+3,_,_,h,_,_=>omega
  |0,d+2,_,_,h,_|1,d+2,_,_,h,_|2,d+2,_,_,h,_=>omega
  |0,0,e+2,_,_,h|0,1,e+2,_,_,h|1,0,e+2,_,_,h|1,1,e+2,_,_,h|2,0,e+2,_,_,h|2,1,e+2,_,_,h=>omega
 |5,_=>obtain ⟨iO,iq,iP,iL,iM,iw,iE,iF,iH,iD,iJ,iK⟩:=aqJ n p a b m x y h q f R P;match c,d,e,hc,hd,he with
  |0,0,0,_,_,_=>exact iO
  |0,0,1,_,_,_=>exact iq
  |0,1,0,_,_,_=>exact iP
  |0,1,1,_,_,_=>exact iL
  |1,0,0,_,_,_=>exact iM
  |1,0,1,_,_,_=>exact iw
  |1,1,0,_,_,_=>exact iE
  |1,1,1,_,_,_=>exact iF
  |2,0,0,_,_,_=>exact iH
  |2,0,1,_,_,_=>exact iD
  |2,1,0,_,_,_=>exact iJ
  |2,1,1,_,_,_=>exact iK
  |c+3,_,_,h,_,_=>omega
  |0,d+2,_,_,h,_|1,d+2,_,_,h,_|2,d+2,_,_,h,_=>omega
  |0,0,e+2,_,_,h|0,1,e+2,_,_,h|1,0,e+2,_,_,h|1,1,e+2,_,_,h|2,0,e+2,_,_,h|2,1,e+2,_,_,h=>omega
 |6,_=>obtain ⟨iO,iq,iP,iL,iM,iw,iE,iF,iH,iD,iJ,iK⟩:=arf n p a b m x y h q f R P;match c,d,e,hc,hd,he with
  |0,0,0,_,_,_=>exact iO
  |0,0,1,_,_,_=>exact iq
  |0,1,0,_,_,_=>exact iP
  |0,1,1,_,_,_=>exact iL
  |1,0,0,_,_,_=>exact iM
  |1,0,1,_,_,_=>exact iw
  |1,1,0,_,_,_=>exact iE
  |1,1,1,_,_,_=>exact iF
  |2,0,0,_,_,_=>exact iH
  |2,0,1,_,_,_=>exact iD
  |2,1,0,_,_,_=>exact iJ
  |2,1,1,_,_,_=>exact iK
  |c+3,_,_,h,_,_=>omega
  |0,d+2,_,_,h,_|1,d+2,_,_,h,_|2,d+2,_,_,h,_=>omega
  |0,0,e+2,_,_,h|0,1,e+2,_,_,h|1,0,e+2,_,_,h|1,1,e+2,_,_,h|2,0,e+2,_,_,h|2,1,e+2,_,_,h=>omega
 |7,_=>obtain ⟨iO,iq,iP,iL,iM,iw,iE,iF,iH,iD,iJ,iK⟩:=aqK n p a b m x y h q f R P;match c,d,e,hc,hd,he with
  |0,0,0,_,_,_=>exact iO
  |0,0,1,_,_,_=>exact iq
  |0,1,0,_,_,_=>exact iP
  |0,1,1,_,_,_=>exact iL
  |1,0,0,_,_,_=>exact iM
  |1,0,1,_,_,_=>exact iw
  |1,1,0,_,_,_=>exact iE
  |1,1,1,_,_,_=>exact iF
  |2,0,0,_,_,_=>exact iH
  |2,0,1,_,_,_=>exact iD
  |2,1,0,_,_,_=>exact iJ
  |2,1,1,_,_,_=>exact iK
  |c+3,_,_,h,_,_=>omega
  |0,d+2,_,_,h,_|1,d+2,_,_,h,_|2,d+2,_,_,h,_=>omega
  |0,0,e+2,_,_,h|0,1,e+2,_,_,h|1,0,e+2,_,_,h|1,1,e+2,_,_,h|2,0,e+2,_,_,h|2,1,e+2,_,_,h=>omega
 |8,_=>obtain ⟨iO,iq,iP,iL,iM,iw,iE,iF,iH,iD,iJ,iK⟩:=aql n p a b m x y h q f R P;match c,d,e,hc,hd,he with
  |0,0,0,_,_,_=>exact iO
  |0,0,1,_,_,_=>exact iq
  |0,1,0,_,_,_=>exact iP
  |0,1,1,_,_,_=>exact iL
  |1,0,0,_,_,_=>exact iM
  |1,0,1,_,_,_=>exact iw
  |1,1,0,_,_,_=>exact iE
  |1,1,1,_,_,_=>exact iF
  |2,0,0,_,_,_=>exact iH
  |2,0,1,_,_,_=>exact iD
  |2,1,0,_,_,_=>exact iJ
  |2,1,1,_,_,_=>exact iK
  |c+3,_,_,h,_,_=>omega
  |0,d+2,_,_,h,_|1,d+2,_,_,h,_|2,d+2,_,_,h,_=>omega
  |0,0,e+2,_,_,h|0,1,e+2,_,_,h|1,0,e+2,_,_,h|1,1,e+2,_,_,h|2,0,e+2,_,_,h|2,1,e+2,_,_,h=>omega
 |9,_=>obtain ⟨iO,iq,iP,iL,iM,iw,iE,iF,iH,iD,iJ,iK⟩:=aq6 n p a b m x y h q f R P;match c,d,e,hc,hd,he with
  |0,0,0,_,_,_=>exact iO
  |0,0,1,_,_,_=>exact iq
  |0,1,0,_,_,_=>exact iP
  |0,1,1,_,_,_=>exact iL
  |1,0,0,_,_,_=>exact iM
  |1,0,1,_,_,_=>exact iw
  |1,1,0,_,_,_=>exact iE
  |1,1,1,_,_,_=>exact iF
  |2,0,0,_,_,_=>exact iH
  |2,0,1,_,_,_=>exact iD
  |2,1,0,_,_,_=>exact iJ
  |2,1,1,_,_,_=>exact iK
  |c+3,_,_,h,_,_=>omega
  |0,d+2,_,_,h,_|1,d+2,_,_,h,_|2,d+2,_,_,h,_=>omega
  |0,0,e+2,_,_,h|0,1,e+2,_,_,h|1,0,e+2,_,_,h|1,1,e+2,_,_,h|2,0,e+2,_,_,h|2,1,e+2,_,_,h=>omega
 |10,_=>obtain ⟨iO,iq,iP,iL,iM,iw,iE,iF,iH,iD,iJ,iK⟩:=aoh n p a b m x y h q f R P;match c,d,e,hc,hd,he with
  |0,0,0,_,_,_=>exact iO
  |0,0,1,_,_,_=>exact iq
  |0,1,0,_,_,_=>exact iP
  |0,1,1,_,_,_=>exact iL
  |1,0,0,_,_,_=>exact iM
  |1,0,1,_,_,_=>exact iw
  |1,1,0,_,_,_=>exact iE
  |1,1,1,_,_,_=>exact iF
  |2,0,0,_,_,_=>exact iH
  |2,0,1,_,_,_=>exact iD
  |2,1,0,_,_,_=>exact iJ
  |2,1,1,_,_,_=>exact iK
  |c+3,_,_,h,_,_=>omega
  |0,d+2,_,_,h,_|1,d+2,_,_,h,_|2,d+2,_,_,h,_=>omega
  |0,0,e+2,_,_,h|0,1,e+2,_,_,h|1,0,e+2,_,_,h|1,1,e+2,_,_,h|2,0,e+2,_,_,h|2,1,e+2,_,_,h=>omega
 |11,_=>obtain ⟨iO,iq,iP,iL,iM,iw,iE,iF,iH,iD,iJ,iK⟩:=anl n p a b m x y h q f R P;match c,d,e,hc,hd,he with
  |0,0,0,_,_,_=>exact iO
  |0,0,1,_,_,_=>exact iq
  |0,1,0,_,_,_=>exact iP
  |0,1,1,_,_,_=>exact iL
  |1,0,0,_,_,_=>exact iM
  |1,0,1,_,_,_=>exact iw
  |1,1,0,_,_,_=>exact iE
  |1,1,1,_,_,_=>exact iF
  |2,0,0,_,_,_=>exact iH
  |2,0,1,_,_,_=>exact iD
  |2,1,0,_,_,_=>exact iJ
  |2,1,1,_,_,_=>exact iK
  |c+3,_,_,h,_,_=>omega
  |0,d+2,_,_,h,_|1,d+2,_,_,h,_|2,d+2,_,_,h,_=>omega
  |0,0,e+2,_,_,h|0,1,e+2,_,_,h|1,0,e+2,_,_,h|1,1,e+2,_,_,h|2,0,e+2,_,_,h|2,1,e+2,_,_,h=>omega
 |12,_=>obtain ⟨iO,iq,iP,iL,iM,iw,iE,iF,iH,iD,iJ,iK⟩:=anc n p a b m x y h q f R P;match c,d,e,hc,hd,he with
  |0,0,0,_,_,_=>exact iO
  |0,0,1,_,_,_=>exact iq
  |0,1,0,_,_,_=>exact iP
  |0,1,1,_,_,_=>exact iL
  |1,0,0,_,_,_=>exact iM
  |1,0,1,_,_,_=>exact iw
  |1,1,0,_,_,_=>exact iE
  |1,1,1,_,_,_=>exact iF
  |2,0,0,_,_,_=>exact iH
  |2,0,1,_,_,_=>exact iD
  |2,1,0,_,_,_=>exact iJ
  |2,1,1,_,_,_=>exact iK
  |c+3,_,_,h,_,_=>omega
  |0,d+2,_,_,h,_|1,d+2,_,_,h,_|2,d+2,_,_,h,_=>omega
  |0,0,e+2,_,_,h|0,1,e+2,_,_,h|1,0,e+2,_,_,h|1,1,e+2,_,_,h|2,0,e+2,_,_,h|2,1,e+2,_,_,h=>omega
 |13,_=>obtain ⟨iO,iq,iP,iL,iM,iw,iE,iF,iH,iD,iJ,iK⟩:=aoI n p a b m x y h q f R P;match c,d,e,hc,hd,he with
  |0,0,0,_,_,_=>exact iO
  |0,0,1,_,_,_=>exact iq
  |0,1,0,_,_,_=>exact iP
  |0,1,1,_,_,_=>exact iL
  |1,0,0,_,_,_=>exact iM
  |1,0,1,_,_,_=>exact iw
  |1,1,0,_,_,_=>exact iE
  |1,1,1,_,_,_=>exact iF
  |2,0,0,_,_,_=>exact iH
  |2,0,1,_,_,_=>exact iD
  |2,1,0,_,_,_=>exact iJ
  |2,1,1,_,_,_=>exact iK
  |c+3,_,_,h,_,_=>omega
  |0,d+2,_,_,h,_|1,d+2,_,_,h,_|2,d+2,_,_,h,_=>omega
  |0,0,e+2,_,_,h|0,1,e+2,_,_,h|1,0,e+2,_,_,h|1,1,e+2,_,_,h|2,0,e+2,_,_,h|2,1,e+2,_,_,h=>omega
 |14,_=>obtain ⟨iO,iq,iP,iL,iM,iw,iE,iF,iH,iD,iJ,iK⟩:=anu n p a b m x y h q f R P;match c,d,e,hc,hd,he with
  |0,0,0,_,_,_=>exact iO
  |0,0,1,_,_,_=>exact iq
  |0,1,0,_,_,_=>exact iP
  |0,1,1,_,_,_=>exact iL
  |1,0,0,_,_,_=>exact iM
  |1,0,1,_,_,_=>exact iw
  |1,1,0,_,_,_=>exact iE
  |1,1,1,_,_,_=>exact iF
  |2,0,0,_,_,_=>exact iH
  |2,0,1,_,_,_=>exact iD
  |2,1,0,_,_,_=>exact iJ
  |2,1,1,_,_,_=>exact iK
  |c+3,_,_,h,_,_=>omega
  |0,d+2,_,_,h,_|1,d+2,_,_,h,_|2,d+2,_,_,h,_=>omega
  |0,0,e+2,_,_,h|0,1,e+2,_,_,h|1,0,e+2,_,_,h|1,1,e+2,_,_,h|2,0,e+2,_,_,h|2,1,e+2,_,_,h=>omega
 |15,_=>obtain ⟨iO,iq,iP,iL,iM,iw,iE,iF,iH,iD,iJ,iK⟩:=aoE n p a b m x y h q f R P;match c,d,e,hc,hd,he with
  |0,0,0,_,_,_=>exact iO
  |0,0,1,_,_,_=>exact iq
  |0,1,0,_,_,_=>exact iP
  |0,1,1,_,_,_=>exact iL
  |1,0,0,_,_,_=>exact iM
  |1,0,1,_,_,_=>exact iw
  |1,1,0,_,_,_=>exact iE
  |1,1,1,_,_,_=>exact iF
  |2,0,0,_,_,_=>exact iH
  |2,0,1,_,_,_=>exact iD
  |2,1,0,_,_,_=>exact iJ
  |2,1,1,_,_,_=>exact iK
  |c+3,_,_,h,_,_=>omega
  |0,d+2,_,_,h,_|1,d+2,_,_,h,_|2,d+2,_,_,h,_=>omega
  |0,0,e+2,_,_,h|0,1,e+2,_,_,h|1,0,e+2,_,_,h|1,1,e+2,_,_,h|2,0,e+2,_,_,h|2,1,e+2,_,_,h=>omega
 |16,_=>obtain ⟨iO,iq,iP,iL,iM,iw,iE,iF,iH,iD,iJ,iK⟩:=anO n p a b m x y h q f R P;match c,d,e,hc,hd,he with
  |0,0,0,_,_,_=>exact iO
  |0,0,1,_,_,_=>exact iq
  |0,1,0,_,_,_=>exact iP
  |0,1,1,_,_,_=>exact iL
  |1,0,0,_,_,_=>exact iM
  |1,0,1,_,_,_=>exact iw
  |1,1,0,_,_,_=>exact iE
  |1,1,1,_,_,_=>exact iF
  |2,0,0,_,_,_=>exact iH
  |2,0,1,_,_,_=>exact iD
  |2,1,0,_,_,_=>exact iJ
  |2,1,1,_,_,_=>exact iK
  |c+3,_,_,h,_,_=>omega
  |0,d+2,_,_,h,_|1,d+2,_,_,h,_|2,d+2,_,_,h,_=>omega
  |0,0,e+2,_,_,h|0,1,e+2,_,_,h|1,0,e+2,_,_,h|1,1,e+2,_,_,h|2,0,e+2,_,_,h|2,1,e+2,_,_,h=>omega
 |17,_=>obtain ⟨iO,iq,iP,iL,iM,iw,iE,iF,iH,iD,iJ,iK⟩:=anA n p a b m x y h q f R P;match c,d,e,hc,hd,he with
  |0,0,0,_,_,_=>exact iO
  |0,0,1,_,_,_=>exact iq
  |0,1,0,_,_,_=>exact iP
  |0,1,1,_,_,_=>exact iL
  |1,0,0,_,_,_=>exact iM
  |1,0,1,_,_,_=>exact iw
  |1,1,0,_,_,_=>exact iE
  |1,1,1,_,_,_=>exact iF
  |2,0,0,_,_,_=>exact iH
  |2,0,1,_,_,_=>exact iD
  |2,1,0,_,_,_=>exact iJ
  |2,1,1,_,_,_=>exact iK
  |c+3,_,_,h,_,_=>omega
  |0,d+2,_,_,h,_|1,d+2,_,_,h,_|2,d+2,_,_,h,_=>omega
  |0,0,e+2,_,_,h|0,1,e+2,_,_,h|1,0,e+2,_,_,h|1,1,e+2,_,_,h|2,0,e+2,_,_,h|2,1,e+2,_,_,h=>omega
 |18,_=>obtain ⟨iO,iq,iP,iL,iM,iw,iE,iF,iH,iD,iJ,iK⟩:=ana n p a b m x y h q f R P;match c,d,e,hc,hd,he with
  |0,0,0,_,_,_=>exact iO
  |0,0,1,_,_,_=>exact iq
  |0,1,0,_,_,_=>exact iP
  |0,1,1,_,_,_=>exact iL
  |1,0,0,_,_,_=>exact iM
  |1,0,1,_,_,_=>exact iw
  |1,1,0,_,_,_=>exact iE
  |1,1,1,_,_,_=>exact iF
  |2,0,0,_,_,_=>exact iH
  |2,0,1,_,_,_=>exact iD
  |2,1,0,_,_,_=>exact iJ
  |2,1,1,_,_,_=>exact iK
  |c+3,_,_,h,_,_=>omega
  |0,d+2,_,_,h,_|1,d+2,_,_,h,_|2,d+2,_,_,h,_=>omega
  |0,0,e+2,_,_,h|0,1,e+2,_,_,h|1,0,e+2,_,_,h|1,1,e+2,_,_,h|2,0,e+2,_,_,h|2,1,e+2,_,_,h=>omega
 |19,_=>obtain ⟨iO,iq,iP,iL,iM,iw,iE,iF,iH,iD,iJ,iK⟩:=amZ n p a b m x y h q f R P;match c,d,e,hc,hd,he with
  |0,0,0,_,_,_=>exact iO
  |0,0,1,_,_,_=>exact iq
  |0,1,0,_,_,_=>exact iP
  |0,1,1,_,_,_=>exact iL
  |1,0,0,_,_,_=>exact iM
  |1,0,1,_,_,_=>exact iw
  |1,1,0,_,_,_=>exact iE
  |1,1,1,_,_,_=>exact iF
  |2,0,0,_,_,_=>exact iH
  |2,0,1,_,_,_=>exact iD
  |2,1,0,_,_,_=>exact iJ
  |2,1,1,_,_,_=>exact iK
  |c+3,_,_,h,_,_=>omega
  |0,d+2,_,_,h,_|1,d+2,_,_,h,_|2,d+2,_,_,h,_=>omega
  |0,0,e+2,_,_,h|0,1,e+2,_,_,h|1,0,e+2,_,_,h|1,1,e+2,_,_,h|2,0,e+2,_,_,h|2,1,e+2,_,_,h=>omega
 |i+20,h=>omega
theorem ahr {n:Nat}{T:List Value}{Ps:List (List Value)}(hl:Ps.length=20)(h:Fn.Sr T Ps n=true) :
  sRe.N=sRo.N∧∃ R k,R k sRo (hRo n 0 0 0 0 T (jq Ps))∧yw Tryz.prog CR1 KX 4 21 (mX CR1 21 3) sRo.N R (.exit 0) sRe (oRe n (Fn.tkP T Ps n) (Fn.tkA T n) (Fn.tkB T n)):=by
 obtain ⟨hT,hP,h1,h2,hC⟩:=wS h
 refine ⟨rfl,fun j sp y=>sp=sRo∧∃ i,i≤n∧j=n-i+1∧y=hTk n i T Ps,n-0+1,⟨rfl,0,Nat.zero_le _,rfl,rfl⟩,⟨?_⟩⟩
 rintro j sp y ⟨rfl,i,hi,rfl,rfl⟩
 refine ⟨n-i,rfl,sRo,?_⟩
 by_cases hin:i<n
 ·obtain ⟨c,d,e,m,x,y,hh,q,f,R,hc,hd,he,hTe,_,hm,hp,e1,e2⟩:=WE (hC i hin)
  have hr:=amE (i:=i) (by omega) hc hd he n (Fn.tkP T Ps i) (Fn.tkA T i) (Fn.tkB T i) m x y hh q f R (jq Ps)
  unfold roE at hr
  rw [ant hl hc hin (by rw [←hTe];exact hT) hP (fun h=>⟨(hm h).1,(hm h).2.1⟩)] at hr
  unfold roR at hr
  rw [←hTe] at hr
  refine ⟨_,rfl,hr,.inl ⟨rfl,rfl,i+1,by omega,by omega,?_⟩⟩
  show hRo n _ _ _ _ _ _=hTk n (i+1) T Ps
  unfold hTk
  have e3:Fn.tkA T (i+1)=nS (Fn.tkA T i) (acH (Uc T (5*i+3))):=rfl
  have e4:Fn.tkB T (i+1)=nS (Fn.tkB T i) (acH (Uc T (5*i+4))):=rfl
  have e5:Fn.tkP T Ps (i+1)=Gi (jq Ps i) (Fn.tkP T Ps i) (Uc T (5*i+1)):=rfl
  rw [e3,e4,e5,e1,e2,hp]
 ·have:i=n:=by omega
  subst this
  have hr:=aoY h1 h2 (Fn.tkP T Ps i) (Fn.tkA T i) (Fn.tkB T i) T (jq Ps)
  unfold reR at hr
  exact ⟨_,rfl,hr,.inr ⟨(fun h=>by cases h),rfl⟩⟩
def gRo (o:bC):LT:=
 fO o.vals fun v l=>pSl 32 aA v fun n=>fO l fun v l=>MJ .u64 v fun p=>fO l fun v l=>MJ .i64 v fun a=>fO l fun v l=>MJ .i64 v fun b=>fO l fun v l=>MJ .i64 v fun i=>Yx l (
  QB (Nat.beq p 0&&(Nat.beq a 0&&(Nat.beq b 0&&Nat.beq i 0))) (pKr o.rows fun T Ps t=>Yx t (fF (Fn.Sr T Ps n) (.leaf (.exit 0,sRe,oRe n (Fn.tkP T Ps n) (Fn.tkA T n) (Fn.tkB T n))))))
theorem afo:∀ o e spe O,(gRo o).run=some (e,spe,O)→spe.N=sRo.N∧∃ R k,R k sRo o∧yw Tryz.prog CR1 KX 4 21 (mX CR1 21 3) sRo.N R e spe O:=by
 rintro ⟨vals,rows⟩ e spe O h
 obtain ⟨v1,l1,hv,z1⟩:=aT h
 obtain ⟨n,e1,z2⟩:=mM z1
 obtain ⟨v2,l2,e2,z3⟩:=aT z2
 obtain ⟨p,e3,z4⟩:=eX z3
 obtain ⟨v3,l3,e4,z5⟩:=aT z4
 obtain ⟨a,e5,z6⟩:=eX z5
 obtain ⟨v4,l4,e6,z7⟩:=aT z6
 obtain ⟨b,e7,z8⟩:=eX z7
 obtain ⟨v5,l5,e8,z9⟩:=aT z8
 obtain ⟨i,e9,z10⟩:=eX z9
 obtain ⟨e12,z13⟩:=iQ z10
 obtain ⟨h1,z14⟩:=iT z13
 obtain ⟨T,Ps,t,hr,hl,z15⟩:=xg z14
 obtain ⟨e13,z16⟩:=iQ z15
 obtain ⟨hg,z19⟩:=bI z16
 simp only [Bool.and_eq_true] at h1
 obtain ⟨k1,k2,k3,k4⟩:=h1
 have k1:=Nat.eq_of_beq_eq_true k1
 have k2:=Nat.eq_of_beq_eq_true k2
 have k3:=Nat.eq_of_beq_eq_true k3
 have k4:=Nat.eq_of_beq_eq_true k4
 have hv:vals=_:=hv
 have hr:rows=_:=hr
 subst e13 e12 e9 e8 e7 e6 e5 e4 e3 e2 e1 k1 k2 k3 k4
 rw [List.append_nil] at hr
 subst hv hr
 cases z19
 exact ahr hl hg
variable [Lo]
def ZX:List (Nat × Nat × BU):=(21,3,fun fr s=>sel (al4 (CB.vars 21) 0 fr akR) (vZ Tryz.prog (CB.vars 21) sRo gRo fr s) .fail)::Wl
def CR2:Cfg:={ CB with ext:=dJ RH,insert:=dJ YZ,EK:=IB ZX }
theorem amA:Nat.beq (aV (uI CR1 21 3)) 1=true:=by kernel_rfl
theorem Zq:∀ fn c body,CR2.body fn=some c→PartOf c (.loop body)→nD Tryz.prog CR2 fn body:=by
 refine Fa (L:=ZX) rfl fun q hq=>?_
 rcases List.mem_cons.1 hq with rfl|hq
 ·exact fun c body h1 h2 h3=>kJ _ (kH (K:=KX) (C0:=CR1) (m:=4) (by show (6:Nat)≤_;decide) dI bQ alm rfl rfl amA rfl afo c body h1 h2 h3)
 ·rcases List.mem_cons.1 hq with rfl|hq
  ·exact fun c body h1 h2 h3=>kJ _ (kH (K:=KM) (C0:=CM7) (m:=4) (by show (6:Nat)≤_;decide) dI bQ VY rfl rfl aiC rfl ZT c body h1 h2 h3)
  ·cases hq
theorem ajX:dH CR2 Tryz.prog:=MZ (ext:=dJ RH) (ins:=dJ YZ) (lf:=IB ZX) rfl (fun f t h=>(BH (C:=CR2)) f t h) vI Zq
end
end Go.Ax
