import Derived.Test.YtaplfdajjdbomaaGreatDoorDj
open Nat renaming eq_of_beq_eq_true→qaa,mod→qab,pow→qac,div→qad
set_option maxRecDepth 1000000
namespace Go.Ax
open Go Go.Proofs
noncomputable def rcV:Value:=.agg ⟨[u 1,u 32898,u 9223372036854808714,u 9223372039002292224,u 32907,u 2147483649,u 9223372039002292353,u 9223372036854808585,u 138,u 136,u 2147516425,u 2147483658,u 2147516555,u 9223372036854775947,u 9223372036854808713,u 9223372036854808579,u 9223372036854808578,u 9223372036854775936,u 32778,u 9223372039002259466,u 9223372039002292353,u 9223372036854808704,u 2147483649,u 9223372039002292232]⟩
noncomputable def rcG (args:List Value):Option Value:=
 match args with
 |[]=>some rcV
 |_=>none
theorem avM:BK ((KF CP 12).1 521 [] dJ)=some rcV:=by kernel_rfl
theorem ar6:∀ args v,yX args=true→rcG args=some v→∃ s1,(runN CP 12).1 521 args dJ=some (v,s1):=by
 intro args v hfr h
 unfold rcG at h
 split at h
 ·cases h
  rw [←Gf]
  exact rY avM
 ·cases h
noncomputable def b8 (n:Nat):Value:=.int .u8 (Int.ofNat n)
noncomputable def ao2 (w:Nat):Value:=.agg ⟨[b8 (qab (qad w (qac 2 0)) 256),b8 (qab (qad w (qac 2 8)) 256),b8 (qab (qad w (qac 2 16)) 256),b8 (qab (qad w (qac 2 24)) 256),b8 (qab (qad w (qac 2 32)) 256),b8 (qab (qad w (qac 2 40)) 256),b8 (qab (qad w (qac 2 48)) 256),b8 (qab (qad w (qac 2 56)) 256)]⟩
noncomputable def ahr (args:List Value):Option Value:=
 match args with
 |[.int .u64 w]=>Int.casesOn w (fun w=>some (ao2 w)) (fun _=>none)
 |_=>none
theorem akO (w:Nat):BK ((runN CB 3).1 268 [.int .u64 (Int.ofNat w)] dJ)=some (ao2 w):=by kernel_rfl
theorem afC:∀ args v,yX args=true→ahr args=some v→∃ s1,(runN CB 3).1 268 args dJ=some (v,s1):=by
 intro args v hfr h
 unfold ahr at h
 split at h
 ·rename_i w
  cases w with
  |negSucc w=>cases h
  |ofNat w=>cases h;exact rY (akO w)
 ·cases h
noncomputable def orr (a b:Nat):Nat:=Nat.lor (qab a 18446744073709551616) (qab b 18446744073709551616)
noncomputable def aoQ (b k:Nat):Nat:=qab (Nat.mul (qab b 18446744073709551616) (qac 2 k)) 18446744073709551616
noncomputable def zM (b0 b1 b2 b3 b4 b5 b6 b7:Nat):Nat:=orr (orr (orr (orr (orr (orr (orr (orr (0) (aoQ b0 0)) (aoQ b1 8)) (aoQ b2 16)) (aoQ b3 24)) (aoQ b4 32)) (aoQ b5 40)) (aoQ b6 48)) (aoQ b7 56)
noncomputable def ahd:List Value→Option (List Nat):=fun l=>List.rec (some []) (fun v _ ih=>match v with
 |.int .u8 n=>Int.casesOn n (fun n=>aj ih fun r=>some (n::r)) (fun _=>none)
 |_=>none) l
theorem Py:∀ {l:List Value} {r:List Nat},ahd l=some r→l=r.map b8
 |[],r,h=>by cases h;rfl
 |v::l,r,h=>by
  cases v <;> try (cases h;done)
  rename_i k n
  cases k <;> try (cases h;done)
  cases n with
  |negSucc n=>cases h
  |ofNat n=>
   obtain ⟨r',hr,h⟩:=ah.1 (show aj (ahd l) (fun r=>some (n::r))=some r from h)
   cases h
   rw [Py hr]
   rfl
noncomputable def aAz:List Nat:=[25,33,41,49,57,65,73,81,89,97,105,113,121,129,137,145,153]
noncomputable def atS (l:List Nat):Option Value:=
 match l with
 |[b0,b1,b2,b3,b4,b5,b6,b7]=>some (u (zM b0 b1 b2 b3 b4 b5 b6 b7))
 |_=>none
noncomputable def as7 (x:Value)(cs:List Value):Option (Value × List Value):=
 match x with
 |.slice (some a) n c=>guard (Nat.beq a.block 64&&a.spot.isNone&&Nat.beq n c&&Nat.beq (Nat.add n a.off) 161&&avG aAz a.off) (aj (ahd (aA 8 (eH a.off cs))) fun l=>aj (atS l) fun v=>some (v,cs))
 |_=>none
noncomputable def Ac (f:Nat→Value)(k j:Nat)(l:List Value):List Value:=Nat.rec (motive:=fun _=>Nat→List Value) (fun _=>l) (fun _ ih j=>f j::ih (Nat.succ j)) k j
noncomputable def bs8 (b0 b1 b2 b3 b4 b5 b6 b7:Nat)(l:List Value):List Value:=b8 b0::b8 b1::b8 b2::b8 b3::b8 b4::b8 b5::b8 b6::b8 b7::l
theorem asU (f:Nat→Value)(b0 b1 b2 b3 b4 b5 b6 b7:Nat)(post:List Value)(t:TypeId):wW ((runN CB 3).1 448 [.slice (some ⟨64,25,none⟩) 136 136] (oz (Ac f 25 0 (bs8 b0 b1 b2 b3 b4 b5 b6 b7 post)) t))=some (u (zM b0 b1 b2 b3 b4 b5 b6 b7),(Ac f 25 0 (bs8 b0 b1 b2 b3 b4 b5 b6 b7 post)),t,0):=by kernel_rfl
theorem aqL (f:Nat→Value)(b0 b1 b2 b3 b4 b5 b6 b7:Nat)(post:List Value)(t:TypeId):wW ((runN CB 3).1 448 [.slice (some ⟨64,33,none⟩) 128 128] (oz (Ac f 33 0 (bs8 b0 b1 b2 b3 b4 b5 b6 b7 post)) t))=some (u (zM b0 b1 b2 b3 b4 b5 b6 b7),(Ac f 33 0 (bs8 b0 b1 b2 b3 b4 b5 b6 b7 post)),t,0):=by kernel_rfl
theorem aq9 (f:Nat→Value)(b0 b1 b2 b3 b4 b5 b6 b7:Nat)(post:List Value)(t:TypeId):wW ((runN CB 3).1 448 [.slice (some ⟨64,41,none⟩) 120 120] (oz (Ac f 41 0 (bs8 b0 b1 b2 b3 b4 b5 b6 b7 post)) t))=some (u (zM b0 b1 b2 b3 b4 b5 b6 b7),(Ac f 41 0 (bs8 b0 b1 b2 b3 b4 b5 b6 b7 post)),t,0):=by kernel_rfl
theorem aqA (f:Nat→Value)(b0 b1 b2 b3 b4 b5 b6 b7:Nat)(post:List Value)(t:TypeId):wW ((runN CB 3).1 448 [.slice (some ⟨64,49,none⟩) 112 112] (oz (Ac f 49 0 (bs8 b0 b1 b2 b3 b4 b5 b6 b7 post)) t))=some (u (zM b0 b1 b2 b3 b4 b5 b6 b7),(Ac f 49 0 (bs8 b0 b1 b2 b3 b4 b5 b6 b7 post)),t,0):=by kernel_rfl
theorem arx (f:Nat→Value)(b0 b1 b2 b3 b4 b5 b6 b7:Nat)(post:List Value)(t:TypeId):wW ((runN CB 3).1 448 [.slice (some ⟨64,57,none⟩) 104 104] (oz (Ac f 57 0 (bs8 b0 b1 b2 b3 b4 b5 b6 b7 post)) t))=some (u (zM b0 b1 b2 b3 b4 b5 b6 b7),(Ac f 57 0 (bs8 b0 b1 b2 b3 b4 b5 b6 b7 post)),t,0):=by kernel_rfl
theorem apY (f:Nat→Value)(b0 b1 b2 b3 b4 b5 b6 b7:Nat)(post:List Value)(t:TypeId):wW ((runN CB 3).1 448 [.slice (some ⟨64,65,none⟩) 96 96] (oz (Ac f 65 0 (bs8 b0 b1 b2 b3 b4 b5 b6 b7 post)) t))=some (u (zM b0 b1 b2 b3 b4 b5 b6 b7),(Ac f 65 0 (bs8 b0 b1 b2 b3 b4 b5 b6 b7 post)),t,0):=by kernel_rfl
theorem asG (f:Nat→Value)(b0 b1 b2 b3 b4 b5 b6 b7:Nat)(post:List Value)(t:TypeId):wW ((runN CB 3).1 448 [.slice (some ⟨64,73,none⟩) 88 88] (oz (Ac f 73 0 (bs8 b0 b1 b2 b3 b4 b5 b6 b7 post)) t))=some (u (zM b0 b1 b2 b3 b4 b5 b6 b7),(Ac f 73 0 (bs8 b0 b1 b2 b3 b4 b5 b6 b7 post)),t,0):=by kernel_rfl
theorem aq1 (f:Nat→Value)(b0 b1 b2 b3 b4 b5 b6 b7:Nat)(post:List Value)(t:TypeId):wW ((runN CB 3).1 448 [.slice (some ⟨64,81,none⟩) 80 80] (oz (Ac f 81 0 (bs8 b0 b1 b2 b3 b4 b5 b6 b7 post)) t))=some (u (zM b0 b1 b2 b3 b4 b5 b6 b7),(Ac f 81 0 (bs8 b0 b1 b2 b3 b4 b5 b6 b7 post)),t,0):=by kernel_rfl
theorem aq3 (f:Nat→Value)(b0 b1 b2 b3 b4 b5 b6 b7:Nat)(post:List Value)(t:TypeId):wW ((runN CB 3).1 448 [.slice (some ⟨64,89,none⟩) 72 72] (oz (Ac f 89 0 (bs8 b0 b1 b2 b3 b4 b5 b6 b7 post)) t))=some (u (zM b0 b1 b2 b3 b4 b5 b6 b7),(Ac f 89 0 (bs8 b0 b1 b2 b3 b4 b5 b6 b7 post)),t,0):=by kernel_rfl
theorem aqr (f:Nat→Value)(b0 b1 b2 b3 b4 b5 b6 b7:Nat)(post:List Value)(t:TypeId):wW ((runN CB 3).1 448 [.slice (some ⟨64,97,none⟩) 64 64] (oz (Ac f 97 0 (bs8 b0 b1 b2 b3 b4 b5 b6 b7 post)) t))=some (u (zM b0 b1 b2 b3 b4 b5 b6 b7),(Ac f 97 0 (bs8 b0 b1 b2 b3 b4 b5 b6 b7 post)),t,0):=by kernel_rfl
theorem ane (f:Nat→Value)(b0 b1 b2 b3 b4 b5 b6 b7:Nat)(post:List Value)(t:TypeId):wW ((runN CB 3).1 448 [.slice (some ⟨64,105,none⟩) 56 56] (oz (Ac f 105 0 (bs8 b0 b1 b2 b3 b4 b5 b6 b7 post)) t))=some (u (zM b0 b1 b2 b3 b4 b5 b6 b7),(Ac f 105 0 (bs8 b0 b1 b2 b3 b4 b5 b6 b7 post)),t,0):=by kernel_rfl
theorem aog (f:Nat→Value)(b0 b1 b2 b3 b4 b5 b6 b7:Nat)(post:List Value)(t:TypeId):wW ((runN CB 3).1 448 [.slice (some ⟨64,113,none⟩) 48 48] (oz (Ac f 113 0 (bs8 b0 b1 b2 b3 b4 b5 b6 b7 post)) t))=some (u (zM b0 b1 b2 b3 b4 b5 b6 b7),(Ac f 113 0 (bs8 b0 b1 b2 b3 b4 b5 b6 b7 post)),t,0):=by kernel_rfl
theorem an8 (f:Nat→Value)(b0 b1 b2 b3 b4 b5 b6 b7:Nat)(post:List Value)(t:TypeId):wW ((runN CB 3).1 448 [.slice (some ⟨64,121,none⟩) 40 40] (oz (Ac f 121 0 (bs8 b0 b1 b2 b3 b4 b5 b6 b7 post)) t))=some (u (zM b0 b1 b2 b3 b4 b5 b6 b7),(Ac f 121 0 (bs8 b0 b1 b2 b3 b4 b5 b6 b7 post)),t,0):=by kernel_rfl
theorem anf (f:Nat→Value)(b0 b1 b2 b3 b4 b5 b6 b7:Nat)(post:List Value)(t:TypeId):wW ((runN CB 3).1 448 [.slice (some ⟨64,129,none⟩) 32 32] (oz (Ac f 129 0 (bs8 b0 b1 b2 b3 b4 b5 b6 b7 post)) t))=some (u (zM b0 b1 b2 b3 b4 b5 b6 b7),(Ac f 129 0 (bs8 b0 b1 b2 b3 b4 b5 b6 b7 post)),t,0):=by kernel_rfl
theorem amI (f:Nat→Value)(b0 b1 b2 b3 b4 b5 b6 b7:Nat)(post:List Value)(t:TypeId):wW ((runN CB 3).1 448 [.slice (some ⟨64,137,none⟩) 24 24] (oz (Ac f 137 0 (bs8 b0 b1 b2 b3 b4 b5 b6 b7 post)) t))=some (u (zM b0 b1 b2 b3 b4 b5 b6 b7),(Ac f 137 0 (bs8 b0 b1 b2 b3 b4 b5 b6 b7 post)),t,0):=by kernel_rfl
theorem anI (f:Nat→Value)(b0 b1 b2 b3 b4 b5 b6 b7:Nat)(post:List Value)(t:TypeId):wW ((runN CB 3).1 448 [.slice (some ⟨64,145,none⟩) 16 16] (oz (Ac f 145 0 (bs8 b0 b1 b2 b3 b4 b5 b6 b7 post)) t))=some (u (zM b0 b1 b2 b3 b4 b5 b6 b7),(Ac f 145 0 (bs8 b0 b1 b2 b3 b4 b5 b6 b7 post)),t,0):=by kernel_rfl
theorem amS (f:Nat→Value)(b0 b1 b2 b3 b4 b5 b6 b7:Nat)(post:List Value)(t:TypeId):wW ((runN CB 3).1 448 [.slice (some ⟨64,153,none⟩) 8 8] (oz (Ac f 153 0 (bs8 b0 b1 b2 b3 b4 b5 b6 b7 post)) t))=some (u (zM b0 b1 b2 b3 b4 b5 b6 b7),(Ac f 153 0 (bs8 b0 b1 b2 b3 b4 b5 b6 b7 post)),t,0):=by kernel_rfl
theorem ak5 (cs:List Value)(k:Nat)(h:k≤cs.length):∃ f:Nat→Value,cs=(List.range k).map f++cs.drop k:=by
 refine ⟨fun j=>cs.getD j .nilFunc,?_⟩
 apply List.ext_getElem?
 intro j
 by_cases hj:j<k
 ·rw [List.getElem?_append_left (by simpa using hj)]
  simp [List.getElem?_range hj,List.getD,List.getElem?_eq_getElem (show j<cs.length by omega)]
 ·rw [List.getElem?_append_right (by simpa using hj)]
  simp
  congr 1
  omega
theorem ah3:∀ x cs t r,flatAll cs=true→as7 x cs=some r→∃ s1,(runN CB 3).1 448 [x] (oz cs t)=some (r.1,s1)∧s1.cells 64=some (r.2,t,0):=by
 intro x cs t r hfl h
 unfold as7 at h
 split at h
 ·rename_i a n c
  obtain ⟨hg,h⟩:=au.1 h
  obtain ⟨l,hl,h⟩:=ah.1 h
  obtain ⟨v,hv,h⟩:=ah.1 h
  cases h
  simp only [Bool.and_eq_true] at hg
  obtain ⟨⟨⟨⟨g1,g2⟩,g3⟩,g4⟩,g5⟩:=hg
  obtain ⟨b,o,sp⟩:=a
  have h1:b=64:=qaa g1
  have h2:n=c:=qaa g3
  have h4:n+o=161:=qaa g4
  have h3:sp=none:=by cases sp with
   |none=>rfl
   |some s=>exact Bool.noConfusion g2
  subst h1 h2 h3
  unfold atS at hv
  split at hv
  ·rename_i b0 b1 b2 b3 b4 b5 b6 b7
   cases hv
   have hb:=Py hl
   rw [qU,iy] at hb
   have hd:cs.drop o=b8 b0::b8 b1::b8 b2::b8 b3::b8 b4::b8 b5::b8 b6::b8 b7::(cs.drop o).drop 8:=by
    have:=List.take_append_drop 8 (cs.drop o)
    rw [hb] at this
    exact this.symm
   have hlen:o≤cs.length:=by
    have:(cs.drop o).length≠0:=by rw [hd];simp
    simp at this
    omega
   obtain ⟨f,hf⟩:=ak5 cs o hlen
   generalize hp:(cs.drop o).drop 8=post at hd
   rw [hd] at hf
   have hm:=Gm g5
   unfold aAz at hm
   simp only [List.mem_cons,List.not_mem_nil,or_false] at hm
   rcases hm with rfl|rfl|rfl|rfl|rfl|rfl|rfl|rfl|rfl|rfl|rfl|rfl|rfl|rfl|rfl|rfl|rfl
   ·obtain rfl:n=136:=by omega
    rw [hf]
    exact fF (asU f b0 b1 b2 b3 b4 b5 b6 b7 post t)
   ·obtain rfl:n=128:=by omega
    rw [hf]
    exact fF (aqL f b0 b1 b2 b3 b4 b5 b6 b7 post t)
   ·obtain rfl:n=120:=by omega
    rw [hf]
    exact fF (aq9 f b0 b1 b2 b3 b4 b5 b6 b7 post t)
   ·obtain rfl:n=112:=by omega
    rw [hf]
    exact fF (aqA f b0 b1 b2 b3 b4 b5 b6 b7 post t)
   ·obtain rfl:n=104:=by omega
    rw [hf]
    exact fF (arx f b0 b1 b2 b3 b4 b5 b6 b7 post t)
   ·obtain rfl:n=96:=by omega
    rw [hf]
    exact fF (apY f b0 b1 b2 b3 b4 b5 b6 b7 post t)
   ·obtain rfl:n=88:=by omega
    rw [hf]
    exact fF (asG f b0 b1 b2 b3 b4 b5 b6 b7 post t)
   ·obtain rfl:n=80:=by omega
    rw [hf]
    exact fF (aq1 f b0 b1 b2 b3 b4 b5 b6 b7 post t)
   ·obtain rfl:n=72:=by omega
    rw [hf]
    exact fF (aq3 f b0 b1 b2 b3 b4 b5 b6 b7 post t)
   ·obtain rfl:n=64:=by omega
    rw [hf]
    exact fF (aqr f b0 b1 b2 b3 b4 b5 b6 b7 post t)
   ·obtain rfl:n=56:=by omega
    rw [hf]
    exact fF (ane f b0 b1 b2 b3 b4 b5 b6 b7 post t)
   ·obtain rfl:n=48:=by omega
    rw [hf]
    exact fF (aog f b0 b1 b2 b3 b4 b5 b6 b7 post t)
   ·obtain rfl:n=40:=by omega
    rw [hf]
    exact fF (an8 f b0 b1 b2 b3 b4 b5 b6 b7 post t)
   ·obtain rfl:n=32:=by omega
    rw [hf]
    exact fF (anf f b0 b1 b2 b3 b4 b5 b6 b7 post t)
   ·obtain rfl:n=24:=by omega
    rw [hf]
    exact fF (amI f b0 b1 b2 b3 b4 b5 b6 b7 post t)
   ·obtain rfl:n=16:=by omega
    rw [hf]
    exact fF (anI f b0 b1 b2 b3 b4 b5 b6 b7 post t)
   ·obtain rfl:n=8:=by omega
    rw [hf]
    exact fF (amS f b0 b1 b2 b3 b4 b5 b6 b7 post t)
  ·cases hv
 ·cases h
end Go.Ax
