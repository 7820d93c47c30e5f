import Derived.Test.YtgpfgjhbiehafaaGreatDoorDi
set_option maxRecDepth 1000000
namespace Go.Ax
open Go Go.Proofs
noncomputable def rcV:Value:=.agg ⟨[u 1,u 32898,u 9223372036854808714,u 9223372039002292224,u 32907,u 2147483649,u 9223372039002292353,u 9223372036854808585,u 138,u 136,u 2147516425,u 2147483658,u 2147516555,u 9223372036854775947,u 9223372036854808713,u 9223372036854808579,u 9223372036854808578,u 9223372036854775936,u 32778,u 9223372039002259466,u 9223372039002292353,u 9223372036854808704,u 2147483649,u 9223372039002292232]⟩
noncomputable def rcG (args:List Value):Option Value:=
 match args with
 |[]=>some rcV
 |_=>none
theorem ajo:x9 ((Ir CP 12).1 508 [] bK)=some rcV:=by kernel_rfl
theorem ag8:∀ args v,nM args=true→rcG args=some v→∃ s1,(runN CP 12).1 508 args bK=some (v,s1):=by
 intro args v hfr h
 unfold rcG at h
 split at h
 ·cases h
  rw [←Bd]
  exact oV ajo
 ·cases h
noncomputable def b8 (n:Nat):Value:=.int .u8 (Int.ofNat n)
noncomputable def aeW (w:Nat):Value:=.agg ⟨[b8 (Nat.mod (Nat.div w (Nat.pow 2 0)) 256),b8 (Nat.mod (Nat.div w (Nat.pow 2 8)) 256),b8 (Nat.mod (Nat.div w (Nat.pow 2 16)) 256),b8 (Nat.mod (Nat.div w (Nat.pow 2 24)) 256),b8 (Nat.mod (Nat.div w (Nat.pow 2 32)) 256),b8 (Nat.mod (Nat.div w (Nat.pow 2 40)) 256),b8 (Nat.mod (Nat.div w (Nat.pow 2 48)) 256),b8 (Nat.mod (Nat.div w (Nat.pow 2 56)) 256)]⟩
noncomputable def aaF (args:List Value):Option Value:=
 match args with
 |[.int .u64 w]=>Int.casesOn w (fun w=>some (aeW w)) (fun _=>none)
 |_=>none
theorem abI (w:Nat):x9 ((runN CB 3).1 407 [.int .u64 (Int.ofNat w)] bK)=some (aeW w):=by kernel_rfl
theorem Yh:∀ args v,nM args=true→aaF args=some v→∃ s1,(runN CB 3).1 407 args bK=some (v,s1):=by
 intro args v hfr h
 unfold aaF at h
 split at h
 ·rename_i w
  cases w with
  |negSucc w=>cases h
  |ofNat w=>cases h;exact oV (abI w)
 ·cases h
noncomputable def orr (a b:Nat):Nat:=Nat.lor (Nat.mod a 18446744073709551616) (Nat.mod b 18446744073709551616)
noncomputable def aeJ (b k:Nat):Nat:=Nat.mod (Nat.mul (Nat.mod b 18446744073709551616) (Nat.pow 2 k)) 18446744073709551616
noncomputable def uU (b0 b1 b2 b3 b4 b5 b6 b7:Nat):Nat:=orr (orr (orr (orr (orr (orr (orr (orr (0) (aeJ b0 0)) (aeJ b1 8)) (aeJ b2 16)) (aeJ b3 24)) (aeJ b4 32)) (aeJ b5 40)) (aeJ b6 48)) (aeJ b7 56)
noncomputable def Zt:List Value→Option (List Nat):=fun l=>List.rec (some []) (fun v _ ih=>match v with
 |.int .u8 n=>Int.casesOn n (fun n=>aj ih fun r=>some (n::r)) (fun _=>none)
 |_=>none) l
theorem FW:∀ {l:List Value} {r:List Nat},Zt l=some r→l=r.map b8
 |[],r,h=>by cases h;rfl
 |v::l,r,h=>by
  cases v <;> try (cases h;done)
  rename_i k n
  cases k <;> try (cases h;done)
  cases n with
  |negSucc n=>cases h
  |ofNat n=>
   obtain ⟨r',hr,h⟩:=ah.1 (show aj (Zt l) (fun r=>some (n::r))=some r from h)
   cases h
   rw [FW hr]
   rfl
noncomputable def apw:List Nat:=[25,33,41,49,57,65,73,81,89,97,105,113,121,129,137,145,153]
noncomputable def akZ (l:List Nat):Option Value:=
 match l with
 |[b0,b1,b2,b3,b4,b5,b6,b7]=>some (u (uU b0 b1 b2 b3 b4 b5 b6 b7))
 |_=>none
noncomputable def ahU (x:Value)(cs:List Value):Option (Value × List Value):=
 match x with
 |.slice (some a) n c=>guard (Nat.beq a.block 64&&a.spot.isNone&&Nat.beq n c&&Nat.beq (Nat.add n a.off) 161&&alG apw a.off) (aj (Zt (ng 8 (eY a.off cs))) fun l=>aj (akZ l) fun v=>some (v,cs))
 |_=>none
noncomputable def uP (f:Nat→Value)(k j:Nat)(l:List Value):List Value:=Nat.rec (motive:=fun _=>Nat→List Value) (fun _=>l) (fun _ ih j=>f j::ih (Nat.succ j)) k j
noncomputable def bs8 (b0 b1 b2 b3 b4 b5 b6 b7:Nat)(l:List Value):List Value:=b8 b0::b8 b1::b8 b2::b8 b3::b8 b4::b8 b5::b8 b6::b8 b7::l
theorem ahz (f:Nat→Value)(b0 b1 b2 b3 b4 b5 b6 b7:Nat)(post:List Value)(t:TypeId):ru ((runN CB 3).1 462 [.slice (some ⟨64,25,none⟩) 136 136] (kN (uP f 25 0 (bs8 b0 b1 b2 b3 b4 b5 b6 b7 post)) t))=some (u (uU b0 b1 b2 b3 b4 b5 b6 b7),(uP f 25 0 (bs8 b0 b1 b2 b3 b4 b5 b6 b7 post)),t,0):=by kernel_rfl
theorem agN (f:Nat→Value)(b0 b1 b2 b3 b4 b5 b6 b7:Nat)(post:List Value)(t:TypeId):ru ((runN CB 3).1 462 [.slice (some ⟨64,33,none⟩) 128 128] (kN (uP f 33 0 (bs8 b0 b1 b2 b3 b4 b5 b6 b7 post)) t))=some (u (uU b0 b1 b2 b3 b4 b5 b6 b7),(uP f 33 0 (bs8 b0 b1 b2 b3 b4 b5 b6 b7 post)),t,0):=by kernel_rfl
theorem ahh (f:Nat→Value)(b0 b1 b2 b3 b4 b5 b6 b7:Nat)(post:List Value)(t:TypeId):ru ((runN CB 3).1 462 [.slice (some ⟨64,41,none⟩) 120 120] (kN (uP f 41 0 (bs8 b0 b1 b2 b3 b4 b5 b6 b7 post)) t))=some (u (uU b0 b1 b2 b3 b4 b5 b6 b7),(uP f 41 0 (bs8 b0 b1 b2 b3 b4 b5 b6 b7 post)),t,0):=by kernel_rfl
theorem ahs (f:Nat→Value)(b0 b1 b2 b3 b4 b5 b6 b7:Nat)(post:List Value)(t:TypeId):ru ((runN CB 3).1 462 [.slice (some ⟨64,49,none⟩) 112 112] (kN (uP f 49 0 (bs8 b0 b1 b2 b3 b4 b5 b6 b7 post)) t))=some (u (uU b0 b1 b2 b3 b4 b5 b6 b7),(uP f 49 0 (bs8 b0 b1 b2 b3 b4 b5 b6 b7 post)),t,0):=by kernel_rfl
theorem ahf (f:Nat→Value)(b0 b1 b2 b3 b4 b5 b6 b7:Nat)(post:List Value)(t:TypeId):ru ((runN CB 3).1 462 [.slice (some ⟨64,57,none⟩) 104 104] (kN (uP f 57 0 (bs8 b0 b1 b2 b3 b4 b5 b6 b7 post)) t))=some (u (uU b0 b1 b2 b3 b4 b5 b6 b7),(uP f 57 0 (bs8 b0 b1 b2 b3 b4 b5 b6 b7 post)),t,0):=by kernel_rfl
theorem agG (f:Nat→Value)(b0 b1 b2 b3 b4 b5 b6 b7:Nat)(post:List Value)(t:TypeId):ru ((runN CB 3).1 462 [.slice (some ⟨64,65,none⟩) 96 96] (kN (uP f 65 0 (bs8 b0 b1 b2 b3 b4 b5 b6 b7 post)) t))=some (u (uU b0 b1 b2 b3 b4 b5 b6 b7),(uP f 65 0 (bs8 b0 b1 b2 b3 b4 b5 b6 b7 post)),t,0):=by kernel_rfl
theorem afx (f:Nat→Value)(b0 b1 b2 b3 b4 b5 b6 b7:Nat)(post:List Value)(t:TypeId):ru ((runN CB 3).1 462 [.slice (some ⟨64,73,none⟩) 88 88] (kN (uP f 73 0 (bs8 b0 b1 b2 b3 b4 b5 b6 b7 post)) t))=some (u (uU b0 b1 b2 b3 b4 b5 b6 b7),(uP f 73 0 (bs8 b0 b1 b2 b3 b4 b5 b6 b7 post)),t,0):=by kernel_rfl
theorem ahM (f:Nat→Value)(b0 b1 b2 b3 b4 b5 b6 b7:Nat)(post:List Value)(t:TypeId):ru ((runN CB 3).1 462 [.slice (some ⟨64,81,none⟩) 80 80] (kN (uP f 81 0 (bs8 b0 b1 b2 b3 b4 b5 b6 b7 post)) t))=some (u (uU b0 b1 b2 b3 b4 b5 b6 b7),(uP f 81 0 (bs8 b0 b1 b2 b3 b4 b5 b6 b7 post)),t,0):=by kernel_rfl
theorem afS (f:Nat→Value)(b0 b1 b2 b3 b4 b5 b6 b7:Nat)(post:List Value)(t:TypeId):ru ((runN CB 3).1 462 [.slice (some ⟨64,89,none⟩) 72 72] (kN (uP f 89 0 (bs8 b0 b1 b2 b3 b4 b5 b6 b7 post)) t))=some (u (uU b0 b1 b2 b3 b4 b5 b6 b7),(uP f 89 0 (bs8 b0 b1 b2 b3 b4 b5 b6 b7 post)),t,0):=by kernel_rfl
theorem af5 (f:Nat→Value)(b0 b1 b2 b3 b4 b5 b6 b7:Nat)(post:List Value)(t:TypeId):ru ((runN CB 3).1 462 [.slice (some ⟨64,97,none⟩) 64 64] (kN (uP f 97 0 (bs8 b0 b1 b2 b3 b4 b5 b6 b7 post)) t))=some (u (uU b0 b1 b2 b3 b4 b5 b6 b7),(uP f 97 0 (bs8 b0 b1 b2 b3 b4 b5 b6 b7 post)),t,0):=by kernel_rfl
theorem adK (f:Nat→Value)(b0 b1 b2 b3 b4 b5 b6 b7:Nat)(post:List Value)(t:TypeId):ru ((runN CB 3).1 462 [.slice (some ⟨64,105,none⟩) 56 56] (kN (uP f 105 0 (bs8 b0 b1 b2 b3 b4 b5 b6 b7 post)) t))=some (u (uU b0 b1 b2 b3 b4 b5 b6 b7),(uP f 105 0 (bs8 b0 b1 b2 b3 b4 b5 b6 b7 post)),t,0):=by kernel_rfl
theorem acu (f:Nat→Value)(b0 b1 b2 b3 b4 b5 b6 b7:Nat)(post:List Value)(t:TypeId):ru ((runN CB 3).1 462 [.slice (some ⟨64,113,none⟩) 48 48] (kN (uP f 113 0 (bs8 b0 b1 b2 b3 b4 b5 b6 b7 post)) t))=some (u (uU b0 b1 b2 b3 b4 b5 b6 b7),(uP f 113 0 (bs8 b0 b1 b2 b3 b4 b5 b6 b7 post)),t,0):=by kernel_rfl
theorem acY (f:Nat→Value)(b0 b1 b2 b3 b4 b5 b6 b7:Nat)(post:List Value)(t:TypeId):ru ((runN CB 3).1 462 [.slice (some ⟨64,121,none⟩) 40 40] (kN (uP f 121 0 (bs8 b0 b1 b2 b3 b4 b5 b6 b7 post)) t))=some (u (uU b0 b1 b2 b3 b4 b5 b6 b7),(uP f 121 0 (bs8 b0 b1 b2 b3 b4 b5 b6 b7 post)),t,0):=by kernel_rfl
theorem adZ (f:Nat→Value)(b0 b1 b2 b3 b4 b5 b6 b7:Nat)(post:List Value)(t:TypeId):ru ((runN CB 3).1 462 [.slice (some ⟨64,129,none⟩) 32 32] (kN (uP f 129 0 (bs8 b0 b1 b2 b3 b4 b5 b6 b7 post)) t))=some (u (uU b0 b1 b2 b3 b4 b5 b6 b7),(uP f 129 0 (bs8 b0 b1 b2 b3 b4 b5 b6 b7 post)),t,0):=by kernel_rfl
theorem adf (f:Nat→Value)(b0 b1 b2 b3 b4 b5 b6 b7:Nat)(post:List Value)(t:TypeId):ru ((runN CB 3).1 462 [.slice (some ⟨64,137,none⟩) 24 24] (kN (uP f 137 0 (bs8 b0 b1 b2 b3 b4 b5 b6 b7 post)) t))=some (u (uU b0 b1 b2 b3 b4 b5 b6 b7),(uP f 137 0 (bs8 b0 b1 b2 b3 b4 b5 b6 b7 post)),t,0):=by kernel_rfl
theorem adV (f:Nat→Value)(b0 b1 b2 b3 b4 b5 b6 b7:Nat)(post:List Value)(t:TypeId):ru ((runN CB 3).1 462 [.slice (some ⟨64,145,none⟩) 16 16] (kN (uP f 145 0 (bs8 b0 b1 b2 b3 b4 b5 b6 b7 post)) t))=some (u (uU b0 b1 b2 b3 b4 b5 b6 b7),(uP f 145 0 (bs8 b0 b1 b2 b3 b4 b5 b6 b7 post)),t,0):=by kernel_rfl
theorem acP (f:Nat→Value)(b0 b1 b2 b3 b4 b5 b6 b7:Nat)(post:List Value)(t:TypeId):ru ((runN CB 3).1 462 [.slice (some ⟨64,153,none⟩) 8 8] (kN (uP f 153 0 (bs8 b0 b1 b2 b3 b4 b5 b6 b7 post)) t))=some (u (uU b0 b1 b2 b3 b4 b5 b6 b7),(uP f 153 0 (bs8 b0 b1 b2 b3 b4 b5 b6 b7 post)),t,0):=by kernel_rfl
theorem Zd (cs:List Value)(k:Nat)(h:k≤cs.length):∃ f:Nat→Value,cs=(List.range k).map f++cs.drop k:=by
 refine ⟨fun j=>cs.getD j .nilFunc,?_⟩
 apply List.ext_getElem?
 intro j
 by_cases hj:j<k
 ·rw [List.getElem?_append_left (by simpa using hj)]
  simp [List.getElem?_range hj,List.getD,List.getElem?_eq_getElem (show j<cs.length by omega)]
 ·rw [List.getElem?_append_right (by simpa using hj)]
  simp
  congr 1
  omega
theorem aaC:∀ x cs t r,flatAll cs=true→ahU x cs=some r→∃ s1,(runN CB 3).1 462 [x] (kN cs t)=some (r.1,s1)∧s1.cells 64=some (r.2,t,0):=by
 intro x cs t r hfl h
 unfold ahU at h
 split at h
 ·rename_i a n c
  obtain ⟨hg,h⟩:=au.1 h
  obtain ⟨l,hl,h⟩:=ah.1 h
  obtain ⟨v,hv,h⟩:=ah.1 h
  cases h
  simp only [Bool.and_eq_true] at hg
  obtain ⟨⟨⟨⟨g1,g2⟩,g3⟩,g4⟩,g5⟩:=hg
  obtain ⟨b,o,sp⟩:=a
  have h1:b=64:=Nat.eq_of_beq_eq_true g1
  have h2:n=c:=Nat.eq_of_beq_eq_true g3
  have h4:n+o=161:=Nat.eq_of_beq_eq_true g4
  have h3:sp=none:=by cases sp with
   |none=>rfl
   |some s=>exact Bool.noConfusion g2
  subst h1 h2 h3
  unfold akZ at hv
  split at hv
  ·rename_i b0 b1 b2 b3 b4 b5 b6 b7
   cases hv
   have hb:=FW hl
   rw [lC,iY] at hb
   have hd:cs.drop o=b8 b0::b8 b1::b8 b2::b8 b3::b8 b4::b8 b5::b8 b6::b8 b7::(cs.drop o).drop 8:=by
    have:=List.take_append_drop 8 (cs.drop o)
    rw [hb] at this
    exact this.symm
   have hlen:o≤cs.length:=by
    have:(cs.drop o).length≠0:=by rw [hd];simp
    simp at this
    omega
   obtain ⟨f,hf⟩:=Zd cs o hlen
   generalize hp:(cs.drop o).drop 8=post at hd
   rw [hd] at hf
   have hm:=Ah g5
   unfold apw at hm
   simp only [List.mem_cons,List.not_mem_nil,or_false] at hm
   rcases hm with rfl|rfl|rfl|rfl|rfl|rfl|rfl|rfl|rfl|rfl|rfl|rfl|rfl|rfl|rfl|rfl|rfl
   ·obtain rfl:n=136:=by omega
    rw [hf]
    exact dB (ahz f b0 b1 b2 b3 b4 b5 b6 b7 post t)
   ·obtain rfl:n=128:=by omega
    rw [hf]
    exact dB (agN f b0 b1 b2 b3 b4 b5 b6 b7 post t)
   ·obtain rfl:n=120:=by omega
    rw [hf]
    exact dB (ahh f b0 b1 b2 b3 b4 b5 b6 b7 post t)
   ·obtain rfl:n=112:=by omega
    rw [hf]
    exact dB (ahs f b0 b1 b2 b3 b4 b5 b6 b7 post t)
   ·obtain rfl:n=104:=by omega
    rw [hf]
    exact dB (ahf f b0 b1 b2 b3 b4 b5 b6 b7 post t)
   ·obtain rfl:n=96:=by omega
    rw [hf]
    exact dB (agG f b0 b1 b2 b3 b4 b5 b6 b7 post t)
   ·obtain rfl:n=88:=by omega
    rw [hf]
    exact dB (afx f b0 b1 b2 b3 b4 b5 b6 b7 post t)
   ·obtain rfl:n=80:=by omega
    rw [hf]
    exact dB (ahM f b0 b1 b2 b3 b4 b5 b6 b7 post t)
   ·obtain rfl:n=72:=by omega
    rw [hf]
    exact dB (afS f b0 b1 b2 b3 b4 b5 b6 b7 post t)
   ·obtain rfl:n=64:=by omega
    rw [hf]
    exact dB (af5 f b0 b1 b2 b3 b4 b5 b6 b7 post t)
   ·obtain rfl:n=56:=by omega
    rw [hf]
    exact dB (adK f b0 b1 b2 b3 b4 b5 b6 b7 post t)
   ·obtain rfl:n=48:=by omega
    rw [hf]
    exact dB (acu f b0 b1 b2 b3 b4 b5 b6 b7 post t)
   ·obtain rfl:n=40:=by omega
    rw [hf]
    exact dB (acY f b0 b1 b2 b3 b4 b5 b6 b7 post t)
   ·obtain rfl:n=32:=by omega
    rw [hf]
    exact dB (adZ f b0 b1 b2 b3 b4 b5 b6 b7 post t)
   ·obtain rfl:n=24:=by omega
    rw [hf]
    exact dB (adf f b0 b1 b2 b3 b4 b5 b6 b7 post t)
   ·obtain rfl:n=16:=by omega
    rw [hf]
    exact dB (adV f b0 b1 b2 b3 b4 b5 b6 b7 post t)
   ·obtain rfl:n=8:=by omega
    rw [hf]
    exact dB (acP f b0 b1 b2 b3 b4 b5 b6 b7 post t)
  ·cases hv
 ·cases h
end Go.Ax
