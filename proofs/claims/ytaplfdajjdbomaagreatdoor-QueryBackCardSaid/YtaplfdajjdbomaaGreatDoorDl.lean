import Derived.Test.YtaplfdajjdbomaaGreatDoorDk
open Nat renaming eq_of_beq_eq_true→qaa,mod→qab,pow→qac,div→qad
set_option maxRecDepth 1000000
namespace Go.Ax
open Go Go.Proofs
noncomputable def rcV:Value:=.agg ⟨[u 1,u 32898,u 9223372036854808714,u 9223372039002292224,u 32907,u 2147483649,u 9223372039002292353,u 9223372036854808585,u 138,u 136,u 2147516425,u 2147483658,u 2147516555,u 9223372036854775947,u 9223372036854808713,u 9223372036854808579,u 9223372036854808578,u 9223372036854775936,u 32778,u 9223372039002259466,u 9223372039002292353,u 9223372036854808704,u 2147483649,u 9223372039002292232]⟩
noncomputable def rcG (args:List Value):Option Value:=
 match args with
 |[]=>some rcV
 |_=>none
theorem ars:BQ ((um CP 12).1 521 [] dD)=some rcV:=by kernel_rfl
theorem aoZ:∀ args v,vM args=true→rcG args=some v→∃ s1,(runN CP 12).1 521 args dD=some (v,s1):=by
 intro args v hfr h
 unfold rcG at h
 split at h
 ·cases h
  rw [←BD]
  exact rC ars
 ·cases h
noncomputable def b8 (n:Nat):Value:=.int .u8 (Int.ofNat n)
noncomputable def amE (w:Nat):Value:=.agg ⟨[b8 (qab (qad w (qac 2 0)) 256),b8 (qab (qad w (qac 2 8)) 256),b8 (qab (qad w (qac 2 16)) 256),b8 (qab (qad w (qac 2 24)) 256),b8 (qab (qad w (qac 2 32)) 256),b8 (qab (qad w (qac 2 40)) 256),b8 (qab (qad w (qac 2 48)) 256),b8 (qab (qad w (qac 2 56)) 256)]⟩
noncomputable def aii (args:List Value):Option Value:=
 match args with
 |[.int .u64 w]=>Int.casesOn w (fun w=>some (amE w)) (fun _=>none)
 |_=>none
theorem aiN (w:Nat):BQ ((runN CB 3).1 268 [.int .u64 (Int.ofNat w)] dD)=some (amE w):=by kernel_rfl
theorem adE:∀ args v,vM args=true→aii args=some v→∃ s1,(runN CB 3).1 268 args dD=some (v,s1):=by
 intro args v hfr h
 unfold aii at h
 split at h
 ·rename_i w
  cases w with
  |negSucc w=>cases h
  |ofNat w=>cases h;exact rC (aiN w)
 ·cases h
noncomputable def orr (a b:Nat):Nat:=Nat.lor (qab a 18446744073709551616) (qab b 18446744073709551616)
noncomputable def amy (b k:Nat):Nat:=qab (Nat.mul (qab b 18446744073709551616) (qac 2 k)) 18446744073709551616
noncomputable def zi (b0 b1 b2 b3 b4 b5 b6 b7:Nat):Nat:=orr (orr (orr (orr (orr (orr (orr (orr (0) (amy b0 0)) (amy b1 8)) (amy b2 16)) (amy b3 24)) (amy b4 32)) (amy b5 40)) (amy b6 48)) (amy b7 56)
noncomputable def ahr:List Value→Option (List Nat):=fun l=>List.rec (some []) (fun v _ ih=>match v with
 |.int .u8 n=>Int.casesOn n (fun n=>aj ih fun r=>some (n::r)) (fun _=>none)
 |_=>none) l
theorem LV:∀ {l:List Value} {r:List Nat},ahr l=some r→l=r.map b8
 |[],r,h=>by cases h;rfl
 |v::l,r,h=>by
  cases v <;> try (cases h;done)
  rename_i k n
  cases k <;> try (cases h;done)
  cases n with
  |negSucc n=>cases h
  |ofNat n=>
   obtain ⟨r',hr,h⟩:=ah.1 (show aj (ahr l) (fun r=>some (n::r))=some r from h)
   cases h
   rw [LV hr]
   rfl
noncomputable def ax1:List Nat:=[25,33,41,49,57,65,73,81,89,97,105,113,121,129,137,145,153]
noncomputable def arU (l:List Nat):Option Value:=
 match l with
 |[b0,b1,b2,b3,b4,b5,b6,b7]=>some (u (zi b0 b1 b2 b3 b4 b5 b6 b7))
 |_=>none
noncomputable def aoQ (x:Value)(cs:List Value):Option (Value × List Value):=
 match x with
 |.slice (some a) n c=>guard (Nat.beq a.block 64&&a.spot.isNone&&Nat.beq n c&&Nat.beq (Nat.add n a.off) 161&&asR ax1 a.off) (aj (ahr (aA 8 (bJ a.off cs))) fun l=>aj (arU l) fun v=>some (v,cs))
 |_=>none
noncomputable def uq (f:Nat→Value)(k j:Nat)(l:List Value):List Value:=Nat.rec (motive:=fun _=>Nat→List Value) (fun _=>l) (fun _ ih j=>f j::ih (Nat.succ j)) k j
noncomputable def bs8 (b0 b1 b2 b3 b4 b5 b6 b7:Nat)(l:List Value):List Value:=b8 b0::b8 b1::b8 b2::b8 b3::b8 b4::b8 b5::b8 b6::b8 b7::l
theorem aqr (f:Nat→Value)(b0 b1 b2 b3 b4 b5 b6 b7:Nat)(post:List Value)(t:TypeId):wH ((runN CB 3).1 448 [.slice (some ⟨64,25,none⟩) 136 136] (nD (uq f 25 0 (bs8 b0 b1 b2 b3 b4 b5 b6 b7 post)) t))=some (u (zi b0 b1 b2 b3 b4 b5 b6 b7),(uq f 25 0 (bs8 b0 b1 b2 b3 b4 b5 b6 b7 post)),t,0):=by kernel_rfl
theorem aol (f:Nat→Value)(b0 b1 b2 b3 b4 b5 b6 b7:Nat)(post:List Value)(t:TypeId):wH ((runN CB 3).1 448 [.slice (some ⟨64,33,none⟩) 128 128] (nD (uq f 33 0 (bs8 b0 b1 b2 b3 b4 b5 b6 b7 post)) t))=some (u (zi b0 b1 b2 b3 b4 b5 b6 b7),(uq f 33 0 (bs8 b0 b1 b2 b3 b4 b5 b6 b7 post)),t,0):=by kernel_rfl
theorem aob (f:Nat→Value)(b0 b1 b2 b3 b4 b5 b6 b7:Nat)(post:List Value)(t:TypeId):wH ((runN CB 3).1 448 [.slice (some ⟨64,41,none⟩) 120 120] (nD (uq f 41 0 (bs8 b0 b1 b2 b3 b4 b5 b6 b7 post)) t))=some (u (zi b0 b1 b2 b3 b4 b5 b6 b7),(uq f 41 0 (bs8 b0 b1 b2 b3 b4 b5 b6 b7 post)),t,0):=by kernel_rfl
theorem aoM (f:Nat→Value)(b0 b1 b2 b3 b4 b5 b6 b7:Nat)(post:List Value)(t:TypeId):wH ((runN CB 3).1 448 [.slice (some ⟨64,49,none⟩) 112 112] (nD (uq f 49 0 (bs8 b0 b1 b2 b3 b4 b5 b6 b7 post)) t))=some (u (zi b0 b1 b2 b3 b4 b5 b6 b7),(uq f 49 0 (bs8 b0 b1 b2 b3 b4 b5 b6 b7 post)),t,0):=by kernel_rfl
theorem aoD (f:Nat→Value)(b0 b1 b2 b3 b4 b5 b6 b7:Nat)(post:List Value)(t:TypeId):wH ((runN CB 3).1 448 [.slice (some ⟨64,57,none⟩) 104 104] (nD (uq f 57 0 (bs8 b0 b1 b2 b3 b4 b5 b6 b7 post)) t))=some (u (zi b0 b1 b2 b3 b4 b5 b6 b7),(uq f 57 0 (bs8 b0 b1 b2 b3 b4 b5 b6 b7 post)),t,0):=by kernel_rfl
theorem aoI (f:Nat→Value)(b0 b1 b2 b3 b4 b5 b6 b7:Nat)(post:List Value)(t:TypeId):wH ((runN CB 3).1 448 [.slice (some ⟨64,65,none⟩) 96 96] (nD (uq f 65 0 (bs8 b0 b1 b2 b3 b4 b5 b6 b7 post)) t))=some (u (zi b0 b1 b2 b3 b4 b5 b6 b7),(uq f 65 0 (bs8 b0 b1 b2 b3 b4 b5 b6 b7 post)),t,0):=by kernel_rfl
theorem aqg (f:Nat→Value)(b0 b1 b2 b3 b4 b5 b6 b7:Nat)(post:List Value)(t:TypeId):wH ((runN CB 3).1 448 [.slice (some ⟨64,73,none⟩) 88 88] (nD (uq f 73 0 (bs8 b0 b1 b2 b3 b4 b5 b6 b7 post)) t))=some (u (zi b0 b1 b2 b3 b4 b5 b6 b7),(uq f 73 0 (bs8 b0 b1 b2 b3 b4 b5 b6 b7 post)),t,0):=by kernel_rfl
theorem anw (f:Nat→Value)(b0 b1 b2 b3 b4 b5 b6 b7:Nat)(post:List Value)(t:TypeId):wH ((runN CB 3).1 448 [.slice (some ⟨64,81,none⟩) 80 80] (nD (uq f 81 0 (bs8 b0 b1 b2 b3 b4 b5 b6 b7 post)) t))=some (u (zi b0 b1 b2 b3 b4 b5 b6 b7),(uq f 81 0 (bs8 b0 b1 b2 b3 b4 b5 b6 b7 post)),t,0):=by kernel_rfl
theorem an6 (f:Nat→Value)(b0 b1 b2 b3 b4 b5 b6 b7:Nat)(post:List Value)(t:TypeId):wH ((runN CB 3).1 448 [.slice (some ⟨64,89,none⟩) 72 72] (nD (uq f 89 0 (bs8 b0 b1 b2 b3 b4 b5 b6 b7 post)) t))=some (u (zi b0 b1 b2 b3 b4 b5 b6 b7),(uq f 89 0 (bs8 b0 b1 b2 b3 b4 b5 b6 b7 post)),t,0):=by kernel_rfl
theorem anX (f:Nat→Value)(b0 b1 b2 b3 b4 b5 b6 b7:Nat)(post:List Value)(t:TypeId):wH ((runN CB 3).1 448 [.slice (some ⟨64,97,none⟩) 64 64] (nD (uq f 97 0 (bs8 b0 b1 b2 b3 b4 b5 b6 b7 post)) t))=some (u (zi b0 b1 b2 b3 b4 b5 b6 b7),(uq f 97 0 (bs8 b0 b1 b2 b3 b4 b5 b6 b7 post)),t,0):=by kernel_rfl
theorem amd (f:Nat→Value)(b0 b1 b2 b3 b4 b5 b6 b7:Nat)(post:List Value)(t:TypeId):wH ((runN CB 3).1 448 [.slice (some ⟨64,105,none⟩) 56 56] (nD (uq f 105 0 (bs8 b0 b1 b2 b3 b4 b5 b6 b7 post)) t))=some (u (zi b0 b1 b2 b3 b4 b5 b6 b7),(uq f 105 0 (bs8 b0 b1 b2 b3 b4 b5 b6 b7 post)),t,0):=by kernel_rfl
theorem akc (f:Nat→Value)(b0 b1 b2 b3 b4 b5 b6 b7:Nat)(post:List Value)(t:TypeId):wH ((runN CB 3).1 448 [.slice (some ⟨64,113,none⟩) 48 48] (nD (uq f 113 0 (bs8 b0 b1 b2 b3 b4 b5 b6 b7 post)) t))=some (u (zi b0 b1 b2 b3 b4 b5 b6 b7),(uq f 113 0 (bs8 b0 b1 b2 b3 b4 b5 b6 b7 post)),t,0):=by kernel_rfl
theorem alq (f:Nat→Value)(b0 b1 b2 b3 b4 b5 b6 b7:Nat)(post:List Value)(t:TypeId):wH ((runN CB 3).1 448 [.slice (some ⟨64,121,none⟩) 40 40] (nD (uq f 121 0 (bs8 b0 b1 b2 b3 b4 b5 b6 b7 post)) t))=some (u (zi b0 b1 b2 b3 b4 b5 b6 b7),(uq f 121 0 (bs8 b0 b1 b2 b3 b4 b5 b6 b7 post)),t,0):=by kernel_rfl
theorem akv (f:Nat→Value)(b0 b1 b2 b3 b4 b5 b6 b7:Nat)(post:List Value)(t:TypeId):wH ((runN CB 3).1 448 [.slice (some ⟨64,129,none⟩) 32 32] (nD (uq f 129 0 (bs8 b0 b1 b2 b3 b4 b5 b6 b7 post)) t))=some (u (zi b0 b1 b2 b3 b4 b5 b6 b7),(uq f 129 0 (bs8 b0 b1 b2 b3 b4 b5 b6 b7 post)),t,0):=by kernel_rfl
theorem akt (f:Nat→Value)(b0 b1 b2 b3 b4 b5 b6 b7:Nat)(post:List Value)(t:TypeId):wH ((runN CB 3).1 448 [.slice (some ⟨64,137,none⟩) 24 24] (nD (uq f 137 0 (bs8 b0 b1 b2 b3 b4 b5 b6 b7 post)) t))=some (u (zi b0 b1 b2 b3 b4 b5 b6 b7),(uq f 137 0 (bs8 b0 b1 b2 b3 b4 b5 b6 b7 post)),t,0):=by kernel_rfl
theorem alS (f:Nat→Value)(b0 b1 b2 b3 b4 b5 b6 b7:Nat)(post:List Value)(t:TypeId):wH ((runN CB 3).1 448 [.slice (some ⟨64,145,none⟩) 16 16] (nD (uq f 145 0 (bs8 b0 b1 b2 b3 b4 b5 b6 b7 post)) t))=some (u (zi b0 b1 b2 b3 b4 b5 b6 b7),(uq f 145 0 (bs8 b0 b1 b2 b3 b4 b5 b6 b7 post)),t,0):=by kernel_rfl
theorem ali (f:Nat→Value)(b0 b1 b2 b3 b4 b5 b6 b7:Nat)(post:List Value)(t:TypeId):wH ((runN CB 3).1 448 [.slice (some ⟨64,153,none⟩) 8 8] (nD (uq f 153 0 (bs8 b0 b1 b2 b3 b4 b5 b6 b7 post)) t))=some (u (zi b0 b1 b2 b3 b4 b5 b6 b7),(uq f 153 0 (bs8 b0 b1 b2 b3 b4 b5 b6 b7 post)),t,0):=by kernel_rfl
theorem aiJ (cs:List Value)(k:Nat)(h:k≤cs.length):∃ f:Nat→Value,cs=(List.range k).map f++cs.drop k:=by
 refine ⟨fun j=>cs.getD j .nilFunc,?_⟩
 apply List.ext_getElem?
 intro j
 by_cases hj:j<k
 ·rw [List.getElem?_append_left (by simpa using hj)]
  simp [List.getElem?_range hj,List.getD,List.getElem?_eq_getElem (show j<cs.length by omega)]
 ·rw [List.getElem?_append_right (by simpa using hj)]
  simp
  congr 1
  omega
theorem ajh:∀ x cs t r,flatAll cs=true→aoQ x cs=some r→∃ s1,(runN CB 3).1 448 [x] (nD cs t)=some (r.1,s1)∧s1.cells 64=some (r.2,t,0):=by
 intro x cs t r hfl h
 unfold aoQ at h
 split at h
 ·rename_i a n c
  obtain ⟨hg,h⟩:=au.1 h
  obtain ⟨l,hl,h⟩:=ah.1 h
  obtain ⟨v,hv,h⟩:=ah.1 h
  cases h
  simp only [Bool.and_eq_true] at hg
  obtain ⟨⟨⟨⟨g1,g2⟩,g3⟩,g4⟩,g5⟩:=hg
  obtain ⟨b,o,sp⟩:=a
  have h1:b=64:=qaa g1
  have h2:n=c:=qaa g3
  have h4:n+o=161:=qaa g4
  have h3:sp=none:=by cases sp with
   |none=>rfl
   |some s=>exact Bool.noConfusion g2
  subst h1 h2 h3
  unfold arU at hv
  split at hv
  ·rename_i b0 b1 b2 b3 b4 b5 b6 b7
   cases hv
   have hb:=LV hl
   rw [qj,gu] at hb
   have hd:cs.drop o=b8 b0::b8 b1::b8 b2::b8 b3::b8 b4::b8 b5::b8 b6::b8 b7::(cs.drop o).drop 8:=by
    have:=List.take_append_drop 8 (cs.drop o)
    rw [hb] at this
    exact this.symm
   have hlen:o≤cs.length:=by
    have:(cs.drop o).length≠0:=by rw [hd];simp
    simp at this
    omega
   obtain ⟨f,hf⟩:=aiJ cs o hlen
   generalize hp:(cs.drop o).drop 8=post at hd
   rw [hd] at hf
   have hm:=EU g5
   unfold ax1 at hm
   simp only [List.mem_cons,List.not_mem_nil,or_false] at hm
   rcases hm with rfl|rfl|rfl|rfl|rfl|rfl|rfl|rfl|rfl|rfl|rfl|rfl|rfl|rfl|rfl|rfl|rfl
   ·obtain rfl:n=136:=by omega
    rw [hf]
    exact eG (aqr f b0 b1 b2 b3 b4 b5 b6 b7 post t)
   ·obtain rfl:n=128:=by omega
    rw [hf]
    exact eG (aol f b0 b1 b2 b3 b4 b5 b6 b7 post t)
   ·obtain rfl:n=120:=by omega
    rw [hf]
    exact eG (aob f b0 b1 b2 b3 b4 b5 b6 b7 post t)
   ·obtain rfl:n=112:=by omega
    rw [hf]
    exact eG (aoM f b0 b1 b2 b3 b4 b5 b6 b7 post t)
   ·obtain rfl:n=104:=by omega
    rw [hf]
    exact eG (aoD f b0 b1 b2 b3 b4 b5 b6 b7 post t)
   ·obtain rfl:n=96:=by omega
    rw [hf]
    exact eG (aoI f b0 b1 b2 b3 b4 b5 b6 b7 post t)
   ·obtain rfl:n=88:=by omega
    rw [hf]
    exact eG (aqg f b0 b1 b2 b3 b4 b5 b6 b7 post t)
   ·obtain rfl:n=80:=by omega
    rw [hf]
    exact eG (anw f b0 b1 b2 b3 b4 b5 b6 b7 post t)
   ·obtain rfl:n=72:=by omega
    rw [hf]
    exact eG (an6 f b0 b1 b2 b3 b4 b5 b6 b7 post t)
   ·obtain rfl:n=64:=by omega
    rw [hf]
    exact eG (anX f b0 b1 b2 b3 b4 b5 b6 b7 post t)
   ·obtain rfl:n=56:=by omega
    rw [hf]
    exact eG (amd f b0 b1 b2 b3 b4 b5 b6 b7 post t)
   ·obtain rfl:n=48:=by omega
    rw [hf]
    exact eG (akc f b0 b1 b2 b3 b4 b5 b6 b7 post t)
   ·obtain rfl:n=40:=by omega
    rw [hf]
    exact eG (alq f b0 b1 b2 b3 b4 b5 b6 b7 post t)
   ·obtain rfl:n=32:=by omega
    rw [hf]
    exact eG (akv f b0 b1 b2 b3 b4 b5 b6 b7 post t)
   ·obtain rfl:n=24:=by omega
    rw [hf]
    exact eG (akt f b0 b1 b2 b3 b4 b5 b6 b7 post t)
   ·obtain rfl:n=16:=by omega
    rw [hf]
    exact eG (alS f b0 b1 b2 b3 b4 b5 b6 b7 post t)
   ·obtain rfl:n=8:=by omega
    rw [hf]
    exact eG (ali f b0 b1 b2 b3 b4 b5 b6 b7 post t)
  ·cases hv
 ·cases h
end Go.Ax
