import Derived.Test.YtgpfgjhbiehafaaGreatDoorDh
set_option maxRecDepth 1000000
namespace Go.Ax
open Go Go.Proofs
noncomputable def u (n:Nat):Value:=.int .u64 (Int.ofNat n)
noncomputable def xr (a b:Nat):Nat:=Nat.xor (Nat.mod a 18446744073709551616) (Nat.mod b 18446744073709551616)
noncomputable def an (a b:Nat):Nat:=Nat.land (Nat.mod a 18446744073709551616) (Nat.mod b 18446744073709551616)
noncomputable def nt (a:Nat):Nat:=Nat.sub 18446744073709551615 (Nat.mod a 18446744073709551616)
noncomputable def x5 (a b c d e:Nat):Nat:=xr (xr (xr (xr a b) c) d) e
noncomputable def aal:List Value→Option (List Nat):=fun l=>List.rec (some []) (fun v _ ih=>match v with
 |.int .u64 n=>Int.casesOn n (fun n=>fK n fun n=>aj ih fun r=>some (n::r)) (fun _=>none)
 |_=>none) l
theorem Hr:∀ {l:List Value} {r:List Nat},aal l=some r→l=r.map u
 |[],r,h=>by cases h;rfl
 |v::l,r,h=>by
  cases v <;> try (cases h;done)
  rename_i k n
  cases k <;> try (cases h;done)
  cases n with
  |negSucc n=>cases h
  |ofNat n=>
   have h:(fK n fun n=>aj (aal l) fun r=>some (n::r))=some r:=h
   rw [kR] at h
   obtain ⟨r',hr,h⟩:=ah.1 h
   cases h
   rw [Hr hr]
   rfl
noncomputable def aak (l:List Nat):Option (List Nat):=
 match l with
 |[a0,a1,a2,a3,a4,a5,a6,a7,a8,a9,a10,a11,a12,a13,a14,a15,a16,a17,a18,a19,a20,a21,a22,a23,a24]=>fK (x5 a0 a5 a10 a15 a20) fun c0=>fK (x5 a1 a6 a11 a16 a21) fun c1=>fK (x5 a2 a7 a12 a17 a22) fun c2=>fK (x5 a3 a8 a13 a18 a23) fun c3=>fK (x5 a4 a9 a14 a19 a24) fun c4=>fK (fD c0 1) fun d0=>fK (fD c1 1) fun d1=>fK (fD c2 1) fun d2=>fK (fD c3 1) fun d3=>fK (fD c4 1) fun d4=>some [xr a0 (xr c4 d1),xr a1 (xr c0 d2),xr a2 (xr c1 d3),xr a3 (xr c2 d4),xr a4 (xr c3 d0),xr a5 (xr c4 d1),xr a6 (xr c0 d2),xr a7 (xr c1 d3),xr a8 (xr c2 d4),xr a9 (xr c3 d0),xr a10 (xr c4 d1),xr a11 (xr c0 d2),xr a12 (xr c1 d3),xr a13 (xr c2 d4),xr a14 (xr c3 d0),xr a15 (xr c4 d1),xr a16 (xr c0 d2),xr a17 (xr c1 d3),xr a18 (xr c2 d4),xr a19 (xr c3 d0),xr a20 (xr c4 d1),xr a21 (xr c0 d2),xr a22 (xr c1 d3),xr a23 (xr c2 d4),xr a24 (xr c3 d0)]
 |_=>none
noncomputable def amX (l:List Nat):Option (List Nat):=
 match l with
 |[a0,a1,a2,a3,a4,a5,a6,a7,a8,a9,a10,a11,a12,a13,a14,a15,a16,a17,a18,a19,a20,a21,a22,a23,a24]=>some [fD a0 0,fD a6 44,fD a12 43,fD a18 21,fD a24 14,fD a3 28,fD a9 20,fD a10 3,fD a16 45,fD a22 61,fD a1 1,fD a7 6,fD a13 25,fD a19 8,fD a20 18,fD a4 27,fD a5 36,fD a11 10,fD a17 15,fD a23 56,fD a2 62,fD a8 55,fD a14 39,fD a15 41,fD a21 2]
 |_=>none
noncomputable def aoQ (l:List Nat):Option (List Nat):=
 match l with
 |[a0,a1,a2,a3,a4,a5,a6,a7,a8,a9,a10,a11,a12,a13,a14,a15,a16,a17,a18,a19,a20,a21,a22,a23,a24]=>some [xr a0 (an (nt a1) a2),xr a1 (an (nt a2) a3),xr a2 (an (nt a3) a4),xr a3 (an (nt a4) a0),xr a4 (an (nt a0) a1),xr a5 (an (nt a6) a7),xr a6 (an (nt a7) a8),xr a7 (an (nt a8) a9),xr a8 (an (nt a9) a5),xr a9 (an (nt a5) a6),xr a10 (an (nt a11) a12),xr a11 (an (nt a12) a13),xr a12 (an (nt a13) a14),xr a13 (an (nt a14) a10),xr a14 (an (nt a10) a11),xr a15 (an (nt a16) a17),xr a16 (an (nt a17) a18),xr a17 (an (nt a18) a19),xr a18 (an (nt a19) a15),xr a19 (an (nt a15) a16),xr a20 (an (nt a21) a22),xr a21 (an (nt a22) a23),xr a22 (an (nt a23) a24),xr a23 (an (nt a24) a20),xr a24 (an (nt a20) a21)]
 |_=>none
theorem abO (a0 a1 a2 a3 a4 a5 a6 a7 a8 a9 a10 a11 a12 a13 a14 a15 a16 a17 a18 a19 a20 a21 a22 a23 a24:Nat)(t:TypeId):ru ((runN CP 5).1 505 [ptr 64 0] (kN [u a0,u a1,u a2,u a3,u a4,u a5,u a6,u a7,u a8,u a9,u a10,u a11,u a12,u a13,u a14,u a15,u a16,u a17,u a18,u a19,u a20,u a21,u a22,u a23,u a24] t))=some (unit,[u (xr a0 (xr (x5 a4 a9 a14 a19 a24) (fD (x5 a1 a6 a11 a16 a21) 1))),u (xr a1 (xr (x5 a0 a5 a10 a15 a20) (fD (x5 a2 a7 a12 a17 a22) 1))),u (xr a2 (xr (x5 a1 a6 a11 a16 a21) (fD (x5 a3 a8 a13 a18 a23) 1))),u (xr a3 (xr (x5 a2 a7 a12 a17 a22) (fD (x5 a4 a9 a14 a19 a24) 1))),u (xr a4 (xr (x5 a3 a8 a13 a18 a23) (fD (x5 a0 a5 a10 a15 a20) 1))),u (xr a5 (xr (x5 a4 a9 a14 a19 a24) (fD (x5 a1 a6 a11 a16 a21) 1))),u (xr a6 (xr (x5 a0 a5 a10 a15 a20) (fD (x5 a2 a7 a12 a17 a22) 1))),u (xr a7 (xr (x5 a1 a6 a11 a16 a21) (fD (x5 a3 a8 a13 a18 a23) 1))),u (xr a8 (xr (x5 a2 a7 a12 a17 a22) (fD (x5 a4 a9 a14 a19 a24) 1))),u (xr a9 (xr (x5 a3 a8 a13 a18 a23) (fD (x5 a0 a5 a10 a15 a20) 1))),u (xr a10 (xr (x5 a4 a9 a14 a19 a24) (fD (x5 a1 a6 a11 a16 a21) 1))),u (xr a11 (xr (x5 a0 a5 a10 a15 a20) (fD (x5 a2 a7 a12 a17 a22) 1))),u (xr a12 (xr (x5 a1 a6 a11 a16 a21) (fD (x5 a3 a8 a13 a18 a23) 1))),u (xr a13 (xr (x5 a2 a7 a12 a17 a22) (fD (x5 a4 a9 a14 a19 a24) 1))),u (xr a14 (xr (x5 a3 a8 a13 a18 a23) (fD (x5 a0 a5 a10 a15 a20) 1))),u (xr a15 (xr (x5 a4 a9 a14 a19 a24) (fD (x5 a1 a6 a11 a16 a21) 1))),u (xr a16 (xr (x5 a0 a5 a10 a15 a20) (fD (x5 a2 a7 a12 a17 a22) 1))),u (xr a17 (xr (x5 a1 a6 a11 a16 a21) (fD (x5 a3 a8 a13 a18 a23) 1))),u (xr a18 (xr (x5 a2 a7 a12 a17 a22) (fD (x5 a4 a9 a14 a19 a24) 1))),u (xr a19 (xr (x5 a3 a8 a13 a18 a23) (fD (x5 a0 a5 a10 a15 a20) 1))),u (xr a20 (xr (x5 a4 a9 a14 a19 a24) (fD (x5 a1 a6 a11 a16 a21) 1))),u (xr a21 (xr (x5 a0 a5 a10 a15 a20) (fD (x5 a2 a7 a12 a17 a22) 1))),u (xr a22 (xr (x5 a1 a6 a11 a16 a21) (fD (x5 a3 a8 a13 a18 a23) 1))),u (xr a23 (xr (x5 a2 a7 a12 a17 a22) (fD (x5 a4 a9 a14 a19 a24) 1))),u (xr a24 (xr (x5 a3 a8 a13 a18 a23) (fD (x5 a0 a5 a10 a15 a20) 1)))],t,0):=by kernel_rfl
theorem afi (a0 a1 a2 a3 a4 a5 a6 a7 a8 a9 a10 a11 a12 a13 a14 a15 a16 a17 a18 a19 a20 a21 a22 a23 a24:Nat)(t:TypeId):ru ((runN CP 5).1 506 [ptr 64 0] (kN [u a0,u a1,u a2,u a3,u a4,u a5,u a6,u a7,u a8,u a9,u a10,u a11,u a12,u a13,u a14,u a15,u a16,u a17,u a18,u a19,u a20,u a21,u a22,u a23,u a24] t))=some (unit,[u (fD a0 0),u (fD a6 44),u (fD a12 43),u (fD a18 21),u (fD a24 14),u (fD a3 28),u (fD a9 20),u (fD a10 3),u (fD a16 45),u (fD a22 61),u (fD a1 1),u (fD a7 6),u (fD a13 25),u (fD a19 8),u (fD a20 18),u (fD a4 27),u (fD a5 36),u (fD a11 10),u (fD a17 15),u (fD a23 56),u (fD a2 62),u (fD a8 55),u (fD a14 39),u (fD a15 41),u (fD a21 2)],t,0):=by kernel_rfl
theorem ahu (a0 a1 a2 a3 a4 a5 a6 a7 a8 a9 a10 a11 a12 a13 a14 a15 a16 a17 a18 a19 a20 a21 a22 a23 a24:Nat)(t:TypeId):ru ((runN CP 5).1 507 [ptr 64 0] (kN [u a0,u a1,u a2,u a3,u a4,u a5,u a6,u a7,u a8,u a9,u a10,u a11,u a12,u a13,u a14,u a15,u a16,u a17,u a18,u a19,u a20,u a21,u a22,u a23,u a24] t))=some (unit,[u (xr a0 (an (nt a1) a2)),u (xr a1 (an (nt a2) a3)),u (xr a2 (an (nt a3) a4)),u (xr a3 (an (nt a4) a0)),u (xr a4 (an (nt a0) a1)),u (xr a5 (an (nt a6) a7)),u (xr a6 (an (nt a7) a8)),u (xr a7 (an (nt a8) a9)),u (xr a8 (an (nt a9) a5)),u (xr a9 (an (nt a5) a6)),u (xr a10 (an (nt a11) a12)),u (xr a11 (an (nt a12) a13)),u (xr a12 (an (nt a13) a14)),u (xr a13 (an (nt a14) a10)),u (xr a14 (an (nt a10) a11)),u (xr a15 (an (nt a16) a17)),u (xr a16 (an (nt a17) a18)),u (xr a17 (an (nt a18) a19)),u (xr a18 (an (nt a19) a15)),u (xr a19 (an (nt a15) a16)),u (xr a20 (an (nt a21) a22)),u (xr a21 (an (nt a22) a23)),u (xr a22 (an (nt a23) a24)),u (xr a23 (an (nt a24) a20)),u (xr a24 (an (nt a20) a21))],t,0):=by kernel_rfl
noncomputable def inG (F:List Nat→Option (List Nat))(x:Value)(cs:List Value):Option (Value × List Value):=
 match x with
 |.pointer (some a)=>guard (Nat.beq a.block 64&&Nat.beq a.off 0&&a.spot.isNone) (aj (aal cs) fun l=>aj (F l) fun r=>some (unit,qB u r))
 |_=>none
theorem NS {F:List Nat→Option (List Nat)}{x:Value}{cs:List Value}{r:Value × List Value}(h:inG F x cs=some r):x=ptr 64 0∧∃ l m,cs=l.map u∧F l=some m∧r=(unit,m.map u):=by
 unfold inG at h
 split at h
 ·rename_i a
  obtain ⟨hg,h⟩:=au.1 h
  obtain ⟨l,hl,h⟩:=ah.1 h
  obtain ⟨m,hm,h⟩:=ah.1 h
  cases h
  simp only [Bool.and_eq_true] at hg
  obtain ⟨b,o,sp⟩:=a
  have h1:b=64:=Nat.eq_of_beq_eq_true hg.1.1
  have h2:o=0:=Nat.eq_of_beq_eq_true hg.1.2
  have h3:sp=none:=by cases sp with
   |none=>rfl
   |some s=>exact Bool.noConfusion hg.2
  subst h1 h2 h3
  exact ⟨rfl,l,m,Hr hl,hm,by rw [iV]⟩
 ·cases h
theorem YN:∀ x cs t r,flatAll cs=true→inG aak x cs=some r→∃ s1,(runN CP 5).1 505 [x] (kN cs t)=some (r.1,s1)∧s1.cells 64=some (r.2,t,0):=by
 intro x cs t r hfl h
 obtain ⟨rfl,l,m,rfl,hm,rfl⟩:=NS h
 unfold aak at hm
 split at hm
 ·rename_i a0 a1 a2 a3 a4 a5 a6 a7 a8 a9 a10 a11 a12 a13 a14 a15 a16 a17 a18 a19 a20 a21 a22 a23 a24
  simp only [kR] at hm
  cases hm
  exact dB (abO a0 a1 a2 a3 a4 a5 a6 a7 a8 a9 a10 a11 a12 a13 a14 a15 a16 a17 a18 a19 a20 a21 a22 a23 a24 t)
 ·cases hm
theorem aej:∀ x cs t r,flatAll cs=true→inG amX x cs=some r→∃ s1,(runN CP 5).1 506 [x] (kN cs t)=some (r.1,s1)∧s1.cells 64=some (r.2,t,0):=by
 intro x cs t r hfl h
 obtain ⟨rfl,l,m,rfl,hm,rfl⟩:=NS h
 unfold amX at hm
 split at hm
 ·rename_i a0 a1 a2 a3 a4 a5 a6 a7 a8 a9 a10 a11 a12 a13 a14 a15 a16 a17 a18 a19 a20 a21 a22 a23 a24
  skip
  cases hm
  exact dB (afi a0 a1 a2 a3 a4 a5 a6 a7 a8 a9 a10 a11 a12 a13 a14 a15 a16 a17 a18 a19 a20 a21 a22 a23 a24 t)
 ·cases hm
theorem acZ:∀ x cs t r,flatAll cs=true→inG aoQ x cs=some r→∃ s1,(runN CP 5).1 507 [x] (kN cs t)=some (r.1,s1)∧s1.cells 64=some (r.2,t,0):=by
 intro x cs t r hfl h
 obtain ⟨rfl,l,m,rfl,hm,rfl⟩:=NS h
 unfold aoQ at hm
 split at hm
 ·rename_i a0 a1 a2 a3 a4 a5 a6 a7 a8 a9 a10 a11 a12 a13 a14 a15 a16 a17 a18 a19 a20 a21 a22 a23 a24
  skip
  cases hm
  exact dB (ahu a0 a1 a2 a3 a4 a5 a6 a7 a8 a9 a10 a11 a12 a13 a14 a15 a16 a17 a18 a19 a20 a21 a22 a23 a24 t)
 ·cases hm
end Go.Ax
