import Derived.Test.YtgpfgjhbiehafaaGreatDoorDl
set_option maxRecDepth 1000000
namespace Go.Ax
open Go Go.Proofs
noncomputable def aeS:List Value:=[(.agg ⟨[(.int .i64 (Int.ofNat 100)),(.int .i64 (Int.ofNat 100)),(.int .i64 (Int.ofNat 10)),(.int .i64 (Int.ofNat 8)),(.int .i64 (Int.ofNat 7)),(.int .i64 (Int.ofNat 8)),(.int .i64 (Int.ofNat 20)),(.int .u64 (Int.ofNat 50000000)),(.int .u64 (Int.ofNat 3)),(.int .i64 (Int.ofNat 50)),(.int .u64 (Int.ofNat 100000000))]⟩)]
noncomputable def aeP:Value:=(.tuple ⟨[(.int .i64 (Int.ofNat 0)),(.int .i64 (Int.ofNat 0))]⟩)
theorem aoU:x9 ((Ir CC 60).1 55 aeS bK)=some aeP:=by kernel_rfl
noncomputable def alU:List (List Value × Value):=[(aeS,aeP)]
theorem aqg:∀ p∈alU,∃ s1,(runN CC 60).1 55 p.1 bK=some (p.2,s1):=by
 intro p hp
 rw [←Bd]
 unfold alU at hp
 rcases List.mem_cons.1 hp with rfl|hp
 ·exact oV aoU
 exact absurd hp List.not_mem_nil
noncomputable def Zw:List Value:=[(.agg ⟨[(.int .i64 (Int.ofNat 0)),(.int .i64 (Int.ofNat 1)),(.int .i64 (Int.negSucc 0)),(.int .i64 (Int.ofNat 0))]⟩)]
noncomputable def Zf:Value:=(.int .i64 (Int.ofNat 0))
theorem ajj:x9 ((Ir CC 60).1 331 Zw bK)=some Zf:=by kernel_rfl
noncomputable def ZN:List (List Value × Value):=[(Zw,Zf)]
theorem aop:∀ p∈ZN,∃ s1,(runN CC 60).1 331 p.1 bK=some (p.2,s1):=by
 intro p hp
 rw [←Bd]
 unfold ZN at hp
 rcases List.mem_cons.1 hp with rfl|hp
 ·exact oV ajj
 exact absurd hp List.not_mem_nil
noncomputable def ZA:List Value:=[(.agg ⟨[(.int .i64 (Int.ofNat 0)),(.int .i64 (Int.ofNat 1)),(.int .i64 (Int.negSucc 0)),(.int .i64 (Int.ofNat 0))]⟩),(.agg ⟨[(.int .i64 (Int.ofNat 0)),(.int .i64 (Int.ofNat 1)),(.int .i64 (Int.negSucc 0)),(.int .i64 (Int.ofNat 0))]⟩)]
noncomputable def ab2:Value:=(.int .i64 (Int.ofNat 0))
theorem ajY:x9 ((Ir CC 60).1 396 ZA bK)=some ab2:=by kernel_rfl
noncomputable def Yn:List (List Value × Value):=[(ZA,ab2)]
theorem amb:∀ p∈Yn,∃ s1,(runN CC 60).1 396 p.1 bK=some (p.2,s1):=by
 intro p hp
 rw [←Bd]
 unfold Yn at hp
 rcases List.mem_cons.1 hp with rfl|hp
 ·exact oV ajY
 exact absurd hp List.not_mem_nil
noncomputable def agf:List (Nat × Con):=(55,.pure (Gv alU))::(331,.pure (Gv ZN))::(396,.pure (Gv Yn))::aeC
noncomputable def CM:Cfg:={ CB with ext:=dJ ajx,insert:=dJ agf }
theorem aaO:∀ f t,dJ agf f=some t→∀ args s v s',jM CM t s args=some (v,s')→∀ base ρ w aO,HR Tryz.prog base ρ s w→VRs ρ args aO→
  Calls Tryz.prog f ⟨aO⟩ w fun e w'=>∃ c ρ',e = .returned c∧Goes Tryz.prog base ρ s w ρ' s' w'∧VR ρ' v c:=by
 intro f t h args s v s' hv base ρ w aO hr ha
 have h':=h
 replace h':sel (Nat.beq 55 f) (some (Con.pure (Gv alU))) (dJ ((331,.pure (Gv ZN))::(396,.pure (Gv Yn))::aeC) f)=some t:=h'
 rw [aC] at h'
 split at h'
 ·rename_i hb
  cases h'
  have hf:55=f:=Nat.eq_of_beq_eq_true hb
  subst hf
  exact eP adw (G6 aqg) hv hr ha
 replace h':sel (Nat.beq 331 f) (some (Con.pure (Gv ZN))) (dJ ((396,.pure (Gv Yn))::aeC) f)=some t:=h'
 rw [aC] at h'
 split at h'
 ·rename_i hb
  cases h'
  have hf:331=f:=Nat.eq_of_beq_eq_true hb
  subst hf
  exact eP adw (G6 aop) hv hr ha
 replace h':sel (Nat.beq 396 f) (some (Con.pure (Gv Yn))) (dJ ( aeC) f)=some t:=h'
 rw [aC] at h'
 split at h'
 ·rename_i hb
  cases h'
  have hf:396=f:=Nat.eq_of_beq_eq_true hb
  subst hf
  exact eP adw (G6 amb) hv hr ha
 cases t with
 |insert e=>exact rQ f _ h' args s v s' hv base ρ w aO hr ha
 |closed ok=>exact rQ f _ h' args s v s' hv base ρ w aO hr ha
 |fn F=>exact rQ f _ h' args s v s' hv base ρ w aO hr ha
 |pure G=>exact rQ f _ h' args s v s' hv base ρ w aO hr ha
 |tree F=>exact rQ f _ h' args s v s' hv base ρ w aO hr ha
theorem aog:dH CM Tryz.prog:=vG (ext:=dJ ajx) (ins:=dJ agf) rfl aaO (fun f e h base ρ s s' w args aO v hr ha hv=>adw.ext f e h base ρ s s' w args aO v hr ha hv)
end Go.Ax
