import Derived.Test.YtaplfdajjdbomaaGreatDoorDm
open Int renaming ofNat→qaa,negSucc→qad
open Nat renaming eq_of_beq_eq_true→qab
open List renaming not_mem_nil→qac
set_option maxRecDepth 1000000
namespace Go.Ax
open Go Go.Proofs
noncomputable def ajd:List Value:=[(.agg ⟨[(.int .i64 (qaa 4)),(.int .i64 (qaa 4)),(.int .i64 (qaa 2)),(.int .i64 (qaa 3)),(.int .i64 (qaa 7)),(.int .i64 (qaa 8)),(.int .i64 (qaa 2)),(.int .u64 (qaa 100000000)),(.int .u64 (qaa 0)),(.int .i64 (qaa 50)),(.int .u64 (qaa 100000000))]⟩)]
noncomputable def ai9:Value:=(.tuple ⟨[(.int .i64 (qaa 0)),(.int .i64 (qaa 0))]⟩)
theorem avz:BK ((KF CC 60).1 124 ajd dJ)=some ai9:=by kernel_rfl
noncomputable def aic:List Value:=[(.agg ⟨[(.int .i64 (qaa 0)),(.int .i64 (qaa 0)),(.int .i64 (qaa 0)),(.int .i64 (qaa 0)),(.int .i64 (qaa 0)),(.int .i64 (qaa 0)),(.int .i64 (qaa 0)),(.int .u64 (qaa 0)),(.int .u64 (qaa 0)),(.int .i64 (qaa 0)),(.int .u64 (qaa 0))]⟩)]
noncomputable def ahT:Value:=(.tuple ⟨[(.int .i64 (qaa 3)),(.int .i64 (qaa 0))]⟩)
theorem att:BK ((KF CC 60).1 124 aic dJ)=some ahT:=by kernel_rfl
noncomputable def alR:List (List Value × Value):=[(ajd,ai9),(aic,ahT)]
theorem axX:∀ p∈alR,∃ s1,(runN CC 60).1 124 p.1 dJ=some (p.2,s1):=by
 intro p hp
 rw [←Gf]
 unfold alR at hp
 rcases List.mem_cons.1 hp with rfl|hp
 ·exact rY avz
 rcases List.mem_cons.1 hp with rfl|hp
 ·exact rY att
 exact absurd hp qac
noncomputable def ahv:List Value:=[(.agg ⟨[(.int .i64 (qaa 0)),(.int .i64 (qaa 1)),(.int .i64 (qad 0)),(.int .i64 (qaa 0))]⟩)]
noncomputable def akP:Value:=(.int .i64 (qaa 0))
theorem aua:BK ((KF CC 60).1 154 ahv dJ)=some akP:=by kernel_rfl
noncomputable def aiQ:List (List Value × Value):=[(ahv,akP)]
theorem ays:∀ p∈aiQ,∃ s1,(runN CC 60).1 154 p.1 dJ=some (p.2,s1):=by
 intro p hp
 rw [←Gf]
 unfold aiQ at hp
 rcases List.mem_cons.1 hp with rfl|hp
 ·exact rY aua
 exact absurd hp qac
noncomputable def ai0:List Value:=[(.agg ⟨[(.int .i64 (qaa 0)),(.int .i64 (qaa 1)),(.int .i64 (qad 0)),(.int .i64 (qaa 0))]⟩),(.agg ⟨[(.int .i64 (qaa 0)),(.int .i64 (qaa 1)),(.int .i64 (qad 0)),(.int .i64 (qaa 0))]⟩)]
noncomputable def ak4:Value:=(.int .i64 (qaa 0))
theorem atN:BK ((KF CC 60).1 420 ai0 dJ)=some ak4:=by kernel_rfl
noncomputable def af4:List (List Value × Value):=[(ai0,ak4)]
theorem aAk:∀ p∈af4,∃ s1,(runN CC 60).1 420 p.1 dJ=some (p.2,s1):=by
 intro p hp
 rw [←Gf]
 unfold af4 at hp
 rcases List.mem_cons.1 hp with rfl|hp
 ·exact rY atN
 exact absurd hp qac
noncomputable def aqK:List (Nat × Con):=(124,.pure (Oa alR))::(154,.pure (Oa aiQ))::(420,.pure (Oa af4))::aoC
noncomputable def CM:Cfg:={ CB with ext:=fQ awh,insert:=fQ aqK }
theorem agK:∀ f t,fQ aqK f=some t→∀ args s v s',mY CM t s args=some (v,s')→∀ base ρ w aZ,HR Tryz.prog base ρ s w→VRs ρ args aZ→
  Calls Tryz.prog f ⟨aZ⟩ w fun e w'=>∃ c ρ',e = .returned c∧Goes Tryz.prog base ρ s w ρ' s' w'∧VR ρ' v c:=by
 intro f t h args s v s' hv base ρ w aZ hr ha
 have h':=h
 replace h':sel (Nat.beq 124 f) (some (Con.pure (Oa alR))) (fQ ((154,.pure (Oa aiQ))::(420,.pure (Oa af4))::aoC) f)=some t:=h'
 rw [aG] at h'
 split at h'
 ·rename_i hb
  cases h'
  have hf:124=f:=qab hb
  subst hf
  exact jh anP (Nw axX) hv hr ha
 replace h':sel (Nat.beq 154 f) (some (Con.pure (Oa aiQ))) (fQ ((420,.pure (Oa af4))::aoC) f)=some t:=h'
 rw [aG] at h'
 split at h'
 ·rename_i hb
  cases h'
  have hf:154=f:=qab hb
  subst hf
  exact jh anP (Nw ays) hv hr ha
 replace h':sel (Nat.beq 420 f) (some (Con.pure (Oa af4))) (fQ ( aoC) f)=some t:=h'
 rw [aG] at h'
 split at h'
 ·rename_i hb
  cases h'
  have hf:420=f:=qab hb
  subst hf
  exact jh anP (Nw aAk) hv hr ha
 cases t with
 |insert e=>exact xA f _ h' args s v s' hv base ρ w aZ hr ha
 |closed ok=>exact xA f _ h' args s v s' hv base ρ w aZ hr ha
 |fn F=>exact xA f _ h' args s v s' hv base ρ w aZ hr ha
 |pure G=>exact xA f _ h' args s v s' hv base ρ w aZ hr ha
 |tree F=>exact xA f _ h' args s v s' hv base ρ w aZ hr ha
theorem axP:eX CM Tryz.prog:=Ba (ext:=fQ awh) (ins:=fQ aqK) rfl agK (fun f e h base ρ s s' w args aZ v hr ha hv=>anP.ext f e h base ρ s s' w args aZ v hr ha hv)
end Go.Ax
