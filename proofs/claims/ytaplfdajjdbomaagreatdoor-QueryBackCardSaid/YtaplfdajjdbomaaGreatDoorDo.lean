import Derived.Test.YtaplfdajjdbomaaGreatDoorDn
open Int renaming ofNat→qaa,negSucc→qad
open Nat renaming eq_of_beq_eq_true→qab
open List renaming not_mem_nil→qac
set_option maxRecDepth 1000000
namespace Go.Ax
open Go Go.Proofs
noncomputable def aix:List Value:=[(.agg ⟨[(.int .i64 (qaa 4)),(.int .i64 (qaa 4)),(.int .i64 (qaa 2)),(.int .i64 (qaa 3)),(.int .i64 (qaa 7)),(.int .i64 (qaa 8)),(.int .i64 (qaa 2)),(.int .u64 (qaa 100000000)),(.int .u64 (qaa 0)),(.int .i64 (qaa 50)),(.int .u64 (qaa 100000000))]⟩)]
noncomputable def afm:Value:=(.tuple ⟨[(.int .i64 (qaa 0)),(.int .i64 (qaa 0))]⟩)
theorem arY:BQ ((um CC 60).1 124 aix dD)=some afm:=by kernel_rfl
noncomputable def ahU:List Value:=[(.agg ⟨[(.int .i64 (qaa 0)),(.int .i64 (qaa 0)),(.int .i64 (qaa 0)),(.int .i64 (qaa 0)),(.int .i64 (qaa 0)),(.int .i64 (qaa 0)),(.int .i64 (qaa 0)),(.int .u64 (qaa 0)),(.int .u64 (qaa 0)),(.int .i64 (qaa 0)),(.int .u64 (qaa 0))]⟩)]
noncomputable def agL:Value:=(.tuple ⟨[(.int .i64 (qaa 3)),(.int .i64 (qaa 0))]⟩)
theorem arR:BQ ((um CC 60).1 124 ahU dD)=some agL:=by kernel_rfl
noncomputable def alp:List (List Value × Value):=[(aix,afm),(ahU,agL)]
theorem auX:∀ p∈alp,∃ s1,(runN CC 60).1 124 p.1 dD=some (p.2,s1):=by
 intro p hp
 rw [←BD]
 unfold alp at hp
 rcases List.mem_cons.1 hp with rfl|hp
 ·exact rC arY
 rcases List.mem_cons.1 hp with rfl|hp
 ·exact rC arR
 exact absurd hp qac
noncomputable def afr:List Value:=[(.agg ⟨[(.int .i64 (qaa 0)),(.int .i64 (qaa 1)),(.int .i64 (qad 0)),(.int .i64 (qaa 0))]⟩)]
noncomputable def ajs:Value:=(.int .i64 (qaa 0))
theorem ar0:BQ ((um CC 60).1 154 afr dD)=some ajs:=by kernel_rfl
noncomputable def agq:List (List Value × Value):=[(afr,ajs)]
theorem awd:∀ p∈agq,∃ s1,(runN CC 60).1 154 p.1 dD=some (p.2,s1):=by
 intro p hp
 rw [←BD]
 unfold agq at hp
 rcases List.mem_cons.1 hp with rfl|hp
 ·exact rC ar0
 exact absurd hp qac
noncomputable def aiE:List Value:=[(.agg ⟨[(.int .i64 (qaa 0)),(.int .i64 (qaa 1)),(.int .i64 (qad 0)),(.int .i64 (qaa 0))]⟩),(.agg ⟨[(.int .i64 (qaa 0)),(.int .i64 (qaa 1)),(.int .i64 (qad 0)),(.int .i64 (qaa 0))]⟩)]
noncomputable def ah1:Value:=(.int .i64 (qaa 0))
theorem aqM:BQ ((um CC 60).1 420 aiE dD)=some ah1:=by kernel_rfl
noncomputable def ade:List (List Value × Value):=[(aiE,ah1)]
theorem awG:∀ p∈ade,∃ s1,(runN CC 60).1 420 p.1 dD=some (p.2,s1):=by
 intro p hp
 rw [←BD]
 unfold ade at hp
 rcases List.mem_cons.1 hp with rfl|hp
 ·exact rC aqM
 exact absurd hp qac
noncomputable def ae3:List (Nat × Con):=(124,.pure (NM alp))::(154,.pure (NM agq))::(420,.pure (NM ade))::am9
noncomputable def CM:Cfg:={ CB with ext:=eH alb,insert:=eH ae3 }
theorem NC:∀ f t,eH ae3 f=some t→∀ args s v s',lJ CM t s args=some (v,s')→∀ base ρ w aW,HR Tryz.prog base ρ s w→VRs ρ args aW→
  Calls Tryz.prog f ⟨aW⟩ w fun e w'=>∃ c ρ',e = .returned c∧Goes Tryz.prog base ρ s w ρ' s' w'∧VR ρ' v c:=by
 intro f t h args s v s' hv base ρ w aW hr ha
 have h':=h
 replace h':sel (Nat.beq 124 f) (some (Con.pure (NM alp))) (eH ((154,.pure (NM agq))::(420,.pure (NM ade))::am9) f)=some t:=h'
 rw [aG] at h'
 split at h'
 ·rename_i hb
  cases h'
  have hf:124=f:=qab hb
  subst hf
  exact iH aeD (MI auX) hv hr ha
 replace h':sel (Nat.beq 154 f) (some (Con.pure (NM agq))) (eH ((420,.pure (NM ade))::am9) f)=some t:=h'
 rw [aG] at h'
 split at h'
 ·rename_i hb
  cases h'
  have hf:154=f:=qab hb
  subst hf
  exact iH aeD (MI awd) hv hr ha
 replace h':sel (Nat.beq 420 f) (some (Con.pure (NM ade))) (eH ( am9) f)=some t:=h'
 rw [aG] at h'
 split at h'
 ·rename_i hb
  cases h'
  have hf:420=f:=qab hb
  subst hf
  exact iH aeD (MI awG) hv hr ha
 cases t with
 |insert e=>exact wX f _ h' args s v s' hv base ρ w aW hr ha
 |closed ok=>exact wX f _ h' args s v s' hv base ρ w aW hr ha
 |fn F=>exact wX f _ h' args s v s' hv base ρ w aW hr ha
 |pure G=>exact wX f _ h' args s v s' hv base ρ w aW hr ha
 |tree F=>exact wX f _ h' args s v s' hv base ρ w aW hr ha
theorem Vs:dS CM Tryz.prog:=xq (ext:=eH alb) (ins:=eH ae3) rfl NC (fun f e h base ρ s s' w args aW v hr ha hv=>aeD.ext f e h base ρ s s' w args aW v hr ha hv)
end Go.Ax
