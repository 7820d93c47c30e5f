import Derived.Test.YtaplfdajjdbomaaGreatDoorDd
import Derived.Test.YtaplfdajjdbomaaGreatDoorDh
import Derived.Test.YtaplfdajjdbomaaGreatDoorDk
open List renaming not_mem_nil→qaa
set_option maxRecDepth 1000000
namespace Go.Ax
open Go Go.Proofs
noncomputable def awh:List (Nat × Ext):=[(361,.aqi),(574,.aqM),(395,.cmp)]
noncomputable def aoC:List (Nat × Con):=[(575,.pure atG),(576,.pure axw),(518,.fn (QA (inG aiB))),(519,.fn (QA (inG azA))),(520,.fn (QA (inG ayb))),(521,.pure rcG),(268,.pure ahr),(448,.fn (QA as7)),(629,.insert 222),(631,.insert 201)]
noncomputable def CC:Cfg:={ CB with ext:=fQ awh,insert:=fQ aoC }
theorem all1 {α:Type}{a:α}{p:α→Prop}(h:p a):∀ q∈[a],p q:=fun q hq=>by
 rcases List.mem_cons.1 hq with e|e
 ·exact e▸h
 ·exact absurd e qaa
theorem all2 {α:Type}{a b:α}{p:α→Prop}(h:p a)(k:p b):∀ q∈[a,b],p q:=fun q hq=>by
 rcases List.mem_cons.1 hq with e|e
 ·exact e▸h
 ·exact all1 k q e
section
open Go.Extern
end
theorem aBY:UE Tryz.prog 629 640 51 3 6:=⟨Yz,af9,aaR⟩
theorem aBP:UE Tryz.prog 631 642 52 3 6:=⟨Xt,aeS,abp⟩
theorem xA:∀ f t,fQ aoC f=some t→∀ args s v s',mY CC t s args=some (v,s')→∀ base ρ w aZ,HR Tryz.prog base ρ s w→VRs ρ args aZ→
  Calls Tryz.prog f ⟨aZ⟩ w fun e w'=>∃ c ρ',e = .returned c∧Goes Tryz.prog base ρ s w ρ' s' w'∧VR ρ' v c:=by
 intro f t h args s v s' hv base ρ w aZ hr ha
 have h:=O8 h
 unfold aoC at h
 rcases List.mem_cons.1 h with h|h
 ·cases h
  exact jh pR ag2 hv hr ha
 rcases List.mem_cons.1 h with h|h
 ·cases h
  exact jh pR ac3 hv hr ha
 rcases List.mem_cons.1 h with h|h
 ·cases h
  exact vZ ang afE hv hr ha
 rcases List.mem_cons.1 h with h|h
 ·cases h
  exact vZ ang amr hv hr ha
 rcases List.mem_cons.1 h with h|h
 ·cases h
  exact vZ ang amF hv hr ha
 rcases List.mem_cons.1 h with h|h
 ·cases h
  exact jh ang ar6 hv hr ha
 rcases List.mem_cons.1 h with h|h
 ·cases h
  exact jh pR afC hv hr ha
 rcases List.mem_cons.1 h with h|h
 ·cases h
  exact vZ pR ah3 hv hr ha
 rcases List.mem_cons.1 h with h|h
 ·cases h
  exact J6 (C:=CC) (sz:=6) (ps:=#[51,51]) (rs:=#[4]) aBY rfl (by kernel_rfl) (by kernel_rfl) (by kernel_rfl) (by kernel_rfl) (by kernel_rfl) rfl (by kernel_rfl) hv hr ha
 rcases List.mem_cons.1 h with h|h
 ·cases h
  exact J6 (C:=CC) (sz:=6) (ps:=#[52,52]) (rs:=#[4]) aBP rfl (by kernel_rfl) (by kernel_rfl) (by kernel_rfl) (by kernel_rfl) (by kernel_rfl) rfl (by kernel_rfl) hv hr ha
 exact absurd h qaa
def aoW (P:Program)(C:Cfg):List (Nat × Ext)→Prop
 |[]=>True
 |q::l=>wH C P q.1 q.2∧aoW P C l
theorem aqF {P:Program}{C:Cfg}:∀ {l:List (Nat × Ext)},aoW P C l→∀ f e,fQ l f=some e→wH C P f e:=by
 intro l hl f e h
 replace h:=O8 h
 induction l with
 |nil=>cases h
 |cons q l ih=>
  rcases List.mem_cons.1 h with h|h
  ·subst h;exact hl.1
  ·exact ih hl.2 h
theorem anP:eX CC Tryz.prog:=Ba (ext:=fQ awh) (ins:=fQ aoC) rfl xA (aqF (l:=awh) ⟨aaI (by kernel_rfl) (by kernel_rfl),abT (by kernel_rfl) (by kernel_rfl),aj7 (by kernel_rfl) (by kernel_rfl),trivial⟩)
end Go.Ax
