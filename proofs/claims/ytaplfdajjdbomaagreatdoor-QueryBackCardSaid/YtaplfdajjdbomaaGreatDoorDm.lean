import Derived.Test.YtaplfdajjdbomaaGreatDoorDd
import Derived.Test.YtaplfdajjdbomaaGreatDoorDi
import Derived.Test.YtaplfdajjdbomaaGreatDoorDl
open List renaming not_mem_nil→qaa
set_option maxRecDepth 1000000
namespace Go.Ax
open Go Go.Proofs
noncomputable def alb:List (Nat × Ext):=[(361,.apY),(574,.anK),(395,.cmp)]
noncomputable def am9:List (Nat × Con):=[(575,.pure atG),(576,.pure auu),(518,.fn (Rf (inG afD))),(519,.fn (Rf (inG avj))),(520,.fn (Rf (inG avH))),(521,.pure rcG),(268,.pure aii),(448,.fn (Rf aoQ)),(629,.insert 222),(631,.insert 201)]
noncomputable def CC:Cfg:={ CB with ext:=eH alb,insert:=eH am9 }
theorem all1 {α:Type}{a:α}{p:α→Prop}(h:p a):∀ q∈[a],p q:=fun q hq=>by
 rcases List.mem_cons.1 hq with e|e
 ·exact e▸h
 ·exact absurd e qaa
theorem all2 {α:Type}{a b:α}{p:α→Prop}(h:p a)(k:p b):∀ q∈[a,b],p q:=fun q hq=>by
 rcases List.mem_cons.1 hq with e|e
 ·exact e▸h
 ·exact all1 k q e
section
open Go.Extern
end
theorem ayq:U0 Tryz.prog 629 640 51 3 6:=⟨Ya,adC,YJ⟩
theorem ayM:U0 Tryz.prog 631 642 52 3 6:=⟨Vx,aeg,Zg⟩
theorem wX:∀ f t,eH am9 f=some t→∀ args s v s',lJ CC t s args=some (v,s')→∀ base ρ w aW,HR Tryz.prog base ρ s w→VRs ρ args aW→
  Calls Tryz.prog f ⟨aW⟩ w fun e w'=>∃ c ρ',e = .returned c∧Goes Tryz.prog base ρ s w ρ' s' w'∧VR ρ' v c:=by
 intro f t h args s v s' hv base ρ w aW hr ha
 have h:=KY h
 unfold am9 at h
 rcases List.mem_cons.1 h with h|h
 ·cases h
  exact iH qJ ahp hv hr ha
 rcases List.mem_cons.1 h with h|h
 ·cases h
  exact iH qJ ab9 hv hr ha
 rcases List.mem_cons.1 h with h|h
 ·cases h
  exact vw alf adA hv hr ha
 rcases List.mem_cons.1 h with h|h
 ·cases h
  exact vw alf aly hv hr ha
 rcases List.mem_cons.1 h with h|h
 ·cases h
  exact vw alf akZ hv hr ha
 rcases List.mem_cons.1 h with h|h
 ·cases h
  exact iH alf aoZ hv hr ha
 rcases List.mem_cons.1 h with h|h
 ·cases h
  exact iH qJ adE hv hr ha
 rcases List.mem_cons.1 h with h|h
 ·cases h
  exact vw qJ ajh hv hr ha
 rcases List.mem_cons.1 h with h|h
 ·cases h
  exact Jh (C:=CC) (sz:=6) (ps:=#[51,51]) (rs:=#[4]) ayq rfl (by kernel_rfl) (by kernel_rfl) (by kernel_rfl) (by kernel_rfl) (by kernel_rfl) rfl (by kernel_rfl) hv hr ha
 rcases List.mem_cons.1 h with h|h
 ·cases h
  exact Jh (C:=CC) (sz:=6) (ps:=#[52,52]) (rs:=#[4]) ayM rfl (by kernel_rfl) (by kernel_rfl) (by kernel_rfl) (by kernel_rfl) (by kernel_rfl) rfl (by kernel_rfl) hv hr ha
 exact absurd h qaa
def amr (P:Program)(C:Cfg):List (Nat × Ext)→Prop
 |[]=>True
 |q::l=>uY C P q.1 q.2∧amr P C l
theorem apA {P:Program}{C:Cfg}:∀ {l:List (Nat × Ext)},amr P C l→∀ f e,eH l f=some e→uY C P f e:=by
 intro l hl f e h
 replace h:=KY h
 induction l with
 |nil=>cases h
 |cons q l ih=>
  rcases List.mem_cons.1 h with h|h
  ·subst h;exact hl.1
  ·exact ih hl.2 h
theorem aeD:dS CC Tryz.prog:=xq (ext:=eH alb) (ins:=eH am9) rfl wX (apA (l:=alb) ⟨aap (by kernel_rfl) (by kernel_rfl),ZX (by kernel_rfl) (by kernel_rfl),ahH (by kernel_rfl) (by kernel_rfl),trivial⟩)
end Go.Ax
