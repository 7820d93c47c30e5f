import Derived.Test.YtgpfgjhbiehafaaGreatDoorDd
import Derived.Test.YtgpfgjhbiehafaaGreatDoorDg
import Derived.Test.YtgpfgjhbiehafaaGreatDoorDj
set_option maxRecDepth 1000000
namespace Go.Ax
open Go Go.Proofs
noncomputable def ajx:List (Nat × Ext):=[(196,.Aa [(267,150),(22,130)]),(197,.Na [(267,150)]),(198,.LV [(267,150)]),(285,.EX [(371,()),(22,())]),(286,.Nu [(267,150,22,386)]),(287,.adH [(22,386,130)]),(604,.Nw [(22,2),(267,22)]),(637,.qC [(371,22,false),(22,22,true)]),(639,.Xf [(267,22)]),(640,.qh [(22,86,true)]),(48,.Fe),(289,.ahO),(584,.agk),(207,.cmp)]
noncomputable def aeC:List (Nat × Con):=[(537,.pure atG),(538,.pure alJ),(505,.fn (JR (inG aak))),(506,.fn (JR (inG amX))),(507,.fn (JR (inG aoQ))),(508,.pure rcG),(407,.pure aaF),(462,.fn (JR ahU)),(530,.insert 204),(532,.insert 207)]
noncomputable def CC:Cfg:={ CB with ext:=dJ ajx,insert:=dJ aeC }
theorem all1 {α:Type}{a:α}{p:α→Prop}(h:p a):∀ q∈[a],p q:=fun q hq=>by
 rcases List.mem_cons.1 hq with e|e
 ·exact e▸h
 ·exact absurd e List.not_mem_nil
theorem all2 {α:Type}{a b:α}{p:α→Prop}(h:p a)(k:p b):∀ q∈[a,b],p q:=fun q hq=>by
 rcases List.mem_cons.1 hq with e|e
 ·exact e▸h
 ·exact all1 k q e
section
open Go.Extern
theorem aq8:dh CC Tryz.prog 196 (.Aa [(267,150),(22,130)]):=
 FZ rfl eG (by kernel_rfl) (by kernel_rfl) (all2 (fun a w=>by kernel_rfl) (fun a w=>by kernel_rfl))
theorem aqA:dh CC Tryz.prog 197 (.Na [(267,150)]):=
 Ns (e:=ReflectliteValue.methodAny (ReflectliteValue.valueError "reflectlite.Value.Type" 0) fun t _ _ _=>ReflectliteType.toType t) rfl eG (by kernel_rfl) (by kernel_rfl) (all1 fun a w=>by kernel_rfl)
theorem apT:dh CC Tryz.prog 198 (.LV [(267,150)]):=
 MP rfl eG (by kernel_rfl) (by kernel_rfl) (all1 fun a w=>by kernel_rfl) (all1 (by decide))
theorem aq3:dh CC Tryz.prog 285 (.EX [(371,()),(22,())]):=
 Jq rfl eG (by kernel_rfl) (by kernel_rfl) (all2 (fun w=>by kernel_rfl) (fun w=>by kernel_rfl))
theorem aqy:dh CC Tryz.prog 286 (.Nu [(267,150,22,386)]):=
 Oy rfl eG (by kernel_rfl) (by kernel_rfl) (all1 fun a w=>by kernel_rfl) (all1 (by decide)) (all1 fun w=>by kernel_rfl) (all1 fun a w=>by kernel_rfl)
theorem aqD:dh CC Tryz.prog 287 (.adH [(22,386,130)]):=
 Tq rfl eG (by kernel_rfl) (by kernel_rfl) (all1 fun a w=>⟨by kernel_rfl,by kernel_rfl⟩) (all1 (by decide)) (all1 fun w=>by kernel_rfl)
theorem ap0:dh CC Tryz.prog 604 (.Nw [(22,2),(267,22)]):=
 Ox (e:=ReflectliteType.abiMethod fun t=>do pure (.int .u8 (←Rtype.kind t))) rfl eG (by kernel_rfl) (by kernel_rfl) (all2 (fun w=>by kernel_rfl) (fun w=>by kernel_rfl))
theorem ari:dh CC Tryz.prog 637 (.qC [(371,22,false),(22,22,true)]):=
 Bh (e:=ReflectliteType.relation "AssignableTo" ReflectliteType.assignableTo) rfl eG (by kernel_rfl) (by kernel_rfl) (all2 (fun w=>by kernel_rfl) (fun w=>by kernel_rfl))
theorem aqE:dh CC Tryz.prog 639 (.Xf [(267,22)]):=
 Sj rfl eG (by kernel_rfl) (by kernel_rfl) (all1 fun w=>by kernel_rfl)
theorem aqn:dh CC Tryz.prog 640 (.qh [(22,86,true)]):=
 Bg (e:=ReflectliteType.relation "Implements" ReflectliteType.implements_) rfl eG (by kernel_rfl) (by kernel_rfl) (all1 fun w=>by kernel_rfl)
end
theorem aqY:MH Tryz.prog 530 556 60 3 6:=⟨Rh,XY,UK⟩
theorem apJ:MH Tryz.prog 532 558 61 3 6:=⟨Qk,YX,Vh⟩
theorem rQ:∀ f t,dJ aeC f=some t→∀ args s v s',jM CC t s args=some (v,s')→∀ base ρ w aO,HR Tryz.prog base ρ s w→VRs ρ args aO→
  Calls Tryz.prog f ⟨aO⟩ w fun e w'=>∃ c ρ',e = .returned c∧Goes Tryz.prog base ρ s w ρ' s' w'∧VR ρ' v c:=by
 intro f t h args s v s' hv base ρ w aO hr ha
 have h:=Au h
 unfold aeC at h
 rcases List.mem_cons.1 h with h|h
 ·cases h
  exact eP pV abn hv hr ha
 rcases List.mem_cons.1 h with h|h
 ·cases h
  exact eP pV Wu hv hr ha
 rcases List.mem_cons.1 h with h|h
 ·cases h
  exact qE ach YN hv hr ha
 rcases List.mem_cons.1 h with h|h
 ·cases h
  exact qE ach aej hv hr ha
 rcases List.mem_cons.1 h with h|h
 ·cases h
  exact qE ach acZ hv hr ha
 rcases List.mem_cons.1 h with h|h
 ·cases h
  exact eP ach ag8 hv hr ha
 rcases List.mem_cons.1 h with h|h
 ·cases h
  exact eP pV Yh hv hr ha
 rcases List.mem_cons.1 h with h|h
 ·cases h
  exact qE pV aaC hv hr ha
 rcases List.mem_cons.1 h with h|h
 ·cases h
  exact Ew (C:=CC) (sz:=6) (ps:=#[60,60]) (rs:=#[4]) aqY rfl (by kernel_rfl) (by kernel_rfl) (by kernel_rfl) (by kernel_rfl) (by kernel_rfl) rfl (by kernel_rfl) hv hr ha
 rcases List.mem_cons.1 h with h|h
 ·cases h
  exact Ew (C:=CC) (sz:=6) (ps:=#[61,61]) (rs:=#[4]) apJ rfl (by kernel_rfl) (by kernel_rfl) (by kernel_rfl) (by kernel_rfl) (by kernel_rfl) rfl (by kernel_rfl) hv hr ha
 exact absurd h List.not_mem_nil
def aeF (P:Program)(C:Cfg):List (Nat × Ext)→Prop
 |[]=>True
 |q::l=>dh C P q.1 q.2∧aeF P C l
theorem aib {P:Program}{C:Cfg}:∀ {l:List (Nat × Ext)},aeF P C l→∀ f e,dJ l f=some e→dh C P f e:=by
 intro l hl f e h
 replace h:=Au h
 induction l with
 |nil=>cases h
 |cons q l ih=>
  rcases List.mem_cons.1 h with h|h
  ·subst h;exact hl.1
  ·exact ih hl.2 h
theorem adw:dH CC Tryz.prog:=vG (ext:=dJ ajx) (ins:=dJ aeC) rfl rQ (aib (l:=ajx) ⟨aq8,aqA,apT,aq3,aqy,aqD,ap0,ari,aqE,aqn,yI (by kernel_rfl) (by kernel_rfl),Uw (by kernel_rfl) (by kernel_rfl),Ue (by kernel_rfl) (by kernel_rfl),Y9 (by kernel_rfl) (by kernel_rfl),trivial⟩)
end Go.Ax
