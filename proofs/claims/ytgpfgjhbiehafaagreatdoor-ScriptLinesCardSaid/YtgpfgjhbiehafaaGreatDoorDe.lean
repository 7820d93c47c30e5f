import Derived.Test.YtgpfgjhbiehafaaGreatDoorDb
import Derived.Test.YtgpfgjhbiehafaaGreatDoorDc
import Derived.Test.YtgpfgjhbiehafaaGreatDoorProg
import Derived.KernelRfl
set_option maxRecDepth 1000000
set_option linter.unusedSectionVars false
namespace Go.Ax
open Go Go.Proofs
variable [Lo]
noncomputable def anv:List Nat:=[0,0,1,3,3,4,41,25,3,1,6,9,4,7,3,3,4,3,5,4,4,8,27,15,1,30,1,3,1,9,13,4,21,4,1,12,5,10,12,5,4,3,3,3,3,3,5,5,0,3,5,11,79,9,7,11,6,3,5,3,3,3,14,3,10,9,54,5,8,2,12,2,14,2,5,33,7,10,3,5,6,5,3,3,3,3,3,3,3,3,3,3,4,17,19,69,15,12,5,7,21,3,5,3,19,8,34,6,3,6,2,6,9,13,2,10,7,3,7,3,5,3,4,3,8,8,9,7,12,9,7,5,7,11,5,8,11,5,3,3,3,3,3,13,5,5,4,8,8,9,3,5,7,5,4,8,17,17,5,6,3,8,8,3,7,6,8,3,5,9,12,4,10,3,3,3,6,7,6,6,4,10,25,5,7,3,9,10,11,1,3,4,3,25,5,9,0,0,0,51,3,2,3,2,4,8,3,0,3,3,3,6,6,12,12,4,5,9,5,12,5,5,3,2,2,2,3,3,13,3,13,3,15,3,4,4,4,10,4,10,4,10,5,10,5,10,4,4,4,4,2,10,6,6,3,3,7,7,4,5,7,3,12,2,2,3,2,2,2,2,2,2,2,5,2,2,2,4,3,10,10,10,10,12,14,0,0,0,11,0,3,3,5,3,6,6,7,12,6,25,4,21,4,3,3,11,2,2,2,2,2,3,3,6,5,13,13,9,7,6,3,9,15,12,12,14,7,11,9,24,94,3,3,5,4,5,5,22,4,6,4,5,4,3,3,6,8,5,20,8,5,8,18,3,6,10,4,30,13,3,7,13,7,19,13,12,15,9,30,7,10,3,9,13,3,5,9,9,8,11,5,10,5,3,8,9,5,10,8,11,9,4,7,14,4,6,30,3,6,3,5,8,3,3,7,3,3,6,5,6,6,9,3,2,3,2,5,8,2,9,10,8,9,10,3,4,6,14,8,6,3,5,5,20,19,5,7,4,11,4,6,10,5,6,10,19,7,8,11,4,5,10,3,10,19,9,1,21,3,3,9,4,10,18,3,2,2,9,5,3,3,3,15,2,2,5,5,9,6,6,7,6,11,14,7,2,3,7,2,3,4,3,9,12,12,8,10,12,7,3,2,12,3,9,5,47,12,10,6,3,3,10,9,3,15,7,11,46,11,49,8,6,7,11,5,11,8,9,3,8,10,8,10,14,13,8,3,5,6,1,1,8,2,25,11,3,3,11,12,8,4,9,17,9,5,6,0,2,0,2,6,8,8,3,23,7,8,7,6,7,10,9,4,10,2,2,10,10,5,3,6,10,14,19,0,4,4,7,8,3,0,0,0,0,0,0,0,0,0,0,0,0,0,0,0,0,0,0,0,3,0,0,0,0,0,0,3,3,9,3,3,9,9,5,2,2,4,2,2,4,0,3,0,0,0,0,0,0,0,0,0,0,0,0,0,0,0,0,0,3,0,3,6,6,9,4,6,3,7,0,0,0,0,0,0,0,0,0,1]
noncomputable def rgN (n:Nat):List Nat:=Nat.rec (motive:=fun _=>Nat→List Nat) (fun _=>[]) (fun _ ih j=>j::ih (Nat.succ j)) n 0
noncomputable def aqs:List (Nat × List (Nat × List Nat)):=[(3,[(3,[0,2,1,3,4,5,6,7,8])]),(5,[(10,(rgN 8)),(2,(rgN 8))]),(6,[(2,[0,1,5,6,2,3,4,7,8,9]),(4,[0,1,4,5,2,3,6,7,8]),(16,[0,1,2,3,4,5,6,7,8,12,13,14,17,18,19,9,10,11,15,16,20,21,22]),(8,[0,1,2,5,6,3,4,7,8,9])]),(11,[(3,(rgN 7))]),(14,[(1,[0,1,2,3,5,6,7,8,9,4,10,11])]),(20,[(2,[0,1,2,3,4,5,8,9,10,13,14,15,18,19,20,23,24,27,28,29,30,6,7,11,12,16,17,21,22,25,26,31,32,33,34])]),(22,[(8,(rgN 6))]),(25,[(7,(rgN 11)),(3,[0,1,2,3,5,6,7,8,10,11,12,13,15,16,17,18,4,9,14,19,20,21,22]),(8,(rgN 11))]),(29,[(3,(rgN 7))]),(32,[(9,(rgN 12))]),(38,[(8,(rgN 13))]),(52,[(26,[0,1,2,3,5,6,8,9,4,7,10,11,12,13,14])]),(53,[(3,[0,1,2,4,3,5,6])]),(70,[(17,(rgN 6)),(16,(rgN 9))]),(72,[(7,(rgN 8))]),(76,[(7,[0,1,2,3])]),(78,[(1,[0,1,2,4,5,6,8,9,10,12,13,14,16,17,18,20,21,22,24,25,26,28,29,30,32,33,34,36,37,38,40,41,42,3,7,11,15,19,23,27,31,35,39,43,44,45])]),(80,[(6,(rgN 11))]),(81,[(1,[0,1,2,3,5,6,7,8,10,11,12,13,4,9,14,15,16,17])]),(93,[(10,(rgN 15)),(8,(rgN 15)),(7,(rgN 15)),(17,(rgN 15)),(9,(rgN 15)),(18,(rgN 15)),(23,(rgN 15))]),(96,[(11,[0,1,3,4,5,6,8,9,10,11,12,25,26,2,7,13,14,15,16,17,18,19,20,21,22,23,24,27,28,29,30]),(1,(rgN 12))]),(97,[(10,[0,1,3,4,5,6,7,8,10,11,2,9,12,13,14,15])]),(100,[(8,(rgN 6))]),(102,[(3,(rgN 13)),(1,(rgN 13)),(2,(rgN 13))]),(103,[(1,[0,1,3,4,5,6,7,8,2,9,10,11])]),(105,[(3,(rgN 23))]),(106,[(14,(rgN 21)),(16,(rgN 26)),(7,(rgN 5)),(9,(rgN 7))]),(107,[(4,(rgN 7)),(1,[0,1,3,4,2,5,6])]),(108,[(1,[0,1,3,4,5,2,6,7,8])]),(111,[(1,[0,1,3,4,2,5,6]),(4,(rgN 7))]),(121,[(5,(rgN 11))]),(123,[(3,[0,1,2,3,5,6,7,8,10,11,12,13,15,16,17,18,20,21,22,23,4,9,14,19,24,25,26,27])]),(124,[(3,[1,2,4,5,6,0,3,7,8]),(1,(rgN 13))]),(133,[(3,(rgN 9))]),(134,[(1,(rgN 20)),(3,(rgN 14))]),(136,[(3,(rgN 9))]),(137,[(1,(rgN 20)),(3,(rgN 14))]),(143,[(6,(rgN 6))]),(147,[(4,[0,1,3,4,5,2,6,7,8,9,10])]),(164,[(6,[0,2,3,4,1,5,6,7,8,9,10]),(1,(rgN 13))]),(169,[(1,(rgN 14)),(3,[0,1,3,4,5,6,11,2,7,8,9,10,12,13,14,15,16,17])]),(174,[(3,(rgN 12))]),(176,[(1,[0,1,2,3,4,5,7,8,6,9,10])]),(178,[(8,(rgN 13)),(4,(rgN 13)),(1,(rgN 7))]),(179,[(1,(rgN 7)),(4,(rgN 13)),(8,(rgN 13))]),(180,[(1,[0,2,1,3,4,5,6,7,8])]),(181,[(6,(rgN 18)),(4,(rgN 17))]),(182,[(23,(rgN 18)),(17,(rgN 12)),(11,(rgN 18)),(5,(rgN 11)),(35,(rgN 14))]),(186,[(4,(rgN 18))]),(193,[(3,(rgN 11)),(8,[0,1,2,3,4,5,7,8,9,10,14,15,6,11,12,13,16,17])]),(200,[(1,(rgN 11))]),(211,[(4,(rgN 13))]),(212,[(4,(rgN 5))]),(213,[(6,[0,1,2,3])]),(215,[(1,[0,2,1,3,4,5,6,7,8])]),(222,[(1,(rgN 8))]),(227,[(1,(rgN 8))]),(228,[(6,(rgN 6))]),(229,[(1,(rgN 8))]),(230,[(6,(rgN 6))]),(231,[(1,(rgN 8))]),(261,[(1,[1,2,4,5,7,8,0,3,6,9,10,11])]),(263,[(2,(rgN 20)),(4,(rgN 16)),(0,(rgN 12))]),(264,[(4,(rgN 16)),(2,(rgN 20)),(0,(rgN 12))]),(266,[(2,(rgN 8)),(1,(rgN 8))]),(267,[(2,(rgN 8)),(1,(rgN 8))]),(268,[(2,(rgN 8))]),(269,[(2,(rgN 8))]),(270,[(1,(rgN 8))]),(273,[(2,(rgN 8))]),(276,[(0,(rgN 8))]),(278,[(3,[0,1,2,3,4,5,6,7,9,10,11,12,8,13,14,15,16])]),(279,[(4,(rgN 15))]),(280,[(4,(rgN 15))]),(281,[(2,(rgN 17))]),(282,[(5,(rgN 9)),(1,(rgN 14))]),(283,[(6,(rgN 10)),(7,(rgN 11))]),(291,[(1,[1,2,4,5,7,8,10,11,0,3,6,9,12,13,14])]),(294,[(4,(rgN 22))]),(295,[(3,(rgN 10))]),(299,[(1,(rgN 16))]),(305,[(3,(rgN 24))]),(306,[(0,(rgN 8))]),(307,[(0,(rgN 8))]),(308,[(1,(rgN 9)),(0,(rgN 9)),(3,(rgN 9)),(2,(rgN 9))]),(309,[(2,(rgN 8)),(4,(rgN 8)),(5,(rgN 8)),(1,(rgN 8)),(3,(rgN 8))]),(310,[(2,(rgN 8)),(4,(rgN 8)),(1,(rgN 8)),(3,(rgN 8))]),(311,[(1,[0,1,2,3,4,5,6,7,9,10,11,12,8,13,14,15])]),(312,[(1,[0,1,2,3,4,5,6,7,9,10,11,12,8,13,14,15])]),(313,[(4,(rgN 8))]),(316,[(3,(rgN 15)),(1,(rgN 25))]),(317,[(7,[0,1,3,4,5,6,2,7,8,9])]),(319,[(5,[0,1,3,4,2,6,5,7,8,9])]),(322,[(6,(rgN 5))]),(324,[(2,[0,1,2,3,5,6,8,9,10,4,7,11,12,13,14])]),(325,[(2,[0,1,2,3,4,7,8,10,11,12,13,14,16,17,18,5,6,9,15,19,20,21,22])]),(328,[(4,(rgN 6))]),(329,[(9,(rgN 19))]),(330,[(9,(rgN 17)),(15,(rgN 12)),(22,(rgN 12))]),(331,[(1,[0,1,19,20,21,22,23,24,25,26,27,28,29,30,31,32,33,34,35,36,37,38,2,3,4,5,6,7,8,9,10,11,12,13,14,15,16,17,18,39,40,41])]),(336,[(2,(rgN 11))]),(337,[(9,(rgN 5))]),(348,[(6,(rgN 9)),(8,[0,3,4,1,2,5,6,7,8]),(3,(rgN 9)),(9,(rgN 22))]),(357,[(1,(rgN 21)),(5,(rgN 16))]),(358,[(8,[0,1,2,3,4,5,7,1006,8,9])]),(360,[(1,(rgN 21))]),(361,[(8,[0,1,2,4,5,6,3,7,8,9,10])]),(362,[(1,[0,2,3,4,5,7,8,9,10,11,1,6,12,13])]),(372,[(1,(rgN 14))]),(376,[(1,[0,2,4,5,6,1,3,7,8,9])]),(378,[(1,(rgN 24))]),(379,[(15,(rgN 7)),(17,[0,2,1,3,4,5,6])]),(384,[(1,(rgN 13))]),(385,[(1,[0,3,6,13,14,15,16,17,18,19,20,21,22,1,2,4,5,7,8,9,10,11,12,23,24,25])]),(386,[(1,(rgN 16))]),(388,[(1,(rgN 24))]),(389,[(11,[0,2,5,1,3,4,6,7]),(15,[0,2,1,3,4,5,6])]),(392,[(1,(rgN 16))]),(394,[(1,[0,1,3,4,5,6,7,8,9,10,2,11])]),(395,[(1,(rgN 19))]),(400,[(1,[0,1,2,3,5,6,7,8,4,9,10,11,12])]),(406,[(3,[0,1,2,3,4,5,6,7,8,9,10,11,14,15,12,13,16,17])]),(409,[(4,(rgN 13))]),(422,[(4,[0,1,2,3])]),(423,[(3,(rgN 13)),(1,(rgN 24))]),(426,[(1,(rgN 12))]),(429,[(1,(rgN 10))]),(431,[(1,(rgN 13))]),(437,[(1,(rgN 12))]),(442,[(1,(rgN 14))]),(444,[(1,(rgN 16)),(3,(rgN 9))]),(447,[(2,[0,1,2,3,4,5,6,7,8,10,9,11,12,13,14,15,16,17,19,20,18,21,22]),(1,(rgN 9)),(4,(rgN 21))]),(449,[(1,(rgN 9))]),(451,[(5,(rgN 8))]),(453,[(1,[0,1,2,3,4,5,6,8,9,10,7,11,12,13,14,15,16,17,18,19]),(3,(rgN 9))]),(454,[(17,[0,1,2,3,5,4,6,7])]),(459,[(1,[0,1,2,3,4,6,7,8,10,11,12,5,9,13,14,15,16,17,18,19,20,21])]),(470,[(1,(rgN 17))]),(471,[(1,(rgN 17))]),(472,[(9,(rgN 26))]),(476,[(1,(rgN 21))]),(477,[(9,[0,2,1,3,4,5,6])]),(478,[(1,(rgN 27))]),(491,[(1,[0,1,3,4,2,5,6,7,8])]),(495,[(7,(rgN 16)),(5,(rgN 10))]),(496,[(7,(rgN 17))]),(500,[(0,(rgN 14))]),(505,[(4,[0,1,2,4,7,8,10,14,15,17,21,22,24,28,29,31,3,5,6,9,11,12,13,16,18,19,20,23,25,26,27,30,32,33,34,35,36]),(10,[0,1,2,3,4,5,6,7,8,9,10,11,12,13,14,18,15,16,17,19,20])]),(506,[(5,[0,1,2,3,4,5,6,8,9,10,11,13,7,12,14,15])]),(507,[(5,[0,1,2,3,4,5,6,7,12,13,14,20,8,9,10,11,15,16,17,18,19,21,22])]),(508,[(5,(rgN 13))]),(512,[(6,[0,1,3,4,5,2,6,7])]),(515,[(1,(rgN 12))]),(516,[(1,(rgN 18))]),(518,[(1,(rgN 17))]),(519,[(13,(rgN 12))]),(520,[(5,(rgN 10)),(6,(rgN 10)),(4,(rgN 10)),(7,(rgN 10))]),(522,[(1,(rgN 22))]),(527,[(5,(rgN 18))]),(529,[(5,(rgN 8))]),(530,[(11,(rgN 9)),(15,(rgN 9))]),(531,[(5,(rgN 8))]),(532,[(11,(rgN 9)),(15,(rgN 9))]),(535,[(2,(rgN 10))]),(552,[(0,(rgN 14))]),(566,[(1,(rgN 13))]),(568,[(5,(rgN 15))]),(581,[(2,[0,1,2,3,4,5,6,7,8,9,11,12,13,16,10,14,15,17,18])]),(583,[(6,(rgN 8))]),(585,[(3,(rgN 16))]),(586,[(3,(rgN 16))]),(621,[(4,(rgN 18))]),(622,[(4,(rgN 19))]),(654,[(1,(rgN 14))]),(655,[(2,(rgN 15)),(1,(rgN 14))]),(656,[(2,(rgN 11))]),(657,[(0,(rgN 16))]),(658,[(1,(rgN 12))])]
noncomputable def eqL:List Nat:=[629,759,202,131,34,32,25,256,30]
noncomputable def alG (l:List Nat)(n:Nat):Bool:=List.rec false (fun p _ ih=>sel (Nat.beq p n) true ih) l
noncomputable def dJ {α:Type}(l:List (Nat × α))(n:Nat):Option α:=List.rec none (fun p _ ih=>sel (Nat.beq p.1 n) (some p.2) ih) l
noncomputable def bodyT (f:Nat):Option Code:=(Tryz.prog.funcs[f]?).bind (fun x=>x.body)
noncomputable def MV (f:Nat):List ResultVar:=match Tryz.prog.funcs[f]? with
 |some x=>x.results.toList
 |none=>[]
noncomputable def amK (f:Nat):Nat:=Option.casesOn (nth anv f) 0 id
noncomputable def aj8 (f id:Nat):List Nat:=Option.casesOn (aj (dJ aqs f) fun l=>dJ l id) [] fun l=>l
noncomputable def CB:Cfg:={ P:=Tryz.prog,ext:=fun _=>none,rtype:=436,body:=bodyT,params:=fun _=>[],results:=MV,vars:=amK,insert:=fun _=>none,ae0:=alG eqL,order:=aj8,lies:=[(82,2,0,82),(84,2,0,82)] }
theorem Au {α:Type}{l:List (Nat × α)}{n:Nat}{a:α}(h:dJ l n=some a):(n,a)∈l:=by
 induction l with
 |nil=>cases h
 |cons p l ih=>
  have h:sel (Nat.beq p.1 n) (some p.2) (dJ l n)=some a:=h
  cases hb:Nat.beq p.1 n with
  |true=>
   rw [hb] at h
   have e:p.1=n:=Nat.eq_of_beq_eq_true hb
   cases h
   subst e
   exact List.mem_cons_self
  |false=>rw [hb] at h;exact List.mem_cons_of_mem _ (ih h)
theorem Ah {l:List Nat}{n:Nat}(h:alG l n=true):n∈l:=by
 induction l with
 |nil=>cases h
 |cons p l ih=>
  have h:sel (Nat.beq p n) true (alG l n)=true:=h
  cases hb:Nat.beq p n with
  |true=>rw [Nat.eq_of_beq_eq_true hb];exact List.mem_cons_self
  |false=>rw [hb] at h;exact List.mem_cons_of_mem _ (ih h)
theorem Yw:ag5 (Tryz.prog.funcs.toList.map some)=true:=by kernel_rfl
theorem agq (f:FuncId)(c:Code)(h:bodyT f=some c):∃ fn,Tryz.prog.funcs[f]? = some fn∧fn.body=some c∧(fn.name == "runtime.NumGoroutine")=false∧lJ fn.ntmps c=true∧MV f=fn.results.toList:=by
 unfold bodyT at h
 obtain ⟨fn,hf,hc⟩:=Option.bind_eq_some_iff.1 h
 have hm:some fn∈Tryz.prog.funcs.toList.map some:=List.mem_map.2 ⟨fn,by simpa using Array.mem_of_getElem? hf,rfl⟩
 have:=List.all_eq_true.1 Yw _ hm
 simp only [hc,Bool.and_eq_true,Bool.not_eq_true'] at this
 refine ⟨fn,hf,hc,this.1,this.2,?_⟩
 unfold MV
 rw [hf]
theorem eG:Tryz.prog.globals.size<bg:=Nat.le_of_ble_eq_true (show Nat.ble (Nat.succ Tryz.prog.globals.size) bg=true by kernel_rfl)
theorem afy:aaD Tryz.prog=true:=by kernel_rfl
theorem aaB:Qi Tryz.prog=true:=by kernel_rfl
theorem eq_chk:eqL.all (adx Tryz.prog)=true:=by kernel_rfl
theorem adQ:Z7 Tryz.prog=true:=by kernel_rfl
theorem akh:Tryz.prog.follows .mixedOrders=true:=by kernel_rfl
theorem apV:liesAt Tryz.prog Tryz.prog.depth 82 (2/Tryz.prog.cellsOf 82) 0 82 1=true:=by kernel_rfl
theorem aq7:liesAt Tryz.prog Tryz.prog.depth 84 (2/Tryz.prog.cellsOf 84) 0 82 1=true:=by kernel_rfl
theorem pV:dH CB Tryz.prog where
 lies:=fun q hq=>by
  rcases List.mem_cons.1 hq with rfl|hq
  ·exact apV
  rcases List.mem_cons.1 hq with rfl|hq
  ·exact aq7
  exact absurd hq List.not_mem_nil
 prog:=rfl
 zero:=X9 afy
 fields:=SY aaB
 eq:=MQ (l:=eqL) (fun _ h=>Ah h) eq_chk
 byte:=X8 adQ
 globals:=eG
 body:=agq
 mix:=akh
 insert:=fun _ _ h=>by cases h
 ext:=fun _ _ h=>by cases h
theorem vG {C:Cfg}{ext:FuncId→Option Ext}{ins:FuncId→Option Con}(e:C={ CB with ext:=ext,insert:=ins })
  (hi:∀ f t,ins f=some t→∀ args s v s',jM C t s args=some (v,s')→∀ base ρ w aO,HR Tryz.prog base ρ s w→VRs ρ args aO→
   Calls Tryz.prog f ⟨aO⟩ w fun e w'=>∃ c ρ',e = .returned c∧Goes Tryz.prog base ρ s w ρ' s' w'∧VR ρ' v c)
  (hx:∀ f e,ext f=some e→dh C Tryz.prog f e):dH C Tryz.prog:=by
 subst e
 exact { prog:=rfl,zero:=pV.zero,fields:=pV.fields,eq:=MQ (l:=eqL) (fun _ h=>Ah h) eq_chk,byte:=pV.byte,globals:=pV.globals,body:=pV.body,mix:=pV.mix,insert:=hi,ext:=fun f e h base ρ s s' w args aO v hr ha hv=>hx f e h base ρ s s' w args aO v hr ha hv,lies:=pV.lies }
theorem MZ {C:Cfg}{ext:FuncId→Option Ext}{ins:FuncId→Option Con}{lf:FuncId→Nat→Option (Fr→St→Tree (Ex × Fr × St))}(e:C={ CB with ext:=ext,insert:=ins,EK:=lf })
  (hi:∀ f t,ins f=some t→∀ args s v s',jM C t s args=some (v,s')→∀ base ρ w aO,HR Tryz.prog base ρ s w→VRs ρ args aO→
   Calls Tryz.prog f ⟨aO⟩ w fun e w'=>∃ c ρ',e = .returned c∧Goes Tryz.prog base ρ s w ρ' s' w'∧VR ρ' v c)
  (hx:∀ f e,ext f=some e→dh C Tryz.prog f e) (hl:∀ fn c body,C.body fn=some c→PartOf c (.loop body)→nD Tryz.prog C fn body):dH C Tryz.prog:=by
 subst e
 exact { prog:=rfl,zero:=pV.zero,fields:=pV.fields,eq:=MQ (l:=eqL) (fun _ h=>Ah h) eq_chk,byte:=pV.byte,globals:=pV.globals,body:=pV.body,mix:=pV.mix,insert:=hi,ext:=fun f e h base ρ s s' w args aO v hr ha hv=>hx f e h base ρ s s' w args aO v hr ha hv,lies:=pV.lies,loops:=hl }
end Go.Ax
