import Derived.Test.YtaplfdajjdbomaaGreatDoorDa
import Derived.Laws.IdiomStrings
import Derived.Laws.BytesString
import Derived.OrdersIn
import Derived.LoopNIn
import Derived.Lib.Builder
import Derived.Lib.UnsafeStr
import Derived.Calls
import Derived.Scope
import Derived.RangeFuncRecord
import Derived.RecoverIn
open Nat renaming eq_of_beq_eq_true→qaa,le_of_ble_eq_true→qae,beq→qah,lt_of_lt_of_le→qai,succ→qaj,le_refl→qao,le_trans→qat,lt_or_ge→qau,le_add_right→qav,add→qaw,ble_eq_true_of_le→qaB,beq_eq→qaF,ble→qaQ,zero_mul→qaT,add_zero→qaU,zero_le→qaZ,mul→qa6
open Go.Result renaming andThen_ok→qab,andThen→qaX
open Bool renaming and_eq_true→qac,not_eq_true→qan,false_eq_true→qas,eq_iff_iff→qaD,not_eq_true'→qaH,or_eq_true→qaN
open Go.Sem renaming run_bind→qad,run_pure→qaf,run→qaq
open Array renaming getD_eq_getD_getElem?→qag,getElem?_setIfInBounds→qar,getElem?_eq_getElem→qaE,replicate→qaG,toList_push→qaK,ext'→qaL,map_empty→qaS,toList_map→qa4
open List renaming getElem?_eq_getElem→qak,mem_of_getElem?→qal,mem_cons_of_mem→qam,countP_cons_of_pos→qap,getElem?_cons_zero→qax,lookup→qay,countP_cons_of_neg→qaz,mem_cons_self→qaA,getElem?_toArray→qaC,all_cons→qaM,range'→qaO,range_eq_range'→qaP,drop_drop→qaR,filter_cons→qaW,mem_map→qaY,find?_cons→qa1,mem_append→qa3,range→qa5,mapM_cons→qa7
open Option renaming bind_eq_bind→qaI,pure_def→qaV
open Int renaming ofNat→qaJ
set_option linter.unusedSectionVars false
set_option linter.unusedVariables false
namespace Go.Ax
variable [Lo]
open Go
section
variable {P:Program} {base:Nat} {ρ:Ren} {s s':St} {w w':World}
theorem Goes.ae4 (h:HR P base ρ s w){cs:List Value}{e:TypeId}{a:Array Value}{cap n k:Nat}{fz:Nat × Nat}(hn:size P e=some n)(hn0:0<n)
  (ha:∀ (j:Nat) (x:Value),cs[j]? = some x→∃ y,a[j]? = some y∧VR ρ x y) (hsz:a.size=cap*n) (hle:cs.length≤cap*n) (hfz:∀ o,o<a.size→¬(fz.1≤o∧o<fz.2)) :
  Goes P base ρ s w (ρ.set s.next ⟨w.heap.size,0,cap⟩) { heap:=s.heap.set s.next (.row cs e s.next),bZ:=s.bZ.set s.next [s.next],next:=qaj s.next }
   ({ w with drawn:=k }.alloc (.cells a e fz)):=by
 have hch:∀ j,j∈[s.next]→j≠s.next→∃ l,s.bZ.get s.next=some l∧j∈l:=fun j hj hne=>absurd (by simpa using hj) hne
 refine Goes.push h (.row cs e s.next) ⟨w.heap.size,0,cap⟩ (.cells a e fz) rfl rfl (fun i t hi ht=>?_) (fun i c hi hc=>?_) rfl rfl rfl rfl rfl ?_ ?_ (fun _ _ e=>by cases e) (fun _ e=>by cases e)
 ·exact qB hi hch ht
 ·exact lM hi hch hc
 ·intro cs' e' f hr;cases hr;omega
 ·rintro ⟨cs',e',f⟩ hc
  obtain ⟨h1,_⟩:=aO.1 hc
  rw [Hp.get_set_same] at h1
  cases h1
  have:=h.next
  have hft:ak=64:=rfl
  refine ⟨by rw [Ren.dw h.next,Ren.dQ],a,fz,⟨_,alloc_at { w with drawn:=k } _,fun _=>rfl⟩,?_,fun _ o ho=>hfz o ho,fun h0=>absurd (show s.next=0 from h0) (by omega),fun _=>⟨n,hn,hn0,by simp [hsz],hle⟩⟩
  intro j x hj
  obtain ⟨y,hy,hv⟩:=ha j x hj
  exact ⟨y,by simpa using hy,hv.mono (Ren.Dz h _)⟩
theorem Kr {e:TypeId}(h:isBytes P e=true):P.underlying e=some (.int .u8):=by
 unfold isBytes at h
 split at h
 ·assumption
 ·cases h
theorem aeU {e:TypeId}(h:isStr P e=true):P.underlying e=some .string:=by
 unfold isStr at h
 split at h
 ·assumption
 ·cases h
theorem aiG {v c:Value}{b:UInt8}(hv:VR ρ v c)(h:byteOf v=some b):∃ n:Int,c = .int .u8 n∧UInt8.ofNat n.toNat=b:=by
 unfold byteOf at h
 split at h
 ·rename_i n
  cases hv
  cases n with
  |ofNat n=>exact ⟨_,rfl,Option.some.inj h⟩
  |negSucc n=>cases h
 ·cases h
theorem yK:∀ {l cl:List Value} {bs:List UInt8},VRs ρ l cl→bytesOf l=some bs→∃ ns:List Int,cl=ns.map (Value.int .u8)∧ns.map (fun n=>UInt8.ofNat n.toNat)=bs
 |[],cl,bs,hv,h=>by
  cases hv
  cases h
  exact ⟨[],rfl,rfl⟩
 |v::l,cl,bs,hv,h=>by
  change aj (byteOf v) (fun b=>aj (bytesOf l) fun r=>some (b::r))=some bs at h
  obtain ⟨b,hb,h2⟩:=ah.1 h
  obtain ⟨r,hr,h3⟩:=ah.1 h2
  cases h3
  cases hv with
  |cons h1 ht=>
   obtain ⟨n,rfl,hn⟩:=aiG h1 hb
   obtain ⟨ns,rfl,hns⟩:=yK ht hr
   exact ⟨n::ns,rfl,by simp [hn,hns]⟩
theorem uO:∀ (ns:List Int) (r:ByteArray),(ns.foldl (fun r n=>r.push (UInt8.ofNat n.toNat)) r)=⟨r.data++(ns.map (fun n=>UInt8.ofNat n.toNat)).toArray⟩
 |[],r=>by simp
 |n::ns,r=>by
  simp only [List.foldl_cons]
  rw [uO ns]
  simp [ByteArray.push]
theorem Ug (h:HR P base ρ s w)(hB:∀ e,P.underlying e=some (.int .u8)→size P e=some 1){src dst:TypeId}{x c v:Value}(hx:VR ρ x c)(hr:convert P s src dst x=some (v,s')) :
  aub P base ρ s w ((Go.convert src dst c).run P w) v s':=by
 unfold Ax.convert at hr
 obtain ⟨hg,hr1⟩:=au.1 hr
 clear hr
 obtain ⟨ds,hds⟩:=Option.isSome_iff_exists.1 hg
 split at hr1
 ·rename_i k hd
  split at hr1
  ·rename_i k' n
   cases hr1
   cases hx
   refine ⟨.int k (k.wrap n),ρ,w,?_,Goes.refl h,by rw [wrap_eq];exact .int _ _⟩
   simp [Go.convert,run_underlying hds,run_underlying hd,Conv.intToInt]
  ·cases hr1
 ·rename_i hd
  split at hr1
  ·rename_i b
   cases hr1
   cases hx
   refine ⟨.string b,ρ,w,?_,Goes.refl h,.string _⟩
   simp [Go.convert,run_underlying hds,run_underlying hd]
  ·rename_i k n
   cases hr1
   cases hx
   refine ⟨_,ρ,w,?_,Goes.refl h,.string _⟩
   simp [Go.convert,run_underlying hds,run_underlying hd,Conv.intToString]
  ·rename_i a n k
   split at hr1
   ·rename_i e hs
    rw [hds] at hs
    cases hs
    obtain ⟨hb,hr⟩:=au.1 hr1
    clear hr1
    have hb:=Kr hb
    cases a with
    |none=>
     cases hr
     cases hx
     refine ⟨.string .empty,ρ,w,?_,Goes.refl h,.string _⟩
     simp [Go.convert,run_underlying hds,run_underlying hd,run_underlying hb,Conv.bytesToString]
    |some p=>
     change toStr s n (.slice (some p) n k)=some (v,s') at hr
     unfold toStr at hr
     obtain ⟨l,hl,hr2⟩:=ah.1 hr
     obtain ⟨bs,hbs,hr3⟩:=ah.1 hr2
     cases hr3
     obtain ⟨cl,h1,h2,h3⟩:=kJ h hx hl
     obtain ⟨ns,rfl,hns⟩:=yK h2 hbs
     cases hx with
     |dead A K=>
      have hlc:(loadCells A 0).run P w = .ok (ns.map (Value.int .u8)).toArray w:=by
       have e1:(Builtin.firstCells 1 0 (.slice (some A) 0 K)).run P w = .ok (ns.map (Value.int .u8)).toArray w:=h1
       simpa only [Builtin.firstCells,qaT] using e1
      refine ⟨.string ⟨bs.toArray⟩,ρ,w,?_,Goes.refl h,.string _⟩
      rw [run_convert_bytes_string w src dst e (some A) 0 K hds hb hd,run_bytesToString w _ 0 _ ns hlc,uO,hns]
      have he0:ByteArray.empty.data=#[]:=rfl
      rw [he0]
      simp
     |@slice b o _ _ L hL=>
      have hlc:(loadCells ⟨L.blk,L.off+o,none⟩ n).run P w = .ok (ns.map (Value.int .u8)).toArray w:=by
       have e1:(Builtin.firstCells 1 n (.slice (some ⟨L.blk,L.off+o,none⟩) n (capOf L k))).run P w = .ok (ns.map (Value.int .u8)).toArray w:=h1
       simpa only [Builtin.firstCells,Nat.mul_one] using e1
      refine ⟨.string ⟨bs.toArray⟩,ρ,w,?_,Goes.refl h,.string _⟩
      rw [run_convert_bytes_string w src dst e (some ⟨L.blk,L.off+o,none⟩) n (capOf L k) hds hb hd,run_bytesToString w _ n _ ns hlc,uO,hns]
      have he0:ByteArray.empty.data=#[]:=rfl
      rw [he0]
      simp
   ·cases hr1
  ·cases hr1
 ·rename_i e hd
  split at hr1
  ·rename_i b
   obtain ⟨hb,hr⟩:=au.1 hr1
   clear hr1
   have hr:=Option.some.inj hr
   cases hx
   simp only [qac] at hb
   have hb':=Kr hb.1
   have hs:=aeU hb.2
   have hrun:=run_bytes_of_string w src dst e b hs hd hb'
   have hge:=grownCap_ge w b.size 0 e
   have hi:=hB e hb'
   have hcl:b.data.toList.length=b.size:=rfl
   have hsize:(bytesRow b (grownCap w b.size 0 e)).size=grownCap w b.size 0 e*1:=by
    simp [bytesRow]
    have:b.data.size=b.size:=rfl
    omega
   have hvs:=Kt (ρ:=ρ) b.data.toList
   have hgo:=Goes.ae4 (k:=w.drawn+1) (cs:=qY b.data.toList) (e:=e) (a:=bytesRow b (grownCap w b.size 0 e)) (cap:=grownCap w b.size 0 e) (fz:=((bytesRow b (grownCap w b.size 0 e)).size,(bytesRow b (grownCap w b.size 0 e)).size+1)) h hi (by omega)
    (fun j x hj=>by
     obtain ⟨y,hy,hv⟩:=hvs.get hj
     refine ⟨y,?_,hv⟩
     rw [List.getElem?_map] at hy
     cases hq:b.data.toList[j]? with
     |none=>rw [hq] at hy;cases hy
     |some u=>
      rw [hq] at hy
      have hjl:=(List.getElem?_eq_some_iff.1 hq).1
      have hju:b.data[j]'(by simpa using hjl)=u:=by
       have:=(List.getElem?_eq_some_iff.1 hq).2
       simpa using this
      rw [bytesRow_at b _ j (by simpa using hjl),hju]
      exact hy) hsize (by rw [qY,kP,List.length_map,hcl];omega) (fun o ho=>by omega)
   have e:grow s e (qY b.data.toList) (aQ b.data.toList)=(v,s'):=hr
   cases e
   refine ⟨_,_,_,hrun,hgo,?_⟩
   have key:=VR.slice (ρ:=ρ.set s.next ⟨w.heap.size,0,grownCap w b.size 0 e⟩) (b:=s.next) (o:=0) (n:=aQ b.data.toList) (c:=aC) (l:=⟨w.heap.size,0,grownCap w b.size 0 e⟩) (by rw [Ren.dw h.next,Ren.dQ])
   rw [uP,aW,hcl] at key
   rw [aW,hcl]
   exact key
  ·cases hr1
 ·cases hr1
end
end Go.Ax
namespace Go.Ax
variable [Lo]
open Go
section
variable {P:Program} {base:Nat} {ρ:Ren} {s s':St} {w w':World}
theorem wV {α:Type}(f:α→PUnit→Sem (ForInStep PUnit)):∀ (l:List α),(∀ x∈l,∀ u,(f x u).run P w = .ok (.yield ⟨⟩) w)→(forIn (m:=Sem) l PUnit.unit f).run P w = .ok ⟨⟩ w
 |[],_=>by simp
 |x::l,h=>by
  rw [List.forIn_cons,qad,h x (by simp)]
  exact wV f l (fun y hy=>h y (by simp [hy]))
theorem OT {t:TypeId}(h:Sr P t=true):∃ d,P.underlying t=some d∧Qz d=true:=by
 unfold Sr at h
 cases hu:P.underlying t with
 |none=>rw [hu] at h;cases h
 |some d=>rw [hu] at h;exact ⟨d,rfl,h⟩
theorem wZ {t:TypeId}{d:TypeDesc}(hu:P.underlying t=some d)(hd:Qz d=true)(b:Bool)(n:Nat)(v:Value):(Instr.checkKey b (n+1) t v).run P w = .ok () w:=by
 unfold Instr.checkKey
 cases d <;> first|(exact Bool.noConfusion (show false=true from hd))|(simp only [qad,run_underlying hu,qab,qaf])
theorem QN {t:TypeId}{d:TypeDesc}(hu:P.underlying t=some d)(hd:Qz d=true)(cs:Array Value)(o:Nat)(ho:o<cs.size):(Go.part t cs o).run P w = .ok cs[o] w:=by
 have hg:isAgg P t=some false:=by
  unfold isAgg
  rw [hu]
  show some (EG d)=_
  cases d <;> first|rfl|exact Bool.noConfusion (show false=true from hd)
 have h1:=MW (w:=w) hg
 simp [Go.part,h1,ho]
theorem NP {n:Nat}:∀ {fs:List Field},aa1 P n fs=true→∀ f∈fs,Sr P f.type=true∧f.offset<n
 |[],_,f,hf=>by cases hf
 |g::fs,h,f,hf=>by
  change sel (Sr P g.type&&ltN g.offset n) (aa1 P n fs) false=true at h
  rw [aG] at h
  split at h
  ·rename_i hh
   simp only [qac] at hh
   rcases List.mem_cons.1 hf with rfl|hf
   ·exact ⟨hh.1,bD hh.2⟩
   ·exact NP h f hf
  ·cases h
theorem Qd {t:TypeId}{d:TypeDesc}{k k':Value}(hu:P.underlying t=some d)(h:aqo P d k=true)(hk:VR ρ k k')(b:Bool)(n:Nat):(Instr.checkKey b (n+2) t k').run P w = .ok () w:=by
 unfold aqo at h
 split at h
 ·rename_i len e
  split at h
  ·rename_i cs
   cases hk with
   |@agg _ cl hcs=>
    simp only [qac] at h
    obtain ⟨⟨h1,h2⟩,h3⟩:=h
    have h1:=qae h1
    rw [aW] at h1
    have h1:len≤cs.length:=h1
    obtain ⟨d2,hu2,hd2⟩:=OT h2
    have hsz:(Go.sizeOf e).run P w = .ok 1 w:=by
     cases hs:size P e with
     |none=>rw [hs] at h3;cases h3
     |some m=>rw [hs] at h3;have:=qaa h3;subst this;exact run_sizeOf hs
    have hlen:=hcs.length
    unfold Instr.checkKey
    simp only [qad,run_underlying hu,qab]
    rw [Std.Legacy.Range.forIn_eq_forIn_range']
    rw [wV]
    ·rfl
    ·intro i hi u
     simp [Std.Legacy.Range.size] at hi
     have hp:=QN (w:=w) hu2 hd2 ⟨cl⟩ i (by simp;omega)
     simp [hsz,hp,wZ hu2 hd2]
  ·cases h
 ·rename_i fs
  split at h
  ·rename_i cs
   cases hk with
   |@agg _ cl hcs=>
    have hlen:=hcs.length
    unfold Instr.checkKey
    simp only [qad,run_underlying hu,qab]
    rw [←Array.forIn_toList,wV]
    ·rfl
    ·intro f hf u
     obtain ⟨h1,h2⟩:=NP h f hf
     rw [aW] at h2
     obtain ⟨d2,hu2,hd2⟩:=OT h1
     have hp:=QN (w:=w) hu2 hd2 ⟨cl⟩ f.offset (by simp;omega)
     split
     ·simp [hp,wZ hu2 hd2]
     ·rfl
  ·cases h
 ·exact wZ hu h b (n+1) k'
end
end Go.Ax
namespace Go.Ax
variable [Lo]
open Go
section
variable {P:Program} {base:Nat} {ρ:Ren} {s s':St} {w w':World}
theorem aav {C:Cfg}(hC:C.P=P){t:TypeId}{d:TypeDesc}(hu:P.underlying t=some d)(x y:Value)(hd:Qz d=true):alk C t x y=eqD P d x y:=by
 subst hC
 show zJ C (Nat.rec (fun _ _ _=>none) (fun _ ih=>zJ C ih) 5) t x y=_
 unfold zJ
 rw [hu]
 cases d <;> first|rfl|exact Bool.noConfusion (show false=true from hd)
theorem Fe (a b:ByteArray):(a == b)=(a.data.toList == b.data.toList):=by
 have h1:(a == b)=(a.data == b.data):=by
  first|rfl|(cases a;cases b;rfl)
 rw [h1]
 rw [qaD]
 simp only [beq_iff_eq]
 exact ⟨fun h=>by rw [h],fun h=>qaL h⟩
theorem aeM {C:Cfg}(hC:C.P=P){t:TypeId}{d:TypeDesc}(hu:P.underlying t=some d){k e k' e':Value}(hk:VR ρ k k')(he:VR ρ e e'){b:Bool}(h:alk C t k e=some b) :
  Instr.sameNow d k' e'=some b∨Instr.sameNow d k' e'=none:=by
 cases d with
 |int q=>
  rw [aav hC hu _ _ rfl] at h
  unfold eqD at h
  simp only at h
  split at h
  ·split at h
   ·cases hk
    cases he
    have hg:=mM (au.1 h).1
    have h2:=Option.some.inj (au.1 h).2
    subst hg
    left
    rw [jm] at h2
    rw [←h2]
    simp [Instr.sameNow]
    rw [qaD];simp
   ·cases h
  ·cases h
 |bool=>
  rw [aav hC hu _ _ rfl] at h
  unfold eqD at h
  simp only at h
  split at h
  ·split at h
   ·cases hk
    cases he
    left
    exact h
   ·cases h
  ·cases h
 |string=>
  rw [aav hC hu _ _ rfl] at h
  unfold eqD at h
  simp only at h
  split at h
  ·split at h
   ·cases hk
    cases he
    left
    rw [um] at h
    rw [←h]
    simp only [Instr.sameNow,Fe]
   ·cases h
  ·cases h
 |_=>right;simp [Instr.sameNow]
inductive aai (ρ:Ren):Option (Nat × Value)→Option (Nat × Value)→Prop
 |none:aai ρ none none
 |some (i:Nat) {v v':Value} (h:VR ρ v v'):aai ρ (some (i,v)) (some (i,v'))
theorem JQ (C:Cfg)(t:TypeId)(k:Value)(e:MapEntry)(l:List MapEntry)(i:Nat) :
  findKey C t k (e::l) i=aj (alk C t k e.key) fun b=>sel b (some (some (i,e.val))) (findKey C t k l (qaj i)):=rfl
theorem zu {C:Cfg}(hC:C.P=P)(hO:aeg C){t:TypeId}{k k':Value}(hk:VR ρ k k'):∀ {es es':List MapEntry} (i:Nat) {q:Option (Nat × Value)},EsR ρ es es'→findKey C t k es i=some q→
  ∃ q',(Instr.findAsking t k' es' i).run P w = .ok q' w∧aai ρ q q'
 |_,_,i,q,.nil,h=>by
  cases h
  exact ⟨none,by simp [Instr.findAsking],.none⟩
 |_,_,i,q,.cons hke hv hb hes,h=>by
  rw [JQ] at h
  obtain ⟨b,hbb,h2⟩:=ah.1 h
  have heq:=ED (w:=w) hC hO hbb hk hke
  cases b with
  |true=>
   cases h2
   exact ⟨_,by simp [Instr.findAsking,heq],.some i hv⟩
  |false=>
   obtain ⟨q',h3,h4⟩:=zu hC hO hk (i+1) hes h2
   exact ⟨q',by simp [Instr.findAsking,heq,h3],h4⟩
theorem EZ {C:Cfg}(hC:C.P=P){t:TypeId}{d:TypeDesc}(hu:P.underlying t=some d){k k':Value}(hk:VR ρ k k'):∀ {es es':List MapEntry} (i:Nat) {q:Option (Nat × Value)},EsR ρ es es'→findKey C t k es i=some q→
  Instr.findNow d k' es' i=none∨∃ q',Instr.findNow d k' es' i=some q'∧aai ρ q q'
 |_,_,i,q,.nil,h=>by
  cases h
  exact .inr ⟨none,rfl,.none⟩
 |_,_,i,q,.cons hke hv hb hes,h=>by
  rw [JQ] at h
  obtain ⟨b,hbb,h2⟩:=ah.1 h
  rcases aeM hC hu hk hke hbb with hs|hs
  ·cases b with
   |true=>
    cases h2
    exact .inr ⟨_,by simp only [Instr.findNow,hs],.some i hv⟩
   |false=>
    rcases EZ hC hu hk (i+1) hes h2 with h3|⟨q',h3,h4⟩
    ·left;simp only [Instr.findNow,hs,h3]
    ·exact .inr ⟨q',by simp only [Instr.findNow,hs,h3],h4⟩
  ·left
   simp only [Instr.findNow,hs]
theorem GL {C:Cfg}(hC:C.P=P)(hO:aeg C){t:TypeId}{k k':Value}(hk:VR ρ k k'){es:List MapEntry}{es':Array MapEntry}(hes:EsR ρ es es'.toList){q:Option (Nat × Value)}(h:arY C t k es=some q) :
  (∀ b,(Instr.checkKey b 10000 t k').run P w = .ok () w)∧∃ q',(Instr.findKey t k' es'.toList).run P w = .ok q' w∧aai ρ q q':=by
 unfold arY at h
 obtain ⟨d,hu,h⟩:=ah.1 h
 obtain ⟨hg,h⟩:=au.1 h
 rw [hC] at hu hg
 refine ⟨fun b=>Qd hu hg hk b 9998,?_⟩
 rcases EZ hC hu hk 0 hes h with h1|⟨q',h1,h2⟩
 ·obtain ⟨q',h3,h4⟩:=zu (w:=w) hC hO hk 0 hes h
  exact ⟨q',by simp [Instr.findKey,run_underlying hu,h1,h3],h4⟩
 ·exact ⟨q',by simp [Instr.findKey,run_underlying hu,h1],h2⟩
theorem Xb (h:HR P base ρ s w){C:Cfg}(hC:C.P=P)(hO:aeg C)(hZ:tH P){t:TypeId}{m k m' k':Value}{ok:Bool}(hm:VR ρ m m')(hk:VR ρ k k'){r:Res}(hr:lookup C s t m k ok=some r) :
  sW P base ρ s w (qaq P (do pure (.value (←Instr.lookup t m' k' ok))) w) r:=by
 unfold Ax.lookup at hr
 rw [hC] at hr
 split at hr
 ·rename_i kt e hu
  obtain ⟨q,hq,hr⟩:=ah.1 hr
  have key:∀ (es:List MapEntry) (es':Array MapEntry),EsR ρ es es'.toList→arY C kt k es=some q→
    ∃ x v,qaq P (do
     Instr.checkKey es'.isEmpty 10000 kt k'
     let (v,b) ←match ←Instr.findKey kt k' es'.toList with
      |some (_,v)=>pure (v,true)
      |none=>pure (←zeroValue e,false)
     pure (if ok then .tuple #[v,.bool b] else v)) w = .ok x w∧r = .val v s∧VR ρ v x:=by
   intro es es' he hs
   obtain ⟨h1,q',h2,h3⟩:=GL (w:=w) hC hO hk he hs
   cases h3 with
   |none=>
    obtain ⟨z,hz,hr⟩:=ah.1 hr
    have hr:=bC hr
    have hzr:=Ea (w:=w) hz
    have hzv:=tH.at (ρ:=ρ) hZ hz
    cases ok
    ·exact ⟨z,z,by simp [h1,h2,hzr],hr,hzv⟩
    ·exact ⟨_,_,by simp [h1,h2,hzr],hr,.tuple (.cons hzv (.cons (.bool _) .nil))⟩
   |some i hv=>
    have hr:=bC hr
    cases ok
    ·exact ⟨_,_,by simp [h1,h2],hr,hv⟩
    ·exact ⟨_,_,by simp [h1,h2],hr,.tuple (.cons hv (.cons (.bool _) .nil))⟩
  split at hq
  ·cases hm
   obtain ⟨x,v,h1,h2,h3⟩:=key [] #[] .nil hq
   rw [h2]
   have hrun:(Instr.lookup t (.map none) k' ok).run P w = .ok x w:=by
    unfold Instr.lookup
    simp only [qad,run_underlying hu,qab,qaf] at h1 ⊢
    exact h1
   simp only [qad,hrun,qab,qaf]
   exact aY h h3
  ·obtain ⟨⟨es,c⟩,hg,hq⟩:=ah.1 hq
   cases hm with
   |@map _ l hl=>
    obtain ⟨l2,h1,_,es',h2,h3⟩:=AU h hg
    obtain rfl:l2=l:=by rw [hl] at h1;exact (Option.some.inj h1).symm
    obtain ⟨x,v,h1,h4,h5⟩:=key es es' h3 hq
    rw [h4]
    have hrun:(Instr.lookup t (.map (some l2.blk)) k' ok).run P w = .ok x w:=by
     unfold Instr.lookup
     simp only [qad,run_underlying hu,qab,qaf,jo h2 (by simp)] at h1 ⊢
     exact h1
    simp only [qad,hrun,qab,qaf]
    exact aY h h5
  ·cases hq
 ·cases hr
end
end Go.Ax
namespace Go.Ax
variable [Lo]
open Go
theorem aeI {a b:Addr}(h:abO a b=true):a=b:=by
 unfold abO at h
 simp only [qac] at h
 obtain ⟨⟨⟨h1,h2⟩,h3⟩,h4⟩:=h
 have h1:=qaa h1
 have h2:=qaa h2
 cases a with
 |mk b1 o1 s1=>cases b with
  |mk b2 o2 s2=>
   cases s1 <;> first|cases h3|skip
   cases s2 <;> first|cases h4|skip
   congr
theorem Rw {a b:Option Addr}(h:UD a b=true):a=b:=by
 cases a with
 |none=>cases b with
  |none=>rfl
  |some b=>cases h
 |some a=>cases b with
  |none=>cases h
  |some b=>rw [aeI h]
theorem Na {a b:Option Nat}(h:VI a b=true):a=b:=by
 cases a with
 |none=>cases b with
  |none=>rfl
  |some b=>cases h
 |some a=>cases b with
  |none=>cases h
  |some b=>rw [qaa (show qah a b=true from h)]
theorem yB {f:Value→Value→Bool}(hf:∀ a b,f a b=true→a=b):∀ {l r:List Value},Iu f l r=true→l=r
 |[],[],_=>rfl
 |[],_::_,h=>by cases h
 |_::_,[],h=>by cases h
 |a::l,b::r,h=>by
  change sel (f a b) (Iu f l r) false=true at h
  rw [aG] at h
  split at h
  ·rename_i hh
   rw [hf a b hh,yB hf h]
  ·cases h
theorem aaT {f:Value→Value→Bool}(hf:∀ a b,f a b=true→a=b){x y:Value}(h:VG f x y=true):x=y:=by
 cases x <;> cases y <;> first|(exact Bool.noConfusion (show false=true from h))|skip
 case bool a b=>exact congrArg Value.bool (by simpa [VG] using h)
 case int j a k b=>
  have h:(gY j k&&eqI a b)=true:=h
  simp only [qac,jm,decide_eq_true_eq] at h
  rw [mM h.1,h.2]
 case string a b=>
  have h:nO a.data.toList b.data.toList=true:=h
  rw [um] at h
  have h:a.data.toList=b.data.toList:=by simpa using h
  exact congrArg Value.string (ByteArray.ext (qaL h))
 case pointer a b=>exact congrArg Value.pointer (Rw h)
 case slice a n c b m d=>
  have h:(UD a b&&qah n m&&qah c d)=true:=h
  simp only [qac] at h
  rw [Rw h.1.1,qaa h.1.2,qaa h.2]
 case map a b=>exact congrArg Value.map (Na h)
 case nilFunc=>rfl
 case func g a b h' c d=>
  have h:(apo g h'&&Iu f a.toList c.toList&&Iu f b.toList d.toList)=true:=h
  simp only [qac] at h
  have e1:g=h':=by
   have hq:=h.1.1
   cases g <;> cases h' <;> first|(exact Bool.noConfusion (show false=true from hq))|(rw [qaa hq])
  have e2:=qaL (yB hf h.1.2)
  have e3:=qaL (yB hf h.2)
  rw [e1,e2,e3]
 case chan a b=>exact congrArg Value.chan (Na h)
 case complex k a b k' c d=>
  have h:(KD k&&KD k'&&qah a c&&qah b d)=true:=h
  simp only [qac] at h
  cases k <;> cases k' <;> first|(exact Bool.noConfusion h.1.1.1)|(exact Bool.noConfusion h.1.1.2)|(rw [qaa h.1.2,qaa h.2])
 case float k a k' b=>
  have h:(KD k&&KD k'&&qah a b)=true:=h
  simp only [qac] at h
  cases k <;> cases k' <;> first|(exact Bool.noConfusion h.1.1)|(exact Bool.noConfusion h.1.2)|(rw [qaa h.2])
 case iface t v u w=>
  have h:(qah t u&&f v w)=true:=h
  simp only [qac] at h
  rw [qaa h.1,hf _ _ h.2]
 case nilIface=>rfl
 case agg a b=>
  cases a with
  |mk a=>cases b with
   |mk b=>rw [yB hf (show Iu f a b=true from h)]
 case tuple a b=>
  cases a with
  |mk a=>cases b with
   |mk b=>rw [yB hf (show Iu f a b=true from h)]
theorem EX:∀ (n:Nat) {x y:Value},Y4 n x y=true→x=y
 |0,_,_,h=>by cases h
 |n+1,_,_,h=>aaT (fun a b=>EX n) h
section
variable {P:Program} {base:Nat} {ρ:Ren} {s s':St} {w w':World}
theorem Kv {v c:Value}(hv:VR ρ v c)(h:IZ v=true)(n:Nat):Instr.sameBits n c c=true:=by
 cases hv <;> first|(exact Bool.noConfusion (show false=true from h))|skip
 ·simp [Instr.sameBits]
 ·simp [Instr.sameBits]
 ·simp only [Instr.sameBits,Fe];simp
theorem aap {l cl:List Value}(hv:VRs ρ l cl)(h:Pm l=true):∀ c∈cl,∀ n,Instr.sameBits n c c=true:=by
 induction l generalizing cl with
 |nil=>cases hv;intro c hc;cases hc
 |cons a t ih=>
  cases hv with
  |cons h1 ht=>
   change sel (IZ a) (Pm t) false=true at h
   rw [aG] at h
   split at h
   ·rename_i hh
    intro c hc n
    rcases List.mem_cons.1 hc with rfl|hc
    ·exact Kv h1 hh n
    ·exact ih ht h c hc n
   ·cases h
theorem Zv (l:List Value)(f:Value→Value→Bool)(h:∀ c∈l,f c c=true):(l.zip l).all (fun (x,y)=>f x y)=true:=by
 induction l with
 |nil=>rfl
 |cons a t ih=>
  simp only [List.zip_cons_cons,qaM,qac]
  exact ⟨h a (by simp),ih fun c hc=>h c (by simp [hc])⟩
theorem YG {v c:Value}(hv:VR ρ v c)(h:Hf v=true):Instr.sameBits 10000 c c=true:=by
 unfold Hf at h
 split at h
 ·cases hv with
  |@agg _ cl hl=>
   show Instr.sameBits (9999+1) (.agg ⟨cl⟩) (.agg ⟨cl⟩)=true
   simp only [Instr.sameBits,beq_self_eq_true,Bool.true_and]
   exact Zv cl _ fun c hc=>aap hl h c hc 9999
 ·exact Kv hv h _
theorem Dx {v c c':Value}(hv:VR ρ v c)(hv':VR ρ v c')(h:IZ v=true):c=c':=by
 cases hv <;> first|(exact Bool.noConfusion (show false=true from h))|(cases hv';rfl)
theorem Qg {l c c':List Value}(hv:VRs ρ l c)(hv':VRs ρ l c')(h:Pm l=true):c=c':=by
 induction l generalizing c c' with
 |nil=>cases hv;cases hv';rfl
 |cons a t ih=>
  cases hv with
  |cons h1 ht=>cases hv' with
   |cons h1' ht'=>
    change sel (IZ a) (Pm t) false=true at h
    rw [aG] at h
    split at h
    ·rename_i hh
     rw [Dx h1 h1' hh,ih ht ht' h]
    ·cases h
theorem Qi {v c c':Value}(hv:VR ρ v c)(hv':VR ρ v c')(h:Hf v=true):c=c':=by
 unfold Hf at h
 split at h
 ·cases hv with
  |agg hl=>cases hv' with
   |agg hl'=>rw [Qg hl hl' h]
 ·exact Dx hv hv' h
theorem EsR.get {es es':List MapEntry}(h:EsR ρ es es'):∀ {i:Nat} {e:MapEntry},es[i]? = some e→∃ e',es'[i]? = some e'∧VR ρ e.key e'.key∧VR ρ e.val e'.val∧e.born=e'.born:=by
 induction h with
 |nil=>intro i e hi;simp at hi
 |cons hk hv hb _ ih=>
  intro i e hi
  cases i with
  |zero=>simp at hi;subst hi;exact ⟨_,rfl,hk,hv,hb⟩
  |succ i=>simp at hi;simpa using ih hi
theorem Dv {es:List MapEntry}{es':Array MapEntry}(h:EsR ρ es es'.toList){i:Nat}{k k':Value}(hk:VR ρ k k')(hg:Ls es i k=true) :
  (Instr.keyThatStays (((es'[i]?).map (·.key)).getD k') k').run P w = .ok k' w:=by
 unfold Ls at hg
 rw [jk] at hg
 cases he:es[i]? with
 |none=>rw [he] at hg;cases hg
 |some e=>
  rw [he] at hg
  change (Hf k&&Y4 2 e.key k)=true at hg
  simp only [qac] at hg
  obtain ⟨e',h1,h2,_,_⟩:=h.get he
  have:=EX 2 hg.2
  rw [this] at h2
  have hu:=Qi h2 hk hg.1
  have h1:es'[i]? = some e':=by simpa using h1
  have hb:=YG hk hg.1
  simp [Instr.keyThatStays,h1,hu,hb]
theorem EsR.snoc {es es':List MapEntry}{e e':MapEntry}(h:EsR ρ es es')(hk:VR ρ e.key e'.key)(hv:VR ρ e.val e'.val)(hb:e.born=e'.born):EsR ρ (es++[e]) (es'++[e']):=by
 induction h with
 |nil=>exact .cons hk hv hb .nil
 |cons hk' hv' hb' _ ih=>exact .cons hk' hv' hb' ih
theorem aky (f:MapEntry→MapEntry)(n:Nat):∀ (l:List MapEntry),axA f l n=l.modify n f:=by
 induction n with
 |zero=>intro l;cases l <;> rfl
 |succ n ih=>intro l;cases l with
  |nil=>rfl
  |cons a t=>
   show a::axA f t n=_
   rw [ih];rfl
theorem EsR.modify {es es':List MapEntry}{f f':MapEntry→MapEntry}(h:EsR ρ es es')(hf:∀ e e',VR ρ e.key e'.key→VR ρ e.val e'.val→e.born=e'.born→VR ρ (f e).key (f' e').key∧VR ρ (f e).val (f' e').val∧(f e).born=(f' e').born) :
  ∀ (n:Nat),EsR ρ (es.modify n f) (es'.modify n f'):=by
 induction h with
 |nil=>intro n;cases n <;> exact .nil
 |cons hk hv hb ht ih=>
  intro n
  cases n with
  |zero=>
   obtain ⟨h1,h2,h3⟩:=hf _ _ hk hv hb
   exact .cons h1 h2 h3 ht
  |succ n=>exact .cons hk hv hb (ih n)
theorem BX {r:Nat}{es:Array MapEntry}{c:Nat}(o:Obj)(h:w.heap[r]? = some (.map es c)):(setObj r o).run P w = .ok () { w with heap:=w.heap.setIfInBounds r o }:=by
 simp [setObj,qaq,h]
theorem toList_modify (a:Array MapEntry)(i:Nat)(f:MapEntry→MapEntry):(a.modify i f).toList=a.toList.modify i f:=by
 apply List.ext_getElem?
 intro j
 simp [List.getElem?_modify]
theorem Ju {m m':Value}{k:Nat→List MapEntry→Nat→Option Res}{r:Res}(h:HR P base ρ s w)(hm:VR ρ m m')(hr:TK s m k=some r) :
  ∃ i l es c es',m' = .map (some l.blk)∧ρ i=some l∧s.tag i=some (0,i)∧w.heap[l.blk]? = some (.map es' c)∧EsR ρ es es'.toList∧k i es c=some r:=by
 unfold TK at hr
 split at hr
 ·obtain ⟨⟨es,c⟩,hg,hr⟩:=ah.1 hr
  cases hm with
  |@map _ l hl=>
   obtain ⟨l2,h1,h2,es',h3,h4⟩:=AU h hg
   obtain rfl:l2=l:=by rw [hl] at h1;exact (Option.some.inj h1).symm
   exact ⟨_,l2,es,c,es',rfl,hl,h2,h3,h4,hr⟩
 ·cases hr
theorem Nc (h:HR P base ρ s w){C:Cfg}(hC:C.P=P)(hO:aeg C){t kt e:TypeId}(hu:P.underlying t=some (.map kt e)){m k x m' k' x':Value}(hm:VR ρ m m')(hk:VR ρ k k')(hx:VR ρ x x'){r:Res}(hr:mapUpdate C s kt m k x=some r) :
  sW P base ρ s w (qaq P (do Instr.mapUpdate t m' k' x';pure .skip) w) r:=by
 unfold Ax.mapUpdate at hr
 obtain ⟨i,l,es,c,es',rfl,hl,ht,hw,he,hr⟩:=Ju h hm hr
 obtain ⟨q,hq,hr⟩:=ah.1 hr
 obtain ⟨h1,q',h2,h3⟩:=GL (w:=w) hC hO hk he hq
 cases h3 with
 |none=>
  have hr:=bC hr
  rw [hr,iG]
  have hgo:=Goes.putObj (r:=.map (es++[{ key:=k,val:=x,born:=c }]) (qaj c)) (o:=.map (es'.push { key:=k',val:=x',born:=c }) (c+1)) h ht hl (.inl ⟨_,_,rfl,_,rfl,by
   rw [qaK]
   exact he.snoc hk hx rfl⟩)
  have hrun:(Instr.mapUpdate t (.map (some l.blk)) k' x').run P w = .ok () { w with heap:=w.heap.setIfInBounds l.blk (.map (es'.push { key:=k',val:=x',born:=c }) (c+1)) }:=by
   simp [Instr.mapUpdate,run_underlying hu,jo hw (by simp),h1,h2,BX _ hw]
  simp only [qad,hrun,qab,qaf]
  exact Ia hgo
 |some j hv=>
  obtain ⟨hg,hr⟩:=au.1 hr
  have hr:=bC hr
  rw [hr,aky]
  have hst:=Dv (P:=P) (w:=w) he hk hg
  have hgo:=Goes.putObj (r:=.map (es.modify j (ark k x)) c) (o:=.map (es'.modify j fun e=>{ e with key:=k',val:=x' }) c) h ht hl (.inl ⟨_,_,rfl,_,rfl,by
   rw [toList_modify]
   exact he.modify (f:=ark k x) (f':=fun e=>{ e with key:=k',val:=x' }) (fun e e' _ _ hb=>⟨hk,hx,hb⟩) j⟩)
  have hrun:(Instr.mapUpdate t (.map (some l.blk)) k' x').run P w = .ok () { w with heap:=w.heap.setIfInBounds l.blk (.map (es'.modify j fun e=>{ e with key:=k',val:=x' }) c) }:=by
   simp [Instr.mapUpdate,run_underlying hu,jo hw (by simp),h1,h2,hst,BX _ hw]
  simp only [qad,hrun,qab,qaf]
  exact Ia hgo
theorem ajy {es:List MapEntry}{es':Array MapEntry}(h:EsR ρ es es'.toList)(i:Nat):i64 (ahU es i)=goInt (((es'[i]?).map (·.born)).getD 0):=by
 unfold ahU
 rw [jk]
 cases he:es[i]? with
 |none=>
  have hl:es'.toList[i]? = none:=by
   rw [List.getElem?_eq_none_iff] at he ⊢
   have:=h.length
   omega
  have:es'[i]? = none:=by simpa using hl
  rw [this];rfl
 |some e=>
  obtain ⟨e',h1,_,_,h2⟩:=h.get he
  have:es'[i]? = some e':=by simpa using h1
  rw [this]
  show i64 e.born=goInt e'.born
  rw [h2];rfl
theorem Qu (h:HR P base ρ s w){C:Cfg}(hC:C.P=P)(hO:aeg C)(hZ:tH P){t kt e:TypeId}(hu:P.underlying t=some (.map kt e)){m k m' k':Value}(hm:VR ρ m m')(hk:VR ρ k k'){r:Res}(hr:mapEntry C s kt e m k=some r) :
  sW P base ρ s w (qaq P (do pure (.value (←Instr.mapEntry t m' k'))) w) r:=by
 unfold Ax.mapEntry at hr
 obtain ⟨i,l,es,c,es',rfl,hl,ht,hw,he,hr⟩:=Ju h hm hr
 obtain ⟨q,hq,hr⟩:=ah.1 hr
 obtain ⟨h1,q',h2,h3⟩:=GL (w:=w) hC hO hk he hq
 rw [hC] at hr
 cases h3 with
 |none=>
  obtain ⟨z,hz,hr⟩:=ah.1 hr
  have hr:=bC hr
  rw [hr,iG]
  have hzr:=Ea (w:=w) hz
  have hzv:=tH.at (ρ:=ρ) hZ hz
  have hgo:=Goes.putObj (r:=.map (es++[{ key:=k,val:=z,born:=c }]) (qaj c)) (o:=.map (es'.push { key:=k',val:=z,born:=c }) (c+1)) h ht hl (.inl ⟨_,_,rfl,_,rfl,by
   rw [qaK]
   exact he.snoc hk hzv rfl⟩)
  have hrun:(Instr.mapEntry t (.map (some l.blk)) k').run P w = .ok (.tuple #[z,goInt c]) { w with heap:=w.heap.setIfInBounds l.blk (.map (es'.push { key:=k',val:=z,born:=c }) (c+1)) }:=by
   simp [Instr.mapEntry,run_underlying hu,jo hw (by simp),h1,h2,hzr,BX _ hw]
  simp only [qad,hrun,qab,qaf]
  exact iK hgo (.tuple (.cons hzv (.cons (.int _ _) .nil)))
 |some j hv=>
  obtain ⟨hg,hr⟩:=au.1 hr
  have hr:=bC hr
  rw [hr,aky]
  have hst:=Dv (P:=P) (w:=w) he hk hg
  have hgo:=Goes.putObj (r:=.map (es.modify j (ajG k)) c) (o:=.map (es'.modify j fun e=>{ e with key:=k' }) c) h ht hl (.inl ⟨_,_,rfl,_,rfl,by
   rw [toList_modify]
   exact he.modify (f:=ajG k) (f':=fun e=>{ e with key:=k' }) (fun e e' _ hv hb=>⟨hk,hv,hb⟩) j⟩)
  have hrun:=(show (Instr.mapEntry t (.map (some l.blk)) k').run P w = .ok (.tuple #[_,goInt (((es'[j]?).map (·.born)).getD 0)]) { w with heap:=w.heap.setIfInBounds l.blk (.map (es'.modify j fun e=>{ e with key:=k' }) c) } from by
   simp [Instr.mapEntry,run_underlying hu,jo hw (by simp),h1,h2,hst,BX _ hw]
   rfl)
  simp only [qad,hrun,qab,qaf]
  exact iK hgo (.tuple (.cons hv (.cons (by first|exact .int _ _|(rw [ajy he];exact .int _ _)) .nil)))
end
end Go.Ax
namespace Go.Ax
variable [Lo]
open Go
noncomputable section
def Fro (ro:Option Nat):Fence:={ Fence.wide with round:=ro }
def exq:Ex→Exit
 |.normal=>.normal
 |.exit id=>.exit id
 |.ret=>.ret
section
variable {P:Program} {base:Nat} {ρ ρ':Ren} {s s':St} {w w':World}
def Fr.get (n:Nat)(fr:Fr)(t:Nat):Option Value:=sel (ltN t n) (fr.vars.get t) (nN t fr.loc)
def zF (ρ:Ren)(s:St)(w:World)(r:Nat):Prop:=r<w.heap.size∧¬xO ρ s r∧w.heap[r]? = some (.deferred (some []))
inductive JI (ρ:Ren) (s:St) (w:World):List (FuncId × List Value)→List Deferred→Prop
 |nil:JI ρ s w [] []
 |cons {f:FuncId} {args first captured:List Value} {d:Deferred} {l:List (FuncId × List Value)} {ds:List Deferred} (ht:d.target = .fn (.func f) ⟨captured⟩) (ha:d.args=⟨first⟩)
   (hv:VRs ρ args (first++captured)) (h:JI ρ s w l ds):JI ρ s w ((f,args)::l) (d::ds)
 |mark {r:Nat} {l:List (FuncId × List Value)} {ds:List Deferred} (hm:zF ρ s w r) (hlt:∀ d∈ds,∀ q,d.target = .collected q→q<r) (h:JI ρ s w l ds):JI ρ s w l ({ target:=.collected r,args:=#[] }::ds)
def ajb (mk:Option Nat)(a:Act):Prop:=∀ d∈a.defers,∀ r,d.target = .collected r→∃ k,mk=some k∧k≤r
structure FrR (mk:Option Nat) (n nt:Nat) (ρ:Ren) (s:St) (w:World) (fr:Fr) (a:Act):Prop where
 size:nt≤a.tmps.size
 tmps:∀ t v,fr.get n t=some v→VR ρ v (a.tmps.getD t undef)
 defers:JI ρ s w fr.defers a.defers
 wu:ajb mk a
end
inductive PartOf:Code→Code→Prop
 |refl (c:Code):PartOf c c
 |azC {c a b:Code} (h:PartOf c (.seq a b)):PartOf c a
 |azD {c a b:Code} (h:PartOf c (.seq a b)):PartOf c b
 |aq0 {c:Code} {x:Operand} {a b:Code} (h:PartOf c (.cond x a b)):PartOf c a
 |ap7 {c:Code} {x:Operand} {a b:Code} (h:PartOf c (.cond x a b)):PartOf c b
 |block {c:Code} {id:Nat} {a:Code} (h:PartOf c (.block id a)):PartOf c a
 |loop {c a:Code} (h:PartOf c (.loop a)):PartOf c a
 |scope {c a:Code} (h:PartOf c (.scope a)):PartOf c a
def uX (P:Program)(C:Cfg)(fn:FuncId)(body:Code):Prop:=
 ∀ F,C.MQ fn (jR body)=some F→∀ (fr:Fr) (s:St) (e:Ex) (fr':Fr) (s':St),(F fr s).run=some (e,fr',s')→
  ∀ (B:Nat) (ρ:Ren) (a:Act) (w:World) (mk:Option Nat) (m nt:Nat) (Q:Exit→Act→World→Prop),qg nt body=true→(mk=none→GZ body=true)→
   HR P B ρ s w→FrR mk (C.vars fn) nt ρ s w fr a→(∀ k,mk=some k→k≤w.heap.size)→
   (∀ ρ' w' a',Goes P B ρ s w ρ' s' w'→FrR mk (C.vars fn) nt ρ' s' w' fr' a'→Q (exq e) a' w')→(Code.loop body).wpIn (Fro none) m P Q a w
end
end Go.Ax
namespace Go.Ax
variable [Lo]
open Go
section
variable {P:Program} {base:Nat} {ρ:Ren} {s s':St} {w w':World} {C:Cfg}
theorem afp {l:List (Nat × Nat × Nat × Nat)}{e n o u:Nat}(h:akg l e n o u=true):(e,n,o,u)∈l:=by
 induction l with
 |nil=>cases h
 |cons p t ih=>
  have h:sel (qah p.1 e&&(qah p.2.1 n&&(qah p.2.2.1 o&&qah p.2.2.2 u))) true (akg t e n o u)=true:=h
  rw [aG] at h
  split at h
  ·rename_i hb
   simp only [qac] at hb
   obtain ⟨a,b,c,d⟩:=p
   simp only at hb
   rw [qaa hb.1,qaa hb.2.1,qaa hb.2.2.1,qaa hb.2.2.2]
   exact qaA
  ·exact qam _ (ih h)
theorem U1 (h:HR P base ρ s w)(hP:C.P=P)(hl:∀ q,q∈C.lies→liesAt P P.depth q.1 (q.2.1/P.cellsOf q.1) q.2.2.1 q.2.2.2 1=true){src dst:TypeId}{x c v:Value}(hx:VR ρ x c)(hr:Ei C s src dst x=some v) :
  VR ρ v c∧(Go.convert src dst c).run P w = .ok c w:=by
 unfold Ei at hr
 split at hr
 ·rename_i a
  obtain ⟨⟨cs,e,f⟩,hc,hr⟩:=ah.1 hr
  obtain ⟨h0,hr⟩:=au.1 hr
  have h0:f=0:=qaa h0
  subst h0
  rw [hP] at hr
  obtain ⟨l,hrow⟩:=h.rows _ _ _ _ hc
  obtain ⟨hat,arr,fz,⟨e9,ha,he9⟩,_,_,h0,_⟩:=hrow
  have he9:=(he9 (.inl rfl)).symm
  subst he9
  obtain ⟨h1,h2,_⟩:=h0 rfl
  cases hx with
  |@ptr b o L hL=>
   have hLl:L=l:=by
    have hat:ρ.at b=some l:=hat
    rw [hL] at hat
    exact Option.some.inj hat
   subst hLl
   have hsh:w.shape? L.blk=some (e,arr.size):=by simp [World.shape?,ha]
   split at hr
   ·rename_i hd
    unfold ptrTo at hr
    rw [hP] at hr
    split at hr
    ·rename_i t hs
     obtain ⟨n,hn,hr⟩:=ah.1 hr
     obtain ⟨hg,hr⟩:=au.1 hr
     cases hr
     simp only [qac] at hg
     have g1:=qae hg.1
     have g2:=bD hg.2
     rw [aW] at g2
     obtain ⟨j,hj,hjn⟩:=Option.map_eq_some_iff.1 (show (P.info? t).map (·.size)=some n from hn)
     refine ⟨.ptr hL,Lib.run_to_unsafe w ⟨L.blk,L.off+o,none⟩ hs hd hj (by omega) hsh ?_⟩
     show L.off+o<arr.size
     have g2:o<cs.length:=g2
     omega
    ·cases hr
   ·rename_i u hd
    unfold ajx at hr
    rw [hP] at hr
    split at hr
    ·rename_i hs
     obtain ⟨hg,hr⟩:=au.1 hr
     cases hr
     simp only [qac] at hg
     obtain ⟨j,hj⟩:=Option.isSome_iff_exists.1 hg.2
     have hm:=hl _ (afp hg.1)
     refine ⟨.ptr hL,Lib.run_from_unsafe w ⟨L.blk,L.off+o,none⟩ hs hd hj hsh ?_⟩
     have hm:liesAt P P.depth e (aQ cs/P.cellsOf e) o u 1=true:=hm
     rw [aW,←h2] at hm
     rw [h1,Nat.zero_add]
     exact hm
    ·cases hr
   ·cases hr
 ·cases hr
theorem KH (h:HR P base ρ s w){x c:Value}(hx:VR ρ x c)(ts:Array TypeId)(ty:TypeId){r:Res}(hr:Hw s x=some r) :
  sW P base ρ s w (qaq P (do pure (.value (←Builtin.unsafeSliceData_ ts ty #[c]))) w) r:=by
 unfold Hw at hr
 split at hr
 ·rw [bC hr]
  cases hx
  simp only [qad,Lib.run_unsafeSliceData_nil,qab,qaf]
  exact aY h .nY
 ·rename_i a n k
  obtain ⟨hg,hr⟩:=au.1 hr
  simp only [qac] at hg
  cases hx with
  |dead A K=>exact Bool.noConfusion hg.2
  |@slice b o _ _ L hL=>
   rw [aG] at hr
   split at hr
   ·rename_i hk
    obtain ⟨h1,hr⟩:=au.1 hr
    rw [bC hr]
    have h1:=qae h1
    have hk:=bD hk
    rw [jK hk]
    simp only [qad,Lib.run_unsafeSliceData_row w ts ty _ _ _ (show k≠0 by omega),qab,qaf]
    exact aY h (.ptr hL)
   ·obtain ⟨⟨cs,e,f⟩,hc,hr1⟩:=ah.1 hr
    obtain ⟨hg2,hr2⟩:=au.1 hr1
    simp only [qac] at hg2
    have e1:k=aC:=qaa hg2.1
    subst e1
    have hf:f≠0:=by
     rintro rfl
     exact Bool.noConfusion hg2.2.1
    have hlen:1≤cs.length:=by
     have:=qae hg2.2.2
     rwa [aW] at this
    rw [bC hr2]
    obtain ⟨l,hrow⟩:=h.rows _ _ _ _ hc
    obtain ⟨hat,arr,fz,ha,_,_,_,hn⟩:=hrow
    have hLl:L=l:=by
     have hat:ρ.at b=some l:=hat
     rw [hL] at hat
     exact Option.some.inj hat
    subst hLl
    obtain ⟨m,hm,hm0,hm1,hm2⟩:=hn hf
    have hcap:L.cap≠0:=by
     intro h0
     rw [h0] at hm2
     omega
    rw [uP]
    simp only [qad,Lib.run_unsafeSliceData_row w ts ty _ _ _ hcap,qab,qaf]
    exact aY h (.ptr hL)
 ·cases hr
theorem ajj {e:TypeId}(hc:P.cellsOf e=1)(count off n:Nat)(hn:off+n≤count):liesAt P P.depth e count off e n=true:=by
 have hd:P.depth=(2*(P.types.size+Made.depth)+1)+1:=rfl
 rw [hd]
 simp only [liesAt,qaN]
 left
 rw [hd]
 simp [rowAt,hc,hn,sameLayout,Nat.mod_one]
theorem wB (w:World):∀ (l:List Int) (a:Addr) (acc:ByteArray),(∀ (j:Nat) (x:Int),l[j]? = some x→w.cell? (a.add j)=some (.int .u8 x))→
  (loadBytes a acc l.length).run P w = .ok ⟨acc.data++(l.map fun x=>UInt8.ofNat x.toNat).toArray⟩ w
 |[],a,acc,_=>by simp [loadBytes]
 |x::l,a,acc,h=>by
  have h0:w.cell? a=some (.int .u8 x):=by
   have:=h 0 x rfl
   simpa [Addr.add] using this
  have ih:=wB w l (a.add 1) (acc.push x.toNat.toUInt8) (fun j y hy=>by
   have:=h (j+1) y (by simpa using hy)
   have e:(a.add 1).add j=a.add (j+1):=by
    unfold Addr.add
    by_cases hj:j=0
    ·subst hj;simp
    ·simp [hj];omega
   rw [e];exact this)
  simp only [List.length_cons,loadBytes,qad,run_load,h0,qaX]
  rw [ih]
  congr 1
  apply ByteArray.ext
  simp [ByteArray.push]
theorem EL (w:World)(ts:Array TypeId)(pt ty e:TypeId)(ht:ts[0]? = some pt)(hp:P.underlying pt=some (.pointer e))(hc:P.cellsOf e=1)(g o cells:Nat)(hsh:w.shape? g=some (e,cells))(l:List Int)(h0:l≠[])(hn:o+l.length≤cells)(h63:l.length≤9223372036854775807)
  (hcell:∀ (j:Nat) (x:Int),l[j]? = some x→w.cell? ((⟨g,o,none⟩:Addr).add j)=some (.int .u8 x)) :
  (Builtin.unsafeString_ ts ty #[.pointer (some ⟨g,o,none⟩),.int .i64 l.length]).run P w = .ok (.string ⟨(l.map fun x=>UInt8.ofNat x.toNat).toArray⟩) (w.freeze ⟨g,o,none⟩ l.length):=by
 have hl:l.length≠0:=by simpa using h0
 have hlb:=wB (P:=P) w l ⟨g,o,none⟩ .empty hcell
 have hlies:=ajj (P:=P) hc (cells/P.cellsOf e) o l.length (by rw [hc];simpa using hn)
 have h63':¬(9223372036854775807:Int)<(l.length:Int):=by omega
 obtain ⟨m1,m2,hdef⟩:∃ m1 m2:String,Builtin.unsafeString_ ts ty #[.pointer (some ⟨g,o,none⟩),.int .i64 l.length] =
   (do
    let n ←asInt (.int .i64 l.length)
    let some pt:=ts[0]?|stuck m1
    if n<0 then runtimePanic (.error m2)
    if n>IntKind.i64.max then unsupported (.unsafePointer "String: a length above the largest int")
    if n=0 then pure (.string .empty)
    else if ←variablesAt ⟨g,o,none⟩ (←elemOf pt) n.toNat then do
     let s ←loadBytes ⟨g,o,none⟩ .empty n.toNat
     freeze ⟨g,o,none⟩ n.toNat
     pure (.string s)
    else unsupported (.unsafePointer "String: not so many bytes at ptr")):=⟨_,_,rfl⟩
 rw [hdef]
 have hmax:IntKind.i64.max=9223372036854775807:=rfl
 have hneg:¬(l.length:Int)<0:=by omega
 simp [ht,asInt,asIntOf,hmax,h63',hneg,hl,variablesAt,hsh,elemOf,run_underlying hp,hlies,hlb]
theorem CZ (w:World)(ts:Array TypeId)(pt ty:TypeId)(ht:ts[0]? = some pt):(Builtin.unsafeString_ ts ty #[.pointer none,.int .i64 0]).run P w = .ok (.string .empty) w:=by
 have hmax:IntKind.i64.max=9223372036854775807:=rfl
 obtain ⟨m1,m2,m3,hdef⟩:∃ m1 m2 m3:String,Builtin.unsafeString_ ts ty #[.pointer none,.int .i64 0] =
   (do
    let n ←asInt (.int .i64 0)
    let some _:=ts[0]?|stuck m1
    if n<0 then runtimePanic (.error m2)
    if n>IntKind.i64.max then unsupported (.unsafePointer "String: a length above the largest int")
    if n=0 then pure (.string .empty)
    else runtimePanic (.error m3)):=⟨_,_,_,rfl⟩
 rw [hdef]
 simp [ht,asInt,asIntOf,hmax]
theorem Goes.freeze (h:HR P base ρ s w){b:Nat}{cs:List Value}{e:TypeId}{f:Nat}{l:Loc}(hb:ak≤b)(hc:s.cells b=some (cs,e,f))(hl:ρ.at b=some l)(o n:Nat) :
  Goes P base ρ s w ρ (killed s b f) (w.freeze ⟨l.blk,o,none⟩ n):=by
 obtain ⟨hg,hlive⟩:=aO.1 hc
 have htb:=dH hc
 have hos:(w.freeze ⟨l.blk,o,none⟩ n).os=w.os∧(w.freeze ⟨l.blk,o,none⟩ n).tape=w.tape∧(w.freeze ⟨l.blk,o,none⟩ n).output=w.output∧(w.freeze ⟨l.blk,o,none⟩ n).heap.size=w.heap.size∧
   ∀ k,k≠l.blk→(w.freeze ⟨l.blk,o,none⟩ n).heap[k]? = w.heap[k]?:=by
  unfold World.freeze
  split
  ·exact ⟨rfl,rfl,rfl,rfl,fun _ _=>rfl⟩
  ·refine ⟨rfl,rfl,rfl,by simp,fun k hk=>?_⟩
   simp only [Array.getElem?_modify]
   rw [if_neg (by omega)]
 obtain ⟨h1,h2,h3,hsize,hother⟩:=hos
 have hch:∀ j,j∈([]:List Nat)→j≠b→∃ q,s.bZ.get f=some q∧j∈q:=fun j hj=>absurd hj List.not_mem_nil
 have hgb:(killed s b f).heap.get b=some .other:=Hp.get_set_same _ _ _
 have hgo:∀ i,i≠b→(killed s b f).heap.get i=s.heap.get i:=fun i hi=>Hp.get_set_other _ _ hi
 have aBA:(killed s b f).tag b=none:=by unfold St.tag;rw [hgb]
 have lJ:∀ i t,(killed s b f).tag i=some t→i≠b∧s.tag i=some t∧t≠(if f=0 then (0,b) else (1,f)):=by
  intro i t ht
  have hi:i≠b:=by rintro rfl;rw [aBA] at ht;cases ht
  refine ⟨hi,?_,?_⟩
  ·unfold killed at ht
   by_cases h0:f=0
   ·subst h0
    exact (jg (n:=s.next) hi)▸ht
   ·have:qah f 0=false:=by rw [←qan,qaF];exact h0
    rw [this,aP] at ht
    exact qB hi hch ht
  ·rintro rfl
   unfold St.tag at ht
   rw [hgo i hi] at ht
   by_cases h0:f=0
   ·subst h0
    simp only [if_true] at ht
    split at ht
    ·split at ht
     ·simp at ht;exact hi ht
     ·split at ht
      ·split at ht <;> simp at ht
      ·cases ht
    ·simp at ht;exact hi ht
    ·simp at ht;exact hi ht
    ·cases ht
   ·simp only [h0,if_false] at ht
    split at ht
    ·rename_i cs1 e1 g1 _
     by_cases h1:g1=0
     ·simp [h1] at ht
     ·simp only [h1,if_false] at ht
      have hkf:(killed s b f).bZ=s.bZ.set f []:=by
       have:qah f 0=false:=by rw [←qan,qaF];exact h0
       unfold killed;rw [this];rfl
      rw [hkf] at ht
      by_cases hgf:g1=f
      ·subst hgf
       simp [Hp.get_set_same] at ht
      ·split at ht
       ·split at ht
        ·simp at ht;exact hgf ht
        ·cases ht
       ·cases ht
    ·simp at ht
    ·simp at ht
    ·cases ht
 have hcells:∀ i c,(killed s b f).cells i=some c→i≠b∧s.cells i=some c:=by
  intro i c hi
  have hib:i≠b:=(lJ i _ (dH (cs:=c.1) (e:=c.2.1) (f:=c.2.2) hi)).1
  refine ⟨hib,?_⟩
  unfold killed at hi
  by_cases h0:f=0
  ·subst h0
   exact (iC (n:=s.next) hib)▸hi
  ·have:qah f 0=false:=by rw [←qan,qaF];exact h0
   rw [this,aP] at hi
   exact lM hib hch hi
 have hrow:∀ i t q,(killed s b f).tag i=some t→ρ.at i=some q→q.blk≠l.blk:=by
  intro i t q ht hq
  obtain ⟨_,ht2,hne⟩:=lJ i t ht
  exact h.sep i b t _ q l ht2 htb hne hq hl (.inr hb)
 have hHR:HR P base ρ (killed s b f) (w.freeze ⟨l.blk,o,none⟩ n):=by
  refine ⟨fun i q hi=>?_,h.next,by rw [hsize];exact h.iF,fun i hi ht=>?_,fun i r hi=>?_,fun i cs1 e1 f1 hi=>?_,fun i cs1 e1 f1 hi=>?_,fun i es c hi=>?_,fun i r hi=>?_,fun i j x y u v hi hj hxy hu hv=>?_⟩
  ·rw [hsize];exact h.dom i q hi
  ·cases ht':(killed s b f).tag i with
   |none=>exact absurd ht' ht
   |some t=>exact h.low i hi (by rw [(lJ i t ht').2.1];simp)
  ·by_cases hib:i=b
   ·subst hib;exact h.dO i _ hg
   ·rw [hgo i hib] at hi;exact h.dO i r hi
  ·by_cases hib:i=b
   ·subst hib;rw [hgb] at hi;cases hi
   ·rw [hgo i hib] at hi;exact h.fM i _ _ _ hi
  ·obtain ⟨_,hi'⟩:=hcells i _ hi
   obtain ⟨q,hq⟩:=h.rows i cs1 e1 f1 hi'
   exact ⟨q,hq.move (Ren.le_refl ρ) (hother _ (hrow i _ q (dH hi) hq.at_))⟩
  ·have hib:i≠b:=by rintro rfl;rw [hgb] at hi;cases hi
   have ht:(killed s b f).tag i=some (0,i):=qj hi
   rw [hgo i hib] at hi
   obtain ⟨q,hq,es',g1,g2⟩:=h.maps i es c hi
   exact ⟨q,hq,es',by rw [hother _ (hrow i _ q ht (by rw [Ren.dw (h.dom i q hq).1];exact hq))];exact g1,g2⟩
  ·have hib:i≠b:=by rintro rfl;rw [hgb] at hi;cases hi
   have ht:(killed s b f).tag i=some (0,i):=kR hi
   rw [hgo i hib] at hi
   obtain ⟨q,hq,es',g1,g2⟩:=h.loops i r hi
   exact ⟨q,hq,es',by rw [hother _ (hrow i _ q ht (by rw [Ren.dw (h.dom i q hq).1];exact hq))];exact g1,g2⟩
  ·exact h.sep i j x y u v (lJ i x hi).2.1 (lJ j y hj).2.1 hxy hu hv
 refine ⟨Ren.le_refl ρ,hHR,h1,h2,h3,by rw [hsize];exact qao _,qao _,fun k hk hn=>hother k ?_,?_,fun _ _=>rfl⟩
 ·rintro rfl
  exact hn ⟨b,l,_,hb,htb,by rwa [Ren.dw hb] at hl,rfl⟩
 ·rintro k ⟨i,q,t,hi,ht,hq,rfl⟩
  exact .inl ⟨i,q,t,hi,(lJ i t ht).2.1,hq,rfl⟩
theorem Xm:∀ (n:Nat) {l r:List Value},takeN n l=some r→r.length=n∧∀ (j:Nat) (x:Value),r[j]? = some x→l[j]? = some x
 |0,l,r,h=>by
  have h:some []=some r:=h
  cases h
  exact ⟨rfl,fun j x hj=>by simp at hj⟩
 |n+1,[],r,h=>by cases h
 |n+1,a::l,r,h=>by
  obtain ⟨q,hq,h⟩:=ah.1 (show aj (takeN n l) (fun r=>some (a::r))=some r from h)
  cases h
  obtain ⟨h1,h2⟩:=Xm n hq
  refine ⟨by simp [h1],fun j x hj=>?_⟩
  cases j with
  |zero=>simpa using hj
  |succ j=>simpa using h2 j x (by simpa using hj)
theorem Uh (h:HR P base ρ s w){x y c d:Value}(hx:VR ρ x c)(hy:VR ρ y d)(ts:Array TypeId)(ty:TypeId){t:TypeId}(ht:ts[0]? = some t){r:Res}(hr:aaY P s t x y=some r) :
  sW P base ρ s w (qaq P (do pure (.value (←Builtin.unsafeString_ ts ty #[c,d]))) w) r:=by
 unfold aaY at hr
 split at hr
 ·split at hr
  ·rename_i n
   obtain ⟨hg,hr⟩:=au.1 hr
   rw [bC hr]
   rw [jm] at hg
   have hg:n=0:=by simpa using hg
   subst hg
   cases hx
   cases hy
   simp only [qad,CZ w ts t ty ht,qab,qaf]
   exact aY h (.string _)
  ·cases hr
 ·rename_i a
  split at hr
  ·rename_i n
   obtain ⟨m,hm,hr1⟩:=ah.1 hr
   clear hr
   obtain ⟨⟨cs,e,f⟩,hc,hr2⟩:=ah.1 hr1
   clear hr1
   split at hr2
   ·rename_i e' hu
    obtain ⟨hg,hr3⟩:=au.1 hr2
    clear hr2
    obtain ⟨k,hk,hr4⟩:=ah.1 hr3
    clear hr3
    obtain ⟨hk1,hr5⟩:=au.1 hr4
    clear hr4
    obtain ⟨l,hl,hr6⟩:=ah.1 hr5
    clear hr5
    obtain ⟨bs,hbs,hr7⟩:=ah.1 hr6
    clear hr6
    have hr8:=Option.some.inj hr7
    clear hr7
    simp only [qac] at hg
    have he:e'=e:=qaa hg.1
    subst he
    have hm1:=qae hg.2.1
    have hm2:=qae hg.2.2.1
    have hft:=qae hg.2.2.2
    have hk1:k=1:=qaa hk1
    subst hk1
    have hcell1:P.cellsOf e'=1:=by
     unfold Program.cellsOf
     rw [show (P.info? e').map (·.size)=some 1 from hk]
     rfl
    obtain ⟨L,hrow⟩:=h.rows _ _ _ _ hc
    obtain ⟨hat,arr,fz,⟨e9,ha,he9⟩,hv,_,_,_⟩:=hrow
    have he9:=(he9 (.inr hft)).symm
    subst he9
    cases hy
    have hn:n=(m:Int):=by
     cases n with
     |ofNat q=>cases hm;rfl
     |negSucc q=>cases hm
    subst hn
    cases hx with
    |@ptr b o L' hL=>
     have hLl:L'=L:=by
      have hat:ρ.at b=some L:=hat
      rw [hL] at hat
      exact Option.some.inj hat
     subst hLl
     obtain ⟨hlen,hget⟩:=Xm m hl
     have hvs:VRs ρ l (l.map id)→True:=fun _=>trivial
     have hcells:∀ (j:Nat) (x:Value),l[j]? = some x→∃ y,arr[L'.off+(o+j)]? = some y∧VR ρ x y:=by
      intro j x hj
      have hj2:=hget j x hj
      rw [iy,List.getElem?_drop] at hj2
      exact hv (o+j) x hj2
     have hcl:∃ cl,VRs ρ l cl∧∀ (j:Nat) (y:Value),cl[j]? = some y→arr[L'.off+(o+j)]? = some y:=by
      have key:∀ (l:List Value) (k:Nat),(∀ (j:Nat) (x:Value),l[j]? = some x→∃ y,arr[k+j]? = some y∧VR ρ x y)→∃ cl,VRs ρ l cl∧∀ (j:Nat) (y:Value),cl[j]? = some y→arr[k+j]? = some y:=by
       intro l
       induction l with
       |nil=>intro k _;exact ⟨[],.nil,fun j y hj=>by simp at hj⟩
       |cons a t ih=>
        intro k hh
        obtain ⟨y,hy,hxy⟩:=hh 0 a rfl
        obtain ⟨cl,h1,h2⟩:=ih (k+1) (fun j x hj=>by
         obtain ⟨z,hz,hxz⟩:=hh (j+1) x (by simpa using hj)
         exact ⟨z,by rw [←hz];congr 1;omega,hxz⟩)
        refine ⟨y::cl,.cons hxy h1,fun j z hj=>?_⟩
        cases j with
        |zero=>simp at hj;subst hj;exact hy
        |succ j=>
         have:=h2 j z (by simpa using hj)
         rw [←this];congr 1;omega
      obtain ⟨cl,h1,h2⟩:=key l (L'.off+o) (fun j x hj=>by
       obtain ⟨y,hy,hxy⟩:=hcells j x hj
       exact ⟨y,by rw [←hy];congr 1;omega,hxy⟩)
      exact ⟨cl,h1,fun j y hj=>by rw [←h2 j y hj];congr 1;omega⟩
     obtain ⟨cl,hcv,hcg⟩:=hcl
     obtain ⟨ns,rfl,hns⟩:=yK hcv hbs
     have hnl:ns.length=m:=by
      have:=hcv.length
      simp at this
      omega
     have hsz:L'.off+o+ns.length≤arr.size:=by
      by_cases h0:ns.length=0
      ·omega
      ·have hlast:(ns.map (Value.int .u8))[ns.length-1]? = some (.int .u8 (ns[ns.length-1]'(by omega))):=by simp
       have:=hcg _ _ hlast
       have:=(Array.getElem?_eq_some_iff.1 this).1
       omega
     have hsh:w.shape? L'.blk=some (e',arr.size):=by simp [World.shape?,ha]
     have hrun:=EL (P:=P) w ts t ty e' ht hu hcell1 L'.blk (L'.off+o) arr.size hsh ns (by rintro rfl;simp at hnl;omega) hsz (by omega) (fun j x hj=>by
      have hj2:(ns.map (Value.int .u8))[j]? = some (.int .u8 x):=by simp [hj]
      have:=hcg j _ hj2
      have hadd:(⟨L'.blk,L'.off+o,none⟩:Addr).add j=⟨L'.blk,L'.off+o+j,none⟩:=by
       unfold Addr.add
       split
       ·rename_i h0;subst h0;rfl
       ·rfl
      rw [hadd]
      simp only [World.cell?,ha,Option.isSome_none,qas,if_false]
      rw [←this];congr 1;omega)
     rw [hnl] at hrun
     rw [←hr8]
     simp only [qad,hrun,qab,qaf]
     rw [hns]
     exact iK (Goes.freeze h hft hc hL (L'.off+o) m) (.string _)
   ·cases hr2
  ·cases hr
 ·cases hr
end
end Go.Ax
namespace Go.Ax
variable [Lo]
open Go
section
variable {P:Program} {base:Nat} {ρ:Ren} {s s':St} {w w':World} {ev:Ev} {η:Operand→Value}
def wH (C:Cfg)(P:Program)(f:FuncId)(e:Ext):Prop:=
 ∀ (base:Nat) (ρ:Ren) (s s':St) (w:World) (args aZ:List Value) (v:Value),HR P base ρ s w→VRs ρ args aZ→VE C s e args=some (v,s')→
  ∃ c ρ' w',(callFunc f ⟨aZ⟩).run P w = .ok (.value c) w'∧Goes P base ρ s w ρ' s' w'∧VR ρ' v c
structure eX (C:Cfg) (P:Program):Prop where
 prog:C.P=P
 zero:tH P
 fields:UW P
 eq:aeg C
 byte:∀ e,P.underlying e=some (.int .u8)→size P e=some 1
 globals:P.globals.size<eU
 body:∀ f c,C.body f=some c→∃ fn,P.funcs[f]? = some fn∧fn.body=some c∧(fn.name == "runtime.NumGoroutine")=false∧qg fn.ntmps c=true∧C.results f=fn.results.toList
 mix:P.follows .mixedOrders=true
 insert:∀ f t,C.insert f=some t→∀ args s v s',mY C t s args=some (v,s')→∀ base ρ w aZ,HR P base ρ s w→VRs ρ args aZ→
  Calls P f ⟨aZ⟩ w fun e w'=>∃ c ρ',e = .returned c∧Goes P base ρ s w ρ' s' w'∧VR ρ' v c
 ext:∀ f e,C.ext f=some e→wH C P f e
 lies:∀ q,q∈C.lies→liesAt P P.depth q.1 (q.2.1/P.cellsOf q.1) q.2.2.1 q.2.2.2 1=true:=by intro q h;cases h
 loops:∀ fn c body,C.body fn=some c→PartOf c (.loop body)→uX P C fn body:=by intro fn c body _ _ F h;cases h
variable {C:Cfg}
theorem yC (hK:eX C P)(h:HR P base ρ s w){f:FuncId}{args aZ:List Value}(ha:VRs ρ args aZ){r:Res}(hr:wS C s f args=some r) :
  sW P base ρ s w ((callFunc f ⟨aZ⟩).run P w) r:=by
 unfold wS at hr
 cases he:C.ext f with
 |none=>
  rw [he] at hr
  obtain ⟨hg,hr⟩:=au.1 hr
  cases hr
  obtain ⟨c,hc⟩:=Option.isSome_iff_exists.1 hg
  obtain ⟨fn,h1,h2,h3,_⟩:=hK.body f c hc
  refine ⟨rfl,aZ,?_,ha⟩
  have h3':¬fn.name="runtime.NumGoroutine":=by simpa using h3
  simp [callFunc,h1,h2,h3']
 |some e=>
  rw [he] at hr
  obtain ⟨⟨v,s2⟩,hv,hr⟩:=ah.1 hr
  cases hr
  obtain ⟨c,ρ',w',h1,h2,h3⟩:=hK.ext f e he base ρ s s2 w args aZ v h ha hv
  exact ⟨ρ',w',c,.inl h1,h2,h3⟩
theorem KO (hK:eX C P)(h:HR P base ρ s w){t:TypeId}{v c:Value}{name:String}{args aZ:List Value}(hv:VR ρ v c)(ha:VRs ρ args aZ){r:Res}(hr:callMethod C s t v name args=some r) :
  sW P base ρ s w ((Go.callMethod (.iface t c) name ⟨aZ⟩).run P w) r:=by
 unfold Ax.callMethod at hr
 rw [hK.prog] at hr
 obtain ⟨q,hq,hr⟩:=ah.1 hr
 obtain ⟨c',h1,h2⟩:=Z7 h hv hq (P.types.size+Made.depth-1)
 have e:P.types.size+Made.depth-1+1=P.types.size+Made.depth:=by
  have:0<Made.depth:=by decide
  omega
 rw [e] at h1
 have:=yC hK h (VRs.cons h2 ha) hr
 unfold Go.callMethod
 simp only [qad,run_program,qab,h1]
 have e2:(#[c']++⟨aZ⟩:Array Value)=⟨c'::aZ⟩:=by simp
 rw [e2]
 exact this
theorem Dy (hK:eX C P)(h:HR P base ρ s w){name:String}{args aZ:List Value}(ha:VRs ρ args aZ){r:Res}(hr:callName C s name args=some r) :
  ∃ recv rest,aZ=recv::rest∧sW P base ρ s w ((Go.callMethod recv name ⟨rest⟩).run P w) r:=by
 unfold callName at hr
 split at hr
 ·cases ha with
  |cons h1 h2=>
   cases h1 with
   |iface t hv=>exact ⟨_,_,rfl,KO hK h hv h2 hr⟩
 ·cases hr
theorem VT (hK:eX C P)(h:HR P base ρ s w){t:TypeId}{path:Array FieldStep}{f:FuncId}{pr:Bool}{args aZ:List Value}(ha:VRs ρ args aZ){r:Res}(hr:NV C s t path.toList f pr args=some r) :
  ∃ x rest,aZ=x::rest∧sW P base ρ s w (qaq P (do callFunc f (#[←receiverVia t x path pr]++⟨rest⟩)) w) r:=by
 unfold NV at hr
 split at hr
 ·rw [hK.prog] at hr
  obtain ⟨q,hq,hr⟩:=ah.1 hr
  obtain ⟨v,hv,hr⟩:=ah.1 hr
  cases ha with
  |@cons _ c _ rest h1 h2=>
   obtain ⟨y,h3,h4⟩:=rX h path.toList (PlR.val h1) hq
   obtain ⟨c',h5,h6⟩:=DN h none h4 hv
   refine ⟨_,_,rfl,?_⟩
   have:=yC hK h (VRs.cons h6 h2) hr
   simp only [receiverVia,qad,h3,qab,h5]
   have e2:(#[c']++⟨rest⟩:Array Value)=⟨c'::rest⟩:=by simp
   rw [e2]
   exact this
 ·cases hr
theorem Yw (hK:eX C P)(h:HR P base ρ s w){fn fn':Fn}{a a' b b' args aZ:List Value}(hf:FR ρ fn fn')(ha:VRs ρ a a')(hb:VRs ρ b b')(hg:VRs ρ args aZ){r:Res}(hr:acp C s fn a b args=some r) :
  sW P base ρ s w ((Go.invoke (.fn fn' ⟨b'⟩) (⟨a'⟩++⟨aZ⟩)).run P w) r:=by
 have e1:(⟨a'⟩++⟨aZ⟩:Array Value)=⟨a'++aZ⟩:=by simp
 rw [e1]
 unfold acp at hr
 simp only [iG] at hr
 cases hf with
 |func f=>
  have:=yC hK h (ha.append (hg.append hb)) hr
  have e2:(⟨a'++aZ⟩++⟨b'⟩:Array Value)=⟨a'++(aZ++b')⟩:=by simp
  simp only [Go.invoke,e2]
  exact this
 |yield hl=>
  cases hr
  exact ⟨rfl,_,_,hl,rfl,ha.append hg⟩
 |method name=>
  obtain ⟨recv,rest,h1,h2⟩:=Dy hK h (ha.append hg) hr
  rw [h1]
  have e2:(⟨recv::rest⟩:Array Value).extract 1 (⟨recv::rest⟩:Array Value).size=⟨rest⟩:=by simp
  simp only [Go.invoke,qaC,qax,e2]
  exact h2
 |methodOf t n=>cases hr
 |via t p f b=>
  obtain ⟨x,rest,h1,h2⟩:=VT hK h (ha.append hg) hr
  rw [h1]
  have e2:(⟨x::rest⟩:Array Value).extract 1 (⟨x::rest⟩:Array Value).size=⟨rest⟩:=by simp
  simp only [Go.invoke,qaC,qax,e2]
  exact h2
theorem Jj (hK:eX C P)(h:HR P base ρ s w){f cf:Value}{args aZ:List Value}(hf:VR ρ f cf)(ha:VRs ρ args aZ){r:Res}(hr:invoke C s f args=some r) :
  sW P base ρ s w (qaq P (do let d ←Deferred.ofValue cf ⟨aZ⟩;Go.invoke d.target d.args) w) r:=by
 unfold Ax.invoke at hr
 split at hr
 ·cases hf with
  |func hfn h1 h2=>
   have:=Yw hK h hfn h1 h2 ha hr
   simpa only [Deferred.ofValue,qad,qaf,qab] using this
 ·cases hr
theorem Vj (hK:eX C P)(h:HR P base ρ s w){b:Builtin}{ts:Array TypeId}{ty:TypeId}{consts:Array Bool}{args aZ:List Value}(ha:VRs ρ args aZ){r:Res}
  (hr:builtin C s b (nth ts.toList 0) (nth ts.toList 1) args=some r):sW P base ρ s w ((Go.builtin b ts ty consts ⟨aZ⟩).run P w) r:=by
 have h0:nth ts.toList 0=ts[0]?:=by rw [jk];simp
 have h1:nth ts.toList 1=ts[1]?:=by rw [jk];simp
 rw [h0,h1] at hr
 unfold Ax.builtin at hr
 split at hr
 ·cases ha with
  |cons hx hn=>
   cases hn
   split at hr
   ·obtain ⟨t,ht,hr⟩:=ah.1 hr
    rw [hK.prog] at hr
    exact aeH h hx ts ty ht hr
   ·obtain ⟨t,ht,hr⟩:=ah.1 hr
    rw [hK.prog] at hr
    exact aeP h hx ts ty ht hr
   ·obtain ⟨t,ht,hr⟩:=ah.1 hr
    rw [hK.prog] at hr
    exact Zq h hK.zero hx ts ty ht hr
   ·exact KH h hx ts ty hr
   ·cases hr
 ·cases ha with
  |cons hx hn=>
   cases hn with
   |cons hy hn=>
    cases hn
    split at hr
    ·obtain ⟨t,ht,hr⟩:=ah.1 hr
     rw [hK.prog] at hr
     obtain ⟨⟨v,s2⟩,hv,hr⟩:=ah.1 hr
     cases hr
     obtain ⟨c,ρ',w',h2,h3,h4⟩:=Zg (ty:=ty) h hx hy ht hv
     refine ⟨ρ',w',c,.inl ?_,h3,h4⟩
     simp only [Go.builtin,qad,h2,qab,qaf]
    ·obtain ⟨t,ht,hr⟩:=ah.1 hr
     rw [hK.prog] at hr
     exact aaN h hx hy ts ty ht hr
    ·have:=EO h hx hy ts ty hr
     simpa only [qas,if_false,Go.builtin] using this
    ·have:=EO h hx hy ts ty hr
     simpa only [if_true,Go.builtin] using this
    ·obtain ⟨t,ht,hr⟩:=ah.1 hr
     rw [hK.prog] at hr
     exact Uh h hx hy ts ty ht hr
    ·cases hr
 ·cases hr
end
end Go.Ax
namespace Go.Ax
variable [Lo]
open Go
section
variable {P:Program} {base:Nat} {ρ:Ren} {s s':St} {w w':World} {ev:Ev} {η:Operand→Value} {C:Cfg}
theorem andThen_assoc {α β γ:Type}(x:Result α)(f:α→World→Result β)(g:β→World→Result γ):(x.andThen f).andThen g=x.andThen fun a w=>(f a w).andThen g:=by cases x <;> rfl
theorem Qm (hK:eX C P)(h:HR P base ρ s w)(he:EvR ρ ev η){src dst:TypeId}{x:Operand}{r:Res}(hr:jY C ev s src dst x=some r) :
  sW P base ρ s w (qaq P (do pure (.value (←Go.convert src dst (η x)))) w) r:=by
 obtain ⟨v,hv,hr⟩:=ah.1 hr
 have hr:Option.casesOn (Ei C s src dst v) (aj (convert C.P s src dst v) H9) (fun v=>ret v s)=some r:=hr
 cases hcp:Ei C s src dst v with
 |some u=>
  rw [hcp] at hr
  have hr:ret u s=some r:=hr
  cases hr
  obtain ⟨hu,h1⟩:=U1 h hK.prog hK.lies (he x v hv) hcp
  refine ⟨ρ,w,η x,.inl ?_,Goes.refl h,hu⟩
  simp only [qad,h1,qab,qaf]
 |none=>
 rw [hcp] at hr
 obtain ⟨⟨u,s2⟩,hc,hr⟩:=ah.1 hr
 cases hr
 rw [hK.prog] at hc
 obtain ⟨c,ρ',w',h1,h2,h3⟩:=Ug h hK.byte (he x v hv) hc
 refine ⟨ρ',w',c,.inl ?_,h2,h3⟩
 simp only [qad,h1,qab,qaf]
theorem Ur (hK:eX C P)(h:HR P base ρ s w)(he:EvR ρ ev η){t:TypeId}{m k:Operand}{ok:Bool}{r:Res}(hr:OW C ev s t m k ok=some r) :
  sW P base ρ s w (qaq P (do pure (.value (←Instr.lookup t (η m) (η k) ok))) w) r:=by
 obtain ⟨a,ha,hr⟩:=ah.1 hr
 obtain ⟨b,hb,hr⟩:=ah.1 hr
 exact Xb h hK.prog hK.eq hK.zero (he m a ha) (he k b hb) hr
theorem Gq (hK:eX C P)(h:HR P base ρ s w)(he:EvR ρ ev η){t:TypeId}{m k x:Operand}{r:Res}(hr:wR C ev s t m k x=some r) :
  sW P base ρ s w (qaq P (do Instr.mapUpdate t (η m) (η k) (η x);pure .skip) w) r:=by
 unfold wR at hr
 rw [hK.prog] at hr
 split at hr
 ·rename_i hu
  obtain ⟨a,ha,hr⟩:=ah.1 hr
  obtain ⟨b,hb,hr⟩:=ah.1 hr
  obtain ⟨c,hc,hr⟩:=ah.1 hr
  exact Nc h hK.prog hK.eq hu (he m a ha) (he k b hb) (he x c hc) hr
 ·cases hr
theorem Xx (hK:eX C P)(h:HR P base ρ s w)(he:EvR ρ ev η){t:TypeId}{m k:Operand}{r:Res}(hr:QF C ev s t m k=some r) :
  sW P base ρ s w (qaq P (do pure (.value (←Instr.mapEntry t (η m) (η k)))) w) r:=by
 unfold QF at hr
 rw [hK.prog] at hr
 split at hr
 ·rename_i hu
  obtain ⟨a,ha,hr⟩:=ah.1 hr
  obtain ⟨b,hb,hr⟩:=ah.1 hr
  exact Qu h hK.prog hK.eq hK.zero hu (he m a ha) (he k b hb) hr
 ·cases hr
theorem zY {m:Nat}{q:List MapEntry × Nat}(hq:Ax.NS s m=some q):s.heap.get m=some (.map q.1 q.2):=by
 unfold Ax.NS at hq
 split at hq
 ·rename_i es c h;cases hq;exact h
 ·cases hq
theorem Jm {m:Nat}{q:abt}(hq:Ax.Vm s m=some q):s.heap.get m=some (.loop (.iter q)):=by
 unfold Ax.Vm at hq
 split at hq
 ·rename_i o h
  cases o with
  |loop l=>cases hq
  |iter l=>cases hq;exact h
 ·cases hq
theorem afd {t:TypeId}(h:Ax.isMap P t=true):∃ k e,P.underlying t=some (.map k e):=by
 unfold Ax.isMap at h
 split at h
 ·exact ⟨_,_,by assumption⟩
 ·cases h
theorem abH {k:Nat}{m:Option Nat}{since st:Nat}{seen:Array Nat}(o:Obj)(h:w.heap[k]? = some (.mapIter m since seen st)):(setObj k o).run P w = .ok () { w with heap:=w.heap.setIfInBounds k o }:=by
 simp [setObj,qaq,h]
theorem ZW (hK:eX C P)(h:HR P base ρ s w)(he:EvR ρ ev η){t:TypeId}{x:Operand}{r:Res}(hr:Q5 C ev s t x=some r) :
  sW P base ρ s w (qaq P (do pure (.value (←Instr.range t (η x)))) w) r:=by
 unfold Q5 at hr
 rw [hK.prog] at hr
 obtain ⟨hm,hr⟩:=au.1 hr
 obtain ⟨v,hv,hr⟩:=ah.1 hr
 have hx:=he x v hv
 generalize η x=y at hx
 split at hr
 ·rename_i m
  obtain ⟨q,hq,hr⟩:=ah.1 hr
  have hg:=zY hq
  obtain ⟨l,hl,es',h1,h2⟩:=h.maps m _ _ hg
  cases hx with
  |@map _ l' hl'=>
   rw [hl] at hl'
   cases hl'
   obtain ⟨k,e,hu⟩:=afd hm
   have hgo:=Goes.arR (r:={ map:=m,since:=q.2,seen:=[],stepped:=q.2 }) h hl
   have hr2:=bC hr
   rw [hr2]
   have hrun:(Instr.range t (.map (some l.blk))).run P w = .ok (.pointer (some ⟨w.heap.size,0,none⟩)) (w.alloc (.mapIter (some l.blk) q.2 ⟨[]⟩ q.2)):=by
    simp [Instr.range,run_underlying hu,jo h1 (by simp)]
   simp only [qad,hrun,qab,qaf]
   refine iK hgo ?_
   have:=VR.ptr (ρ:=ρ.set s.next ⟨w.heap.size,0,0⟩) (b:=s.next) (o:=0) (l:=⟨w.heap.size,0,0⟩) (by rw [Ren.dw h.next,Ren.dQ])
   simpa [Ax.ptr] using this
 ·cases hr
theorem agv {α β:Type}{l:List α}{f:α→List α→Option β}{z:Option β}{b:β}(h:jB l z f=some b):(l=[]∧z=some b)∨∃ a t,l=a::t∧f a t=some b:=by
 cases l with
 |nil=>exact .inl ⟨rfl,h⟩
 |cons a t=>exact .inr ⟨a,t,rfl,h⟩
theorem Nk {α:Type}(l:List α):aea l=l.isEmpty:=by cases l <;> rfl
theorem Rh (k:Nat):∀ l:List MapEntry,acg k l=l.all (fun e=>decide (k≤e.born))
 |[]=>rfl
 |e::l=>by
  show sel (qaQ k e.born) (acg k l) false=_
  rw [aG,Rh k l,qaM]
  by_cases hk:k≤e.born
  ·rw [qaB hk];simp [hk]
  ·have:qaQ k e.born=false:=by
    cases hb:qaQ k e.born with
    |false=>rfl
    |true=>exact absurd (qae hb) hk
   rw [this];simp [hk]
theorem YI (seen:List Nat):∀ l:List MapEntry,leftOf seen l=l.filter (fun e=>!seen.contains e.born)
 |[]=>rfl
 |e::l=>by
  show sel (yT e.born seen) (leftOf seen l) (e::leftOf seen l)=_
  rw [aG,YI seen l,Cb]
  by_cases h:e.born∈seen <;> simp [h]
theorem EsR.left {ρ:Ren}(f:Nat→Bool){l l':List MapEntry}(h:EsR ρ l l'):EsR ρ (l.filter fun e=>f e.born) (l'.filter fun e=>f e.born):=by
 induction h with
 |nil=>exact .nil
 |cons hk hv hb _ ih=>
  rw [qaW,qaW,hb]
  split
  ·exact .cons hk hv hb ih
  ·exact ih
theorem EsR.all {ρ:Ren}(f:Nat→Bool){l l':List MapEntry}(h:EsR ρ l l'):(l.all fun e=>f e.born)=l'.all fun e=>f e.born:=by
 induction h with
 |nil=>rfl
 |cons hk hv hb _ ih=>rw [qaM,qaM,hb,ih]
theorem EsR.empty {ρ:Ren}{l l':List MapEntry}(h:EsR ρ l l'):l.isEmpty=l'.isEmpty:=by cases h <;> rfl
theorem ab6 (h:HR P base ρ s w)(he:EvR ρ ev η){x:Operand}{b:Bool}{ty:TypeId}{r:Res}(hr:afm C ev s x b=some r) :
  sW P base ρ s w (qaq P (do pure (.value (←Instr.next (η x) b ty))) w) r:=by
 unfold afm at hr
 obtain ⟨hb,hr⟩:=au.1 hr
 have hb:b=false:=by simpa using hb
 subst hb
 obtain ⟨v,hv,hr⟩:=ah.1 hr
 have hx:=he x v hv
 generalize η x=y at hx
 split at hr
 ·rename_i a
  obtain ⟨h0,hr⟩:=au.1 hr
  have h0:a.off=0:=qaa h0
  obtain ⟨it,hi,hr⟩:=ah.1 hr
  obtain ⟨q,hq,hr⟩:=ah.1 hr
  have hgi:=Jm hi
  have hgm:=zY hq
  obtain ⟨l,hl,o,h1,h2⟩:=h.loops a.block _ hgi
  obtain ⟨lm,hlm,es',h3,h4⟩:=h.maps it.map _ _ hgm
  have hti:=kR hgi
  cases h2 with
  |@iter _ m hl0 hm=>
  rw [hlm] at hm
  cases hm
  obtain ⟨d1,_,_,_⟩:=h.dom _ l hl
  cases hx with
  |@ptr b' o' l' hl'=>
  have h0:o'=0:=h0
  subst h0
  have hl:ρ b'=some l:=hl
  rw [Ren.dw d1,hl] at hl'
  cases hl'
  unfold acU at hr
  obtain ⟨hg,hr⟩:=au.1 hr
  have hg':(!(⟨it.seen⟩:Array Nat).isEmpty && !es'.isEmpty&&es'.all (fun e=>decide (e.born≥it.stepped)))=false:=by
   have e1:(⟨it.seen⟩:Array Nat).isEmpty=it.seen.isEmpty:=by simp
   have e2:es'.isEmpty=q.1.isEmpty:=by rw [h4.empty];simp
   have e3:(es'.all fun e=>decide (e.born≥it.stepped))=q.1.all fun e=>decide (it.stepped≤e.born):=by
    rw [h4.all (fun n=>decide (it.stepped≤n))]
    simp
   rw [Nk,Nk,Rh] at hg
   rw [e1,e2,e3]
   revert hg
   cases it.seen.isEmpty <;> cases q.1.isEmpty <;> cases (q.1.all fun e=>decide (it.stepped≤e.born)) <;> simp
  have hleft:=h4.left (fun n=>!it.seen.contains n)
  rw [YI] at hr
  have hfl:(es'.filter fun e=>!(⟨it.seen⟩:Array Nat).contains e.born).toList=es'.toList.filter fun e=>!it.seen.contains e.born:=by simp
  rcases agv hr with ⟨hnil,hr⟩|⟨e,rest,hcons,hr⟩
  ·have hr:=bC hr
   rw [hr]
   rw [hnil] at hleft
   have hl':es'.filter (fun e=>!(⟨it.seen⟩:Array Nat).contains e.born)=#[]:=by
    apply Array.toList_inj.1
    rw [hfl]
    cases Wh:es'.toList.filter (fun e=>!it.seen.contains e.born) with
    |nil=>rfl
    |cons a t=>rw [Wh] at hleft;cases hleft
   have hrun:(Instr.next (.pointer (some ⟨l.blk,l.off+0,none⟩)) false ty).run P w = .ok (.tuple ⟨[.bool false]⟩) w:=by
    rw [hl0]
    simp only [Instr.next,qaU,jo h1 (by simp),jo h3 (by simp),qad,qab,hg',qas,if_false,hl']
    simp [choose,qaq,Question.forced,qaX]
   simp only [qad,hrun,qab,qaf]
   exact iK (Goes.refl h) (.tuple (.cons (.bool _) .nil))
  ·obtain ⟨hg2,hr2⟩:=au.1 hr
   clear hr
   simp only [qac] at hg2
   obtain ⟨hg2,hg3⟩:=hg2
   rw [Nk] at hg2
   have hrest:rest=[]:=by simpa using hg2
   subst hrest
   have hg3:=bD hg3
   have hr3:=bC hr2
   rw [hr3]
   rw [hcons] at hleft
   obtain ⟨e',hl',hk,hvv,hbb⟩:∃ e',es'.filter (fun e=>!(⟨it.seen⟩:Array Nat).contains e.born)=#[e']∧VR ρ e.key e'.key∧VR ρ e.val e'.val∧e.born=e'.born:=by
    cases Wh:es'.toList.filter (fun e=>!it.seen.contains e.born) with
    |nil=>rw [Wh] at hleft;cases hleft
    |cons a t=>
     rw [Wh] at hleft
     cases hleft with
     |cons hk hv hb hn=>
      cases hn
      refine ⟨a,?_,hk,hv,hb⟩
      apply Array.toList_inj.1
      rw [hfl,Wh]
   have hgo:=Goes.putObj (r:=.loop (.iter { map:=it.map,since:=it.since,seen:=aK it.seen [e.born],stepped:=q.2 })) (o:=.mapIter (some lm.blk) it.since ⟨aK it.seen [e.born]⟩ q.2) h hti hl (.inr ⟨_,rfl,.iter hl0 hlm⟩)
   have hpush:(⟨it.seen⟩:Array Nat).push e'.born=⟨aK it.seen [e.born]⟩:=by
    apply Array.toList_inj.1
    rw [qaK,iG,hbb]
   have hrun:(Instr.next (.pointer (some ⟨l.blk,l.off+0,none⟩)) false ty).run P w = .ok (.tuple ⟨[.bool true,e'.key,e'.val]⟩) { w with heap:=w.heap.setIfInBounds l.blk (.mapIter (some lm.blk) it.since ⟨aK it.seen [e.born]⟩ q.2) }:=by
    rw [hl0]
    have hlt:e'.born<it.since:=by omega
    simp only [Instr.next,qaU,jo h1 (by simp),jo h3 (by simp),qad,qab,hg',qas,if_false,hl']
    simp [choose,qaq,Question.forced,qaX,hlt,hpush,abH _ h1]
   simp only [qad,hrun,qab,qaf]
   exact iK hgo (.tuple (.cons (.bool _) (.cons hk (.cons hvv .nil))))
 ·cases hr
theorem aeh:∀ l:List Nat,aq4 l=l.getLast?
 |[]=>rfl
 |a::l=>by
  show Option.casesOn (motive:=fun _=>Option Nat) (aq4 l) (some a) some=_
  rw [aeh l]
  cases l with
  |nil=>rfl
  |cons b t=>
   rw [List.getLast?_cons_cons]
   cases h:(b::t).getLast? with
   |none=>simp at h
   |some x=>rfl
theorem Jf (k:Nat):∀ l:List MapEntry,MZ k l=l.find? (fun e=>e.born == k)
 |[]=>rfl
 |e::l=>by
  show sel (qah e.born k) (some e) (MZ k l)=_
  rw [aG,Jf k l,qa1]
  by_cases h:e.born=k
  ·subst h;simp
  ·have h1:qah e.born k=false:=by
    cases hb:qah e.born k with
    |false=>rfl
    |true=>exact absurd (qaa hb) h
   have h2:(e.born == k)=false:=by simpa using h
   rw [h1,h2];simp
theorem EsR.find {ρ:Ren}(k:Nat){l l':List MapEntry}(h:EsR ρ l l'){e:MapEntry}(he:l.find? (fun e=>e.born == k)=some e):∃ e',l'.find? (fun e=>e.born == k)=some e'∧VR ρ e.key e'.key∧VR ρ e.val e'.val:=by
 induction h with
 |nil=>cases he
 |cons hk hv hb _ ih=>
  rw [qa1] at he ⊢
  rw [←hb]
  split at he
  ·cases he;exact ⟨_,rfl,hk,hv⟩
  ·exact ih he
theorem KL (h:HR P base ρ s w)(he:EvR ρ ev η){x:Operand}{r:Res}(hr:uo C ev s x=some r) :
  sW P base ρ s w (qaq P (do pure (.value (←Instr.entry (η x)))) w) r:=by
 unfold uo at hr
 obtain ⟨v,hv,hr⟩:=ah.1 hr
 have hx:=he x v hv
 generalize η x=y at hx
 split at hr
 ·rename_i a
  obtain ⟨h0,hr1⟩:=au.1 hr
  have h0:a.off=0:=qaa h0
  obtain ⟨it,hi,hr2⟩:=ah.1 hr1
  obtain ⟨k,hk,hr3⟩:=ah.1 hr2
  obtain ⟨q,hq,hr4⟩:=ah.1 hr3
  obtain ⟨hc,hr5⟩:=au.1 hr4
  have hc:q.2=it.stepped:=qaa hc
  obtain ⟨e,hf,hr6⟩:=ah.1 hr5
  clear hr hr1 hr2 hr3 hr4 hr5
  have hgi:=Jm hi
  have hgm:=zY hq
  obtain ⟨l,hl,o,h1,h2⟩:=h.loops a.block _ hgi
  obtain ⟨lm,hlm,es',h3,h4⟩:=h.maps it.map _ _ hgm
  cases h2 with
  |@iter _ m hl0 hm=>
  rw [hlm] at hm
  cases hm
  obtain ⟨d1,_,_,_⟩:=h.dom _ l hl
  cases hx with
  |@ptr b' o' l' hl'=>
  have h0:o'=0:=h0
  subst h0
  have hl:ρ b'=some l:=hl
  rw [Ren.dw d1,hl] at hl'
  cases hl'
  rw [aeh] at hk
  rw [Jf] at hf
  obtain ⟨e',hf',hke,hve⟩:=h4.find k hf
  have hr7:=bC hr6
  rw [hr7]
  have hback:(⟨it.seen⟩:Array Nat).back? = some k:=by rw [←hk];simp
  have hfa:es'.find? (fun e=>e.born == k)=some e':=by rw [←Array.find?_toList];exact hf'
  have hrun:(Instr.entry (.pointer (some ⟨l.blk,l.off+0,none⟩))).run P w = .ok (.tuple ⟨[e'.key,e'.val]⟩) w:=by
   rw [hl0]
   simp only [Instr.entry,qaU,jo h1 (by simp),qad,qab,hback,jo h3 (by simp),hc,bne_self_eq_false,qas,if_false,hfa,qaf]
  simp only [qad,hrun,qab,qaf]
  exact iK (Goes.refl h) (.tuple (.cons hke (.cons hve .nil)))
 ·cases hr
theorem aaO (hK:eX C P)(h:HR P base ρ s w)(he:EvR ρ ev η){c:Call}(ty:TypeId){r:Res}(hr:Bq C ev s c=some r) :
  sW P base ρ s w (qaq P (do let d ←resolve η c ty;Go.invoke d.target d.args) w) r:=by
 unfold Bq at hr
 obtain ⟨args,ha,hr⟩:=ah.1 hr
 have hargs:=FN he ha
 have e0:c.args.map η=⟨c.args.toList.map η⟩:=by apply qaL;simp
 cases hc:c.callee with
 |builtin b=>
  rw [hc] at hr
  have:=Vj (ty:=ty) (consts:=c.args.map fun|.const _=>true|_=>false) hK h hargs hr
  simp only [resolve,hc,qad,qaf,qab,Go.invoke,e0]
  exact this
 |value f=>
  rw [hc] at hr
  obtain ⟨v,hv,hr⟩:=ah.1 hr
  have:=Jj hK h (he f v hv) hargs hr
  simp only [resolve,hc,e0]
  exact this
 |invoke recv name=>
  rw [hc] at hr
  obtain ⟨v,hv,hr⟩:=ah.1 hr
  obtain ⟨x,rest,h1,h2⟩:=Dy hK h (VRs.cons (he recv v hv) hargs) hr
  have e1:(#[η recv]++(⟨c.args.toList.map η⟩:Array Value))=⟨x::rest⟩:=by
   apply qaL
   simpa using h1
  have e2:(⟨x::rest⟩:Array Value).extract 1 (⟨x::rest⟩:Array Value).size=⟨rest⟩:=by simp
  simp only [resolve,hc,qad,qaf,qab,Go.invoke,e0,e1,qaC,qax,e2]
  exact h2
theorem Wj (_h:HR P base ρ s w)(he:EvR ρ ev η){c:Call}(ty:TypeId){r:Res}(hr:Ku C ev s c=some r) :
  sW P base ρ s w (qaq P (do pure (.defer (←resolve η c ty))) w) r:=by
 unfold Ku at hr
 cases hc:c.callee with
 |builtin b=>rw [hc] at hr;cases hr
 |invoke recv name=>rw [hc] at hr;cases hr
 |value f=>
  rw [hc] at hr
  obtain ⟨v,hv,hr⟩:=ah.1 hr
  have hf:=he f v hv
  simp only [resolve,hc]
  generalize η f=cf at hf
  split at hr
  ·rename_i g first captured
   obtain ⟨args,ha,hr⟩:=ah.1 hr
   cases hr
   have hargs:=FN he ha
   have e0:c.args.map η=⟨c.args.toList.map η⟩:=by apply qaL;simp
   cases hf with
   |@func _ _ a a' b b' hfn h1 h2=>
    cases hfn
    refine ⟨rfl,{ target:=.fn (.func g) ⟨b'⟩,args:=⟨a'++c.args.toList.map η⟩ },a'++c.args.toList.map η,b',?_,rfl,rfl,?_⟩
    ·simp [Deferred.ofValue]
    ·simp only [iG,List.append_assoc]
     exact h1.append (hargs.append h2)
  ·cases hr
theorem ads (hK:eX C P)(h:HR P base ρ s w)(he:EvR ρ ev η){o:Oper}{r:Res}(hr:execOp C ev s o.op=some r) :
  sW P base ρ s w ((Go.execOp η o).run P w) r:=by
 have hC:=hK.prog
 cases ho:o.op
 case nilCheck x=>rw [ho] at hr;exact O5 h he C hC ho hr
 all_goals
  rw [ho] at hr
  unfold Go.execOp
  simp only [ho]
 all_goals try (change none=some r at hr;cases hr;done)
 case move x=>exact yJ h he C hr
 case assign x=>exact yJ h he C hr
 case pick c a b=>exact ab4 h he C hr
 case alloc t=>exact XI h hK.zero C hC hr
 case box t x=>exact afY h he C hr
 case build t parts=>exact Xr h he hK.zero hK.fields C hC hr
 case buildSlice t len parts=>exact IK h he hK.zero C hC hr
 case load t a=>exact aar h he C hC hr
 case store t a x=>exact Z8 h he C hC hr
 case binOp op t x y yt=>
  have:=ae1 h he C hC hK.eq hr
  simp only [qad] at this ⊢
  rw [andThen_assoc]
  exact this
 case unOp op t x=>exact aiZ h he C hr
 case convert src dst x=>exact Qm hK h he hr
 case makeInterface t x=>exact WH h he C hC hr
 case makeFunc fn first captured=>exact aa2 h he C hr
 case makeMap t r=>exact Qs h he C hC hr
 case makeSlice t l c=>exact KA h he hK.zero C hC hr
 case slice t x lo hi mx=>exact XD h he C hC hr
 case fieldAddr t x f=>exact KJ h he C hC hr
 case field t x f=>exact YO h he C hC hr
 case indexAddr t x i=>exact KC h he C hC hr
 case index t x i=>exact XB h he C hC hr
 case lookup t m k ok=>exact Ur hK h he hr
 case mapUpdate t m k x=>exact Gq hK h he hr
 case insert t m k x=>exact Gq hK h he hr
 case mapEntry t m k=>exact Xx hK h he hr
 case range t x=>exact ZW hK h he hr
 case next x b=>exact ab6 (C:=C) h he (ty:=o.type) hr
 case entry x=>exact KL (C:=C) h he hr
 case typeAssert x xt a ok=>exact UF h he hK.zero C hC hr
 case extract x i=>exact Qp h he C hr
 case call c=>exact aaO hK h he _ hr
 case defer c=>exact Wj (C:=C) h he _ hr
 case sliceToArrayPointer arr x=>exact afv h he C hC hr
end
end Go.Ax
namespace Go.Ax
variable [Lo]
open Go
noncomputable section
section
variable {P:Program} {base:Nat} {ρ ρ':Ren} {s s':St} {w w':World} {ev:Ev} {η:Operand→Value} {C:Cfg}
theorem Mc {ro:Option Nat}{n:Nat}{f:FuncId}{args:Array Value}{R:Ending→World→Prop}(h:Calls P f args w R):CallsIn (Fro ro) n P f args w R:=
 ⟨trivial,fun cs _=>((callsIn_wide (n:=n)).2 h).2 cs (room_wide _)⟩
theorem aaK {ro:Option Nat}{n n':Nat}{l:Nat}{f:FuncId}{tmps:Array Value}{assign body:Code}{R:Ending→World→Prop}(h:RoundIn Fence.wide n' P l f tmps assign body w R):RoundIn (Fro ro) n P l f tmps assign body w R:=
 ⟨trivial,fun c cs _=>h.2 c cs (room_wide _)⟩
def uU (P:Program)(call:gX):Prop:=
 ∀ f args s v s',call f args s=some (v,s')→∀ base ρ w aZ,HR P base ρ s w→VRs ρ args aZ→
  Calls P f ⟨aZ⟩ w fun e w'=>∃ c ρ',e = .returned c∧Goes P base ρ s w ρ' s' w'∧VR ρ' v c
def pz (P:Program)(yield:dS):Prop:=
 ∀ l args s v s',yield l args s=some (v,s')→∀ base ρ w q aZ,HR P base ρ s w→ρ l=some q→VRs ρ args aZ→
  ∃ f tmps assign body,(Instr.yield q.blk ⟨aZ⟩).run P w = .ok (.round q.blk f tmps assign body) w∧
   RoundIn Fence.wide 0 P q.blk f tmps assign body w fun e w'=>∃ c ρ',e = .returned c∧Goes P base ρ s w ρ' s' w'∧VR ρ' v c
def aft (call:gX)(yield:dS)(rd:Bool)(r:Res):Option (Value × St × Option (FuncId × List Value)):=
 match r with
 |.val v s=>some (v,s,none)
 |.call f args s=>aj (call f args s) fun q=>some (q.1,q.2,none)
 |.yield l args s=>aj (yield l args s) fun q=>some (q.1,q.2,none)
 |.defer f args s=>sel rd none (some (unit,s,some (f,args)))
def moreL (d:Option (FuncId × List Value))(l:List (FuncId × List Value)):List (FuncId × List Value):=
 match d with
 |none=>l
 |some d=>d::l
def Fr.more (fr:Fr)(d:Option (FuncId × List Value)):Fr:={ vars:=fr.vars,loc:=fr.loc,defers:=moreL d fr.defers }
theorem HY (call:gX)(yield:dS)(rd:Bool)(n:Nat)(fr:Fr)(dst:Option Tmp)(k:aaP)(r:Res) :
  qI call yield rd n fr dst k r=aj (aft call yield rd r) fun q=>k ((fr.more q.2.2).put n dst q.1) q.2.1:=by
 cases r with
 |val v s=>rfl
 |call f args s=>show aj (call f args s) _=aj (aj (call f args s) _) _;cases call f args s <;> rfl
 |yield l args s=>show aj (yield l args s) _=aj (aj (yield l args s) _) _;cases yield l args s <;> rfl
 |defer f args s=>cases rd <;> rfl
inductive Oc (ρ:Ren):Option (FuncId × List Value)→List Deferred→Prop
 |none:Oc ρ none []
 |some {f:FuncId} {args first captured:List Value} {d:Deferred} (ht:d.target = .fn (.func f) ⟨captured⟩) (ha:d.args=⟨first⟩) (hv:VRs ρ args (first++captured)):Oc ρ (some (f,args)) [d]
theorem anr (hK:eX C P){call:gX}{yield:dS}(hc:uU P call)(hy:pz P yield){ro:Option Nat}{m:Nat}{o:Oper}{a:Act}{K:Act→World→Prop}{Q:Exit→Act→World→Prop}
  (h:HR P base ρ s w) (he:EvR ρ ev a.eval) {r:Res} (hr:execOp C ev s o.op=some r) {v:Value} {s':St} {df:Option (FuncId × List Value)} (ha:aft call yield ro.isSome r=some (v,s',df))
  (hk:∀ ρ' w' c ds,Goes P base ρ s w ρ' s' w'→VR ρ' v c→Oc ρ' df ds→K (({ tmps:=a.tmps,defers:=ds++a.defers }:Act).put o.dst c) w') :
  o.wpIn (Fro ro) m P a w K Q:=by
 have hs:=ads hK h he hr
 refine ⟨fun _ _=>trivial,?_⟩
 have avZ:∀ d f args s2,r = .val d s2∨r = .call f args s2∨r = .yield f args s2→o.semAt (Fro ro).round a.eval=Go.execOp a.eval o:=by
  intro d f args s2 hq
  refine Oper.semAt_eq _ _ _ ?_
  intro c hop
  rw [hop] at hr
  change Ku C ev s c=some r at hr
  unfold Ku at hr
  split at hr
  ·obtain ⟨v,hv,hr⟩:=ah.1 hr
   split at hr
   ·obtain ⟨as,_,hr⟩:=ah.1 hr
    cases hr
    rcases hq with hq|hq|hq <;> cases hq
   ·cases hr
  ·cases hr
 cases r with
 |val v2 s2=>
  cases ha
  rw [avZ v undef.cells.size [] s' (.inl rfl)]
  obtain ⟨ρ',w',c,hrun,hgo,hv⟩:=hs
  have:=hk ρ' w' c [] hgo hv .none
  rcases hrun with hrun|⟨hrun,rfl⟩
  ·rw [hrun];exact this
  ·rw [hrun];exact this
 |call f args s2=>
  obtain ⟨⟨v2,s3⟩,hcall,ha⟩:=ah.1 ha
  cases ha
  rw [avZ undef f args s2 (.inr (.inl rfl))]
  obtain ⟨rfl,aZ,hrun,hargs⟩:=hs
  rw [hrun]
  refine ⟨(fun h=>by cases h),Mc ((hc f args s2 _ _ hcall base ρ w aZ h hargs).mono ?_)⟩
  rintro e w' ⟨c,ρ',rfl,hgo,hv⟩
  exact hk ρ' w' c [] hgo hv .none
 |yield l args s2=>
  obtain ⟨⟨v2,s3⟩,hcall,ha⟩:=ah.1 ha
  cases ha
  rw [avZ undef l args s2 (.inr (.inr rfl))]
  obtain ⟨rfl,q,aZ,hq,hrun,hargs⟩:=hs
  obtain ⟨f,tmps,assign,body,hrun2,avc⟩:=hy l args s2 _ _ hcall base ρ w q aZ h hq hargs
  rw [hrun,hrun2]
  refine ⟨(fun h=>by cases h),aaK (avc.mono ?_)⟩
  rintro e w' ⟨c,ρ',rfl,hgo,hv⟩
  exact hk ρ' w' c [] hgo hv .none
 |defer f args s2=>
  cases ro with
  |some l=>cases ha
  |none=>
   cases ha
   obtain ⟨rfl,d,first,captured,hrun,ht,hda,hv⟩:=hs
   have e:o.semAt (Fro none).round a.eval=Go.execOp a.eval o:=rfl
   rw [e,hrun]
   exact hk ρ w undef [d] (Goes.refl h) (.tuple .nil) (.some ht hda hv)
theorem Oc.fn {df:Option (FuncId × List Value)}{ds:List Deferred}(h:Oc ρ df ds):∀ d∈ds,∀ r,d.target ≠ .collected r:=by
 cases h with
 |none=>intro d hd;cases hd
 |some ht ha hv=>
  intro d hd r
  rcases List.mem_cons.1 hd with rfl|hd
  ·rw [ht];intro e;cases e
  ·cases hd
theorem ZX (t d:Nat)(v:Value)(l:List (Nat × Value)):nN t ((d,v)::l)=if d=t then some v else nN t l:=by
 show sel (qah d t) (some v) (nN t l)=_
 rw [aG]
 by_cases h:d=t
 ·simp [h]
 ·have:qah d t=false:=by rw [←qan,qaF];exact h
  simp [this,h]
theorem oN (a b:Nat):ltN a b=decide (a<b):=by
 unfold ltN
 by_cases h:a<b
 ·rw [qaB h];simp [h]
 ·have:qaQ (qaj a) b=false:=by
   rw [←qan];intro hh;exact h (qae hh)
  rw [this];simp [h]
theorem Fr.zQ (n:Nat)(fr:Fr)(d:Nat)(v:Value)(t:Nat):(fr.put n (some d) v).get n t=if t=d then some v else fr.get n t:=by
 have e:fr.put n (some d) v=if d<n then { vars:=fr.vars.set d v,loc:=fr.loc,defers:=fr.defers } else { vars:=fr.vars,loc:=(d,v)::fr.loc,defers:=fr.defers }:=by
  show sel (ltN d n) _ _=_
  rw [aG,oN];simp
 rw [e]
 unfold Fr.get
 rw [oN]
 by_cases hd:d<n
 ·rw [if_pos hd]
  by_cases ht:t<n
  ·simp only [ht,decide_true,aN,Tr.jv]
  ·simp only [ht,decide_false,aP]
   rw [if_neg (by omega)]
 ·rw [if_neg hd]
  by_cases ht:t<n
  ·simp only [ht,decide_true,aN]
   rw [if_neg (by omega)]
  ·simp only [ht,decide_false,aP,ZX]
   by_cases h:d=t
   ·simp [h]
   ·have:¬t=d:=fun e=>h e.symm
    simp [h,this]
theorem Fr.oK (n:Nat)(fr:Fr){dst:Option Tmp}(v:Value){t:Nat}(h:dst≠some t):(fr.put n dst v).get n t=fr.get n t:=by
 cases dst with
 |none=>rfl
 |some d=>rw [Fr.zQ,if_neg];rintro rfl;exact h rfl
theorem Fr.al2 (n:Nat)(fr:Fr)(d:Option (FuncId × List Value))(t:Nat):(fr.more d).get n t=fr.get n t:=rfl
theorem Fr.iO (n:Nat)(fr:Fr)(dst:Option Tmp)(v:Value):(fr.put n dst v).defers=fr.defers:=by
 cases dst with
 |none=>rfl
 |some d=>
  show (sel (ltN d n) _ _:Fr).defers=_
  rw [aG];split <;> rfl
theorem zF.goes {r:Nat}(h:Goes P base ρ s w ρ' s' w')(hm:zF ρ s w r):zF ρ' s' w' r:=by
 obtain ⟨h1,h2,h3⟩:=hm
 refine ⟨qai h1 h.grow,fun ho=>?_,by rw [h.frame r h1 h2];exact h3⟩
 rcases h.own r ho with h4|h4
 ·exact h2 h4
 ·omega
theorem JI.goes {l:List (FuncId × List Value)}{ds:List Deferred}(h:Goes P base ρ s w ρ' s' w')(hd:JI ρ s w l ds):JI ρ' s' w' l ds:=by
 induction hd with
 |nil=>exact .nil
 |cons ht ha hv _ ih=>exact .cons ht ha (hv.mono h.le) ih
 |mark hm hlt _ ih=>exact .mark (hm.goes h) hlt ih
theorem JI.more {l:List (FuncId × List Value)}{ds nd:List Deferred}{df:Option (FuncId × List Value)}(hd:JI ρ s w l ds)(hn:Oc ρ df nd):JI ρ s w (moreL df l) (nd++ds):=by
 cases hn with
 |none=>exact hd
 |some ht ha hv=>exact .cons ht ha hv hd
theorem FrR.goes {mk:Option Nat}{n nt:Nat}{fr:Fr}{a:Act}(h:Goes P base ρ s w ρ' s' w')(hf:FrR mk n nt ρ s w fr a):FrR mk n nt ρ' s' w' fr a:=
 ⟨hf.size,fun t v ht=>(hf.tmps t v ht).mono h.le,hf.defers.goes h,hf.wu⟩
theorem adC (a:Act)(dst:Option Tmp)(c:Value)(t:Nat):(a.put dst c).tmps.getD t undef=if dst=some t∧t<a.tmps.size then c else a.tmps.getD t undef:=by
 cases dst with
 |none=>simp [Act.put]
 |some d=>
  show (a.tmps.setIfInBounds d c).getD t undef=_
  simp only [qag,qar]
  by_cases h:d=t
  ·subst h
   by_cases hl:d<a.tmps.size
   ·simp [hl]
   ·simp [hl]
  ·simp [h]
theorem size_put (a:Act)(dst:Option Tmp)(c:Value):(a.put dst c).tmps.size=a.tmps.size:=by
 cases dst with
 |none=>rfl
 |some d=>simp [Act.put]
theorem iO (a:Act)(dst:Option Tmp)(c:Value):(a.put dst c).defers=a.defers:=by cases dst <;> rfl
theorem FrR.put {mk:Option Nat}{n nt:Nat}{fr:Fr}{a:Act}{dst:Option Tmp}{v c:Value}{df:Option (FuncId × List Value)}{ds:List Deferred}(hf:FrR mk n nt ρ s w fr a)(hd:WL nt dst=true)(hv:VR ρ v c)(hn:Oc ρ df ds) :
  FrR mk n nt ρ s w ((fr.more df).put n dst v) (({ tmps:=a.tmps,defers:=ds++a.defers }:Act).put dst c):=by
 refine ⟨?_,?_,?_,?_⟩
 ·rw [size_put];exact hf.size
 ·intro t u ht
  rw [adC]
  cases dst with
  |none=>simpa using hf.tmps t u ht
  |some d=>
   rw [Fr.zQ] at ht
   have hd:=bD hd
   by_cases h:t=d
   ·subst h
    rw [if_pos rfl] at ht
    cases ht
    have:t<a.tmps.size:=qai hd hf.size
    simpa [this] using hv
   ·rw [if_neg h] at ht
    have:¬(some d=some t∧t<a.tmps.size):=by rintro ⟨h1,_⟩;exact h (Option.some.inj h1).symm
    rw [if_neg (by simpa using this)]
    exact hf.tmps t u ht
 ·rw [iO,Fr.iO]
  exact hf.defers.more hn
 ·intro d hd r hr
  rw [iO] at hd
  rcases List.mem_append.1 hd with hd|hd
  ·exact absurd hr (hn.fn d hd r)
  ·exact hf.wu d hd r hr
end
end
end Go.Ax
namespace Go.Ax
variable [Lo]
open Go
noncomputable section
theorem uI {ev ev':Ev}:∀ {l:List Operand},(∀ x∈l,ev x=ev' x)→evs ev l=evs ev' l
 |[],_=>rfl
 |x::l,h=>by
  show aj (ev x) (fun v=>aj (evs ev l) fun r=>some (v::r))=aj (ev' x) (fun v=>aj (evs ev' l) fun r=>some (v::r))
  rw [h x (by simp),uI (l:=l) fun y hy=>h y (by simp [hy])]
theorem tK {ev ev':Ev}:∀ {l:List (Nat × Operand)},(∀ p∈l,ev p.2=ev' p.2)→yG ev l=yG ev' l
 |[],_=>rfl
 |x::l,h=>by
  show aj (ev x.2) (fun v=>aj (yG ev l) fun r=>some ((x.1,v)::r))=aj (ev' x.2) (fun v=>aj (yG ev' l) fun r=>some ((x.1,v)::r))
  rw [h x (by simp),tK (l:=l) fun y hy=>h y (by simp [hy])]
theorem execOp_congr {C:Cfg}{ev ev':Ev}{s:St}{o:Op}(h:∀ x∈eP o,ev x=ev' x):execOp C ev s o=execOp C ev' s o:=by
 cases o <;> try rfl
 case move x=>show AZ C ev s x=AZ C ev' s x;unfold AZ;rw [h x (by simp [eP])]
 case assign x=>show AZ C ev s x=AZ C ev' s x;unfold AZ;rw [h x (by simp [eP])]
 case pick c a b=>show abb C ev s c a b=abb C ev' s c a b;unfold abb AZ;rw [h c (by simp [eP]),h a (by simp [eP]),h b (by simp [eP])]
 case box t x=>show atp C ev s t x=atp C ev' s t x;unfold atp;rw [h x (by simp [eP])]
 case build t parts=>
  show SB C ev s t parts=SB C ev' s t parts
  unfold SB
  rw [tK (l:=parts.toList) fun p hp=>h p.2 (by simp only [eP,kP,qaY];exact ⟨p,hp,rfl⟩)]
 case buildSlice t len parts=>
  show qN C ev s t len parts=qN C ev' s t len parts
  unfold qN
  rw [tK (l:=parts.toList) fun p hp=>h p.2 (by simp only [eP,kP,qaY];exact ⟨p,hp,rfl⟩)]
 case load t a=>show aaw C ev s t a=aaw C ev' s t a;unfold aaw xg;rw [h a (by simp [eP])]
 case store t a x=>show JU C ev s t a x=JU C ev' s t a x;unfold JU xg;rw [h a (by simp [eP]),h x (by simp [eP])]
 case nilCheck x=>show Aj C ev s x=Aj C ev' s x;unfold Aj;rw [h x (by simp [eP])]
 case binOp op t x y yt=>show ap6 C ev s op t x y=ap6 C ev' s op t x y;unfold ap6;rw [h x (by simp [eP]),h y (by simp [eP])]
 case unOp op t x=>show oUn C ev s op x=oUn C ev' s op x;unfold oUn;rw [h x (by simp [eP])]
 case convert a b x=>show jY C ev s a b x=jY C ev' s a b x;unfold jY;rw [h x (by simp [eP])]
 case sliceToArrayPointer arr x=>show awJ C ev s arr x=awJ C ev' s arr x;unfold awJ;rw [h x (by simp [eP])]
 case makeInterface t x=>show Zo C ev s t x=Zo C ev' s t x;unfold Zo;rw [h x (by simp [eP])]
 case makeFunc fn a b=>
  show aks C ev s fn a b=aks C ev' s fn a b
  unfold aks
  rw [uI (l:=a.toList) fun x hx=>h x (by simp only [eP,iG,qa3];exact .inl hx),uI (l:=b.toList) fun x hx=>h x (by simp only [eP,iG,qa3];exact .inr hx)]
 case makeMap t r=>
  cases r with
  |none=>rfl
  |some x=>show FH C ev s t (some x)=FH C ev' s t (some x);unfold FH;simp only [h x (by simp [eP,apD])]
 case makeSlice t l c=>show nR C ev s t l c=nR C ev' s t l c;unfold nR;rw [h l (by simp [eP]),h c (by simp [eP])]
 case slice t x lo hi mx=>
  show Kw C ev s t x lo hi mx=Kw C ev' s t x lo hi mx
  have key:∀ (y:Option Operand) (k:Option Value→Option Res),(∀ z,y=some z→z∈eP (.slice t x lo hi mx))→YT ev y k=YT ev' y k:=by
   intro y k hy
   cases y with
   |none=>rfl
   |some z=>show aj (ev z) _=aj (ev' z) _;rw [h z (hy z rfl)]
  unfold Kw
  rw [h x (by simp [eP])]
  congr 1
  funext v
  rw [key lo _ (by rintro z rfl;simp [eP,apD])]
  congr 1
  funext v
  rw [key hi _ (by rintro z rfl;cases lo <;> simp [eP,apD])]
  congr 1
  funext v
  rw [key mx _ (by rintro z rfl;cases lo <;> cases hi <;> simp [eP,apD])]
 case fieldAddr t x f=>show yc C ev s t x f=yc C ev' s t x f;unfold yc xg;rw [h x (by simp [eP])]
 case field t x f=>show Xn C ev s t x f=Xn C ev' s t x f;unfold Xn;rw [h x (by simp [eP])]
 case indexAddr t x i=>show kN C ev s t x i=kN C ev' s t x i;unfold kN;rw [h x (by simp [eP]),h i (by simp [eP])]
 case index t x i=>show ZC C ev s t x i=ZC C ev' s t x i;unfold ZC;rw [h x (by simp [eP]),h i (by simp [eP])]
 case lookup t m k ok=>show OW C ev s t m k ok=OW C ev' s t m k ok;unfold OW;rw [h m (by simp [eP]),h k (by simp [eP])]
 case mapUpdate t m k x=>show wR C ev s t m k x=wR C ev' s t m k x;unfold wR;rw [h m (by simp [eP]),h k (by simp [eP]),h x (by simp [eP])]
 case insert t m k x=>show wR C ev s t m k x=wR C ev' s t m k x;unfold wR;rw [h m (by simp [eP]),h k (by simp [eP]),h x (by simp [eP])]
 case mapEntry t m k=>show QF C ev s t m k=QF C ev' s t m k;unfold QF;rw [h m (by simp [eP]),h k (by simp [eP])]
 case range t x=>show Q5 C ev s t x=Q5 C ev' s t x;unfold Q5;rw [h x (by simp [eP])]
 case next x b=>show afm C ev s x b=afm C ev' s x b;unfold afm;rw [h x (by simp [eP])]
 case entry x=>show uo C ev s x=uo C ev' s x;unfold uo;rw [h x (by simp [eP])]
 case typeAssert x xt a ok=>show LJ C ev s x a ok=LJ C ev' s x a ok;unfold LJ;rw [h x (by simp [eP])]
 case extract x i=>show ET C ev s x i=ET C ev' s x i;unfold ET;rw [h x (by simp [eP])]
 case call c=>
  show Bq C ev s c=Bq C ev' s c
  unfold Bq
  cases hc:c.callee with
  |builtin b=>rw [uI (l:=c.args.toList) fun x hx=>h x (by simp only [eP,hc];exact hx)]
  |value f=>simp only [uI (l:=c.args.toList) fun x hx=>h x (by simp only [eP,hc];exact qam _ hx),h f (by simp only [eP,hc];simp)]
  |invoke r name=>simp only [uI (l:=c.args.toList) fun x hx=>h x (by simp only [eP,hc];exact qam _ hx),h r (by simp only [eP,hc];simp)]
 case defer c=>
  show Ku C ev s c=Ku C ev' s c
  unfold Ku
  cases hc:c.callee with
  |builtin b=>rfl
  |value f=>simp only [uI (l:=c.args.toList) fun x hx=>h x (by simp only [eP,hc];exact qam _ hx),h f (by simp only [eP,hc];simp)]
  |invoke r name=>rfl
open Classical in
def Bd (l:List Operand)(ev:Ev):Ev:=fun x=>if x∈l then ev x else none
theorem afs {l:List Operand}{ev:Ev}{x:Operand}{v:Value}(h:Bd l ev x=some v):x∈l∧ev x=some v:=by
 unfold Bd at h
 split at h
 ·exact ⟨by assumption,h⟩
 ·cases h
theorem nS {C:Cfg}{ev:Ev}{s:St}{o:Op}:execOp C (Bd (eP o) ev) s o=execOp C ev s o:=
 execOp_congr fun x hx=>by unfold Bd;rw [if_pos hx]
theorem Gu {f:Value→Bool}:∀ {l:List Value},ale f l=true→∀ v∈l,f v=true
 |[],_,v,hv=>by cases hv
 |a::l,h,v,hv=>by
  change sel (f a) (ale f l) false=true at h
  rw [aG] at h
  split at h
  ·rename_i ha
   rcases List.mem_cons.1 hv with rfl|hv
   ·exact ha
   ·exact Gu h v hv
  ·cases h
theorem Fq {ρ:Ren}:∀ {l:List Value},(∀ v∈l,VR ρ v v)→VRs ρ l l
 |[],_=>.nil
 |_::_,h=>.cons (h _ (by simp)) (Fq fun v hv=>h v (by simp [hv]))
theorem yH (ρ:Ren):∀ (n:Nat) {v:Value},ZU n v=true→VR ρ v v
 |0,_,h=>by cases h
 |n+1,v,h=>by
  change adL (ZU n) v=true at h
  cases v with
  |bool b=>exact .bool b
  |int k n=>exact .int k n
  |string s=>exact .string s
  |pointer a=>cases a with
   |none=>exact .nY
   |some a=>cases h
  |slice a l c=>cases a with
   |none=>exact .dW l c
   |some a=>cases h
  |map a=>cases a with
   |none=>exact .uH
   |some a=>cases h
  |nilFunc=>exact .nilFunc
  |nilIface=>exact .nilIface
  |iface t v=>exact .iface t (yH ρ n h)
  |agg l=>cases l with|mk l=>exact .agg (Fq fun v hv=>yH ρ n (Gu (show ale (ZU n) l=true from h) v hv))
  |tuple l=>cases l with|mk l=>exact .tuple (Fq fun v hv=>yH ρ n (Gu (show ale (ZU n) l=true from h) v hv))
  |func fn a b=>cases fn with
   |func f=>cases a with|mk a=>cases b with|mk b=>
    have h:(ale (ZU n) a&&ale (ZU n) b)=true:=h
    simp only [qac] at h
    exact .func (.func f) (Fq fun v hv=>yH ρ n (Gu h.1 v hv)) (Fq fun v hv=>yH ρ n (Gu h.2 v hv))
   |method m=>cases h
   |methodOf t m=>cases h
   |via t p f b=>cases h
   |yield l=>cases h
  |float k b=>cases h
  |complex k a b=>cases h
  |chan r=>cases h
theorem Md:∀ {l:List Operand},Oz l=true→∀ x∈l,Jk x=true
 |[],_,x,hx=>by cases hx
 |a::l,h,x,hx=>by
  change sel (Jk a) (Oz l) false=true at h
  rw [aG] at h
  split at h
  ·rename_i ha
   rcases List.mem_cons.1 hx with rfl|hx
   ·exact ha
   ·exact Md h x hx
  ·cases h
theorem V9 {ρ:Ren}{n:Nat}{fr:Fr}{a:Act}{x:Operand}(hok:Jk x=true)(ht:∀ t v,x = .tmp t→fr.get n t=some v→VR ρ v (a.tmps.getD t undef)){v:Value}(hx:fr.ev n x=some v):VR ρ v (a.eval x):=by
 cases x with
 |const c=>cases hx;exact yH ρ 5 hok
 |tmp t=>exact ht t v rfl hx
 |global g=>
  cases hx
  have:=VR.ptr (ρ:=ρ) (b:=g) (o:=0) (l:=⟨g,0,0⟩) (Ren.Ya (bD hok))
  simpa [Ax.ptr,Act.eval] using this
 |func f=>cases hx;exact .func (.func f) .nil .nil
theorem Oi {ρ:Ren}{n:Nat}{fr:Fr}{a:Act}{l:List Operand}(hok:Oz l=true)(ht:∀ t v,.tmp t∈l→fr.get n t=some v→VR ρ v (a.tmps.getD t undef)):EvR ρ (Bd l (fr.ev n)) a.eval:=by
 intro x v hx
 obtain ⟨h1,h2⟩:=afs hx
 exact V9 (Md hok x h1) (fun t v e=>by subst e;exact ht t v h1) h2
theorem ajT {ρ:Ren}{v c:Value}(h:VR ρ v c)(b:Bool):isBool b v=true↔c = .bool b:=by
 cases h <;> simp [isBool]
theorem ML {ρ:Ren}{n:Nat}{fr:Fr}{ops:Array Oper}{o:Oper}{a:Act}{g:Bool}(hg:jW n ops.toList fr o.guard=some g)
  (ht:∀ j o' d b v,o.guard=some (j,b)→ops[j]? = some o'→o'.dst=some d→fr.get n d=some v→VR ρ v (a.tmps.getD d undef)):Region.wanted o (yielded ops a.tmps)=g:=by
 unfold Region.wanted
 cases ho:o.guard with
 |none=>
  rw [ho] at hg
  cases hg
  rfl
 |some p=>
  obtain ⟨j,b⟩:=p
  rw [ho] at hg
  obtain ⟨o',h1,hg⟩:=ah.1 hg
  obtain ⟨d,h2,hg⟩:=ah.1 hg
  obtain ⟨v,h3,hg⟩:=ah.1 hg
  cases hg
  rw [jk] at h1
  have h1:ops[j]? = some o':=by simpa using h1
  have hv:=ht j o' d b v ho h1 h2 h3
  show (yielded ops a.tmps j == some b)=isBool b v
  have hd:o'.dst=some d:=h2
  have hy:yielded ops a.tmps j=(match a.tmps[d]? with|some (.bool b)=>some b|_=>none):=by
   simp only [yielded,h1,Option.bind_some,hd]
   cases a.tmps[d]? <;> rfl
  rw [qaD,ajT hv b,hy]
  rw [qag]
  cases hq:a.tmps[d]? with
  |none=>simp [undef]
  |some c=>cases c <;> simp
end
end Go.Ax
namespace Go.Ax
variable [Lo]
open Go
noncomputable section
section
variable {P:Program} {base:Nat} {ρ ρ':Ren} {s s':St} {w w':World} {C:Cfg}
theorem yE {nt:Nat}:∀ {l:List Oper},sG nt l=true→∀ o∈l,Jr nt o=true
 |[],_,x,hx=>by cases hx
 |a::l,h,x,hx=>by
  change sel (Jr nt a) (sG nt l) false=true at h
  rw [aG] at h
  split at h
  ·rename_i ha
   rcases List.mem_cons.1 hx with rfl|hx
   ·exact ha
   ·exact yE h x hx
  ·cases h
theorem yM {nt:Nat}{o:Oper}(h:Jr nt o=true):WL nt o.dst=true∧Oz (eP o.op)=true:=by
 unfold Jr at h
 simpa using h
theorem FrR.skip {mk:Option Nat}{n nt:Nat}{fr:Fr}{a:Act}{dst:Option Tmp}(hf:FrR mk n nt ρ s w fr a)(hd:WL nt dst=true):FrR mk n nt ρ s w (fr.put n dst unit) (a.put dst undef):=
 hf.put (df:=none) (ds:=[]) hd (.tuple .nil) .none
theorem YK (call:gX)(yield:dS)(rd:Bool)(n:Nat)(all:List Oper)(o:Oper)(rest:List Oper)(fr:Fr)(s:St) :
  qG C call yield rd n all (o::rest) fr s=aj (jW n all fr o.guard) fun g=>sel g (aj (execOp C (fr.ev n) s o.op) (qI call yield rd n fr o.dst (qG C call yield rd n all rest))) (qG C call yield rd n all rest (fr.put n o.dst unit) s):=rfl
theorem ah6 (hK:eX C P){call:gX}{yield:dS}(hc:uU P call)(hy:pz P yield){ro:Option Nat}{mk:Option Nat}{m n nt:Nat}{ops:Array Oper}{Q:Exit→Act→World→Prop}
  (hok:sG nt ops.toList=true):∀ (rest:List Oper) (k:Nat),ops.toList.drop k=rest→∀ (fr:Fr) (s:St) (fr':Fr) (s':St) (ρ:Ren) (a:Act) (w:World),
   qG C call yield ro.isSome n ops.toList rest fr s=some (fr',s')→HR P base ρ s w→FrR mk n nt ρ s w fr a→
   (∀ ρ' w' a',Goes P base ρ s w ρ' s' w'→FrR mk n nt ρ' s' w' fr' a'→Q .normal a' w')→wpOpsIn (Fro ro) m P ops Q (qaO k rest.length) a w
 |[],k,_,fr,s,fr',s',ρ,a,w,h,hh,hf,hq=>by
  cases h
  exact hq ρ w a (Goes.refl hh) hf
 |o::rest,k,hd,fr,s,fr',s',ρ,a,w,h,hh,hf,hq=>by
  have ho:ops[k]? = some o:=by
   have:(ops.toList.drop k)[0]? = some o:=by rw [hd];rfl
   simpa using this
  have hd':ops.toList.drop (k+1)=rest:=by
   rw [←qaR,hd];rfl
  have hmem:o∈ops.toList:=qal (by simpa using ho)
  obtain ⟨hdst,avK⟩:=yM (yE hok o hmem)
  rw [YK] at h
  obtain ⟨g,hg,h⟩:=ah.1 h
  have hw:=ML (ρ:=ρ) (a:=a) hg (fun j o' d b v _ _ _ hv=>hf.tmps d v hv)
  show wpOpsIn (Fro ro) m P ops Q (k::qaO (k+1) rest.length) a w
  simp only [wpOpsIn,ho,hw]
  cases g with
  |false=>
   rw [aP] at h
   refine ⟨fun _ _=>trivial,?_⟩
   exact ah6 hK hc hy hok rest (k+1) hd' _ s fr' s' ρ _ w h hh (hf.skip hdst) hq
  |true=>
   rw [aN] at h
   obtain ⟨r,hr,h⟩:=ah.1 h
   rw [HY] at h
   obtain ⟨⟨v,s2,df⟩,ha,h⟩:=ah.1 h
   have he:=Oi (ρ:=ρ) (n:=n) (fr:=fr) (a:=a) avK (fun t v _ ht=>hf.tmps t v ht)
   rw [←nS] at hr
   show o.wpIn (Fro ro) m P a w (wpOpsIn (Fro ro) m P ops Q (qaO (k+1) rest.length)) Q
   refine anr hK hc hy hh he hr ha ?_
   intro ρ' w' c ds hgo hv hn
   refine ah6 hK hc hy hok rest (k+1) hd' _ s2 fr' s' ρ' _ w' h hgo.hr ((hf.goes hgo).put hdst hv hn) ?_
   intro ρ'' w'' a'' az7 hf2
   exact hq ρ'' w'' a'' (hgo.trans az7) hf2
end
end
end Go.Ax
namespace Go.Ax
open Go
noncomputable section
def bQ (f:St→Option Res):Prop:=∃ x:Option Value,∀ s,f s=aj x fun v=>ret v s
theorem bQ.ret (v:Value):bQ (fun s=>Ax.ret v s):=⟨some v,fun _=>rfl⟩
theorem bQ.none:bQ (fun _=>none):=⟨.none,fun _=>rfl⟩
theorem bQ.aj {α:Type}(x:Option α){k:α→St→Option Res}(h:∀ a,bQ (k a)):bQ (fun s=>Ax.aj x fun a=>k a s):=by
 cases x with
 |none=>exact bQ.none
 |some a=>exact h a
theorem bQ.guard (b:Bool){k:St→Option Res}(h:bQ k):bQ (fun s=>Ax.guard b (k s)):=by
 cases b with
 |false=>exact bQ.none
 |true=>exact h
theorem bQ.sel (b:Bool){j k:St→Option Res}(h:bQ j)(h':bQ k):bQ (fun s=>Ax.sel b (j s) (k s)):=by
 cases b with
 |false=>exact h'
 |true=>exact h
theorem bQ.use {f:St→Option Res}(h:bQ f){s:St}{r:Res}(hr:f s=some r):∃ v,r = .val v s∧∀ s',f s'=some (.val v s'):=by
 obtain ⟨x,hx⟩:=h
 cases x with
 |none=>rw [hx] at hr;cases hr
 |some v=>
  rw [hx] at hr
  cases hr
  exact ⟨v,rfl,fun s'=>by rw [hx];rfl⟩
theorem BN (C:Cfg)(ev:Ev)(x:Operand):bQ fun s=>AZ C ev s x:=bQ.aj _ fun v=>bQ.ret v
theorem ak7 (ev:Ev)(a:Operand){k:Addr→St→Option Res}(h:∀ a,bQ (k a)):bQ fun s=>xg ev a fun a=>k a s:=by
 refine bQ.aj _ fun v=>?_
 cases v with
 |pointer p=>cases p with
  |none=>exact bQ.none
  |some a=>exact h a
 |_=>exact bQ.none
theorem ado (C:Cfg)(e:TypeId)(len i:Nat)(a:Addr):bQ fun s=>Em C s e len i a:=bQ.guard _ (bQ.aj _ fun _=>bQ.ret _)
theorem ags {C:Cfg}{ev:Ev}{o:Op}(h:cls o=0):bQ fun s=>execOp C ev s o:=by
 cases o <;> first|(simp [cls] at h;done)|skip
 case move x=>exact BN C ev x
 case assign x=>exact BN C ev x
 case pick c a b=>
  refine bQ.aj _ fun v=>?_
  cases v with
  |bool c=>exact bQ.sel _ (BN C ev a) (BN C ev b)
  |_=>exact bQ.none
 case build t parts=>exact bQ.aj _ fun _=>bQ.aj _ fun _=>bQ.aj _ fun _=>bQ.aj _ fun _=>bQ.ret _
 case nilCheck x=>
  refine bQ.aj _ fun v=>?_
  cases v with
  |pointer p=>cases p with
   |none=>exact bQ.none
   |some a=>exact bQ.ret _
  |func fn a b=>exact bQ.guard _ (bQ.ret _)
  |iface t v=>exact bQ.ret _
  |_=>exact bQ.none
 case binOp op t x y yt=>exact bQ.aj _ fun _=>bQ.aj _ fun _=>bQ.guard _ (bQ.aj _ fun _=>bQ.ret _)
 case unOp op t x=>exact bQ.aj _ fun _=>bQ.aj _ fun _=>bQ.ret _
 case sliceToArrayPointer arr x=>
  refine bQ.aj _ fun v=>?_
  show bQ fun s=>match C.P.underlying arr,v with
   |some (.array n _),.slice a len _=>guard (qaQ 1 n&&qaQ n len) (ret (.pointer a) s)
   |_,_=>none
  split
  ·exact bQ.guard _ (bQ.ret _)
  ·exact bQ.none
 case makeInterface t x=>exact bQ.guard _ (bQ.aj _ fun _=>bQ.ret _)
 case makeFunc fn a b=>exact bQ.guard _ (bQ.aj _ fun _=>bQ.aj _ fun _=>bQ.ret _)
 case fieldAddr t x f=>exact ak7 ev x fun a=>bQ.aj _ fun _=>bQ.aj _ fun _=>bQ.guard _ (bQ.ret _)
 case field t x f=>
  refine bQ.aj _ fun v=>?_
  cases v with
  |agg cs=>exact bQ.aj _ fun _=>bQ.aj _ fun _=>bQ.ret _
  |_=>exact bQ.none
 case indexAddr t x i=>
  refine bQ.aj _ fun v=>bQ.aj _ fun i=>bQ.aj _ fun i=>?_
  show bQ fun s=>match C.P.underlying t with
   |some (.slice e)=>match v with
    |.slice (some a) len _=>Em C s e len i a
    |_=>none
   |some (.array len e)=>match v with
    |.pointer (some a)=>Em C s e len i a
    |_=>none
   |_=>none
  split
  ·split
   ·exact ado _ _ _ _ _
   ·exact bQ.none
  ·split
   ·exact ado _ _ _ _ _
   ·exact bQ.none
  ·exact bQ.none
 case index t x i=>
  refine bQ.aj _ fun v=>bQ.aj _ fun i=>bQ.aj _ fun i=>?_
  cases v with
  |agg cs=>
   show bQ fun s=>match C.P.underlying t with
    |some (.array len e)=>guard (ltN i len) (aj (size C.P e) fun n=>aj (part C.P e cs.toList (qa6 i n)) fun v=>ret v s)
    |_=>none
   split
   ·exact bQ.guard _ (bQ.aj _ fun _=>bQ.aj _ fun _=>bQ.ret _)
   ·exact bQ.none
  |string b=>
   show bQ fun s=>match C.P.underlying t with
    |some .string=>aj (nth b.data.toList i) fun c=>ret (.int .u8 (qaJ c.toNat)) s
    |_=>none
   split
   ·exact bQ.aj _ fun _=>bQ.ret _
   ·exact bQ.none
  |_=>exact bQ.none
 case typeAssert x xt a ok=>
  refine bQ.guard _ (bQ.aj _ fun v=>?_)
  cases v with
  |nilIface=>exact bQ.guard _ (bQ.aj _ fun _=>bQ.ret _)
  |iface t y=>exact bQ.sel _ (bQ.guard _ (bQ.sel _ (bQ.guard _ (bQ.aj _ fun _=>bQ.ret _)) (bQ.ret _))) (bQ.sel _ (bQ.ret _) (bQ.guard _ (bQ.aj _ fun _=>bQ.ret _)))
  |_=>exact bQ.none
 case extract x i=>
  refine bQ.aj _ fun v=>?_
  cases v with
  |tuple vs=>exact bQ.aj _ fun _=>bQ.ret _
  |_=>exact bQ.none
 case call c=>
  exfalso
  simp only [cls] at h
  split at h
  ·split at h <;> cases h
  ·cases h
theorem FI {s s':St}{a:Option Addr}{e:TypeId}{cap l h m n:Nat}{v:Value}(hr:wF s a e cap l h m n=some (v,s'))(hq:lH s v=true):s'=s:=by
 unfold wF at hr
 obtain ⟨_,hr⟩:=au.1 hr
 cases a with
 |none=>cases hr;rfl
 |some a=>
  change sel (qah a.block fP) (guard (qah h 0&&qah cap aC&&(qah m 0||qah m aC)) (some (bY,s))) (sel (qaQ bf cap) (xu s a e cap l h m n) (BO a l h m n s))=some (v,s') at hr
  rw [aG] at hr
  split at hr
  ·obtain ⟨_,hr⟩:=au.1 hr
   cases hr;rfl
  rw [aG] at hr
  split at hr
  ·unfold xu at hr
   obtain ⟨c,_,hr⟩:=ah.1 hr
   obtain ⟨_,hr⟩:=au.1 hr
   rw [aG] at hr
   split at hr
   ·cases hr;rfl
   ·cases hr;rfl
  ·cases hr;rfl
theorem IL {β:Type}{lo hi mx:Option Value}{len cap:Nat}{k:Nat→Nat→Nat→Option β}{r:β}(h:bounds lo hi mx len cap k=some r):∃ l h m,k l h m=some r:=by
 unfold bounds at h
 obtain ⟨l,_,h⟩:=ah.1 h
 obtain ⟨h2,_,h⟩:=ah.1 h
 obtain ⟨m,_,h⟩:=ah.1 h
 exact ⟨l,h2,m,h⟩
theorem VL {P:Program}{s s':St}{t:TypeId}{x:Value}{lo hi mx:Option Value}{v:Value}(hr:Le P s t x lo hi mx=some (v,s'))(hq:lH s v=true):s'=s:=by
 have harr:∀ {k:Nat} {e:TypeId} {a:Addr},BP P k e s a lo hi mx=some (v,s')→s'=s:=by
  intro k e a hr
  unfold BP at hr
  obtain ⟨n,_,hr⟩:=ah.1 hr
  obtain ⟨l,h,m,hr⟩:=IL hr
  obtain ⟨_,hr⟩:=au.1 hr
  exact FI hr hq
 unfold Le at hr
 split at hr
 ·unfold uz at hr
  split at hr
  ·obtain ⟨n,_,hr⟩:=ah.1 hr
   obtain ⟨l,h,m,hr⟩:=IL hr
   obtain ⟨_,hr⟩:=au.1 hr
   exact FI hr hq
  ·cases hr
 ·unfold KU at hr
  split at hr
  ·exact harr hr
  ·split at hr
   ·exact harr hr
   ·cases hr
  ·cases hr
 ·split at hr
  ·cases mx with
   |some m=>cases hr
   |none=>
    obtain ⟨l,h,m,hr⟩:=IL hr
    obtain ⟨u,_,hr⟩:=ah.1 hr
    cases hr;rfl
  ·cases hr
 ·cases hr
theorem WI {P:Program}{s s':St}{a b:TypeId}{x v:Value}(hr:convert P s a b x=some (v,s'))(hq:lH s v=true):s'=s:=by
 unfold convert at hr
 obtain ⟨_,hr⟩:=au.1 hr
 split at hr
 ·split at hr
  ·cases hr;rfl
  ·cases hr
 ·split at hr
  ·cases hr;rfl
  ·cases hr;rfl
  ·rename_i y n k _
   split at hr
   ·obtain ⟨_,hr⟩:=au.1 hr
    cases y with
    |none=>cases hr;rfl
    |some y=>
     change toStr s n _=some (v,s') at hr
     unfold toStr at hr
     obtain ⟨l,_,hr⟩:=ah.1 hr
     obtain ⟨l,_,hr⟩:=ah.1 hr
     cases hr;rfl
   ·cases hr
  ·cases hr
 ·split at hr
  ·obtain ⟨_,hr⟩:=au.1 hr
   cases hr
   exact absurd (bD hq) (Nat.lt_irrefl _)
  ·cases hr
 ·cases hr
theorem val_inj {v v':Value}{s s':St}(h:ret v s=some (.val v' s')):s'=s:=by cases h;rfl
theorem aiC {P:Program}{s s':St}{t:TypeId}{x v:Value}(hr:avU P s t x=some (.val v s')):s'=s:=by
 unfold avU at hr
 split at hr
 ·split at hr
  ·exact val_inj hr
  ·cases hr
 ·split at hr
  ·exact val_inj hr
  ·exact val_inj hr
  ·obtain ⟨_,hr⟩:=au.1 hr
   exact val_inj hr
  ·cases hr
 ·split at hr
  ·exact val_inj hr
  ·obtain ⟨q,_,hr⟩:=ah.1 hr
   exact val_inj hr
  ·cases hr
 ·exact val_inj hr
 ·obtain ⟨q,_,hr⟩:=ah.1 hr
  exact val_inj hr
 ·cases hr
theorem aad {C:Cfg}{s s':St}{b:Builtin}{t u:Option TypeId}{args:List Value}{v:Value}(hb:b = .len∨b = .cap∨b = .min∨b = .max)(hr:builtin C s b t u args=some (.val v s')):s'=s:=by
 unfold builtin at hr
 split at hr
 ·rcases hb with rfl|rfl|rfl|rfl
  ·obtain ⟨q,_,hr⟩:=ah.1 hr
   exact aiC hr
  ·obtain ⟨q,_,hr⟩:=ah.1 hr
   unfold axp at hr
   split at hr
   ·split at hr
    ·obtain ⟨_,hr⟩:=au.1 hr
     exact val_inj hr
    ·cases hr
   ·cases hr
  ·cases hr
  ·cases hr
 ·have hm:∀ {mx:Bool} {x y:Value},Ew mx s x y=some (.val v s')→s'=s:=by
   intro mx x y hr
   unfold Ew at hr
   split at hr
   ·split at hr
    ·exact val_inj hr
    ·cases hr
   ·cases hr
  rcases hb with rfl|rfl|rfl|rfl
  ·cases hr
  ·cases hr
  ·exact hm hr
  ·exact hm hr
 ·cases hr
theorem Yh {C:Cfg}{ev:Ev}{s s':St}{o:Op}{v:Value}(h:cls o=1)(hr:execOp C ev s o=some (.val v s'))(hq:lH s v=true):s'=s:=by
 cases o <;> first|(simp [cls] at h;done)|skip
 case load t a=>
  obtain ⟨x,_,hr⟩:=ah.1 hr
  split at hr
  ·obtain ⟨u,_,hr⟩:=ah.1 hr
   exact val_inj hr
  ·cases hr
 case convert a b x=>
  obtain ⟨y,_,hr⟩:=ah.1 hr
  have hr:Option.casesOn (Ei C s a b y) (aj (convert C.P s a b y) H9) (fun v=>ret v s)=some (.val v s'):=hr
  cases hcp:Ei C s a b y with
  |some u=>
   rw [hcp] at hr
   exact val_inj (show ret u s=some (.val v s') from hr)
  |none=>
  rw [hcp] at hr
  obtain ⟨⟨u,s2⟩,hc,hr⟩:=ah.1 hr
  cases hr
  exact WI hc hq
 case slice t x lo hi mx=>
  obtain ⟨y,_,hr⟩:=ah.1 hr
  have ho:∀ (z:Option Operand) {k:Option Value→Option Res} {r:Res},YT ev z k=some r→∃ u,k u=some r:=by
   intro z k r hz
   cases z with
   |none=>exact ⟨none,hz⟩
   |some z=>
    obtain ⟨u,_,hz⟩:=ah.1 hz
    exact ⟨some u,hz⟩
  obtain ⟨lo',hr⟩:=ho _ hr
  obtain ⟨hi',hr⟩:=ho _ hr
  obtain ⟨mx',hr⟩:=ho _ hr
  obtain ⟨⟨u,s2⟩,hc,hr⟩:=ah.1 hr
  cases hr
  exact VL hc hq
 case lookup t m k ok=>
  obtain ⟨x,_,hr⟩:=ah.1 hr
  obtain ⟨y,_,hr⟩:=ah.1 hr
  unfold lookup at hr
  split at hr
  ·obtain ⟨found,_,hr⟩:=ah.1 hr
   cases found with
   |none=>
    obtain ⟨z,_,hr⟩:=ah.1 hr
    exact val_inj hr
   |some p=>exact val_inj hr
  ·cases hr
 case call c=>
  simp only [cls] at h
  split at h
  ·rename_i b hb
   change Bq C ev s c=_ at hr
   unfold Bq at hr
   rw [hb] at hr
   obtain ⟨args,_,hr⟩:=ah.1 hr
   split at h <;> first|(cases h;done)|exact aad (by simp) hr
  ·cases h
theorem xU (m j:Nat):dY m j=m.testBit j:=by
 unfold dY
 rw [Nat.testBit_eq_decide_div_mod_eq]
 show qah (m/2 ^ j%2) 1=_
 rw [qaD,qaF];simp
theorem O4 (a b j:Nat):dY (Nat.lor a b) j=(dY a j||dY b j):=by
 rw [xU,xU,xU];exact Nat.testBit_or a b j
theorem jE (m i j:Nat):dY (Eu m i) j=(dY m j||decide (i=j)):=by
 unfold Eu
 rw [O4,xU (Nat.pow 2 i) j]
 congr 1
 exact Nat.testBit_two_pow
theorem qh (j:Nat):dY 0 j=false:=by rw [xU];simp
theorem acG {a b j:Nat}(h:awg a b=true)(ha:dY a j=true):dY b j=false:=by
 rw [xU] at *
 have h0:a &&& b=0:=qaa h
 have:=Nat.testBit_and a b j
 rw [h0,ha] at this
 simpa using this.symm
def Binds (o:Oper)(j:Nat):Prop:=∃ e∈o.after.toList,Region.binds .any e=true∧e.on=j
theorem Zc (e:Edge):Ro e=Region.binds .any e:=by
 unfold Ro Region.binds
 cases e.ground <;> first|rfl|simp
theorem ag1 {l:List Nat}{i m:Nat}(h:l[i]? = some m):aqm l i=m:=by
 unfold aqm
 rw [jk,h];rfl
theorem akd {l:List Nat}{i:Nat}(h:l[i]? = none):aqm l i=0:=by
 unfold aqm
 rw [jk,h]
theorem abR (acc:List Nat)(e:Edge)(l:List Edge):Aw acc (e::l)=sel (Ro e) (Nat.lor (Eu (Aw acc l) e.on) (aqm acc e.on)) (Aw acc l):=rfl
theorem GR {acc:List Nat}{j:Nat}:∀ {l:List Edge},dY (Aw acc l) j=true→∃ e∈l,Region.binds .any e=true∧(e.on=j∨dY (aqm acc e.on) j=true)
 |[],h=>by rw [show Aw acc []=0 from rfl,qh] at h;cases h
 |e::l,h=>by
  rw [abR,aG] at h
  split at h
  ·rename_i hb
   rw [O4,jE] at h
   simp only [qaN,decide_eq_true_eq] at h
   rw [Zc] at hb
   rcases h with (h|h)|h
   ·obtain ⟨e',h1,h2⟩:=GR h
    exact ⟨e',by simp [h1],h2⟩
   ·exact ⟨e,by simp,hb,.inl h⟩
   ·exact ⟨e,by simp,hb,.inr h⟩
  ·obtain ⟨e',h1,h2⟩:=GR h
   exact ⟨e',by simp [h1],h2⟩
def ajn (all:List Oper)(i m:Nat):Prop:=∀ (D:Nat→Prop),(∀ k o,D k→all[k]? = some o→∀ j,Binds o j→D j)→∀ o,all[i]? = some o→(∀ j,Binds o j→D j)→∀ j,dY m j=true→D j
theorem zU {i:Nat}:∀ {l:List Edge},Fa i l=true→∀ e∈l,Region.binds .any e=true→e.on<i
 |[],_,e,he=>by cases he
 |a::l,h,e,he=>by
  intro hb
  change sel (Ro a) (sel (qaQ (qaj a.on) i) (Fa i l) false) (Fa i l)=true at h
  rw [aG,aG] at h
  rcases List.mem_cons.1 he with rfl|he
  ·rw [Zc,hb] at h
   simp only [if_true] at h
   split at h
   ·rename_i hh;exact qae hh
   ·cases h
  ·split at h
   ·split at h
    ·exact zU h e he hb
    ·cases h
   ·exact zU h e he hb
structure QO (all:List Oper) (a:Info):Prop where
 op:all[a.i]? = some a.op
 mask:ajn all a.i a.mask
 low:∀ j,Binds a.op j→j<a.i
 dst:a.dst=EK a.op.dst
 names:a.names=Nat.lor (IG (EK a.op.dst) (eP a.op.op)) (Nv all a.op.guard)
 cls:a.cls=cls a.op.op∨a.cls=3
theorem aaD (all:List Oper)(o:Oper)(l:List Oper)(i:Nat)(acc:List Nat):adB all (o::l) i acc=guard (Fa i o.after.toList) (aj (adB all l (qaj i) (aK acc [Aw acc o.after.toList])) fun r=>some (apc all i (Aw acc o.after.toList) o::r)):=rfl
theorem Zi {all:List Oper}:∀ (l:List Oper) (i:Nat) (acc:List Nat) (r:List Info),all.drop i=l→acc.length=i→(∀ k m,acc[k]? = some m→ajn all k m)→adB all l i acc=some r→
  ∀ (k:Nat) (a:Info),r[k]? = some a→a.i=i+k∧QO all a
 |[],i,acc,r,_,_,_,h,k,a,hk=>by cases h;simp at hk
 |o::l,i,acc,r,hd,hl,hacc,h,k,a,hk=>by
  rw [aaD] at h
  obtain ⟨hlow,h⟩:=au.1 h
  obtain ⟨r',hr',h⟩:=ah.1 h
  cases h
  rw [iG] at hr'
  have ho:all[i]? = some o:=by
   have:(all.drop i)[0]? = some o:=by rw [hd];rfl
   simpa using this
  have hd':all.drop (i+1)=l:=by rw [←qaR,hd];rfl
  have hm:ajn all i (Aw acc o.after.toList):=by
   intro D hD o' ho' hb j hj
   rw [ho] at ho'
   cases ho'
   obtain ⟨e,h1,h2,h3⟩:=GR hj
   have hDe:=hb e.on ⟨e,h1,h2,rfl⟩
   rcases h3 with h3|h3
   ·exact h3▸hDe
   ·cases hq:acc[e.on]? with
    |none=>rw [akd hq,qh] at h3;cases h3
    |some m=>
     rw [ag1 hq] at h3
     have hlt:e.on<all.length:=by
      have:=(List.getElem?_eq_some_iff.1 hq).1
      have:=(List.getElem?_eq_some_iff.1 ho).1
      omega
     exact hacc e.on m hq D hD _ (qak hlt) (fun j hj=>hD e.on _ hDe (qak hlt) j hj) j h3
  cases k with
  |zero=>
   simp at hk
   subst hk
   refine ⟨rfl,ho,hm,?_,rfl,rfl,.inl rfl⟩
   rintro j ⟨e,h1,h2,rfl⟩
   exact zU hlow e h1 h2
  |succ k=>
   simp at hk
   have:=Zi l (i+1) (acc++[Aw acc o.after.toList]) r' hd' (by simp [hl]) (fun k m hk=>by
    rw [List.getElem?_append] at hk
    split at hk
    ·exact hacc k m hk
    ·rename_i hlt
     have hk':k=i:=by
      have:=(List.getElem?_eq_some_iff.1 hk).1
      simp at this
      omega
     subst hk'
     simp [hl] at hk
     subst hk
     exact hm) hr' k a hk
   exact ⟨by omega,this.2⟩
theorem QH {all:List Oper}{l:List Info}(hl:∀ (k:Nat) (a:Info),l[k]? = some a→QO all a):∀ {p:List Nat} {r:List Info},abo l p=some r→∀ a∈r,QO all a
 |[],r,h,a,ha=>by cases h;cases ha
 |i::p,r,h,a,ha=>by
  change aj (nth l (Nat.mod i 1000)) (fun a=>aj (abo l p) fun r=>some (loud i a::r))=some r at h
  obtain ⟨b,hb,h⟩:=ah.1 h
  obtain ⟨r',hr',h⟩:=ah.1 h
  cases h
  rw [jk] at hb
  rcases List.mem_cons.1 ha with rfl|ha
  ·have hb:=hl _ b hb
   unfold loud
   rw [aG]
   split
   ·exact ⟨hb.op,hb.mask,hb.low,hb.dst,hb.names,.inr rfl⟩
   ·exact hb
  ·exact QH hl hr' a ha
theorem Xe:∀ {l:List Info} {m:Nat},ahI l m=true→(∀ a∈l,dY m a.i=false)∧l.Pairwise (fun a b=>a.i≠b.i)
 |[],_,_=>⟨by simp,.nil⟩
 |a::l,m,h=>by
  change sel (dY m a.i) false (ahI l (Eu m a.i))=true at h
  rw [aG] at h
  split at h
  ·cases h
  ·rename_i ha
   obtain ⟨h1,h2⟩:=Xe h
   have ha:dY m a.i=false:=by simpa using ha
   refine ⟨?_,.cons (fun b hb=>?_) h2⟩
   ·intro b hb
    rcases List.mem_cons.1 hb with rfl|hb
    ·exact ha
    ·have:=h1 b hb
     rw [jE] at this
     simp at this
     exact this.1
   ·have:=h1 b hb
    rw [jE] at this
    simp at this
    exact this.2
theorem ZE:∀ {l:List Info} {m j:Nat},dY (bitsOf l m) j=true→dY m j=true∨∃ a∈l,a.i=j
 |[],_,_,h=>.inl h
 |a::l,m,j,h=>by
  change dY (bitsOf l (Eu m a.i)) j=true at h
  rcases ZE h with h|⟨b,h1,h2⟩
  ·rw [jE] at h
   simp only [qaN,decide_eq_true_eq] at h
   rcases h with h|h
   ·exact .inl h
   ·exact .inr ⟨a,by simp,h⟩
  ·exact .inr ⟨b,by simp [h1],h2⟩
theorem XH {m:Nat}:∀ {n:Nat},covers m n=true→∀ j,j<n→dY m j=true
 |0,_,j,hj=>by omega
 |n+1,h,j,hj=>by
  change sel (dY m n) (covers m n) false=true at h
  rw [aG] at h
  split at h
  ·rename_i hb
   by_cases e:j=n
   ·subst e;exact hb
   ·exact XH h j (by omega)
  ·cases h
theorem RU:∀ {l:List Info},abK l=true→l.Pairwise (fun a b=>QC a b=true)
 |[],_=>.nil
 |a::l,h=>by
  change sel (List.rec true (fun b _ q=>sel (QC a b) q false) l) (abK l) false=true at h
  rw [aG] at h
  split at h
  ·rename_i h1
   refine .cons ?_ (RU h)
   clear h
   induction l with
   |nil=>intro b hb;cases hb
   |cons c t ih=>
    change sel (QC a c) (List.rec true (fun b _ q=>sel (QC a b) q false) t) false=true at h1
    rw [aG] at h1
    split at h1
    ·rename_i hc
     intro b hb
     rcases List.mem_cons.1 hb with rfl|hb
     ·exact hc
     ·exact ih h1 b hb
    ·cases h1
  ·cases h
structure Oe (all:List Oper) (l:List Info):Prop where
 info:∀ (p:Nat) (a:Info),l[p]? = some a→QO all a
 nodup:∀ (p q:Nat) (a b:Info),l[p]? = some a→l[q]? = some b→a.i=b.i→p=q
 full:∀ j,j<all.length→∃ (p:Nat) (a:Info),l[p]? = some a∧a.i=j
 pairs:∀ (p q:Nat) (a b:Info),p<q→l[p]? = some a→l[q]? = some b→ordered a b=true→dY b.mask a.i=true
theorem vY {R:Info→Info→Prop}:∀ {l:List Info},l.Pairwise R→∀ {p q:Nat} {a b:Info},p<q→l[p]? = some a→l[q]? = some b→R a b
 |[],_,p,q,a,b,_,hp,_=>by simp at hp
 |c::l,h,p,q,a,b,hpq,hp,hq=>by
  cases h with
  |cons h1 h2=>
   cases q with
   |zero=>omega
   |succ q=>
    simp at hq
    cases p with
    |zero=>simp at hp;subst hp;exact h1 b (qal hq)
    |succ p=>simp at hp;exact vY h2 (by omega) hp hq
theorem ajQ {all:List Oper}{order:List Nat}{l:List Info}(h:Jv all order=some l):Oe all l:=by
 unfold Jv at h
 obtain ⟨r,hr,h⟩:=ah.1 h
 obtain ⟨l',hl',h⟩:=ah.1 h
 obtain ⟨hg,h⟩:=au.1 h
 cases h
 simp only [qac] at hg
 obtain ⟨⟨h1,h2⟩,h3⟩:=hg
 have hi:=Zi all 0 [] r rfl rfl (fun k m hk=>by simp at hk) hr
 have hp:=QH (fun k a hk=>(hi k a hk).2) hl'
 have hn:=(Xe h1).2
 have hq:=RU h3
 refine ⟨fun p a ha=>hp a (qal ha),fun p q a b ha hb hab=>?_,fun j hj=>?_,fun p q a b hpq ha hb ho=>?_⟩
 ·rcases Nat.lt_trichotomy p q with hlt|heq|hgt
  ·exact absurd hab (vY hn hlt ha hb)
  ·exact heq
  ·exact absurd hab.symm (vY hn hgt hb ha)
 ·rw [aW] at h2
  rcases ZE (XH h2 j hj) with h|⟨a,ha,hj⟩
  ·rw [qh] at h;cases h
  ·obtain ⟨p,hp⟩:=List.getElem?_of_mem ha
   exact ⟨p,a,hp,hj⟩
 ·have:=vY hq hpq ha hb
  unfold QC at this
  rw [ho,aN] at this
  exact this
theorem Oo {m t:Nat}:∀ {l:List Operand},.tmp t∈l→dY (IG m l) t=true
 |[],h=>by cases h
 |x::l,h=>by
  change dY (Y3 x (IG m l)) t=true
  rcases List.mem_cons.1 h with rfl|h
  ·show dY (Eu _ t) t=true
   rw [jE];simp
  ·have:=Oo (m:=m) h
   unfold Y3
   split
   ·rw [jE,this];rfl
   ·exact this
theorem Jc {m t:Nat}(h:dY m t=true):∀ {l:List Operand},dY (IG m l) t=true
 |[]=>h
 |x::l=>by
  change dY (Y3 x (IG m l)) t=true
  have:=Jc h (l:=l)
  unfold Y3
  split
  ·rw [jE,this];rfl
  ·exact this
theorem y9 {d:Option Tmp}{t:Nat}:dY (EK d) t=true↔d=some t:=by
 cases d with
 |none=>show dY 0 t=true↔_;rw [qh];simp
 |some d=>show dY (Eu 0 d) t=true↔_;rw [jE,qh];simp
def Names (all:List Oper)(o:Oper)(t:Nat):Prop:=o.dst=some t∨.tmp t∈eP o.op∨∃ j b o',o.guard=some (j,b)∧all[j]? = some o'∧o'.dst=some t
theorem QO.bit {all:List Oper}{a:Info}(h:QO all a){t:Nat}(ht:Names all a.op t):dY a.names t=true:=by
 rw [h.names,O4]
 rcases ht with ht|ht|⟨j,b,o',h1,h2,h3⟩
 ·rw [Jc (y9.2 ht)];rfl
 ·rw [Oo ht];rfl
 ·have:dY (Nv all a.op.guard) t=true:=by
   rw [h1]
   show dY (Option.casesOn (nth all j) 0 fun o=>EK o.dst) t=true
   rw [jk,h2]
   exact y9.2 h3
  rw [this];simp
theorem Oe.tmps {all:List Oper}{l:List Info}(h:Oe all l){p q:Nat}{a b:Info}(hpq:p<q)(ha:l[p]? = some a)(hb:l[q]? = some b){t:Nat}
  (ht:(a.op.dst=some t∧Names all b.op t)∨(b.op.dst=some t∧Names all a.op t)):dY b.mask a.i=true:=by
 refine h.pairs p q a b hpq ha hb ?_
 unfold ordered
 have key:(awg a.dst b.names&&awg b.dst a.names)=false:=by
  rw [←qan]
  intro hh
  simp only [qac] at hh
  rcases ht with ⟨h1,h2⟩|⟨h1,h2⟩
  ·have:=acG hh.1 (j:=t) (by rw [(h.info p a ha).dst];exact y9.2 h1)
   rw [(h.info q b hb).bit h2] at this
   cases this
  ·have:=acG hh.2 (j:=t) (by rw [(h.info q b hb).dst];exact y9.2 h1)
   rw [(h.info p a ha).bit h2] at this
   cases this
 rw [key];rfl
theorem Oe.mem {all:List Oper}{l:List Info}(h:Oe all l){p q:Nat}{a b:Info}(hpq:p<q)(ha:l[p]? = some a)(hb:l[q]? = some b)(h1:2≤a.cls)(h2:b.cls%2=1):dY b.mask a.i=true:=by
 refine h.pairs p q a b hpq ha hb ?_
 unfold ordered
 rw [qaB h1]
 have:qah (Nat.mod b.cls 2) 1=true:=by rw [qaF];exact h2
 rw [this];simp
end
end Go.Ax
namespace Go.Ax
variable [Lo]
open Go
noncomputable section
section
variable {P:Program} {base:Nat} {ρ ρ':Ren} {s s' S S':St} {w w':World}
structure afF (s S:St):Prop where
 next:s.next=S.next
 bZ:s.bZ=S.bZ
 heap:∀ i,S.heap.get i=s.heap.get i∨(s.heap.get i=none∧ak≤i∧∃ cs e,S.heap.get i=some (.row cs e 0))
theorem afF.get {r:Row}{i:Nat}(h:afF s S)(hi:s.heap.get i=some r):S.heap.get i=some r:=by
 rcases h.heap i with h1|⟨h1,_⟩
 ·rw [h1];exact hi
 ·rw [h1] at hi;cases hi
theorem afF.tag {i:Nat}{t:Nat × Nat}(h:afF s S)(hi:s.tag i=some t):S.tag i=some t:=by
 rcases h.heap i with h1|⟨h1,_⟩
 ·unfold St.tag at hi ⊢
  rw [h1,←h.bZ]
  exact hi
 ·unfold St.tag at hi
  rw [h1] at hi
  cases hi
theorem afF.cells {i:Nat}{c:List Value × TypeId × Nat}(h:afF s S)(hi:s.cells i=some c):S.cells i=some c:=by
 obtain ⟨cs,e,f⟩:=c
 obtain ⟨h1,h2⟩:=aO.1 hi
 exact aO.2 ⟨h.get h1,by rw [←h.bZ];exact h2⟩
theorem HR.sub (h:afF s S)(hr:HR P base ρ S w):HR P base ρ s w:=by
 refine ⟨fun i l hi=>by rw [h.next];exact hr.dom i l hi,by rw [h.next];exact hr.next,hr.iF,fun i hi ht=>?_,fun i r hi=>by rw [h.next];exact hr.dO i r (h.get hi),fun i cs e f hi=>by rw [h.next];exact hr.fM i cs e f (h.get hi),
  fun i cs e f hc=>hr.rows i cs e f (h.cells hc),fun i es c hi=>hr.maps i es c (h.get hi),fun i r hi=>hr.loops i r (h.get hi),fun i j a b l l' hi hj=>hr.sep i j a b l l' (h.tag hi) (h.tag hj)⟩
 cases ht':s.tag i with
 |none=>exact absurd ht' ht
 |some t=>exact hr.low i hi (by rw [h.tag ht'];simp)
theorem xO.sub {b:Nat}(h:afF s S)(ho:xO ρ s b):xO ρ S b:=by
 obtain ⟨i,l,a,h1,h2,h3,h4⟩:=ho
 exact ⟨i,l,a,h1,h.tag h2,h3,h4⟩
def Extra (s S:St)(i:Nat):Prop:=s.heap.get i=none∧S.heap.get i≠none
theorem Extra.row {i:Nat}(h:afF s S)(hx:Extra s S i):ak≤i∧∃ cs e,S.heap.get i=some (.row cs e 0):=by
 rcases h.heap i with h1|⟨_,h1,h2⟩
 ·rw [hx.1] at h1;exact absurd h1 hx.2
 ·exact ⟨h1,h2⟩
theorem Goes.extend (h:afF s S)(hr:HR P base ρ S w)(hg:Goes P base ρ s w ρ' s' w')(hnext:S'.next=s'.next)(av5:S'.bZ=s'.bZ)
  (hx:∀ i,Extra s S i→S'.heap.get i=S.heap.get i) (hn:∀ i,¬Extra s S i→S'.heap.get i=s'.heap.get i):Goes P base ρ S w ρ' S' w':=by
 have hs:=hr.sub h
 have hr':=hg.hr
 have tx:∀ i,Extra s S i→S'.tag i=some (0,i):=by
  intro i hi
  obtain ⟨_,cs,e,h2⟩:=hi.row h
  unfold St.tag
  rw [hx i hi,h2];simp
 have tX:∀ i,Extra s S i→S.tag i=some (0,i):=by
  intro i hi
  obtain ⟨_,cs,e,h2⟩:=hi.row h
  unfold St.tag
  rw [h2];simp
 have tn:∀ i,¬Extra s S i→S'.tag i=s'.tag i:=by
  intro i hi
  unfold St.tag
  rw [hn i hi,av5]
 have lx:∀ i l,Extra s S i→ρ'.at i=some l→ρ i=some l∧base≤l.blk∧l.blk<w.heap.size∧¬xO ρ s l.blk:=by
  intro i l hi hl
  obtain ⟨hft,cs,e,h2⟩:=hi.row h
  have hc:S.cells i=some (cs,e,0):=aO.2 ⟨h2,.inl rfl⟩
  obtain ⟨q,hq⟩:=hr.rows i cs e 0 hc
  have hq1:=hq.at_
  have:=Ren.abL hg.le hq1
  rw [hl] at this
  cases this
  rw [Ren.dw hft] at hq1
  refine ⟨hq1,(hr.dom i l hq1).2.2.1,(hr.dom i l hq1).2.2.2,?_⟩
  rintro ⟨j,l',a,g1,g2,g3,g4⟩
  have hab:a≠(0,i):=by
   rintro rfl
   have:j=i:=by
    unfold St.tag at g2
    split at g2
    ·split at g2
     ·simpa using g2
     ·split at g2
      ·split at g2 <;> simp at g2
      ·cases g2
    ·simpa using g2
    ·simpa using g2
    ·cases g2
   subst this
   unfold St.tag at g2
   rw [hi.1] at g2
   cases g2
  exact hr.sep j i a (0,i) l' l (h.tag g2) (tX i hi) hab (by rw [Ren.dw g1];exact g3) (by rw [Ren.dw hft];exact hq1) (.inl g1) g4
 have apart:∀ i l j b l',Extra s S i→ρ'.at i=some l→s'.tag j=some b→ρ'.at j=some l'→l'.blk≠l.blk:=by
  intro i l j b l' hi hl hj hl'
  obtain ⟨_,h2,h3,h4⟩:=lx i l hi hl
  intro e
  by_cases hlo:j<ak
  ·have:=hr'.low j hlo (by rw [hj];simp)
   rw [Ren.kU hlo] at hl'
   cases hl'
   omega
  ·have ho:xO ρ' s' l.blk:=⟨j,l',b,by omega,hj,by rwa [Ren.dw (by omega)] at hl',e⟩
   rcases hg.own _ ho with h5|h5
   ·exact h4 h5
   ·omega
 refine ⟨hg.le,?_,hg.os,hg.tape,hg.output,hg.grow,by rw [hnext,←h.next];exact hg.next,fun b hb ho=>hg.frame b hb fun hh=>ho (hh.sub h),?_,by rw [←h.next];exact hg.old⟩
 ·refine ⟨fun i l hi=>by rw [hnext];exact hr'.dom i l hi,by rw [hnext];exact hr'.next,hr'.iF,fun i hi ht=>?_,fun i r hi=>?_,fun i cs e f hi=>?_,fun i cs e f hc=>?_,fun i es c hi=>?_,fun i r hi=>?_,fun i j a b l l' hi hj hab hl hl'=>?_⟩
  ·by_cases hxx:Extra s S i
   ·have:=(hxx.row h).1;omega
   ·rw [tn i hxx] at ht;exact hr'.low i hi ht
  ·rw [hnext]
   by_cases hxx:Extra s S i
   ·rw [hx i hxx] at hi
    have:=hr.dO i r hi
    have:=hg.next
    have:=h.next
    omega
   ·rw [hn i hxx] at hi;exact hr'.dO i r hi
  ·rw [hnext]
   by_cases hxx:Extra s S i
   ·rw [hx i hxx] at hi
    have:=hr.fM i cs e f hi
    have:=hg.next
    have:=h.next
    omega
   ·rw [hn i hxx] at hi;exact hr'.fM i cs e f hi
  ·by_cases hxx:Extra s S i
   ·obtain ⟨hh,hh2⟩:=aO.1 hc
    rw [hx i hxx] at hh
    obtain ⟨hft,cs0,e0,h2⟩:=hxx.row h
    rw [h2] at hh
    cases hh
    have hcS:S.cells i=some (cs,e,0):=aO.2 ⟨h2,.inl rfl⟩
    obtain ⟨q,hq⟩:=hr.rows i cs e 0 hcS
    have hl:=Ren.abL hg.le hq.at_
    obtain ⟨_,_,h5,h6⟩:=lx i q hxx hl
    exact ⟨q,hq.move hg.le (hg.frame _ h5 h6)⟩
   ·have:s'.cells i=some (cs,e,f):=by
     obtain ⟨hh,hh2⟩:=aO.1 hc
     rw [hn i hxx] at hh
     rw [av5] at hh2
     exact aO.2 ⟨hh,hh2⟩
    exact hr'.rows i cs e f this
  ·by_cases hxx:Extra s S i
   ·obtain ⟨hft,cs0,e0,h2⟩:=hxx.row h
    rw [hx i hxx,h2] at hi
    cases hi
   ·rw [hn i hxx] at hi;exact hr'.maps i es c hi
  ·by_cases hxx:Extra s S i
   ·obtain ⟨hft,cs0,e0,h2⟩:=hxx.row h
    rw [hx i hxx,h2] at hi
    cases hi
   ·rw [hn i hxx] at hi;exact hr'.loops i r hi
  ·by_cases hxi:Extra s S i
   ·by_cases hxj:Extra s S j
    ·have e1:=(lx i l hxi hl).1
     have e2:=(lx j l' hxj hl').1
     rw [tx i hxi] at hi
     rw [tx j hxj] at hj
     cases hi
     cases hj
     exact hr.sep i j _ _ l l' (tX i hxi) (tX j hxj) hab (by rw [Ren.dw (hxi.row h).1];exact e1) (by rw [Ren.dw (hxj.row h).1];exact e2)
    ·rw [tn j hxj] at hj
     exact fun _ e=>apart i l j b l' hxi hl hj hl' e.symm
   ·rw [tn i hxi] at hi
    by_cases hxj:Extra s S j
    ·exact fun _=>apart j l' i a l hxj hl' hi hl
    ·rw [tn j hxj] at hj
     exact hr'.sep i j a b l l' hi hj hab hl hl'
 ·rintro b ⟨i,l,a,g1,g2,g3,g4⟩
  by_cases hxx:Extra s S i
  ·have:=(lx i l hxx (by rw [Ren.dw g1];exact g3)).1
   exact .inl ⟨i,l,(0,i),g1,tX i hxx,this,g4⟩
  ·rw [tn i hxx] at g2
   rcases hg.own b ⟨i,l,a,g1,g2,g3,g4⟩ with h5|h5
   ·exact .inl (h5.sub h)
   ·exact .inr h5
structure X6 (s S:St):Prop where
 next:s.next=S.next
 bZ:s.bZ=S.bZ
 heap:∀ i,s.heap.get i=S.heap.get i
theorem X6.symm (h:X6 s S):X6 S s:=⟨h.next.symm,h.bZ.symm,fun i=>(h.heap i).symm⟩
theorem X6.sub (h:X6 s S):afF s S:=⟨h.next,h.bZ,fun i=>.inl (h.heap i).symm⟩
theorem Goes.same (h:X6 s' S')(hg:Goes P base ρ s w ρ' s' w'):Goes P base ρ s w ρ' S' w':=
 ⟨hg.le,hg.hr.sub h.symm.sub,hg.os,hg.tape,hg.output,hg.grow,by rw [←h.next];exact hg.next,hg.frame,fun b hb=>hg.own b (hb.sub h.symm.sub),hg.old⟩
theorem HR.bump (h:HR P base ρ s w)(k:Nat):HR P base ρ { heap:=s.heap,bZ:=s.bZ,next:=s.next+k } w:=by
 refine ⟨fun i l hi=>?_,?_,h.iF,h.low,fun i r hi=>?_,fun i cs e f hi=>?_,h.rows,h.maps,h.loops,h.sep⟩
 ·obtain ⟨a,b,c,d⟩:=h.dom i l hi
  exact ⟨a,qai b (qav _ _),c,d⟩
 ·exact qat h.next (qav _ _)
 ·exact qai (h.dO i r hi) (qav _ _)
 ·exact qai (h.fM i cs e f hi) (qav _ _)
theorem Goes.bump (h:HR P base ρ s w)(k:Nat):Goes P base ρ s w ρ { heap:=s.heap,bZ:=s.bZ,next:=s.next+k } w:=
 ⟨Ren.le_refl ρ,h.bump k,rfl,rfl,rfl,qao _,qav _ _,fun _ _ _=>rfl,fun _ h=>.inl h,fun _ _=>rfl⟩
theorem Goes.ar8 (h:HR P base ρ s w){id:Nat}(h1:ak≤id)(h2:id<s.next)(h3:ρ id=none){cs:List Value}{e:TypeId}{a:Array Value}(ha:VRs ρ cs a.toList) :
  ρ.le (ρ.set id ⟨w.heap.size,0,0⟩)∧HR P base (ρ.set id ⟨w.heap.size,0,0⟩) { heap:=s.heap.set id (.row cs e 0),bZ:=s.bZ,next:=s.next } (w.alloc (.cells a e))∧
  (∀ b,b<w.heap.size→(w.alloc (.cells a e)).heap[b]? = w.heap[b]?)∧(∀ b,xO (ρ.set id ⟨w.heap.size,0,0⟩) { heap:=s.heap.set id (.row cs e 0),bZ:=s.bZ,next:=s.next } b→xO ρ s b∨w.heap.size≤b):=by
 have hle:ρ.le (ρ.set id ⟨w.heap.size,0,0⟩):=by
  intro i q hi
  rw [Ren.iJ]
  ·exact hi
  ·rintro rfl;rw [h3] at hi;cases hi
 have hold:∀ b,b<w.heap.size→(w.alloc (.cells a e)).heap[b]? = w.heap[b]?:=fun b hb=>by
  show (w.heap.push _)[b]? = _
  rw [Array.getElem?_push,if_neg (by omega)]
 have hsz:(w.alloc (.cells a e)).heap.size=w.heap.size+1:=by show (w.heap.push _).size=_;simp
 have hget:∀ i,i≠id→({ heap:=s.heap.set id (.row cs e 0),bZ:=s.bZ,next:=s.next }:St).heap.get i=s.heap.get i:=fun i hi=>Hp.get_set_other _ _ hi
 have Px:({ heap:=s.heap.set id (.row cs e 0),bZ:=s.bZ,next:=s.next }:St).heap.get id=some (.row cs e 0):=Hp.get_set_same _ _ _
 have htag:∀ i,i≠id→St.tag { heap:=s.heap.set id (.row cs e 0),bZ:=s.bZ,next:=s.next } i=s.tag i:=fun i hi=>jg hi
 have hcell:∀ i,i≠id→St.cells { heap:=s.heap.set id (.row cs e 0),bZ:=s.bZ,next:=s.next } i=s.cells i:=fun i hi=>iC hi
 have hat:∀ i l,i≠id→(ρ.set id ⟨w.heap.size,0,0⟩).at i=some l→ρ.at i=some l:=by
  intro i l hi hl
  by_cases hlo:i<ak
  ·rw [Ren.kU hlo] at hl ⊢;exact hl
  ·rw [Ren.dw (by omega)] at hl ⊢;rwa [Ren.iJ ρ _ hi] at hl
 have hbl:=h.iF
 refine ⟨hle,?_,hold,?_⟩
 ·refine ⟨fun i l hi=>?_,h.next,by omega,fun i hi ht=>?_,fun i r hi=>?_,fun i cs' e' f hi=>?_,fun i cs' e' f hc=>?_,fun i es c hi=>?_,fun i r hi=>?_,fun i j x y l l' hi hj hxy hl hl'=>?_⟩
  ·by_cases e:i=id
   ·subst e
    rw [Ren.dQ] at hi
    cases hi
    exact ⟨h1,h2,by show base≤w.heap.size;exact hbl,by rw [hsz];show w.heap.size<_;omega⟩
   ·rw [Ren.iJ ρ _ e] at hi
    obtain ⟨a1,a2,a3,a4⟩:=h.dom i l hi
    exact ⟨a1,a2,a3,by omega⟩
  ·have e:i≠id:=by omega
   rw [htag i e] at ht
   exact h.low i hi ht
  ·by_cases e:i=id
   ·subst e;exact h2
   ·rw [hget i e] at hi;exact h.dO i r hi
  ·by_cases e0:i=id
   ·subst e0
    rw [Px] at hi
    cases hi
    have:=h.next
    have:ak=64:=rfl
    show 0<s.next
    omega
   ·rw [hget i e0] at hi;exact h.fM i cs' e' f hi
  ·by_cases e0:i=id
   ·subst e0
    obtain ⟨g1,g2⟩:=aO.1 hc
    rw [Px] at g1
    cases g1
    refine ⟨⟨w.heap.size,0,0⟩,by rw [Ren.dw h1,Ren.dQ],a,(0,0),⟨_,alloc_at _ _,fun _=>rfl⟩,?_,fun _ o _=>by omega,fun _=>⟨rfl,by have:=ha.length;simpa using this⟩,fun h0=>absurd rfl h0⟩
    intro j x hj
    obtain ⟨y,hy,hv⟩:=ha.get hj
    exact ⟨y,by simpa using hy,hv.mono hle⟩
   ·rw [hcell i e0] at hc
    obtain ⟨q,hq⟩:=h.rows i cs' e' f hc
    exact ⟨q,hq.move hle (hold _ (h.rQ (dH hc) hq.at_))⟩
  ·by_cases e0:i=id
   ·subst e0;rw [Px] at hi;cases hi
   ·rw [hget i e0] at hi
    obtain ⟨q,hq,es',g1,g2⟩:=h.maps i es c hi
    exact ⟨q,hle _ _ hq,es',by rw [hold _ (h.dom i q hq).2.2.2];exact g1,g2.mono hle⟩
  ·by_cases e0:i=id
   ·subst e0;rw [Px] at hi;cases hi
   ·rw [hget i e0] at hi
    obtain ⟨q,hq,q',g1,g2⟩:=h.loops i r hi
    exact ⟨q,hle _ _ hq,q',by rw [hold _ (h.dom i q hq).2.2.2];exact g1,g2.mono hle⟩
  ·by_cases ei:i=id
   ·subst ei
    rw [Ren.dw h1,Ren.dQ] at hl
    cases hl
    by_cases ej:j=i
    ·subst ej;rw [hi] at hj;exact absurd (Option.some.inj hj) hxy
    ·rw [htag j ej] at hj
     have:=h.rQ hj (hat j l' ej hl')
     intro _
     show w.heap.size≠_
     omega
   ·rw [htag i ei] at hi
    have hl1:=hat i l ei hl
    by_cases ej:j=id
    ·subst ej
     rw [Ren.dw h1,Ren.dQ] at hl'
     cases hl'
     have:=h.rQ hi hl1
     intro _
     show l.blk≠w.heap.size
     omega
    ·rw [htag j ej] at hj
     exact h.sep i j x y l l' hi hj hxy hl1 (hat j l' ej hl')
 ·rintro b ⟨i,l,t,g1,g2,g3,g4⟩
  by_cases e0:i=id
  ·subst e0
   rw [Ren.dQ] at g3
   cases g3
   right
   show w.heap.size≤b
   have:w.heap.size=b:=g4
   omega
  ·rw [Ren.iJ ρ _ e0] at g3
   rw [htag i e0] at g2
   exact .inl ⟨i,l,t,g1,g2,g3,g4⟩
end
end
end Go.Ax
namespace Go.Ax
open Go
noncomputable section
structure agB where
 C:Cfg
 call:gX
 yield:dS
 rd:Bool
 n:Nat
 all:List Oper
 base:Nat
 l:List Info
def akj (s:St)(id:Nat)(r:Row):St:={ heap:=s.heap.set id r,bZ:=s.bZ,next:=s.next }
def Eff (X:agB)(frs:Nat→Fr)(p:Nat)(a:Info):Prop:=jW X.n X.all (frs p) a.op.guard=some true∧3≤a.cls
inductive Yy (X:agB) (frs:Nat→Fr) (sts:Nat→St) (p:Nat) (a:Info):Prop
 |skip (hg:jW X.n X.all (frs p) a.op.guard=some false) (hf:frs (p+1)=(frs p).put X.n a.op.dst unit) (hs:sts (p+1)=sts p)
 |pure (hg:jW X.n X.all (frs p) a.op.guard=some true) (hc:a.cls=0) (v:Value) (s':St) (he:execOp X.C ((frs p).ev X.n) (sts p) a.op.op=some (.val v s'))
   (hf:frs (p+1)=(frs p).put X.n a.op.dst v) (hs:sts (p+1)=sts p)
 |read (hg:jW X.n X.all (frs p) a.op.guard=some true) (hc:a.cls=1) (v:Value) (s':St) (he:execOp X.C ((frs p).ev X.n) (sts p) a.op.op=some (.val v s')) (hq:lH (sts p) v=true)
   (hf:frs (p+1)=(frs p).put X.n a.op.dst v) (hs:sts (p+1)=sts p)
   (again:∀ e b,p<e→X.l[e]? = some b→Eff X frs e b→dY b.mask a.i=false→∃ s'',execOp X.C ((frs p).ev X.n) (sts (e+1)) a.op.op=some (.val v s'')∧lH (sts (e+1)) v=true)
 |make (hg:jW X.n X.all (frs p) a.op.guard=some true) (hc:a.cls=2) (r:Row) (mk:Nat→Value) (he:aOp X.C ((frs p).ev X.n) a.op.op=some (r,mk))
   (hf:frs (p+1)=(frs p).put X.n a.op.dst (mk (X.base+a.i))) (hs:sts (p+1)=akj (sts p) (X.base+a.i) r)
 |eff (hg:jW X.n X.all (frs p) a.op.guard=some true) (hc:3≤a.cls) (r:Res) (v:Value) (s':St) (df:Option (FuncId × List Value)) (he:execOp X.C ((frs p).ev X.n) (sts p) a.op.op=some r)
   (ha:aft X.call X.yield X.rd r=some (v,s',df)) (hf:frs (p+1)=((frs p).more df).put X.n a.op.dst v) (hs:sts (p+1)=s')
   (free:∀ q b,p<q→X.l[q]? = some b→b.cls=2→(sts (p+1)).heap.get (X.base+b.i)=none)
def asi (X:agB)(frs:Nat→Fr)(sts:Nat→St)(l:List Info)(x:aan):Prop:=
 ∀ e b,l[e]? = some b→Eff X frs e b→dY b.mask x.i=false→∃ s'',execOp X.C (x.fr.ev X.n) (sts (e+1)) x.op=some (.val x.v s'')∧lH (sts (e+1)) x.v=true
theorem O9 {C:Cfg}{n:Nat}{s:St}{m:Nat}:∀ {l:List aan},vN C n s m l=true→∀ x∈l,dY m x.i=false→∃ s'',execOp C (x.fr.ev n) s x.op=some (.val x.v s'')∧lH s x.v=true
 |[],_,x,hx=>by cases hx
 |a::l,h,x,hx=>by
  intro hb
  change sel (dY m a.i||NR C n s a) (vN C n s m l) false=true at h
  rw [aG] at h
  split at h
  ·rename_i hh
   rcases List.mem_cons.1 hx with rfl|hx
   ·rw [hb,Bool.false_or] at hh
    unfold NR at hh
    cases hr:execOp C (x.fr.ev n) s x.op with
    |none=>rw [hr] at hh;cases hh
    |some r=>
     rw [hr] at hh
     cases r with
     |val v s2=>
      have hh:(lH s v&&Y4 4 x.v v)=true:=hh
      simp only [qac] at hh
      have:=EX 4 hh.2
      rw [this]
      exact ⟨s2,rfl,hh.1⟩
     |call f args s2=>cases hh
     |yield l args s2=>cases hh
     |defer f args s2=>cases hh
   ·exact O9 h x hx hb
  ·cases h
theorem zf {s:St}{base:Nat}:∀ {l:List Info},lg s base l=true→∀ b∈l,b.cls=2→s.heap.get (base+b.i)=none
 |[],_,b,hb=>by cases hb
 |a::l,h,b,hb=>by
  intro hc
  change sel (qah a.cls 2) (sel (s.heap.get (qaw base a.i)).isNone (lg s base l) false) (lg s base l)=true at h
  rw [aG,aG] at h
  rcases List.mem_cons.1 hb with rfl|hb
  ·rw [if_pos (by rw [hc];rfl)] at h
   split at h
   ·rename_i hh
    cases hq:s.heap.get (qaw base b.i) with
    |none=>rfl
    |some r=>rw [hq] at hh;cases hh
   ·cases h
  ·split at h
   ·split at h
    ·exact zf h b hb hc
    ·cases h
   ·exact zf h b hb hc
def Jg {α:Type}(x:α)(f:Nat→α):Nat→α
 |0=>x
 |p+1=>f p
theorem Yy.up {X Y:agB}(hC:X.C=Y.C)(h1:X.call=Y.call)(h2:X.yield=Y.yield)(h3:X.rd=Y.rd)(h4:X.n=Y.n)(h5:X.all=Y.all)(h6:X.base=Y.base){a0:Info}(hl:Y.l=a0::X.l){fr:Fr}{s:St}{frs:Nat→Fr}{sts:Nat→St}{p:Nat}{a:Info}
  (h:Yy X frs sts p a):Yy Y (Jg fr frs) (Jg s sts) (p+1) a:=by
 obtain ⟨C,call,yield,rd,n,all,base,l⟩:=X
 obtain ⟨C',call',aBh,rd',n',all',base',l'⟩:=Y
 simp only at hC h1 h2 h3 h4 h5 h6 hl
 subst hC h1 h2 h3 h4 h5 h6 hl
 cases h with
 |skip hg hf hs=>exact .skip hg hf hs
 |pure hg hc v s' he hf hs=>exact .pure hg hc v s' he hf hs
 |read hg hc v s' he hq hf hs again=>
  refine .read hg hc v s' he hq hf hs ?_
  intro e b hpe hb heff hbit
  cases e with
  |zero=>omega
  |succ e=>exact again e b (by omega) (by simpa using hb) heff hbit
 |make hg hc r mk he hf hs=>exact .make hg hc r mk he hf hs
 |eff hg hc r v s' df he ha hf hs free=>
  refine .eff hg hc r v s' df he ha hf hs ?_
  intro q b hpq hb hcls
  cases q with
  |zero=>omega
  |succ q=>exact free q b (by omega) (by simpa using hb) hcls
theorem zV {C:Cfg}{s s':St}{f g:FuncId}{as bs:List Value}(h:wS C s f as=some (.call g bs s')):s'=s:=by
 unfold wS at h
 cases he:C.ext f with
 |none=>
  have h:guard (C.body f).isSome (some (Res.call f as s))=some (.call g bs s'):=by rw [he] at h;exact h
  obtain ⟨_,h⟩:=au.1 h
  cases h;rfl
 |some e=>
  have h:aj (VE C s e as) H9=some (.call g bs s'):=by rw [he] at h;exact h
  obtain ⟨q,_,h⟩:=ah.1 h
  cases h
theorem aaB {C:Cfg}{s s':St}{fn:Fn}{g:FuncId}{a b c bs:List Value}(h:acp C s fn a b c=some (.call g bs s')):s'=s:=by
 cases fn with
 |func f=>exact zV h
 |method n=>
  change callName C s n (aK a c)=some (.call g bs s') at h
  unfold callName at h
  split at h
  ·obtain ⟨q,_,h⟩:=ah.1 h
   exact zV h
  ·cases h
 |methodOf t n=>cases h
 |via t p f r=>
  change NV C s t p.toList f r (aK a c)=some (.call g bs s') at h
  unfold NV at h
  split at h
  ·obtain ⟨q,_,h⟩:=ah.1 h
   obtain ⟨v,_,h⟩:=ah.1 h
   exact zV h
  ·cases h
 |yield l=>cases h
theorem KT {C:Cfg}{ev:Ev}{s s':St}{o:Op}{g:FuncId}{bs:List Value}(ho:nC o=true)(h:execOp C ev s o=some (.call g bs s')):s'=s:=by
 unfold nC at ho
 split at ho
 ·rename_i c
  split at ho
  ·rename_i x hx
   change Bq C ev s c=some (.call g bs s') at h
   unfold Bq at h
   obtain ⟨as,_,h⟩:=ah.1 h
   rw [hx] at h
   obtain ⟨fv,_,h⟩:=ah.1 h
   unfold invoke at h
   split at h
   ·exact aaB h
   ·cases h
  ·cases ho
 ·cases ho
def qJ (C:Cfg)(call:gX):Prop:=∀ f args s0 s v s',vJ C (.call f args s0)=true→call f args s=some (v,s')→s'=s
theorem afB {C:Cfg}{call:gX}{yield:dS}{rd:Bool}(hq:qJ C call){ev:Ev}{s s2:St}{o:Op}{r:Res}{v:Value}{df:Option (FuncId × List Value)}(he:execOp C ev s o=some r)(ho:nC o=true)(h:vJ C r=true)(ha:aft call yield rd r=some (v,s2,df)):s2=s:=by
 cases r with
 |val v s'=>cases h
 |yield l args s'=>cases h
 |defer f args s'=>cases h
 |call f args s'=>
  obtain ⟨⟨v',s3⟩,hcall,ha⟩:=ah.1 ha
  cases ha
  rw [hq f args s' s' _ _ h hcall]
  exact KT ho he
theorem NK (C:Cfg)(call:gX)(yield:dS)(rd:Bool)(n:Nat)(all:List Oper)(base:Nat)(hQ:qJ C call):∀ (l:List Info) (cl:Bool) (pend:List aan) (fr:Fr) (s:St) (fr':Fr) (s':St),
  MG C call yield rd n all base l cl pend fr s=some (fr',s')→(cl=true→∀ x∈pend,∃ s'',execOp C (x.fr.ev n) s x.op=some (.val x.v s'')∧lH s x.v=true)→
  ∃ (frs:Nat→Fr) (sts:Nat→St),frs 0=fr∧sts 0=s∧frs l.length=fr'∧sts l.length=s'∧
   (∀ p a,l[p]? = some a→Yy ⟨C,call,yield,rd,n,all,base,l⟩ frs sts p a)∧(∀ x∈pend,asi ⟨C,call,yield,rd,n,all,base,l⟩ frs sts l x)
 |[],cl,pend,fr,s,fr',s',h,_=>by
  cases h
  exact ⟨fun _=>fr,fun _=>s,rfl,rfl,rfl,rfl,fun p a ha=>by simp at ha,fun x _ e b hb=>by simp at hb⟩
 |a::rest,cl,pend,fr,s,fr',s',h,hcl=>by
  change Es C call yield rd n all base a rest (MG C call yield rd n all base rest) cl pend fr s=some (fr',s') at h
  unfold Es at h
  obtain ⟨g,hg,h⟩:=ah.1 h
  have glue:∀ (cl':Bool) (agp:List aan) (fr1:Fr) (s1:St),(∀ x∈pend,x∈agp)→MG C call yield rd n all base rest cl' agp fr1 s1=some (fr',s')→
    (cl'=true→∀ x∈agp,∃ s'',execOp C (x.fr.ev n) s1 x.op=some (.val x.v s'')∧lH s1 x.v=true)→
    (∀ (frs:Nat→Fr) (sts:Nat→St),frs 0=fr1→sts 0=s1→(∀ x∈agp,asi ⟨C,call,yield,rd,n,all,base,rest⟩ frs sts rest x)→Yy ⟨C,call,yield,rd,n,all,base,a::rest⟩ (Jg fr frs) (Jg s sts) 0 a)→
    (∀ (frs:Nat→Fr) (sts:Nat→St),frs 0=fr1→sts 0=s1→∀ x∈pend,Eff ⟨C,call,yield,rd,n,all,base,a::rest⟩ (Jg fr frs) 0 a→dY a.mask x.i=false→
     ∃ s'',execOp C (x.fr.ev n) s1 x.op=some (.val x.v s'')∧lH s1 x.v=true)→
    ∃ (frs:Nat→Fr) (sts:Nat→St),frs 0=fr∧sts 0=s∧frs (a::rest).length=fr'∧sts (a::rest).length=s'∧
     (∀ p b,(a::rest)[p]? = some b→Yy ⟨C,call,yield,rd,n,all,base,a::rest⟩ frs sts p b)∧(∀ x∈pend,asi ⟨C,call,yield,rd,n,all,base,a::rest⟩ frs sts (a::rest) x):=by
   intro cl' agp fr1 s1 hsub hrest hcl' hstep aqT
   obtain ⟨frs,sts,f0,t0,f1,t1,hst,hpd⟩:=NK C call yield rd n all base hQ rest cl' agp fr1 s1 fr' s' hrest hcl'
   refine ⟨Jg fr frs,Jg s sts,rfl,rfl,f1,t1,?_,?_⟩
   ·intro p b hb
    cases p with
    |zero=>
     simp at hb
     subst hb
     exact hstep frs sts f0 t0 hpd
    |succ p=>
     simp at hb
     exact Yy.up (X:=⟨C,call,yield,rd,n,all,base,rest⟩) (Y:=⟨C,call,yield,rd,n,all,base,a::rest⟩) rfl rfl rfl rfl rfl rfl rfl (a0:=a) rfl (hst p b hb)
   ·intro x hx e b hb heff hbit
    cases e with
    |zero=>
     simp at hb
     subst hb
     show ∃ s'',execOp C (x.fr.ev n) (sts 0) x.op=_∧lH (sts 0) x.v=true
     rw [t0]
     exact aqT frs sts f0 t0 x hx heff hbit
    |succ e=>
     simp at hb
     exact hpd x (hsub x hx) e b hb heff hbit
  cases g with
  |false=>
   rw [aP] at h
   refine glue cl pend _ s (fun _ hx=>hx) h hcl (fun frs sts f0 t0 _=>.skip hg f0 t0) ?_
   intro frs sts f0 t0 x hx heff
   have:=heff.1
   change jW n all fr a.op.guard=some true at this
   rw [hg] at this
   cases this
  |true=>
   rw [aN] at h
   have asB:∀ (frs:Nat→Fr),a.cls<3→¬Eff ⟨C,call,yield,rd,n,all,base,a::rest⟩ (Jg fr frs) 0 a:=fun frs hlt he=>by have:=he.2;omega
   cases hc0:a.cls with
   |zero=>
    rw [hc0] at h
    obtain ⟨r,hr,h⟩:=ah.1 h
    cases r with
    |val v s2=>exact glue cl pend _ s (fun _ hx=>hx) h hcl (fun frs sts f0 t0 _=>.pure hg hc0 v s2 hr f0 t0) (fun frs sts _ _ x _ heff=>absurd heff (asB frs (by omega)))
    |call f args s2=>cases h
    |yield f args s2=>cases h
    |defer f args s2=>cases h
   |succ c1=>
    rw [hc0] at h
    cases c1 with
    |zero=>
     obtain ⟨r,hr,h⟩:=ah.1 h
     cases r with
     |val v s2=>
      obtain ⟨hq,h⟩:=au.1 h
      refine glue cl ({ i:=a.i,op:=a.op.op,fr:=fr,v:=v }::pend) _ s (fun _ hx=>qam _ hx) h (fun hc x hx=>by
       rcases List.mem_cons.1 hx with rfl|hx
       ·exact ⟨s2,hr,hq⟩
       ·exact hcl hc x hx) (fun frs sts f0 t0 hpd=>.read hg hc0 v s2 hr hq f0 t0 ?_) (fun frs sts _ _ x _ heff=>absurd heff (asB frs (by omega)))
      intro e b hpe hb heff hbit
      cases e with
      |zero=>omega
      |succ e=>exact hpd { i:=a.i,op:=a.op.op,fr:=fr,v:=v } (by simp) e b (by simpa using hb) heff hbit
     |call f args s2=>cases h
     |yield f args s2=>cases h
     |defer f args s2=>cases h
    |succ c2=>
     cases c2 with
     |zero=>
      obtain ⟨⟨r,mk⟩,hr,h⟩:=ah.1 h
      exact glue false pend _ _ (fun _ hx=>hx) h (fun hc=>by cases hc) (fun frs sts f0 t0 _=>.make hg hc0 r mk hr f0 t0) (fun frs sts _ _ x _ heff=>absurd heff (asB frs (by omega)))
     |succ c3=>
      obtain ⟨r,hr,h⟩:=ah.1 h
      unfold yP at h
      cases hcq:(cl&&(nC a.op.op&&vJ C r)) with
      |true=>
       rw [hcq,aN,HY] at h
       simp only [qac] at hcq
       obtain ⟨⟨v,s2,df⟩,ha,h5⟩:=ah.1 h
       obtain ⟨hgd,h6⟩:=au.1 h5
       have hss:=afB hQ hr hcq.2.1 hcq.2.2 ha
       refine glue true pend _ s2 (fun _ hx=>hx) h6 (fun _=>by rw [hss];exact hcl hcq.1) (fun frs sts f0 t0 _=>.eff hg (by omega) r v s2 df hr ha f0 t0 ?_) ?_
       ·intro q b hpq hb hcls
        cases q with
        |zero=>omega
        |succ q=>
         show (sts 0).heap.get _=none
         rw [t0]
         exact zf hgd b (qal (by simpa using hb)) hcls
       ·intro frs sts f0 t0 x hx _ hbit
        rw [hss]
        exact hcl hcq.1 x hx
      |false=>
       rw [hcq,aP,HY] at h
       obtain ⟨⟨v,s2,df⟩,ha,h⟩:=ah.1 h
       obtain ⟨hgd,h⟩:=au.1 h
       simp only [qac] at hgd
       refine glue false pend _ s2 (fun _ hx=>hx) h (fun hc=>by cases hc) (fun frs sts f0 t0 _=>.eff hg (by omega) r v s2 df hr ha f0 t0 ?_) ?_
       ·intro q b hpq hb hcls
        cases q with
        |zero=>omega
        |succ q=>
         show (sts 0).heap.get _=none
         rw [t0]
         exact zf hgd.2 b (qal (by simpa using hb)) hcls
       ·intro frs sts f0 t0 x hx _ hbit
        exact O9 hgd.1 x hx hbit
end
end Go.Ax
namespace Go.Ax
variable [Lo]
open Go
noncomputable section
section
variable {P:Program} {base:Nat} {ρ ρ':Ren} {s s':St} {w w':World} {C:Cfg} {ev:Ev} {η:Operand→Value}
structure Makes (P:Program) (ρ:Ren) (w:World) (run:Result Next) (r:Row) (mk:Nat→Value) (cs:List Value) (e:TypeId) (arr:Array Value) (c:Value):Prop where
 row:r = .row cs e 0
 run:run = .ok (.value c) (w.alloc (.cells arr e))
 cells:VRs ρ cs arr.toList
 val:∀ (ρ':Ren) (id:Nat),ak≤id→ρ' id=some ⟨w.heap.size,0,0⟩→VR ρ' (mk id) c
theorem akG (w:World){ρ':Ren}{id:Nat}(h1:ak≤id)(h2:ρ' id=some ⟨w.heap.size,0,0⟩):VR ρ' (ptr id 0) (.pointer (some ⟨w.heap.size,0,none⟩)):=by
 have:=VR.ptr (ρ:=ρ') (b:=id) (o:=0) (l:=⟨w.heap.size,0,0⟩) (by rw [Ren.dw h1];exact h2)
 simpa [Ax.ptr] using this
theorem ajs (hK:eX C P)(he:EvR ρ ev η){o:Oper}{r:Row}{mk:Nat→Value}(hr:aOp C ev o.op=some (r,mk)):∃ cs e arr c,Makes P ρ w ((Go.execOp η o).run P w) r mk cs e arr c:=by
 cases ho:o.op
 case alloc t=>
  rw [ho] at hr
  obtain ⟨z,hz,hr⟩:=ah.1 hr
  cases hr
  rw [hK.prog] at hz
  obtain ⟨i,v,h1,h2,rfl⟩:=NW hz
  have hv:=hK.zero t i v (V3 hz) h1 h2 ρ
  refine ⟨v.cells.toList,t,v.cells,.pointer (some ⟨w.heap.size,0,none⟩),rfl,?_,?_,fun ρ' id=>akG w⟩
  ·unfold Go.execOp
   simp only [ho]
   simp [Instr.alloc,zeroValue,Go.typeInfo,h1,h2,newVar,newRow]
  ·have:=ql hv
   have e:cellsOf v=v.cells.toList:=by cases v <;> rfl
   rwa [e] at this
 case box t x=>
  rw [ho] at hr
  obtain ⟨v,hv,hr⟩:=ah.1 hr
  cases hr
  refine ⟨cellsOf v,t,(η x).cells,.pointer (some ⟨w.heap.size,0,none⟩),rfl,?_,ql (he x v hv),fun ρ' id=>akG w⟩
  unfold Go.execOp
  simp only [ho]
  simp [Instr.box,newVar,newRow]
 case buildSlice t len parts=>
  rw [ho] at hr
  unfold aOp at hr
  rw [hK.prog] at hr
  simp only at hr
  split at hr
  ·rename_i e hu
   obtain ⟨n,hn,hr⟩:=ah.1 hr
   obtain ⟨z,hz,hr⟩:=ah.1 hr
   obtain ⟨hg,hr⟩:=au.1 hr
   obtain ⟨ps,hps,hr⟩:=ah.1 hr
   obtain ⟨l,hl,hr⟩:=ah.1 hr
   cases hr
   simp only [qac] at hg
   obtain ⟨⟨hg1,hg2⟩,hg3⟩:=hg
   have hzn:z.length=n:=by rw [aW] at hg1;exact qaa hg1
   have hn0:0<n:=qae hg2
   have hbig:len*n≤16777216:=qae hg3
   have hp:=wo he hps
   obtain ⟨i,v,h1,h2,h3,h4⟩:=uF hK.zero hz ρ
   have hzv:(zeroValue e).run P w = .ok v w:=by simp [zeroValue,Go.typeInfo,h1,h2]
   have hvn:v.cells.size=n:=by have:=h4.length;simp at this;omega
   have hzz:VRs ρ (repeatL len z) ((Array.range (len*n)).map fun i=>v.cells[i%v.cells.size]!).toList:=by
    have:=oW h4 len (.inl (by omega))
    have e0:len*v.cells.size=len*n:=by rw [hvn]
    rwa [e0] at this
   obtain ⟨rc,h5,h6⟩:=yh hp hzz hl
   refine ⟨l,e,rc,.slice (some ⟨w.heap.size,0,none⟩) len len,rfl,?_,h6,?_⟩
   ·unfold Go.execOp
    simp only [ho]
    have hb:¬(len*n>2 ^ 24):=by omega
    by_cases h0:len*n=0
    ·have hlen:len=0:=by
      rcases Nat.mul_eq_zero.1 h0 with h|h
      ·exact h
      ·omega
     subst hlen
     simp only [qaT,Array.range_zero',qaS] at h5
     simp only [Instr.buildSlice,run_underlying hu,run_sizeOf hn,qad,qab,qaf,qa4,qaT,Array.range_zero',qaS]
     simp
     rw [show (fun i=>some (i*n,n))=JF n from rfl,h5]
     simp [newRow]
    ·simp only [Instr.buildSlice,run_underlying hu,run_sizeOf hn,hzv,qad,qab,qaf,qa4,if_neg hb,if_neg h0]
     rw [show (fun i=>some (i*n,n))=JF n from rfl,h5]
     simp [newRow]
   ·intro ρ' id g1 g2
    have:=VR.slice (ρ:=ρ') (b:=id) (o:=0) (n:=len) (c:=len) (l:=⟨w.heap.size,0,0⟩) (by rw [Ren.dw g1];exact g2)
    have hc:capOf ⟨w.heap.size,0,0⟩ len=len:=by
     unfold capOf;rw [if_neg];unfold bf
     have:len*1≤len*n:=Nat.mul_le_mul_left _ hn0
     omega
    rw [hc] at this
    exact this
  ·cases hr
 case makeSlice t x y=>
  rw [ho] at hr
  unfold aOp at hr
  rw [hK.prog] at hr
  simp only at hr
  split at hr
  ·rename_i e hu
   obtain ⟨a,ha,hr⟩:=ah.1 hr
   obtain ⟨l,hl,hr⟩:=ah.1 hr
   obtain ⟨b,hb,hr⟩:=ah.1 hr
   obtain ⟨c,hc,hr⟩:=ah.1 hr
   obtain ⟨i,hi,hr⟩:=ah.1 hr
   obtain ⟨z,hz,hr⟩:=ah.1 hr
   obtain ⟨hg,hr⟩:=au.1 hr
   cases hr
   simp only [qac] at hg
   obtain ⟨⟨⟨⟨hg1,hg2⟩,hg3⟩,hg4⟩,hg5⟩:=hg
   have hg4:c≤100000:=qae hg4
   obtain ⟨k1,hk1⟩:=(he x a ha).nat hl
   obtain ⟨k2,hk2⟩:=(he y b hb).nat hc
   obtain ⟨arr,hzz,hrun⟩:=U3 (ρ:=ρ) (w:=w) hK.zero hu hi hz (qaa hg1) (qae hg2) (qae hg3) hg4 (qae hg5) hk1 hk2
   refine ⟨_,e,arr,.slice (some ⟨w.heap.size,0,none⟩) l c,rfl,?_,hzz,fun ρ' id g1 g2=>?_⟩
   ·unfold Go.execOp
    simp only [ho]
    simp only [qad,hrun,qab,qaf]
   ·have:=VR.slice (ρ:=ρ') (b:=id) (o:=0) (n:=l) (c:=c) (l:=⟨w.heap.size,0,0⟩) (by rw [Ren.dw g1];exact g2)
    have hcap:capOf ⟨w.heap.size,0,0⟩ c=c:=by
     unfold capOf;rw [if_neg];unfold bf;omega
    rw [hcap] at this
    exact this
  ·cases hr
 all_goals
  rw [ho] at hr
  change none=some (r,mk) at hr
  cases hr
theorem Zj {o:Op}:aOp C (Bd (eP o) ev) o=aOp C ev o:=by
 cases o <;> try rfl
 case box t x=>
  show aj (Bd _ ev x) _=aj (ev x) _
  have:Bd (eP (.box t x)) ev x=ev x:=by unfold Bd;rw [if_pos (by simp [eP])]
  rw [this]
 case buildSlice t len parts=>
  have:=tK (ev:=Bd (eP (.buildSlice t len parts)) ev) (ev':=ev) (l:=parts.toList) fun p hp=>by
   unfold Bd
   rw [if_pos (by simp only [eP,kP,qaY];exact ⟨p,hp,rfl⟩)]
  unfold aOp
  simp only [this]
 case makeSlice t x y=>
  have h1:Bd (eP (.makeSlice t x y)) ev x=ev x:=by unfold Bd;rw [if_pos (by simp [eP])]
  have h2:Bd (eP (.makeSlice t x y)) ev y=ev y:=by unfold Bd;rw [if_pos (by simp [eP])]
  unfold aOp
  simp only [h1,h2]
theorem asY {o:Op}{r:Row}{mk:Nat→Value}(h:aOp C ev o=some (r,mk)):∃ cs e,r = .row cs e 0:=by
 unfold aOp at h
 split at h
 ·obtain ⟨z,_,h⟩:=ah.1 h
  cases h
  exact ⟨_,_,rfl⟩
 ·obtain ⟨z,_,h⟩:=ah.1 h
  cases h
  exact ⟨_,_,rfl⟩
 ·split at h
  ·obtain ⟨n,_,h⟩:=ah.1 h
   obtain ⟨z,_,h⟩:=ah.1 h
   obtain ⟨_,h⟩:=au.1 h
   obtain ⟨ps,_,h⟩:=ah.1 h
   obtain ⟨l,_,h⟩:=ah.1 h
   cases h
   exact ⟨_,_,rfl⟩
  ·cases h
 ·split at h
  ·obtain ⟨a,_,h⟩:=ah.1 h
   obtain ⟨l,_,h⟩:=ah.1 h
   obtain ⟨b,_,h⟩:=ah.1 h
   obtain ⟨c,_,h⟩:=ah.1 h
   obtain ⟨i,_,h⟩:=ah.1 h
   obtain ⟨z,_,h⟩:=ah.1 h
   obtain ⟨_,h⟩:=au.1 h
   cases h
   exact ⟨_,_,rfl⟩
  ·cases h
 ·cases h
theorem abN {o:Op}{r:Row}{mk:Nat→Value}(h:aOp C ev o=some (r,mk)):∀ c,o ≠ .defer c:=by
 rintro c rfl
 cases h
theorem auJ (o:Op):cls o≤3:=by
 unfold cls
 repeat' split
 all_goals omega
def jH:List (Nat × Row)→St→St
 |[],s=>s
 |(i,r)::xs,s=>akj (jH xs s) i r
theorem jX (xs:List (Nat × Row))(s:St):(jH xs s).next=s.next:=by
 induction xs with
 |nil=>rfl
 |cons x xs ih=>exact ih
theorem Ag (xs:List (Nat × Row))(s:St):(jH xs s).bZ=s.bZ:=by
 induction xs with
 |nil=>rfl
 |cons x xs ih=>exact ih
theorem nG (xs:List (Nat × Row))(s:St)(j:Nat):(jH xs s).heap.get j=match xs.lookup j with|some r=>some r|none=>s.heap.get j:=by
 induction xs with
 |nil=>rfl
 |cons x xs ih=>
  obtain ⟨i,r⟩:=x
  show ((jH xs s).heap.set i r).get j=_
  rw [Hp.jv,ih]
  by_cases h:j=i
  ·subst h;simp [qay]
  ·have:(j == i)=false:=by simpa using h
   simp [qay,h,this]
theorem Vs (f:Nat→Bool)(xs:List (Nat × Row))(j:Nat):(xs.filter fun p=>f p.1).lookup j=if f j then xs.lookup j else none:=by
 induction xs with
 |nil=>simp
 |cons x xs ih=>
  obtain ⟨i,r⟩:=x
  by_cases hf:f i=true
  ·rw [List.filter_cons_of_pos (by simpa using hf)]
   by_cases h:j=i
   ·subst h;simp [qay,hf]
   ·have:(j == i)=false:=by simpa using h
    simp [qay,this,ih]
  ·rw [List.filter_cons_of_neg (by simpa using hf)]
   by_cases h:j=i
   ·subst h
    simp [ih,hf]
   ·have:(j == i)=false:=by simpa using h
    simp [qay,this,ih]
end
end
end Go.Ax
namespace Go.Ax
variable [Lo]
open Go
noncomputable section
def vH (X:agB)(frs:Nat→Fr)(q:Nat)(b:Info)(r:Row)(mk:Nat→Value):Prop:=
 jW X.n X.all (frs q) b.op.guard=some true∧b.cls=2∧aOp X.C ((frs q).ev X.n) b.op.op=some (r,mk)
structure XR (X:agB) (frs:Nat→Fr) (sts:Nat→St):Prop where
 plan:Oe X.all X.l
 steps:∀ (p:Nat) (a:Info),X.l[p]? = some a→Yy X frs sts p a
 start:∀ (q:Nat) (b:Info),X.l[q]? = some b→(sts 0).heap.get (X.base+b.i)=none
section
variable {X:agB} {frs:Nat→Fr} {sts:Nat→St} (h:XR X frs sts)
include h
theorem XR.adS {p q:Nat}{a b:Info}(ha:X.l[p]? = some a)(hb:X.l[q]? = some b)(e:X.base+a.i=X.base+b.i):p=q:=h.plan.nodup p q a b ha hb (by omega)
theorem XR.free:∀ (p q:Nat) (b:Info),p≤q→X.l[q]? = some b→b.cls=2→(sts p).heap.get (X.base+b.i)=none
 |0,q,b,_,hb,_=>h.start q b hb
 |p+1,q,b,hpq,hb,hc=>by
  have hlen:=(List.getElem?_eq_some_iff.1 hb).1
  have ha:X.l[p]? = some X.l[p]:=qak (by omega)
  have ih:=XR.free p q b (by omega) hb hc
  cases h.steps p _ ha with
  |skip hg hf hs=>rw [hs];exact ih
  |pure hg hc' v s' he hf hs=>rw [hs];exact ih
  |read hg hc' v s' he hq hf hs again=>rw [hs];exact ih
  |make hg hc' r mk he hf hs=>
   rw [hs]
   show ((sts p).heap.set _ _).get _=none
   rw [Hp.jv,if_neg]
   ·exact ih
   ·intro e
    have:=h.adS hb ha e
    omega
  |eff hg hc' r v s' df he ha' hf hs free=>exact free q b (by omega) hb hc
theorem XR.alF {p:Nat}{a:Info}(ha:X.l[p]? = some a){t:Nat}(ht:a.op.dst≠some t):(frs (p+1)).get X.n t=(frs p).get X.n t:=by
 cases h.steps p a ha with
 |skip hg hf hs=>rw [hf,Fr.oK _ _ _ ht]
 |pure hg hc' v s' he hf hs=>rw [hf,Fr.oK _ _ _ ht]
 |read hg hc' v s' he hq hf hs again=>rw [hf,Fr.oK _ _ _ ht]
 |make hg hc' r mk he hf hs=>rw [hf,Fr.oK _ _ _ ht]
 |eff hg hc' r v s' df he ha' hf hs free=>rw [hf,Fr.oK _ _ _ ht,Fr.al2]
theorem XR.UO {t:Nat}:∀ (d p:Nat),p+d≤X.l.length→(∀ q b,p≤q→q<p+d→X.l[q]? = some b→b.op.dst≠some t)→(frs (p+d)).get X.n t=(frs p).get X.n t
 |0,p,_,_=>rfl
 |d+1,p,hl,hn=>by
  have ha:X.l[p+d]? = some X.l[p+d]:=qak (by omega)
  rw [show p+(d+1)=(p+d)+1 from rfl,h.alF ha (hn _ _ (by omega) (by omega) ha)]
  exact XR.UO d p (by omega) fun q b h1 h2=>hn q b h1 (by omega)
theorem XR.Eo:∀ (d p:Nat),p+d≤X.l.length→(∀ q b,p≤q→q<p+d→X.l[q]? = some b→¬Eff X frs q b)→(frs (p+d)).defers=(frs p).defers
 |0,p,_,_=>rfl
 |d+1,p,hl,hn=>by
  have ha:X.l[p+d]? = some X.l[p+d]:=qak (by omega)
  rw [show p+(d+1)=(p+d)+1 from rfl]
  rw [←XR.Eo d p (by omega) fun q b h1 h2=>hn q b h1 (by omega)]
  cases h.steps _ _ ha with
  |skip hg hf hs=>rw [hf,Fr.iO]
  |pure hg hc' v s' he hf hs=>rw [hf,Fr.iO]
  |read hg hc' v s' he hq hf hs again=>rw [hf,Fr.iO]
  |make hg hc' r mk he hf hs=>rw [hf,Fr.iO]
  |eff hg hc' r v s' df he ha' hf hs free=>exact absurd ⟨hg,hc'⟩ (hn _ _ (by omega) (by omega) ha)
theorem XR.advance:∀ (d p:Nat),p+d≤X.l.length→(∀ q b,p≤q→q<p+d→X.l[q]? = some b→¬Eff X frs q b)→
  (sts (p+d)).next=(sts p).next∧(sts (p+d)).bZ=(sts p).bZ∧∀ i,
   (∃ q b r mk,p≤q∧q<p+d∧X.l[q]? = some b∧vH X frs q b r mk∧i=X.base+b.i∧(sts (p+d)).heap.get i=some r)∨
   ((∀ q b r mk,p≤q→q<p+d→X.l[q]? = some b→vH X frs q b r mk→i≠X.base+b.i)∧(sts (p+d)).heap.get i=(sts p).heap.get i)
 |0,p,_,_=>⟨rfl,rfl,fun i=>.inr ⟨fun q b r mk h1 h2=>by omega,rfl⟩⟩
 |d+1,p,hl,hn=>by
  have ha:X.l[p+d]? = some X.l[p+d]:=qak (by omega)
  obtain ⟨i1,i2,i3⟩:=XR.advance d p (by omega) fun q b h1 h2=>hn q b h1 (by omega)
  rw [show p+(d+1)=(p+d)+1 from rfl]
  have still:(∀ r mk,¬vH X frs (p+d) X.l[p+d] r mk)→sts (p+d+1)=sts (p+d)→
    (sts (p+d+1)).next=(sts p).next∧(sts (p+d+1)).bZ=(sts p).bZ∧∀ i,
     (∃ q b r mk,p≤q∧q<p+d+1∧X.l[q]? = some b∧vH X frs q b r mk∧i=X.base+b.i∧(sts (p+d+1)).heap.get i=some r)∨
     ((∀ q b r mk,p≤q→q<p+d+1→X.l[q]? = some b→vH X frs q b r mk→i≠X.base+b.i)∧(sts (p+d+1)).heap.get i=(sts p).heap.get i):=by
   intro hno hs
   rw [hs]
   refine ⟨i1,i2,fun i=>?_⟩
   rcases i3 i with ⟨q,b,r,mk,h1,h2,h3,h4,h5,h6⟩|⟨h1,h2⟩
   ·exact .inl ⟨q,b,r,mk,h1,by omega,h3,h4,h5,h6⟩
   ·refine .inr ⟨fun q b r mk g1 g2 g3 g4=>?_,h2⟩
    by_cases e:q=p+d
    ·subst e
     rw [ha] at g3
     cases g3
     exact absurd g4 (hno r mk)
    ·exact h1 q b r mk g1 (by omega) g3 g4
  cases h.steps _ _ ha with
  |skip hg hf hs=>exact still (fun r mk hm=>by rw [hm.1] at hg;cases hg) hs
  |pure hg hc' v s' he hf hs=>exact still (fun r mk hm=>by rw [hm.2.1] at hc';cases hc') hs
  |read hg hc' v s' he hq hf hs again=>exact still (fun r mk hm=>by rw [hm.2.1] at hc';cases hc') hs
  |eff hg hc' r v s' df he ha' hf hs free=>exact absurd ⟨hg,hc'⟩ (hn _ _ (by omega) (by omega) ha)
  |make hg hc' r mk he hf hs=>
   have amm:vH X frs (p+d) X.l[p+d] r mk:=⟨hg,hc',he⟩
   rw [hs]
   refine ⟨i1,i2,fun i=>?_⟩
   show (∃ q b r' mk',p≤q∧q<p+d+1∧X.l[q]? = some b∧vH X frs q b r' mk'∧i=X.base+b.i∧((sts (p+d)).heap.set (X.base+X.l[p+d].i) r).get i=some r')∨
    (_∧((sts (p+d)).heap.set (X.base+X.l[p+d].i) r).get i=(sts p).heap.get i)
   rw [Hp.jv]
   by_cases e:i=X.base+X.l[p+d].i
   ·rw [if_pos e]
    exact .inl ⟨p+d,_,r,mk,by omega,by omega,ha,amm,e,rfl⟩
   ·rw [if_neg e]
    rcases i3 i with ⟨q,b,r',mk',h1,h2,h3,h4,h5,h6⟩|⟨h1,h2⟩
    ·exact .inl ⟨q,b,r',mk',h1,by omega,h3,h4,h5,h6⟩
    ·refine .inr ⟨fun q b r' mk' g1 g2 g3 g4=>?_,h2⟩
     by_cases e2:q=p+d
     ·subst e2
      rw [ha] at g3
      cases g3
      exact e
     ·exact h1 q b r' mk' g1 (by omega) g3 g4
end
structure Inv (mk0:Option Nat) (P:Program) (B:Nat) (X:agB) (frs:Nat→Fr) (sts:Nat→St) (nt:Nat) (ρ0:Ren) (s0:St) (w0:World) (D:Nat→Prop) (a:Act) (w:World) (ρ:Ren) (k:Nat) (xs:List (Nat × Row)):Prop where
 hk:k≤X.l.length
 last:k=0∨∃ (e:Nat) (b:Info),k=e+1∧X.l[e]? = some b∧Eff X frs e b
 agN:∀ (e:Nat) (b:Info),e<k→X.l[e]? = some b→Eff X frs e b→D b.i
 QG:∀ (e:Nat) (b:Info),k≤e→X.l[e]? = some b→Eff X frs e b→¬D b.i
 ac4:∀ (q:Nat) (b:Info) (r:Row) (mk:Nat→Value),q<k→X.l[q]? = some b→vH X frs q b r mk→D b.i
 go:Goes P B ρ0 s0 w0 ρ (jH xs (sts k)) w
 RQ:∀ (q:Nat) (b:Info),X.l[q]? = some b→X.base+b.i<(sts k).next
 atw:∀ (q:Nat) (b:Info) (r:Row) (mk:Nat→Value),k≤q→X.l[q]? = some b→vH X frs q b r mk→D b.i→xs.lookup (X.base+b.i)=some r
 xsOf:∀ (i:Nat) (r:Row),xs.lookup i=some r→∃ (q:Nat) (b:Info) (mk:Nat→Value),k≤q∧X.l[q]? = some b∧vH X frs q b r mk∧D b.i∧i=X.base+b.i
 unused:∀ (q:Nat) (b:Info),X.l[q]? = some b→¬D b.i→ρ (X.base+b.i)=none
 tmps:∀ (t:Nat) (v:Value) (p:Nat),p≤X.l.length→(∀ (q:Nat) (b:Info),q<p→X.l[q]? = some b→b.op.dst=some t→D b.i)→(∀ (q:Nat) (b:Info),p≤q→X.l[q]? = some b→b.op.dst=some t→¬D b.i)→(frs p).get X.n t=some v→VR ρ v (a.tmps.getD t undef)
 size:nt≤a.tmps.size
 defers:JI ρ (jH xs (sts k)) w (frs k).defers a.defers
 wu:ajb mk0 a
section
variable {mk0:Option Nat} {P:Program} {B:Nat} {X:agB} {frs:Nat→Fr} {sts:Nat→St} {nt:Nat} {ρ0:Ren} {s0:St} {w0:World} {D:Nat→Prop} {a:Act} {w:World} {ρ:Ren} {k:Nat} {xs:List (Nat × Row)}
theorem Inv.sub (hR:XR X frs sts)(hI:Inv mk0 P B X frs sts nt ρ0 s0 w0 D a w ρ k xs)(hft:ak≤X.base){d:Nat}(hd:k+d≤X.l.length)(hne:∀ q b,k≤q→q<k+d→X.l[q]? = some b→¬Eff X frs q b)
  (hmd:∀ q b r mk,k≤q→q<k+d→X.l[q]? = some b→vH X frs q b r mk→D b.i):afF (sts (k+d)) (jH xs (sts k)):=by
 obtain ⟨h1,h2,h3⟩:=hR.advance d k hd hne
 refine ⟨by rw [jX,h1],by rw [Ag,h2],fun i=>?_⟩
 rw [nG]
 cases hx:xs.lookup i with
 |some r=>
  obtain ⟨q,b,mk,g1,g2,g3,g4,g5⟩:=hI.xsOf i r hx
  by_cases hq:q<k+d
  ·left
   rcases h3 i with ⟨q',b',r',mk',e1,e2,e3,e4,e5,e6⟩|⟨e1,e2⟩
   ·have:=hR.adS g2 e3 (g5▸e5)
    subst this
    rw [g2] at e3
    cases e3
    rw [e6]
    have:=g3.2.2
    rw [e4.2.2] at this
    cases this
    rfl
   ·exact absurd g5 (e1 q b r mk g1 hq g2 g3)
  ·right
   refine ⟨by rw [g5];exact hR.free (k+d) q b (by omega) g2 g3.2.1,by omega,?_⟩
   obtain ⟨cs,e,rfl⟩:=asY g3.2.2
   exact ⟨cs,e,rfl⟩
 |none=>
  left
  rcases h3 i with ⟨q',b',r',mk',e1,e2,e3,e4,e5,e6⟩|⟨e1,e2⟩
  ·have:=hI.atw q' b' r' mk' e1 e3 e4 (hmd q' b' r' mk' e1 e2 e3 e4)
   rw [←e5,hx] at this
   cases this
  ·exact e2.symm
theorem Inv.hr (hI:Inv mk0 P B X frs sts nt ρ0 s0 w0 D a w ρ k xs):HR P B ρ (jH xs (sts k)) w:=hI.go.hr
structure Now (X:agB) (frs:Nat→Fr) (D:Nat→Prop) (p:Nat) (b:Info):Prop where
 at_:X.l[p]? = some b
 out:¬D b.i
 before:∀ j,dY b.mask j=true→D j
 behind:∀ (q:Nat) (c:Info),X.l[q]? = some c→D c.i→dY c.mask b.i=false
theorem Now.mk' (hP:Oe X.all X.l)(hD:∀ i o,D i→X.all[i]? = some o→∀ j,Binds o j→D j){p:Nat}{b:Info}(hb:X.l[p]? = some b)(ho:¬D b.i)(hr:∀ j,Binds b.op j→D j):Now X frs D p b:=by
 refine ⟨hb,ho,fun j hj=>(hP.info p b hb).mask D hD b.op (hP.info p b hb).op hr j hj,fun q c hc hDc=>?_⟩
 rw [←qan]
 intro hbit
 have hi:=hP.info q c hc
 exact ho (hi.mask D hD c.op hi.op (hD c.i c.op hDc hi.op) b.i hbit)
theorem Inv.names (hR:XR X frs sts)(hI:Inv mk0 P B X frs sts nt ρ0 s0 w0 D a w ρ k xs){p:Nat}{b:Info}(hN:Now X frs D p b){t:Nat}{v:Value}(ht:Names X.all b.op t)(hv:(frs p).get X.n t=some v):VR ρ v (a.tmps.getD t undef):=by
 have hlt:=(List.getElem?_eq_some_iff.1 hN.at_).1
 refine hI.tmps t v p (by omega) (fun q c hq hc hd=>?_) (fun q c hq hc hd=>?_) hv
 ·exact hN.before c.i (hR.plan.tmps hq hc hN.at_ (.inl ⟨hd,ht⟩))
 ·by_cases e:q=p
  ·subst e
   rw [hN.at_] at hc
   cases hc
   exact hN.out
  ·intro hDc
   have:=hR.plan.tmps (show p<q by omega) hN.at_ hc (.inr ⟨hd,ht⟩)
   rw [hN.behind q c hc hDc] at this
   cases this
theorem Inv.SX (hR:XR X frs sts)(hI:Inv mk0 P B X frs sts nt ρ0 s0 w0 D a w ρ k xs){p:Nat}{b:Info}(hN:Now X frs D p b){ρ':Ren}(hle:ρ.le ρ'){v c:Value}{df:Option (FuncId × List Value)}{ds:List Deferred}
  (hf:frs (p+1)=((frs p).more df).put X.n b.op.dst v) (hv:VR ρ' v c) (hdst:WL nt b.op.dst=true) :
  ∀ (t:Nat) (u:Value) (p':Nat),p'≤X.l.length→(∀ (q:Nat) (e:Info),q<p'→X.l[q]? = some e→e.op.dst=some t→(D e.i∨e.i=b.i))→(∀ (q:Nat) (e:Info),p'≤q→X.l[q]? = some e→e.op.dst=some t→¬(D e.i∨e.i=b.i))→(frs p').get X.n t=some u→
   VR ρ' u ((({ tmps:=a.tmps,defers:=ds++a.defers }:Act).put b.op.dst c).tmps.getD t undef):=by
 intro t u p' hp' h1 h2 hu
 have hlt:=(List.getElem?_eq_some_iff.1 hN.at_).1
 rw [adC]
 by_cases ht:b.op.dst=some t
 ·
  have hpp:p<p':=by
   rcases qau p p' with h|h
   ·exact h
   ·exact absurd (.inr rfl) (h2 p b h hN.at_ ht)
  have hbt:t<a.tmps.size:=by
   rw [ht] at hdst
   exact qai (bD hdst) hI.size
  rw [if_pos ⟨ht,hbt⟩]
  have e:=hR.UO (t:=t) (p'-(p+1)) (p+1) (by omega) (fun q e g1 g2 g3 g4=>by
   rcases h1 q e (by omega) g3 g4 with h5|h5
   ·have:=hR.plan.tmps (show p<q by omega) hN.at_ g3 (t:=t) (.inl ⟨ht,.inl g4⟩)
    rw [hN.behind q e g3 h5] at this
    cases this
   ·have:=hR.plan.nodup q p e b g3 hN.at_ h5
    omega)
  rw [show p+1+(p'-(p+1))=p' by omega] at e
  rw [e,hf,ht,Fr.zQ,if_pos rfl] at hu
  cases hu
  exact hv
 ·rw [if_neg (fun hh=>ht hh.1)]
  refine (hI.tmps t u p' hp' (fun q e g1 g2 g3=>?_) (fun q e g1 g2 g3 hh=>h2 q e g1 g2 g3 (.inl hh)) hu).mono hle
  rcases h1 q e g1 g2 g3 with h5|h5
  ·exact h5
  ·have:=hR.plan.nodup q p e b g2 hN.at_ h5
   subst this
   rw [hN.at_] at g2
   cases g2
   exact absurd g3 ht
theorem Inv.quiet (hR:XR X frs sts)(hI:Inv mk0 P B X frs sts nt ρ0 s0 w0 D a w ρ k xs){p:Nat}{b:Info}(hN:Now X frs D p b){ρ':Ren}{w':World}(hgo:Goes P B ρ (jH xs (sts k)) w ρ' (jH xs (sts k)) w'){v c:Value}
  (hf:frs (p+1)=(frs p).put X.n b.op.dst v) (hv:VR ρ' v c) (hdst:WL nt b.op.dst=true) (hne:¬Eff X frs p b) (hnm:∀ r mk,¬vH X frs p b r mk) :
  Inv mk0 P B X frs sts nt ρ0 s0 w0 (fun j=>D j∨j=b.i) (a.put b.op.dst c) w' ρ' k xs:=by
 have same:∀ {q e},X.l[q]? = some e→e.i=b.i→q=p∧e=b:=by
  intro q e hq he
  have:=hR.plan.nodup q p e b hq hN.at_ he
  subst this
  rw [hN.at_] at hq
  exact ⟨rfl,(Option.some.inj hq).symm⟩
 refine ⟨hI.hk,hI.last,fun e c h1 h2 h3=>.inl (hI.agN e c h1 h2 h3),fun e c h1 h2 h3 h4=>?_,fun q c r mk h1 h2 h3=>.inl (hI.ac4 q c r mk h1 h2 h3),hI.go.trans hgo,hI.RQ,fun q c r mk h1 h2 h3 h4=>?_,fun i r h1=>?_,
  fun q c h1 h2=>?_,?_,by rw [size_put];exact hI.size,by rw [iO];exact hI.defers.goes hgo,fun d hd=>hI.wu d (by rw [iO] at hd;exact hd)⟩
 ·rcases h4 with h4|h4
  ·exact hI.QG e c h1 h2 h3 h4
  ·obtain ⟨rfl,rfl⟩:=same h2 h4
   exact hne h3
 ·rcases h4 with h4|h4
  ·exact hI.atw q c r mk h1 h2 h3 h4
  ·obtain ⟨rfl,rfl⟩:=same h2 h4
   exact absurd h3 (hnm r mk)
 ·obtain ⟨q,c,mk,g1,g2,g3,g4,g5⟩:=hI.xsOf i r h1
  exact ⟨q,c,mk,g1,g2,g3,.inl g4,g5⟩
 ·have:X.base+c.i<(jH xs (sts k)).next:=by rw [jX];exact hI.RQ q c h1
  rw [hgo.old _ this]
  exact hI.unused q c h1 fun hh=>h2 (.inl hh)
 ·exact Inv.SX hR hI hN (ds:=[]) (df:=none) hgo.le hf hv hdst
end
end
end Go.Ax
namespace Go.Ax
variable [Lo]
open Go
noncomputable section
section
variable {mk0:Option Nat} {P:Program} {B:Nat} {X:agB} {frs:Nat→Fr} {sts:Nat→St} {nt:Nat} {ρ0:Ren} {s0:St} {w0:World} {D:Nat→Prop} {a:Act} {w:World} {ρ:Ren} {k:Nat} {xs:List (Nat × Row)}
theorem JI.world {ρ ρ':Ren}{s s':St}{w w':World}{l:List (FuncId × List Value)}{ds:List Deferred}(hle:ρ.le ρ')(hm:∀ r,zF ρ s w r→zF ρ' s' w' r)(h:JI ρ s w l ds):JI ρ' s' w' l ds:=by
 induction h with
 |nil=>exact .nil
 |cons ht ha hv _ ih=>exact .cons ht ha (hv.mono hle) ih
 |mark hmk hlt _ ih=>exact .mark (hm _ hmk) hlt ih
theorem Inv.step (hK:eX X.C P)(hc:uU P X.call)(hy:pz P X.yield){ro:Option Nat}(hro:X.rd=ro.isSome){m:Nat}{ops:Array Oper}(hops:ops.toList=X.all)(hok:sG nt X.all=true){Q:Exit→Act→World→Prop}(hR:XR X frs sts)(hft:ak≤X.base)(hbs:s0.next=X.base)
  (hI:Inv mk0 P B X frs sts nt ρ0 s0 w0 D a w ρ k xs) {p:Nat} {b:Info} (hN:Now X frs D p b) {K:Act→World→Prop}
  (hK':∀ a' w' ρ' k' xs',Inv mk0 P B X frs sts nt ρ0 s0 w0 (fun j=>D j∨j=b.i) a' w' ρ' k' xs'→K a' w'):wpOpIn (Fro ro) m P ops Q b.i K a w:=by
 have hlt:=(List.getElem?_eq_some_iff.1 hN.at_).1
 have abW:=hR.plan.info p b hN.at_
 have ho:ops[b.i]? = some b.op:=by
  have:=abW.op
  rw [←hops] at this
  simpa using this
 obtain ⟨hdst,avK⟩:=yM (yE hok b.op (qal abW.op))
 have apL:∀ t v,Names X.all b.op t→(frs p).get X.n t=some v→VR ρ v (a.tmps.getD t undef):=fun t v ht hv=>hI.names hR hN ht hv
 have he:EvR ρ (Bd (eP b.op.op) ((frs p).ev X.n)) a.eval:=Oi avK fun t v ht hv=>apL t v (.inr (.inl ht)) hv
 have hwant:∀ g,jW X.n X.all (frs p) b.op.guard=some g→Region.wanted b.op (yielded ops a.tmps)=g:=by
  intro g hg
  rw [←hops] at hg
  refine ML hg fun j o' d b' v h1 h2 h3 h4=>apL d v (.inr (.inr ⟨j,b',o',h1,?_,h3⟩)) h4
  rw [←hops]
  simpa using h2
 have hcls:b.cls≤3:=by
  rcases abW.cls with h|h
  ·rw [h];exact auJ _
  ·omega
 have hr:=hI.hr
 unfold wpOpIn
 simp only [ho]
 cases hR.steps p b hN.at_ with
 |skip hg hf hs=>
  rw [hwant _ hg]
  refine ⟨fun _ _=>trivial,?_⟩
  exact hK' _ _ _ _ _ (Inv.quiet hR hI hN (Goes.refl hr) hf (.tuple .nil) hdst (fun h=>by rw [h.1] at hg;cases hg) fun r mk h=>by rw [h.1] at hg;cases hg)
 |pure hg hc0 v s' hev hf hs=>
  rw [hwant _ hg]
  have hcl:cls b.op.op=0:=by
   rcases abW.cls with h|h
   ·rw [←h];exact hc0
   ·omega
  rw [←nS] at hev
  obtain ⟨v',h1,h2⟩:=(ags hcl).use hev
  cases h1
  refine anr hK hc hy hr he (h2 (jH xs (sts k))) (v:=v) (s':=jH xs (sts k)) (df:=none) rfl ?_
  intro ρ' w' c ds hgo hv hn
  cases hn
  exact hK' _ _ _ _ _ (Inv.quiet hR hI hN hgo hf hv hdst (fun h=>by have:=h.2;omega) fun r mk h=>by have:=h.2.1;omega)
 |read hg hc1 v s' hev hq hf hs again=>
  rw [hwant _ hg]
  have hcl:cls b.op.op=1:=by
   rcases abW.cls with h|h
   ·rw [←h];exact hc1
   ·omega
  have hsub:∃ s1,afF s1 (jH xs (sts k))∧execOp X.C (Bd (eP b.op.op) ((frs p).ev X.n)) s1 b.op.op=some (.val v s1):=by
   rcases qau p k with hpk|hpk
   ·rcases hI.last with h0|⟨e,c,h1,h2,h3⟩
    ·omega
    ·have hep:p<e:=by
      rcases qau p e with h|h
      ·exact h
      ·have:p=e:=by omega
       subst this
       rw [hN.at_] at h2
       cases h2
       have:=h3.2
       omega
     obtain ⟨s'',g1,g2⟩:=again e c hep h2 h3 (hN.behind e c h2 (hI.agN e c (by omega) h2 h3))
     rw [←h1] at g1 g2
     have:=Yh hcl g1 g2
     subst this
     refine ⟨sts k,?_,by rw [nS];exact g1⟩
     have:=hI.sub hR hft (d:=0) hI.hk (fun q b h1 h2=>by omega) (fun q b r mk h1 h2=>by omega)
     exact this
   ·have hne:∀ q c,k≤q→q<k+(p-k)→X.l[q]? = some c→¬Eff X frs q c:=fun q c h1 h2 h3 h4=>
     hI.QG q c h1 h3 h4 (hN.before c.i (hR.plan.mem (show q<p by omega) h3 hN.at_ (by have:=h4.2;omega) (by rw [hc1])))
    have hmd:∀ q c r mk,k≤q→q<k+(p-k)→X.l[q]? = some c→vH X frs q c r mk→D c.i:=fun q c r mk h1 h2 h3 h4=>
     hN.before c.i (hR.plan.mem (show q<p by omega) h3 hN.at_ (by have:=h4.2.1;omega) (by rw [hc1]))
    have h1:=hI.sub hR hft (d:=p-k) (by omega) hne hmd
    rw [show k+(p-k)=p by omega] at h1
    have:=Yh hcl hev hq
    subst this
    exact ⟨sts p,h1,by rw [nS];exact hev⟩
  obtain ⟨s1,hs1,hev1⟩:=hsub
  refine anr hK hc hy (hr.sub hs1) he hev1 (v:=v) (s':=s1) (df:=none) rfl ?_
  intro ρ' w' c ds hgo hv hn
  cases hn
  have hext:=Goes.extend (S':=jH xs (sts k)) hs1 hr hgo hs1.next.symm hs1.bZ.symm (fun i _=>rfl) (fun i hi=>by
   rcases hs1.heap i with h|⟨h,_,cs,e,h2⟩
   ·exact h
   ·exact absurd ⟨h,by rw [h2];simp⟩ hi)
  exact hK' _ _ _ _ _ (Inv.quiet hR hI hN hext hf hv hdst (fun h=>by have:=h.2;omega) fun r mk h=>by have:=h.2.1;omega)
 |make hg hc2 r mk hev hf hs=>
  rw [hwant _ hg]
  rw [←Zj] at hev
  obtain ⟨cs,e,arr,c,hm⟩:=ajs (w:=w) hK he hev
  rw [Zj] at hev
  have amm:vH X frs p b r mk:=⟨hg,hc2,hev⟩
  have hpk:k≤p:=by
   rcases qau p k with h|h
   ·exact absurd (hI.ac4 p b r mk h hN.at_ amm) hN.out
   ·exact h
  have aBJ:X.base+b.i<(jH xs (sts k)).next:=by rw [jX];exact hI.RQ p b hN.at_
  have hid:ak≤X.base+b.i:=by omega
  obtain ⟨k1,k2,k3,k4⟩:=Goes.ar8 hr hid aBJ (hI.unused p b hN.at_ hN.out) (e:=e) hm.cells
  have avZ:b.op.semAt (Fro ro).round a.eval=Go.execOp a.eval b.op:=Oper.semAt_eq _ _ _ (abN hev)
  refine ⟨fun _ _=>trivial,?_⟩
  rw [avZ,hm.run]
  have hval:=hm.val (ρ.set (X.base+b.i) ⟨w.heap.size,0,0⟩) (X.base+b.i) hid (Ren.dQ _ _ _)
  have hrow:=hm.row
  subst hrow
  have hsz:(w.alloc (.cells arr e)).heap.size=w.heap.size+1:=by show (w.heap.push _).size=_;simp
  have same:∀ {q f},X.l[q]? = some f→f.i=b.i→q=p∧f=b:=by
   intro q f hq he
   have:=hR.plan.nodup q p f b hq hN.at_ he
   subst this
   rw [hN.at_] at hq
   exact ⟨rfl,(Option.some.inj hq).symm⟩
  refine hK' _ _ (ρ.set (X.base+b.i) ⟨w.heap.size,0,0⟩) k ((X.base+b.i,.row cs e 0)::xs) ?_
  refine ⟨hI.hk,hI.last,fun e c h1 h2 h3=>.inl (hI.agN e c h1 h2 h3),fun e c h1 h2 h3 h4=>?_,fun q c r mk h1 h2 h3=>.inl (hI.ac4 q c r mk h1 h2 h3),?_,hI.RQ,fun q c r mk h1 h2 h3 h4=>?_,fun i r h1=>?_,fun q c h1 h2=>?_,?_,by rw [size_put];exact hI.size,?_,?_⟩
  ·rcases h4 with h4|h4
   ·exact hI.QG e c h1 h2 h3 h4
   ·obtain ⟨rfl,rfl⟩:=same h2 h4
    have:=h3.2
    omega
  ·refine ⟨Ren.le_trans hI.go.le k1,k2,hI.go.os,hI.go.tape,hI.go.output,by rw [hsz];have:=hI.go.grow;omega,?_,fun x hx hno=>?_,fun x hx=>?_,fun i hi=>?_⟩
   ·have:=hI.go.next
    rw [jX] at this ⊢
    exact this
   ·rw [k3 x (qai hx hI.go.grow)]
    exact hI.go.frame x hx hno
   ·rcases k4 x hx with h|h
    ·exact hI.go.own x h
    ·exact .inr (qat hI.go.grow h)
   ·rw [Ren.iJ]
    ·exact hI.go.old i hi
    ·omega
  ·by_cases e0:c.i=b.i
   ·obtain ⟨rfl,rfl⟩:=same h2 e0
    have:=h3.2.2
    rw [hev] at this
    cases this
    simp [qay]
   ·have:(X.base+c.i == X.base+b.i)=false:=by simp;omega
    simp only [qay,this]
    rcases h4 with h4|h4
    ·exact hI.atw q c r mk h1 h2 h3 h4
    ·exact absurd h4 e0
  ·by_cases e0:i=X.base+b.i
   ·subst e0
    simp [qay] at h1
    subst h1
    exact ⟨p,b,mk,hpk,hN.at_,amm,.inr rfl,rfl⟩
   ·have:(i == X.base+b.i)=false:=by simpa using e0
    simp only [qay,this] at h1
    obtain ⟨q,c,mk',g1,g2,g3,g4,g5⟩:=hI.xsOf i r h1
    exact ⟨q,c,mk',g1,g2,g3,.inl g4,g5⟩
  ·rw [Ren.iJ]
   ·exact hI.unused q c h1 fun hh=>h2 (.inl hh)
   ·intro he
    exact h2 (.inr (by omega))
  ·exact Inv.SX hR hI hN (ds:=[]) (df:=none) k1 hf hval hdst
  ·rw [iO]
   refine hI.defers.world k1 ?_
   rintro r ⟨h1,h2,h3⟩
   refine ⟨by rw [hsz];omega,fun hh=>?_,by rw [k3 r h1];exact h3⟩
   rcases k4 r hh with h|h
   ·exact h2 h
   ·omega
  ·exact fun d hd=>hI.wu d (by rw [iO] at hd;exact hd)
 |eff hg hc3 r v s' df hev haft hf hs free=>
  rw [hwant _ hg]
  have hb3:b.cls=3:=by omega
  have heff:Eff X frs p b:=⟨hg,hc3⟩
  have hpk:k≤p:=by
   rcases qau p k with h|h
   ·exact absurd (hI.agN p b h hN.at_ heff) hN.out
   ·exact h
  have hne:∀ q c,k≤q→q<k+(p-k)→X.l[q]? = some c→¬Eff X frs q c:=fun q c h1 h2 h3 h4=>
   hI.QG q c h1 h3 h4 (hN.before c.i (hR.plan.mem (show q<p by omega) h3 hN.at_ (by have:=h4.2;omega) (by rw [hb3])))
  have hmd:∀ q c r mk,k≤q→q<k+(p-k)→X.l[q]? = some c→vH X frs q c r mk→D c.i:=fun q c r mk h1 h2 h3 h4=>
   hN.before c.i (hR.plan.mem (show q<p by omega) h3 hN.at_ (by have:=h4.2.1;omega) (by rw [hb3]))
  have hs1:=hI.sub hR hft (d:=p-k) (by omega) hne hmd
  have azS:=(hR.advance (p-k) k (by omega) hne).2.2
  have hdef:=hR.Eo (p-k) k (by omega) hne
  rw [show k+(p-k)=p by omega] at hs1 azS hdef
  rw [←nS] at hev
  rw [hro] at haft
  refine anr hK hc hy (hr.sub hs1) he hev haft ?_
  intro ρ' w' c ds hgo hv hn
  rw [←hs] at hgo
  let keep:Nat→Bool:=fun i=>@decide (∃ q c,p+1≤q∧X.l[q]? = some c∧i=X.base+c.i) (Classical.propDecidable _)
  have hkeep:∀ i,keep i=true↔∃ q c,p+1≤q∧X.l[q]? = some c∧i=X.base+c.i:=fun i=>by
   show @decide _ (Classical.propDecidable _)=true↔_
   simp
  let xs':=xs.filter fun x=>keep x.1
  have hlook:∀ i,xs'.lookup i=if keep i then xs.lookup i else none:=fun i=>Vs keep xs i
  have same:∀ {q f},X.l[q]? = some f→f.i=b.i→q=p∧f=b:=by
   intro q f hq he
   have:=hR.plan.nodup q p f b hq hN.at_ he
   subst this
   rw [hN.at_] at hq
   exact ⟨rfl,(Option.some.inj hq).symm⟩
  have hext:=Goes.extend (S':=jH xs' (sts (p+1))) hs1 hr hgo (by rw [jX]) (by rw [Ag]) (fun i hx=>by
   rw [nG,nG,hlook]
   obtain ⟨hx1,hx2⟩:=hx
   rw [nG] at hx2
   cases hl:xs.lookup i with
   |some r'=>
    obtain ⟨q,c',mk,g1,g2,g3,g4,g5⟩:=hI.xsOf i r' hl
    have hq:p+1≤q:=by
     rcases qau q (p+1) with h|h
     ·exfalso
      by_cases e:q=p
      ·subst e
       rw [hN.at_] at g2
       cases g2
       have:=g3.2.1
       omega
      ·rcases azS i with ⟨q',b',r2,mk',e1,e2,e3,e4,e5,e6⟩|⟨e1,e2⟩
       ·rw [hx1] at e6;cases e6
       ·exact e1 q c' r' mk g1 (by omega) g2 g3 g5
     ·exact h
    rw [(hkeep i).2 ⟨q,c',hq,g2,g5⟩]
    rfl
   |none=>
    rw [hl] at hx2
    exfalso
    rcases azS i with ⟨q',b',r2,mk',e1,e2,e3,e4,e5,e6⟩|⟨e1,e2⟩
    ·rw [hx1] at e6;cases e6
    ·rw [hx1] at e2;exact hx2 e2.symm) (fun i hx=>by
   rw [nG,hlook]
   cases hkp:keep i with
   |false=>rfl
   |true=>
    cases hl:xs.lookup i with
    |none=>rfl
    |some r'=>
     exfalso
     obtain ⟨q,c',h1,h2,h3⟩:=(hkeep i).1 hkp
     obtain ⟨q2,c2,mk,g1,g2,g3,g4,g5⟩:=hI.xsOf i r' hl
     have:=hR.adS h2 g2 (h3▸g5)
     subst this
     rw [h2] at g2
     cases g2
     refine hx ⟨by rw [h3];exact hR.free p q c' (by omega) h2 g3.2.1,?_⟩
     rw [nG,hl]
     simp)
  refine hK' _ _ ρ' (p+1) xs' ?_
  refine ⟨by omega,.inr ⟨p,b,rfl,hN.at_,heff⟩,fun e c' h1 h2 h3=>?_,fun e c' h1 h2 h3 h4=>?_,fun q c' r mk h1 h2 h3=>?_,hI.go.trans hext,fun q c' h1=>?_,fun q c' r mk h1 h2 h3 h4=>?_,fun i r h1=>?_,fun q c' h1 h2=>?_,?_,by rw [size_put];exact hI.size,?_,?_⟩
  ·by_cases e0:e=p
   ·subst e0
    rw [hN.at_] at h2
    cases h2
    exact .inr rfl
   ·rcases qau e k with h|h
    ·exact .inl (hI.agN e c' h h2 h3)
    ·exact absurd h3 (hne e c' h (by omega) h2)
  ·rcases h4 with h4|h4
   ·exact hI.QG e c' (by omega) h2 h3 h4
   ·obtain ⟨rfl,rfl⟩:=same h2 h4
    omega
  ·by_cases e0:q=p
   ·subst e0
    rw [hN.at_] at h2
    cases h2
    have:=h3.2.1
    omega
   ·rcases qau q k with h|h
    ·exact .inl (hI.ac4 q c' r mk h h2 h3)
    ·exact .inl (hmd q c' r mk h (by omega) h2 h3)
  ·have h5:=hI.RQ q c' h1
   have h6:=hgo.next
   have h7:=hs1.next
   rw [jX] at h7
   omega
  ·rw [hlook,(hkeep _).2 ⟨q,c',h1,h2,rfl⟩]
   rcases h4 with h4|h4
   ·exact hI.atw q c' r mk (by omega) h2 h3 h4
   ·obtain ⟨rfl,rfl⟩:=same h2 h4
    omega
  ·rw [hlook] at h1
   cases hkp:keep i with
   |false=>rw [hkp] at h1;cases h1
   |true=>
    rw [hkp] at h1
    simp only [if_true] at h1
    obtain ⟨q,c',h3,h4,h5⟩:=(hkeep i).1 hkp
    obtain ⟨q2,c2,mk,g1,g2,g3,g4,g5⟩:=hI.xsOf i r h1
    have:=hR.adS h4 g2 (h5▸g5)
    subst this
    exact ⟨q,c2,mk,h3,g2,g3,.inl g4,g5⟩
  ·have:X.base+c'.i<(jH xs (sts k)).next:=by rw [jX];exact hI.RQ q c' h1
   rw [hext.old _ this]
   exact hI.unused q c' h1 fun hh=>h2 (.inl hh)
  ·exact Inv.SX hR hI hN hgo.le hf hv hdst
  ·rw [iO,hf,Fr.iO]
   show JI ρ' _ w' (moreL df (frs p).defers) _
   rw [hdef]
   exact (hI.defers.goes hext).more hn
  ·intro d hd r hr
   rw [iO] at hd
   rcases List.mem_append.1 hd with hd|hd
   ·exact absurd hr (hn.fn d hd r)
   ·exact hI.wu d hd r hr
end
end
end Go.Ax
namespace Go.Ax
variable [Lo]
open Go
noncomputable section
theorem XF {α:Type}(p q:α→Bool):∀ (l:List α),(∀ x∈l,q x=true→p x=true)→(∃ x∈l,p x=true∧q x=false)→l.countP q<l.countP p
 |[],_,h=>by obtain ⟨x,hx,_⟩:=h;cases hx
 |a::l,h1,h2=>by
  have hle:l.countP q≤l.countP p:=List.countP_mono_left fun x hx=>h1 x (by simp [hx])
  by_cases hpa:p a=true∧q a=false
  ·rw [qap hpa.1,qaz (by simp [hpa.2])]
   omega
  ·have hrest:∃ x∈l,p x=true∧q x=false:=by
    obtain ⟨x,hx,hh⟩:=h2
    rcases List.mem_cons.1 hx with rfl|hx
    ·exact absurd hh hpa
    ·exact ⟨x,hx,hh⟩
   have ih:=XF p q l (fun x hx=>h1 x (by simp [hx])) hrest
   by_cases hq:q a=true
   ·rw [qap hq,qap (h1 a (by simp) hq)];omega
   ·rw [qaz (by simpa using hq)]
    by_cases hp:p a=true
    ·rw [qap hp];omega
    ·rw [qaz (by simpa using hp)];exact ih
section
variable {P:Program} {B:Nat} {C:Cfg}
theorem zF.same {ρ:Ren}{s S:St}{w:World}(h:X6 s S){r:Nat}(hm:zF ρ s w r):zF ρ S w r:=
 ⟨hm.1,fun ho=>hm.2.1 (ho.sub h.symm.sub),hm.2.2⟩
theorem anO (hK:eX C P){call:gX}{yield:dS}(hc:uU P call)(hy:pz P yield)(hQ:qJ C call){ro:Option Nat}{mk:Option Nat}{m n nt:Nat}{ops:Array Oper}(hok:sG nt ops.toList=true)
  {order:List Nat} {Q:Exit→Act→World→Prop} {fr fr':Fr} {s s':St} {ρ:Ren} {a:Act} {w:World} (h:uj C call yield ro.isSome n ops.toList order fr s=some (fr',s'))
  (hr:HR P B ρ s w) (hf:FrR mk n nt ρ s w fr a) (hq:∀ ρ' w' a',Goes P B ρ s w ρ' s' w'→FrR mk n nt ρ' s' w' fr' a'→Q .normal a' w'):wpAnyIn (Fro ro) m P .any ops Q ops.size (qaG ops.size false) a w.drew:=by
 unfold uj at h
 obtain ⟨l,hpl,h⟩:=ah.1 h
 have aao:=ajQ hpl
 obtain ⟨frs,sts,f0,t0,f1,t1,hsteps,_⟩:=NK C call yield ro.isSome n ops.toList s.next hQ l true [] fr _ fr' s' h (fun _ x hx=>by cases hx)
 have hN:aQ ops.toList=ops.size:=by rw [aW];simp
 let X:agB:=⟨C,call,yield,ro.isSome,n,ops.toList,s.next,l⟩
 have hlow:∀ {p:Nat} {b:Info},l[p]? = some b→b.i<ops.size:=by
  intro p b hb
  have:=(List.getElem?_eq_some_iff.1 (aao.info p b hb).op).1
  simpa using this
 have hR:XR X frs sts:=by
  refine ⟨aao,hsteps,fun q b hb=>?_⟩
  rw [t0]
  show s.heap.get (s.next+b.i)=none
  cases hg:s.heap.get (s.next+b.i) with
  |none=>rfl
  |some r=>have:=hr.dO _ r hg;omega
 have hclosed:∀ {listed:Array Bool},(∀ j,listed.getD j false=true→∀ o,ops.toList[j]? = some o→∀ i,Binds o i→listed.getD i false=true)→
   ∀ i o,(fun j=>listed.getD j false=true) i→X.all[i]? = some o→∀ j,Binds o j→(fun j=>listed.getD j false=true) j:=fun h i o hi ho j hj=>h i hi o ho j hj
 have key:∀ (fuel:Nat) (listed:Array Bool) (a:Act) (w':World),listed.size=ops.size→(qa5 ops.size).countP (fun i=>!listed.getD i false)≤fuel→
   (∀ j,listed.getD j false=true→∀ o,ops.toList[j]? = some o→∀ i,Binds o i→listed.getD i false=true)→
   (∃ ρ' k xs,Inv mk P B X frs sts nt ρ s w (fun j=>listed.getD j false=true) a w' ρ' k xs)→wpAnyIn (Fro ro) m P .any ops Q fuel listed a w':=by
  have hfin:∀ (listed:Array Bool) (a:Act) (w':World),(∀ j,j<ops.size→listed.getD j false=true)→(∃ ρ' k xs,Inv mk P B X frs sts nt ρ s w (fun j=>listed.getD j false=true) a w' ρ' k xs)→Q .normal a w':=by
   rintro listed a w' hall ⟨ρ',k,xs,hI⟩
   have hkl:=hI.hk
   have hlen:k+(l.length-k)=l.length:=by have:k≤l.length:=hkl;omega
   have hne:∀ q b,k≤q→q<k+(l.length-k)→X.l[q]? = some b→¬Eff X frs q b:=fun q b h1 _ h3 h4=>hI.QG q b h1 h3 h4 (hall b.i (hlow h3))
   obtain ⟨a1,a2,a3⟩:=hR.advance (l.length-k) k (by rw [hlen];exact qao _) hne
   have hd:=hR.Eo (l.length-k) k (by rw [hlen];exact qao _) hne
   rw [hlen] at a1 a2 a3 hd
   have hsame:X6 (jH xs (sts k)) s':=by
    rw [←t1]
    refine ⟨by rw [jX,a1],by rw [Ag,a2],fun i=>?_⟩
    rw [nG]
    rcases a3 i with ⟨q,b,r,mk,e1,e2,e3,e4,e5,e6⟩|⟨e1,e2⟩
    ·have:=hI.atw q b r mk e1 e3 e4 (hall b.i (hlow e3))
     rw [e5,this,←e5,e6]
    ·rw [e2]
     cases hx:xs.lookup i with
     |none=>rfl
     |some r=>
      obtain ⟨q,b,mk,g1,g2,g3,g4,g5⟩:=hI.xsOf i r hx
      have:=(List.getElem?_eq_some_iff.1 g2).1
      exact absurd g5 (e1 q b r mk g1 this g2 g3)
   refine hq ρ' w' a (hI.go.same hsame) ⟨hI.size,fun t v hv=>?_,?_,hI.wu⟩
   ·rw [←f1] at hv
    exact hI.tmps t v l.length (qao _) (fun q b _ hb _=>hall b.i (hlow hb)) (fun q b h1 hb _=>by have:=(List.getElem?_eq_some_iff.1 hb).1;exact absurd this (Nat.not_lt.2 h1)) hv
   ·rw [←f1,hd]
    exact hI.defers.world (Ren.le_refl _) fun r hm=>hm.same hsame
  intro fuel
  induction fuel with
  |zero=>
   intro listed a w' hsz hcnt hcl hI
   have hall:∀ j,j<ops.size→listed.getD j false=true:=by
    intro j hj
    have:=List.countP_eq_zero.1 (Nat.le_zero.1 hcnt) j (List.mem_range.2 hj)
    simpa using this
   refine ⟨?_,hfin listed a w' hall hI⟩
   rw [List.eq_nil_iff_forall_not_mem]
   intro j hj
   obtain ⟨h1,o,h2,_⟩:=mem_ready.1 hj
   have hjl:=(Array.getElem?_eq_some_iff.1 h2).1
   have:=hall j hjl
   rw [qag] at this h1
   cases hq:listed[j]? with
   |none=>rw [hq] at this;cases this
   |some b=>rw [hq] at this h1;simp at this h1;rw [this] at h1;cases h1
  |succ fuel ih=>
   intro listed a w' hsz hcnt hcl hI
   refine ⟨fun hnil=>?_,fun i hi=>?_⟩
   ·refine hfin listed a w' ?_ hI
    intro j
    induction j using Nat.strongRecOn with
    |_ j ihj=>
     intro hj
     apply Classical.byContradiction
     intro hno
     obtain ⟨p,b,hb,rfl⟩:=aao.full j (by simpa using hj)
     have abW:=aao.info p b hb
     have hmem:b.i∈Region.ready .any ops listed:=by
      refine mem_ready.2 ⟨?_,b.op,by simpa using abW.op,fun e he axO=>?_⟩
      ·rw [qag] at hno ⊢
       have hx:listed[b.i]? = some listed[b.i]:=qaE (by omega)
       rw [hx] at hno ⊢
       simpa using hno
      ·have hlt:=abW.low e.on ⟨e,by simpa using he,axO,rfl⟩
       exact ihj e.on hlt (by omega)
     rw [hnil] at hmem
     cases hmem
   ·obtain ⟨h1,o,h2,h3⟩:=mem_ready.1 hi
    have hil:=(Array.getElem?_eq_some_iff.1 h2).1
    have hout:¬(listed.getD i false=true):=by
     rw [qag] at h1 ⊢
     have hx:listed[i]? = some listed[i]:=qaE (by omega)
     rw [hx] at h1 ⊢
     simp at h1
     simp [h1]
    obtain ⟨p,b,hb,rfl⟩:=aao.full i (by simpa using hil)
    have abW:=aao.info p b hb
    have hob:o=b.op:=by
     have:ops[b.i]? = some b.op:=by simpa using abW.op
     rw [h2] at this
     exact Option.some.inj this
    subst hob
    have aph:∀ j,Binds b.op j→listed.getD j false=true:=by
     rintro j ⟨e,he,axO,rfl⟩
     exact h3 e (by simpa using he) axO
    have hset:∀ j,(listed.setIfInBounds b.i true).getD j false=true↔(listed.getD j false=true∨j=b.i):=by
     intro j
     rw [qag,qag,qar]
     by_cases e:b.i=j
     ·subst e
      rw [if_pos rfl,if_pos (by omega)]
      simp
     ·rw [if_neg e]
      constructor
      ·exact fun h=>.inl h
      ·rintro (h|h)
       ·exact h
       ·exact absurd h.symm e
    obtain ⟨ρ',k,xs,hI⟩:=hI
    have hN':Now X frs (fun j=>listed.getD j false=true) p b:=Now.mk' (X:=X) aao (hclosed hcl) hb hout aph
    refine Inv.step (X:=X) hK hc hy (m:=m) (ops:=ops) (Q:=Q) rfl rfl hok hR hr.next rfl hI hN' ?_
    intro a' w'' ρ'' k' xs' hI'
    refine ih _ _ _ (by simpa using hsz) ?_ ?_ ⟨ρ'',k',xs',?_⟩
    ·have:=XF (fun i=>!listed.getD i false) (fun i=>!(listed.setIfInBounds b.i true).getD i false) (qa5 ops.size) (fun x _ hx=>by
      simp only [qaH] at hx ⊢
      rw [←qan] at hx ⊢
      exact fun hh=>hx ((hset x).2 (.inl hh))) ⟨b.i,List.mem_range.2 hil,by simpa using hout,by simp only [Bool.not_eq_false'];exact (hset b.i).2 (.inr rfl)⟩
     omega
    ·intro j hj o' ho' i hi'
     rw [hset] at hj ⊢
     rcases hj with hj|hj
     ·exact .inl (hcl j hj o' ho' i hi')
     ·subst hj
      have:o'=b.op:=by rw [abW.op] at ho';exact (Option.some.inj ho').symm
      subst this
      exact .inl (aph i hi')
    ·have e:(fun j=>(listed.setIfInBounds b.i true).getD j false=true)=(fun j=>listed.getD j false=true∨j=b.i):=funext fun j=>propext (hset j)
     rw [e]
     exact hI'
 have hd0:∀ j,¬((qaG ops.size false).getD j false=true):=by
  intro j
  rw [qag,Array.getElem?_replicate]
  split <;> simp
 have hgo:Goes P B ρ s w ρ (jH [] (sts 0)) w.drew:=by
  rw [t0]
  have h1:=Goes.drew hr (w.drawn+1)
  exact h1.trans (Goes.bump h1.hr (aQ ops.toList))
 refine key ops.size _ a w.drew (by simp) ?_ (fun j hj=>absurd hj (hd0 j)) ⟨ρ,0,[],?_⟩
 ·exact qat List.countP_le_length (by simp)
 ·refine ⟨qaZ _,.inl rfl,fun e b he=>by omega,fun e b _ _ _=>hd0 _,fun q b r mk hq=>by omega,hgo,fun q b hb=>?_,fun q b r mk _ _ _ hD=>absurd hD (hd0 _),fun i r hi=>by simp at hi,fun q b hb _=>?_,fun t v p hp h1 h2 hv=>?_,hf.size,?_,hf.wu⟩
  ·rw [t0]
   show s.next+b.i<s.next+aQ ops.toList
   have:=hlow hb
   omega
  ·cases hg:ρ (X.base+b.i) with
   |none=>rfl
   |some q=>have:=(hr.dom _ q hg).2.1;have e:X.base=s.next:=rfl;omega
  ·have e:=hR.UO (t:=t) p 0 (by omega) (fun q b _ hq hb hd=>hd0 _ (h1 q b (by omega) hb hd))
   rw [Nat.zero_add,f0] at e
   rw [e] at hv
   exact hf.tmps t v hv
  ·rw [f0]
   exact hf.defers.goes hgo
theorem arB (hK:eX C P){call:gX}{yield:dS}(hc:uU P call)(hy:pz P yield)(hQ:qJ C call)(ayh:P.follows .mixedOrders=true){ro:Option Nat}{mk:Option Nat}{m n nt:Nat}{ops:Array Oper}(hok:sG nt ops.toList=true)
  {id:Nat} {order:List Nat} {Q:Exit→Act→World→Prop} {fr fr':Fr} {s s':St} {ρ:Ren} {a:Act} {w:World} (h:uj C call yield ro.isSome n ops.toList order fr s=some (fr',s'))
  (hr:HR P B ρ s w) (hf:FrR mk n nt ρ s w fr a) (hq:∀ ρ' w' a',Goes P B ρ s w ρ' s' w'→FrR mk n nt ρ' s' w' fr' a'→Q .normal a' w'):(Code.region id ops true).wpIn (Fro ro) m P Q a w:=
 wpIn_region_any ayh (anO hK hc hy hQ hok h hr hf hq)
end
end
end Go.Ax
namespace Go.Ax
variable [Lo]
open Go
noncomputable section
theorem ac6 {a b c:Nat}(h:ltN a b=true)(hb:b≤c):ltN a c=true:=by
 rw [oN] at *
 simp at *
 omega
theorem aff {n m:Nat}(hm:n≤m){d:Option Tmp}(h:WL n d=true):WL m d=true:=by
 cases d with
 |none=>rfl
 |some d=>exact ac6 h hm
theorem Jp {n m:Nat}(hm:n≤m):∀ {l:List Oper},sG n l=true→sG m l=true
 |[],_=>rfl
 |o::l,h=>by
  change sel (Jr n o) (sG n l) false=true at h
  show sel (Jr m o) (sG m l) false=true
  rw [aG] at *
  split at h
  ·rename_i ho
   obtain ⟨h1,h2⟩:=yM ho
   rw [if_pos (by unfold Jr;rw [aff hm h1,h2];rfl)]
   exact Jp hm h
  ·cases h
theorem Eb {n m:Nat}(hm:n≤m):∀ {l:List Nat},I7 n l=true→I7 m l=true
 |[],_=>rfl
 |o::l,h=>by
  change sel (ltN o n) (I7 n l) false=true at h
  show sel (ltN o m) (I7 m l) false=true
  rw [aG] at *
  split at h
  ·rename_i ho
   rw [if_pos (ac6 ho hm)]
   exact Eb hm h
  ·cases h
theorem dG {a b:Bool}(h:sel a b false=true):a=true∧b=true:=by cases a <;> simp [sel] at h ⊢;exact h
theorem Nz {n m:Nat}(hm:n≤m):∀ {c:Code},qg n c=true→qg m c=true:=by
 intro c
 induction c with
 |skip=>exact fun _=>rfl
 |region id ops d=>exact fun h=>Jp hm h
 |seq a b iha ihb=>intro h;obtain ⟨h1,h2⟩:=dG h;show sel (qg m a) (qg m b) false=true;rw [iha h1];exact ihb h2
 |cond c a b iha ihb=>
  intro h
  obtain ⟨h0,h⟩:=dG h
  obtain ⟨h1,h2⟩:=dG h
  show sel (Jk c) (sel (qg m a) (qg m b) false) false=true
  rw [h0,iha h1];exact ihb h2
 |block id a iha=>exact fun h=>iha h
 |loop a iha=>exact fun h=>iha h
 |rangeFunc f ps a b iha ihb=>
  intro h
  obtain ⟨h0,h⟩:=dG h
  obtain ⟨h1,h2⟩:=dG h
  simp only [qac] at h0
  show sel (Jk f&&I7 m ps.toList) (sel (qg m a) (qg m b) false) false=true
  rw [h0.1,Eb hm h0.2,iha h1];exact ihb h2
 |exit id=>exact fun _=>rfl
 |scope a iha=>exact fun h=>iha h
 |label l=>exact fun _=>rfl
 |goto l=>exact fun _=>rfl
 |ret=>exact fun _=>rfl
 |refuse w=>exact fun _=>rfl
section
variable {P:Program} {B:Nat} {C:Cfg}
theorem FrR.fresh {mk:Option Nat}{n nt:Nat}{ρ:Ren}{s:St}{w:World}{fr:Fr}{a:Act}(hf:FrR mk n nt ρ s w fr a):FrR mk n nt ρ s w fr.fresh a:=by
 refine ⟨hf.size,fun t v ht=>?_,hf.defers,hf.wu⟩
 unfold Fr.get at ht
 rw [aG] at ht
 split at ht
 ·rename_i hlt
  refine hf.tmps t v ?_
  unfold Fr.get
  rw [hlt]
  exact ht
 ·cases ht
theorem ahQ (f:Run)(k:Nat)(fr:Fr)(s:St):iter f (k+1) fr s=aj (f fr s) (ni (iter f k)):=rfl
theorem JI.marks {ρ:Ren}{s:St}{w:World}{l:List (FuncId × List Value)}{ds:List Deferred}(h:JI ρ s w l ds):∀ d∈ds,∀ q,d.target = .collected q→zF ρ s w q:=by
 induction h with
 |nil=>intro d hd;cases hd
 |cons ht ha hv _ ih=>
  intro d hd q hq
  rcases List.mem_cons.1 hd with rfl|hd
  ·rw [ht] at hq;cases hq
  ·exact ih d hd q hq
 |mark hm hlt _ ih=>
  intro d hd q hq
  rcases List.mem_cons.1 hd with rfl|hd
  ·cases hq;exact hm
  ·exact ih d hd q hq
theorem aeR {o:anE}{r:Ee}(h:o.awf=some r):o = .loop r:=by
 cases o with
 |loop q=>cases h;rfl
 |iter q=>cases h
theorem Jz {s:St}{l:Nat}{r:Ee}(h:Ax.getLoop s l=some r):s.heap.get l=some (.loop (.loop r)):=by
 unfold Ax.getLoop at h
 split at h
 ·rename_i o ho
  rw [aeR h] at ho
  exact ho
 ·cases h
theorem tV {ρ:Ren}{s:St}{w:World}(h:HR P B ρ s w){l:Nat}{r:Ee}(hg:Ax.getLoop s l=some r):∃ loc q,ρ l=some loc∧s.tag l=some (0,l)∧w.heap[loc.blk]? = some (.loop q)∧Yk ρ r q:=by
 have:=Jz hg
 obtain ⟨loc,h1,q,h2,h3⟩:=h.loops l _ this
 cases h3 with
 |loop h3=>exact ⟨loc,_,h1,kR this,h2,h3⟩
theorem rD {ρ:Ren}{s:St}{w:World}(h:HR P B ρ s w){l:Nat}{r:Ee}(hg:Ax.getLoop s l=some r){loc:Loc}{q:Loop}(hl:ρ l=some loc)(hq:Yk ρ r q)(st:LoopState)(pe:Option Code) :
  Goes P B ρ s w ρ (uK s l r st pe) (w.putObj loc.blk (.loop { q with state:=st,pending:=pe })):=by
 have:=Jz hg
 exact Goes.putObj h (kR this) hl (.inr ⟨_,rfl,.loop ⟨rfl,rfl,hq.vars,hq.params,hq.assign,hq.body,hq.code⟩⟩)
theorem Xf {fn:FuncId}{rd:Bool}{body:Code}{it:Run}{fr:Fr}{s:St}{r:Ex × Fr × St}(h:sJ C fn rd body it fr s=some r) :
  it fr s=some r∨(rd=false∧∃ F,C.MQ fn (jR body)=some F∧(F fr s).run=some r):=by
 unfold sJ at h
 cases rd with
 |true=>exact .inl h
 |false=>
  rw [aP] at h
  cases hF:C.MQ fn (jR body) with
  |none=>rw [hF] at h;exact .inl h
  |some F=>
   rw [hF] at h
   have h:Option.casesOn (F fr s).run (it fr s) some=some r:=h
   cases hr:(F fr s).run with
   |none=>rw [hr] at h;exact .inl h
   |some q=>rw [hr] at h;have h:some q=some r:=h;cases h;exact .inr ⟨rfl,F,rfl,hr⟩
theorem Oy (hK:eX C P){call:gX}{yield:dS}(hc:uU P call)(hy:pz P yield)(hQ:qJ C call)(ayh:P.follows .mixedOrders=true){ro:Option Nat}{m n nt:Nat}{mk:Option Nat}{fn:FuncId}{c0:Code}(hLp:ro=none→n=C.vars fn∧∀ body,PartOf c0 (.loop body)→uX P C fn body) :
  ∀ (c:Code),PartOf c0 c→qg nt c=true→(mk=none→GZ c=true)→∀ (fr:Fr) (s:St) (e:Ex) (fr':Fr) (s':St) (ρ:Ren) (a:Act) (w:World) (Q:Exit→Act→World→Prop),
   exec C call yield n fn ro.isSome c fr s=some (e,fr',s')→HR P B ρ s w→FrR mk n nt ρ s w fr a→(∀ k,mk=some k→k≤w.heap.size)→
   (∀ ρ' w' a',Goes P B ρ s w ρ' s' w'→FrR mk n nt ρ' s' w' fr' a'→Q (exq e) a' w')→c.wpIn (Fro ro) m P Q a w:=by
 intro c
 induction c with
 |skip=>
  intro _ _ _ fr s e fr' s' ρ a w Q h hr hf hlo hq
  cases h
  exact wpIn_skip (hq ρ w a (Goes.refl hr) hf)
 |region id ops d=>
  intro _ hok _ fr s e fr' s' ρ a w Q h hr hf hlo hq
  change aj (sel d (uj C call yield ro.isSome n ops.toList (C.order fn id) fr.fresh s) (qG C call yield ro.isSome n ops.toList ops.toList fr.fresh s)) (fun r=>some (Ex.normal,r))=some (e,fr',s') at h
  obtain ⟨⟨fr2,s2⟩,hd,h⟩:=ah.1 h
  cases h
  cases d with
  |true=>exact arB hK hc hy hQ ayh hok hd hr hf.fresh hq
  |false=>
   refine wpIn_region ?_
   rw [qaP]
   have:=ah6 hK hc hy (m:=m) (Q:=Q) hok ops.toList 0 rfl fr.fresh s _ _ ρ a w hd hr hf.fresh hq
   simpa using this
 |seq x y ihx ihy=>
  intro hp hok hnr fr s e fr' s' ρ a w Q h hr hf hlo hq
  obtain ⟨o1,o2⟩:=dG hok
  change aj (exec C call yield n fn ro.isSome x fr s) (ni (exec C call yield n fn ro.isSome y))=some (e,fr',s') at h
  obtain ⟨⟨e1,fr1,s1⟩,h1,h2⟩:=ah.1 h
  refine wpIn_seq (ihx hp.azC o1 (fun hm=>(dG (hnr hm)).1) fr s e1 fr1 s1 ρ a w _ h1 hr hf hlo ?_)
  intro ρ1 w1 a1 hg1 hf1
  cases e1 with
  |normal=>exact ihy hp.azD o2 (fun hm=>(dG (hnr hm)).2) fr1 s1 e fr' s' ρ1 a1 w1 Q h2 hg1.hr hf1 (fun k hk=>qat (hlo k hk) hg1.grow) fun ρ2 w2 a2 hg2 hf2=>hq ρ2 w2 a2 (hg1.trans hg2) hf2
  |exit id=>cases h2;exact hq ρ1 w1 a1 hg1 hf1
  |ret=>cases h2;exact hq ρ1 w1 a1 hg1 hf1
 |cond x y z ihy ihz=>
  intro hp hok hnr fr s e fr' s' ρ a w Q h hr hf hlo hq
  obtain ⟨o0,o1⟩:=dG hok
  obtain ⟨o1,o2⟩:=dG o1
  change aj (fr.ev n x) (yD (exec C call yield n fn ro.isSome y) (exec C call yield n fn ro.isSome z) fr s)=some (e,fr',s') at h
  obtain ⟨v,hv,h⟩:=ah.1 h
  have hvr:=V9 (ρ:=ρ) (a:=a) o0 (fun t u _ hu=>hf.tmps t u hu) hv
  unfold yD at h
  split at h
  ·rename_i b
   generalize hav:a.eval x=av at hvr
   cases hvr
   rw [aG] at h
   refine wpIn_cond hav ?_
   cases b with
   |true=>exact ihy hp.aq0 o1 (fun hm=>(dG (hnr hm)).1) fr s e fr' s' ρ a w Q h hr hf hlo hq
   |false=>exact ihz hp.ap7 o2 (fun hm=>(dG (hnr hm)).2) fr s e fr' s' ρ a w Q h hr hf hlo hq
  ·cases h
 |block id x ihx=>
  intro hp hok hnr fr s e fr' s' ρ a w Q h hr hf hlo hq
  change aj (exec C call yield n fn ro.isSome x fr s) (y8 id)=some (e,fr',s') at h
  obtain ⟨⟨e1,fr1,s1⟩,h1,h2⟩:=ah.1 h
  refine wpIn_block (ihx hp.block hok hnr fr s e1 fr1 s1 ρ a w _ h1 hr hf hlo ?_)
  intro ρ1 w1 a1 hg1 hf1
  cases e1 with
  |normal=>cases h2;exact hq ρ1 w1 a1 hg1 hf1
  |ret=>cases h2;exact hq ρ1 w1 a1 hg1 hf1
  |exit id'=>
   change sel (qah id id') (some (Ex.normal,fr1,s1)) (some (Ex.exit id',fr1,s1))=some (e,fr',s') at h2
   rw [aG] at h2
   show (if id'=id then Q .normal a1 w1 else Q (.exit id') a1 w1)
   by_cases hid:id'=id
   ·rw [if_pos hid]
    rw [if_pos (by rw [hid];exact Nat.beq_refl _)] at h2
    cases h2
    exact hq ρ1 w1 a1 hg1 hf1
   ·rw [if_neg hid]
    rw [if_neg (fun hh=>hid (qaa hh).symm)] at h2
    cases h2
    exact hq ρ1 w1 a1 hg1 hf1
 |loop x ihx=>
  intro hp hok hnr fr s e fr' s' ρ a w Q h hr hf hlo hq
  change sJ C fn ro.isSome x (iter (exec C call yield n fn ro.isSome x) 100000) fr s=some (e,fr',s') at h
  rcases Xf h with h2|⟨hro,F,hF,h2⟩
  case inr=>
   have aBK:ro=none:=by cases ro with
    |none=>rfl
    |some l=>cases hro
   subst aBK
   obtain ⟨hn,hL⟩:=hLp rfl
   subst hn
   exact hL x hp F hF fr s e fr' s' h2 B ρ a w mk m nt Q hok hnr hr hf hlo hq
  replace h:=h2
  refine wpIn_loop_rounds 100000 ?_
  have key:∀ (k:Nat) (fr2:Fr) (s2:St) (ρ1:Ren) (a1:Act) (w1:World),iter (exec C call yield n fn ro.isSome x) k fr2 s2=some (e,fr',s')→Goes P B ρ s w ρ1 s2 w1→FrR mk n nt ρ1 s2 w1 fr2 a1→Code.roundsIn (Fro ro) m P x Q k a1 w1:=by
   intro k
   induction k with
   |zero=>intro fr2 s2 ρ1 a1 w1 h;cases h
   |succ k ih=>
    intro fr2 s2 ρ1 a1 w1 h hg hf
    rw [ahQ] at h
    obtain ⟨⟨e1,fr1,s1⟩,h1,h2⟩:=ah.1 h
    rw [roundsIn_succ]
    refine ihx hp.loop hok hnr fr2 s2 e1 fr1 s1 ρ1 a1 w1 _ h1 hg.hr hf (fun k hk=>qat (hlo k hk) hg.grow) ?_
    intro ρ2 w2 a2 hg2 hf2
    cases e1 with
    |normal=>exact ih fr1 s1 ρ2 a2 w2 h2 (hg.trans hg2) hf2
    |exit id=>cases h2;exact hq ρ2 w2 a2 (hg.trans hg2) hf2
    |ret=>cases h2;exact hq ρ2 w2 a2 (hg.trans hg2) hf2
  exact key 100000 fr s ρ a w h (Goes.refl hr) hf
 |rangeFunc f ps x y ihx ihy=>
  intro hp hok hnr fr s e fr' s' ρ a w Q h hr hf hlo hq
  obtain ⟨o0,o1⟩:=dG hok
  obtain ⟨o1,o2⟩:=dG o1
  simp only [qac] at o0
  obtain ⟨lo,hmk⟩:∃ lo,mk=some lo:=by
   cases mk with
   |some lo=>exact ⟨lo,rfl⟩
   |none=>exact absurd (hnr rfl) (by simp [GZ])
  cases ro with
  |some l=>cases h
  |none=>
   change aj (fr.ev n f) (fun fv=>rangeCall C call fr (qaj s.next) fv
    { heap:=(s.heap.set s.next .other).set (qaj s.next) (.loop (.loop { state:=.ready,pending:=none,fn:=fn,vars:=fr.vars,params:=ps.toList,assign:=x,body:=y,n:=n })),bZ:=s.bZ,next:=qaj (qaj s.next) })=some (e,fr',s') at h
   obtain ⟨fv,hfv,h⟩:=ah.1 h
   have hvr:=V9 (ρ:=ρ) (a:=a) o0.1 (fun t u _ hu=>hf.tmps t u hu) hfv
   unfold rangeCall at h
   obtain ⟨rr,hinv,h⟩:=ah.1 h
   split at h
   ·rename_i g args s2
    obtain ⟨⟨v,s3⟩,hcall,h⟩:=ah.1 h
    obtain ⟨r,hgl,hend⟩:=ah.1 h
    clear h
    refine wpIn_rangeFunc ?_
    intro fn' _
    have g1:=Goes.an6 hr (.deferred (some []))
    have hw1:(w.alloc (.deferred (some []))).heap.size=w.heap.size+1:=by show (w.heap.push _).size=_;simp
    let q:Loop:={ state:=.ready,pending:=none,fn:=fn',tmps:=a.tmps,params:=ps,assign:=x,body:=y,defers:=w.heap.size }
    have hloop:Yk (ρ.set s.next ⟨w.heap.size,0,0⟩) { state:=.ready,pending:=none,fn:=fn,vars:=fr.vars,params:=ps.toList,assign:=x,body:=y,n:=n } q:=by
     refine ⟨rfl,rfl,?_,rfl,rfl,rfl,Nz hf.size o1,Nz hf.size o2,Eb hf.size o0.2⟩
     intro t u ht hu
     refine VR.mono (Ren.Dz hr _) (hf.tmps t u ?_)
     unfold Fr.get
     rw [oN]
     simp only [ht,decide_true]
     exact hu
    have g2:=Goes.aq5 g1.hr hloop
    rw [hw1] at g2
    have g12:=g1.trans g2
    have hyv:VR ((ρ.set s.next ⟨w.heap.size,0,0⟩).set (qaj s.next) ⟨w.heap.size+1,0,0⟩) (.func (.yield (qaj s.next)) #[] #[]) (.func (.yield (w.heap.size+1)) #[] #[]):=by
     exact .func (.yield (q:=⟨w.heap.size+1,0,0⟩) (Ren.dQ _ _ _)) .nil .nil
    have az0:=hvr.mono g12.le
    have hs:=Jj hK g2.hr az0 (VRs.cons hyv .nil) hinv
    have post:∀ (aZ:List Value),VRs ((ρ.set s.next ⟨w.heap.size,0,0⟩).set (qaj s.next) ⟨w.heap.size+1,0,0⟩) args aZ→s2={ heap:=(s.heap.set s.next .other).set (qaj s.next) (.loop (.loop { state:=.ready,pending:=none,fn:=fn,vars:=fr.vars,params:=ps.toList,assign:=x,body:=y,n:=n })),bZ:=s.bZ,next:=qaj (qaj s.next) }→
      CallsIn (Fro none) (m-1) P g ⟨aZ⟩ ((w.alloc (.deferred (some []))).alloc (.loop q)) (rangePost (Fro none) m P (w.heap.size+1) Q { a with defers:=[{ target:=.collected w.heap.size,args:=#[] }]++a.defers }):=by
     rintro aZ hargs rfl
     refine Mc ((hc g args _ v s3 hcall B _ _ aZ g2.hr hargs).mono ?_)
     rintro e3 w3 ⟨cv,ρ3,rfl,g3,hv3⟩
     obtain ⟨loc,q3,l1,l2,l3,l4⟩:=tV g3.hr hgl
     have hloc:loc=⟨w.heap.size+1,0,0⟩:=by
      have:=g3.le _ _ (Ren.dQ (ρ.set s.next ⟨w.heap.size,0,0⟩) (qaj s.next) ⟨w.heap.size+1,0,0⟩)
      rw [l1] at this
      exact Option.some.inj this
     subst hloc
     unfold IJ at hend
     obtain ⟨hnb,h⟩:=au.1 hend
     clear hend
     have azp:q3.state ≠ .busy:=by
      rw [l4.state]
      intro e0
      rw [e0] at hnb
      cases hnb
     have g4:=rD g3.hr hgl l1 l4 .exhausted r.pending
     have g0:=(g12.trans g3).trans g4
     have auW:zF (ρ.set s.next ⟨w.heap.size,0,0⟩) { heap:=s.heap.set s.next .other,bZ:=s.bZ,next:=qaj s.next } (w.alloc (.deferred (some []))) w.heap.size:=by
      refine ⟨by rw [hw1];omega,?_,alloc_at _ _⟩
      rintro ⟨i,l,t,e1,e2,e3,e4⟩
      by_cases ei:i=s.next
      ·subst ei
       unfold St.tag at e2
       rw [Hp.get_set_same] at e2
       cases e2
      ·rw [Ren.iJ ρ _ ei] at e3
       have:=(hr.dom i l e3).2.2.2
       omega
     have hmark:=zF.goes ((g2.trans g3).trans g4) auW
     have hfr:FrR mk n nt ρ3 (uK s3 (qaj s.next) r .exhausted r.pending) (w3.putObj (w.heap.size+1) (.loop { q3 with state:=.exhausted,pending:=r.pending })) fr { a with defers:=[{ target:=.collected w.heap.size,args:=#[] }]++a.defers }:=by
      have h5:=hf.goes g0
      refine ⟨h5.size,h5.tmps,?_,fun d hd r hr'=>?_⟩
      rotate_left
      ·rcases List.mem_cons.1 hd with rfl|hd
       ·cases hr';exact ⟨lo,hmk,hlo lo hmk⟩
       ·exact h5.wu d hd r hr'
      refine .mark hmark (fun d hd r hr'=>?_) h5.defers
      exact (hf.defers.marks d hd r hr').1
     have hrun:=run_endLoop (P:=P) l3 azp
     have aqT:({ q3 with state:=.exhausted }:Loop)={ q3 with state:=.exhausted,pending:=r.pending }:=by rw [←l4.pending]
     rw [aqT,l4.pending] at hrun
     refine ⟨r.pending,_,hrun,?_⟩
     split at h
     ·rename_i hp
      rw [hp]
      rw [hp] at h
      cases h
      rw [hp] at hfr g0
      exact hq _ _ _ g0 hfr
     ·rename_i hp
      rw [hp]
      rw [hp] at h
      cases h
      rw [hp] at hfr g0
      exact wpIn_ret (hq _ _ _ g0 hfr)
     ·rename_i id hp
      rw [hp]
      rw [hp] at h
      cases h
      rw [hp] at hfr g0
      exact wpIn_exit (hq _ _ _ g0 hfr)
     ·cases h
    generalize hcf:a.eval f=cf at az0 hs
    cases az0 with
    |@func f1 f2 a1 a2 b1 b2 hff h1 h2=>
     simp only [Deferred.ofValue,qad,qaf,qab] at hs
     obtain ⟨hs2,aZ,hrun,hargs⟩:=hs
     refine ⟨w.heap.size+1,[{ target:=.collected w.heap.size,args:=#[] }],_,{ target:=.fn f2 ⟨b2⟩,args:=⟨a2⟩++#[.func (.yield (w.heap.size+1)) #[] #[]] },_,g,⟨aZ⟩,_,
      run_enterLoop_outer fn' a.tmps ps x y,?_,fun _ _=>trivial,hrun,(fun h=>by cases h),trivial,(post aZ hargs hs2).2⟩
     show qaq P (Deferred.ofValue (a.eval f) (#[Operand.const (.func (.yield (w.heap.size+1)) #[] #[])].map a.eval)) _=_
     rw [hcf]
     have e0:(#[Operand.const (.func (.yield (w.heap.size+1)) #[] #[])].map a.eval)=#[.func (.yield (w.heap.size+1)) #[] #[]]:=by simp [Act.eval]
     rw [e0]
     rfl
    |_=>cases hinv
   ·cases h
 |exit id=>
  intro _ _ _ fr s e fr' s' ρ a w Q h hr hf hlo hq
  cases h
  exact wpIn_exit (hq ρ w a (Goes.refl hr) hf)
 |scope x ihx=>
  intro hp hok hnr fr s e fr' s' ρ a w Q h hr hf hlo hq
  cases ro with
  |some l=>cases h
  |none=>
   change exec C call yield n fn false x fr s=some (e,fr',s') at h
   have:=ihx hp.scope hok hnr fr s e fr' s' ρ a w (Exit.noGoto Q) h hr hf hlo (fun ρ' w' a' hg hf'=>by
    have:=hq ρ' w' a' hg hf'
    cases e <;> exact this)
   exact (wpIn_wide (n:=m)).2 (wp_scope_straight ((wpIn_wide (n:=m)).1 this))
 |label l=>
  intro _ _ _ fr s e fr' s' ρ a w Q h hr hf hlo hq
  cases h
  exact wpIn_label (hq ρ w a (Goes.refl hr) hf)
 |goto l=>
  intro _ _ _ fr s e fr' s' ρ a w Q h hr hf hlo hq
  cases h
 |ret=>
  intro _ _ _ fr s e fr' s' ρ a w Q h hr hf hlo hq
  cases h
  exact wpIn_ret (hq ρ w a (Goes.refl hr) hf)
 |refuse why=>
  intro _ _ _ fr s e fr' s' ρ a w Q h hr hf hlo hq
  cases h
end
end
end Go.Ax
namespace Go.Ax
variable [Lo]
open Go
noncomputable section
section
variable {P:Program} {B:Nat} {C:Cfg}
theorem J4 {n:Nat}{ρ:Ren}{s:St}{w:World}{fr:Fr}{tmps:Array Value}(h:HR P B ρ s w)(ht:∀ t v,fr.get n t=some v→VR ρ v (tmps.getD t undef)) :
  ∀ {l:List ResultVar} {vs:List Value},results P n fr s l=some vs→∃ cs,(l.mapM (m:=Sem) fun
   |.tmp t=>pure (tmps.getD t undef)
   |.cell a t=>do loadVar t (←asAddr (tmps.getD a undef))).run P w = .ok cs w∧VRs ρ vs cs
 |[],vs,hr=>by
  cases hr
  exact ⟨[],by simp,.nil⟩
 |r::l,vs,hr=>by
  change aj (aee P n fr s r) (fun v=>aj (results P n fr s l) fun vs=>some (v::vs))=some vs at hr
  obtain ⟨v,hv,hr⟩:=ah.1 hr
  obtain ⟨vs',hvs,hr⟩:=ah.1 hr
  cases hr
  obtain ⟨cs,h1,h2⟩:=J4 h ht hvs
  cases r with
  |tmp t=>
   refine ⟨tmps.getD t undef::cs,?_,.cons (ht t v hv) h2⟩
   simp only [qa7,qad,qaf,qab,h1]
  |cell a t=>
   obtain ⟨u,hu,hv⟩:=ah.1 hv
   have hvu:=ht a u hu
   split at hv
   ·generalize hcq:tmps.getD a undef=c at hvu
    cases hvu with
    |@ptr b0 o0 l0 hl=>
     obtain ⟨c,h3,h4⟩:=Cj h hl hv
     refine ⟨c::cs,?_,.cons h4 h2⟩
     have hA:(asAddr (tmps.getD a undef)).run P w = .ok ⟨l0.blk,l0.off+o0,none⟩ w:=by rw [hcq];rfl
     simp only [qa7,qad,hA,qaf,qab]
     rw [h3]
     simp only [qab,h1]
   ·cases hv
theorem yQ {n:Nat}{ρ:Ren}{s:St}{w:World}{fr:Fr}{tmps:Array Value}{fn:Func}(h:HR P B ρ s w)(ht:∀ t v,fr.get n t=some v→VR ρ v (tmps.getD t undef)){vs:List Value}(hr:results P n fr s fn.results.toList=some vs) :
  ∃ c,(Go.results fn tmps).run P w = .ok c w∧VR ρ (Ax.tuple vs) c:=by
 obtain ⟨cs,h1,h2⟩:=J4 h ht hr
 have hm:(Go.results fn tmps).run P w = .ok (if h:(cs.toArray).size=1 then (cs.toArray)[0] else .tuple cs.toArray) w:=by
  unfold Go.results
  rw [Array.mapM_eq_mapM_toList]
  simp only [map_eq_pure_bind,bind_assoc,pure_bind]
  rw [qad]
  erw [h1]
  simp only [qab,qaf]
 refine ⟨_,hm,?_⟩
 match vs,cs,h2 with
 |[],_,.nil=>simpa [Ax.tuple] using VR.tuple (ρ:=ρ) .nil
 |[v],_,.cons hv .nil=>simpa [Ax.tuple] using hv
 |v::u::vs,_,.cons hv (.cons hu hl)=>simpa [Ax.tuple] using VR.tuple (VRs.cons hv (.cons hu hl))
theorem Pg:∀ (vs:List Value) (i:Nat) (t:Tr Value) (k:Nat),(UA vs i t).get k=if i≤k∧k<i+vs.length then vs[k-i]? else t.get k
 |[],i,t,k=>by
  show t.get k=_
  rw [if_neg (by simp)]
 |v::vs,i,t,k=>by
  show (UA vs (i+1) (t.set i v)).get k=_
  rw [Pg vs (i+1)]
  by_cases h:i+1≤k∧k<i+1+vs.length
  ·rw [if_pos h,if_pos (by simp;omega)]
   rw [show k-i=(k-(i+1))+1 by omega]
   rfl
  ·rw [if_neg h,Tr.jv]
   by_cases e:k=i
   ·subst e
    rw [if_pos rfl,if_pos (by simp)]
    simp
   ·rw [if_neg e,if_neg (by simp;omega)]
theorem VD {n nt:Nat}{ρ:Ren}{s:St}{w:World}{args aZ:List Value}(ha:VRs ρ args aZ)(mk:Option Nat):FrR mk n nt ρ s w (qH args) { tmps:=⟨aZ⟩++qaG (nt-(⟨aZ⟩:Array Value).size) undef,defers:=[] }:=by
 refine ⟨by simp;omega,fun t v ht=>?_,.nil,fun d hd=>by cases hd⟩
 unfold Fr.get at ht
 rw [aG] at ht
 split at ht
 ·change (UA args 0 .e).get t=some v at ht
  rw [Pg] at ht
  split at ht
  ·rename_i hh
   obtain ⟨c,h1,h2⟩:=ha.get (by simpa using ht)
   have hc:((⟨aZ⟩:Array Value)++qaG (nt-(⟨aZ⟩:Array Value).size) undef)[t]? = some c:=by
    have hl:=(List.getElem?_eq_some_iff.1 h1).1
    rw [Array.getElem?_append_left (by simpa using hl)]
    simpa using h1
   rw [qag,hc]
   exact h2
  ·rw [Tr.avu] at ht
   cases ht
 ·cases ht
theorem HR.aaF {ρ:Ren}{s:St}{w:World}(h:HR P B ρ s w){r:Nat}(hB:B≤r)(hno:¬xO ρ s r)(o:Obj):HR P B ρ s (w.putObj r o):=by
 have hsz:(w.putObj r o).heap.size=w.heap.size:=World.putObj_size
 have hold:∀ i t l,s.tag i=some t→ρ.at i=some l→(w.putObj r o).heap[l.blk]? = w.heap[l.blk]?:=by
  intro i t l ht hl
  refine World.putObj_heap_other ?_
  rintro rfl
  by_cases hlo:i<ak
  ·have:=h.low i hlo (by rw [ht];simp)
   rw [Ren.kU hlo] at hl
   cases hl
   have:(Lo.lo i).blk<B:=this.1
   omega
  ·exact hno ⟨i,l,t,by omega,ht,by rwa [Ren.dw (by omega)] at hl,rfl⟩
 refine ⟨fun i l hi=>by rw [hsz];exact h.dom i l hi,h.next,by rw [hsz];exact h.iF,h.low,h.dO,h.fM,fun i cs e f hc=>?_,fun i es c hi=>?_,fun i q hi=>?_,h.sep⟩
 ·obtain ⟨q,hq⟩:=h.rows i cs e f hc
  exact ⟨q,hq.move (Ren.le_refl ρ) (hold i _ q (dH hc) hq.at_)⟩
 ·obtain ⟨q,hq,es',h1,h2⟩:=h.maps i es c hi
  exact ⟨q,hq,es',by rw [hold i _ q (qj hi) (by rw [Ren.dw (h.dom i q hq).1];exact hq)];exact h1,h2⟩
 ·obtain ⟨u,hu,q',h1,h2⟩:=h.loops i q hi
  exact ⟨u,hu,q',by rw [hold i _ u (kR hi) (by rw [Ren.dw (h.dom i u hu).1];exact hu)];exact h1,h2⟩
theorem Goes.aaF {ρ ρ':Ren}{s s':St}{w w':World}(hg:Goes P B ρ s w ρ' s' w')(h0:HR P B ρ s w){r:Nat}(hr:w.heap.size≤r)(hno:¬xO ρ' s' r)(o:Obj):Goes P B ρ s w ρ' s' (w'.putObj r o):=by
 refine ⟨hg.le,hg.hr.aaF (qat h0.iF hr) hno o,hg.os,hg.tape,hg.output,by rw [World.putObj_size];exact hg.grow,hg.next,fun b hb ho=>?_,hg.own,hg.old⟩
 rw [World.putObj_heap_other (by omega)]
 exact hg.frame b hb ho
theorem JI.putObj {ρ:Ren}{s:St}{w:World}{l:List (FuncId × List Value)}{ds:List Deferred}{r:Nat}(o:Obj)(h:JI ρ s w l ds)(hlt:∀ d∈ds,∀ q,d.target = .collected q→q<r):JI ρ s (w.putObj r o) l ds:=by
 induction h with
 |nil=>exact .nil
 |cons ht ha hv _ ih=>exact .cons ht ha hv (ih fun d hd=>hlt d (by simp [hd]))
 |@mark q l ds hm hl2 _ ih=>
  refine .mark ⟨by rw [World.putObj_size];exact hm.1,hm.2.1,?_⟩ hl2 (ih fun d hd=>hlt d (by simp [hd]))
  have:=hlt { target:=.collected q,args:=#[] } (by simp) q rfl
  rw [World.putObj_heap_other (by omega)]
  exact hm.2.2
def U4 (P:Program)(dcall:gX):Prop:=
 ∀ f args s v s',dcall f args s=some (v,s')→∀ B ρ w aZ,HR P B ρ s w→VRs ρ args aZ→
  (callFunc f ⟨aZ⟩).run P w = .ok (.enter f ⟨aZ⟩) w∧
  ∀ m,CallsDIn Fence.wide m P f ⟨aZ⟩ .returning w fun e u' w'=>u' = .returning∧∃ c ρ',e = .returned c∧Goes P B ρ s w ρ' s' w'∧VR ρ' v c
theorem Me {dcall:gX}(hd:U4 P dcall){fn:Func}{n m:Nat}{R:Ending→World→Prop}{fr:Fr}{tmps:Array Value}{ρ0:Ren}{s0 s1:St}{w0:World}(h0:HR P B ρ0 s0 w0){vs:List Value}(hres:results P n fr s1 fn.results.toList=some vs)
  (hR:∀ ρ' w' c,Goes P B ρ0 s0 w0 ρ' s1 w'→VR ρ' (Ax.tuple vs) c→R (.returned c) w') :
  ∀ (ds:List Deferred) (l:List (FuncId × List Value)) (s:St) (ρ:Ren) (w:World),JI ρ s w l ds→(∀ d∈ds,∀ r,d.target = .collected r→w0.heap.size≤r)→Goes P B ρ0 s0 w0 ρ s w→
   (∀ t v,fr.get n t=some v→VR ρ v (tmps.getD t undef))→unwind dcall l s=some s1→LeavesInM Fence.wide m P fn tmps R ds .returning w
 |[],_,s,ρ,w,.nil,_,hg,ht,hu=>by
  cases hu
  obtain ⟨c,h1,h2⟩:=yQ hg.hr ht hres
  exact ⟨c,h1,hR ρ w c hg h2⟩
 |_::ds,_,s,ρ,w,.mark (r:=r) hm hlt hrest,hge,hg,ht,hu=>by
  refine ⟨by simp,.inl ⟨r,_,rfl,run_takeDeferred hm.2.2,?_⟩⟩
  have hr:=hge { target:=.collected r,args:=#[] } (by simp) r rfl
  exact Me hd h0 hres hR ds _ s ρ _ (hrest.putObj _ hlt) (fun d hd=>hge d (by simp [hd])) (hg.aaF h0 hr hm.2.1 _) ht hu
 |d::ds,_,s,ρ,w,.cons (f:=f) (args:=args) (first:=first) (captured:=captured) ht0 ha hv hrest,hge,hg,ht,hu=>by
  change aj (dcall f args s) (fun q=>unwind dcall _ q.2)=some s1 at hu
  obtain ⟨⟨v,s2⟩,hcall,hu⟩:=ah.1 hu
  obtain ⟨henter,hD⟩:=hd f args s v s2 hcall B ρ w (first++captured) hg.hr hv
  have hinv:(Go.invoke d.target d.args).run P w = .ok (.enter f ⟨first++captured⟩) w:=by
   rw [ht0,ha]
   have e:((⟨first⟩:Array Value)++⟨captured⟩)=⟨first++captured⟩:=by simp
   simp only [Go.invoke,e]
   exact henter
  refine ⟨by simp,.inr ⟨(fun h=>by cases h),.func f,⟨captured⟩,f,⟨first++captured⟩,ht0,hinv,fun _ _=>trivial,?_⟩⟩
  refine (hD (m-1)).mono ?_
  rintro e u' w' ⟨rfl,c,ρ',rfl,hg2,hv2⟩
  exact Me hd h0 hres hR ds _ s2 ρ' w' (hrest.goes hg2) (fun d hd=>hge d (by simp [hd])) (hg.trans hg2) (fun t u hu=>(ht t u hu).mono hg2.le) hu
theorem aod (hK:eX C P){call:gX}{yield:dS}(hc:uU P call)(hy:pz P yield)(hQ:qJ C call):U4 P (ae3 C call yield):=by
 intro f args s v s' h B ρ w aZ hr ha
 unfold ae3 at h
 obtain ⟨c,hb,h⟩:=ah.1 h
 obtain ⟨hnr,h⟩:=au.1 h
 obtain ⟨⟨e,fr',s2⟩,hex,hfin⟩:=ah.1 h
 obtain ⟨fn,h1,h2,h3,h4,h5⟩:=hK.body f c hb
 have h3':¬fn.name="runtime.NumGoroutine":=by simpa using h3
 refine ⟨by simp [callFunc,h1,h2,h3'],fun m=>?_⟩
 refine callsDIn_of_wp (F:=Fence.wide) (n:=m) (R:=fun e w'=>∃ c ρ',e = .returned c∧Goes P B ρ s w ρ' s' w'∧VR ρ' v c) h1 h2 trivial ?_
 have key:∀ ρ' w' a',Goes P B ρ s w ρ' s2 w'→FrR none (C.vars f) fn.ntmps ρ' s2 w' fr' a'→bodyPost P fn (fun e w'=>∃ c ρ',e = .returned c∧Goes P B ρ s w ρ' s' w'∧VR ρ' v c) (exq e) a' w':=by
  intro ρ' w' a' hg hf
  have fin:∀ (hd:jB fr'.defers (aj (results C.P (C.vars f) fr' s2 (C.results f)) fun vs=>some (Ax.tuple vs,s2)) (fun _ _=>none)=some (v,s')),a'.defers=[]∧∃ v',(Go.results fn a'.tmps).run P w' = .ok v' w'∧∃ c ρ',Ending.returned v' = .returned c∧Goes P B ρ s w ρ' s' w'∧VR ρ' v c:=by
   intro hd
   cases hdf:fr'.defers with
   |cons d ds=>rw [hdf] at hd;cases hd
   |nil=>
    rw [hdf] at hd
    obtain ⟨vs,hvs,hd⟩:=ah.1 hd
    cases hd
    rw [hK.prog,h5] at hvs
    obtain ⟨c,g1,g2⟩:=yQ hg.hr hf.tmps hvs
    refine ⟨?_,c,g1,c,ρ',rfl,hg,g2⟩
    have hdr:=hf.defers
    rw [hdf] at hdr
    cases au5:a'.defers with
    |nil=>rfl
    |cons d ds=>
     rw [au5] at hdr
     cases hdr with
     |mark hm hlt hh=>
      obtain ⟨k,hk,_⟩:=hf.wu _ (by rw [au5];exact qaA ..) _ rfl
      cases hk
  cases e with
  |normal=>exact fin hfin
  |ret=>exact fin hfin
  |exit id=>cases hfin
 exact Oy hK hc hy hQ hK.mix (ro:=none) (m:=m) (n:=C.vars f) (nt:=fn.ntmps) (mk:=none) (fn:=f) (c0:=c) (fun _=>⟨rfl,fun b hb'=>hK.loops f c b hb hb'⟩) c (.refl c) h4 (fun _=>hnr) (qH args) s e fr' s2 ρ _ w _ hex hr (VD ha none) (fun k hk=>by cases hk) key
theorem aaU {η:Operand→Value}{o:Oper}{w:World}(h:isRecover o.op=true):(Go.execOp η o).run P w = .ok .recover w:=by
 unfold isRecover at h
 split at h
 ·rename_i c hop
  split at h
  ·rename_i b hb
   split at h
   ·split at h
    ·rename_i ha
     unfold Go.execOp
     simp only [hop]
     have:c.args=#[]:=by apply qaL;simpa using ha
     simp only [resolve,hb,this,qaS,pure_bind]
     rfl
    ·cases h
   ·cases h
  ·cases h
 ·cases h
theorem ahj (n:Nat)(all:List Oper)(o:Oper)(rest:List Oper)(fr:Fr)(s:St) :
  asl C n all (o::rest) fr s=aj (jW n all fr o.guard) fun g=>sel g (sel (isRecover o.op) (asl C n all rest (fr.put n o.dst .nilIface) s) (aaV C n o (asl C n all rest) fr s)) (asl C n all rest (fr.put n o.dst unit) s):=rfl
theorem SS (hK:eX C P){mk:Option Nat}{m n nt:Nat}{ops:Array Oper}{cs:List Frame}(hcs:recoverD cs=none){Q:Exit→Act→List Frame→World→Prop}
  (hok:sG nt ops.toList=true):∀ (rest:List Oper) (k:Nat),ops.toList.drop k=rest→∀ (fr:Fr) (s:St) (fr':Fr) (s':St) (ρ:Ren) (a:Act) (w:World),
   asl C n ops.toList rest fr s=some (fr',s')→HR P B ρ s w→FrR mk n nt ρ s w fr a→
   (∀ ρ' w' a',Goes P B ρ s w ρ' s' w'→FrR mk n nt ρ' s' w' fr' a'→Q .normal a' cs w')→wpOpsSIn Fence.wide m P ops Q (qaO k rest.length) a cs w
 |[],k,_,fr,s,fr',s',ρ,a,w,h,hh,hf,hq=>by
  cases h
  exact hq ρ w a (Goes.refl hh) hf
 |o::rest,k,hd,fr,s,fr',s',ρ,a,w,h,hh,hf,hq=>by
  have ho:ops[k]? = some o:=by
   have:(ops.toList.drop k)[0]? = some o:=by rw [hd];rfl
   simpa using this
  have hd':ops.toList.drop (k+1)=rest:=by
   rw [←qaR,hd];rfl
  have hmem:o∈ops.toList:=qal (by simpa using ho)
  obtain ⟨hdst,avK⟩:=yM (yE hok o hmem)
  rw [ahj] at h
  obtain ⟨g,hg,h⟩:=ah.1 h
  have hw:=ML (ρ:=ρ) (a:=a) hg (fun j o' d b v _ _ _ hv=>hf.tmps d v hv)
  show wpOpsSIn Fence.wide m P ops Q (k::qaO (k+1) rest.length) a cs w
  simp only [wpOpsSIn,ho,hw]
  refine ⟨fun _ _=>trivial,?_⟩
  cases g with
  |false=>
   rw [aP] at h
   exact SS hK hcs hok rest (k+1) hd' _ s fr' s' ρ _ w h hh (hf.skip hdst) hq
  |true=>
   rw [aN] at h
   rw [if_pos rfl]
   cases hrec:isRecover o.op with
   |true=>
    rw [hrec,aN] at h
    rw [aaU hrec]
    simp only [hcs]
    have hp:=hf.put (df:=none) (ds:=[]) (v:=.nilIface) (c:=.nilIface) hdst .nilIface .none
    exact SS hK hcs hok rest (k+1) hd' _ s fr' s' ρ _ w h hh hp hq
   |false=>
    rw [hrec,aP] at h
    unfold aaV at h
    obtain ⟨r,hr,h⟩:=ah.1 h
    have he:=Oi (ρ:=ρ) (n:=n) (fr:=fr) (a:=a) avK (fun t v _ ht=>hf.tmps t v ht)
    rw [←nS] at hr
    have hs:=ads hK hh he hr
    cases r with
    |val v s2=>
     obtain ⟨ρ',w',c,hrun,hgo,hv⟩:=hs
     have hp:=(hf.goes hgo).put (df:=none) (ds:=[]) hdst hv .none
     have hnext:=SS hK (m:=m) (Q:=Q) hcs hok rest (k+1) hd' _ s2 fr' s' ρ' _ w' h hgo.hr hp (fun ρ'' w'' a'' az7 hf2=>hq ρ'' w'' a'' (hgo.trans az7) hf2)
     rcases hrun with hrun|⟨hrun,rfl⟩
     ·rw [hrun];exact hnext
     ·rw [hrun];exact hnext
    |call f args s2=>cases h
    |yield f args s2=>cases h
    |defer f args s2=>cases h
theorem anF (hK:eX C P){mk:Option Nat}{m n nt:Nat}{cs:List Frame}(hcs:recoverD cs=none) :
  ∀ (c:Code),qg nt c=true→∀ (fr:Fr) (s:St) (e:Ex) (fr':Fr) (s':St) (ρ:Ren) (a:Act) (w:World) (Q:Exit→Act→List Frame→World→Prop),
   afe C n c fr s=some (e,fr',s')→HR P B ρ s w→FrR mk n nt ρ s w fr a→
   (∀ ρ' w' a',Goes P B ρ s w ρ' s' w'→FrR mk n nt ρ' s' w' fr' a'→Q (exq e) a' cs w')→c.wpSIn Fence.wide m P Q a cs w:=by
 intro c
 induction c with
 |skip=>
  intro _ fr s e fr' s' ρ a w Q h hr hf hq
  cases h
  exact wpSIn_of_wpIn rfl (wpIn_skip (hq ρ w a (Goes.refl hr) hf))
 |region id ops d=>
  intro hok fr s e fr' s' ρ a w Q h hr hf hq
  change sel d none (aj (asl C n ops.toList ops.toList fr.fresh s) fun r=>some (Ex.normal,r))=some (e,fr',s') at h
  cases d with
  |true=>cases h
  |false=>
   rw [aP] at h
   obtain ⟨⟨fr2,s2⟩,hd,h⟩:=ah.1 h
   obtain ⟨rfl,rfl,rfl⟩:Ex.normal=e∧fr2=fr'∧s2=s':=by cases h;exact ⟨rfl,rfl,rfl⟩
   refine wpSIn_region ?_
   rw [qaP]
   have:=SS (P:=P) (B:=B) hK (m:=m) (nt:=nt) hcs (Q:=Q) hok ops.toList 0 (by simp) fr.fresh s fr2 s2 ρ a w hd hr hf.fresh hq
   simpa using this
 |seq x y ihx ihy=>
  intro hok fr s e fr' s' ρ a w Q h hr hf hq
  obtain ⟨h1,h2⟩:=dG hok
  change aj (afe C n x fr s) (ni (afe C n y))=some (e,fr',s') at h
  obtain ⟨⟨e1,fr1,s1⟩,hx,h⟩:=ah.1 h
  refine wpSIn_seq (ihx h1 fr s e1 fr1 s1 ρ a w _ hx hr hf ?_)
  intro ρ' w' a' hg hf'
  cases e1 with
  |normal=>exact ihy h2 fr1 s1 e fr' s' ρ' a' w' Q h hg.hr hf' fun ρ2 w2 a2 hg2 hf2=>hq ρ2 w2 a2 (hg.trans hg2) hf2
  |exit id=>cases h;exact hq ρ' w' a' hg hf'
  |ret=>cases h;exact hq ρ' w' a' hg hf'
 |cond c x y ihx ihy=>
  intro hok fr s e fr' s' ρ a w Q h hr hf hq
  obtain ⟨h0,hok⟩:=dG hok
  obtain ⟨h1,h2⟩:=dG hok
  change aj (fr.ev n c) (yD (afe C n x) (afe C n y) fr s)=some (e,fr',s') at h
  obtain ⟨v,hv,h⟩:=ah.1 h
  unfold yD at h
  split at h
  case h_2=>cases h
  rename_i b
  rw [aG] at h
  have hvr:=V9 (ρ:=ρ) (a:=a) h0 (fun t u _ hu=>hf.tmps t u hu) hv
  generalize hav:a.eval c=av at hvr
  cases hvr
  refine wpSIn_cond hav ?_
  cases b with
  |true=>exact ihx h1 fr s e fr' s' ρ a w Q h hr hf hq
  |false=>exact ihy h2 fr s e fr' s' ρ a w Q h hr hf hq
 |ret=>
  intro _ fr s e fr' s' ρ a w Q h hr hf hq
  cases h
  exact wpSIn_of_wpIn rfl (wpIn_ret (hq ρ w a (Goes.refl hr) hf))
 |_=>
  intro _ fr s e fr' s' ρ a w Q h hr hf hq
  cases h
theorem am4 (hK:eX C P):U4 P (akK C):=by
 intro f args s v s' h B ρ w aZ hr ha
 unfold akK at h
 obtain ⟨c,hb,h⟩:=ah.1 h
 obtain ⟨⟨e,fr',s2⟩,hex,hfin⟩:=ah.1 h
 obtain ⟨fn,h1,h2,h3,h4,h5⟩:=hK.body f c hb
 have h3':¬fn.name="runtime.NumGoroutine":=by simpa using h3
 refine ⟨by simp [callFunc,h1,h2,h3'],fun m=>?_⟩
 refine callsDIn_of_wpSIn (F:=Fence.wide) (n:=m) h1 h2 trivial ?_
 intro c₀ cs hc₀
 have hrec:recoverD (c₀::cs)=none:=by simp [recoverD,hc₀]
 refine anF hK (m:=m) (n:=C.vars f) (nt:=fn.ntmps) (mk:=none) hrec c h4 (qH args) s e fr' s2 ρ _ w _ hex hr (VD ha none) ?_
 intro ρ' w' a' hg hf
 have fin:∀ (hd:jB fr'.defers (aj (results C.P (C.vars f) fr' s2 (C.results f)) fun vs=>some (Ax.tuple vs,s2)) (fun _ _=>none)=some (v,s')),a'.defers=[]∧∃ u',(c₀::cs)={ c₀ with mode:=u' }::cs∧∃ v',(Go.results fn a'.tmps).run P w' = .ok v' w'∧(u' = .returning∧∃ c ρ',Ending.returned v' = .returned c∧Goes P B ρ s w ρ' s' w'∧VR ρ' v c):=by
  intro hd
  cases hdf:fr'.defers with
  |cons d ds=>rw [hdf] at hd;cases hd
  |nil=>
   rw [hdf] at hd
   obtain ⟨vs,hvs,hd⟩:=ah.1 hd
   cases hd
   rw [hK.prog,h5] at hvs
   obtain ⟨c,g1,g2⟩:=yQ hg.hr hf.tmps hvs
   refine ⟨?_,.returning,by rw [←hc₀],c,g1,rfl,c,ρ',rfl,hg,g2⟩
   have hdr:=hf.defers
   rw [hdf] at hdr
   cases au5:a'.defers with
   |nil=>rfl
   |cons d ds=>
    rw [au5] at hdr
    cases hdr with
    |mark hm hlt hh=>
     obtain ⟨k,hk,_⟩:=hf.wu _ (by rw [au5];exact qaA ..) _ rfl
     cases hk
 cases e with
 |normal=>exact fin hfin
 |ret=>exact fin hfin
 |exit id=>cases hfin
theorem agG (hK:eX C P){call:gX}{yield:dS}(hc:uU P call)(hy:pz P yield)(hQ:qJ C call):U4 P (Qw C call yield):=by
 intro f args s v s' h
 cases hd:ae3 C call yield f args s with
 |some q=>
  have h:Option.casesOn (ae3 C call yield f args s) (akK C f args s) some=some (v,s'):=h
  rw [hd] at h
  have h:some q=some (v,s'):=h
  cases h
  exact aod hK hc hy hQ f args s v s' hd
 |none=>
  have h:Option.casesOn (ae3 C call yield f args s) (akK C f args s) some=some (v,s'):=h
  rw [hd] at h
  exact am4 hK f args s v s' h
theorem L9 (hK:eX C P){call:gX}{yield:dS}(hc:uU P call)(hy:pz P yield)(hQ:qJ C call):uU P (jZ C call yield):=by
 intro f args s v s' h B ρ w aZ hr ha
 unfold jZ at h
 obtain ⟨c,hb,h⟩:=ah.1 h
 obtain ⟨⟨e,fr',s2⟩,hex,hfin⟩:=ah.1 h
 obtain ⟨fn,h1,h2,h3,h4,h5⟩:=hK.body f c hb
 refine (callsIn_wide (n:=0)).1 ?_
 refine callsIn_of_wp_marks (F:=Fence.wide) (n:=0) h1 h2 trivial ?_
 refine Oy hK hc hy hQ hK.mix (ro:=none) (m:=0) (n:=C.vars f) (nt:=fn.ntmps) (mk:=some w.heap.size) (fn:=f) (c0:=c) (fun _=>⟨rfl,fun b hb'=>hK.loops f c b hb hb'⟩) c (.refl c) h4 (fun h=>by cases h) (qH args) s e fr' s2 ρ _ w _ hex hr (VD ha _) (fun k hk=>by cases hk;exact qao _) ?_
 intro ρ' w' a' hg hf
 have fin:∀ (hd:aj (unwind (Qw C call yield) fr'.defers s2) (fun s=>aj (results C.P (C.vars f) fr' s (C.results f)) fun vs=>some (Ax.tuple vs,s))=some (v,s')),
   LeavesInM Fence.wide 0 P fn a'.tmps (fun e w'=>∃ c ρ',e = .returned c∧Goes P B ρ s w ρ' s' w'∧VR ρ' v c) a'.defers .returning w':=by
  intro hd
  obtain ⟨s3,hu,hd⟩:=ah.1 hd
  obtain ⟨vs,hvs,hd⟩:=ah.1 hd
  cases hd
  rw [hK.prog,h5] at hvs
  refine Me (agG hK hc hy hQ) hr hvs ?_ a'.defers fr'.defers s2 ρ' w' hf.defers ?_ hg hf.tmps hu
  ·intro ρ2 w2 c hg2 hv2
   exact ⟨c,ρ2,rfl,hg2,hv2⟩
  ·intro d hd r hr'
   obtain ⟨k,hk,hle⟩:=hf.wu d hd r hr'
   cases hk
   exact hle
 cases e with
 |normal=>exact fin hfin
 |ret=>exact fin hfin
 |exit id=>cases hfin
theorem aaH (hK:eX C P){call:gX}{yield:dS}(hc:uU P call)(hy:pz P yield)(hQ:qJ C call):uU P (pO C call yield):=by
 intro f args s v s' h
 unfold pO at h
 cases hi:C.insert f with
 |none=>rw [hi] at h;exact L9 hK hc hy hQ f args s v s' h
 |some t=>
  rw [hi] at h
  cases he:mY C t s args with
  |none=>
   have h:Option.casesOn (mY C t s args) (jZ C call yield f args s) some=some (v,s'):=h
   rw [he] at h
   exact L9 hK hc hy hQ f args s v s' h
  |some q=>
   have h:Option.casesOn (mY C t s args) (jZ C call yield f args s) some=some (v,s'):=h
   rw [he] at h
   have h:some q=some (v,s'):=h
   cases h
   exact hK.insert f t hi args s v s' he
theorem MN {n:Nat}{ρ:Ren}:∀ {ps:List Nat} {args aZ:List Value} {t t':Tr Value} {tmps:Array Value},Lp ps args t=some t'→VRs ρ args aZ→I7 tmps.size ps=true→ab1 ρ n t tmps→
  aZ.length=ps.length∧ab1 ρ n t' ((ps.zip aZ).foldl (fun tmps (x:Nat × Value)=>tmps.setIfInBounds x.1 x.2) tmps)∧((ps.zip aZ).foldl (fun tmps (x:Nat × Value)=>tmps.setIfInBounds x.1 x.2) tmps).size=tmps.size
 |[],args,aZ,t,t',tmps,h,ha,_,hv=>by
  cases ha with
  |nil=>cases h;exact ⟨rfl,hv,rfl⟩
  |cons _ _=>cases h
 |p::ps,args,aZ,t,t',tmps,h,ha,hok,hv=>by
  cases ha with
  |nil=>cases h
  |@cons v c args aZ hvc ha=>
   change Lp ps args (t.set p v)=some t' at h
   obtain ⟨h0,hok⟩:=dG hok
   have h0:=bD h0
   have hv2:ab1 ρ n (t.set p v) (tmps.setIfInBounds p c):=by
    intro k u hk hu
    rw [Tr.jv] at hu
    rw [qag,qar]
    by_cases e:k=p
    ·subst e
     rw [if_pos rfl] at hu
     cases hu
     rw [if_pos rfl,if_pos h0]
     exact hvc
    ·rw [if_neg e] at hu
     rw [if_neg (fun h=>e h.symm),←qag]
     exact hv k u hk hu
   obtain ⟨h1,h2,h3⟩:=MN (tmps:=tmps.setIfInBounds p c) h ha (by rw [Array.size_setIfInBounds];exact hok) hv2
   refine ⟨by simp [h1],h2,?_⟩
   show (List.foldl _ (tmps.setIfInBounds p c) (ps.zip aZ)).size=_
   rw [h3]
   simp
theorem Yg (hK:eX C P){call:gX}{yield:dS}(hc:uU P call)(hy:pz P yield)(hQ:qJ C call):pz P (rM C call yield):=by
 intro l args s v s' h B ρ w loc aZ hr hl ha
 unfold rM at h
 obtain ⟨r,hgl,h⟩:=ah.1 h
 obtain ⟨vars,hsp,h⟩:=ah.1 h
 obtain ⟨⟨e1,fr1,s1⟩,hex,h⟩:=ah.1 h
 obtain ⟨loc',q,g1,g2,g3,g4⟩:=tV hr hgl
 obtain rfl:loc'=loc:=by rw [hl] at g1;exact (Option.some.inj g1).symm
 obtain ⟨k1,k2,k3⟩:=MN (n:=r.n) hsp ha g4.code.2.2 g4.vars
 have ajU:q.params.toList=r.params:=g4.params
 have hsize:(⟨aZ⟩:Array Value).size=q.params.size:=by
  have:q.params.toList.length=r.params.length:=by rw [ajU]
  simp at this ⊢
  omega
 have hrun:=run_yield (P:=P) g3 hsize
 have hfold:(q.params.zip ⟨aZ⟩).foldl (fun tmps (t,a)=>tmps.setIfInBounds t a) q.tmps=(r.params.zip aZ).foldl (fun tmps (x:Nat × Value)=>tmps.setIfInBounds x.1 x.2) q.tmps:=by
  rw [←ajU,←Array.foldl_toList]
  congr 1
  simp
 rw [hfold] at hrun
 refine ⟨_,_,_,_,hrun,?_⟩
 refine roundIn_of_wpIn (F:=Fence.wide) trivial ?_
 rw [g4.assign,g4.body]
 have hfr0:FrR (some 0) r.n q.tmps.size ρ s w { vars:=vars,loc:=[],defers:=[] } { tmps:=(r.params.zip aZ).foldl (fun tmps (x:Nat × Value)=>tmps.setIfInBounds x.1 x.2) q.tmps,defers:=[] }:=by
  refine ⟨by rw [k3];exact qao _,fun t u hu=>?_,.nil,fun d hd=>by cases hd⟩
  unfold Fr.get at hu
  rw [aG] at hu
  split at hu
  ·rename_i hlt
   exact k2 t u (bD hlt) hu
  ·cases hu
 refine Oy hK hc hy hQ hK.mix (ro:=some loc'.blk) (m:=0) (n:=r.n) (nt:=q.tmps.size) (mk:=some 0) (fn:=r.fn) (c0:=r.assign) (fun h=>by cases h) r.assign (.refl _) g4.code.1 (fun hh=>by cases hh) _ s e1 fr1 s1 ρ _ w _ hex hr hfr0 (fun k hk=>by cases hk;exact qaZ _) ?_
 intro ρ1 w1 a1 hg1 hf1
 cases e1 with
 |exit id=>cases h
 |ret=>cases h
 |normal=>
  change aj (Ax.getLoop s1 l) (fun r1=>match r1.state with
   |.ready=>aj (exec C call yield r.n r.fn true r.body fr1 (uK s1 l r1 .busy r1.pending)) (Ax.endRound l)
   |_=>none)=some (v,s') at h
  obtain ⟨r1,aBl,h⟩:=ah.1 h
  obtain ⟨azF,q1,j1,j2,j3,j4⟩:=tV hg1.hr aBl
  obtain rfl:azF=loc':=by
   have:=hg1.le _ _ hl
   rw [j1] at this
   exact Option.some.inj this
  split at h
  ·rename_i hst
   obtain ⟨⟨e2,fr2,s2⟩,aBv,hend⟩:=ah.1 h
   have hbr:=run_beginRound (P:=P) j3 (by rw [j4.state];exact hst)
   have hgb:=rD hg1.hr aBl j1 j4 .busy r1.pending
   have hq1:({ q1 with state:=.busy }:Loop)={ q1 with state:=.busy,pending:=r1.pending }:=by rw [←j4.pending]
   rw [hq1] at hbr
   refine ⟨_,hbr,?_⟩
   have aBH:=hg1.trans hgb
   refine Oy hK hc hy hQ hK.mix (ro:=some azF.blk) (m:=0) (n:=r.n) (nt:=q.tmps.size) (mk:=some 0) (fn:=r.fn) (c0:=r.body) (fun h=>by cases h) r.body (.refl _) g4.code.2.1 (fun hh=>by cases hh) fr1 _ e2 fr2 s2 ρ1 a1 _ _ aBv hgb.hr (hf1.goes hgb) (fun k hk=>by cases hk;exact qaZ _) ?_
   intro ρ2 w2 a2 hg2 hf2
   unfold Ax.endRound at hend
   cases hdf:fr2.defers with
   |cons d ds=>simp only [hdf] at hend;cases hend
   |nil=>
    simp only [hdf] at hend
    obtain ⟨r2,axF,hend⟩:=ah.1 hend
    obtain ⟨aBN,q2,i1,i2,i3,i4⟩:=tV hg2.hr axF
    obtain rfl:aBN=azF:=by
     have:=hg2.le _ _ j1
     rw [i1] at this
     exact Option.some.inj this
    have hall:=aBH.trans hg2
    cases e2 with
    |normal=>
     cases hend
     exact ⟨_,_,run_endRound none i3,_,ρ2,rfl,hall.trans (rD hg2.hr axF i1 i4 .ready none),.bool true⟩
    |ret=>
     cases hend
     exact ⟨_,_,run_endRound (some .ret) i3,_,ρ2,rfl,hall.trans (rD hg2.hr axF i1 i4 .done (some .ret)),.bool false⟩
    |exit id=>
     cases hend
     exact ⟨_,_,run_endRound (some (.exit id)) i3,_,ρ2,rfl,hall.trans (rD hg2.hr axF i1 i4 .done (some (.exit id))),.bool false⟩
  ·cases h
theorem Qk (call:gX)(yield:dS):qJ C (pO C call yield):=by
 intro f args s0 s v s' hq h
 have hq:Option.casesOn (C.insert f) false (fun t=>Lh t args)=true:=hq
 unfold pO at h
 cases hi:C.insert f with
 |none=>rw [hi] at hq;cases hq
 |some t=>
  rw [hi] at hq h
  have hq:Lh t args=true:=hq
  have h:Option.casesOn (mY C t s args) (jZ C call yield f args s) some=some (v,s'):=h
  cases t with
  |insert t=>cases hq
  |closed ok=>cases hq
  |fn F=>cases hq
  |tree F=>cases hq
  |pure G=>
   cases hp:CS G args with
   |none=>
    have hq:(CS G args).isSome=true:=hq
    rw [hp] at hq;cases hq
   |some u=>
    have e:mY C (.pure G) s args=some (u,s):=by
     show aj (CS G args) _=_
     rw [hp];rfl
    rw [e] at h
    have h:some (u,s)=some (v,s'):=h
    cases h;rfl
theorem GN:∀ (n:Nat),qJ C (runN C n).1
 |0=>fun f args s0 s v s' _ h=>by cases h
 |n+1=>Qk _ _
theorem sN (hK:eX C P):∀ (n:Nat),uU P (runN C n).1∧pz P (runN C n).2
 |0=>⟨(fun f args s v s' h=>by cases h),(fun l args s v s' h=>by cases h)⟩
 |n+1=>⟨aaH hK (sN hK n).1 (sN hK n).2 (GN n),Yg hK (sN hK n).1 (sN hK n).2 (GN n)⟩
end
end
end Go.Ax
namespace Go.Ax
variable [Lo]
open Go
section
variable {P:Program} {base:Nat} {ρ ρ':Ren} {s s' s1:St} {w w':World}
theorem NM {v c:Value}(h:lZ v=true)(hv:VR ρ v c):c=v:=by
 cases hv <;> first|rfl|(exact Bool.noConfusion (show false=true from h))
theorem H6 (ρ:Ren){v:Value}(h:lZ v=true):VR ρ v v:=by
 cases v <;> first|exact .bool _|exact .int _ _|exact .string _|(exact Bool.noConfusion (show false=true from h))
theorem qp:∀ {l:List Value},flatAll l=true→∀ {j:Nat} {v:Value},l[j]? = some v→lZ v=true
 |[],_,j,v,hj=>by simp at hj
 |a::l,h,j,v,hj=>by
  change sel (lZ a) (flatAll l) false=true at h
  rw [aG] at h
  split at h
  ·rename_i ha
   cases j with
   |zero=>simp at hj;subst hj;exact ha
   |succ j=>simp at hj;exact qp h hj
  ·cases h
noncomputable def oz (cs:List Value)(t:TypeId):St:={ heap:=Hp.set (.s 15 0) 64 (.row cs t 0),bZ:=.s 15 0,next:=65 }
def QD (l:Loc):Ren:=fun i=>if i=64 then some l else none
theorem xC (cs:List Value)(t:TypeId)(i:Nat):(oz cs t).heap.get i=if i=64 then some (.row cs t 0) else none:=by
 show (Hp.set (Hp.s 15 0) 64 (Row.row cs t 0)).get i=_
 rw [Hp.jv,Hp.zL]
theorem Bh {cs:List Value}{t:TypeId}{i:Nat}{a:Nat × Nat}(h:(oz cs t).tag i=some a):i=64∧a=(0,64):=by
 unfold St.tag at h
 rw [xC] at h
 by_cases hi:i=64
 ·rw [if_pos hi] at h
  simp at h
  exact ⟨hi,by rw [←h,hi]⟩
 ·rw [if_neg hi] at h;cases h
theorem avN (h:HR P base ρ s w){b:Nat}{cs:List Value}{t:TypeId}(hb:ak≤b)(hc:s.cells b=some (cs,t,0))(hf:flatAll cs=true):∃ l,ρ b=some l∧l.off=0∧HR P base (QD l) (oz cs t) w:=by
 obtain ⟨l,hrow⟩:=h.rows b _ _ _ hc
 have hl:ρ b=some l:=by rw [←Ren.dw (ρ:=ρ) hb];exact hrow.at_
 obtain ⟨d1,d2,d3,d4⟩:=h.dom b l hl
 have hl0:l.off=0:=by
  obtain ⟨_,a,fz,_,_,_,h0,_⟩:=hrow
  exact (h0 rfl).1
 refine ⟨l,hl,hl0,⟨fun i q hi=>?_,by show 64≤65;omega,h.iF,fun i hi ht=>?_,fun i r hi=>?_,fun i cs1 e1 f1 hi=>?_,fun i cs1 e1 f1 hi=>?_,fun i es c hi=>?_,fun i r hi=>?_,fun i j x y u v hi hj hxy hu hv=>?_⟩⟩
 ·unfold QD at hi
  split at hi
  ·rename_i e;cases hi;subst e;exact ⟨by decide,by show 64<65;omega,d3,d4⟩
  ·cases hi
 ·cases ht':(oz cs t).tag i with
  |none=>exact absurd ht' ht
  |some a=>
   have:=(Bh ht').1
   have:ak=64:=rfl
   omega
 ·rw [xC] at hi
  split at hi
  ·rename_i e;subst e;show 64<65;omega
  ·cases hi
 ·rw [xC] at hi
  split at hi
  ·cases hi;show 0<65;omega
  ·cases hi
 ·obtain ⟨h1,_⟩:=aO.1 hi
  rw [xC] at h1
  split at h1
  ·rename_i e
   subst e
   cases h1
   obtain ⟨hat,a,fz,ha,hv,hz,h0,h1⟩:=hrow
   refine ⟨l,?_,a,fz,ha.imp fun _ h=>⟨h.1,fun _=>h.2 (.inl rfl)⟩,fun j x hj=>?_,fun _=>hz hb,fun _=>?_,fun hn=>absurd rfl hn⟩
   ·show (QD l).at 64=some l
    rw [Ren.dw (by decide)];rfl
   ·obtain ⟨y,hy,hxy⟩:=hv j x hj
    have hfl:=qp hf hj
    rw [NM hfl hxy] at hy
    exact ⟨x,hy,H6 _ hfl⟩
   ·obtain ⟨q1,q2,q3⟩:=h0 rfl
    exact ⟨q1,q2,fun _=>q3 hb⟩
  ·cases h1
 ·rw [xC] at hi
  split at hi <;> cases hi
 ·rw [xC] at hi
  split at hi <;> cases hi
 ·obtain ⟨_,rfl⟩:=Bh hi
  obtain ⟨_,rfl⟩:=Bh hj
  exact absurd rfl hxy
theorem as6 (s:St)(b:Nat)(cs:List Value)(t:TypeId):putRow s b cs t 0={ heap:=s.heap.set b (.row cs t 0),bZ:=s.bZ,next:=s.next }:=rfl
theorem alY (h:HR P base ρ s w){b:Nat}{cs cs':List Value}{t:TypeId}{l:Loc}(hb:ak≤b)(hc:s.cells b=some (cs,t,0))(hl:ρ b=some l)
  (hg:Goes P base (QD l) (oz cs t) w ρ' s1 w') (hc1:s1.cells 64=some (cs',t,0)) (hf:flatAll cs'=true):Goes P base ρ s w ρ (putRow s b cs' t 0) w':=by
 rw [as6]
 obtain ⟨hg1,_⟩:=aO.1 hc
 have htb:s.tag b=some (0,b):=dH hc
 have hlat:ρ.at b=some l:=by rw [Ren.dw hb];exact hl
 have htb':({ heap:=s.heap.set b (.row cs' t 0),bZ:=s.bZ,next:=s.next }:St).tag b=some (0,b):=by
  unfold St.tag;simp [Hp.get_set_same]
 have htag:∀ i,({ heap:=s.heap.set b (.row cs' t 0),bZ:=s.bZ,next:=s.next }:St).tag i=s.tag i:=by
  intro i
  by_cases hi:i=b
  ·subst hi;rw [htb',htb]
  ·exact jg (n:=s.next) hi
 have hne:∀ i q x,i≠b→s.tag i=some x→ρ.at i=some q→q.blk≠l.blk:=by
  intro i q x hi hx hq
  refine h.sep i b x (0,b) q l hx htb ?_ hq hlat (.inr hb)
  rintro rfl
  unfold St.tag at hx
  split at hx
  ·split at hx
   ·simp at hx;exact hi hx
   ·split at hx
    ·split at hx <;> simp at hx
    ·cases hx
  ·simp at hx;exact hi hx
  ·simp at hx;exact hi hx
  ·cases hx
 have hold:∀ i q x,i≠b→s.tag i=some x→ρ.at i=some q→w'.heap[q.blk]? = w.heap[q.blk]?:=by
  intro i q x hi hx hq
  refine hg.frame _ (h.rQ hx hq) ?_
  rintro ⟨j,u,y,_,hy,hu,e⟩
  obtain ⟨rfl,_⟩:=Bh hy
  have hu:some l=some u:=hu
  cases hu
  exact hne i q x hi hx hq e.symm
 have hl1:ρ'.at 64=some l:=by
  rw [Ren.dw (by decide),hg.old 64 (by show 64<65;omega)];rfl
 refine ⟨Ren.le_refl ρ,⟨fun i q hi=>?_,h.next,qat h.iF hg.grow,fun i hi ht=>?_,fun i r hi=>?_,fun i cs1 e1 f1 hi=>?_,fun i cs1 e1 f1 hi=>?_,fun i es c hi=>?_,fun i r hi=>?_,fun i j x y u v hi hj hxy hu hv=>?_⟩,hg.os,hg.tape,hg.output,hg.grow,qao _,fun k hk ho=>?_,fun k ho=>?_,fun _ _=>rfl⟩
 ·obtain ⟨a,b,c,d⟩:=h.dom i q hi
  exact ⟨a,b,c,qai d hg.grow⟩
 ·rw [htag] at ht;exact h.low i hi ht
 ·by_cases hi':i=b
  ·subst hi';exact h.dO i _ hg1
  ·simp only [Hp.get_set_other _ _ hi'] at hi;exact h.dO i r hi
 ·by_cases hi':i=b
  ·subst hi'
   simp only [Hp.get_set_same] at hi
   cases hi
   exact h.fM i _ _ _ hg1
  ·simp only [Hp.get_set_other _ _ hi'] at hi;exact h.fM i _ _ _ hi
 ·by_cases hi':i=b
  ·subst hi'
   obtain ⟨h1,_⟩:=aO.1 hi
   simp only [Hp.get_set_same] at h1
   cases h1
   obtain ⟨l',hat,a,fz,ha,hv,hz,h0,h1⟩:=hg.hr.rows 64 _ _ _ hc1
   rw [hl1] at hat
   cases hat
   refine ⟨l,hlat,a,fz,ha.imp fun _ h=>⟨h.1,fun _=>h.2 (.inl rfl)⟩,fun j x hj=>?_,fun _=>hz (by decide),fun _=>?_,fun hn=>absurd rfl hn⟩
   ·obtain ⟨y,hy,hxy⟩:=hv j x hj
    have hfl:=qp hf hj
    rw [NM hfl hxy] at hy
    exact ⟨x,hy,H6 _ hfl⟩
   ·obtain ⟨q1,q2,q3⟩:=h0 rfl
    exact ⟨q1,q2,fun _=>q3 (by decide)⟩
  ·have hi2:s.cells i=some (cs1,e1,f1):=(iC (n:=s.next) hi')▸hi
   obtain ⟨q,hq⟩:=h.rows i cs1 e1 f1 hi2
   exact ⟨q,hq.move (Ren.le_refl ρ) (hold i q _ hi' (dH hi2) hq.at_)⟩
 ·by_cases hi':i=b
  ·subst hi';simp only [Hp.get_set_same] at hi;cases hi
  ·simp only [Hp.get_set_other _ _ hi'] at hi
   obtain ⟨q,hq,es',h1,h2⟩:=h.maps i es c hi
   exact ⟨q,hq,es',by rw [hold i q _ hi' (qj hi) (by rw [Ren.dw (h.dom i q hq).1];exact hq)];exact h1,h2⟩
 ·by_cases hi':i=b
  ·subst hi';simp only [Hp.get_set_same] at hi;cases hi
  ·simp only [Hp.get_set_other _ _ hi'] at hi
   obtain ⟨q,hq,q',h1,h2⟩:=h.loops i r hi
   exact ⟨q,hq,q',by rw [hold i q _ hi' (kR hi) (by rw [Ren.dw (h.dom i q hq).1];exact hq)];exact h1,h2⟩
 ·rw [htag] at hi hj
  exact h.sep i j x y u v hi hj hxy hu hv
 ·refine hg.frame k hk ?_
  rintro ⟨j,u,y,_,hy,hu,e⟩
  obtain ⟨rfl,_⟩:=Bh hy
  have hu:some l=some u:=hu
  cases hu
  exact ho ⟨b,l,_,hb,htb,hl,e⟩
 ·left
  obtain ⟨i,q,x,h1,h2,h3,h4⟩:=ho
  rw [htag] at h2
  exact ⟨i,q,x,h1,h2,h3,h4⟩
theorem D6 (ρ':Ren):∀ {l c:List Value},flatAll l=true→VRs ρ l c→VRs ρ' l c
 |[],_,_,.nil=>.nil
 |a::l,_,h,.cons hv hl=>by
  change sel (lZ a) (flatAll l) false=true at h
  rw [aG] at h
  split at h
  ·rename_i ha
   exact .cons (by rw [NM ha hv];exact H6 ρ' ha) (D6 ρ' h hl)
  ·cases h
theorem S9 (ρ':Ren){v c:Value}(h:ahy v=true)(hv:VR ρ v c):VR ρ' v c:=by
 cases hv with
 |agg hl=>exact .agg (D6 ρ' h hl)
 |tuple hl=>exact .tuple (D6 ρ' h hl)
 |bool b=>exact .bool b
 |int k n=>exact .int k n
 |string s=>exact .string s
 |_=>exact Bool.noConfusion (show false=true from h)
theorem Pj (ρ':Ren):∀ {l c:List Value},yX l=true→VRs ρ l c→VRs ρ' l c
 |[],_,_,.nil=>.nil
 |a::l,_,h,.cons hv hl=>by
  change sel (ahy a) (yX l) false=true at h
  rw [aG] at h
  split at h
  ·rename_i ha
   exact .cons (S9 ρ' ha hv) (Pj ρ' h hl)
  ·cases h
noncomputable def aws (v:Value):Option (Nat × Value):=
 match v with
 |.pointer (some a)=>guard a.spot.isNone (some (a.block,.pointer (some ⟨64,a.off,none⟩)))
 |.slice (some a) n c=>guard (a.spot.isNone && !qah a.block fP) (some (a.block,.slice (some ⟨64,a.off,none⟩) n c))
 |_=>none
theorem amL {v c x:Value}{b:Nat}{l:Loc}(h:aws v=some (b,x))(hb:ak≤b)(hl:ρ b=some l)(hv:VR ρ v c):VR (QD l) x c:=by
 have hl1:(QD l).at 64=some l:=by rw [Ren.dw (by decide)];rfl
 cases hv with
 |@ptr b' o l' hl'=>
  obtain ⟨_,h⟩:=au.1 (show guard true (some (b',Value.pointer (some ⟨64,o,none⟩)))=some (b,x) from h)
  cases h
  rw [Ren.dw (ρ:=ρ) hb,hl] at hl'
  cases hl'
  exact .ptr hl1
 |@slice b' o n c l' hl'=>
  obtain ⟨_,h⟩:=au.1 (show guard (true && !qah b' fP) (some (b',Value.slice (some ⟨64,o,none⟩) n c))=some (b,x) from h)
  cases h
  rw [Ren.dw (ρ:=ρ) hb,hl] at hl'
  cases hl'
  exact .slice hl1
 |dead a c=>
  have h:(none:Option (Nat × Value))=some (b,x):=h
  cases h
 |_=>cases h
noncomputable def QA (G:Value→List Value→Option (Value × List Value))(s:St)(args:List Value):Option (Value × St):=
 match args with
 |[x]=>aj (aws x) fun q=>guard (qaQ ak q.1) (aj (s.cells q.1) fun c=>guard (qah c.2.2 0&&flatAll c.1) (aj (G q.2 c.1) fun r=>guard (ahy r.1&&flatAll r.2) (some (r.1,putRow s q.1 r.2 c.2.1 0))))
 |_=>none
theorem vZ {C:Cfg}(hK:eX C P){n:Nat}{f:FuncId}{G:Value→List Value→Option (Value × List Value)}
  (hrun:∀ x cs t r,flatAll cs=true→G x cs=some r→∃ s1,(runN C n).1 f [x] (oz cs t)=some (r.1,s1)∧s1.cells 64=some (r.2,t,0))
  {args:List Value} {v:Value} (hv:QA G s args=some (v,s')) {aZ:List Value} (hr:HR P base ρ s w) (ha:VRs ρ args aZ) :
  Calls P f ⟨aZ⟩ w fun e w'=>∃ c ρ',e = .returned c∧Goes P base ρ s w ρ' s' w'∧VR ρ' v c:=by
 unfold QA at hv
 split at hv
 ·rename_i x
  obtain ⟨⟨b,y⟩,hq,hv⟩:=ah.1 hv
  obtain ⟨hb,hv⟩:=au.1 hv
  obtain ⟨⟨cs,t,fm⟩,hc,hv⟩:=ah.1 hv
  obtain ⟨h0,hv⟩:=au.1 hv
  obtain ⟨⟨r,cs'⟩,hG,hv⟩:=ah.1 hv
  obtain ⟨hfr,hv⟩:=au.1 hv
  simp only [qac] at h0 hfr
  have hfm:fm=0:=qaa h0.1
  subst hfm
  cases hv
  have hb:ak≤b:=qae hb
  obtain ⟨l,hl,_,hone⟩:=avN hr hb hc h0.2
  obtain ⟨s1,hrun1,hc1⟩:=hrun y cs t (r,cs') h0.2 hG
  cases ha with
  |cons h1 h2=>cases h2 with
   |nil=>
    refine ((sN hK n).1 f [y] _ _ s1 hrun1 base _ w _ hone (.cons (amL hq hb hl h1) .nil)).mono ?_
    rintro e w' ⟨c,ρ',rfl,hg,hvc⟩
    exact ⟨c,ρ,rfl,alY hr hb hc hl hg hc1 hfr.2,S9 ρ hfr.1 hvc⟩
 ·cases hv
noncomputable def dJ:St:=St.mk (.s 15 0) (.s 15 0) 64
theorem Q8 (i:Nat):dJ.tag i=none:=by
 unfold St.tag
 have:dJ.heap.get i=none:=Hp.zL ..
 rw [this]
theorem ail (P:Program)(W:World):HR P W.heap.size (fun _=>none) dJ W where
 dom:=fun _ _ h=>by cases h
 next:=qao 64
 iF:=qao _
 low:=fun i _ h=>absurd (Q8 i) h
 dO:=fun i r h=>by rw [show dJ.heap.get i=none from Hp.zL ..] at h;cases h
 fM:=fun i cs e f h=>by rw [show dJ.heap.get i=none from Hp.zL ..] at h;cases h
 rows:=fun i cs e f h=>by
  obtain ⟨h1,_⟩:=aO.1 h
  rw [show dJ.heap.get i=none from Hp.zL ..] at h1;cases h1
 maps:=fun i es c h=>by rw [show dJ.heap.get i=none from Hp.zL ..] at h;cases h
 loops:=fun i r h=>by rw [show dJ.heap.get i=none from Hp.zL ..] at h;cases h
 sep:=fun i j a b l l' hi _ _ _ _=>by rw [Q8] at hi;cases hi
theorem Goes.Ym (h:HR P base ρ s w)(hb:RowKit.Below w.heap.size w w'):Goes P base ρ s w ρ s w':=by
 refine ⟨Ren.le_refl ρ,?_,hb.os,hb.tape,hb.output,hb.size,qao _,fun b hlt _=>hb.block b hlt,fun b ho=>.inl ho,fun _ _=>rfl⟩
 refine ⟨fun i l hl=>?_,h.next,qat h.iF hb.size,h.low,h.dO,h.fM,fun i cs e f hc=>?_,fun i es c hi=>?_,fun i r hi=>?_,h.sep⟩
 ·obtain ⟨a,b,c,d⟩:=h.dom i l hl
  exact ⟨a,b,c,qai d hb.size⟩
 ·obtain ⟨l,hq⟩:=h.rows i cs e f hc
  exact ⟨l,hq.move (Ren.le_refl ρ) (hb.block _ (h.rQ (dH hc) hq.at_))⟩
 ·obtain ⟨l,hl,es',h1,h2⟩:=h.maps i es c hi
  exact ⟨l,hl,es',by rw [hb.block _ (h.dom i l hl).2.2.2];exact h1,h2⟩
 ·obtain ⟨l,hl,q,h1,h2⟩:=h.loops i r hi
  exact ⟨l,hl,q,by rw [hb.block _ (h.dom i l hl).2.2.2];exact h1,h2⟩
theorem jh {C:Cfg}(hK:eX C P){n:Nat}{f:FuncId}{G:List Value→Option Value}
  (hrun:∀ args v,yX args=true→G args=some v→∃ s1,(runN C n).1 f args dJ=some (v,s1))
  {args:List Value} {v:Value} (hv:abM G s args=some (v,s')) {aZ:List Value} (hr:HR P base ρ s w) (ha:VRs ρ args aZ) :
  Calls P f ⟨aZ⟩ w fun e w'=>∃ c ρ',e = .returned c∧Goes P base ρ s w ρ' s' w'∧VR ρ' v c:=by
 unfold abM CS at hv
 obtain ⟨u,hu,hv⟩:=ah.1 hv
 cases hv
 obtain ⟨hf,hv⟩:=au.1 hu
 obtain ⟨u,hG,hv⟩:=ah.1 hv
 obtain ⟨hfv,hv⟩:=au.1 hv
 cases hv
 obtain ⟨s1,hrun1⟩:=hrun args v hf hG
 refine ((sN hK n).1 f args _ _ s1 hrun1 w.heap.size _ w _ (ail P w) (Pj _ hf ha)).mono ?_
 rintro e w' ⟨c,ρ',rfl,hg,hvc⟩
 exact ⟨c,ρ,rfl,Goes.Ym hr (hg.below (ail P w)),S9 ρ hfv hvc⟩
theorem Nw {C:Cfg}{n:Nat}{f:FuncId}{T:List (List Value × Value)}(h:∀ p∈T,∃ s1,(runN C n).1 f p.1 dJ=some (p.2,s1)) :
  ∀ args v,yX args=true→Oa T args=some v→∃ s1,(runN C n).1 f args dJ=some (v,s1):=by
 intro args v _ hm
 induction T with
 |nil=>cases hm
 |cons p T ih=>
  have hm:sel (Iu (Y4 4) p.1 args) (some p.2) (Oa T args)=some v:=hm
  rw [aG] at hm
  split at hm
  ·rename_i hs
   cases hm
   rw [←yB (fun a b=>EX 4) hs]
   exact h p qaA
  ·exact ih (fun q hq=>h q (qam _ hq)) hm
end
end Go.Ax
namespace Go.Ax
variable [Lo]
open Go
variable {P:Program}
theorem info_lt {t:TypeId}(h:t<P.types.size):P.info? t=P.types[t]?:=by
 show Tables.info? P.toTables t=_
 unfold Tables.info?
 rw [if_pos h]
noncomputable def ahu (P:Program):Bool:=P.types.toList.all fun i=>match i.zero with
 |none=>true
 |some v=>ZU 20 v
theorem afJ (h:ahu P=true):tH P:=by
 intro t i v ht hi hv ρ
 rw [info_lt ht] at hi
 have hm:i∈P.types.toList:=by
  have:=Array.mem_of_getElem? hi
  simpa using this
 have:=List.all_eq_true.1 h i hm
 rw [hv] at this
 exact yH ρ 20 this
noncomputable def X5 (P:Program):Bool:=(qa5 P.types.size).all fun t=>match P.underlying t with
 |some (.struct fs)=>fs.toList.all fun f=>(size P f.type).isSome
 |_=>true
theorem Yi (h:X5 P=true):UW P:=by
 intro t fs ht hu f hf
 have:=List.all_eq_true.1 h t (List.mem_range.2 ht)
 rw [hu] at this
 exact Option.isSome_iff_exists.1 (List.all_eq_true.1 this f hf)
def ak2 (d:TypeDesc):Bool:=match d with
 |.named _ _=>false
 |.int _=>false
 |_=>true
theorem Ja {α:Type}{a:α}(h:(none:Option α)=some a):False:=by cases h
theorem FM {info:TypeId→Option TypeInfo}{fs:Array Field}{i:TypeInfo}(h:Made.reckonStruct info fs=some i):ak2 i.desc=true:=by
 unfold Made.reckonStruct at h
 simp only [qaI,qaV] at h
 obtain ⟨r,_,h⟩:=Option.bind_eq_some_iff.1 h
 revert h
 obtain ⟨a,b⟩:=r
 intro h
 simp only at h
 repeat' split at h
 all_goals (cases h;rfl)
theorem aaf {info:TypeId→Option TypeInfo}{d:TypeDesc}{i:TypeInfo}(h:Made.reckon info d=some i):ak2 i.desc=true:=by
 unfold Made.reckon at h
 cases d <;> try (exact (Ja h).elim)
 case pointer e=>
  simp only [qaI,qaV] at h
  obtain ⟨j,_,h⟩:=Option.bind_eq_some_iff.1 h
  split at h
  ·cases h
  ·split at h
   ·cases h
   ·obtain ⟨s,_,h⟩:=Option.bind_eq_some_iff.1 h
    cases h;rfl
  ·obtain ⟨s,_,h⟩:=Option.bind_eq_some_iff.1 h
   cases h;rfl
 case struct fs=>exact FM h
 all_goals
  simp only [qaI,qaV,Option.bind_eq_some_iff] at h
 case slice e=>obtain ⟨_,_,_,_,h⟩:=h;cases h;rfl
 case map k e=>obtain ⟨_,_,_,_,_,_,_,_,h⟩:=h;cases h;rfl
 case chan k e=>obtain ⟨_,_,_,_,h⟩:=h;cases h;rfl
 case func a b c=>obtain ⟨_,_,h⟩:=h;cases h;rfl
 case array n e=>obtain ⟨_,_,_,_,h⟩:=h;cases h;rfl
theorem aeY {t:TypeId}(ht:¬t<P.types.size){i:TypeInfo}(h:P.info? t=some i):ak2 i.desc=true:=by
 have h:Tables.info? P.toTables t=some i:=h
 unfold Tables.info? at h
 rw [if_neg ht] at h
 unfold Made.infoAt at h
 split at h
 ·cases h
 ·rw [if_neg ht] at h
  obtain ⟨d,_,h⟩:=Option.bind_eq_some_iff.1 h
  exact aaf h
noncomputable def aiW (P:Program):Bool:=(qa5 P.types.size).all fun t=>match P.underlying t with
 |some (.int .u8)=>(match size P t with
  |some 1=>true
  |_=>false)
 |_=>true
theorem agr (h:aiW P=true):∀ e,P.underlying e=some (.int .u8)→size P e=some 1:=by
 intro t hu
 by_cases ht:t<P.types.size
 ·have:=List.all_eq_true.1 h t (List.mem_range.2 ht)
  rw [hu] at this
  simp only at this
  split at this
  ·assumption
  ·cases this
 ·exfalso
  unfold Program.underlying at hu
  cases hi:P.info? t with
  |none=>rw [hi] at hu;cases hu
  |some i=>
   have:=aeY ht hi
   rw [hi] at hu
   split at hu
   ·rename_i n u _ _ _ _ _ _ _ _ _ _ e
    cases e;cases this
   ·rename_i e
    cases e
    simp only [Option.some.injEq] at hu
    rw [hu] at this;cases this
   ·cases hu
def ams (P:Program)(t:TypeId):Bool:=!P.eqGuardType P.depth t&&match P.underlying t with
 |some (.struct fs)=>!P.stoodInHeld t&&fs.toList.all fun f=>!(f.name == "_")
 |_=>true
theorem Us {C:Cfg}{l:List Nat}(hl:∀ t,C.apt t=true→t∈l)(h:l.all (ams C.P)=true):aeg C where
 guard t ht:=by
  have:=List.all_eq_true.1 h t (hl t ht)
  simp only [ams,qac,qaH] at this
  exact this.1
 held t fs ht hu:=by
  have:=List.all_eq_true.1 h t (hl t ht)
  simp only [ams,hu,qac,qaH,List.all_eq_true] at this
  exact ⟨this.2.1,fun f hf e=>by have:=this.2.2 f hf;simp [e] at this⟩
noncomputable def asr (l:List (Option Func)):Bool:=l.all fun q=>match q with
 |some fn=>(match fn.body with
  |some c=>!(fn.name == "runtime.NumGoroutine")&&qg fn.ntmps c
  |none=>true)
 |none=>true
theorem ad9 {ρ:Ren}{args aZ:List Value}(ha:VRs ρ args aZ){s':St}{v:Value}{f:Nat→Nat→Nat→Option (Value × St)}(h:atq args f=some (v,s')) :
  ∃ k1 k2 k3 x y c,aZ=[.int k1 (qaJ x),.int k2 (qaJ y),.int k3 (qaJ c)]∧f x y c=some (v,s'):=by
 unfold atq at h
 split at h
 ·obtain ⟨x,hx,h⟩:=ah.1 h
  obtain ⟨y,hy,h⟩:=ah.1 h
  obtain ⟨c,hc,h⟩:=ah.1 h
  have key:∀ {v c:Value} {n:Nat},VR ρ v c→asNat v=some n→∃ k,c = .int k (qaJ n):=by
   intro v c n hv hn
   cases hv <;> try (exact (Ja hn).elim)
   rename_i k i
   cases i with
   |ofNat m=>cases hn;exact ⟨k,rfl⟩
   |negSucc m=>cases hn
  cases ha with
  |cons h1 ha=>cases ha with
   |cons h2 ha=>cases ha with
    |cons h3 ha=>cases ha with
     |nil=>
      obtain ⟨k1,rfl⟩:=key h1 hx
      obtain ⟨k2,rfl⟩:=key h2 hy
      obtain ⟨k3,rfl⟩:=key h3 hc
      exact ⟨k1,k2,k3,x,y,c,rfl,h⟩
 ·cases h
end Go.Ax
namespace Go.Ax
open Go
noncomputable section
inductive Box (α:Type) where
 |mk (x:α)
 |bad
def dP {α β:Type}(b:Box α)(k:α→Box β):Box β:=Box.rec k .bad b
def bor {α:Type}(b c:Box α):Box α:=Box.rec .mk c b
structure JE where
 call:gX
 yield:dS
 base:Nat
 pend:List aan
 cl:Bool
abbrev ER:=List (Nat × Value)
abbrev Dfs:=List (FuncId × List Value)
abbrev JK:=JE→Tr Value→ER→Dfs→St→Option (Fr × St)
abbrev JV:=Tr Value→ER→St→Option Value
abbrev JG:=Tr Value→ER→Option Value
abbrev aw4:=gX→dS→Fr→St→Out
def YH {α:Type}:Path→Box (Tr α→Option α):=fun p=>
 List.rec (.mk fun t=>Tr.rec none (fun v _ _ _ _=>v) t)
  (fun b _ ih=>dP ih fun g=>Bool.rec (.mk fun t=>Tr.rec none (fun _ x _ _ _=>g x) t) (.mk fun t=>Tr.rec none (fun _ _ y _ _=>g y) t) b) p
def akx {α:Type}:Path→Box (α→Tr α→Tr α):=fun p=>
 List.rec (.mk fun a t=>Tr.rec (.n (some a) .e .e) (fun _ x y _ _=>.n (some a) x y) t)
  (fun b _ ih=>dP ih fun g=>Bool.rec
   (.mk fun a t=>Tr.rec (.n none (g a .e) .e) (fun v x y _ _=>.n v (g a x) y) t)
   (.mk fun a t=>Tr.rec (.n none .e (g a .e)) (fun v x y _ _=>.n v x (g a y)) t) b) p
def au8:Nat→Box (ER→Option Value):=fun k=>
 Nat.rec (.mk fun l=>List.rec none (fun p _ _=>some p.2) l) (fun _ ih=>dP ih fun g=>.mk fun l=>List.rec none (fun _ t _=>g t) l) k
def posOf (t:Nat):List Nat→Option Nat:=fun l=>List.rec none (fun a _ ih=>sel (qah a t) (some 0) (aj ih fun k=>some (qaj k))) l
def Qa (n:Nat)(ks:List Nat)(x:Operand):Box JG:=
 match x with
 |.tmp t=>sel (ltN t n) (dP (YH (path t)) fun g=>.mk fun vars _=>g vars) (Option.casesOn (posOf t ks) (.mk fun _ _=>none) fun k=>dP (au8 k) fun g=>.mk fun _ loc=>g loc)
 |.const v=>.mk fun _ _=>some v
 |.global g=>.mk fun _ _=>some (ptr g 0)
 |.func f=>.mk fun _ _=>some (.func (.func f) #[] #[])
def UC (n:Nat)(ks:List Nat):List Operand→Box (Tr Value→ER→Option (List Value)):=fun l=>
 List.rec (.mk fun _ _=>some []) (fun x _ ih=>dP (Qa n ks x) fun g=>dP ih fun r=>.mk fun vars loc=>aj (g vars loc) fun v=>aj (r vars loc) fun vs=>some (v::vs)) l
abbrev JP:=JK→JE→Value→Tr Value→ER→Dfs→St→Option (Fr × St)
def ap5 (n:Nat)(dst:Option Tmp):Box JP:=
 Option.casesOn dst (.mk fun r e _ vars loc ds s=>r e vars loc ds s) fun d=>sel (ltN d n) (dP (akx (path d)) fun g=>.mk fun r e v vars loc ds s=>r e (g v vars) loc ds s) (.mk fun r e v vars loc ds s=>r e vars ((d,v)::loc) ds s)
def Ud (n:Nat)(dst:Option Tmp)(ks:List Nat):List Nat:=Option.casesOn dst ks fun d=>sel (ltN d n) ks (d::ks)
def jl {β:Type}(n:Nat)(k:Nat→β):β:=Nat.rec (k 0) (fun m _=>k (qaj m)) n
def YD {β:Type}(z:Int)(k:Int→β):β:=Int.rec (fun n=>jl n fun n=>k (qaJ n)) (fun n=>jl n fun n=>k (Int.negSucc n)) z
def aoz (v:Option Value):Option Value:=
 match v with
 |some (.int k z)=>YD z fun z=>some (.int k z)
 |v=>v
def au4 (op:BinOp):Box (IntKind→Int→Int→Option Value):=
 match op with
 |.add=>.mk fun k a b=>YD (wrap k (ape a b)) fun z=>some (.int k z)
 |.sub=>.mk fun k a b=>YD (wrap k (ahz a b)) fun z=>some (.int k z)
 |.mul=>.mk fun k a b=>YD (wrap k (anX a b)) fun z=>some (.int k z)
 |.eql=>.mk fun _ a b=>some (.bool (eqI a b))
 |.neq=>.mk fun _ a b=>some (.bool (!eqI a b))
 |.lss=>.mk fun _ a b=>some (.bool (ltI a b))
 |.leq=>.mk fun _ a b=>some (.bool (leI a b))
 |.gtr=>.mk fun _ a b=>some (.bool (ltI b a))
 |.geq=>.mk fun _ a b=>some (.bool (leI b a))
 |.shl=>.bad
 |.shr=>.bad
 |op=>.mk fun k a b=>aoz (agO op k a b)
def Yp (C:Cfg)(op:BinOp)(t:TypeId)(x y:Operand)(a b:Value):Option Value:=guard (rO C t x y a b) (binOp C t op a b)
def avo (C:Cfg)(op:BinOp)(t:TypeId)(x y:Operand)(f:IntKind→Int→Int→Option Value)(a b:Value):Option Value:=
 match a with
 |.int k i=>match b with
  |.int k' j=>guard (gY k k') (f k i j)
  |b=>Yp C op t x y a b
 |a=>Yp C op t x y a b
def aAN (C:Cfg)(op:BinOp)(t:TypeId)(x y:Operand):Box (Value→Value→Option Value):=
 Box.rec (fun f=>.mk (avo C op t x y f)) (.mk (Yp C op t x y)) (au4 op)
def awM (P:Program)(t:TypeId):Box (List Value→Nat→Option Value):=
 Option.casesOn (isAgg P t) .bad fun g=>sel g (Option.casesOn (size P t) .bad fun n=>.mk fun cs o=>aj (takeN n (eH o cs)) fun l=>some (FY l)) (.mk fun cs o=>nth cs o)
def alU {β:Type}(v:Value)(k:Addr→Option β):Option β:=
 match v with
 |.pointer (some a)=>k a
 |_=>none
def afX {β:Type}(v:Value)(x y:Option β):Option β:=
 match v with
 |.bool c=>sel c x y
 |_=>none
def FZ {β:Type}(v:Value)(k:Addr→Nat→Option β):Option β:=
 match v with
 |.slice (some a) len _=>k a len
 |_=>none
def aAY {β:Type}(v:Value)(k:List Value→Option β):Option β:=
 match v with
 |.tuple vs=>k vs.toList
 |_=>none
def aAX (C:Cfg)(v:Value):Option Value:=
 match v with
 |.pointer (some _)=>some v
 |.func fn first _=>guard (aes C fn first.toList) (some v)
 |.iface _ _=>some v
 |_=>none
def apu (C:Cfg)(n:Nat)(ks:List Nat)(o:Op):Box JV:=
 match o with
 |.move x=>dP (Qa n ks x) fun g=>.mk fun vars loc _=>g vars loc
 |.assign x=>dP (Qa n ks x) fun g=>.mk fun vars loc _=>g vars loc
 |.pick c a b=>dP (Qa n ks c) fun gc=>dP (Qa n ks a) fun ga=>dP (Qa n ks b) fun gb=>.mk fun vars loc _=>aj (gc vars loc) fun v=>afX v (ga vars loc) (gb vars loc)
 |.binOp op t x y _=>dP (Qa n ks x) fun gx=>dP (Qa n ks y) fun gy=>dP (aAN C op t x y) fun f=>.mk fun vars loc _=>aj (gx vars loc) fun a=>aj (gy vars loc) fun b=>f a b
 |.unOp op _ x=>dP (Qa n ks x) fun g=>.mk fun vars loc _=>aj (g vars loc) fun v=>unOp op v
 |.load t a=>dP (Qa n ks a) fun g=>dP (awM C.P t) fun f=>.mk fun vars loc s=>aj (g vars loc) fun v=>alU v fun a=>aj (s.cells a.block) fun c=>f c.1 a.off
 |.fieldAddr t x i=>dP (Qa n ks x) fun g=>Option.casesOn (aj (fieldInfo C.P t i) fun f=>aj (size C.P f.type) fun m=>guard (!qah m 0) (some f.offset)) .bad fun off=>
   .mk fun vars loc _=>aj (g vars loc) fun v=>alU v fun a=>jl (qaw a.off off) fun o=>some (ptr a.block o)
 |.nilCheck x=>dP (Qa n ks x) fun g=>.mk fun vars loc _=>aj (g vars loc) fun v=>aAX C v
 |.indexAddr t x i=>dP (Qa n ks x) fun gx=>dP (Qa n ks i) fun gi=>match C.P.underlying t with
  |some (.slice e)=>Option.casesOn (size C.P e) .bad fun m=>.mk fun vars loc _=>
    aj (gx vars loc) fun x=>aj (gi vars loc) fun i=>aj (asNat i) fun i=>FZ x fun a len=>guard (ltN i len) (jl (qaw a.off (qa6 i m)) fun o=>some (ptr a.block o))
  |_=>.bad
 |.extract x i=>dP (Qa n ks x) fun g=>.mk fun vars loc _=>aj (g vars loc) fun v=>aAY v fun vs=>nth vs i
 |.makeFunc fn a b=>sel (Ov fn) (dP (UC n ks a.toList) fun ga=>dP (UC n ks b.toList) fun gb=>.mk fun vars loc _=>aj (ga vars loc) fun a=>aj (gb vars loc) fun b=>some (.func fn ⟨a⟩ ⟨b⟩)) .bad
 |.makeInterface t x=>sel (!isIface C.P t&&(C.P.underlying t).isSome) (dP (Qa n ks x) fun g=>.mk fun vars loc _=>aj (g vars loc) fun v=>some (.iface t v)) .bad
 |_=>.bad
def agA (C:Cfg)(rd:Bool)(n:Nat)(o:Oper)(r:JK):JK:=fun e vars loc ds s=>
 aj (execOp C (Fr.ev n { vars:=vars,loc:=loc,defers:=ds }) s o.op) (qI e.call e.yield rd n { vars:=vars,loc:=loc,defers:=ds } o.dst fun fr s=>r e fr.vars fr.loc fr.defers s)
def jOp (C:Cfg)(rd:Bool)(n:Nat)(ks:List Nat)(o:Oper)(put:JP)(r:JK):Box JK:=
 match o.op with
 |.alloc t=>Option.casesOn (zero C.P t) (.mk (agA C rd n o r)) fun z=>.mk fun e vars loc ds s=>jl s.next fun b=>
   put r e (ptr b 0) vars loc ds { heap:=s.heap.set b (.row z t 0),bZ:=s.bZ,next:=qaj b }
 |.box t x=>dP (Qa n ks x) fun g=>.mk fun e vars loc ds s=>aj (g vars loc) fun v=>jl s.next fun b=>
   put r e (ptr b 0) vars loc ds { heap:=s.heap.set b (.row (cellsOf v) t 0),bZ:=s.bZ,next:=qaj b }
 |.store t a x=>dP (Qa n ks a) fun ga=>dP (Qa n ks x) fun gx=>Option.casesOn (size C.P t) (.mk (agA C rd n o r)) fun m=>.mk fun e vars loc ds s=>
   aj (ga vars loc) fun v=>alU v fun a=>aj (gx vars loc) fun v=>guard (qah (aQ (cellsOf v)) m) (aj (storeCells s a.block a.off (cellsOf v)) fun s=>put r e unit vars loc ds s)
 |.call c=>match c.callee with
  |.value (.func f)=>Option.casesOn (C.ext f) (sel (C.body f).isSome (dP (UC n ks c.args.toList) fun gs=>.mk fun e vars loc ds s=>aj (gs vars loc) fun args=>aj (e.call f args s) fun q=>put r e q.1 vars loc ds q.2) (.mk (agA C rd n o r))) fun _=>.mk (agA C rd n o r)
  |_=>.mk (agA C rd n o r)
 |_=>Box.rec (fun v=>.mk fun e vars loc ds s=>aj (v vars loc s) fun x=>put r e x vars loc ds s) (.mk (agA C rd n o r)) (apu C n ks o.op)
def aik (n:Nat)(all:List Oper)(g:Option (Nat × Bool))(put:JP)(f r:JK):JK:=
 Option.casesOn g f fun _=>fun e vars loc ds s=>aj (jW n all { vars:=vars,loc:=loc,defers:=ds } g) fun b=>sel b (f e vars loc ds s) (put r e unit vars loc ds s)
def az9 (C:Cfg)(rd:Bool)(n:Nat)(all:List Oper)(ks:List Nat)(o:Oper)(r:JK):Box JK:=
 dP (ap5 n o.dst) fun put=>dP (jOp C rd n ks o put r) fun f=>.mk (aik n all o.guard put f r)
def aAW:JK:=fun _ vars loc ds s=>some ({ vars:=vars,loc:=loc,defers:=ds },s)
def axq (C:Cfg)(rd:Bool)(n:Nat)(all:List Oper):List Oper→List Nat→Box JK:=fun ops=>
 List.rec (fun _=>.mk aAW) (fun o _ ih ks=>dP (ih (Ud n o.dst ks)) fun r=>az9 C rd n all ks o r) ops
def wC (e:JE)(l:List aan):JE:={ call:=e.call,yield:=e.yield,base:=e.base,pend:=l,cl:=e.cl }
def zH (e:JE)(b:Bool):JE:={ call:=e.call,yield:=e.yield,base:=e.base,pend:=e.pend,cl:=b }
def BJ (C:Cfg)(o:Op):Bool:=
 match o with
 |.call c=>match c.callee with
  |.value x=>match x with
   |.func f=>Option.casesOn (C.insert f) false fun t=>match t with
    |.pure _=>true
    |_=>false
   |_=>true
  |_=>true
 |_=>true
def atc (C:Cfg)(rd:Bool)(n:Nat)(a:Info)(rest:List Info)(r:JK):JK:=fun e vars loc ds s=>
 aj (execOp C (Fr.ev n { vars:=vars,loc:=loc,defers:=ds }) s a.op.op) (yP C e.call e.yield rd n e.base a rest (fun cl p fr s=>r (zH (wC e p) cl) fr.vars fr.loc fr.defers s) e.cl e.pend { vars:=vars,loc:=loc,defers:=ds })
def aat (C:Cfg)(n:Nat)(o:Op):JV:=fun vars loc s=>aj (execOp C (Fr.ev n { vars:=vars,loc:=loc,defers:=[] }) s o) fun r=>match r with
 |.val v _=>some v
 |_=>none
def aja (C:Cfg)(rd:Bool)(n:Nat)(ks:List Nat)(a:Info)(rest:List Info)(put:JP)(r:JK):Box JK:=
 Gz a.cls
  (dP (bor (apu C n ks a.op.op) (.mk (aat C n a.op.op))) fun v=>.mk fun e vars loc ds s=>aj (v vars loc s) fun x=>put r e x vars loc ds s)
  fun c1=>Gz c1
   (dP (bor (apu C n ks a.op.op) (.mk (aat C n a.op.op))) fun v=>.mk fun e vars loc ds s=>aj (v vars loc s) fun x=>guard (lH s x) (put r (wC e ({ i:=a.i,op:=a.op.op,fr:={ vars:=vars,loc:=loc,defers:=ds },v:=x }::e.pend)) x vars loc ds s))
   fun c2=>Gz c2
    (.mk fun e vars loc ds s=>aj (aOp C (Fr.ev n { vars:=vars,loc:=loc,defers:=ds }) a.op.op) fun q=>jl (qaw e.base a.i) fun id=>put r (zH e false) (q.2 id) vars loc ds { heap:=s.heap.set id q.1,bZ:=s.bZ,next:=s.next })
    fun _=>sel (nC a.op.op&&BJ C a.op.op) (.mk (atc C rd n a rest r)) (jOp C rd n ks a.op put fun e vars loc ds s=>guard (vN C n s a.mask e.pend&&lg s e.base rest) (r (zH e false) vars loc ds s))
def adO (C:Cfg)(rd:Bool)(n:Nat)(all:List Oper)(ks:List Nat)(a:Info)(rest:List Info)(r:JK):Box JK:=
 dP (ap5 n a.op.dst) fun put=>dP (aja C rd n ks a rest put r) fun f=>.mk (aik n all a.op.guard put f r)
def anY (C:Cfg)(rd:Bool)(n:Nat)(all:List Oper):List Info→List Nat→Box JK:=fun l=>
 List.rec (fun _=>.mk aAW) (fun a rest ih ks=>dP (ih (Ud n a.op.dst ks)) fun r=>adO C rd n all ks a rest r) l
def afS (q:Fr × St):Out:=some (.normal,q)
def arM (n:Nat)(x:Operand):Box (Fr→Option Value):=
 match x with
 |.tmp t=>sel (ltN t n) (dP (YH (path t)) fun g=>.mk fun fr=>g fr.vars) (.mk fun fr=>fr.ev n x)
 |x=>.mk fun fr=>fr.ev n x
def ajf (C:Cfg)(n:Nat)(fn:FuncId)(rd:Bool)(id:Nat)(ops:List Oper)(draw:Bool):Box aw4:=
 sel draw (Option.casesOn (Jv ops (C.order fn id)) .bad fun l=>dP (anY C rd n ops l []) fun r=>.mk fun call yield fr s=>
   aj (r { call:=call,yield:=yield,base:=s.next,pend:=[],cl:=true } fr.vars [] fr.defers { heap:=s.heap,bZ:=s.bZ,next:=qaw s.next (aQ ops) }) afS)
  (dP (axq C rd n ops ops []) fun r=>.mk fun call yield fr s=>aj (r { call:=call,yield:=yield,base:=0,pend:=[],cl:=true } fr.vars [] fr.defers s) afS)
def Qr (C:Cfg)(n:Nat)(fn:FuncId)(rd:Bool)(c:Code):Box aw4:=
 Code.rec (motive:=fun _=>Box aw4)
  (.mk fun _ _ fr s=>some (.normal,fr,s))
  (fun id ops draw=>ajf C n fn rd id ops.toList draw)
  (fun _ _ a b=>dP a fun ra=>dP b fun rb=>.mk fun call yield fr s=>aj (ra call yield fr s) (ni (rb call yield)))
  (fun c _ _ a b=>dP (arM n c) fun g=>dP a fun ra=>dP b fun rb=>.mk fun call yield fr s=>aj (g fr) fun v=>afX v (ra call yield fr s) (rb call yield fr s))
  (fun id _ a=>dP a fun ra=>.mk fun call yield fr s=>aj (ra call yield fr s) (y8 id))
  (fun b a=>dP a fun ra=>.mk fun call yield fr s=>sJ C fn rd b (iter (ra call yield) 100000) fr s)
  (fun f params assign body _ _=>.mk fun call yield fr s=>rangeFunc C call n fn rd f params assign body fr s)
  (fun id=>.mk fun _ _ fr s=>some (.exit id,fr,s))
  (fun _ a=>sel rd (.mk fun _ _ _ _=>none) a)
  (fun _=>.mk fun _ _ fr s=>some (.normal,fr,s))
  (fun _=>.mk fun _ _ _ _=>none)
  (.mk fun _ _ fr s=>some (.ret,fr,s))
  (fun _=>.mk fun _ _ _ _=>none) c
def jFn (C:Cfg)(f:FuncId):Box (gX→dS→List Value→St→Option (Value × St)):=
 Option.casesOn (C.body f) .bad fun c=>dP (Qr C (C.vars f) f false c) fun run=>.mk fun call yield args s=>aj (run call yield (qH args) s) (finish C (Qw C call yield) f)
def amM (C:Cfg)(call:gX)(yield:dS)(f:FuncId)(args:List Value)(s:St):Option (Value × St):=
 Box.rec (fun run=>run call yield args s) (jZ C call yield f args s) (jFn C f)
def anl (C:Cfg)(call:gX)(yield:dS)(f:FuncId)(args:List Value)(s:St):Option (Value × St):=
 Option.casesOn (C.insert f) (amM C call yield f args s) fun t=>Option.casesOn (mY C t s args) (amM C call yield f args s) some
def KF (C:Cfg)(n:Nat):gX × dS:=
 Nat.rec (fun _ _ _=>none,fun _ _ _=>none) (fun _ ih=>(anl C ih.1 ih.2,rM C ih.1 ih.2)) n
end
end Go.Ax
namespace Go.Ax
open Go
theorem bK {α β:Type}{b:Box α}{k:α→Box β}{r:β}:dP b k = .mk r↔∃ a,b = .mk a∧k a = .mk r:=by
 cases b with
 |mk a=>constructor
        ·intro h;exact ⟨a,rfl,h⟩
        ·rintro ⟨a',h,h'⟩;cases h;exact h'
 |bad=>constructor
       ·intro h;cases h
       ·rintro ⟨a',h,h'⟩;cases h
theorem aeA {α:Type}{r:α}(h:Box.bad = .mk r):False:=by cases h
theorem mk_inj {α:Type}{a b:α}(h:Box.mk a = .mk b):a=b:=by cases h;rfl
theorem adb {α:Type}(p:Path):∀ (g:Tr α→Option α),YH p = .mk g→∀ t,g t=Tr.agC p t:=by
 induction p with
 |nil=>intro g h t;have h:=mk_inj h;subst h;cases t <;> rfl
 |cons b p ih=>
  intro g h t
  have h:dP (YH p) (fun g=>Bool.rec (motive:=fun _=>Box (Tr α→Option α)) (.mk fun t=>Tr.rec none (fun _ x _ _ _=>g x) t) (.mk fun t=>Tr.rec none (fun _ _ y _ _=>g y) t) b) = .mk g:=h
  obtain ⟨g',h1,h2⟩:=bK.1 h
  have ih:=ih g' h1
  cases b <;> (have h2:=mk_inj h2;subst h2;cases t with
   |e=>rfl
   |n v x y=>exact ih _)
theorem amT {α:Type}(p:Path):∀ (g:α→Tr α→Tr α),akx p = .mk g→∀ a t,g a t=Tr.agy a p t:=by
 induction p with
 |nil=>intro g h a t;have h:=mk_inj h;subst h;cases t <;> rfl
 |cons b p ih=>
  intro g h a t
  have h:dP (akx p) (fun g=>Bool.rec (motive:=fun _=>Box (α→Tr α→Tr α))
   (.mk fun a t=>Tr.rec (.n none (g a .e) .e) (fun v x y _ _=>.n v (g a x) y) t)
   (.mk fun a t=>Tr.rec (.n none .e (g a .e)) (fun v x y _ _=>.n v x (g a y)) t) b) = .mk g:=h
  obtain ⟨g',h1,h2⟩:=bK.1 h
  have ih:=ih g' h1
  cases b <;> (have h2:=mk_inj h2;subst h2;cases t with
   |e=>exact (by
     show Tr.n _ _ _=Tr.n _ _ _
     rw [ih] <;> rfl)
   |n v x y=>exact (by
     show Tr.n _ _ _=Tr.n _ _ _
     rw [ih] <;> rfl))
noncomputable def keys (l:ER):List Nat:=zO (fun p=>p.1) l
theorem asn:∀ (k:Nat) (g:ER→Option Value),au8 k = .mk g→∀ t (l:ER),posOf t (keys l)=some k→g l=nN t l:=by
 intro k
 induction k with
 |zero=>
  intro g h t l hp
  have h:=mk_inj h;subst h
  cases l with
  |nil=>cases hp
  |cons p l=>
   have hp:sel (qah p.1 t) (some 0) (aj (posOf t (keys l)) fun k=>some (qaj k))=some 0:=hp
   show some p.2=sel (qah p.1 t) (some p.2) (nN t l)
   cases hb:qah p.1 t with
   |true=>rfl
   |false=>
    rw [hb] at hp
    obtain ⟨k,_,h⟩:=ah.1 (show aj (posOf t (keys l)) (fun k=>some (qaj k))=some 0 from hp)
    cases h
 |succ k ih=>
  intro g h t l hp
  obtain ⟨g',h1,h2⟩:=bK.1 (show dP (au8 k) (fun g=>.mk fun l:ER=>List.rec none (fun _ t _=>g t) l) = .mk g from h)
  have h2:=mk_inj h2;subst h2
  cases l with
  |nil=>cases hp
  |cons p l=>
   have hp:sel (qah p.1 t) (some 0) (aj (posOf t (keys l)) fun k=>some (qaj k))=some (k+1):=hp
   show g' l=sel (qah p.1 t) (some p.2) (nN t l)
   cases hb:qah p.1 t with
   |true=>rw [hb] at hp;cases hp
   |false=>
    rw [hb] at hp
    obtain ⟨k',h3,h⟩:=ah.1 (show aj (posOf t (keys l)) (fun k=>some (qaj k))=some (k+1) from hp)
    have h:k'+1=k+1:=Option.some.inj h
    have:k'=k:=by omega
    subst this
    exact ih g' h1 t l h3
theorem agw (t:Nat):∀ (l:ER),posOf t (keys l)=none→nN t l=none:=by
 intro l
 induction l with
 |nil=>intro _;rfl
 |cons p l ih=>
  intro hp
  have hp:sel (qah p.1 t) (some 0) (aj (posOf t (keys l)) fun k=>some (qaj k))=none:=hp
  show sel (qah p.1 t) (some p.2) (nN t l)=none
  cases hb:qah p.1 t with
  |true=>rw [hb] at hp;cases hp
  |false=>
   rw [hb] at hp
   cases hq:posOf t (keys l) with
   |none=>exact ih hq
   |some k=>rw [hq] at hp;cases hp
abbrev F (vars:Tr Value)(loc:ER)(ds:Dfs):Fr:={ vars:=vars,loc:=loc,defers:=ds }
theorem ku {n:Nat}{ks:List Nat}{x:Operand}{g:JG}(h:Qa n ks x = .mk g)(vars:Tr Value)(loc:ER)(ds:Dfs)(hk:keys loc=ks):g vars loc=Fr.ev n (F vars loc ds) x:=by
 subst hk
 cases x with
 |tmp t=>
  have h:sel (ltN t n) (dP (YH (path t)) fun g=>.mk fun vars _=>g vars) (Option.casesOn (posOf t (keys loc)) (.mk fun _ _=>none) fun k=>dP (au8 k) fun g=>.mk fun _ loc=>g loc) = .mk g:=h
  show _=sel (ltN t n) (vars.get t) (nN t loc)
  cases hb:ltN t n with
  |true=>
   rw [hb] at h
   obtain ⟨g',h1,h2⟩:=bK.1 (show dP (YH (path t)) (fun g=>.mk fun (vars:Tr Value) (_:ER)=>g vars) = .mk g from h)
   have h2:=mk_inj h2;subst h2
   exact adb _ g' h1 vars
  |false=>
   rw [hb] at h
   cases hp:posOf t (keys loc) with
   |none=>
    rw [hp] at h
    have h:=mk_inj h;subst h
    exact (agw t loc hp).symm
   |some k=>
    rw [hp] at h
    obtain ⟨g',h1,h2⟩:=bK.1 (show dP (au8 k) (fun g=>.mk fun (_:Tr Value) (loc:ER)=>g loc) = .mk g from h)
    have h2:=mk_inj h2;subst h2
    exact asn k g' h1 t loc hp
 |const v=>have h:=mk_inj h;subst h;rfl
 |global v=>have h:=mk_inj h;subst h;rfl
 |func v=>have h:=mk_inj h;subst h;rfl
theorem Vb {n:Nat}{ks:List Nat}:∀ {l:List Operand} {g:Tr Value→ER→Option (List Value)},UC n ks l = .mk g→∀ (vars:Tr Value) (loc:ER) (ds:Dfs),keys loc=ks→g vars loc=evs (Fr.ev n (F vars loc ds)) l:=by
 intro l
 induction l with
 |nil=>intro g h vars loc ds hk;have h:=mk_inj h;subst h;rfl
 |cons x l ih=>
  intro g h vars loc ds hk
  obtain ⟨g1,h1,h⟩:=bK.1 (show dP (Qa n ks x) (fun g=>dP (UC n ks l) fun r=>.mk fun vars loc=>aj (g vars loc) fun v=>aj (r vars loc) fun vs=>some (v::vs)) = .mk g from h)
  obtain ⟨g2,h2,h⟩:=bK.1 h
  have h:=mk_inj h;subst h
  show aj (g1 vars loc) _=aj (Fr.ev n (F vars loc ds) x) fun v=>aj (evs (Fr.ev n (F vars loc ds)) l) fun r=>some (v::r)
  rw [ku h1 vars loc ds hk,ih h2 vars loc ds hk]
theorem asD {n:Nat}{dst:Option Tmp}{put:JP}(h:ap5 n dst = .mk put)(r:JK)(e:JE)(v:Value)(vars:Tr Value)(loc:ER)(ds:Dfs)(s:St) :
  put r e v vars loc ds s=r e (Fr.put n (F vars loc ds) dst v).vars (Fr.put n (F vars loc ds) dst v).loc ds s:=by
 cases dst with
 |none=>have h:=mk_inj h;subst h;rfl
 |some d=>
  have h:sel (ltN d n) (dP (akx (path d)) fun g=>.mk fun r e v vars loc ds s=>r e (g v vars) loc ds s) (.mk fun r e v vars loc ds s=>r e vars ((d,v)::loc) ds s) = .mk put:=h
  show _=r e (sel (ltN d n) (F (vars.set d v) loc ds) (F vars ((d,v)::loc) ds)).vars (sel (ltN d n) (F (vars.set d v) loc ds) (F vars ((d,v)::loc) ds)).loc ds s
  cases hb:ltN d n with
  |true=>
   rw [hb] at h
   obtain ⟨g',h1,h2⟩:=bK.1 (show dP (akx (path d)) (fun g=>.mk fun r e v vars loc ds s=>r e (g v vars) loc ds s) = .mk put from h)
   have h2:=mk_inj h2;subst h2
   show r e (g' v vars) loc ds s=_
   rw [amT _ g' h1];rfl
  |false=>
   rw [hb] at h
   have h:=mk_inj h;subst h;rfl
theorem put_defers (n:Nat)(vars:Tr Value)(loc:ER)(ds:Dfs)(dst:Option Tmp)(v:Value):(Fr.put n (F vars loc ds) dst v).defers=ds:=by
 cases dst with
 |none=>rfl
 |some d=>
  show (sel (ltN d n) (F (vars.set d v) loc ds) (F vars ((d,v)::loc) ds)).defers=ds
  cases ltN d n <;> rfl
theorem Uw (n:Nat)(vars:Tr Value)(loc:ER)(ds:Dfs)(dst:Option Tmp)(v:Value):keys (Fr.put n (F vars loc ds) dst v).loc=Ud n dst (keys loc):=by
 cases dst with
 |none=>rfl
 |some d=>
  show keys (sel (ltN d n) (F (vars.set d v) loc ds) (F vars ((d,v)::loc) ds)).loc=sel (ltN d n) (keys loc) (d::keys loc)
  cases ltN d n <;> rfl
theorem pJ {β:Type}(n:Nat)(k:Nat→β):jl n k=k n:=by cases n <;> rfl
theorem Xz {β:Type}(z:Int)(k:Int→β):YD z k=k z:=by
 cases z with
 |ofNat n=>show jl n (fun n=>k (qaJ n))=_;rw [pJ]
 |negSucc n=>show jl n (fun n=>k (Int.negSucc n))=_;rw [pJ]
noncomputable def yj (x:Option Value)(s:St):Option Res:=aj x fun v=>ret v s
theorem fV {α:Type}(x:Option α)(k:α→Option Value)(s:St):yj (aj x k) s=aj x fun a=>yj (k a) s:=by cases x <;> rfl
theorem D9 (b:Bool)(k:Option Value)(s:St):yj (guard b k) s=guard b (yj k s):=by cases b <;> rfl
theorem aF {α β γ:Type}(x:Option α)(k:α→Option β)(l:β→Option γ):aj (aj x k) l=aj x fun a=>aj (k a) l:=by cases x <;> rfl
theorem cZ {α β:Type}(b:Bool)(x:Option α)(k:α→Option β):aj (guard b x) k=guard b (aj x k):=by cases b <;> rfl
theorem aI {α β:Type}(x:Option α){k l:α→Option β}(h:∀ a,k a=l a):aj x k=aj x l:=by cases x with
 |none=>rfl
 |some a=>exact h a
theorem ag3 (v:Option Value):aoz v=v:=by
 cases v with
 |none=>rfl
 |some v=>
  cases v <;> first|rfl|skip
  rename_i k z
  exact Xz z fun z=>some (Value.int k z)
theorem am8 (op:BinOp)(f:IntKind→Int→Int→Option Value)(h:au4 op = .mk f)(k:IntKind)(a b:Int):f k a b=agO op k a b:=by
 cases op <;> first
  |exact (aeA h).elim
  |(have h:=mk_inj h;subst h;first|rfl|exact Xz _ _|exact ag3 _)
theorem aeK {op:BinOp}{f:IntKind→Int→Int→Option Value}(h:au4 op = .mk f):op ≠ .shl∧op ≠ .shr:=by
 constructor <;> (intro e;subst e;exact aeA h)
theorem agP (C:Cfg){op:BinOp}(h:op ≠ .shl∧op ≠ .shr)(t:TypeId)(k k':IntKind)(i j:Int):binOp C t op (.int k i) (.int k' j)=guard (gY k k') (agO op k i j):=by
 cases op <;> first|rfl|exact absurd rfl h.1|exact absurd rfl h.2
theorem asu {C:Cfg}{op:BinOp}{t:TypeId}{x y:Operand}{f:Value→Value→Option Value}(h:aAN C op t x y = .mk f)(a b:Value):f a b=Yp C op t x y a b:=by
 have h:Box.rec (motive:=fun _=>Box (Value→Value→Option Value)) (fun f=>.mk (avo C op t x y f)) (.mk (Yp C op t x y)) (au4 op) = .mk f:=h
 cases hj:au4 op with
 |bad=>rw [hj] at h;have h:=mk_inj h;subst h;rfl
 |mk g=>
  rw [hj] at h;have h:=mk_inj h;subst h
  cases a <;> try rfl
  cases b <;> try rfl
  rename_i k i k' j
  show guard (gY k k') (g k i j)=guard (rO C t x y (.int k i) (.int k' j)) (binOp C t op (.int k i) (.int k' j))
  rw [agP C (aeK hj),am8 op g hj];rfl
theorem aow {P:Program}{t:TypeId}{f:List Value→Nat→Option Value}(h:awM P t = .mk f)(cs:List Value)(o:Nat):f cs o=Jb P t o cs:=by
 have h:Option.casesOn (isAgg P t) .bad (fun g=>sel g (Option.casesOn (size P t) .bad fun n=>.mk fun cs o=>aj (takeN n (eH o cs)) fun l=>some (FY l)) (.mk fun cs o=>nth cs o))=Box.mk f:=h
 show _=aj (isAgg P t) fun g=>sel g (aj (size P t) fun n=>aj (takeN n (eH o cs)) fun l=>some (FY l)) (nth cs o)
 cases hg:isAgg P t with
 |none=>rw [hg] at h;cases h
 |some g=>
  rw [hg] at h
  cases g with
  |false=>have h:=mk_inj h;subst h;rfl
  |true=>
   have h:Option.casesOn (size P t) .bad (fun n=>.mk fun cs o=>aj (takeN n (eH o cs)) fun l=>some (FY l))=Box.mk f:=h
   cases hs:size P t with
   |none=>rw [hs] at h;cases h
   |some n=>rw [hs] at h;have h:=mk_inj h;subst h;rfl
theorem ah7 {C:Cfg}{n:Nat}{ks:List Nat}{o:Op}{v:JV}(h:apu C n ks o = .mk v)(vars:Tr Value)(loc:ER)(ds:Dfs)(s:St)(hk:keys loc=ks) :
  yj (v vars loc s) s=execOp C (Fr.ev n (F vars loc ds)) s o:=by
 cases o <;> try exact (aeA h).elim
 case move x=>
  obtain ⟨g,h1,h⟩:=bK.1 h
  have h:=mk_inj h;subst h
  show yj (g vars loc) s=aj (Fr.ev n (F vars loc ds) x) fun v=>ret v s
  rw [ku h1 vars loc ds hk];rfl
 case assign x=>
  obtain ⟨g,h1,h⟩:=bK.1 h
  have h:=mk_inj h;subst h
  show yj (g vars loc) s=aj (Fr.ev n (F vars loc ds) x) fun v=>ret v s
  rw [ku h1 vars loc ds hk];rfl
 case pick c a b=>
  obtain ⟨g,h1,h⟩:=bK.1 h
  obtain ⟨ga,h2,h⟩:=bK.1 h
  obtain ⟨gb,h3,h⟩:=bK.1 h
  have h:=mk_inj h;subst h
  show yj (aj (g vars loc) fun v=>afX v (ga vars loc) (gb vars loc)) s=_
  rw [ku h1 vars loc ds hk,ku h2 vars loc ds hk,ku h3 vars loc ds hk,fV]
  apply aI
  intro v
  cases v <;> try rfl
  rename_i b
  cases b <;> rfl
 case load t a=>
  obtain ⟨g,h1,h⟩:=bK.1 h
  obtain ⟨f,h2,h⟩:=bK.1 h
  have h:=mk_inj h;subst h
  show yj (aj (g vars loc) fun v=>alU v fun a=>aj (s.cells a.block) fun c=>f c.1 a.off) s=_
  rw [ku h1 vars loc ds hk,fV]
  apply aI
  intro v
  cases v <;> try rfl
  rename_i p
  cases p with
  |none=>rfl
  |some p=>
   show yj (aj (s.cells p.block) fun c=>f c.1 p.off) s=aj (aj (s.cells p.block) fun c=>Jb C.P t p.off c.1) fun v=>ret v s
   rw [fV,aF]
   apply aI
   intro c
   rw [aow h2];rfl
 case nilCheck x=>
  obtain ⟨g,h1,h⟩:=bK.1 h
  have h:=mk_inj h;subst h
  show yj (aj (g vars loc) fun v=>aAX C v) s=_
  rw [ku h1 vars loc ds hk,fV]
  apply aI
  intro v
  cases v <;> try rfl
  ·rename_i p;cases p <;> rfl
  ·exact D9 _ _ _
 case binOp op t x y m=>
  obtain ⟨gx,h1,h⟩:=bK.1 h
  obtain ⟨gy,h2,h⟩:=bK.1 h
  obtain ⟨f,h3,h⟩:=bK.1 h
  have h:=mk_inj h;subst h
  show yj (aj (gx vars loc) fun a=>aj (gy vars loc) fun b=>f a b) s=aj (Fr.ev n (F vars loc ds) x) fun a=>aj (Fr.ev n (F vars loc ds) y) fun b=>guard (rO C t x y a b) (aj (binOp C t op a b) fun v=>ret v s)
  rw [ku h1 vars loc ds hk,ku h2 vars loc ds hk,fV]
  apply aI;intro a
  rw [fV]
  apply aI;intro b
  rw [asu h3]
  exact D9 _ _ _
 case unOp op m x=>
  obtain ⟨g,h1,h⟩:=bK.1 h
  have h:=mk_inj h;subst h
  show yj (aj (g vars loc) fun v=>unOp op v) s=_
  rw [ku h1 vars loc ds hk,fV];rfl
 case makeInterface t x=>
  have h:sel (!isIface C.P t&&(C.P.underlying t).isSome) (dP (Qa n ks x) fun g=>.mk fun vars loc _=>aj (g vars loc) fun v=>some (.iface t v)) .bad=Box.mk v:=h
  show _=guard (!isIface C.P t&&(C.P.underlying t).isSome) (aj (Fr.ev n (F vars loc ds) x) fun x=>ret (.iface t x) s)
  cases hb:(!isIface C.P t&&(C.P.underlying t).isSome) with
  |false=>rw [hb] at h;cases h
  |true=>
   rw [hb] at h
   obtain ⟨g,h1,h⟩:=bK.1 h
   have h:=mk_inj h;subst h
   show yj (aj (g vars loc) fun v=>some (.iface t v)) s=_
   rw [ku h1 vars loc ds hk,fV];rfl
 case makeFunc fn a b=>
  have h:sel (Ov fn) (dP (UC n ks a.toList) fun ga=>dP (UC n ks b.toList) fun gb=>.mk fun vars loc _=>aj (ga vars loc) fun a=>aj (gb vars loc) fun b=>some (.func fn ⟨a⟩ ⟨b⟩)) .bad=Box.mk v:=h
  show _=guard (Ov fn) (aj (evs (Fr.ev n (F vars loc ds)) a.toList) fun a=>aj (evs (Fr.ev n (F vars loc ds)) b.toList) fun b=>ret (.func fn ⟨a⟩ ⟨b⟩) s)
  cases hb:Ov fn with
  |false=>rw [hb] at h;cases h
  |true=>
   rw [hb] at h
   obtain ⟨ga,h1,h⟩:=bK.1 h
   obtain ⟨gb,h2,h⟩:=bK.1 h
   have h:=mk_inj h;subst h
   show yj (aj (ga vars loc) fun a=>aj (gb vars loc) fun b=>some (.func fn ⟨a⟩ ⟨b⟩)) s=_
   rw [Vb h1 vars loc ds hk,Vb h2 vars loc ds hk,fV]
   apply aI;intro a
   rw [fV];rfl
 case fieldAddr t x i=>
  obtain ⟨g,h1,h⟩:=bK.1 h
  cases hf:fieldInfo C.P t i with
  |none=>rw [hf] at h;cases h
  |some fd=>
   rw [hf] at h
   cases hz:size C.P fd.type with
   |none=>
    have h:(Option.casesOn (aj (size C.P fd.type) fun m=>guard (!qah m 0) (some fd.offset)) Box.bad fun off=>
      .mk fun vars loc _=>aj (g vars loc) fun v=>alU v fun a=>jl (qaw a.off off) fun o=>some (ptr a.block o):Box JV) = .mk v:=h
    rw [hz] at h
    cases h
   |some m=>
    have h:(Option.casesOn (aj (size C.P fd.type) fun m=>guard (!qah m 0) (some fd.offset)) Box.bad fun off=>
      .mk fun vars loc _=>aj (g vars loc) fun v=>alU v fun a=>jl (qaw a.off off) fun o=>some (ptr a.block o):Box JV) = .mk v:=h
    rw [hz] at h
    show _=aj (Fr.ev n (F vars loc ds) x) fun v=>match v with
     |.pointer (some a)=>aj (fieldInfo C.P t i) fun f=>aj (size C.P f.type) fun n=>guard (!qah n 0) (ret (ptr a.block (qaw a.off f.offset)) s)
     |_=>none
    have h:(Option.casesOn (guard (!qah m 0) (some fd.offset)) Box.bad fun off=>
      .mk fun vars loc _=>aj (g vars loc) fun v=>alU v fun a=>jl (qaw a.off off) fun o=>some (ptr a.block o):Box JV) = .mk v:=h
    cases hb:(!qah m 0) with
    |false=>rw [hb] at h;cases h
    |true=>
     rw [hb] at h
     have h:=mk_inj h;subst h
     show yj (aj (g vars loc) fun v=>alU v fun a=>jl (qaw a.off fd.offset) fun o=>some (ptr a.block o)) s=_
     rw [ku h1 vars loc ds hk,fV]
     apply aI;intro v
     cases v <;> try rfl
     rename_i p
     cases p with
     |none=>rfl
     |some p=>
      show yj (jl (qaw p.off fd.offset) fun o=>some (ptr p.block o)) s=aj (fieldInfo C.P t i) fun f=>aj (size C.P f.type) fun n=>guard (!qah n 0) (ret (ptr p.block (qaw p.off f.offset)) s)
      rw [pJ,hf]
      show _=aj (size C.P fd.type) fun n=>guard (!qah n 0) (ret (ptr p.block (qaw p.off fd.offset)) s)
      rw [hz]
      show _=guard (!qah m 0) (ret (ptr p.block (qaw p.off fd.offset)) s)
      rw [hb];rfl
 case indexAddr t x i=>
  obtain ⟨gx,h1,h⟩:=bK.1 h
  obtain ⟨gi,h2,h⟩:=bK.1 h
  cases hu:C.P.underlying t with
  |none=>rw [hu] at h;cases h
  |some d=>
   rw [hu] at h
   cases d <;> try exact (aeA h).elim
   rename_i e
   have h:(Option.casesOn (size C.P e) Box.bad fun m=>.mk fun vars loc _=>
    aj (gx vars loc) fun x=>aj (gi vars loc) fun i=>aj (asNat i) fun i=>FZ x fun a len=>guard (ltN i len) (jl (qaw a.off (qa6 i m)) fun o=>some (ptr a.block o)):Box JV) = .mk v:=h
   cases hz:size C.P e with
   |none=>rw [hz] at h;cases h
   |some m=>
    rw [hz] at h
    have h:=mk_inj h;subst h
    show yj (aj (gx vars loc) fun x=>aj (gi vars loc) fun i=>aj (asNat i) fun i=>FZ x fun a len=>guard (ltN i len) (jl (qaw a.off (qa6 i m)) fun o=>some (ptr a.block o))) s=kN C (Fr.ev n (F vars loc ds)) s t x i
    unfold kN
    rw [hu,ku h1 vars loc ds hk,ku h2 vars loc ds hk,fV]
    apply aI;intro x
    rw [fV]
    apply aI;intro y
    rw [fV]
    apply aI;intro j
    cases x <;> try rfl
    rename_i p len cap
    cases p with
    |none=>rfl
    |some p=>
     show yj (guard (ltN j len) (jl (qaw p.off (qa6 j m)) fun o=>some (ptr p.block o))) s=guard (ltN j len) (aj (size C.P e) fun n=>ret (ptr p.block (qaw p.off (qa6 j n))) s)
     rw [hz,pJ,D9];rfl
 case extract x i=>
  obtain ⟨g,h1,h⟩:=bK.1 h
  have h:=mk_inj h;subst h
  show yj (aj (g vars loc) fun v=>aAY v fun vs=>nth vs i) s=_
  rw [ku h1 vars loc ds hk,fV]
  apply aI;intro v
  cases v <;> try rfl
end Go.Ax
