import Derived.Test.YtaplfdajjdbomaaGreatDoorDq
import Derived.WideShapes
import Derived.WideKeyArgs
import Derived.Test.YtaplfdajjdbomaaGreatDoorDd
import Derived.Test.YtaplfdajjdbomaaGreatDoorEc
open Int renaming ofNat→qaa,ofNat_eq_natCast→qad
open Nat renaming eq_of_beq_eq_true→qab,zero_le→qac
open Bool renaming and_eq_true→qae
set_option maxRecDepth 1000000
set_option maxHeartbeats 0
set_option linter.unusedSectionVars false
set_option linter.unusedSimpArgs false
set_option linter.unusedVariables false
namespace Go.Ax
open Go Go.Proofs
noncomputable section
theorem abL:∀ {n:Nat} {cs:List Value},iW (repeatL' n [.int .u64]) cs→CS cs=true∧n=cs.length
 |0,_,h=>by cases h;exact ⟨rfl,rfl⟩
 |n+1,_,h=>by
  cases h with
  |cons h hs=>
   obtain ⟨h1,h2⟩:=abL (n:=n) hs
   obtain ⟨x,rfl,hw⟩:=h.yx
   simp [Lit.wf,IntKind.min,IntKind.max,IntKind.signed,IntKind.bits] at hw
   cases x with
   |negSucc x=>omega
   |ofNat x=>
    refine ⟨?_,by simp [h2]⟩
    show sel (Nat.ble x 18446744073709551615) (CS _) false=true
    rw [h1,gU (show x≤18446744073709551615 by simp only [qad] at hw;omega)]
    rfl
theorem agb:∀ {n:Nat} {cs:List Value},iW (repeatL' n [.int .u8]) cs→allB cs=true∧n=cs.length
 |0,_,h=>by cases h;exact ⟨rfl,rfl⟩
 |n+1,_,h=>by
  cases h with
  |cons h hs=>
   obtain ⟨h1,h2⟩:=agb (n:=n) hs
   obtain ⟨x,rfl,hw⟩:=h.yx
   simp [Lit.wf,IntKind.min,IntKind.max,IntKind.signed,IntKind.bits] at hw
   cases x with
   |negSucc x=>omega
   |ofNat x=>
    refine ⟨?_,by simp [h2]⟩
    show sel (iy .u8 .u8&&ltN x 256) (allB _) false=true
    rw [h1,show ltN x 256=true from gU (by simp only [qad] at hw;omega)]
    rfl
theorem agQ [Lo]{base:Nat}{ρ:Ren}{s:St}{w:World}(h:HR Tryz.prog base ρ s w)(hk:EF s=true):Laid w:=by
 unfold EF at hk
 split at hk
 ·rename_i t x e hc
  simp only [qae] at hk
  obtain ⟨h1,h2⟩:=hk
  have h1:=qab h1
  subst h1
  cases hu:ofHandle Tryz.prog x with
  |none=>rw [hu] at h2;cases h2
  |some u=>
   rw [hu] at h2
   have h2:u=259:=qab h2
   subst h2
   obtain ⟨l,hat,a,fz,⟨e9,ha,he9⟩,hv,_,h0,_⟩:=h.rows 0 _ _ _ hc
   have he9:=(he9 (.inl rfl)).symm
   subst he9
   rw [Ren.Qr (by show 0<32;omega)] at hat
   cases hat
   obtain ⟨_,hsz,_⟩:=h0 rfl
   obtain ⟨y,hy,hvy⟩:=hv 0 _ rfl
   refine ⟨e,fz,?_⟩
   have:a=#[.iface 458 (.agg #[hdl Tryz.prog 259])]:=by
    have hs1:a.size=1:=hsz
    cases hvy with
    |iface _ hvy=>cases hvy with
     |agg hvy=>cases hvy with
      |cons hvy hn=>cases hn with
       |nil=>
        rw [KW xg hvy hu] at hy
        apply Array.ext
        ·simpa using hs1
        ·intro j j1 j2
         have:j=0:=by omega
         subst this
         have hy:a[0]? = some (.iface 458 (.agg #[hdl Tryz.prog 259])):=hy
         have:=(Array.getElem?_eq_some_iff.1 hy).2
         simpa using this
   rw [←this]
   exact ha
 ·cases hk
theorem ae7 [Lo]{C:Cfg}{L:List (Nat × Con)}{f0:FuncId}(hc:∀ {W:World},Laid W→Calls Tryz.prog f0 #[] W fun e w'=>e = .returned (.bool true)∧RowKit.Below W.heap.size W w')(hL:dI Tryz.prog C L) :
  dI Tryz.prog C ((f0,.closed EF)::L):=by
 intro f t h args s v s' hv base ρ w aW hr ha
 have h':sel (Nat.beq f0 f) (some (Con.closed EF)) (dQ L f)=some t:=h
 rw [aG] at h'
 split at h'
 ·rename_i hb
  cases h'
  have hf:f0=f:=qab hb
  subst hf
  unfold lJ at hv
  cases args with
  |nil=>
   obtain ⟨hk,hv⟩:=au.1 hv
   cases hv
   cases ha
   exact (hc (agQ hr hk)).mono fun e w' ⟨he,hb⟩=>⟨_,ρ,he,Goes.XE hr hb,.bool _⟩
  |cons a l=>cases hv
 ·exact hL f t h' args s v s' hv base ρ w aW hr ha
theorem an4 (lo:Lo)(ρ:Ren):@VRs lo ρ row0 [.iface 458 (.agg #[hdl Tryz.prog 259])]:=
 .cons (.iface _ (.agg (.cons (Xu ρ xg 259) .nil))) .nil
theorem ac6 {f:FuncId}{comps:List fM}{aW:List Value}{bn:List Loc}{W:World}(h:nN Tryz.prog W comps aW bn)(hlen:(lH comps).length≤31)(hL:Laid W)
  (hrun:∀ t,∃ C n,(∀ lo:Lo,@dS lo C Tryz.prog)∧(runK KM C n).1 f (bH comps) (oQ (aP comps) [(0,row0,t)]) (fun q=>some q.1)=some (.bool true)):Calls Tryz.prog f ⟨aW⟩ W fun e w'=>e = .returned (.bool true)∧RowKit.Below W.heap.size W w':=by
 obtain ⟨t,fz,hg⟩:=hL
 obtain ⟨C,n,hK,hrun⟩:=hrun t
 refine ais hK h hlen (G:=[(0,row0,t)]) (fun x hx=>?_) (fun x hx=>?_) (aeo (K:=KM) (by decide) bI aY hrun)
 ·obtain rfl:x=(0,row0,t):=by simpa using hx
  show 0<dW
  decide
 ·obtain rfl:x=(0,row0,t):=by simpa using hx
  exact ⟨_,fz,hg,fun lo ρ=>an4 lo ρ⟩
theorem Ap {ks:List AK}{k:AK}{c:List je}(h:jX (k::ks) c):∃ a l,c=a::l∧ajb k a∧jX ks l:=by
 cases h with
 |cons h hs=>exact ⟨_,_,rfl,h,hs⟩
theorem yx {k:IntKind}{a:je}(h:ajb (.int k) a):∃ n,a = .raw (.int k n):=by cases h;exact ⟨_,rfl⟩
theorem ZL {c:List je}(h:jX [] c):c=[]:=by cases h;rfl
theorem ai7 {a:je}(h:ajb (.sl tW [.int .u64]) a):a = .raw (.slice none 0 0)∨a = .raw dB∨∃ W n,a = .sl W tW n∧CS W=true∧n=W.length:=by
 cases h with
 |nil=>exact .inl rfl
 |dead=>exact .inr (.inl rfl)
 |row _ _ cs n h0 hl h=>exact .inr (.inr ⟨cs,n,rfl,abL h⟩)
theorem aiX {a:je}(h:ajb (.sl tB [.int .u8]) a):a = .raw (.slice none 0 0)∨a = .raw dB∨∃ W n,a = .sl W tB n∧allB W=true∧n=W.length:=by
 cases h with
 |nil=>exact .inl rfl
 |dead=>exact .inr (.inl rfl)
 |row _ _ cs n h0 hl h=>exact .inr (.inr ⟨cs,n,rfl,agb h⟩)
def ksQ:List AK:=[.int .i64,.int .i64,.int .i64,.int .i64,.int .i64]
def ksA:List AK:=[.int .i64,.sl tW [.int .u64]]
def ksB:List AK:=[.sl tB [.int .u8]]
theorem aj7 {W:World}{c1 c2 c3:List je}{x1 x2 x3:List Value}{l1 l2 l3:List Loc}(h1:dM Tryz.prog W c1 x1 l1)(a1:jX ksQ c1)(h2:dM Tryz.prog W c2 x2 l2)(a2:jX ksA c2)(h3:dM Tryz.prog W c3 x3 l3)(a3:jX ksB c3) :
  ∃ k a v c h e d b x,x3=[x]∧nN Tryz.prog W [qA k a v c h,nA e d,.one b] [.agg ⟨x1⟩,.agg ⟨x2⟩,x] (l1++(l2++(l3++[])))∧
   (d = .raw (.slice none 0 0)∨d = .raw dB∨∃ W n,d = .sl W tW n∧CS W=true∧n=W.length)∧(b = .raw (.slice none 0 0)∨b = .raw dB∨∃ W n,b = .sl W tB n∧allB W=true∧n=W.length):=by
 obtain ⟨_,_,rfl,k1,a1⟩:=Ap a1
 obtain ⟨_,_,rfl,k2,a1⟩:=Ap a1
 obtain ⟨_,_,rfl,k3,a1⟩:=Ap a1
 obtain ⟨_,_,rfl,k4,a1⟩:=Ap a1
 obtain ⟨_,_,rfl,k5,a1⟩:=Ap a1
 obtain rfl:=ZL a1
 obtain ⟨k,rfl⟩:=yx k1
 obtain ⟨a,rfl⟩:=yx k2
 obtain ⟨v,rfl⟩:=yx k3
 obtain ⟨c,rfl⟩:=yx k4
 obtain ⟨h,rfl⟩:=yx k5
 obtain ⟨_,_,rfl,k6,a2⟩:=Ap a2
 obtain ⟨d,_,rfl,k7,a2⟩:=Ap a2
 obtain rfl:=ZL a2
 obtain ⟨e,rfl⟩:=yx k6
 obtain ⟨b,_,rfl,k8,a3⟩:=Ap a3
 obtain rfl:=ZL a3
 cases h3 with
 |cons hf hr hv h4=>
  cases h4
  exact ⟨k,a,v,c,h,e,d,b,_,rfl,.agg h1 (.agg h2 (.one (.cons hf hr hv .nil) .nil)),ai7 k7,aiX k8⟩
theorem anE {k a v c h e:Int}{d b:je}:(lH [qA k a v c h,nA e d,.one b]).length≤31:=by
 cases d <;> cases b <;> exact Nat.le_of_ble_eq_true rfl
abbrev tQ:TypeId:=23
abbrev tAs:TypeId:=27
abbrev tBs:TypeId:=28
theorem ayh:OZ Tryz.prog 6 tQ=some ksQ:=by kernel_rfl
theorem ayy:OZ Tryz.prog 6 tAs=some ksA:=by kernel_rfl
theorem ayA:OZ Tryz.prog 6 tBs=some ksB:=by kernel_rfl
theorem avm:(match Tryz.prog.underlying tQ with|some (.struct _)=>true|_=>false)=true:=by kernel_rfl
theorem auO:(match Tryz.prog.underlying tAs with|some (.struct _)=>true|_=>false)=true:=by kernel_rfl
theorem aw9:Tryz.prog.underlying tBs=some (.slice tB):=by kernel_rfl
theorem Pn {W:World}{base:Nat}{t:TypeId}{v:Value}(ht:(match Tryz.prog.underlying t with|some (.struct _)=>true|_=>false)=true)(h:Value.okWide Tryz.prog W .any base t v):∃ cs,v = .agg cs:=by
 unfold Value.okWide at h
 split at ht
 ·rename_i fs hu
  rw [hu] at h
  obtain ⟨cs,h1,_⟩:=h
  exact ⟨cs,h1⟩
 ·cases ht
theorem ad1 {f:FuncId}(hf:∀ {W:World} {c1 c2 c3:List je} {x1 x2 x3:List Value} {l1 l2 l3:List Loc},dM Tryz.prog W c1 x1 l1→jX ksQ c1→dM Tryz.prog W c2 x2 l2→jX ksA c2→dM Tryz.prog W c3 x3 l3→jX ksB c3→Laid W→
   ∃ x,x3=[x]∧Calls Tryz.prog f #[.agg ⟨x1⟩,.agg ⟨x2⟩,x] W fun e w'=>e = .returned (.bool true)∧RowKit.Below W.heap.size W w')
  {H:Type} {enc:TypeId × Value→H} {W:World} {base b:Nat} {hd:Bool} {v0 v1 v2:Value} {d0 d1 d2:DataW H} {p0 p1 p2:List MemPlace}
  (h0:DataW.Trod enc Tryz.prog W b (fun _=>true) hd tQ v0 d0 p0) (h1:DataW.Trod enc Tryz.prog W b (fun _=>true) hd tAs v1 d1 p1) (h2:DataW.Trod enc Tryz.prog W b (fun _=>true) hd tBs v2 d2 p2)
  (k0:Value.okWide Tryz.prog W .any base tQ v0) (k1:Value.okWide Tryz.prog W .any base tAs v1) (k2:Value.okWide Tryz.prog W .any base tBs v2) (hL:Laid W) :
  Calls Tryz.prog f #[v0,v1,v2] W fun e w'=>e = .returned (.bool true)∧RowKit.Below W.heap.size W w':=by
 obtain ⟨a0,rfl⟩:=Pn avm k0
 obtain ⟨a1,rfl⟩:=Pn auO k1
 obtain ⟨a,n,c,rfl⟩:=WideShapes.okWide_slice aw9 k2
 obtain ⟨f0,h0⟩:=h0
 obtain ⟨f1,h1⟩:=h1
 obtain ⟨f2,h2⟩:=h2
 obtain ⟨c1,l1,m1,q1⟩:=FI ayh h0
 obtain ⟨c2,l2,m2,q2⟩:=FI ayy h1
 obtain ⟨c3,l3,m3,q3⟩:=FI ayA h2
 obtain ⟨x,hx,hC⟩:=hf m1 q1 m2 q2 m3 q3 hL
 cases hx
 exact hC
theorem OO {H:Type}{enc:TypeId × Value→H}{P:Program}(hl:laidOutB P=true){W W':World}(hb:RowKit.Below W.heap.size W W'){t:TypeId}(ht:(P.readableRec t&&decide (t<P.types.size))=true){v:Value}{d:DataW H}{p:List MemPlace}{sp:Nat→Bool}
  (h:DataW.Trod enc P W 0 (fun _=>true) true t v d p) (hlt:∀ x∈p,x.block<W.heap.size) (hs:∀ x∈p,sp x.block=true):DataW.Trod enc P W' 0 sp true t v d p:=by
 simp only [qae,decide_eq_true_eq] at ht
 exact WideElems.Trod_stays hl ht.1 ht.2 h (fun x hx=>hb.same (hlt x hx)) hs
theorem jE {α:Type}{c:Bool}{x y r:α}(hx:c=true→x=r)(hy:c=false→y=r):sel c x y=r:=by
 cases c
 ·exact hy rfl
 ·exact hx rfl
theorem axb {X:List Value}(h:(Fn.qT X).1=0):Fn.qTo X=true:=by unfold Fn.qTo;exact jG h
theorem axh {X:List Value}(h:(Fn.gT X).1=0):Fn.gTo X=true:=by unfold Fn.gTo;exact jG h
theorem ofNat_toNat {k:Int}(h:0≤k):qaa k.toNat=k:=by simp only [qad];omega
theorem b_q {k a v c h:Int}(hq:Fn.qOk k a v c h=true) :
  Fn.rE (Fn.qL k a v c h)=0∧Fn.rA (Fn.qL k a v c h)=0∧qaa (Fn.r0 (Fn.qL k a v c h))=k∧qaa (Fn.r1 (Fn.qL k a v c h))=a∧qaa (Fn.r2 (Fn.qL k a v c h))=v∧qaa (Fn.r3 (Fn.qL k a v c h))=c∧qaa (Fn.r4 (Fn.qL k a v c h))=h:=by
 obtain ⟨h1,h2,p0,p1,p2,p3,p4⟩:=ado (qab hq)
 have ht:Fn.qTo (Fn.qL k a v c h)=true:=axb (congrArg Prod.fst h1)
 have e0:Fn.r0 (Fn.qL k a v c h)=k.toNat:=by unfold Fn.r0;rw [ht];show Fn.q0 _=_;unfold Fn.q0;rw [h2]
 have e1:Fn.r1 (Fn.qL k a v c h)=a.toNat:=by unfold Fn.r1;rw [ht];show Fn.q1 _=_;unfold Fn.q1;rw [h2]
 have e2:Fn.r2 (Fn.qL k a v c h)=v.toNat:=by unfold Fn.r2;rw [ht];show Fn.q2 _=_;unfold Fn.q2;rw [h2]
 have e3:Fn.r3 (Fn.qL k a v c h)=c.toNat:=by unfold Fn.r3;rw [ht];show Fn.q3 _=_;unfold Fn.q3;rw [h2]
 have e4:Fn.r4 (Fn.qL k a v c h)=h.toNat:=by unfold Fn.r4;rw [ht];show Fn.q4 _=_;unfold Fn.q4;rw [h2]
 rw [e0,e1,e2,e3,e4]
 exact ⟨by unfold Fn.rE;rw [ht];rfl,by unfold Fn.rA;rw [ht];rfl,ofNat_toNat p0,ofNat_toNat p1,ofNat_toNat p2,ofNat_toNat p3,ofNat_toNat p4⟩
theorem b_a {e:Int}{W:List Value}(hW:CS W=true)(ha:Fn.aOk e W=true) :
  Fn.gTo (Fn.aBy e W)=true∧qaa (Fn.vY (Fn.aBy e W))=e∧Fn.gNs (Fn.aBy e W)=bC W∧Fn.gWw (Fn.aBy e W)=W:=by
 obtain ⟨h1,h2⟩:=ZT hW
 rw [Xf]
 obtain ⟨g1,g2,g3,g4⟩:=akF h2 (qab ha)
 refine ⟨axh (congrArg Prod.fst g1),by rw [g2];exact ofNat_toNat g4,g3,?_⟩
 unfold Fn.gWw
 rw [g3]
 exact h1.symm
theorem amG {X:List Value}(h:Fn.acU X=false)(ht:Fn.gTo X=true):Fn.gNs X=[]:=by
 unfold Fn.acU at h
 rw [ht] at h
 have h:sel (Fn.gZ X) false true=false:=h
 cases hz:Fn.gZ X with
 |true=>exact List.length_eq_zero_iff.1 (qab hz)
 |false=>rw [hz] at h;cases h
theorem ank {X:List Value}(h:Fn.acU X=true):Fn.gTo X=true:=by
 unfold Fn.acU at h
 cases ht:Fn.gTo X with
 |true=>rfl
 |false=>rw [ht] at h;cases h
theorem ax2 {e:Int}{W:List Value}(hW:CS W=true)(ha:Fn.aOk e W=true)(hn:Fn.acU (Fn.aBy e W)=false) :
  qaa (Fn.gE (Fn.aBy e W))=e∧Fn.gFe (Fn.aBy e W)=0∧Fn.gFa (Fn.aBy e W)=0∧W=[]:=by
 obtain ⟨h1,h2,h3,h4⟩:=b_a hW ha
 refine ⟨by unfold Fn.gE;rw [h1];exact h2,by unfold Fn.gFe;rw [h1];rfl,by unfold Fn.gFa;rw [h1];rfl,?_⟩
 rw [←h4]
 unfold Fn.gWw
 rw [amG hn h1]
 rfl
theorem ah3 {W:List Value}(h:W=[]):Fn.yG W []=true:=by rw [h];exact QT _
theorem axu {e:Int}{W:List Value}(hW:CS W=true)(ha:Fn.aOk e W=true):Fn.yG W (Fn.gWw (Fn.aBy e W))=true:=by
 rw [(b_a hW ha).2.2.2]
 exact QT _
theorem avZ {B:List Value}(h:Fn.rE B=0):(Fn.qT B).1=0∧Fn.qTo B=true:=by
 have:Fn.qTo B=true:=by
  unfold Fn.rE at h
  cases ht:Fn.qTo B with
  |true=>rfl
  |false=>rw [ht] at h;cases h
 exact ⟨qab this,this⟩
theorem b_r {B:List Value}(hB:allB B=true)(h:Fn.rE B=0) :
  Fn.qOk (qaa (Fn.r0 B)) (qaa (Fn.r1 B)) (qaa (Fn.r2 B)) (qaa (Fn.r3 B)) (qaa (Fn.r4 B))=true∧Fn.qL (qaa (Fn.r0 B)) (qaa (Fn.r1 B)) (qaa (Fn.r2 B)) (qaa (Fn.r3 B)) (qaa (Fn.r4 B))=B:=by
 obtain ⟨h1,ht⟩:=avZ h
 obtain ⟨g1,g2⟩:=Zo hB h1
 have e0:Fn.r0 B=(Fn.qQ B).1:=by unfold Fn.r0;rw [ht];rfl
 have e1:Fn.r1 B=(Fn.qQ B).2.1:=by unfold Fn.r1;rw [ht];rfl
 have e2:Fn.r2 B=(Fn.qQ B).2.2.1:=by unfold Fn.r2;rw [ht];rfl
 have e3:Fn.r3 B=(Fn.qQ B).2.2.2.1:=by unfold Fn.r3;rw [ht];rfl
 have e4:Fn.r4 B=(Fn.qQ B).2.2.2.2:=by unfold Fn.r4;rw [ht];rfl
 rw [e0,e1,e2,e3,e4]
 exact ⟨jG g1,g2⟩
theorem SK {A B:List Value}(h:A=B):Fn.Fg A B=true:=by rw [h];exact adR _
theorem asA {B:List Value}(h:Fn.gFe B=0):Fn.gTo B=true:=by
 unfold Fn.gFe at h
 cases ht:Fn.gTo B with
 |true=>rfl
 |false=>rw [ht] at h;cases h
theorem b_g {B:List Value}(hB:allB B=true)(ht:Fn.gTo B=true):Fn.aOk (qaa (Fn.vY B)) (Fn.gWw B)=true∧Fn.aBy (qaa (Fn.vY B)) (Fn.gWw B)=B:=by
 obtain ⟨g1,g2,g3⟩:=Wn hB (qab ht)
 have e:bC (Fn.gWw B)=Fn.gNs B:=Va _
 rw [Xf]
 unfold Fn.aOk
 rw [e]
 exact ⟨jG g1,g2⟩
theorem axN {B:List Value}(hB:allB B=true)(hn:Fn.acU B=false)(h:Fn.gFe B=0):Fn.aOk (qaa (Fn.gE B)) []=true∧Fn.aBy (qaa (Fn.gE B)) []=B:=by
 have ht:=asA h
 obtain ⟨g1,g2⟩:=b_g hB ht
 have e:Fn.gWw B=[]:=by unfold Fn.gWw;rw [amG hn ht];rfl
 have e2:Fn.gE B=Fn.vY B:=by unfold Fn.gE;rw [ht];rfl
 rw [e] at g1 g2
 rw [e2]
 exact ⟨g1,g2⟩
theorem TQ {a:Int}{n:Nat}(h:qaa n=a):eqI a (qaa n)=true:=by rw [h];exact BL _
theorem axt {a:Bool}(ha:a=true):(true&&(a&&true))=true:=by rw [ha];rfl
theorem n2 {x y:Nat}(hx:x=0)(hy:y=0):(!(eqI (qaa x) 0&&(eqI (qaa y) 0&&true)))=false:=by rw [hx,hy];rfl
theorem n5 {x0 x1 x2 x3 x4:Nat}{k a v c h:Int}(h0:qaa x0=k)(h1:qaa x1=a)(h2:qaa x2=v)(h3:qaa x3=c)(h4:qaa x4=h) :
  (!(eqI (qaa x0) k&&(eqI (qaa x1) a&&(eqI (qaa x2) v&&(eqI (qaa x3) c&&(eqI (qaa x4) h&&true))))))=false:=by
 rw [h0,h1,h2,h3,h4,BL,BL,BL,BL,BL]
 rfl
theorem axg {n:Nat}(h:eqI (qaa n) 0=true):n=0:=by
 rw [iM] at h
 simp only [decide_eq_true_eq,qad] at h
 omega
theorem aj2 {B:List Value}(hB:allB B=true)(hb:B.length≤400):(Fn.gWw B).length≤400:=by
 have:=(V7 hB hb).1
 unfold Fn.gWw
 have e:∀ ns:List Nat,(wL ns).length=ns.length:=fun ns=>by rw [←aU];exact rU ns
 rw [e]
 exact this
theorem ax4 {e:Int}{W:List Value}(hW:CS W=true)(ha:Fn.aOk e W=true)(hwl:W.length≤400):Fn.okW (Fn.gWw (Fn.aBy e W)) (Fn.gLn (Fn.aBy e W))=true:=by
 obtain ⟨h1,h2,h3,h4⟩:=b_a hW ha
 rw [h4]
 have h5:(bC W).length=W.length:=by unfold bC;simp
 refine abx hW ?_ ?_
 ·unfold Fn.gLn
  rw [h3,h5]
 ·unfold Fn.gLn
  rw [h3,h5]
  exact hwl
theorem Oj {A B:List Value}(h:A=B):some (Value.bool (Fn.Fg A B))=some (.bool true):=by rw [SK h]
variable [Lo]
def aun:List (Nat × Con):=
 (6,.tree (zo Tryz.prog Rz))::(14,.tree (zo Tryz.prog (rdG aqc)))::(16,.tree (zo Tryz.prog (rdG ayB)))::(9,.tree (zo Tryz.prog aul)) ::
 (11,.tree (zo Tryz.prog (am4 tB Fn.okL Fn.Fg)))::(37,.tree (zo Tryz.prog (am4 tW Fn.okW Fn.yG)))::[]
theorem aoR {C:Cfg}:dI Tryz.prog C aun:=
 dI.ase asX.gives (dI.ase (told arW (amx ak2)).gives (dI.ase (told aq6 (amx aoB)).gives (dI.ase akn.gives
  (dI.zo (fun lo=>@qJ lo) aq2.gives (dI.ase aui.gives dI.nil)))))
def CU:Cfg:={ CB with ext:=eH [],insert:=eH ((19,.closed EF)::aun) }
def bl3 (k a v c h e:Int)(W B:List Value)(n m:Nat):Option Value:=sel (true&&(true&&((m.mul 1).beq (aQ B)&&flatAll B))) (sel (true&&Fn.okL B m) (sel (eqI (qaa (Fn.rE B)) 0) (sel (Fn.qOk (qaa (Fn.r0 B)) (qaa (Fn.r1 B)) (qaa (Fn.r2 B)) (qaa (Fn.r3 B)) (qaa (Fn.r4 B))) (sel (true&&(true&&(((Fn.qLn (qaa (Fn.r0 B)) (qaa (Fn.r1 B)) (qaa (Fn.r2 B)) (qaa (Fn.r3 B)) (qaa (Fn.r4 B))).succ.mul 1).beq (aQ (Fn.qL (qaa (Fn.r0 B)) (qaa (Fn.r1 B)) (qaa (Fn.r2 B)) (qaa (Fn.r3 B)) (qaa (Fn.r4 B))))&&flatAll (Fn.qL (qaa (Fn.r0 B)) (qaa (Fn.r1 B)) (qaa (Fn.r2 B)) (qaa (Fn.r3 B)) (qaa (Fn.r4 B)))))) (sel (true&&(true&&((m.mul 1).beq (aQ B)&&flatAll B))) (sel (true&&(true&&(Fn.okL (bJ 0 (Fn.qL (qaa (Fn.r0 B)) (qaa (Fn.r1 B)) (qaa (Fn.r2 B)) (qaa (Fn.r3 B)) (qaa (Fn.r4 B)))) (Fn.qLn (qaa (Fn.r0 B)) (qaa (Fn.r1 B)) (qaa (Fn.r2 B)) (qaa (Fn.r3 B)) (qaa (Fn.r4 B))).succ&&Fn.okL B m))) (sel (true&&(true&&((m.mul 1).beq (aQ B)&&flatAll B))) (sel (true&&Fn.okL B m) (sel (Fn.acU B) (sel (true&&(true&&(((Fn.gLn B).mul 1).beq (aQ (Fn.gWw B))&&flatAll (Fn.gWw B)))) (sel (true&&(true&&Fn.okW (bJ 0 (Fn.gWw B)) (Fn.gLn B))) (sel (Fn.aOk (qaa (Fn.vY B)) (bJ 0 (Fn.gWw B))) (sel (Fn.Fg (bJ 0 (Fn.qL (qaa (Fn.r0 B)) (qaa (Fn.r1 B)) (qaa (Fn.r2 B)) (qaa (Fn.r3 B)) (qaa (Fn.r4 B)))) B) (sel (true&&(true&&(((Fn.aLn (qaa (Fn.vY B)) (bJ 0 (Fn.gWw B))).succ.mul 1).beq (aQ (Fn.aBy (qaa (Fn.vY B)) (bJ 0 (Fn.gWw B))))&&flatAll (Fn.aBy (qaa (Fn.vY B)) (bJ 0 (Fn.gWw B)))))) (sel (true&&(true&&((m.mul 1).beq (aQ B)&&flatAll B))) (sel (true&&(true&&(Fn.okL (bJ 0 (Fn.aBy (qaa (Fn.vY B)) (bJ 0 (Fn.gWw B)))) (Fn.aLn (qaa (Fn.vY B)) (bJ 0 (Fn.gWw B))).succ&&Fn.okL B m))) (some (Value.bool (Fn.Fg (bJ 0 (Fn.aBy (qaa (Fn.vY B)) (bJ 0 (Fn.gWw B)))) B))) none) none) none) (some (Value.bool false))) (sel (Fn.Fg (bJ 0 (Fn.qL (qaa (Fn.r0 B)) (qaa (Fn.r1 B)) (qaa (Fn.r2 B)) (qaa (Fn.r3 B)) (qaa (Fn.r4 B)))) B) (some (Value.bool false)) (some (Value.bool false)))) none) none) (sel (eqI (qaa (Fn.gFe B)) 0) (sel (Fn.aOk (qaa (Fn.gE B)) []) (sel (Fn.Fg (bJ 0 (Fn.qL (qaa (Fn.r0 B)) (qaa (Fn.r1 B)) (qaa (Fn.r2 B)) (qaa (Fn.r3 B)) (qaa (Fn.r4 B)))) B) (sel (true&&(true&&(((Fn.aLn (qaa (Fn.gE B)) []).succ.mul 1).beq (aQ (Fn.aBy (qaa (Fn.gE B)) []))&&flatAll (Fn.aBy (qaa (Fn.gE B)) [])))) (sel (true&&(true&&((m.mul 1).beq (aQ B)&&flatAll B))) (sel (true&&(true&&(Fn.okL (bJ 0 (Fn.aBy (qaa (Fn.gE B)) [])) (Fn.aLn (qaa (Fn.gE B)) []).succ&&Fn.okL B m))) (some (Value.bool (Fn.Fg (bJ 0 (Fn.aBy (qaa (Fn.gE B)) [])) B))) none) none) none) (some (Value.bool false))) (sel (Fn.Fg (bJ 0 (Fn.qL (qaa (Fn.r0 B)) (qaa (Fn.r1 B)) (qaa (Fn.r2 B)) (qaa (Fn.r3 B)) (qaa (Fn.r4 B)))) B) (some (Value.bool false)) (some (Value.bool false)))) (some (Value.bool (Fn.Fg (bJ 0 (Fn.qL (qaa (Fn.r0 B)) (qaa (Fn.r1 B)) (qaa (Fn.r2 B)) (qaa (Fn.r3 B)) (qaa (Fn.r4 B)))) B))))) none) none) none) none) none) (sel (true&&(true&&((m.mul 1).beq (aQ B)&&flatAll B))) (sel (true&&Fn.okL B m) (sel (Fn.acU B) (sel (true&&(true&&(((Fn.gLn B).mul 1).beq (aQ (Fn.gWw B))&&flatAll (Fn.gWw B)))) (sel (true&&(true&&Fn.okW (bJ 0 (Fn.gWw B)) (Fn.gLn B))) (sel (Fn.aOk (qaa (Fn.vY B)) (bJ 0 (Fn.gWw B))) (some (Value.bool false)) (some (Value.bool false))) none) none) (sel (eqI (qaa (Fn.gFe B)) 0) (sel (Fn.aOk (qaa (Fn.gE B)) []) (some (Value.bool false)) (some (Value.bool false))) (some (Value.bool false)))) none) none)) (sel (true&&(true&&((m.mul 1).beq (aQ B)&&flatAll B))) (sel (true&&Fn.okL B m) (sel (Fn.acU B) (sel (true&&(true&&(((Fn.gLn B).mul 1).beq (aQ (Fn.gWw B))&&flatAll (Fn.gWw B)))) (sel (true&&(true&&Fn.okW (bJ 0 (Fn.gWw B)) (Fn.gLn B))) (sel (Fn.aOk (qaa (Fn.vY B)) (bJ 0 (Fn.gWw B))) (sel (true&&(true&&(((Fn.aLn (qaa (Fn.vY B)) (bJ 0 (Fn.gWw B))).succ.mul 1).beq (aQ (Fn.aBy (qaa (Fn.vY B)) (bJ 0 (Fn.gWw B))))&&flatAll (Fn.aBy (qaa (Fn.vY B)) (bJ 0 (Fn.gWw B)))))) (sel (true&&(true&&((m.mul 1).beq (aQ B)&&flatAll B))) (sel (true&&(true&&(Fn.okL (bJ 0 (Fn.aBy (qaa (Fn.vY B)) (bJ 0 (Fn.gWw B)))) (Fn.aLn (qaa (Fn.vY B)) (bJ 0 (Fn.gWw B))).succ&&Fn.okL B m))) (some (Value.bool (Fn.Fg (bJ 0 (Fn.aBy (qaa (Fn.vY B)) (bJ 0 (Fn.gWw B)))) B))) none) none) none) (some (Value.bool false))) none) none) (sel (eqI (qaa (Fn.gFe B)) 0) (sel (Fn.aOk (qaa (Fn.gE B)) []) (sel (true&&(true&&(((Fn.aLn (qaa (Fn.gE B)) []).succ.mul 1).beq (aQ (Fn.aBy (qaa (Fn.gE B)) []))&&flatAll (Fn.aBy (qaa (Fn.gE B)) [])))) (sel (true&&(true&&((m.mul 1).beq (aQ B)&&flatAll B))) (sel (true&&(true&&(Fn.okL (bJ 0 (Fn.aBy (qaa (Fn.gE B)) [])) (Fn.aLn (qaa (Fn.gE B)) []).succ&&Fn.okL B m))) (some (Value.bool (Fn.Fg (bJ 0 (Fn.aBy (qaa (Fn.gE B)) [])) B))) none) none) none) (some (Value.bool false))) (some (Value.bool true)))) none) none)) none) none
def asB (k a v c h e:Int)(W B:List Value)(n m:Nat)(R:Option Value):Option Value:=sel (true&&(true&&((n.mul 1).beq (aQ W)&&flatAll W))) (sel (true&&(true&&Fn.okW W n)) (sel (Fn.aOk e W) (sel (true&&(true&&(((Fn.aLn e W).succ.mul 1).beq (aQ (Fn.aBy e W))&&flatAll (Fn.aBy e W)))) (sel (true&&Fn.okL (bJ 0 (Fn.aBy e W)) (Fn.aLn e W).succ) (sel (Fn.acU (bJ 0 (Fn.aBy e W))) (sel (eqI e (qaa (Fn.vY (bJ 0 (Fn.aBy e W))))) (sel (true&&(true&&((n.mul 1).beq (aQ W)&&flatAll W))) (sel (true&&(true&&(((Fn.gLn (bJ 0 (Fn.aBy e W))).mul 1).beq (aQ (Fn.gWw (bJ 0 (Fn.aBy e W))))&&flatAll (Fn.gWw (bJ 0 (Fn.aBy e W)))))) (sel (true&&(true&&(Fn.okW W n&&Fn.okW (bJ 0 (Fn.gWw (bJ 0 (Fn.aBy e W)))) (Fn.gLn (bJ 0 (Fn.aBy e W)))))) (sel (!Fn.yG W (bJ 0 (Fn.gWw (bJ 0 (Fn.aBy e W))))) (some (Value.bool false)) R) none) none) none) (some (Value.bool false))) (sel (eqI e (qaa (Fn.gE (bJ 0 (Fn.aBy e W))))) (sel (true&&(true&&((n.mul 1).beq (aQ W)&&flatAll W))) (sel (true&&(Fn.okW W n&&true)) (sel (!Fn.yG W []) (some (Value.bool false)) (sel (!(eqI (qaa (Fn.gFe (bJ 0 (Fn.aBy e W)))) 0&&(eqI (qaa (Fn.gFa (bJ 0 (Fn.aBy e W)))) 0&&true))) (some (Value.bool false)) R)) none) none) (some (Value.bool false)))) none) none) R) none) none
def amV (k a v c h e:Int)(W B:List Value)(n m:Nat)(R:Option Value):Option Value:=sel (Fn.aOk e []) (sel (true&&(true&&(((Fn.aLn e []).succ.mul 1).beq (aQ (Fn.aBy e []))&&flatAll (Fn.aBy e [])))) (sel (true&&Fn.okL (bJ 0 (Fn.aBy e [])) (Fn.aLn e []).succ) (sel (Fn.acU (bJ 0 (Fn.aBy e []))) (sel (eqI e (qaa (Fn.vY (bJ 0 (Fn.aBy e []))))) (sel (true&&(true&&(((Fn.gLn (bJ 0 (Fn.aBy e []))).mul 1).beq (aQ (Fn.gWw (bJ 0 (Fn.aBy e []))))&&flatAll (Fn.gWw (bJ 0 (Fn.aBy e [])))))) (sel (true&&(Fn.okW (bJ 0 (Fn.gWw (bJ 0 (Fn.aBy e [])))) (Fn.gLn (bJ 0 (Fn.aBy e [])))&&true)) (sel (!Fn.yG [] (bJ 0 (Fn.gWw (bJ 0 (Fn.aBy e []))))) (some (Value.bool false)) R) none) none) (some (Value.bool false))) (sel (eqI e (qaa (Fn.gE (bJ 0 (Fn.aBy e []))))) (sel (!(eqI (qaa (Fn.gFe (bJ 0 (Fn.aBy e [])))) 0&&(eqI (qaa (Fn.gFa (bJ 0 (Fn.aBy e [])))) 0&&true))) (some (Value.bool false)) R) (some (Value.bool false)))) none) none) R
def bl1 (k a v c h e:Int)(W B:List Value)(n m:Nat)(R:Option Value):Option Value:=sel (Fn.qOk k a v c h) (sel (true&&(true&&(((Fn.qLn k a v c h).succ.mul 1).beq (aQ (Fn.qL k a v c h))&&flatAll (Fn.qL k a v c h)))) (sel (true&&Fn.okL (bJ 0 (Fn.qL k a v c h)) (Fn.qLn k a v c h).succ) (sel (!(eqI (qaa (Fn.r0 (bJ 0 (Fn.qL k a v c h)))) k&&(eqI (qaa (Fn.r1 (bJ 0 (Fn.qL k a v c h)))) a&&(eqI (qaa (Fn.r2 (bJ 0 (Fn.qL k a v c h)))) v&&(eqI (qaa (Fn.r3 (bJ 0 (Fn.qL k a v c h)))) c&&(eqI (qaa (Fn.r4 (bJ 0 (Fn.qL k a v c h)))) h&&true)))))) (some (Value.bool false)) (sel (!(eqI (qaa (Fn.rE (bJ 0 (Fn.qL k a v c h)))) 0&&(eqI (qaa (Fn.rA (bJ 0 (Fn.qL k a v c h)))) 0&&true))) (some (Value.bool false)) R)) none) none) R
theorem afO (k a v c h e:Int)(W B:List Value)(n m:Nat)(t:TypeId):(runK KM CU 60).1 4 (bH [qA k a v c h,nA e (.sl W tW n),aS B tB m]) (oQ (aP [qA k a v c h,nA e (.sl W tW n),aS B tB m]) [(0,row0,t)]) (fun q=>some q.1)=sel (ltI 60 (qaa n)) (some (Value.bool true)) (sel (ltI 400 (qaa m)) (some (Value.bool true)) (bl1 k a v c h e W B n m (asB k a v c h e W B n m (bl3 k a v c h e W B n m)))):=by kernel_rfl
theorem agE (k a v c h e:Int)(W B:List Value)(n m:Nat)(t:TypeId):(runK KM CU 60).1 4 (bH [qA k a v c h,nA e (.sl W tW n),aV (.slice none 0 0)]) (oQ (aP [qA k a v c h,nA e (.sl W tW n),aV (.slice none 0 0)]) [(0,row0,t)]) (fun q=>some q.1)=sel (ltI 60 (qaa n)) (some (Value.bool true)) (bl1 k a v c h e W B n m (asB k a v c h e W B n m (some (Value.bool true)))):=by kernel_rfl
theorem ag9 (k a v c h e:Int)(W B:List Value)(n m:Nat)(t:TypeId):(runK KM CU 60).1 4 (bH [qA k a v c h,nA e (.sl W tW n),aV dB]) (oQ (aP [qA k a v c h,nA e (.sl W tW n),aV dB]) [(0,row0,t)]) (fun q=>some q.1)=sel (ltI 60 (qaa n)) (some (Value.bool true)) (bl1 k a v c h e W B n m (asB k a v c h e W B n m (some (Value.bool true)))):=by kernel_rfl
theorem ahf (k a v c h e:Int)(W B:List Value)(n m:Nat)(t:TypeId):(runK KM CU 60).1 4 (bH [qA k a v c h,nA e (.raw (.slice none 0 0)),aS B tB m]) (oQ (aP [qA k a v c h,nA e (.raw (.slice none 0 0)),aS B tB m]) [(0,row0,t)]) (fun q=>some q.1)=sel (ltI 400 (qaa m)) (some (Value.bool true)) (bl1 k a v c h e W B n m (amV k a v c h e W B n m (bl3 k a v c h e W B n m))):=by kernel_rfl
theorem ag7 (k a v c h e:Int)(W B:List Value)(n m:Nat)(t:TypeId):(runK KM CU 60).1 4 (bH [qA k a v c h,nA e (.raw (.slice none 0 0)),aV (.slice none 0 0)]) (oQ (aP [qA k a v c h,nA e (.raw (.slice none 0 0)),aV (.slice none 0 0)]) [(0,row0,t)]) (fun q=>some q.1)=bl1 k a v c h e W B n m (amV k a v c h e W B n m (some (Value.bool true))):=by kernel_rfl
theorem aip (k a v c h e:Int)(W B:List Value)(n m:Nat)(t:TypeId):(runK KM CU 60).1 4 (bH [qA k a v c h,nA e (.raw (.slice none 0 0)),aV dB]) (oQ (aP [qA k a v c h,nA e (.raw (.slice none 0 0)),aV dB]) [(0,row0,t)]) (fun q=>some q.1)=bl1 k a v c h e W B n m (amV k a v c h e W B n m (some (Value.bool true))):=by kernel_rfl
theorem ajy (k a v c h e:Int)(W B:List Value)(n m:Nat)(t:TypeId):(runK KM CU 60).1 4 (bH [qA k a v c h,nA e (.raw dB),aS B tB m]) (oQ (aP [qA k a v c h,nA e (.raw dB),aS B tB m]) [(0,row0,t)]) (fun q=>some q.1)=sel (ltI 400 (qaa m)) (some (Value.bool true)) (bl1 k a v c h e W B n m (amV k a v c h e W B n m (bl3 k a v c h e W B n m))):=by kernel_rfl
theorem agY (k a v c h e:Int)(W B:List Value)(n m:Nat)(t:TypeId):(runK KM CU 60).1 4 (bH [qA k a v c h,nA e (.raw dB),aV (.slice none 0 0)]) (oQ (aP [qA k a v c h,nA e (.raw dB),aV (.slice none 0 0)]) [(0,row0,t)]) (fun q=>some q.1)=bl1 k a v c h e W B n m (amV k a v c h e W B n m (some (Value.bool true))):=by kernel_rfl
theorem ahZ (k a v c h e:Int)(W B:List Value)(n m:Nat)(t:TypeId):(runK KM CU 60).1 4 (bH [qA k a v c h,nA e (.raw dB),aV dB]) (oQ (aP [qA k a v c h,nA e (.raw dB),aV dB]) [(0,row0,t)]) (fun q=>some q.1)=bl1 k a v c h e W B n m (amV k a v c h e W B n m (some (Value.bool true))):=by kernel_rfl
theorem TT {k a v c h e:Int}{W B:List Value}{n m:Nat}{R:Option Value}  (hR:R=some (.bool true)):bl1 k a v c h e W B n m R=some (.bool true):=by
 unfold bl1
 simp only [aa7]
 refine jE (fun hq=>?_) (fun hq=>?_)
 ·obtain ⟨q1,q2,q3,q4,q5,q6,q7⟩:=b_q hq
  refine iK (f_q) ?_
  refine iK (and1 axT) ?_
  refine Y1 (n5 q3 q4 q5 q6 q7) ?_
  refine Y1 (n2 q1 q2) ?_
  exact hR
 ·exact hR
theorem ajj {k a v c h e:Int}{W B:List Value}{n m:Nat}{R:Option Value}(hW:CS W=true)(hn:n=W.length)(hw:Fn.okW W n=true)(w1:(true&&(true&&((n.mul 1).beq (aQ W)&&flatAll W)))=true)(hwl:W.length≤400)(hR:R=some (.bool true)):asB k a v c h e W B n m R=some (.bool true):=by
 unfold asB
 simp only [aa7]
 refine iK (w1) ?_
 refine iK (and1 (and1 hw)) ?_
 refine jE (fun ha=>?_) (fun ha=>?_)
 ·obtain ⟨a1,a2,a3,a4⟩:=b_a (W:=W) hW ha
  refine iK (f_a hwl) ?_
  refine iK (and1 (aqz hwl)) ?_
  refine jE (fun hy=>?_) (fun hy=>?_)
  ·refine iK (TQ a2) ?_
   refine iK (w1) ?_
   refine iK (f_g) ?_
   refine iK (ajO hw (ax4 (W:=W) hW ha hwl)) ?_
   refine Y1 (avT (axu (W:=W) hW ha)) ?_
   exact hR
  ·obtain ⟨u1,u2,u3,u4⟩:=ax2 (W:=W) hW ha hy
   refine iK (TQ u1) ?_
   refine iK (w1) ?_
   refine iK (axt hw) ?_
   refine Y1 (avT (ah3 u4)) ?_
   refine Y1 (n2 u2 u3) ?_
   exact hR
 ·exact hR
theorem Qd {k a v c h e:Int}{W B:List Value}{n m:Nat}{R:Option Value}(hwl:([]:List Value).length≤400)(hR:R=some (.bool true)):amV k a v c h e W B n m R=some (.bool true):=by
 unfold amV
 simp only [aa7]
 refine jE (fun ha=>?_) (fun ha=>?_)
 ·obtain ⟨a1,a2,a3,a4⟩:=b_a (W:=[]) rfl ha
  refine iK (f_a hwl) ?_
  refine iK (and1 (aqz hwl)) ?_
  refine jE (fun hy=>?_) (fun hy=>?_)
  ·refine iK (TQ a2) ?_
   refine iK (f_g) ?_
   refine iK (axt (ax4 (W:=[]) rfl ha hwl)) ?_
   refine Y1 (avT (axu (W:=[]) rfl ha)) ?_
   exact hR
  ·obtain ⟨u1,u2,u3,u4⟩:=ax2 (W:=[]) rfl ha hy
   refine iK (TQ u1) ?_
   refine Y1 (n2 u2 u3) ?_
   exact hR
 ·exact hR
theorem ao0 {k a v c h e:Int}{W B:List Value}{n m:Nat}(hB:allB B=true)(alh:B.length≤400)(hb:Fn.okL B m=true)(b1:(true&&(true&&((m.mul 1).beq (aQ B)&&flatAll B)))=true)(hgw:Fn.okW (Fn.gWw B) (Fn.gLn B)=true):bl3 k a v c h e W B n m=some (.bool true):=by
 unfold bl3
 simp only [aa7]
 refine iK (b1) ?_
 refine iK (and1 hb) ?_
 refine jE (fun hr=>?_) (fun hr=>?_)
 ·obtain ⟨r1,r2⟩:=b_r hB (axg hr)
  refine iK (r1) ?_
  refine iK (f_q) ?_
  refine iK (b1) ?_
  refine iK (ajO axT hb) ?_
  refine iK (b1) ?_
  refine iK (and1 hb) ?_
  refine jE (fun hy=>?_) (fun hy=>?_)
  ·obtain ⟨g1,g2⟩:=b_g hB (ank hy)
   refine iK (f_g) ?_
   refine iK (and1 (and1 hgw)) ?_
   refine iK (g1) ?_
   refine iK (SK r2) ?_
   refine iK (f_a (aj2 hB alh)) ?_
   refine iK (b1) ?_
   refine iK (ajO (aqz (aj2 hB alh)) hb) ?_
   exact Oj g2
  ·refine jE (fun hf=>?_) (fun hf=>?_)
   ·obtain ⟨g1,g2⟩:=axN hB hy (axg hf)
    refine iK (g1) ?_
    refine iK (SK r2) ?_
    refine iK (f_a (qac _)) ?_
    refine iK (b1) ?_
    refine iK (ajO (aqz (qac _)) hb) ?_
    exact Oj g2
   ·exact Oj r2
 ·refine iK (b1) ?_
  refine iK (and1 hb) ?_
  refine jE (fun hy=>?_) (fun hy=>?_)
  ·obtain ⟨g1,g2⟩:=b_g hB (ank hy)
   refine iK (f_g) ?_
   refine iK (and1 (and1 hgw)) ?_
   refine iK (g1) ?_
   refine iK (f_a (aj2 hB alh)) ?_
   refine iK (b1) ?_
   refine iK (ajO (aqz (aj2 hB alh)) hb) ?_
   exact Oj g2
  ·refine jE (fun hf=>?_) (fun hf=>?_)
   ·obtain ⟨g1,g2⟩:=axN hB hy (axg hf)
    refine iK (g1) ?_
    refine iK (f_a (qac _)) ?_
    refine iK (b1) ?_
    refine iK (ajO (aqz (qac _)) hb) ?_
    exact Oj g2
   ·rfl
theorem avJ (k a v c h e:Int)(W B:List Value)(n m:Nat)(t:TypeId)(hW:CS W=true)(hn:n=W.length)(hB:allB B=true)(hm:m=B.length):(runK KM CU 60).1 4 (bH [qA k a v c h,nA e (.sl W tW n),aS B tB m]) (oQ (aP [qA k a v c h,nA e (.sl W tW n),aS B tB m]) [(0,row0,t)]) (fun q=>some q.1)=some (.bool true):=by
 refine (afO k a v c h e W B n m t).trans ?_
 refine jE (fun _=>rfl) (fun g1=>?_)
 refine jE (fun _=>rfl) (fun g2=>?_)
 have axr:n≤60:=Pv g1
 have hw:Fn.okW W n=true:=abx hW hn (by omega)
 have w1:=aec hn (EX hW)
 have hwl:W.length≤400:=by omega
 have hm4:m≤400:=Pv g2
 have hb:Fn.okL B m=true:=ahg hB hm (by omega)
 have b1:=aec hm (jJ hB)
 have hgw:=awU hB (show B.length≤400 by omega)
 exact TT (ajj hW hn hw w1 hwl (ao0 hB (show B.length≤400 by omega) hb b1 hgw))
theorem au0 (k a v c h e:Int)(W B:List Value)(n m:Nat)(t:TypeId)(hW:CS W=true)(hn:n=W.length):(runK KM CU 60).1 4 (bH [qA k a v c h,nA e (.sl W tW n),aV (.slice none 0 0)]) (oQ (aP [qA k a v c h,nA e (.sl W tW n),aV (.slice none 0 0)]) [(0,row0,t)]) (fun q=>some q.1)=some (.bool true):=by
 refine (agE k a v c h e W B n m t).trans ?_
 refine jE (fun _=>rfl) (fun g1=>?_)
 have axr:n≤60:=Pv g1
 have hw:Fn.okW W n=true:=abx hW hn (by omega)
 have w1:=aec hn (EX hW)
 have hwl:W.length≤400:=by omega
 exact TT (ajj hW hn hw w1 hwl rfl)
theorem awg (k a v c h e:Int)(W B:List Value)(n m:Nat)(t:TypeId)(hW:CS W=true)(hn:n=W.length):(runK KM CU 60).1 4 (bH [qA k a v c h,nA e (.sl W tW n),aV dB]) (oQ (aP [qA k a v c h,nA e (.sl W tW n),aV dB]) [(0,row0,t)]) (fun q=>some q.1)=some (.bool true):=by
 refine (ag9 k a v c h e W B n m t).trans ?_
 refine jE (fun _=>rfl) (fun g1=>?_)
 have axr:n≤60:=Pv g1
 have hw:Fn.okW W n=true:=abx hW hn (by omega)
 have w1:=aec hn (EX hW)
 have hwl:W.length≤400:=by omega
 exact TT (ajj hW hn hw w1 hwl rfl)
theorem au1 (k a v c h e:Int)(W B:List Value)(n m:Nat)(t:TypeId)(hB:allB B=true)(hm:m=B.length):(runK KM CU 60).1 4 (bH [qA k a v c h,nA e (.raw (.slice none 0 0)),aS B tB m]) (oQ (aP [qA k a v c h,nA e (.raw (.slice none 0 0)),aS B tB m]) [(0,row0,t)]) (fun q=>some q.1)=some (.bool true):=by
 refine (ahf k a v c h e W B n m t).trans ?_
 refine jE (fun _=>rfl) (fun g2=>?_)
 have hwl:([]:List Value).length≤400:=qac _
 have hm4:m≤400:=Pv g2
 have hb:Fn.okL B m=true:=ahg hB hm (by omega)
 have b1:=aec hm (jJ hB)
 have hgw:=awU hB (show B.length≤400 by omega)
 exact TT (Qd hwl (ao0 hB (show B.length≤400 by omega) hb b1 hgw))
theorem awF (k a v c h e:Int)(W B:List Value)(n m:Nat)(t:TypeId):(runK KM CU 60).1 4 (bH [qA k a v c h,nA e (.raw (.slice none 0 0)),aV (.slice none 0 0)]) (oQ (aP [qA k a v c h,nA e (.raw (.slice none 0 0)),aV (.slice none 0 0)]) [(0,row0,t)]) (fun q=>some q.1)=some (.bool true):=by
 refine (ag7 k a v c h e W B n m t).trans ?_
 have hwl:([]:List Value).length≤400:=qac _
 exact TT (Qd hwl rfl)
theorem axm (k a v c h e:Int)(W B:List Value)(n m:Nat)(t:TypeId):(runK KM CU 60).1 4 (bH [qA k a v c h,nA e (.raw (.slice none 0 0)),aV dB]) (oQ (aP [qA k a v c h,nA e (.raw (.slice none 0 0)),aV dB]) [(0,row0,t)]) (fun q=>some q.1)=some (.bool true):=by
 refine (aip k a v c h e W B n m t).trans ?_
 have hwl:([]:List Value).length≤400:=qac _
 exact TT (Qd hwl rfl)
theorem avg (k a v c h e:Int)(W B:List Value)(n m:Nat)(t:TypeId)(hB:allB B=true)(hm:m=B.length):(runK KM CU 60).1 4 (bH [qA k a v c h,nA e (.raw dB),aS B tB m]) (oQ (aP [qA k a v c h,nA e (.raw dB),aS B tB m]) [(0,row0,t)]) (fun q=>some q.1)=some (.bool true):=by
 refine (ajy k a v c h e W B n m t).trans ?_
 refine jE (fun _=>rfl) (fun g2=>?_)
 have hwl:([]:List Value).length≤400:=qac _
 have hm4:m≤400:=Pv g2
 have hb:Fn.okL B m=true:=ahg hB hm (by omega)
 have b1:=aec hm (jJ hB)
 have hgw:=awU hB (show B.length≤400 by omega)
 exact TT (Qd hwl (ao0 hB (show B.length≤400 by omega) hb b1 hgw))
theorem avE (k a v c h e:Int)(W B:List Value)(n m:Nat)(t:TypeId):(runK KM CU 60).1 4 (bH [qA k a v c h,nA e (.raw dB),aV (.slice none 0 0)]) (oQ (aP [qA k a v c h,nA e (.raw dB),aV (.slice none 0 0)]) [(0,row0,t)]) (fun q=>some q.1)=some (.bool true):=by
 refine (agY k a v c h e W B n m t).trans ?_
 have hwl:([]:List Value).length≤400:=qac _
 exact TT (Qd hwl rfl)
theorem awq (k a v c h e:Int)(W B:List Value)(n m:Nat)(t:TypeId):(runK KM CU 60).1 4 (bH [qA k a v c h,nA e (.raw dB),aV dB]) (oQ (aP [qA k a v c h,nA e (.raw dB),aV dB]) [(0,row0,t)]) (fun q=>some q.1)=some (.bool true):=by
 refine (ahZ k a v c h e W B n m t).trans ?_
 have hwl:([]:List Value).length≤400:=qac _
 exact TT (Qd hwl rfl)
theorem aq0 {C:Cfg}[Lo]:dI Tryz.prog C ((19,.closed EF)::aun):=ae7 anv aoR
theorem awj (lo:Lo):@dS lo CU Tryz.prog:=
 xq (ext:=eH []) (ins:=eH ((19,.closed EF)::aun)) rfl (fun f t h=>aq0 f t h) (fun f e h=>by cases h)
theorem atO {k a v c h e:Int}{d b:je}(hd:d = .raw (.slice none 0 0)∨d = .raw dB∨∃ W n,d = .sl W tW n∧CS W=true∧n=W.length)(hb:b = .raw (.slice none 0 0)∨b = .raw dB∨∃ W n,b = .sl W tB n∧allB W=true∧n=W.length)(t:TypeId) :
  (runK KM CU 60).1 4 (bH [qA k a v c h,nA e d,.one b]) (oQ (aP [qA k a v c h,nA e d,.one b]) [(0,row0,t)]) (fun q=>some q.1)=some (.bool true):=by
 rcases hd with rfl|rfl|⟨W,n,rfl,hW,hn⟩ <;> rcases hb with rfl|rfl|⟨B,m,rfl,hB,hm⟩
 ·exact awF k a v c h e [] [] 0 0 t
 ·exact axm k a v c h e [] [] 0 0 t
 ·exact au1 k a v c h e [] B 0 m t hB hm
 ·exact avE k a v c h e [] [] 0 0 t
 ·exact awq k a v c h e [] [] 0 0 t
 ·exact avg k a v c h e [] B 0 m t hB hm
 ·exact au0 k a v c h e W [] n 0 t hW hn
 ·exact awg k a v c h e W [] n 0 t hW hn
 ·exact avJ k a v c h e W B n m t hW hn hB hm
theorem akp {W:World}{c1 c2 c3:List je}{x1 x2 x3:List Value}{l1 l2 l3:List Loc}(h1:dM Tryz.prog W c1 x1 l1)(a1:jX ksQ c1)(h2:dM Tryz.prog W c2 x2 l2)(a2:jX ksA c2)(h3:dM Tryz.prog W c3 x3 l3)(a3:jX ksB c3)(hL:Laid W) :
  ∃ x,x3=[x]∧Calls Tryz.prog 4 #[.agg ⟨x1⟩,.agg ⟨x2⟩,x] W fun e w'=>e = .returned (.bool true)∧RowKit.Below W.heap.size W w':=by
 obtain ⟨k,a,v,c,h,e,d,b,x,hx,hC,hd,hb⟩:=aj7 h1 a1 h2 a2 h3 a3
 exact ⟨x,hx,ac6 hC anE hL fun t=>⟨CU,60,awj,atO hd hb t⟩⟩
end
end Go.Ax
