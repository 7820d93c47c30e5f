import Derived.Test.YtgpfgjhbiehafaaGreatDoorDp
import Derived.Test.YtgpfgjhbiehafaaGreatDoorDd
import Derived.WideShapes
import Derived.WideKeyArgs
set_option maxRecDepth 1000000
set_option maxHeartbeats 0
set_option linter.unusedSectionVars false
set_option linter.unusedSimpArgs false
set_option linter.unusedVariables false
namespace Go.Ax
open Go Go.Proofs
noncomputable section
abbrev tRp:TypeId:=48
def Jy (l:List Value):Bool:=qR (jG 3) l l
theorem rV {v:Value}{l:List Value}(h:jG 3 v v=true)(hl:Jy l=true):Jy (v::l)=true:=by
 show sel (jG 3 v v) (Jy l) false=true
 rw [h,hl]
 rfl
theorem Ov (k:IntKind)(z:Int):jG 3 (.int k z) (.int k z)=true:=by
 show (dU k k&&eqI z z)=true
 rw [Bv]
 cases k <;> rfl
theorem QD {z:Int}{l:List Value}(h:Jy l=true):Jy (iC z::l)=true:=rV (Ov _ _) h
theorem Wj {n:Nat}{l:List Value}(h:Jy l=true):Jy (uN n::l)=true:=rV (Ov _ _) h
theorem TM (un:Nat→Nat){l:List Value}(h:Jy l=true):∀ k j,Jy (u8s un k j l)=true
 |0,_=>h
 |k+1,j=>rV (Ov _ _) (TM un h k (j+1))
theorem zY {iz:Nat→Int}{un:Nat→Nat}{T v1 v2:Value}(hT:jG 3 T T=true)(h1:jG 3 v1 v1=true)(h2:jG 3 v2 v2=true)(e kd fl sl:Int):jG 4 (resp iz un e kd fl sl T v1 v2) (resp iz un e kd fl sl T v1 v2)=true:=by
 show Jy (adR iz un e kd fl sl T v1 v2)=true
 unfold adR
 iterate 12 first|refine QD ?_|refine Wj ?_
 refine rV hT ?_
 iterate 4 refine QD ?_
 refine TM un ?_ _ _
 iterate 3 first|refine QD ?_|refine Wj ?_
 refine TM un ?_ _ _
 iterate 10 first|refine QD ?_|refine Wj ?_
 refine rV h1 (rV h2 ?_)
 iterate 7 first|refine QD ?_|refine Wj ?_
 rfl
theorem Xp:jG 3 (.slice none 0 0) (.slice none 0 0)=true:=rfl
theorem Tm (n:Nat):jG 3 (.float .f64 n) (.float .f64 n)=true:=by
 show (true&&true&&Nat.beq n n)=true
 simp
theorem ahA (n:Nat):jG 3 (Ko n) (Ko n)=true:=by
 show ((Nat.beq 32 32&&Nat.beq 0 0&&true&&true)&&Nat.beq n n&&Nat.beq aA aA)=true
 simp
def ksR:List LK:=repeatL' 4 [.int .i64]++repeatL' 2 [.int .u64]++repeatL' 4 [.int .i64]++repeatL' 2 [.int .u64]++[.slice]++repeatL' 4 [.int .i64]++repeatL' 32 [.int .u8]++[.int .u64]++repeatL' 2 [.int .i64]++repeatL' 32 [.int .u8] ++
 [.int .u64]++repeatL' 5 [.int .i64]++repeatL' 3 [.int .u64]++[.int .i64,.slice,.slice]++repeatL' 5 [.int .u64]++repeatL' 2 [.int .i64]
theorem aqI:wP Tryz.prog 8 tRp=some ksR:=by kernel_rfl
def wr1 (iz:Nat→Int)(un:Nat→Nat)(sv:Nat→Value)(k:LK)(j:Nat):Value:=
 match k with
 |.int .i64=>iC (iz j)
 |.int .u64=>uN (un j)
 |.int .u8=>.int .u8 (Int.ofNat (un j))
 |.slice=>sv j
 |_=>.bool false
def wrK (iz:Nat→Int)(un:Nat→Nat)(sv:Nat→Value)(l:List LK):Nat→List Value:=List.rec (fun _=>[]) (fun k _ ih j=>wr1 iz un sv k j::ih (Nat.succ j)) l
def apk (k:LK):Bool:=
 match k with
 |.int .i64=>true
 |.int .u64=>true
 |.int .u8=>true
 |.slice=>true
 |_=>false
def aho (l:List LK):Bool:=List.rec true (fun k _ ih=>sel (apk k) ih false) l
theorem aqr:aho ksR=true:=by kernel_rfl
theorem ap3 (iz:Nat→Int)(un:Nat→Nat)(sv:Nat→Value):wrK iz un sv ksR 0=adR iz un (iz 0) (iz 2) (iz 13) (iz 86) (sv 12) (sv 94) (sv 95):=by kernel_rfl
def OZ (cs:List Value)(j:Nat):Int:=sel (okI (Pg cs j)) (Pg cs j) 0
def aa5 (cs:List Value)(j:Nat):Nat:=sel (okU (II cs j)) (II cs j) 0
theorem ah6 (cs:List Value):Fine (OZ cs) (aa5 cs):=by
 refine ⟨fun j=>?_,fun j=>?_⟩
 ·unfold OZ
  cases h:okI (Pg cs j) with
  |true=>rw [aH];exact h
  |false=>rfl
 ·unfold aa5
  cases h:okU (II cs j) with
  |true=>rw [aH];exact h
  |false=>rfl
theorem wf_i64 {z:Int}(h:(Lit.int .i64 z).wf=true):okI z=true:=by
 simp [Lit.wf,IntKind.min,IntKind.max,IntKind.signed,IntKind.bits] at h
 cases z with
 |ofNat n=>exact rH (show n≤9223372036854775807 by simp only [Int.ofNat_eq_natCast] at h;omega)
 |negSucc n=>exact rH (show n≤9223372036854775807 by omega)
theorem wf_u64 {z:Int}(h:(Lit.int .u64 z).wf=true):∃ n,z=Int.ofNat n∧okU n=true:=by
 simp [Lit.wf,IntKind.min,IntKind.max,IntKind.signed,IntKind.bits] at h
 cases z with
 |ofNat n=>exact ⟨n,rfl,rH (show n≤18446744073709551615 by simp only [Int.ofNat_eq_natCast] at h;omega)⟩
 |negSucc n=>omega
theorem wf_u8 {z:Int}(h:(Lit.int .u8 z).wf=true):∃ n,z=Int.ofNat n∧okU n=true:=by
 simp [Lit.wf,IntKind.min,IntKind.max,IntKind.signed,IntKind.bits] at h
 cases z with
 |ofNat n=>exact ⟨n,rfl,rH (show n≤18446744073709551615 by simp only [Int.ofNat_eq_natCast] at h;omega)⟩
 |negSucc n=>omega
def ahc (v:Value):Bool:=
 match v with
 |.slice _ _ _=>true
 |_=>false
theorem aeQ {lo:Lo}{ρ:Ren}{full:List Value}{sv:Nat→Value}(hs:∀ j v,full[j]? = some v→ahc v=true→@VR lo ρ (sv j) v):∀ {ks:List LK} {cs:List Value},bU ks cs→aho ks=true→∀ o,full.drop o=cs→@VRs lo ρ (wrK (OZ full) (aa5 full) sv ks o) cs
 |_,_,.nil,_,o,_=>@VRs.nil lo ρ
 |_,_,@bU.cons k v ks vs h hl,hok,o,hd=>by
  obtain ⟨g1,g2⟩:=bM (show sel (apk k) (aho ks) false=true from hok)
  have hv:full[o]? = some v:=by
   have:=congrArg (·[0]?) hd
   simpa using this
  have hd2:full.drop (o+1)=vs:=by
   have:=congrArg (List.drop 1) hd
   simpa [List.drop_drop] using this
  have hn:nth full o=some v:=by rw [dY];exact hv
  refine @VRs.cons lo ρ _ _ _ _ ?_ (aeQ hs hl g2 (o+1) hd2)
  cases h with
  |int k z hw=>
   have e1:Pg full o=z:=by unfold Pg;rw [hn]
   cases k with
   |i64=>
    have e2:OZ full o=z:=by unfold OZ;rw [e1,wf_i64 hw];rfl
    show @VR lo ρ (iC (OZ full o)) _
    rw [e2]
    exact @VR.int lo ρ _ _
   |u64=>
    obtain ⟨n,rfl,h2⟩:=wf_u64 hw
    have e3:II full o=n:=by unfold II;rw [hn]
    have e2:aa5 full o=n:=by unfold aa5;rw [e3,h2];rfl
    show @VR lo ρ (uN (aa5 full o)) _
    rw [e2]
    exact @VR.int lo ρ _ _
   |u8=>
    obtain ⟨n,rfl,h2⟩:=wf_u8 hw
    have e3:II full o=n:=by unfold II;rw [hn]
    have e2:aa5 full o=n:=by unfold aa5;rw [e3,h2];rfl
    show @VR lo ρ (.int .u8 (Int.ofNat (aa5 full o))) _
    rw [e2]
    exact @VR.int lo ρ _ _
   |_=>cases g1
  |bool b=>cases g1
  |nil=>exact hs o _ hv rfl
  |slice a n c=>exact hs o _ hv rfl
def abN (cs:List Value)(j:Nat):Value:=
 match nth cs j with
 |some (.slice (some _) n _)=>.float .f64 n
 |_=>.slice none 0 0
theorem QN (cs:List Value)(j:Nat):jG 3 (abN cs j) (abN cs j)=true:=by
 unfold abN
 split
 ·exact Tm _
 ·exact Xp
def apB (cs:List Value):Prop:=∀ (j:Nat) (v:Value),cs[j]? = some v→ahc v=true→v = .slice none 0 0∨∃ a n c,v = .slice (some a) n c
theorem agb {ks:List LK}{cs:List Value}(h:bU ks cs):apB cs:=by
 induction h with
 |nil=>intro j v hj _;cases hj
 |cons h hs ih=>
  intro j v hj hv
  cases j with
  |zero=>
   simp only [List.getElem?_cons_zero,Option.some.injEq] at hj
   subst hj
   cases h with
   |int k z hw=>cases hv
   |bool b=>cases hv
   |nil=>exact .inl rfl
   |slice a n c=>exact .inr ⟨a,n,c,rfl⟩
  |succ j=>exact ih j v (by simpa using hj) hv
theorem agI {cs:List Value}(h:apB cs)(lo:Lo)(ρ:Ren):∀ (j:Nat) (v:Value),cs[j]? = some v→ahc v=true→@VR lo ρ (abN cs j) v:=by
 intro j v hj hv
 unfold abN
 rw [dY,hj]
 rcases h j v hj hv with rfl|⟨a,n,c,rfl⟩
 ·exact @VR.bW lo ρ 0 0
 ·exact @VR.opq lo ρ a n c
abbrev tTs:TypeId:=28
abbrev tEs:TypeId:=64
def aoz:List LK:=repeatL' 6 [.int .i64]++repeatL' 2 [.int .u64]
def aq4:List LK:=[.int .i64,.slice,.slice,.slice,.slice]
theorem aoJ:wP Tryz.prog 6 tEn=some aoz:=by kernel_rfl
theorem amh:wP Tryz.prog 6 tTk=some aq4:=by kernel_rfl
theorem akd:Tryz.prog.underlying tTs=some (.slice tTk):=by kernel_rfl
theorem afa:Tryz.prog.underlying tEs=some (.slice tEn):=by kernel_rfl
theorem aoV:Tryz.prog.cellsOf tTk=5:=by kernel_rfl
theorem anV:Tryz.prog.cellsOf tEn=8:=by kernel_rfl
theorem amI:Tryz.prog.cellsOf tTs=1:=by kernel_rfl
theorem amU:Tryz.prog.cellsOf tEs=1:=by kernel_rfl
theorem aiH:size Tryz.prog tEn=some 8:=by kernel_rfl
theorem anT:size Tryz.prog tTk=some 5:=by kernel_rfl
theorem anq:ahq Tryz.prog tEn=false:=by kernel_rfl
def alT (t:TypeId)(i:Nat):Option (TypeId × Nat):=
 match Tryz.prog.underlying t with
 |some (.struct fs)=>(nth fs.toList i).map fun f=>(f.type,f.offset)
 |_=>none
theorem ak6:alT tRp 7=some (tTs,12):=by kernel_rfl
theorem akA:alT tTk 1=some (tEs,1):=by kernel_rfl
section
variable {H:Type} {enc:TypeId × Value→H}
theorem VE {t ft:TypeId}{i o:Nat}(hf:alT t i=some (ft,o)){w:World}{b:Nat}{sp:Nat→Bool}{held:Bool}{fuel:Nat}{cs:List Value}{x:DataW H × List MemPlace}(h:DataW.trod enc Tryz.prog w b sp held fuel t cs=some x) :
  ∃ n y,DataW.trod enc Tryz.prog w b sp held n ft ((cs.drop o).take (Tryz.prog.cellsOf ft))=some y:=by
 unfold alT at hf
 split at hf
 ·rename_i fs hu
  obtain ⟨f,hf1,hf2⟩:=Option.map_eq_some_iff.1 hf
  rw [dY] at hf1
  cases hf2
  obtain ⟨xs,n,_,_,_,hl,hall⟩:=DataW.trod_struct hu h
  obtain ⟨hi,_⟩:=List.getElem?_eq_some_iff.1 hf1
  have:=hall i f (by simpa using hf1)
  rw [List.getElem?_eq_getElem (by rw [hl];simpa using hi)] at this
  exact ⟨n,_,this⟩
 ·cases hf
theorem acI {ks:List LK}{cs:List Value}(hk:Ap ks=true)(h:bU ks cs):dF cs=true:=by
 induction h with
 |nil=>rfl
 |@cons k v ks vs h hs ih=>
  show sel (rP v) (dF vs) false=true
  cases h with
  |int k n hw=>
   show sel true (dF vs) false=true
   rw [aH]
   exact ih hk
  |bool b=>
   show sel true (dF vs) false=true
   rw [aH]
   exact ih hk
  |nil=>exact Bool.noConfusion (show false=true from hk)
  |slice a n c=>exact Bool.noConfusion (show false=true from hk)
theorem YK {a b:List LK}:∀ {cs:List Value},bU (a++b) cs→bU a (cs.take a.length)∧bU b (cs.drop a.length):=by
 induction a with
 |nil=>intro cs h;exact ⟨.nil,h⟩
 |cons k a ih=>
  intro cs h
  cases h with
  |cons h hs=>
   obtain ⟨h1,h2⟩:=ih hs
   exact ⟨.cons h h1,h2⟩
theorem Xi {ks:List LK}:∀ {n:Nat} {cs:List Value},bU (repeatL' n ks) cs→∀ k,k<n→bU ks ((cs.drop (k*ks.length)).take ks.length)
 |0,_,_,k,hk=>by omega
 |n+1,cs,h,k,hk=>by
  obtain ⟨h1,h2⟩:=YK (show bU (ks++repeatL' n ks) cs from h)
  cases k with
  |zero=>simpa using h1
  |succ k=>
   have:=Xi h2 k (by omega)
   rw [List.drop_drop] at this
   rw [Nat.succ_mul,Nat.add_comm]
   exact this
theorem ali {cs:List Value}{o:Nat}(h:bU aoz ((cs.drop o).take 8)):yR zEn cs o=true∧mZ (.int .u64 0) (nth cs (Nat.add o 7))=true:=by
 have hg:∀ j,j<8→nth cs (o+j)=((cs.drop o).take 8)[j]?:=fun j hj=>by
  rw [dY,List.getElem?_take,if_pos hj,List.getElem?_drop]
 generalize (cs.drop o).take 8=X at h hg
 obtain ⟨_,_,_,h⟩:∃ z0 X',X = .int .i64 z0::X'∧bU (repeatL' 5 [.int .i64]++repeatL' 2 [.int .u64]) X':=by
  cases h with
  |cons h hs=>obtain ⟨z,rfl,_⟩:=h.ug;exact ⟨z,_,rfl,hs⟩
 rename_i z0 X0 e0
 obtain ⟨z1,X1,e1,h⟩:∃ z0 X',X0 = .int .i64 z0::X'∧bU (repeatL' 4 [.int .i64]++repeatL' 2 [.int .u64]) X':=by
  cases h with
  |cons h hs=>obtain ⟨z,rfl,_⟩:=h.ug;exact ⟨z,_,rfl,hs⟩
 obtain ⟨z2,X2,e2,h⟩:∃ z0 X',X1 = .int .i64 z0::X'∧bU (repeatL' 3 [.int .i64]++repeatL' 2 [.int .u64]) X':=by
  cases h with
  |cons h hs=>obtain ⟨z,rfl,_⟩:=h.ug;exact ⟨z,_,rfl,hs⟩
 obtain ⟨z3,X3,e3,h⟩:∃ z0 X',X2 = .int .i64 z0::X'∧bU (repeatL' 2 [.int .i64]++repeatL' 2 [.int .u64]) X':=by
  cases h with
  |cons h hs=>obtain ⟨z,rfl,_⟩:=h.ug;exact ⟨z,_,rfl,hs⟩
 obtain ⟨z4,X4,e4,h⟩:∃ z0 X',X3 = .int .i64 z0::X'∧bU (repeatL' 1 [.int .i64]++repeatL' 2 [.int .u64]) X':=by
  cases h with
  |cons h hs=>obtain ⟨z,rfl,_⟩:=h.ug;exact ⟨z,_,rfl,hs⟩
 obtain ⟨z5,X5,e5,h⟩:∃ z0 X',X4 = .int .i64 z0::X'∧bU (repeatL' 2 [.int .u64]) X':=by
  cases h with
  |cons h hs=>obtain ⟨z,rfl,_⟩:=h.ug;exact ⟨z,_,rfl,hs⟩
 obtain ⟨z6,X6,e6,h⟩:∃ z0 X',X5 = .int .u64 (Int.ofNat z0)::X'∧bU (repeatL' 1 [.int .u64]) X':=by
  cases h with
  |cons h hs=>obtain ⟨z,rfl,hw⟩:=h.ug;obtain ⟨n,rfl,_⟩:=wf_u64 hw;exact ⟨n,_,rfl,hs⟩
 obtain ⟨z7,X7,e7,h⟩:∃ z0 X',X6 = .int .u64 (Int.ofNat z0)::X'∧bU [] X':=by
  cases h with
  |cons h hs=>obtain ⟨z,rfl,hw⟩:=h.ug;obtain ⟨n,rfl,_⟩:=wf_u64 hw;exact ⟨n,_,rfl,hs⟩
 subst e7 e6 e5 e4 e3 e2 e1 e0
 have g0:=hg 0 (by omega)
 have g1:=hg 1 (by omega)
 have g2:=hg 2 (by omega)
 have g3:=hg 3 (by omega)
 have g4:=hg 4 (by omega)
 have g5:=hg 5 (by omega)
 have g6:=hg 6 (by omega)
 have g7:=hg 7 (by omega)
 simp only [List.getElem?_cons_zero,List.getElem?_cons_succ] at g0 g1 g2 g3 g4 g5 g6 g7
 constructor
 ·show sel (mZ (.int .i64 0) (nth cs (o+0))) (sel (mZ (.int .i64 0) (nth cs (o+1))) (sel (mZ (.int .i64 0) (nth cs (o+2))) (sel (mZ (.int .i64 0) (nth cs (o+3))) (sel (mZ (.int .i64 0) (nth cs (o+4))) (sel (mZ (.int .i64 0) (nth cs (o+5)))
   (sel (mZ (.int .u64 0) (nth cs (o+6))) (sel (mZ (.int .u64 0) (nth cs (o+7))) true false) false) false) false) false) false) false) false=true
  rw [g0,g1,g2,g3,g4,g5,g6,g7]
  rfl
 ·show mZ (.int .u64 0) (nth cs (o+7))=true
  rw [g7]
  rfl
theorem aaX {cs:List Value}:∀ {n:Nat},(∀ k,k<n→bU aoz ((cs.drop (k*8)).take 8))→Fn.ql cs n=true
 |0,_=>rfl
 |n+1,h=>by
  obtain ⟨h1,h2⟩:=ali (h n (Nat.lt_succ_self n))
  show sel (U5 cs n&&YI cs n) (Fn.ql cs n) false=true
  rw [aaX fun k hk=>h k (Nat.lt_succ_of_lt hk)]
  have e1:YI cs n=true:=by
   show yR zEn cs (Nat.add 0 (Nat.mul n 8))=true
   rw [show Nat.add 0 (Nat.mul n 8)=n*8 from Nat.zero_add _]
   exact h1
  have e2:U5 cs n=true:=by
   show mZ (.int .u64 0) (nth cs (Nat.add (Nat.add 0 (Nat.mul n 8)) 7))=true
   rw [show Nat.add 0 (Nat.mul n 8)=n*8 from Nat.zero_add _]
   exact h2
  rw [e1,e2]
  rfl
end
end
end Go.Ax
namespace Go.Ax
open Go Go.Proofs
noncomputable section
section
variable {H:Type} {enc:TypeId × Value→H}
theorem Zb {w:World}{v x:Value}{l:List Loc}(h:gW Tryz.prog w [.raw v] [x] l)(aN:List Loc)(hl:aN.length≤31)(ρ:Ren):@VR (fZ aN) ρ v x:=by
 cases h with
 |cons hf hr hv h=>
  cases h
  cases hr
  exact hv [] aN 0 rfl (by show 0+0≤31;omega) ρ
theorem ag7 {w:World}{i:Nat}(h20:i<20){d:Loc}(hd:∀ aN,pW aN Tryz.prog w ([],tEn) d){b:Nat}{held:Bool}{fuel:Nat}{v:Value}{x:DataW H × List MemPlace}(h:DataW.trod enc Tryz.prog w b (fun _=>true) held fuel tEs [v]=some x) :
  ∃ (a:Value) (P:List Value) (l:Loc),aip i P a=true∧rP a=true∧dF P=true∧(∀ aN:List Loc,aN.length≤31→@Lo.lo (fZ aN) (33+i)=l→∀ ρ,@VR (fZ aN) ρ a v)∧∀ aN,pW aN Tryz.prog w (P,tEn) l:=by
 obtain ⟨c,ls,hC,hA⟩:=adh afa aoJ (by rw [anV];rfl) (by decide) (by rfl) aiH anq h
 cases hA with
 |nil=>exact ⟨.slice none 0 0,[],d,rfl,rfl,rfl,fun aN hl _ ρ=>Zb hC aN hl ρ,hd⟩
 |dead=>exact ⟨CQ,[],d,rfl,rfl,rfl,fun aN hl _ ρ=>Zb hC aN hl ρ,hd⟩
 |row _ _ cs n h0 hl xX=>
  cases hC with
  |cons hf hr hv hC=>
   cases hC
   cases hr with
   |cons hrow hr=>
    rename_i loc ls
    cases hr
    have h32:∃ q,v = .slice (some ⟨loc.blk,loc.off+0,none⟩) n q∧q=capOf loc aA:=by
     have hk:=hv [] [] 0 rfl (by show 0+1≤31;omega) (fun _=>none)
     have hk:@VR (fZ [loc]) (fun _=>none) (.slice (some ⟨32,0,none⟩) n aA) v:=hk
     have key:∀ (y:Value),@VR (fZ [loc]) (fun _=>none) (.slice (some ⟨32,0,none⟩) n aA) y→y = .slice (some ⟨loc.blk,loc.off+0,none⟩) n (capOf loc aA):=by
      intro y hy
      generalize hu:Value.slice (some ⟨32,0,none⟩) n aA=u at hy
      cases hy with
      |slice hat=>
       injection hu with u1 u2 u3
       injection u1 with u1
       injection u1 with b1 b2 b3
       subst b1 b2 u2 u3
       rw [@Ren.gQ (fZ [loc]) _ _ (by decide)] at hat
       cases hat
       rfl
      |dead a c=>
       injection hu with u1 u2 u3
       injection u1 with u1
       injection u1 with b1 b2 b3
       exact absurd b1 (by decide)
      |_=>cases hu
     exact ⟨_,key _ hk,rfl⟩
    obtain ⟨q,rfl,hq⟩:=h32
    have hmax:n≤9223372036854775807:=by
     rcases Deep.open_slice afa h with ⟨he,_⟩|⟨a,len,cap,q',_,_,_,he,_,hle,hmax,_⟩
     ·cases he
     ·injection he with he
      injection he with _ e2 _
      subst e2
      exact Nat.le_trans hle (Nat.le_trans hmax (by decide))
    refine ⟨slP i n,cs,loc,?_,?_,?_,fun aN arq hlo ρ=>?_,fun aN=>hrow.toL aN⟩
    ·have hb:=aaX (cs:=cs) (n:=n) fun k hk=>Xi xX k hk
     show (true&&(Nat.beq 0 0&&(Nat.beq aA aA&&sel (Nat.beq (Nat.add 33 i) 63) (Nat.beq n 0) (Nat.beq (Nat.add 33 i) (Nat.add 33 i)&&(Nat.ble n 9223372036854775807&&Fn.ql cs n)))))=true
     have e:Nat.beq (Nat.add 33 i) 63=false:=by
      rw [←Bool.not_eq_true]
      intro e
      have:=Nat.eq_of_beq_eq_true e
      have:33+i=63:=this
      omega
     rw [e,aF,hb,rH hmax]
     simp
    ·show (true&&(ltN (Nat.add 33 i) 64||_))=true
     rw [jD (show Nat.add 33 i<64 by show 33+i<64;omega)]
     rfl
    ·exact acI (CJ (by rfl) n) xX
    ·have key:=@VR.slice (fZ aN) ρ (Nat.add 33 i) 0 n aA loc (by
      rw [@Ren.gQ (fZ aN) _ _ (show Nat.add 33 i<64 by show 33+i<64;omega)]
      exact congrArg some hlo)
     rw [hq]
     exact key
def adB (v:Value):Value:=
 match v with
 |.slice (some _) n _=>.float .f64 n
 |_=>.slice none 0 0
theorem Uf {v:Value}(h:wz .slice v):Y1 (adB v)=true∧rP (adB v)=true∧∀ (lo:Lo) (ρ:Ren),@VR lo ρ (adB v) v:=by
 cases h with
 |nil=>exact ⟨rfl,rfl,fun lo ρ=>@VR.bW lo ρ 0 0⟩
 |slice a n c=>exact ⟨rfl,rfl,fun lo ρ=>@VR.opq lo ρ a n c⟩
structure apl (w:World) (i:Nat) (cs A P:List Value) (l:Loc):Prop where
 ok:∃ a0 a1 a2 a3 a4,A=[a0,a1,a2,a3,a4]∧al1 a0=true∧aip i P a1=true∧Y1 a2=true∧Y1 a3=true∧Y1 a4=true
 low:dF A=true
 aqo:dF P=true
 vr:∀ aN:List Loc,aN.length≤31→@Lo.lo (fZ aN) (33+i)=l→∀ ρ,@VRs (fZ aN) ρ A cs
 row:∀ aN,pW aN Tryz.prog w (P,tEn) l
theorem amd {w:World}{i:Nat}(h20:i<20){d:Loc}(hd:∀ aN,pW aN Tryz.prog w ([],tEn) d){b:Nat}{held:Bool}{fuel:Nat}{cs:List Value}{x:DataW H × List MemPlace}(h:DataW.trod enc Tryz.prog w b (fun _=>true) held fuel tTk cs=some x) :
  ∃ A P l,apl w i cs A P l:=by
 have hL:=vg amh h
 obtain ⟨n,y,hp⟩:=VE akA h
 rw [amU] at hp
 cases hL with
 |cons k0 hL=>cases hL with
  |cons k1 hL=>cases hL with
   |cons k2 hL=>cases hL with
    |cons k3 hL=>cases hL with
     |cons k4 hL=>
      cases hL
      rename_i v0 v1 v2 v3 v4
      obtain ⟨z,rfl,_⟩:=k0.ug
      obtain ⟨a1,P,l,g1,g2,g3,g4,g5⟩:=ag7 h20 hd (v:=v1) (by simpa using hp)
      obtain ⟨p1,p2,p3⟩:=Uf k2
      obtain ⟨q1,q2,q3⟩:=Uf k3
      obtain ⟨r1,r2,r3⟩:=Uf k4
      refine ⟨[iC z,a1,adB v2,adB v3,adB v4],P,l,⟨_,_,_,_,_,rfl,rfl,g1,p1,q1,r1⟩,?_,g3,fun aN hl hlo ρ=>?_,g5⟩
      ·show sel true (sel (rP a1) (sel (rP (adB v2)) (sel (rP (adB v3)) (sel (rP (adB v4)) true false) false) false) false) false=true
       rw [g2,p2,q2,r2]
       rfl
      ·exact @VRs.cons (fZ aN) ρ _ _ _ _ (@VR.int (fZ aN) ρ _ _) (@VRs.cons (fZ aN) ρ _ _ _ _ (g4 aN hl hlo ρ) (@VRs.cons (fZ aN) ρ _ _ _ _ (p3 _ ρ) (@VRs.cons (fZ aN) ρ _ _ _ _ (q3 _ ρ) (@VRs.cons (fZ aN) ρ _ _ _ _ (r3 _ ρ) (@VRs.nil (fZ aN) ρ)))))
end
end
end Go.Ax
namespace Go.Ax
open Go Go.Proofs
noncomputable section
def JH (A:Nat→List Value):Nat→List Value
 |0=>[]
 |n+1=>JH A n++A n
theorem Ih {A:Nat→List Value}:∀ {n:Nat},(∀ i,i<n→(A i).length=5)→(JH A n).length=n*5
 |0,_=>rfl
 |n+1,h=>by
  show (JH A n++A n).length=_
  rw [List.length_append,Ih fun i hi=>h i (by omega),h n (by omega)]
  omega
theorem Gq {A:Nat→List Value}:∀ {n:Nat},(∀ i,i<n→(A i).length=5)→∀ i,i<n→∀ k,k<5→(JH A n)[5*i+k]? = (A i)[k]?
 |0,_,i,hi,_,_=>by omega
 |n+1,h,i,hi,k,hk=>by
  have hl:=Ih (A:=A) (n:=n) fun i hi=>h i (by omega)
  show (JH A n++A n)[5*i+k]? = _
  by_cases e:i<n
  ·rw [List.getElem?_append_left (by omega)]
   exact Gq (fun i hi=>h i (by omega)) i e k hk
  ·have:i=n:=by omega
   subst this
   rw [List.getElem?_append_right (by omega),hl,show 5*i+k-i*5=k by omega]
theorem Ls:∀ {a b:List Value},dF a=true→dF b=true→dF (a++b)=true
 |[],_,_,hb=>hb
 |v::a,b,h,hb=>by
  obtain ⟨h1,h2⟩:=bM (show sel (rP v) (dF a) false=true from h)
  show sel (rP v) (dF (a++b)) false=true
  rw [h1,Ls h2 hb]
  rfl
theorem Q5 {A:Nat→List Value}:∀ {n:Nat},(∀ i,i<n→dF (A i)=true)→dF (JH A n)=true
 |0,_=>rfl
 |n+1,h=>Ls (Q5 fun i hi=>h i (by omega)) (h n (by omega))
theorem Sl:∀ {Ps:List (List Value)},(∀ P∈Ps,dF P=true)→yG Ps=true
 |[],_=>rfl
 |P::Ps,h=>by
  show sel (dF P) (yG Ps) false=true
  rw [h P List.mem_cons_self,Sl fun Q hQ=>h Q (List.mem_cons_of_mem _ hQ)]
  rfl
theorem aaE {T:List Value}{Ps:List (List Value)}:∀ {n:Nat},(∀ i,i<n→okC T (jq Ps i) i=true)→Fn.aj1 T Ps n=true
 |0,_=>rfl
 |n+1,h=>by
  show sel (okC T (jq Ps n) n) (Fn.aj1 T Ps n) false=true
  rw [h n (by omega),aaE fun i hi=>h i (by omega)]
  rfl
theorem VL (T:List Value)(P:Nat→List Value):acr T P=(T,tTk)::(List.range 20).map fun i=>(P i,tEn):=by kernel_rfl
section
variable {H:Type} {enc:TypeId × Value→H}
theorem adT {w:World}{b:Nat}{held:Bool}{fuel:Nat}{a:Addr}{n c:Nat}{x:DataW H × List MemPlace}(h:DataW.trod enc Tryz.prog w b (fun _=>true) held fuel tTs [.slice (some a) n c]=some x)(h1:1≤n)(h20:n≤20) :
  ∃ (T:List Value) (Ps:List (List Value)) (aN:List Loc),Ps.length=20∧Fn.Sr T Ps n=true∧(∀ (k:Nat) (r:List Value × TypeId),(acr T (jq Ps))[k]? = some r→∃ l,aN[k]? = some l∧pW aN Tryz.prog w r l)∧∀ ρ,@VR (fZ aN) ρ (Ko n) (.slice (some a) n c):=by
 rcases Deep.open_slice akd h with ⟨he,_⟩|⟨a',len,cap,q,n',D,Pl,he,hb,hle,hmax,hq,_,hall⟩
 ·cases he
 injection he with he
 injection he with e1 e2 e3
 injection e1 with e1
 subst e1 e2 e3
 have hq:q=c:=by simpa using hq
 subst hq
 rw [aoV] at hall
 obtain ⟨blk,off,sp⟩:=a
 have P7:∀ i,i<q→∃ (arr:Array Value) (tt:TypeId) (fz:Nat × Nat),((⟨blk,off,sp⟩:Addr).add (i*5)).spot=none∧w.heap[((⟨blk,off,sp⟩:Addr).add (i*5)).block]? = some (.cells arr tt fz)∧
   DataW.trod enc Tryz.prog w b (fun _=>true) held n' tTk ((arr.toList.drop ((⟨blk,off,sp⟩:Addr).add (i*5)).off).take 5)=some (D i,Pl i)∧((⟨blk,off,sp⟩:Addr).add (i*5)).off+5≤arr.size:=fun i hi=>by
  obtain ⟨cs',g1,g2⟩:=hall i hi
  obtain ⟨arr,tt,fz,k1,k2,k3,k4⟩:=Qc g1 (by omega)
  exact ⟨arr,tt,fz,k1,k2,k3▸g2,k4⟩
 obtain ⟨arr,tt,fz,hsp,harr,_,_⟩:=P7 0 (by omega)
 have e0:(⟨blk,off,sp⟩:Addr).add (0*5)=⟨blk,off,sp⟩:=by
  unfold Addr.add
  rw [if_pos (Nat.zero_mul _)]
 rw [e0] at hsp harr
 have hsp:sp=none:=hsp
 subst hsp
 have harr:w.heap[blk]? = some (.cells arr tt fz):=harr
 have hch:∀ i,i<q→(∃ y,DataW.trod enc Tryz.prog w b (fun _=>true) held n' tTk ((arr.toList.drop (off+i*5)).take 5)=some y)∧off+i*5+5≤arr.size:=fun i hi=>by
  obtain ⟨arr',tt',fz',_,g2,g3,g4⟩:=P7 i hi
  rw [add_eq] at g2 g3 g4
  have g2:w.heap[blk]? = some (.cells arr' tt' fz'):=g2
  rw [harr] at g2
  cases g2
  exact ⟨⟨_,g3⟩,g4⟩
 have hend:off+q*5≤arr.size:=by
  have:=(hch (q-1) (by omega)).2
  omega
 have hd:∀ aN,pW aN Tryz.prog w ([],tEn) ⟨blk,0,0⟩:=fun aN=>⟨arr,fz,8,⟨tt,harr⟩,fun j x hj=>by simp at hj,aiH,by omega,Nat.zero_le _,Nat.zero_le _⟩
 have hex:∀ i,∃ t:List Value × List Value × Loc,(i<n→apl w i ((arr.toList.drop (off+i*5)).take 5) t.1 t.2.1 t.2.2)∧(dF t.2.1=true∧∀ aN,pW aN Tryz.prog w (t.2.1,tEn) t.2.2):=fun i=>by
  by_cases hi:i<n
  ·obtain ⟨⟨y,hy⟩,_⟩:=hch i (by omega)
   obtain ⟨A,P,l,hA⟩:=amd (i:=i) (by omega) hd hy
   exact ⟨(A,P,l),fun _=>hA,hA.aqo,hA.row⟩
  ·exact ⟨([],[],⟨blk,0,0⟩),fun h=>absurd h hi,rfl,hd⟩
 obtain ⟨f,hf⟩:=Classical.axiomOfChoice hex
 have h5:∀ i,i<n→(f i).1.length=5:=fun i hi=>by
  obtain ⟨a0,a1,a2,a3,a4,hA,_⟩:=((hf i).1 hi).ok
  rw [hA]
  rfl
 have apr:∀ i,i<20→jq ((List.range 20).map fun i=>(f i).2.1) i=(f i).2.1:=fun i hi=>by
  unfold jq
  rw [dY,List.getElem?_map,List.getElem?_range hi]
  rfl
 have hlen:=Ih h5
 have hlo:∀ i,i<20→@Lo.lo (fZ (⟨blk,off,q⟩::(List.range 20).map fun i=>(f i).2.2)) (33+i)=(f i).2.2:=fun i hi=>by
  show (if 33+i<bg then (⟨33+i,0,0⟩:Loc) else ((⟨blk,off,q⟩::(List.range 20).map fun i=>(f i).2.2)[33+i-bg]?).getD ⟨0,0,0⟩)=_
  have e1:bg=32:=rfl
  rw [if_neg (by omega),show 33+i-bg=i+1 by omega,List.getElem?_cons_succ,List.getElem?_map,List.getElem?_range hi]
  rfl
 refine ⟨JH (fun i=>(f i).1) n,(List.range 20).map fun i=>(f i).2.1,⟨blk,off,q⟩::(List.range 20).map fun i=>(f i).2.2,by simp,?_,fun k r hk=>?_,fun ρ=>?_⟩
 ·have hg:∀ i,i<n→∀ k,k<5→nth (JH (fun i=>(f i).1) n) (5*i+k)=(f i).1[k]?:=fun i hi k hk=>by rw [dY];exact Gq h5 i hi k hk
  unfold Fn.Sr
  rw [Q5 (fun i hi=>((hf i).1 hi).low),Sl (fun P hP=>by
   obtain ⟨i,_,rfl⟩:=List.mem_map.1 hP
   exact (hf i).2.1),rH h1,rH h20,aaE fun i hi=>by
   obtain ⟨a0,a1,a2,a3,a4,hA,c0,c1,c2,c3,c4⟩:=((hf i).1 hi).ok
   have q0:=hg i hi 0 (by omega)
   have q1:=hg i hi 1 (by omega)
   have q2:=hg i hi 2 (by omega)
   have q3:=hg i hi 3 (by omega)
   have q4:=hg i hi 4 (by omega)
   rw [hA] at q0 q1 q2 q3 q4
   simp only [List.getElem?_cons_zero,List.getElem?_cons_succ,Nat.add_zero] at q0 q1 q2 q3 q4
   rw [apr i (by omega)]
   unfold okC
   rw [q0,q1,q2,q3,q4]
   show (al1 a0&&(aip i (f i).2.1 a1&&(Y1 a2&&(Y1 a3&&Y1 a4))))=true
   rw [c0,c1,c2,c3,c4]
   rfl]
  rfl
 ·rw [VL] at hk
  cases k with
  |zero=>
   simp only [List.getElem?_cons_zero,Option.some.injEq] at hk
   subst hk
   refine ⟨_,rfl,arr,fz,5,⟨tt,harr⟩,fun j x hj=>?_,anT,by omega,hend,?_⟩
   ·have hj:(JH (fun i=>(f i).1) n)[j]? = some x:=hj
    have hjl:j<n*5:=by
     have:=(List.getElem?_eq_some_iff.1 hj).1
     omega
    have hi:j/5<n:=by omega
    have hg:=Gq h5 (j/5) hi (j%5) (Nat.mod_lt _ (by omega))
    rw [show 5*(j/5)+j%5=j by omega,hj] at hg
    have hjs:off+j<arr.size:=by omega
    refine ⟨arr[off+j],Array.getElem?_eq_getElem hjs,fun ρ=>?_⟩
    letI:Lo:=fZ (⟨blk,off,q⟩::(List.range 20).map fun i=>(f i).2.2)
    obtain ⟨y,hy,hxy⟩:=VRs.get (((hf (j/5)).1 hi).vr _ (by simp) (hlo _ (by omega)) ρ) hg.symm
    rw [List.getElem?_take,if_pos (Nat.mod_lt _ (by omega)),List.getElem?_drop,show off+j/5*5+j%5=off+j by omega] at hy
    have hy:arr[off+j]? = some y:=by simpa using hy
    rw [Array.getElem?_eq_getElem hjs] at hy
    cases hy
    exact hxy
   ·show (JH (fun i=>(f i).1) n).length≤q*5
    rw [hlen]
    omega
  |succ k=>
   rw [List.getElem?_cons_succ,List.getElem?_map] at hk
   by_cases h2:k<20
   ·rw [List.getElem?_range h2] at hk
    have hk:(jq ((List.range 20).map fun i=>(f i).2.1) k,tEn)=r:=Option.some.inj hk
    subst hk
    rw [apr k h2]
    exact ⟨(f k).2.2,by rw [List.getElem?_cons_succ,List.getElem?_map,List.getElem?_range h2];rfl,(hf k).2.2 _⟩
   ·rw [List.getElem?_eq_none (by simp;omega)] at hk
    cases hk
 ·have key:=@VR.slice (fZ (⟨blk,off,q⟩::(List.range 20).map fun i=>(f i).2.2)) ρ 32 0 n aA ⟨blk,off,q⟩ (by
   rw [@Ren.gQ (fZ _) _ _ (by decide)]
   rfl)
  rw [ku] at key
  exact key
end
end
end Go.Ax
namespace Go.Ax
open Go Go.Proofs
noncomputable section
theorem adv:Qz 20=adO:=by kernel_rfl
theorem ac5 [Lo]{base:Nat}{ρ:Ren}{s:St}{w:World}(h:HR Tryz.prog base ρ s w){k:Nat}{cs:List Value}(hf:flatAll cs=true)(hlo:k<bg)(hk:zI s k cs=true):∃ (t:TypeId) (fz:Nat × Nat),w.heap[k]? = some (.cells ⟨cs⟩ t fz):=by
 unfold zI at hk
 cases hc:s.cells k with
 |none=>rw [hc] at hk;cases hk
 |some c=>
  obtain ⟨cs',e,f⟩:=c
  rw [hc] at hk
  change sel (Nat.beq f 0) (qR (jG 4) cs' cs) false=true at hk
  rw [aC] at hk
  split at hk
  ·rename_i h0
   have h0:f=0:=Nat.eq_of_beq_eq_true h0
   subst h0
   have he:=jQ (fun a b=>jR 4) hk
   subst he
   obtain ⟨l,hat,a,fz,⟨e9,ha,he9⟩,hv,_,h0,_⟩:=h.rows k _ _ _ hc
   have he9:=(he9 (.inl rfl)).symm
   subst he9
   rw [Ren.Ae hlo] at hat
   cases hat
   obtain ⟨_,hsz,_⟩:=h0 rfl
   refine ⟨e,fz,?_⟩
   have hvs:VRs ρ cs' a.toList:=VRs.Xe (by simpa using hsz) fun j x hj=>by
    obtain ⟨y,hy,hxy⟩:=hv j x hj
    exact ⟨y,by simpa using hy,hxy⟩
   have:=ML hf hvs
   rw [←this]
   exact ha
  ·cases hk
theorem acV [Lo]{base:Nat}{ρ:Ren}{s:St}{w:World}(h:HR Tryz.prog base ρ s w)(hk:Jk s=true):∃ (t:TypeId) (fz:Nat × Nat),w.heap[1]? = some (.cells #[.iface 436 (.agg #[hdl Tryz.prog 86])] t fz):=by
 unfold Jk at hk
 split at hk
 ·rename_i t x e hc
  simp only [Bool.and_eq_true] at hk
  obtain ⟨h1,h2⟩:=hk
  have h1:=Nat.eq_of_beq_eq_true h1
  subst h1
  cases hu:ofHandle Tryz.prog x with
  |none=>rw [hu] at h2;cases h2
  |some u=>
   rw [hu] at h2
   have h2:u=86:=Nat.eq_of_beq_eq_true h2
   subst h2
   obtain ⟨l,hat,a,fz,⟨e9,ha,he9⟩,hv,_,h0,_⟩:=h.rows 1 _ _ _ hc
   have he9:=(he9 (.inl rfl)).symm
   subst he9
   rw [Ren.Ae (by show 1<32;omega)] at hat
   cases hat
   obtain ⟨_,hsz,_⟩:=h0 rfl
   obtain ⟨y,hy,hvy⟩:=hv 0 _ rfl
   refine ⟨e,fz,?_⟩
   have:a=#[.iface 436 (.agg #[hdl Tryz.prog 86])]:=by
    have hs1:a.size=1:=hsz
    cases hvy with
    |iface _ hvy=>cases hvy with
     |agg hvy=>cases hvy with
      |cons hvy hn=>cases hn with
       |nil=>
        rw [jZ eG hvy hu] at hy
        apply Array.ext
        ·simpa using hs1
        ·intro j j1 j2
         have:j=0:=by omega
         subst this
         have hy:a[0]? = some (.iface 436 (.agg #[hdl Tryz.prog 86])):=hy
         have:=(Array.getElem?_eq_some_iff.1 hy).2
         simpa using this
   rw [←this]
   exact ha
 ·cases hk
theorem ZU [Lo]{base:Nat}{ρ:Ren}{s:St}{w:World}(h:HR Tryz.prog base ρ s w)(hk:Gs s=true):Laid w:=by
 unfold Gs at hk
 simp only [Bool.and_eq_true] at hk
 exact ⟨acV h hk.1,ac5 h zW (by decide) hk.2⟩
theorem Zl [Lo]{C:Cfg}{L:List (Nat × Con)}{f0:FuncId}(hc:∀ {W:World},Laid W→Calls Tryz.prog f0 #[] W fun e w'=>e = .returned (.bool true)∧RowKit.Below W.heap.size W w')(hL:fJ Tryz.prog C L) :
  fJ Tryz.prog C ((f0,.closed Gs)::L):=by
 intro f t h args s v s' hv base ρ w aO hr ha
 have h':sel (Nat.beq f0 f) (some (Con.closed Gs)) (dn L f)=some t:=h
 rw [aC] at h'
 split at h'
 ·rename_i hb
  cases h'
  have hf:f0=f:=Nat.eq_of_beq_eq_true hb
  subst hf
  unfold jM at hv
  cases args with
  |nil=>
   obtain ⟨hk,hv⟩:=au.1 hv
   cases hv
   cases ha
   exact (hc (ZU hr hk)).mono fun e w' ⟨he,hb⟩=>⟨_,ρ,he,Goes.Ql hr hb,.bool _⟩
  |cons a l=>cases hv
 ·exact hL f t h' args s v s' hv base ρ w aO hr ha
theorem ajO {C:Cfg}[Lo]:fJ Tryz.prog C ang:=Zl alu afC
theorem amP (lo:Lo):@dH lo CZ Tryz.prog:=vG (ext:=dJ RH) (ins:=dJ ang) rfl (fun f t h=>ajO f t h) vI
theorem afu (lo:Lo)(ρ:Ren):@VRs lo ρ row0 [.iface 436 (.agg #[hdl Tryz.prog 86])]:=
 @VRs.cons lo ρ _ _ _ _ (@VR.iface lo ρ _ _ _ (@VR.agg lo ρ _ _ (@VRs.cons lo ρ _ _ _ _ (@uY lo _ ρ eG 86) (@VRs.nil lo ρ)))) (@VRs.nil lo ρ)
theorem amc {w:World}{t0 t1:Nat}{fz0 fz1:Nat × Nat}(h0:w.heap[1]? = some (.cells #[.iface 436 (.agg #[hdl Tryz.prog 86])] t0 fz0))(h1:w.heap[0]? = some (.cells ⟨adO⟩ t1 fz1)) :
  ∀ x∈gl t0 t1,∃ (a:Array Value) (fz:Nat × Nat),w.heap[x.1]? = some (.cells a x.2.2 fz)∧∀ (lo:Lo) (ρ:Ren),@VRs lo ρ x.2.1 a.toList:=by
 intro x hx
 rcases List.mem_cons.1 hx with rfl|hx
 ·refine ⟨_,fz1,h1,fun lo ρ=>?_⟩
  show @VRs lo ρ (Qz 20) adO
  rw [adv]
  exact @Oh lo ρ _ zW
 ·rcases List.mem_cons.1 hx with rfl|hx
  ·exact ⟨_,fz0,h0,fun lo ρ=>afu lo ρ⟩
  ·cases hx
theorem amM (t0 t1:Nat):∀ x∈gl t0 t1,x.1<bg:=by
 intro x hx
 rcases List.mem_cons.1 hx with rfl|hx
 ·show 0<32;omega
 ·rcases List.mem_cons.1 hx with rfl|hx
  ·show 1<32;omega
  ·cases hx
theorem aoo (m:Nat)(iz:Nat→Int)(un:Nat→Nat)(fl sl:Int)(v1 v2:Value)(t0 t1:Nat):dD (resp iz un 0 11 fl sl (.float .f64 (Nat.add m 21)) v1 v2) t0 t1=some true:=by kernel_rfl
theorem ahK {f:FuncId}{args:List Value}{s:St}(h:(runK KM CZ 12).1 f args s yes=some true):∃ s',(runN CZ 12).1 f args s=some (.bool true,s'):=by
 have h1:=(iy (K:=KM) (by show (6:Nat)≤_;decide) CZ dI bQ 12).1 f args s yes true h
 cases hr:(runN CZ 12).1 f args s with
 |none=>rw [hr] at h1;cases h1
 |some r=>
  rw [hr] at h1
  have h1:yes r=some true:=h1
  obtain ⟨v,s'⟩:=r
  unfold yes at h1
  split at h1
  ·rename_i b hb
   have hb:v = .bool b:=hb
   cases h1
   exact ⟨s',by rw [hb]⟩
  ·cases h1
theorem acv {ks:List LK}{cs:List Value}(h:bU ks cs):∀ (j:Nat) (k:LK),ks[j]? = some k→∃ v,cs[j]? = some v∧wz k v:=by
 induction h with
 |nil=>intro j k hj;simp at hj
 |cons h hs ih=>
  intro j k hj
  cases j with
  |zero=>
   simp only [List.getElem?_cons_zero,Option.some.injEq] at hj
   subst hj
   exact ⟨_,rfl,h⟩
  |succ j=>exact ih j k (by simpa using hj)
theorem alq:ksR[12]? = some .slice:=by kernel_rfl
section
variable {w:World} {cs:List Value} (xX:bU ksR cs) (hL:Laid w)
include xX hL
theorem EM {T:Value}{rows:List (List Value × TypeId)}{aN:List Loc}(hT:∀ (v:Value),cs[12]? = some v→∀ ρ,@VR (fZ aN) ρ T v)(hlen:rows.length≤31)
  (hrows:∀ (k:Nat) (r:List Value × TypeId),rows[k]? = some r→∃ l,aN[k]? = some l∧pW aN Tryz.prog w r l)
  (hrun:∀ t0 t1,(runK KM CZ 12).1 3 [resp (OZ cs) (aa5 cs) (OZ cs 0) (OZ cs 2) (OZ cs 13) (OZ cs 86) T (abN cs 94) (abN cs 95)] (He (lI rows) (gl t0 t1)) yes=some true) :
  Calls Tryz.prog 3 #[.agg ⟨cs⟩] w fun e w'=>e = .returned (.bool true)∧RowKit.Below w.heap.size w w':=by
 obtain ⟨⟨t0,fz0,hg0⟩,⟨t1,fz1,hg1⟩⟩:=hL
 have hsl:=agb xX
 let sv:Nat→Value:=fun j=>if j=12 then T else abN cs j
 have hv:@VRs (fZ aN) (fun _=>none) [resp (OZ cs) (aa5 cs) (OZ cs 0) (OZ cs 2) (OZ cs 13) (OZ cs 86) T (abN cs 94) (abN cs 95)] [.agg ⟨cs⟩]:=by
  refine @VRs.cons (fZ aN) _ _ _ _ _ (@VR.agg (fZ aN) _ _ _ ?_) (@VRs.nil (fZ aN) _)
  have:=aeQ (lo:=fZ aN) (ρ:=fun _=>none) (full:=cs) (sv:=sv) (fun j v hj hv=>by
   by_cases e:j=12
   ·subst e
    exact hT v hj _
   ·show @VR (fZ aN) _ (if j=12 then T else abN cs j) v
    rw [if_neg e]
    exact agI hsl _ _ j v hj hv) xX aqr 0 rfl
  rw [ap3] at this
  exact this
 have h0:=ahx hrows hlen
 exact XQ (n:=12) amP h0 hlen hv (amM t0 t1) (amc hg0 hg1) (ahK (hrun t0 t1))
end
variable {H:Type} {enc:TypeId × Value→H}
theorem acC {w:World}{b:Nat}{held:Bool}{fuel:Nat}{cs:List Value}{x:DataW H × List MemPlace}(h:DataW.trod enc Tryz.prog w b (fun _=>true) held fuel tRp cs=some x)(hL:Laid w) :
  Calls Tryz.prog 3 #[.agg ⟨cs⟩] w fun e w'=>e = .returned (.bool true)∧RowKit.Below w.heap.size w w':=by
 have xX:=vg aqI h
 obtain ⟨v,hv,hk⟩:=acv xX 12 _ alq
 obtain ⟨n',y,hp⟩:=VE ak6 h
 rw [amI] at hp
 have hd:(cs.drop 12).take 1=[v]:=by
  obtain ⟨hi,hx⟩:=List.getElem?_eq_some_iff.1 hv
  rw [List.drop_eq_getElem_cons hi,hx]
  rfl
 rw [hd] at hp
 have hF:=ah6 cs
 have s1:=QN cs 94
 have s2:=QN cs 95
 have Iy:∀ (aN:List Loc) (k:Nat) (r:List Value × TypeId),([]:List (List Value × TypeId))[k]? = some r→∃ l,aN[k]? = some l∧pW aN Tryz.prog w r l:=fun aN k r hk=>by simp at hk
 cases hk with
 |nil=>
  refine EM (rows:=[]) (aN:=[]) (T:=.slice none 0 0) xX hL (fun u hu ρ=>?_) (by decide) (Iy _) fun t0 t1=>?_
  ·rw [hv] at hu
   cases hu
   exact @VR.bW (fZ []) ρ 0 0
  ·exact an8 hF _ _ t0 t1 (fun e kd fl sl=>zY Xp s1 s2 e kd fl sl) _ _ _ _ (hF.i 0) (hF.i 13) (hF.i 86)
 |slice a n c=>
  by_cases he:OZ cs 0=0∧OZ cs 2=11
  ·by_cases h1:n=0∨21≤n
   ·refine EM (rows:=[]) (aN:=[]) (T:=.float .f64 n) xX hL (fun u hu ρ=>?_) (by decide) (Iy _) fun t0 t1=>?_
    ·rw [hv] at hu
     cases hu
     exact @VR.opq (fZ []) ρ a n c
    ·rw [he.1,he.2]
     rcases h1 with rfl|h1
     ·exact (an3 _ _ _ _ _ _ t0 t1).trans (fE (zY (Tm 0) s1 s2 _ _ _ _))
     ·obtain ⟨m,rfl⟩:∃ m,n=Nat.add m 21:=⟨n-21,by show n=n-21+21;omega⟩
      exact aoo m _ _ _ _ _ _ t0 t1
   ·obtain ⟨T,Ps,aN,hl,hok,hrows,hvr⟩:=adT hp (by omega) (by omega)
    refine EM (rows:=acr T (jq Ps)) (aN:=aN) (T:=Ko n) xX hL (fun u hu ρ=>?_) (by rw [VL];simp) hrows fun t0 t1=>?_
    ·rw [hv] at hu
     cases hu
     exact hvr ρ
    ·rw [he.1,he.2]
     exact (an1 n _ _ _ _ _ _ T (jq Ps) t0 t1).trans (aZ (adn (zY (ahA n) s1 s2 _ _ _ _) hl hok))
  ·refine EM (rows:=[]) (aN:=[]) (T:=.float .f64 n) xX hL (fun u hu ρ=>?_) (by decide) (Iy _) fun t0 t1=>?_
   ·rw [hv] at hu
    cases hu
    exact @VR.opq (fZ []) ρ a n c
   ·exact amj hF n _ _ t0 t1 (fun e kd fl sl=>zY (Tm n) s1 s2 e kd fl sl) _ _ _ _ (hF.i 0) (hF.i 13) (hF.i 86) he
end
end Go.Ax
namespace Go.Ax
open Go Go.Proofs
noncomputable section
theorem ajB:(match Tryz.prog.underlying tRp with|some (.struct _)=>true|_=>false)=true:=by kernel_rfl
theorem XL {W:World}{base:Nat}{t:TypeId}{v:Value}(ht:(match Tryz.prog.underlying t with|some (.struct _)=>true|_=>false)=true)(h:Value.okWide Tryz.prog W .any base t v):∃ cs,v = .agg cs:=by
 unfold Value.okWide at h
 split at ht
 ·rename_i fs hu
  rw [hu] at h
  obtain ⟨cs,h1,_⟩:=h
  exact ⟨cs,h1⟩
 ·cases ht
theorem YU {H:Type}{enc:TypeId × Value→H}{W:World}{base b:Nat}{hd:Bool}{v0:Value}{d0:DataW H}{p0:List MemPlace}
  (h0:DataW.Trod enc Tryz.prog W b (fun _=>true) hd tRp v0 d0 p0) (k0:Value.okWide Tryz.prog W .any base tRp v0) (hL:Laid W) :
  Calls Tryz.prog 3 #[v0] W fun e w'=>e = .returned (.bool true)∧RowKit.Below W.heap.size W w':=by
 obtain ⟨⟨cs⟩,rfl⟩:=XL ajB k0
 obtain ⟨f0,h0⟩:=h0
 exact acC h0 hL
theorem aaS {H:Type}{enc:TypeId × Value→H}{P:Program}(hl:laidOutB P=true){W W':World}(hb:RowKit.Below W.heap.size W W'){t:TypeId}(ht:(P.readableRec t&&decide (t<P.types.size))=true){v:Value}{d:DataW H}{p:List MemPlace}{sp:Nat→Bool}
  (h:DataW.Trod enc P W 0 (fun _=>true) true t v d p) (hlt:∀ x∈p,x.block<W.heap.size) (hs:∀ x∈p,sp x.block=true):DataW.Trod enc P W' 0 sp true t v d p:=by
 simp only [Bool.and_eq_true,decide_eq_true_eq] at ht
 exact WideElems.Trod_stays hl ht.1 ht.2 h (fun x hx=>hb.same (hlt x hx)) hs
end
end Go.Ax
