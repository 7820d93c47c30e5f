import Derived.Test.YtaplfdajjdbomaaGreatDoorDc
import Derived.Test.YtaplfdajjdbomaaGreatDoorDb
import Derived.Laws.Externs
import Derived.Shelf.Spec.BitsCarry
import Derived.Laws.CopyRow
import Derived.Test.YtaplfdajjdbomaaGreatDoorDa
import Derived.ChangeArms
import Derived.OpenShut
import Derived.Deep.Slices
import GoSem.ClaimFn
import GoSem.ClaimGoes
open Nat renaming eq_of_beq_eq_true→qaa,le_of_ble_eq_true→qab,beq→qac,mul_le_mul_right→qaf,le_add_right→qan,succ_mul→qao,succ→qar,le_refl→qat,lt_of_lt_of_le→qau,ble_eq_true_of_le→qav,ble→qaw,add_zero→qaz,zero_add→qaI,add→qaN,le_trans→qaR,succ_lt_succ→qaV,min_eq_left→qaX,sub→qa3,mul→qa4
open List renaming mem_of_getElem?→qad,mem_cons_of_mem→qae,append_assoc→qah,mem_cons_self→qai,getElem?_eq_getElem→qaj,getElem?_append_right→qak,getElem?_append_left→qal,length_append→qam,take_of_length_le→qap,getElem?_take→qaq,mem_append_left→qas,getElem?_toArray→qax,getElem?_drop→qaB,drop_drop→qaD,range'→qaE,take_add→qaJ,find?_cons→qaM,drop_zero→qaO,range→qaQ,getElem?_map→qaS,ext_getElem?→qaU,any_eq_false→qaW,append_nil→qa1
open Bool renaming and_eq_true→qag,not_eq_true'→qaC,not_eq_true→qaF,false_eq_true→qaP,or_eq_true→qaY
open Go.Result renaming andThen_ok→qay
open Array renaming getElem?_append_left→qaA,size_append→qaG,getElem_push_lt→qaL
open Go.Sem renaming run_bind→qaH,run→qaK,run_pure→qaT
open Int renaming ofNat→qaZ
set_option linter.unusedVariables false
set_option linter.unusedSectionVars false
namespace Go.Ax
open Go
noncomputable section
def Tree.bnd {α β:Type}(t:Tree α)(k:α→Tree β):Tree β:=Tree.rec .fail k (fun b _ _ x y=>.test b x y) t
theorem Tree.LG {α β:Type}{k:α→Tree β}:∀ {t:Tree α} {r:β},(t.bnd k).run=some r→∃ a,t.run=some a∧(k a).run=some r
 |.fail,r,h=>by cases h
 |.leaf a,r,h=>⟨a,rfl,h⟩
 |.test b x y,r,h=>by
  have h:sel b (x.bnd k).run (y.bnd k).run=some r:=h
  cases b with
  |true=>exact Tree.LG (t:=x) h
  |false=>exact Tree.LG (t:=y) h
def KR {α:Type}(b:Bool)(t:Tree α):Tree α:=sel b t .fail
theorem gu {α:Type}{b:Bool}{t:Tree α}{r:α}(h:(KR b t).run=some r):b=true∧t.run=some r:=dV h
def Tree.alt {α:Type}(t u:Tree α):Tree α:=
 match t with
 |.fail=>u
 |t=>t
theorem Tree.acj {α:Type}{t u:Tree α}{r:α}(h:(t.alt u).run=some r):t.run=some r∨u.run=some r:=by
 cases t with
 |fail=>exact .inr h
 |leaf a=>exact .inl h
 |test b x y=>exact .inl h
def vP:List (Nat × Row)→List Bool→Prop:=fun l=>List.rec (fun _=>True) (fun p _ ih fl=>(jB fl True fun b _=>b=false→∀ cs e f,p.2=Row.row cs e f→mg ak cs=true)∧ih (jB fl [] fun _ t=>t)) l
section
variable {R:Type}
def Tq (bn:List Loc)(N:Nat)(v:Value)(k:Value→Tree R):Tree R:=
 match v with
 |.slice (some a) n c=>sel a.spot.isNone (uQ (atg a.block bn N) fun p=>
   sel (qac p.2.cap c) (KR (qac p.2.off a.off) (k (.slice (some ⟨p.1,0,none⟩) n aC)))
    (KR (qac p.2.off 0&&(qac p.2.cap aC&&ltN c bf)) (k (.slice (some ⟨p.1,a.off,none⟩) n c)))) .fail
 |.pointer (some a)=>sel a.spot.isNone (uQ (atg a.block bn N) fun p=>KR (qac p.2.off 0&&qac p.2.cap aC) (k (.pointer (some ⟨p.1,a.off,none⟩)))) .fail
 |_=>.fail
def xX (N:Nat)(bn:List Loc)(v:Value)(k:Value→Tree R):Tree R:=sel (aX N v) (k v) (Tq bn N v k)
def VJ (N:Nat)(bn:List Loc)(l:List Value):(List Value→Tree R)→Tree R:=List.rec (fun k=>k []) (fun v _ ih k=>xX N bn v fun v=>ih fun vs=>k (v::vs)) l
def U9 (N:Nat)(bn:List Loc)(v:Value)(k:Value→Tree R):Tree R:=
 match v with
 |.agg ⟨l⟩=>VJ N bn l fun l=>k (.agg ⟨l⟩)
 |.iface t v=>xX N bn v fun v=>k (.iface t v)
 |v=>xX N bn v k
def UR (N:Nat)(bn:List Loc)(l:List Value):(List Value→Tree R)→Tree R:=List.rec (fun k=>k []) (fun v _ ih k=>U9 N bn v fun v=>ih fun vs=>k (v::vs)) l
def xZ (N:Nat)(bn:List Loc)(spine:Bool)(l:List Value)(k:List Value→Tree R):Tree R:=sel spine (VJ N bn l k) (k l)
def abS (N:Nat)(s:St)(i:Nat)(k:Row→Tree R):Tree R:=uQ (s.cells i) fun c=>KR (ady c.1) (sel (ltN i ak&&ltN c.2.2 N) (k (.row c.1 c.2.1 c.2.2)) .fail)
def UU (N:Nat)(s:St)(l:List Nat):(List (Nat × Row)→Tree R)→Tree R:=List.rec (fun k=>k []) (fun i _ ih k=>abS N s i fun r=>ih fun rs=>k ((i,r)::rs)) l
def MF (P:Program)(N:Nat)(s:St)(bn:List Loc)(i:Nat)(q:Loc)(fam spine:Bool)(k:Row→Tree R):Tree R:=
 uQ (s.cells q.blk) fun c=>sel fam
  (uQ (size P c.2.1) fun sz=>KR (Hz sz q c.2.2 (aQ c.1)) (xZ N bn spine (eH q.off c.1) fun cs=>k (.row cs c.2.1 i)))
  (sel (qac c.2.2 0&&(qac q.off 0&&qac q.cap aC)) (xZ N bn spine c.1 fun cs=>k (.row cs c.2.1 0)) .fail)
def MK (P:Program)(N:Nat)(s:St)(bn:List Loc)(l:List (Nat × Bool × Bool)):(List (Nat × Row)→Tree R)→Tree R:=
 List.rec (fun k=>k []) (fun p _ ih k=>sel (qaw ak p.1&&ltN p.1 N) (MF P N s bn p.1 ⟨p.1,0,aC⟩ p.2.1 p.2.2 fun r=>ih fun rs=>k ((p.1,r)::rs)) .fail) l
def UM (P:Program)(N:Nat)(s:St)(bn:List Loc)(l:List Fnd):Nat→(List (Nat × Row)→Tree R)→Tree R:=
 List.rec (fun _ k=>k []) (fun f _ ih j k=>uQ (nth bn j) fun q=>MF P N s bn (qaN N j) q f.fam f.spine fun r=>ih (qar j) fun rs=>k ((qaN N j,r)::rs)) l
end
section
variable {R:Type} {P:Program} {N:Nat} {bn:List Loc} {s:St}
theorem VP (hN:ak≤N)(hbl:∀ j q,nth bn j=some q→N≤q.blk){v:Value}{k:Value→Tree R}{r:R}(h:(Tq bn N v k).run=some r):∃ v0,(k v0).run=some r∧RV (jI N bn) v0 v:=by
 unfold Tq at h
 split at h
 ·rename_i a n c
  obtain ⟨b,o,sp⟩:=a
  obtain ⟨hs,h⟩:=dV h
  obtain ⟨⟨j,q⟩,hp,h⟩:=fO h
  have hs:sp=none:=by
   cases sp with
   |none=>rfl
   |some x=>cases hs
  subst hs
  obtain ⟨h1,h2,h3⟩:=Ah hp
  have h3:q.blk=b:=h3
  have hq:=uS hN h2
  rw [show N+(j-N)=j by omega] at hq
  have hqb:=hbl _ _ h2
  obtain ⟨qb,qo,qc⟩:=q
  have h3:qb=b:=h3
  subst h3
  have hqb:N≤qb:=hqb
  have h:(sel (qac qc c) (KR (qac qo o) (k (.slice (some ⟨j,0,none⟩) n aC))) (KR (qac qo 0&&(qac qc aC&&ltN c bf)) (k (.slice (some ⟨j,o,none⟩) n c)))).run=some r:=h
  rw [aG] at h
  split at h
  ·rename_i hc
   have hc:qc=c:=qaa hc
   obtain ⟨ho,h9⟩:=gu h
   have ho:qo=o:=qaa ho
   clear h
   subst hc ho
   refine ⟨_,h9,?_⟩
   have:=RV.slice (π:=jI N bn) (b:=j) (o:=0) (n:=n) (by omega) hq (by show ak≤qb;omega)
   simpa using this
  ·obtain ⟨hg,h9⟩:=gu h
   clear h
   simp only [qag] at hg
   obtain ⟨g1,g2,g3⟩:=hg
   have g1:qo=0:=qaa g1
   have g2:qc=aC:=qaa g2
   subst g1 g2
   exact ⟨_,h9,.FZ (by omega) hq (by omega) (bD g3)⟩
 ·rename_i a
  obtain ⟨b,o,sp⟩:=a
  obtain ⟨hs,h⟩:=dV h
  obtain ⟨⟨j,q⟩,hp,h⟩:=fO h
  have hs:sp=none:=by
   cases sp with
   |none=>rfl
   |some x=>cases hs
  subst hs
  obtain ⟨h1,h2,h3⟩:=Ah hp
  have hq:=uS hN h2
  rw [show N+(j-N)=j by omega] at hq
  have hqb:=hbl _ _ h2
  obtain ⟨qb,qo,qc⟩:=q
  have h3:qb=b:=h3
  subst h3
  have hqb:N≤qb:=hqb
  obtain ⟨hg,h9⟩:=gu (show (KR (qac qo 0&&qac qc aC) (k (.pointer (some ⟨j,o,none⟩)))).run=some r from h)
  clear h
  simp only [qag] at hg
  have g1:qo=0:=qaa hg.1
  have g2:qc=aC:=qaa hg.2
  subst g1 g2
  exact ⟨_,h9,.ptr (by omega) hq (by omega)⟩
 ·cases h
theorem wX (hN:ak≤N)(hbl:∀ j q,nth bn j=some q→N≤q.blk){v:Value}{k:Value→Tree R}{r:R}(h:(xX N bn v k).run=some r):∃ v0,(k v0).run=some r∧RV (jI N bn) v0 v:=by
 unfold xX at h
 rw [aG] at h
 split at h
 ·rename_i hh
  exact ⟨v,h,abg hN hh⟩
 ·exact VP hN hbl h
theorem Ak (hN:ak≤N)(hbl:∀ j q,nth bn j=some q→N≤q.blk):∀ {l:List Value} {k:List Value→Tree R} {r:R},(VJ N bn l k).run=some r→∃ l0,(k l0).run=some r∧RVs (jI N bn) l0 l
 |[],k,r,h=>⟨[],h,.nil⟩
 |v::l,k,r,h=>by
  have h:(xX N bn v fun v=>VJ N bn l fun vs=>k (v::vs)).run=some r:=h
  obtain ⟨v0,h1,h2⟩:=wX hN hbl h
  obtain ⟨l0,h3,h4⟩:=Ak hN hbl h1
  exact ⟨v0::l0,h3,.cons h2 h4⟩
theorem XE (hN:ak≤N)(hbl:∀ j q,nth bn j=some q→N≤q.blk){v:Value}{k:Value→Tree R}{r:R}(h:(U9 N bn v k).run=some r):∃ v0,(k v0).run=some r∧RV (jI N bn) v0 v:=by
 unfold U9 at h
 split at h
 ·obtain ⟨l0,h1,h2⟩:=Ak hN hbl h
  exact ⟨_,h1,.agg h2⟩
 ·obtain ⟨v0,h1,h2⟩:=wX hN hbl h
  exact ⟨_,h1,.iface _ h2⟩
 ·exact wX hN hbl h
theorem FU (hN:ak≤N)(hbl:∀ j q,nth bn j=some q→N≤q.blk):∀ {l:List Value} {k:List Value→Tree R} {r:R},(UR N bn l k).run=some r→∃ l0,(k l0).run=some r∧RVs (jI N bn) l0 l
 |[],k,r,h=>⟨[],h,.nil⟩
 |v::l,k,r,h=>by
  have h:(U9 N bn v fun v=>UR N bn l fun vs=>k (v::vs)).run=some r:=h
  obtain ⟨v0,h1,h2⟩:=XE hN hbl h
  obtain ⟨l0,h3,h4⟩:=FU hN hbl h1
  exact ⟨v0::l0,h3,.cons h2 h4⟩
theorem Dj (hN:ak≤N)(hbl:∀ j q,nth bn j=some q→N≤q.blk){spine:Bool}{l:List Value}{k:List Value→Tree R}{r:R}(h:(xZ N bn spine l k).run=some r):∃ l0,(k l0).run=some r∧((spine=false→mg ak l0=true)→RVs (jI N bn) l0 l)∧(spine=false→l0=l):=by
 unfold xZ at h
 cases spine with
 |true=>
  obtain ⟨l0,h1,h2⟩:=Ak hN hbl h
  exact ⟨l0,h1,fun _=>h2,fun e=>by cases e⟩
 |false=>exact ⟨l,h,fun hh=>yU (hh rfl),fun _=>rfl⟩
theorem WM {π:Ren}{next:Nat}(hn:N≤next)(hN:ak≤N){i:Nat}{k:Row→Tree R}{r:R}(h:(abS N s i k).run=some r):∃ row,(k row).run=some r∧FD P π next s (i,row):=by
 obtain ⟨⟨cs,e,f⟩,hc,h⟩:=fO h
 obtain ⟨hg,h⟩:=gu h
 obtain ⟨hg2,h⟩:=dV h
 simp only [qag] at hg2
 have g1:=bD hg2.1
 have g2:f<N:=bD hg2.2
 exact ⟨_,h,by show i<next;omega,cs,e,f,rfl,by omega,.low g1 hc (PS hg)⟩
theorem Gh {π:Ren}{next:Nat}(hn:N≤next)(hN:ak≤N):∀ {l:List Nat} {k:List (Nat × Row)→Tree R} {r:R},(UU N s l k).run=some r→∃ rows,(k rows).run=some r∧rows.length=l.length∧∀ p∈rows,FD P π next s p
 |[],k,r,h=>⟨[],h,rfl,fun p hp=>by cases hp⟩
 |i::l,k,r,h=>by
  have h:(abS N s i fun r=>UU N s l fun rs=>k ((i,r)::rs)).run=some r:=h
  obtain ⟨row,h1,h2⟩:=WM (P:=P) (π:=π) hn hN h
  obtain ⟨rows,h3,hl,h4⟩:=Gh hn hN h1
  refine ⟨(i,row)::rows,h3,by simp [hl],fun p hp=>?_⟩
  rcases List.mem_cons.1 hp with rfl|hp
  ·exact h2
  ·exact h4 p hp
theorem JD {next:Nat}(hN:ak≤N)(hbl:∀ j q,nth bn j=some q→N≤q.blk){i:Nat}{q:Loc}(hi:ak≤i)(hlt:i<next)(hq:jI N bn i=some q)(hqb:ak≤q.blk)
  {fam spine:Bool} {k:Row→Tree R} {r:R} (h:(MF P N s bn i q fam spine k).run=some r):∃ row,(k row).run=some r∧((spine=false→∀ cs e f,row=Row.row cs e f→mg ak cs=true)→FD P (jI N bn) next s (i,row)):=by
 obtain ⟨⟨cs,e,f⟩,hc,h⟩:=fO h
 have aBO:ak=64:=rfl
 cases fam with
 |true=>
  obtain ⟨sz,hsz,h⟩:=fO (show (uQ (size P e) fun sz=>KR (Hz sz q f (aQ cs)) (xZ N bn spine (eH q.off cs) fun cs=>k (.row cs e i))).run=some r from h)
  obtain ⟨hg,h⟩:=gu h
  obtain ⟨l0,h1,h2,h20⟩:=Dj hN hbl h
  refine ⟨_,h1,fun hraw=>?_⟩
  have h2:=h2 (fun e=>hraw e _ _ _ rfl)
  unfold Hz at hg
  simp only [qag,qaC] at hg
  obtain ⟨g1,g2,g3,g4,g5,g6⟩:=hg
  have g1:f≠0:=fun e=>by rw [e] at g1;cases g1
  have g2:1≤sz:=qab g2
  have g3:q.off=(aC-q.cap)*sz:=qaa g3
  have g4:aC-q.cap≤bf:=qab g4
  have g5:q.cap≤aC:=qab g5
  have g6:q.off≤cs.length:=by
   rw [aG,aW] at g6
   split at g6
   ·rename_i h0
    have:q.off=0:=qaa h0
    omega
   ·exact qab g6
  rw [iy] at h2
  have hlen:l0.length=cs.length-q.off:=by have:=h2.length;simp at this;omega
  refine ⟨hlt,l0,e,i,rfl,hlt,?_⟩
  obtain ⟨qb,qo,qc⟩:=q
  simp only at g3 g4 g5 g6 h2 hlen hq hqb hc
  have hcap:aC-(aC-qc)=qc:=by omega
  refine pG.fam (j:=qb) (k:=aC-qc) (n:=sz) hi ?_ hqb hc (by show i≠0;omega) g1 hsz (by omega) g4 (by rw [←g3];omega) ?_
  ·rw [hq,←g3,hcap]
  ·rw [←g3,qap (by simp;omega)]
   exact h2
 |false=>
  obtain ⟨hg,h⟩:=dV (show (sel (qac f 0&&(qac q.off 0&&qac q.cap aC)) (xZ N bn spine cs fun cs=>k (.row cs e 0)) .fail).run=some r from h)
  obtain ⟨l0,h1,h2,h20⟩:=Dj hN hbl h
  refine ⟨_,h1,fun hraw=>?_⟩
  have h2:=h2 (fun e=>hraw e _ _ _ rfl)
  simp only [qag] at hg
  have g1:f=0:=qaa hg.1
  have g2:q.off=0:=qaa hg.2.1
  have g3:q.cap=aC:=qaa hg.2.2
  subst g1
  obtain ⟨qb,qo,qc⟩:=q
  simp only at g2 g3 hq hqb hc
  subst g2 g3
  exact ⟨hlt,l0,e,0,rfl,by omega,.whole hi hq hqb hc rfl h2⟩
theorem Dl {next:Nat}(hN:ak≤N)(hn:N≤next)(hbl:∀ j q,nth bn j=some q→N≤q.blk):∀ {l:List (Nat × Bool × Bool)} {k:List (Nat × Row)→Tree R} {r:R},(MK P N s bn l k).run=some r→∃ rows,(k rows).run=some r∧rows.length=l.length∧(vP rows (l.map fun p=>p.2.2)→∀ p∈rows,FD P (jI N bn) next s p)
 |[],k,r,h=>⟨[],h,rfl,fun _ p hp=>by cases hp⟩
 |q::l,k,r,h=>by
  obtain ⟨hg,h⟩:=dV (show (sel (qaw ak q.1&&ltN q.1 N) (MF P N s bn q.1 ⟨q.1,0,aC⟩ q.2.1 q.2.2 fun r=>MK P N s bn l fun rs=>k ((q.1,r)::rs)) .fail).run=some r from h)
  simp only [qag] at hg
  have g1:ak≤q.1:=qab hg.1
  have g2:=bD hg.2
  obtain ⟨row,h1,h2⟩:=JD (next:=next) hN hbl g1 (by omega) (qM q.1 g1 g2) g1 h
  obtain ⟨rows,h3,hl,h4⟩:=Dl hN hn hbl h1
  refine ⟨(q.1,row)::rows,h3,by simp [hl],fun hraw p hp=>?_⟩
  obtain ⟨aht,aj6⟩:=(show (q.2.2=false→∀ cs e f,row=Row.row cs e f→mg ak cs=true)∧vP rows (l.map fun p=>p.2.2) from hraw)
  rcases List.mem_cons.1 hp with rfl|hp
  ·exact h2 aht
  ·exact h4 aj6 p hp
theorem FW {next:Nat}(hN:ak≤N)(hbl:∀ j q,nth bn j=some q→N≤q.blk)(hnx:N+bn.length≤next):∀ {l:List Fnd} {j:Nat} {k:List (Nat × Row)→Tree R} {r:R},(UM P N s bn l j k).run=some r→∃ rows,(k rows).run=some r∧rows.length=l.length∧(vP rows (l.map fun f=>f.spine)→∀ p∈rows,FD P (jI N bn) next s p)
 |[],j,k,r,h=>⟨[],h,rfl,fun _ p hp=>by cases hp⟩
 |f::l,j,k,r,h=>by
  obtain ⟨q,hq,h⟩:=fO (show (uQ (nth bn j) fun q=>MF P N s bn (N+j) q f.fam f.spine fun r=>UM P N s bn l (j+1) fun rs=>k ((N+j,r)::rs)).run=some r from h)
  have hj:j<bn.length:=by rw [jk] at hq;exact (List.getElem?_eq_some_iff.1 hq).1
  have hb:=hbl j q hq
  obtain ⟨row,h1,h2⟩:=JD (next:=next) hN hbl (i:=N+j) (by omega) (by omega) (uS hN hq) (by omega) h
  obtain ⟨rows,h3,hl,h4⟩:=FW hN hbl hnx h1
  refine ⟨(N+j,row)::rows,h3,by simp [hl],fun hraw p hp=>?_⟩
  obtain ⟨aht,aj6⟩:=(show (f.spine=false→∀ cs e f,row=Row.row cs e f→mg ak cs=true)∧vP rows (l.map fun f=>f.spine) from hraw)
  rcases List.mem_cons.1 hp with rfl|hp
  ·exact h2 aht
  ·exact h4 aj6 p hp
end
theorem O3:∀ {a b:List (Nat × Row)} {fa fb:List Bool},a.length=fa.length→vP (a++b) (fa++fb)→vP a fa∧vP b fb
 |[],b,[],fb,_,h=>⟨trivial,h⟩
 |[],b,_::_,fb,hl,h=>by cases hl
 |p::a,b,[],fb,hl,h=>by cases hl
 |p::a,b,f::fa,fb,hl,h=>by
  obtain ⟨h1,h2⟩:=(show (f=false→∀ cs e f,p.2=Row.row cs e f→mg ak cs=true)∧vP (a++b) (fa++fb) from h)
  obtain ⟨h3,h4⟩:=O3 (by simpa using hl) h2
  exact ⟨⟨h1,h3⟩,h4⟩
def flagsOf (sp:bM):List Bool:=aK (zO (fun _=>true) sp.low) (aK (zO (fun p=>p.2.2) sp.keep) (zO (fun f=>f.spine) sp.new))
def ajX (P:Program)(sp:bM)(vs:List Value)(s:St):Tree bg:=
 sel (qaw ak sp.N) (uQ (CO sp.N s vs sp.new []) fun bn=>
  UU sp.N s sp.low fun lr=>MK P sp.N s bn sp.keep fun kr=>UM P sp.N s bn sp.new 0 fun nr=>UR sp.N bn vs fun vals=>
   (fun rows=>sel (qac (aQ bn) (aQ sp.new)&&G7 (jI sp.N bn) (lQ sp.next ⟨vals,rows⟩) s (vk rows) (vk rows)) (.leaf ⟨vals,rows⟩) .fail) (aK lr (aK kr nr))) .fail
theorem SG {P:Program}{s:St}{sp:bM}{vs:List Value}{o:bg}(h:(ajX P sp vs s).run=some o)(hraw:vP o.rows (flagsOf sp)) :
  ∃ bn,CO sp.N s vs sp.new []=some bn∧RVs (jI sp.N bn) o.vals vs∧Emb P (jI sp.N bn) (lQ sp.next o) s∧ak≤sp.N∧sp.next=sp.N+bn.length:=by
 unfold ajX at h
 obtain ⟨hN,h⟩:=dV (R:=bg) h
 have hN:ak≤sp.N:=qab hN
 obtain ⟨bn,agl,h⟩:=fO h
 have hbl:∀ j q,nth bn j=some q→sp.N≤q.blk:=fun j q hj=>by
  rw [jk] at hj
  exact Am agl (fun q hq=>by cases hq) q (qad hj)
 have hnx:sp.N≤sp.next:=by unfold bM.next;exact qan _ _
 obtain ⟨lr,h1,hll,hl1⟩:=Gh (P:=P) (π:=jI sp.N bn) (next:=sp.N+bn.length) (qan _ _) hN h
 obtain ⟨kr,h2,hlk,hl2⟩:=Dl (next:=sp.N+bn.length) hN (qan _ _) hbl h1
 obtain ⟨nr,h3,hln,hl3⟩:=FW (next:=sp.N+bn.length) hN hbl (qat _) h2
 obtain ⟨vals,h4,hv⟩:=FU hN hbl h3
 obtain ⟨hg,h5⟩:=dV h4
 simp only [qag] at hg
 have hlen:bn.length=aQ sp.new:=by rw [←aW];exact qaa hg.1
 cases h5
 unfold flagsOf at hraw
 simp only [BL,kP] at hraw
 obtain ⟨_,hraw⟩:=O3 (by simp [hll]) hraw
 obtain ⟨aht,aj6⟩:=O3 (by simp [hlk]) hraw
 have alO:sp.next=sp.N+bn.length:=by unfold bM.next;rw [hlen];rfl
 refine ⟨bn,agl,hv,Emb.of2 (rows:=aK lr (aK kr nr)) ?_ rfl (fun i q hq=>?_) (fun p hp=>?_) hg.2,hN,alO⟩
 ·show ak≤sp.next;omega
 ·show i<sp.next
  have:=Rn hq
  omega
 ·show FD P (jI sp.N bn) sp.next s p
  rw [alO]
  simp only [iG] at hp
  rcases List.mem_append.1 hp with hp|hp
  ·exact hl1 p hp
  ·rcases List.mem_append.1 hp with hp|hp
   ·exact hl2 aht p hp
   ·exact hl3 aj6 p hp
structure wO where
 pre:bM
 ends:List bM
def ac0 (q:Loc):Bool:=qac q.off 0&&qac q.cap aC
def Oh:List Loc→Bool:=fun l=>List.rec true (fun q _ ih=>sel (ac0 q) ih false) l
def Il (bl:List Nat)(v:Value):Option Value:=
 match v with
 |.slice (some a) n c=>sel (ltN a.block ak) (guard a.spot.isNone (some (.slice (some a) n c)))
   (aj (nth bl (qa3 a.block ak)) fun b=>guard (a.spot.isNone&&(qac c aC||ltN c bf)) (some (.slice (some ⟨b,a.off,none⟩) n c)))
 |.pointer (some a)=>sel (ltN a.block ak) (guard a.spot.isNone (some (.pointer (some a)))) (aj (nth bl (qa3 a.block ak)) fun b=>guard a.spot.isNone (some (.pointer (some ⟨b,a.off,none⟩))))
 |v=>guard (aX ak v) (some v)
def alv (bl:List Nat):List Value→Option (List Value):=fun l=>List.rec (some []) (fun v _ ih=>aj (Il bl v) fun v=>aj ih fun l=>some (v::l)) l
def amO (bl:List Nat)(v:Value):Option Value:=
 match v with
 |.agg ⟨l⟩=>aj (alv bl l) fun l=>some (.agg ⟨l⟩)
 |.iface t v=>aj (Il bl v) fun v=>some (.iface t v)
 |v=>Il bl v
def agM (bl:List Nat):List Value→Option (List Value):=fun l=>List.rec (some []) (fun v _ ih=>aj (amO bl v) fun v=>aj ih fun l=>some (v::l)) l
def Po (bl:List Nat)(spine:Bool)(cs:List Value):Option (List Value):=sel spine (alv bl cs) (some cs)
def OC (s:St)(b f:Nat):Option Nat:=
 sel (ltN b s.next) (aj (s.cells b) fun c=>sel (qac f 0) (guard (qac c.2.2 0) (some 0)) (guard (!qac c.2.2 0) (some c.2.2))) (some (sel (qac f 0) 0 b))
def Lj (s:St)(bl:List Nat):List (Nat × Row)→List Bool→Option (List (Nat × Row)):=fun rows=>
 List.rec (fun _=>some []) (fun p _ ih fl=>jB fl none fun sp fl=>match p.2 with
  |.row cs e f=>guard (qaw ak p.1&&(qac f 0||qac f p.1)) (aj (nth bl (qa3 p.1 ak)) fun b=>aj (Po bl sp cs) fun cs'=>aj (OC s b f) fun f'=>aj (ih fl) fun r=>some ((b,.row cs' e f')::r))
  |_=>none) rows
def vI (ids:List Nat):List Nat→Nat→List Nat:=fun l=>List.rec (fun _=>[]) (fun p _ ih k=>sel (yT k ids) (ih (qar k)) (p::ih (qar k))) l
def kT (l:List Nat):List (Nat × Row):=zO (fun p=>(p,Row.other)) l
def jF (s:St):List Nat→List (Nat × List Nat):=fun l=>List.rec [] (fun p _ ih=>Option.rec ih (fun c:List Value × TypeId × Nat=>(c.2.2,[])::ih) (s.cells p)) l
def nT:List (Nat × Row)→List (Nat × List Nat):=fun l=>List.rec [] (fun p _ ih=>sel (qac (kZ p.2) 0) ih ((kZ p.2,[p.1])::ih)) l
def acz (n:Nat):Nat→List Nat:=fun k=>Nat.rec (fun _=>[]) (fun _ ih n=>n::ih (qar n)) k n
def Bc:List Nat→Bool:=fun l=>List.rec true (fun a t ih=>sel (yT a t) false ih) l
def aon (N:Nat):List Nat→Bool:=fun l=>List.rec true (fun a _ ih=>sel (qaw ak a&&ltN a N) ih false) l
def ahG:List Nat→Bool:=fun l=>List.rec true (fun a _ ih=>sel (ltN a ak) ih false) l
def atn (s:St)(bn:List Loc)(spe:bM):List Nat:=aK (zO (fun q:Loc=>q.blk) bn) (acz s.next (aQ spe.new))
def af5 (s:St)(n:Nat)(post:List (Nat × Row))(dr:List Nat):St:={ heap:=vU s.heap (aK post (kT dr)),bZ:=vU s.bZ (aK (nT post) (jF s dr)),next:=n }
def asE (s:St)(bn:List Loc)(sp spe:bM)(O:bg):Option (Value × St):=
 guard (Bc (atn s bn spe)&&(aon (qaN s.next (aQ spe.new)) (atn s bn spe)&&(aon s.next (zO (fun q:Loc=>q.blk) bn)&&(qac sp.N ak&&(qac spe.N sp.next&&(ahG sp.low&&Bc (vk O.rows)))))))
  (aj (Lj s (atn s bn spe) O.rows (flagsOf spe)) fun post=>aj (agM (atn s bn spe) O.vals) fun vs=>some (tuple vs,af5 s (qaN s.next (aQ spe.new)) post (vI (vk O.rows) (zO (fun q:Loc=>q.blk) bn) ak)))
def atj (P:Program)(ms:wO)(G:bg→Tree (Nat × bg))(s:St)(args:List Value):Tree (Value × St):=
 uQ (CO ak s args ms.pre.new []) fun bn=>sel (Oh bn)
  ((ajX P ms.pre args s).bnd fun o=>(G o).bnd fun q=>uQ (nth ms.ends q.1) fun spe=>uQ (asE s bn ms.pre spe q.2) fun r=>.leaf r) .fail
def azr (P:Program)(spe:bM)(r:Value × St):Tree bg:=sel (acM r.1) (ajX P spe (OG r.1) r.2) .fail
def dU (P:Program)(l:List bM):Nat→Value × St→Tree (Nat × bg):=List.rec (fun _ _=>.fail) (fun sp _ ih k r=>((azr P sp r).map fun O=>(k,O)).alt (ih (qar k) r)) l
theorem JA {P:Program}:∀ {l:List bM} {k:Nat} {r:Value × St} {q:Nat × bg},(dU P l k r).run=some q→∃ sp,k≤q.1∧nth l (q.1-k)=some sp∧(azr P sp r).run=some q.2
 |[],k,r,q,h=>by cases h
 |sp::l,k,r,q,h=>by
  rcases Tree.acj (show ((((azr P sp r).map fun O=>(k,O)).alt (dU P l (k+1) r)).run=some q) from h) with h|h
  ·obtain ⟨O,h1,rfl⟩:=Tree.map_some h
   exact ⟨sp,qat _,by rw [Nat.sub_self];rfl,h1⟩
  ·obtain ⟨sp',h1,h2,h3⟩:=JA h
   refine ⟨sp',by omega,?_,h3⟩
   rw [show q.1-k=(q.1-(k+1))+1 by omega]
   exact h2
def iZ (P:Program)(C:Cfg)(n:Nat)(f:FuncId)(ms:wO)(G:bg→Tree (Nat × bg)):Prop:=
 ∀ o q,(G o).run=some q→vP o.rows (flagsOf ms.pre)∧(∀ spe,nth ms.ends q.1=some spe→vP q.2.rows (flagsOf spe))∧aj ((runN C n).1 f o.vals (lQ ms.pre.next o)) (fun r=>(dU P ms.ends 0 r).run)=some q
theorem OU {α:Type}:∀ (t:Tree α),t.vS some=t.run
 |.fail=>rfl
 |.leaf a=>rfl
 |.test b x y=>by
  show sel b (x.vS some) (y.vS some)=sel b x.run y.run
  rw [OU x,OU y]
theorem D7 {K:KP}(hL:K.L≤100000){P:Program}{C:Cfg}(hA:Qj K C)(hLo:zT K C){n:Nat}{f:FuncId}{args:List Value}{s:St}{l:List bM}{q:Nat × bg}(h:(runK K C n).1 f args s (fun r=>(dU P l 0 r).vS some)=some q) :
  aj ((runN C n).1 f args s) (fun r=>(dU P l 0 r).run)=some q:=by
 have h1:=(lK hL C hA hLo n).1 f args s (fun r=>(dU P l 0 r).vS some) q h
 have e:(fun r=>(dU P l 0 r).vS some)=fun r=>(dU P l 0 r).run:=funext fun r=>OU _
 rw [e] at h1
 exact h1
theorem FP {b:Nat}{l:List Nat}:yT b l=true↔b∈l:=by rw [Cb];simp
theorem Nr {N:Nat}:∀ {l:List Nat},aon N l=true→∀ a∈l,ak≤a∧a<N
 |[],_,a,h=>by cases h
 |b::t,h,a,ha=>by
  obtain ⟨h1,h2⟩:=dG (show sel (qaw ak b&&ltN b N) (aon N t) false=true from h)
  simp only [qag] at h1
  rcases List.mem_cons.1 ha with rfl|ha
  ·exact ⟨qab h1.1,bD h1.2⟩
  ·exact Nr h2 a ha
theorem QT:∀ {l:List Nat},ahG l=true→∀ a∈l,a<ak
 |[],_,a,h=>by cases h
 |b::t,h,a,ha=>by
  obtain ⟨h1,h2⟩:=dG (show sel (ltN b ak) (ahG t) false=true from h)
  rcases List.mem_cons.1 ha with rfl|ha
  ·exact bD h1
  ·exact QT h2 a ha
theorem EW:∀ {l:List Loc},Oh l=true→∀ q∈l,q=⟨q.blk,0,aC⟩
 |[],_,q,h=>by cases h
 |p::t,h,q,hq=>by
  obtain ⟨h1,h2⟩:=dG (show sel (ac0 p) (Oh t) false=true from h)
  rcases List.mem_cons.1 hq with rfl|hq
  ·have h1:(qac q.off 0&&qac q.cap aC)=true:=h1
   simp only [qag] at h1
   have e1:q.off=0:=qaa h1.1
   have e2:q.cap=aC:=qaa h1.2
   obtain ⟨b,o,c⟩:=q
   simp only at e1 e2
   rw [e1,e2]
  ·exact EW h2 q hq
theorem QU:∀ (k n j:Nat) (b:Nat),(acz n k)[j]? = some b→b=n+j
 |0,n,j,b,h=>by
  have h:([]:List Nat)[j]? = some b:=h
  simp at h
 |k+1,n,j,b,h=>by
  have h:(n::acz (n+1) k)[j]? = some b:=h
  cases j with
  |zero=>simp at h;omega
  |succ j=>
   have:=QU k (n+1) j b (by simpa using h)
   omega
def atr (i:Nat):List Nat→Nat→Option Nat:=fun l=>List.rec (fun _=>none) (fun a _ ih k=>sel (qac a i) (some k) (ih (qar k))) l
theorem ZH {i:Nat}:∀ {l:List Nat} {k j:Nat},atr i l k=some j→k≤j∧l[j-k]? = some i
 |[],k,j,h=>by cases h
 |a::t,k,j,h=>by
  have h:sel (qac a i) (some k) (atr i t (k+1))=some j:=h
  rw [aG] at h
  split at h
  ·rename_i e
   cases h
   exact ⟨qat _,by rw [Nat.sub_self];simp [qaa e]⟩
  ·obtain ⟨h1,h2⟩:=ZH h
   refine ⟨by omega,?_⟩
   rw [show j-k=(j-(k+1))+1 by omega]
   simpa using h2
theorem adH {i:Nat}:∀ {l:List Nat} {k j:Nat},Bc l=true→l[j]? = some i→atr i l k=some (k+j)
 |[],k,j,_,h=>by simp at h
 |a::t,k,j,hn,h=>by
  show sel (qac a i) (some k) (atr i t (k+1))=some (k+j)
  cases j with
  |zero=>
   have h:a=i:=by simpa using h
   subst h
   have:qac a a=true:=by simp
   rw [this];rfl
  |succ j=>
   have hn':sel (yT a t) false (Bc t)=true:=hn
   rw [aG] at hn'
   split at hn'
   ·cases hn'
   ·rename_i hne
    have hm:i∈t:=qad (by simpa using h)
    have:qac a i=false:=by
     rw [←qaF]
     intro e
     have e:=qaa e
     subst e
     exact hne (FP.2 hm)
    rw [this,aP,adH hn' (by simpa using h)]
    congr 1
    omega
def pq (bl:List Nat):Ren:=fun i=>Option.rec none (fun k=>some ⟨ak+k,0,aC⟩) (atr i bl 0)
theorem BZ {bl:List Nat}(hn:Bc bl=true){j b:Nat}(h:bl[j]? = some b):pq bl b=some ⟨ak+j,0,aC⟩:=by
 unfold pq
 rw [adH hn h]
 simp
theorem Ol {bl:List Nat}{i:Nat}{q:Loc}(h:pq bl i=some q):∃ j,bl[j]? = some i∧q=⟨ak+j,0,aC⟩:=by
 unfold pq at h
 cases hx:atr i bl 0 with
 |none=>rw [hx] at h;cases h
 |some k=>
  rw [hx] at h
  obtain ⟨_,h2⟩:=ZH hx
  have h:some (⟨ak+k,0,aC⟩:Loc)=some q:=h
  cases h
  exact ⟨k,by simpa using h2,rfl⟩
section
variable {bl:List Nat} (hn:Bc bl=true) (hb:∀ a∈bl,ak≤a)
include hn hb
theorem Hu {v v':Value}(h:Il bl v=some v'):RV (pq bl) v' v:=by
 unfold Il at h
 split at h
 ·rename_i a n c
  obtain ⟨b,o,sp⟩:=a
  rw [aG] at h
  split at h
  ·rename_i hlo
   obtain ⟨hg,h⟩:=au.1 h
   cases h
   cases sp with
   |some x=>cases hg
   |none=>exact .Lc (bD hlo)
  ·rename_i hlo
   obtain ⟨b',h1,h⟩:=ah.1 h
   obtain ⟨hg,h⟩:=au.1 h
   cases h
   simp only [qag,qaY] at hg
   have hb64:ak≤b:=by
    have:¬b<ak:=fun e=>hlo (by rw [oN];simpa using e)
    omega
   cases sp with
   |some x=>exact absurd hg.1 (by simp)
   |none=>
    rw [jk] at h1
    have h1:bl[b-ak]? = some b':=h1
    have hs:=BZ hn h1
    rw [show ak+(b-ak)=b by omega] at hs
    have hb':=hb b' (qad h1)
    rcases hg.2 with hc|hc
    ·have hc:c=aC:=qaa hc
     subst hc
     have:=RV.slice (π:=pq bl) (b:=b') (o:=o) (n:=n) hb' hs (by show ak≤b;omega)
     simpa using this
    ·exact .FZ hb' hs hb64 (bD hc)
 ·rename_i a
  obtain ⟨b,o,sp⟩:=a
  rw [aG] at h
  split at h
  ·rename_i hlo
   obtain ⟨hg,h⟩:=au.1 h
   cases h
   cases sp with
   |some x=>cases hg
   |none=>exact .acK (bD hlo)
  ·rename_i hlo
   obtain ⟨b',h1,h⟩:=ah.1 h
   obtain ⟨hg,h⟩:=au.1 h
   cases h
   have hb64:ak≤b:=by
    have:¬b<ak:=fun e=>hlo (by rw [oN];simpa using e)
    omega
   cases sp with
   |some x=>cases hg
   |none=>
    rw [jk] at h1
    have h1:bl[b-ak]? = some b':=h1
    have hs:=BZ hn h1
    rw [show ak+(b-ak)=b by omega] at hs
    exact .ptr (hb b' (qad h1)) hs hb64
 ·obtain ⟨hg,h⟩:=au.1 h
  cases h
  exact Ld hg
theorem TF:∀ {l l':List Value},alv bl l=some l'→RVs (pq bl) l' l
 |[],l',h=>by cases h;exact .nil
 |v::l,l',h=>by
  obtain ⟨v',h1,h⟩:=ah.1 (show (aj (Il bl v) fun v=>aj (alv bl l) fun l=>some (v::l))=some l' from h)
  obtain ⟨t,h2,h⟩:=ah.1 h
  cases h
  exact .cons (Hu hn hb h1) (TF h2)
theorem aob {v v':Value}(h:amO bl v=some v'):RV (pq bl) v' v:=by
 unfold amO at h
 split at h
 ·obtain ⟨l,h1,h⟩:=ah.1 h
  cases h
  exact .agg (TF hn hb h1)
 ·obtain ⟨l,h1,h⟩:=ah.1 h
  cases h
  exact .iface _ (Hu hn hb h1)
 ·exact Hu hn hb h
theorem X0:∀ {l l':List Value},agM bl l=some l'→RVs (pq bl) l' l
 |[],l',h=>by cases h;exact .nil
 |v::l,l',h=>by
  obtain ⟨v',h1,h⟩:=ah.1 (show (aj (amO bl v) fun v=>aj (agM bl l) fun l=>some (v::l))=some l' from h)
  obtain ⟨t,h2,h⟩:=ah.1 h
  cases h
  exact .cons (aob hn hb h1) (X0 h2)
end
theorem FC {s:St}{bl:List Nat}:∀ {rows:List (Nat × Row)} {fl:List Bool} {post:List (Nat × Row)},Lj s bl rows fl=some post→
  (∀ p∈post,∃ (j i:Nat) (cs:List Value) (e:TypeId) (f:Nat) (sp:Bool) (cs':List Value) (f':Nat),rows[j]? = some (i,Row.row cs e f)∧fl[j]? = some sp∧ak≤i∧bl[i-ak]? = some p.1∧p.2=Row.row cs' e f'∧Po bl sp cs=some cs'∧OC s p.1 f=some f')∧
  (∀ q∈rows,ak≤q.1∧(kZ q.2=0∨kZ q.2=q.1)∧∃ p∈post,bl[q.1-ak]? = some p.1)
 |[],fl,post,h=>by cases h;exact ⟨(fun p hp=>by cases hp),(fun p hp=>by cases hp)⟩
 |p::rows,fl,post,h=>by
  have h:(jB fl none fun sp fl=>match p.2 with
   |.row cs e f=>guard (qaw ak p.1&&(qac f 0||qac f p.1)) (aj (nth bl (qa3 p.1 ak)) fun b=>aj (Po bl sp cs) fun cs'=>aj (OC s b f) fun f'=>aj (Lj s bl rows fl) fun r=>some ((b,.row cs' e f')::r))
   |_=>none)=some post:=h
  cases fl with
  |nil=>cases h
  |cons sp fl=>
   obtain ⟨i,row⟩:=p
   cases row with
   |row cs e f=>
    obtain ⟨hg,h⟩:=au.1 (show guard (qaw ak i&&(qac f 0||qac f i)) (aj (nth bl (qa3 i ak)) fun b=>aj (Po bl sp cs) fun cs'=>aj (OC s b f) fun f'=>aj (Lj s bl rows fl) fun r=>some ((b,Row.row cs' e f')::r))=some post from h)
    obtain ⟨b,h0,h⟩:=ah.1 h
    obtain ⟨cs',h1,h⟩:=ah.1 h
    obtain ⟨f',h2,h⟩:=ah.1 h
    obtain ⟨r,h3,h⟩:=ah.1 h
    cases h
    simp only [qag,qaY] at hg
    have hi:ak≤i:=qab hg.1
    have hf:f=0∨f=i:=hg.2.imp (fun h=>qaa h) (fun h=>qaa h)
    rw [jk] at h0
    have h0:bl[i-ak]? = some b:=h0
    obtain ⟨ih1,ih2⟩:=FC h3
    refine ⟨fun q hq=>?_,fun q hq=>?_⟩
    ·rcases List.mem_cons.1 hq with rfl|hq
     ·exact ⟨0,i,cs,e,f,sp,cs',f',rfl,rfl,hi,h0,rfl,h1,h2⟩
     ·obtain ⟨j,i1,cs1,e1,f1,sp1,aBt,f1',g1,g2,g3⟩:=ih1 q hq
      exact ⟨j+1,i1,cs1,e1,f1,sp1,aBt,f1',by simpa using g1,by simpa using g2,g3⟩
    ·rcases List.mem_cons.1 hq with rfl|hq
     ·exact ⟨hi,hf,_,qai,h0⟩
     ·obtain ⟨g1,g2,p,hp,g3⟩:=ih2 q hq
      exact ⟨g1,g2,p,qae _ hp,g3⟩
   |_=>cases h
theorem Nl {ids:List Nat}:∀ {l:List Nat} {k j p:Nat},l[j]? = some p→(k+j∈ids∨p∈vI ids l k)
 |[],k,j,p,h=>by simp at h
 |a::l,k,j,p,h=>by
  have key:k+j∈ids∨(j=0∧a=p∧k ∉ ids)∨p∈vI ids l (k+1):=by
   cases j with
   |zero=>
    have h:a=p:=by simpa using h
    by_cases hm:k∈ids
    ·exact .inl hm
    ·exact .inr (.inl ⟨rfl,h,hm⟩)
   |succ j=>
    rcases Nl (ids:=ids) (k:=k+1) (show l[j]? = some p by simpa using h) with h|h
    ·exact .inl (by rw [show k+(j+1)=k+1+j by omega];exact h)
    ·exact .inr (.inr h)
  rcases key with h|⟨_,rfl,hm⟩|h
  ·exact .inl h
  ·right
   show a∈sel (yT k ids) (vI ids l (k+1)) (a::vI ids l (k+1))
   rw [aG,if_neg (fun e=>hm (FP.1 e))]
   exact qai
  ·right
   show p∈sel (yT k ids) (vI ids l (k+1)) (a::vI ids l (k+1))
   rw [aG]
   split
   ·exact h
   ·exact qae _ h
theorem Ef {ids:List Nat}:∀ {l:List Nat} {k p:Nat},p∈vI ids l k→p∈l
 |[],k,p,h=>by cases h
 |a::l,k,p,h=>by
  have h:p∈sel (yT k ids) (vI ids l (k+1)) (a::vI ids l (k+1)):=h
  rw [aG] at h
  split at h
  ·exact qae _ (Ef h)
  ·rcases List.mem_cons.1 h with rfl|h
   ·exact qai
   ·exact qae _ (Ef h)
theorem yA {s:St}:∀ {l:List Nat} {f:Nat} {b:List Nat},fC (jF s l) f=some b→b=[]
 |[],f,b,h=>by cases h
 |p::l,f,b,h=>by
  have h:fC (Option.rec (jF s l) (fun c:List Value × TypeId × Nat=>(c.2.2,[])::jF s l) (s.cells p)) f=some b:=h
  cases hc:s.cells p with
  |none=>rw [hc] at h;exact yA h
  |some c=>
   rw [hc] at h
   have h:sel (qac c.2.2 f) (some []) (fC (jF s l) f)=some b:=h
   rw [aG] at h
   split at h
   ·cases h;rfl
   ·exact yA h
theorem Jq {s:St}:∀ {l:List Nat} {p:Nat} {c:List Value × TypeId × Nat},p∈l→s.cells p=some c→∃ b,fC (jF s l) c.2.2=some b
 |[],p,c,h,_=>by cases h
 |q::l,p,c,h,hc=>by
  show ∃ b,fC (Option.rec (jF s l) (fun c:List Value × TypeId × Nat=>(c.2.2,[])::jF s l) (s.cells q)) c.2.2=some b
  have ih:p∈l→∃ b,fC (jF s l) c.2.2=some b:=fun h=>Jq h hc
  rcases List.mem_cons.1 h with rfl|h
  ·rw [hc]
   refine ⟨[],?_⟩
   show sel (qac c.2.2 c.2.2) (some []) _=_
   have:qac c.2.2 c.2.2=true:=by simp
   rw [this];rfl
  ·obtain ⟨b,hb⟩:=ih h
   cases hq:s.cells q with
   |none=>exact ⟨b,hb⟩
   |some d=>
    show ∃ b,sel (qac d.2.2 c.2.2) (some []) (fC (jF s l) c.2.2)=some b
    rw [aG]
    split
    ·exact ⟨_,rfl⟩
    ·exact ⟨b,hb⟩
theorem F7:∀ {l:List Nat} {i:Nat} {r:Row},fC (kT l) i=some r→r = .other
 |[],i,r,h=>by cases h
 |p::l,i,r,h=>by
  have h:sel (qac p i) (some Row.other) (fC (kT l) i)=some r:=h
  rw [aG] at h
  split at h
  ·cases h;rfl
  ·exact F7 h
theorem J9:∀ {l:List Nat} {i:Nat},i∈l→∃ r,fC (kT l) i=some r
 |[],i,h=>by cases h
 |p::l,i,h=>by
  show ∃ r,sel (qac p i) (some Row.other) (fC (kT l) i)=some r
  rw [aG]
  split
  ·exact ⟨_,rfl⟩
  ·rename_i hne
   rcases List.mem_cons.1 h with rfl|h
   ·exact absurd (by simp) hne
   ·exact J9 h
theorem yg {β:Type}:∀ {l r:List (Nat × β)} {i:Nat},fC (aK l r) i=match fC l i with
  |some a=>some a
  |none=>fC r i
 |[],r,i=>rfl
 |p::l,r,i=>by
  show sel (qac p.1 i) (some p.2) (fC (aK l r) i)=match sel (qac p.1 i) (some p.2) (fC l i) with
   |some a=>some a
   |none=>fC r i
  rw [yg,aG,aG]
  split <;> rfl
theorem PX {β:Type}:∀ {l:List (Nat × β)} {p:Nat × β},p∈l→∃ r,fC l p.1=some r
 |[],p,h=>by cases h
 |q::l,p,h=>by
  show ∃ r,sel (qac q.1 p.1) (some q.2) (fC l p.1)=some r
  rw [aG]
  split
  ·exact ⟨_,rfl⟩
  ·rename_i hne
   rcases List.mem_cons.1 h with rfl|h
   ·exact absurd (by simp) hne
   ·exact PX h
theorem ZN:∀ {l:List (Nat × Row)} {fl:List Bool} {j:Nat} {i:Nat} {cs:List Value} {e:TypeId} {f:Nat},vP l fl→l[j]? = some (i,.row cs e f)→fl[j]? = some false→mg ak cs=true
 |[],fl,j,i,cs,e,f,h,hl,hf=>by simp at hl
 |p::l,[],j,i,cs,e,f,h,hl,hf=>by simp at hf
 |p::l,b::fl,j,i,cs,e,f,h,hl,hf=>by
  obtain ⟨h1,h2⟩:=(show (b=false→∀ cs e f,p.2 = .row cs e f→mg ak cs=true)∧vP l fl from h)
  cases j with
  |zero=>
   have hl:p=(i,.row cs e f):=by simpa using hl
   have hf:b=false:=by simpa using hf
   exact h1 hf cs e f (by rw [hl])
  |succ j=>exact ZN h2 (by simpa using hl) (by simpa using hf)
theorem adz:∀ {l:List (Nat × Row)} {i:Nat} {r:Row},Bc (vk l)=true→(i,r)∈l→(atl l).get i=some r
 |[],i,r,_,h=>by cases h
 |p::l,i,r,hn,h=>by
  show ((atl l).set p.1 p.2).get i=some r
  have hn:sel (yT p.1 (vk l)) false (Bc (vk l))=true:=hn
  rw [aG] at hn
  split at hn
  ·cases hn
  ·rename_i hne
   rw [Hp.jv]
   rcases List.mem_cons.1 h with rfl|h
   ·simp
   ·have hi:i∈vk l:=by
     unfold vk
     rw [kP]
     exact List.mem_map.2 ⟨_,h,rfl⟩
    rw [if_neg (fun e=>hne (FP.2 (by rw [←e];exact hi)))]
    exact adz hn h
theorem adV:∀ {l:List (Nat × Row)} {i:Nat} {r:Row},Bc (vk l)=true→(∀ p∈l,kZ p.2=0∨kZ p.2=p.1)→(i,r)∈l→kZ r≠0→(awN l).get i=some [i]
 |[],i,r,_,_,h,_=>by cases h
 |p::l,i,r,hn,hs,h,hr=>by
  show (sel (qac (kZ p.2) 0) (awN l) ((awN l).set (kZ p.2) [p.1])).get i=_
  have hn:sel (yT p.1 (vk l)) false (Bc (vk l))=true:=hn
  rw [aG] at hn
  split at hn
  ·cases hn
  ·rename_i hne
   have hp:=hs p qai
   rw [aG]
   rcases List.mem_cons.1 h with rfl|h
   ·have hp:kZ r=0∨kZ r=i:=hp
    have e:kZ r=i:=hp.resolve_left hr
    rw [if_neg (fun e=>hr (qaa e))]
    show ((awN l).set (kZ r) [i]).get i=_
    rw [e,Hp.get_set_same]
   ·have hi:i∈vk l:=by
     unfold vk
     rw [kP]
     exact List.mem_map.2 ⟨_,h,rfl⟩
    have hip:i≠p.1:=fun e=>hne (FP.2 (by rw [←e];exact hi))
    have ih:=adV hn (fun p hp=>hs p (qae _ hp)) h hr
    split
    ·exact ih
    ·rename_i hf
     have hf:kZ p.2≠0:=fun e=>hf (by rw [e];rfl)
     rw [Hp.get_set_other _ _ (by rw [hp.resolve_left hf];exact hip)]
     exact ih
theorem EF:∀ {l:List (Nat × Row)} {f:Nat} {b:List Nat},fC (nT l) f=some b→∃ p∈l,b=[p.1]∧kZ p.2=f
 |[],f,b,h=>by cases h
 |p::l,f,b,h=>by
  have h:fC (sel (qac (kZ p.2) 0) (nT l) ((kZ p.2,[p.1])::nT l)) f=some b:=h
  rw [aG] at h
  split at h
  ·obtain ⟨q,hq,h1,h2⟩:=EF h
   exact ⟨q,qae _ hq,h1,h2⟩
  ·have h:sel (qac (kZ p.2) f) (some [p.1]) (fC (nT l) f)=some b:=h
   rw [aG] at h
   split at h
   ·rename_i e
    cases h
    exact ⟨p,qai,rfl,qaa e⟩
   ·obtain ⟨q,hq,h1,h2⟩:=EF h
    exact ⟨q,qae _ hq,h1,h2⟩
theorem Iq:∀ {l:List (Nat × Row)} {p:Nat × Row},p∈l→kZ p.2≠0→∃ b,fC (nT l) (kZ p.2)=some b
 |[],p,h,_=>by cases h
 |q::l,p,h,hf=>by
  show ∃ b,fC (sel (qac (kZ q.2) 0) (nT l) ((kZ q.2,[q.1])::nT l)) (kZ p.2)=some b
  rw [aG]
  rcases List.mem_cons.1 h with rfl|h
  ·rw [if_neg (fun e=>hf (qaa e))]
   refine ⟨[p.1],?_⟩
   show sel (qac (kZ p.2) (kZ p.2)) _ _=_
   have:qac (kZ p.2) (kZ p.2)=true:=by simp
   rw [this];rfl
  ·obtain ⟨b,hb⟩:=Iq h hf
   split
   ·exact ⟨b,hb⟩
   ·show ∃ b,sel (qac (kZ q.2) (kZ p.2)) (some [q.1]) (fC (nT l) (kZ p.2))=some b
    rw [aG]
    split
    ·exact ⟨_,rfl⟩
    ·exact ⟨b,hb⟩
def EP (H:Hp Row):List Nat→Hp Row:=fun l=>List.rec (.s 15 0) (fun i _ ih=>Option.rec ih (fun r=>ih.set i r) (H.get i)) l
theorem xJ {H:Hp Row}:∀ {l:List Nat} {i:Nat},(EP H l).get i=if i∈l then H.get i else none
 |[],i=>by
  show (Hp.s 15 0:Hp Row).get i=_
  rw [Hp.zL];simp
 |a::l,i=>by
  show (Option.rec (EP H l) (fun r=>(EP H l).set a r) (H.get a):Hp Row).get i=_
  cases h:H.get a with
  |none=>
   show (EP H l).get i=_
   rw [xJ]
   by_cases e:i=a
   ·subst e;simp [h]
   ·simp [e]
  |some r=>
   show ((EP H l).set a r).get i=_
   rw [Hp.jv,xJ]
   by_cases e:i=a
   ·subst e;simp [h]
   ·simp [e]
def vM (s:St)(ids:List Nat):St:={ heap:=EP s.heap ids,bZ:=s.bZ,next:=s.next }
section
variable {P:Program} {s S:St} {π:Ren} {ids:List Nat}
theorem Ib:Sub (vM s ids) s where
 next:=rfl
 row:=fun i r h=>by
  have h:(EP s.heap ids).get i=some r:=h
  rw [xJ] at h
  split at h
  ·exact h
  ·cases h
 fam:=fun f l h=>⟨l,h,fun _ h=>h⟩
theorem G5 {i:Nat}(h:i∈ids):(vM s ids).heap.get i=s.heap.get i:=by
 show (EP s.heap ids).get i=_
 rw [xJ,if_pos h]
theorem Ih {i:Nat}(h:i∈ids):(vM s ids).tag i=s.tag i:=by
 unfold St.tag
 rw [G5 h]
 rfl
theorem vV {i:Nat}(h:i∈ids):(vM s ids).cells i=s.cells i:=by
 unfold St.cells
 rw [G5 h]
 rfl
theorem afD {i:Nat}{a:Nat × Nat}(h:(vM s ids).tag i=some a):i∈ids:=by
 obtain ⟨r,hr⟩:=tag_some h
 have hr:(EP s.heap ids).get i=some r:=hr
 rw [xJ] at hr
 split at hr
 ·assumption
 ·cases hr
theorem aeL (he:Emb P π S s)(hlow:∀ i r,S.heap.get i=some r→i<ak→i∈ids)(hhigh:∀ i q,π i=some q→q.blk∈ids):Emb P π S (vM s ids) where
 next:=he.next
 dom:=he.dom
 hdom:=he.hdom
 ath:=he.ath
 cells:=fun i cs e f hc=>by
  cases he.cells i cs e f hc with
  |low hi hc' hv=>exact .low hi (by rw [vV (hlow i _ (aO.1 hc).1 hi)];exact hc') hv
  |whole hi hq hj hc' hf hv=>exact .whole hi hq hj (by rw [vV (hhigh i _ hq)];exact hc') hf hv
  |fam hi hq hj hc' hf hf' hn hn0 hk hle hv=>exact .fam hi hq hj (by rw [vV (hhigh i _ hq)];exact hc') hf hf' hn hn0 hk hle hv
  |known hi hq hj hc' hf hn hn0 hcap hle hle2 hv=>exact .known hi hq hj (by rw [vV (hhigh i _ hq)];exact hc') hf hn hn0 hcap hle hle2 hv
 maps:=fun i es c hg=>by
  obtain ⟨h1,j,es',h2,h3,h4,h5⟩:=he.maps i es c hg
  exact ⟨h1,j,es',h2,h3,by rw [G5 (hhigh i _ h2)];exact h4,h5⟩
 loops:=he.loops
 tags:=fun i j a b x y hi hj hab hh hx hy=>by
  have hmem:∀ i a x,S.tag i=some a→XW π i=some x→x∈ids:=by
   intro i a x hi hx
   unfold XW at hx
   split at hx
   ·rename_i hlo
    cases hx
    obtain ⟨r,hr⟩:=tag_some hi
    exact hlow i r hr hlo
   ·obtain ⟨q,hq,rfl⟩:=Option.map_eq_some_iff.1 hx
    exact hhigh i q hq
  rw [Ih (hmem i a x hi hx),Ih (hmem j b y hj hy)]
  exact he.tags i j a b x y hi hj hab hh hx hy
end
section
variable [Lo] {P:Program} {base:Nat} {ρ:Ren} {s s':St} {w w':World}
def Bo (n:Nat)(post:List (Nat × Row)):St:={ heap:=vU (.s 15 0) post,bZ:=vU (.s 15 0) (nT post),next:=n }
structure RN (P:Program) (s:St) (bl:List Nat) (n:Nat) (SO:St) (post:List (Nat × Row)) (dr:List Nat):Prop where
 keys:∀ b∈bl,b<s.next→(∃ r,fC post b=some r)∨b∈dr
 drop:∀ b∈dr,b∈bl
 nodup:Bc bl=true
 range:∀ b∈bl,ak≤b∧b<n
 next:s.next≤n
 row:∀ p∈post,∃ j cs e f cs' f',bl[j]? = some p.1∧SO.cells (ak+j)=some (cs,e,f)∧(f=0∨f=ak+j)∧p.2 = .row cs' e f'∧RVs (pq bl) cs' cs∧(f=0→f'=0)∧(f≠0→f'≠0∧∃ n,size P e=some n∧0<n)∧
  f'<n∧(p.1<s.next→∃ c,s.cells p.1=some c∧c.2.2=f')
theorem RN.emb {bl:List Nat}{n:Nat}{SO:St}{post:List (Nat × Row)}{dr:List Nat}(h:RN P s bl n SO post dr)(hn:ak≤n):Emb P (pq bl) (Bo n post) SO:=by
 have hrow:∀ i r,(Bo n post).heap.get i=some r→(i,r)∈post:=fun i r hg=>by
  rcases yS hg with hf|⟨_,hz⟩
  ·exact kM hf
  ·rw [Hp.zL] at hz;cases hz
 have hbl:∀ i r,(Bo n post).heap.get i=some r→i∈bl:=fun i r hg=>by
  obtain ⟨j,_,_,_,_,_,h1,_⟩:=h.row _ (hrow i r hg)
  exact qad h1
 refine ⟨hn,fun i q hq hi=>?_,fun i r hg=>?_,fun i cs e f hg=>?_,fun i cs e f hc=>?_,fun i es c hg=>?_,fun i q hg=>?_,fun i j a b x y hi hj hab hh hx hy=>?_⟩
 ·obtain ⟨j,hj,_⟩:=Ol hq
  exact (h.range i (qad hj)).2
 ·exact (h.range i (hbl i r hg)).2
 ·obtain ⟨j,cs0,e0,f0,cs',f',h1,h2,h3,h4,h5,h6,h7,h8,_⟩:=h.row _ (hrow i _ hg)
  cases h4
  exact h8
 ·obtain ⟨hg,_⟩:=aO.1 hc
  obtain ⟨j,cs0,e0,f0,cs',f',h1,h2,h3,h4,h5,h6,h7,h8,_⟩:=h.row _ (hrow i _ hg)
  cases h4
  have hq:=BZ h.nodup h1
  have hi:=(h.range i (qad h1)).1
  rcases h3 with h3|h3
  ·subst h3
   rw [h6 rfl] at *
   exact .whole hi hq (qan _ _) h2 rfl h5
  ·have hf0:f0≠0:=by have:ak=64:=rfl;omega
   obtain ⟨g1,sz,g2,g3⟩:=h7 hf0
   have hlen:=h5.length
   refine .fam (j:=ak+j) (k:=0) (n:=sz) hi (by rw [hq];simp) (qan _ _) h2 g1 hf0 g2 g3 (Nat.zero_le _) (by omega) ?_
   simp only [Nat.zero_mul,qaO]
   rw [qap (by omega)]
   exact h5
 ·obtain ⟨j,cs0,e0,f0,cs',f',h1,h2,h3,h4,_⟩:=h.row _ (hrow i _ hg)
  cases h4
 ·obtain ⟨j,cs0,e0,f0,cs',f',h1,h2,h3,h4,_⟩:=h.row _ (hrow i _ hg)
  cases h4
 ·have key:∀ i a x,(Bo n post).tag i=some a→XW (pq bl) i=some x→∃ k f,bl[k]? = some i∧x=ak+k∧SO.tag x=some (if f=0 then (0,x) else (1,f))∧(f=0∨f=x):=by
   intro i a x hi hx
   obtain ⟨r,hr⟩:=tag_some hi
   obtain ⟨k,cs0,e0,f0,cs',f',h1,h2,h3,_⟩:=h.row _ (hrow i r hr)
   have hq:=BZ h.nodup h1
   have hi:=(h.range i (qad h1)).1
   unfold XW at hx
   rw [if_neg (by omega),hq] at hx
   cases hx
   exact ⟨k,f0,h1,rfl,dH h2,h3⟩
  obtain ⟨k,f,g1,g2,g3,g4⟩:=key i a x hi hx
  obtain ⟨k',f',g1',g2',g3',g4'⟩:=key j b y hj hy
  rw [g3,g3']
  intro e
  have hxy:x=y:=by
   have e64:ak=64:=rfl
   have e:=Option.some.inj e
   by_cases hf:f=0 <;> by_cases hf':f'=0 <;> simp only [hf,hf',if_true,if_false,Prod.mk.injEq] at e <;> omega
  have:k=k':=by omega
  subst this
  rw [g1] at g1'
  cases g1'
  rw [hi] at hj
  exact hab (Option.some.inj hj)
theorem RN.over {bl:List Nat}{n:Nat}{SO:St}{post:List (Nat × Row)}{dr:List Nat}(h:RN P s bl n SO post dr)(hr:HR P base ρ s w){ids:List Nat}(ati:∀ i∈ids,ak≤i→i∈bl∧i<s.next) :
  Over (vM s ids) (Bo n post) s (af5 s n post dr):=by
 have hsmall:∀ i r,fC post i=some r→(Bo n post).heap.get i=some r:=fun i r hf=>by
  show (vU (.s 15 0) post).get i=_
  rw [BU,hf]
 have hsm:∀ i r,(Bo n post).heap.get i=some r→fC post i=some r:=fun i r hg=>by
  rcases yS hg with hf|⟨_,hz⟩
  ·exact hf
  ·rw [Hp.zL] at hz;cases hz
 have h64:∀ i r,fC post i=some r→i∈bl∧ak≤i∧i<n:=fun i r hf=>by
  obtain ⟨j,_,_,_,_,_,h1,_⟩:=h.row _ (kM hf)
  have hm:=qad h1
  exact ⟨hm,h.range i hm⟩
 have atm:∀ i cs e f,fC post i=some (.row cs e f)→f≠0→(Bo n post).bZ.get f=(af5 s n post dr).bZ.get f:=fun i cs e f hf h0=>by
  obtain ⟨b,hb⟩:=Iq (kM hf) (show kZ (.row cs e f)≠0 from h0)
  show (vU (.s 15 0) (nT post)).get f=(vU s.bZ (aK (nT post) (jF s dr))).get f
  have hb:fC (nT post) f=some b:=hb
  rw [BU,BU,yg,hb]
 have hnone:∀ i,fC (aK post (kT dr)) i=none→fC post i=none∧i ∉ dr:=fun i hf=>by
  rw [yg] at hf
  cases hp:fC post i with
  |some r=>rw [hp] at hf;cases hf
  |none=>
   rw [hp] at hf
   refine ⟨rfl,fun hm=>?_⟩
   obtain ⟨r,hr⟩:=J9 hm
   have hf:fC (kT dr) i=none:=hf
   rw [hf] at hr;cases hr
 have hold:∀ i,fC (aK post (kT dr)) i=none→i<s.next→i ∉ bl:=fun i hf hi hm=>by
  obtain ⟨h1,h2⟩:=hnone i hf
  rcases h.keys i hm hi with ⟨r,hr⟩|hr
  ·rw [h1] at hr;cases hr
  ·exact h2 hr
 have hkeep:∀ j a,ak≤j→(vM s ids).tag j=some a→j∈bl∧j<s.next∧s.tag j=some a:=fun j a hj ht=>by
  have hm:=afD ht
  rw [Ih hm] at ht
  exact ⟨(ati j hm hj).1,(ati j hm hj).2,ht⟩
 have hn0:∀ i,fC (aK post (kT dr)) i=none→∀ j,ak≤j→(vM s ids).tag j≠some (0,i):=fun i hf j hj ht=>by
  obtain ⟨h1,hlt,h2⟩:=hkeep j _ hj ht
  have:=an2 h2
  subst this
  exact hold j hf hlt h1
 have hn1:∀ f,f≠0→fC (aK (nT post) (jF s dr)) f=none→∀ j,ak≤j→(vM s ids).tag j≠some (1,f):=fun f hf0 hf j hj ht=>by
  obtain ⟨h1,hlt,h2⟩:=hkeep j _ hj ht
  have hff:fC (nT post) f=none∧fC (jF s dr) f=none:=by
   rw [yg] at hf
   cases hp:fC (nT post) f with
   |some r=>rw [hp] at hf;cases hf
   |none=>rw [hp] at hf;exact ⟨rfl,hf⟩
  rcases zZ h2 with ⟨cs2,e2,f2,hc,ha⟩|⟨es,c,hm⟩|⟨q,hq⟩
  ·have hf2:f2=f:=by
    by_cases hz:f2=0
    ·rw [if_pos hz] at ha;cases ha
    ·rw [if_neg hz] at ha;cases ha;rfl
   subst hf2
   rcases h.keys j h1 hlt with ⟨r,hr⟩|hdr
   ·obtain ⟨_,_,_,_,cs',f',_,_,_,h4,_,_,_,_,h9⟩:=h.row _ (kM hr)
    obtain ⟨⟨cs3,e3,f3⟩,hc3,hf3⟩:=h9 hlt
    have hc3:s.cells j=some (cs3,e3,f3):=hc3
    rw [hc] at hc3
    cases hc3
    have hf3:f2=f':=hf3
    have h4:r = .row cs' _ f':=h4
    obtain ⟨b,hb⟩:=Iq (kM hr) (show kZ r≠0 by rw [h4];show f'≠0;omega)
    have hb:fC (nT post) (kZ r)=some b:=hb
    rw [show kZ r=f' by rw [h4];rfl,←hf3,hff.1] at hb
    cases hb
   ·obtain ⟨b,hb⟩:=Jq hdr hc
    have hb:fC (jF s dr) f2=some b:=hb
    rw [hff.2] at hb
    cases hb
  ·rw [qj hm] at h2;cases h2
  ·rw [kR hq] at h2;cases h2
 have hheap:∀ i r,(af5 s n post dr).heap.get i=some r→fC post i=some r∨(r = .other∧i∈bl)∨(fC (aK post (kT dr)) i=none∧s.heap.get i=some r):=fun i r hg=>by
  rcases yS (show (vU s.heap (aK post (kT dr))).get i=some r from hg) with hf|hf
  ·rw [yg] at hf
   cases hp:fC post i with
   |some x=>rw [hp] at hf;exact .inl hf
   |none=>
    rw [hp] at hf
    have hf:fC (kT dr) i=some r:=hf
    have e:=F7 hf
    subst e
    have hm:=kM hf
    unfold kT at hm
    rw [kP] at hm
    obtain ⟨x,hx,e⟩:=List.mem_map.1 hm
    cases e
    exact .inr (.inl ⟨rfl,h.drop _ hx⟩)
  ·exact .inr (.inr hf)
 have auj:∀ i f l,fC (aK post (kT dr)) i=none→f≠0→(af5 s n post dr).bZ.get f=some l→i∈l→fC (aK (nT post) (jF s dr)) f=none∧s.bZ.get f=some l:=fun i f l hi hf hl hm=>by
  rcases yS (show (vU s.bZ (aK (nT post) (jF s dr))).get f=some l from hl) with hk|⟨hk,hz⟩
  ·rw [yg] at hk
   cases hp:fC (nT post) f with
   |some x=>
    rw [hp] at hk
    have hk:x=l:=Option.some.inj hk
    subst hk
    obtain ⟨p,hpm,rfl,_⟩:=EF hp
    have:i=p.1:=by simpa using hm
    subst this
    obtain ⟨r,hr⟩:=PX hpm
    rw [(hnone _ hi).1] at hr
    cases hr
   |none=>
    rw [hp] at hk
    have hk:fC (jF s dr) f=some l:=hk
    rw [yA hk] at hm
    cases hm
  ·exact ⟨hk,hz⟩
 refine ⟨rfl,fun i r hg=>?_,fun i cs e f hg=>?_,fun i a ht=>?_,fun i c hc=>?_,fun i es c hg=>?_,fun i q hg=>?_⟩
 ·show i<n
  rcases hheap i r hg with hf|⟨_,hm⟩|⟨_,hg⟩
  ·exact (h64 i r hf).2.2
  ·exact (h.range i hm).2
  ·exact qau (hr.dO i r hg) h.next
 ·show f<n
  rcases hheap i _ hg with hf|⟨hz,_⟩|⟨_,hg⟩
  ·obtain ⟨_,_,_,_,cs',f',_,_,_,h4,_,_,_,h8,_⟩:=h.row _ (kM hf)
   cases h4
   exact h8
  ·cases hz
  ·exact qau (hr.fM i cs e f hg) h.next
 ·obtain ⟨r,hg⟩:=tag_some ht
  rcases hheap i r hg with hf|⟨rfl,_⟩|⟨hf,hg'⟩
  ·refine .inl ⟨(h64 i r hf).2.1,?_⟩
   obtain ⟨_,_,_,_,cs',f',_,_,_,h4,_⟩:=h.row _ (kM hf)
   have h4:r = .row cs' _ f':=h4
   subst h4
   unfold St.tag at ht ⊢
   rw [hg] at ht
   rw [hsmall i _ hf]
   simp only at ht ⊢
   by_cases h0:f'=0
   ·simpa [h0] using ht
   ·simp only [h0,if_false] at ht ⊢
    rw [atm i _ _ _ hf h0]
    exact ht
  ·unfold St.tag at ht
   rw [hg] at ht
   cases ht
  ·right
   unfold St.tag at ht
   rw [hg] at ht
   cases r with
   |row cs e f=>
    simp only at ht
    by_cases h0:f=0
    ·simp only [h0,if_true] at ht
     cases ht
     exact ⟨by unfold St.tag;rw [hg'];simp [h0],hn0 i hf⟩
    ·simp only [h0,if_false] at ht
     split at ht
     ·rename_i l hl
      split at ht
      ·rename_i hm
       cases ht
       obtain ⟨g1,g2⟩:=auj i f l hf h0 hl hm
       exact ⟨by unfold St.tag;rw [hg'];simp [h0,g2,hm],hn1 f h0 g1⟩
      ·cases ht
     ·cases ht
   |map es c=>cases ht;exact ⟨qj hg',hn0 i hf⟩
   |loop q=>cases ht;exact ⟨kR hg',hn0 i hf⟩
   |other=>cases ht
 ·obtain ⟨cs,e,f⟩:=c
  obtain ⟨hg,hm⟩:=aO.1 hc
  rcases hheap i _ hg with hf|⟨hz,_⟩|⟨hf,hg'⟩
  ·left
   refine aO.2 ⟨hsmall i _ hf,?_⟩
   rcases hm with hm|⟨l,hl,hm⟩
   ·exact .inl hm
   ·by_cases h0:f=0
    ·exact .inl h0
    ·exact .inr ⟨l,by rw [atm i _ _ _ hf h0];exact hl,hm⟩
  ·cases hz
  ·right
   by_cases h0:f=0
   ·have hc':s.cells i=some (cs,e,f):=aO.2 ⟨hg',.inl h0⟩
    refine ⟨hc',fun j hj=>?_⟩
    rw [dH hc',if_pos h0]
    exact hn0 i hf j hj
   ·rcases hm with hm|⟨l,hl,hm⟩
    ·exact absurd hm h0
    ·obtain ⟨g1,g2⟩:=auj i f l hf h0 hl hm
     have hc':s.cells i=some (cs,e,f):=aO.2 ⟨hg',.inr ⟨l,g2,hm⟩⟩
     refine ⟨hc',fun j hj=>?_⟩
     rw [dH hc',if_neg h0]
     exact hn1 f h0 g1 j hj
 ·rcases hheap i _ hg with hf|⟨hz,_⟩|⟨hf,hg'⟩
  ·obtain ⟨_,_,_,_,cs',f',_,_,_,h4,_⟩:=h.row _ (kM hf)
   cases h4
  ·cases hz
  ·exact .inr ⟨hg',hn0 i hf⟩
 ·rcases hheap i _ hg with hf|⟨hz,_⟩|⟨hf,hg'⟩
  ·obtain ⟨_,_,_,_,cs',f',_,_,_,h4,_⟩:=h.row _ (kM hf)
   cases h4
  ·cases hz
  ·exact .inr ⟨hg',hn0 i hf⟩
theorem auh (hr:HR P base ρ s w){π:Ren}{SC:St}{ids bl:List Nat}{n:Nat}{SO:St}{post:List (Nat × Row)}{dr:List Nat}{ρ2:Ren}(he0:Emb P π SC (vM s ids))(ati:∀ i∈ids,ak≤i→i∈bl∧i<s.next)
  (hg:Goes P base (under ρ π) SC w ρ2 SO w') (hp:RN P s bl n SO post dr) (hpi:∀ (k b:Nat),bl[k]? = some b→b<s.next→ak+k<SC.next∧π (ak+k)=some ⟨b,0,aC⟩) :
  ∃ ρ',Goes P base ρ s w ρ' (af5 s n post dr) w'∧∀ {v v' c:Value},RV (pq bl) v' v→VR ρ2 v c→VR ρ' v' c:=by
 have hr0:HR P base ρ (vM s ids) w:=hr.less Ib
 have aB1:ak≤n:=qaR hr.next hp.next
 have aj0:=hp.emb aB1
 have hr2:=hg.hr.ren aj0
 have e64:ak=64:=rfl
 have aul:∀ i,i<s.next→∀ l,under ρ2 (pq bl) i=some l→ρ i=some l:=by
  intro i hi l hl
  obtain ⟨h1,q,l0,h2,h3,h4,rfl⟩:=Lm hl
  obtain ⟨k,hk,rfl⟩:=Ol h2
  obtain ⟨h5,h6⟩:=hpi k i hk hi
  have h4:ρ2 (ak+k)=some l0:=h4
  rw [hg.old _ h5] at h4
  obtain ⟨_,q1,l1,g2,g3,g4,rfl⟩:=Lm h4
  rw [h6] at g2
  cases g2
  have g4:ρ i=some l1:=g4
  rw [g4]
  obtain ⟨b1,o1,c1⟩:=l1
  simp [rJ]
 let ρ':Ren:=fun i=>if i<s.next then ρ i else under ρ2 (pq bl) i
 have hlo:∀ i,i<s.next→ρ' i=ρ i:=fun i hi=>if_pos hi
 have hhi:∀ i,¬i<s.next→ρ' i=under ρ2 (pq bl) i:=fun i hi=>if_neg hi
 have hle2:(under ρ2 (pq bl)).le ρ':=fun i l hl=>by
  by_cases hi:i<s.next
  ·rw [hlo i hi];exact aul i hi l hl
  ·rw [hhi i hi];exact hl
 have hle:ρ.le ρ':=fun i l hl=>by rw [hlo i (hr.dom i l hl).2.1];exact hl
 have aio:∀ i a l,(Bo n post).tag i=some a→ρ'.at i=some l→(under ρ2 (pq bl)).at i=some l:=by
  intro i a l ht hl
  rcases zZ ht with ⟨cs,e,f,hc,_⟩|⟨es,c,hm⟩|⟨q,hq⟩
  ·obtain ⟨l0,h0⟩:=hr2.rows i cs e f hc
   have:=Ren.abL hle2 h0.at_
   rw [hl] at this
   cases this
   exact h0.at_
  ·obtain ⟨_,_,_,h2,_⟩:=aj0.maps i es c hm
   obtain ⟨l0,h0,_⟩:=hr2.maps i es c hm
   have h1:=(aj0.maps i es c hm).1
   rw [Ren.dw h1] at hl ⊢
   rw [hle2 i l0 h0] at hl
   cases hl
   exact h0
  ·exact absurd hq (aj0.loops i q)
 have hrS:HR P base ρ' (Bo n post) w':=by
  refine ⟨fun i l hi=>?_,hr2.next,hr2.iF,hr2.low,hr2.dO,hr2.fM,fun i cs e f hc=>?_,fun i es c hi=>?_,fun i q hi=>absurd hi (aj0.loops i q),fun i j a b l l' hi hj hab hl hl' hh=>?_⟩
  ·by_cases hlt:i<s.next
   ·rw [hlo i hlt] at hi
    obtain ⟨d1,d2,d3,d4⟩:=hr.dom i l hi
    exact ⟨d1,qau d2 hp.next,d3,qau d4 hg.grow⟩
   ·rw [hhi i hlt] at hi
    exact hr2.dom i l hi
  ·obtain ⟨l,hl⟩:=hr2.rows i cs e f hc
   exact ⟨l,hl.move hle2 rfl⟩
  ·obtain ⟨l,hl,es',h3,h4⟩:=hr2.maps i es c hi
   exact ⟨l,hle2 _ _ hl,es',h3,h4.mono hle2⟩
  ·exact hr2.sep i j a b l l' hi hj hab (aio i a l hi hl) (aio j b l' hj hl') hh
 have hgo:Goes P base ρ (vM s ids) w ρ' (Bo n post) w':=by
  refine ⟨hle,hrS,hg.os,hg.tape,hg.output,hg.grow,hp.next,fun b hb hn=>?_,fun b ho=>?_,fun i hi=>hlo i hi⟩
  ·exact hg.frame b hb fun ho=>hn (he0.owned hr0 ho)
  ·obtain ⟨i,l,a,h1,h2,h3,h4⟩:=ho
   have h5:=aio i a l h2 (by rw [Ren.dw h1];exact h3)
   rw [Ren.dw h1] at h5
   have ho2:=aj0.owned hg.hr ⟨i,l,a,h1,h2,h5,h4⟩
   rcases hg.own b ho2 with h6|h6
   ·exact .inl (he0.owned hr0 h6)
   ·exact .inr h6
 exact ⟨ρ',Goes.over hr Ib hgo (hp.over hr ati),fun hv hc=>(hv.comp hc).mono hle2⟩
theorem Sj {C:Cfg}(hK:eX C P){n:Nat}{f:FuncId}{ms:wO}{G:bg→Tree (Nat × bg)}(hrun:iZ P C n f ms G){args:List Value}{v:Value}(hv:(atj P ms G s args).run=some (v,s'))
  {aZ:List Value} (hr:HR P base ρ s w) (ha:VRs ρ args aZ):Calls P f ⟨aZ⟩ w fun e w'=>∃ c ρ',e = .returned c∧Goes P base ρ s w ρ' s' w'∧VR ρ' v c:=by
 have e64:ak=64:=rfl
 obtain ⟨bn,agl,hv⟩:=fO hv
 obtain ⟨hwh,hv⟩:=dV hv
 obtain ⟨o,ho,hv⟩:=Tree.LG hv
 obtain ⟨⟨ei,O⟩,hG,hv⟩:=Tree.LG hv
 obtain ⟨spe,axu,hv⟩:=fO hv
 obtain ⟨⟨v0,s0⟩,hback,hv⟩:=fO hv
 cases hv
 obtain ⟨aAd,hraw,hrun⟩:=hrun o (ei,O) hG
 have axu:nth ms.ends ei=some spe:=axu
 have hraw:=hraw spe axu
 obtain ⟨hgd,hback⟩:=au.1 hback
 simp only [qag] at hgd
 obtain ⟨g1,g2,g3,g4,g5,g6,g7⟩:=hgd
 have g4:ms.pre.N=ak:=qaa g4
 have g5:spe.N=ms.pre.next:=qaa g5
 have g3:=Nr g3
 have g6:=QT g6
 obtain ⟨post,hpost,hback⟩:=ah.1 hback
 obtain ⟨vs,hvs,hback⟩:=ah.1 hback
 cases hback
 have hpost:=FC hpost
 obtain ⟨Gx,akX,hov,aj0,_,hnx⟩:=SG ho aAd
 rw [g4] at akX
 rw [agl] at akX
 cases akX
 rw [g4] at hov aj0 hnx
 generalize hbl:atn s bn spe=bl at *
 have axS:bl=bn.map (fun q=>q.blk)++acz s.next (aQ spe.new):=by
  rw [←hbl]
  unfold atn
  rw [BL,kP]
 have g2:∀ a∈bl,ak≤a∧a<s.next+aQ spe.new:=Nr g2
 have asx:zO (fun q:Loc=>q.blk) bn=bn.map (fun q=>q.blk):=kP ..
 rw [asx] at g3
 have hold:∀ (k b:Nat),bl[k]? = some b→b<s.next→∃ q:Loc,bn[k]? = some q∧q=(⟨b,0,aC⟩:Loc):=by
  intro k b hk hb
  rw [axS] at hk
  by_cases hlt:k<bn.length
  ·rw [qal (by simpa using hlt),qaS] at hk
   obtain ⟨q,hq,rfl⟩:=Option.map_eq_some_iff.1 hk
   exact ⟨q,hq,EW hwh q (qad hq)⟩
  ·rw [qak (by simpa using hlt)] at hk
   have:=QU _ _ _ _ hk
   omega
 let ids:List Nat:=bn.map (fun q=>q.blk)++ms.pre.low++(afy (lQ ms.pre.next o).heap).filter (fun i=>decide (i<ak))
 have ayd:∀ q∈bn,q.blk∈ids:=fun q hq=>qas _ (qas _ (List.mem_map.2 ⟨q,hq,rfl⟩))
 have he0:Emb P (jI ak bn) (lQ ms.pre.next o) (vM s ids):=by
  refine aeL aj0 (fun i r hg hlo=>?_) (fun i q hq=>?_)
  ·exact List.mem_append_right _ (List.mem_filter.2 ⟨BH hg,by simpa using hlo⟩)
  ·unfold jI at hq
   rw [aG,aG] at hq
   split at hq
   ·cases hq
   ·rw [jk] at hq
    exact ayd q (qad hq)
 have ati:∀ i∈ids,ak≤i→i∈bl∧i<s.next:=by
  intro i hi h64
  rcases List.mem_append.1 hi with hi|hi
  ·rcases List.mem_append.1 hi with hi|hi
   ·exact ⟨by rw [axS];exact qas _ hi,(g3 i hi).2⟩
   ·have:=g6 i hi;omega
  ·have:=(List.mem_filter.1 hi).2
   simp at this
   omega
 obtain ⟨q1,hrn,hend⟩:=ah.1 hrun
 obtain ⟨v1,s1⟩:=q1
 obtain ⟨aBU,_,amD,hend⟩:=JA (show (dU P ms.ends 0 (v1,s1)).run=some (ei,O) from hend)
 have amD:nth ms.ends ei=some aBU:=amD
 rw [axu] at amD
 cases amD
 obtain ⟨hone,hend⟩:=dV (show (sel (acM v1) (ajX P spe (OG v1) s1) .fail).run=some O from hend)
 obtain ⟨ayC,_,aBL,auu,_,hnx1⟩:=SG hend hraw
 have hr0:HR P base ρ (vM s ids) w:=hr.less Ib
 refine ((sN hK n).1 f o.vals _ v1 s1 hrn base _ w aZ (hr0.ren he0) (hov.comp ha)).mono ?_
 rintro e w' ⟨c,ρ1,rfl,hg,hvc⟩
 have hsn:(lQ ms.pre.next o).next=ms.pre.next:=rfl
 have hg2:=Goes.XY (hr0.ren he0) hg auu (by rw [hsn,←g5];exact qM) (by show ms.pre.next≤spe.next;rw [hnx1,g5];omega)
 have hvO:VR (under ρ1 (jI spe.N ayC)) (tuple O.vals) c:=by
  have:=RVs.tuple' aBL
  rw [Fv hone] at this
  exact this.comp hvc
 generalize hdr:vI (vk O.rows) (zO (fun q:Loc=>q.blk) bn) ak=dr at *
 have hP:RN P s bl (s.next+aQ spe.new) (lQ spe.next O) post dr:=by
  refine ⟨fun b hb hlt=>?_,fun b hb=>?_,g1,g2,qan _ _,fun p hp=>?_⟩
  ·obtain ⟨k,hk⟩:=List.getElem?_of_mem hb
   obtain ⟨q,hq,rfl⟩:=hold k b hk hlt
   rcases Nl (ids:=vk O.rows) (k:=ak) (show (zO (fun q:Loc=>q.blk) bn)[k]? = some b by rw [asx,qaS,hq];rfl) with hm|hm
   ·left
    unfold vk at hm
    rw [kP] at hm
    obtain ⟨q,hq2,e⟩:=List.mem_map.1 hm
    obtain ⟨_,_,p,hp,h1⟩:=hpost.2 q hq2
    have e:q.1=ak+k:=e
    rw [e,show ak+k-ak=k by omega,hk] at h1
    cases h1
    exact PX hp
   ·right
    rw [hdr] at hm
    exact hm
  ·rw [←hdr] at hb
   have:=Ef hb
   rw [asx] at this
   rw [axS]
   exact qas _ this
  ·obtain ⟨jr,i,cs,e,f,sp,cs',f',h2,h3,hi,h1,h4,h6,h7⟩:=hpost.1 p hp
   have hmr:(i,Row.row cs e f)∈O.rows:=qad h2
   obtain ⟨_,h5,_⟩:=hpost.2 _ hmr
   have h5:f=0∨f=i:=h5
   obtain ⟨j,rfl⟩:∃ j,i=ak+j:=⟨i-ak,by omega⟩
   rw [show ak+j-ak=j by omega] at h1
   have hcell:(lQ spe.next O).cells (ak+j)=some (cs,e,f):=by
    refine aO.2 ⟨adz g7 hmr,?_⟩
    rcases h5 with h5|h5
    ·exact .inl h5
    ·right
     subst h5
     exact ⟨_,adV g7 (fun p hp=>(hpost.2 p hp).2.1) hmr (by show ak+j≠0;omega),by simp⟩
   have hrv:RVs (pq bl) cs' cs:=by
    unfold Po at h6
    cases sp with
    |true=>exact TF g1 (fun a ha=>(g2 a ha).1) h6
    |false=>
     have h6:some cs=some cs':=h6
     cases h6
     exact yU (ZN hraw h2 h3)
   have hbf:(f=0→f'=0)∧(f≠0→f'≠0)∧f'<s.next+aQ spe.new∧(p.1<s.next→∃ c,s.cells p.1=some c∧c.2.2=f'):=by
    unfold OC at h7
    rw [aG] at h7
    split at h7
    ·rename_i hlt
     have hlt:=bD hlt
     obtain ⟨⟨cs2,e2,f2⟩,hc2,h7⟩:=ah.1 h7
     have h7:sel (qac f 0) (guard (qac f2 0) (some 0)) (guard (!qac f2 0) (some f2))=some f':=h7
     rw [aG] at h7
     split at h7
     ·rename_i hf
      have hf:f=0:=qaa hf
      obtain ⟨k1,k2⟩:=au.1 h7
      cases k2
      have k1:f2=0:=qaa k1
      exact ⟨fun _=>rfl,fun h=>absurd hf h,by omega,fun _=>⟨_,hc2,k1⟩⟩
     ·rename_i hf
      obtain ⟨k1,k2⟩:=au.1 h7
      cases k2
      have k1:f'≠0:=fun e=>by rw [e] at k1;cases k1
      have:=hr.fM _ _ _ _ (aO.1 hc2).1
      exact ⟨fun h=>absurd (by rw [h];rfl) hf,fun _=>k1,by omega,fun _=>⟨_,hc2,rfl⟩⟩
    ·rename_i hlt
     have hlt:¬p.1<s.next:=fun e=>hlt (by rw [oN];simpa using e)
     have h7:=Option.some.inj h7
     have hrg:=g2 p.1 (qad h1)
     rw [aG] at h7
     split at h7
     ·rename_i hf
      exact ⟨fun _=>h7.symm,fun h=>absurd (qaa hf) h,by omega,fun h=>absurd h hlt⟩
     ·rename_i hf
      exact ⟨fun h=>absurd (by rw [h];rfl) hf,fun _=>by omega,by omega,fun h=>absurd h hlt⟩
   refine ⟨j,cs,e,f,cs',f',h1,hcell,h5,h4,hrv,hbf.1,fun hf=>⟨hbf.2.1 hf,?_⟩,hbf.2.2.1,hbf.2.2.2⟩
   cases auu.cells _ _ _ _ hcell with
   |low hi _ _=>omega
   |whole _ _ _ _ hf0 _=>exact absurd hf0 hf
   |fam _ _ _ _ _ _ hn hn0 _ _ _=>exact ⟨_,hn,hn0⟩
   |known _ _ _ _ _ hn hn0 _ _ _ _=>exact ⟨_,hn,hn0⟩
 obtain ⟨ρ',hgo,hval⟩:=auh hr he0 ati hg2 hP (fun k b hk hb=>by
  obtain ⟨q,hq,rfl⟩:=hold k b hk hb
  have hlt:=(List.getElem?_eq_some_iff.1 hq).1
  refine ⟨by show ak+k<ms.pre.next;omega,?_⟩
  exact uS (qat _) (by rw [jk];exact hq))
 exact ⟨c,ρ',rfl,hgo,hval (X0 g1 (fun a ha=>(g2 a ha).1) hvs).tuple' hvO⟩
def o9 (P:Program)(L:List (wO × (bg→Tree (Nat × bg))))(s:St)(args:List Value):Tree (Value × St):=List.rec .fail (fun p _ ih=>(atj P p.1 p.2 s args).alt ih) L
theorem Nh {f:FuncId}:∀ {L:List (wO × (bg→Tree (Nat × bg)))},(∀ p∈L,∃ C n,eX C P∧iZ P C n f p.1 p.2)→∀ {args:List Value} {v:Value},(o9 P L s args).run=some (v,s')→∀ {aZ:List Value},HR P base ρ s w→VRs ρ args aZ→
  Calls P f ⟨aZ⟩ w fun e w'=>∃ c ρ',e = .returned c∧Goes P base ρ s w ρ' s' w'∧VR ρ' v c
 |[],_,args,v,h,_,_,_=>by cases h
 |p::L,hL,args,v,h,aZ,hr,ha=>by
  rcases Tree.acj (show (((atj P p.1 p.2 s args).alt (o9 P L s args)).run=some (v,s')) from h) with h|h
  ·obtain ⟨C,n,hK,hrun⟩:=hL p qai
   exact Sj hK hrun h hr ha
  ·exact Nh (fun q hq=>hL q (qae _ hq)) h hr ha
theorem eu.o9 {C:Cfg}{f0:FuncId}{L0:List (wO × (bg→Tree (Nat × bg)))}(hrun:∀ p∈L0,∃ C n,eX C P∧iZ P C n f0 p.1 p.2){L:List (Nat × Con)}(hL:eu P C L):eu P C ((f0,.tree (Ax.o9 P L0))::L):=by
 intro f t h args s v s' hv base ρ w aZ hr ha
 have h':sel (qac f0 f) (some (Con.tree (Ax.o9 P L0))) (fC L f)=some t:=h
 rw [aG] at h'
 split at h'
 ·rename_i hb
  cases h'
  have hf:f0=f:=qaa hb
  subst hf
  exact Nh hrun hv hr ha
 ·exact hL f t h' args s v s' hv base ρ w aZ hr ha
theorem eu.atj {C C0:Cfg}(hK:eX C0 P){n:Nat}{f0:FuncId}{ms:wO}{G:bg→Tree (Nat × bg)}(hrun:iZ P C0 n f0 ms G){L:List (Nat × Con)}(hL:eu P C L):eu P C ((f0,.tree (Ax.atj P ms G))::L):=by
 intro f t h args s v s' hv base ρ w aZ hr ha
 have h':sel (qac f0 f) (some (Con.tree (Ax.atj P ms G))) (fC L f)=some t:=h
 rw [aG] at h'
 split at h'
 ·rename_i hb
  cases h'
  have hf:f0=f:=qaa hb
  subst hf
  exact Sj hK hrun hv hr ha
 ·exact hL f t h' args s v s' hv base ρ w aZ hr ha
end
end
end Go.Ax
namespace Go.Ax
open Go
variable {P:Program}
def Rt (P:Program)(f:FuncId):Bool:=
 match P.funcs[f]? with
 |some fn=>!(fn.name == "runtime.NumGoroutine")&&fn.body.isNone&&(Extern.findNext fn).isNone
 |none=>false
theorem Uc {f:FuncId}(h:Rt P f=true){e:Array Value→Sem Value}(he:(P.funcs[f]?).bind Extern.find=some e)(args:Array Value)(w:World) :
  (callFunc f args).run P w=((e args).run P w).andThen fun v w'=>.ok (.value v) w':=by
 unfold Rt at h
 cases hf:P.funcs[f]? with
 |none=>rw [hf] at h;cases h
 |some fn=>
  rw [hf] at h he
  simp only [qag,qaC] at h
  have hn:Extern.findNext fn=none:=by
   cases hx:Extern.findNext fn with
   |none=>rfl
   |some y=>rw [hx] at h;exact absurd h.2 (by intro q;cases q)
  exact run_callFunc_extern hf h.1.1 h.1.2 hn he args w
theorem Yo (k1 k2 k3:IntKind)(x y c:Nat)(hc:c≤1)(n:String)(w:World) :
  (Extern.MathBitsCarry.three n #[.int k1 (qaZ x),.int k2 (qaZ y),.int k3 (qaZ c)]).run P w = .ok (x,y,c) w:=by
 have:c=0∨c=1:=by omega
 rcases this with rfl|rfl <;> rfl
theorem aaI {C:Cfg}{f:FuncId}(h:Rt P f=true)(he:(P.funcs[f]?).bind Extern.find=some add64Entry):wH C P f .aqi:=by
 intro base ρ s s' w args aZ v hr ha hv
 obtain ⟨k1,k2,k3,x,y,c,rfl,hv⟩:=ad9 ha (show atq args (fun x y c=>aeb x y c s)=some (v,s') from hv)
 obtain ⟨hc,hv⟩:=au.1 hv
 have hc:c≤1:=qab hc
 cases hv
 refine ⟨_,ρ,w,?_,Goes.refl hr,.tuple (.cons (.int _ _) (.cons (.int _ _) .nil))⟩
 rw [Uc h he]
 unfold add64Entry
 simp only [qaH,Yo k1 k2 k3 x y c hc,qay,qaT]
 rfl
theorem abT {C:Cfg}{f:FuncId}(h:Rt P f=true)(he:(P.funcs[f]?).bind Extern.find=some Go.Proofs.sub64Entry):wH C P f .aqM:=by
 intro base ρ s s' w args aZ v hr ha hv
 obtain ⟨k1,k2,k3,x,y,c,rfl,hv⟩:=ad9 ha (show atq args (fun x y c=>ac1 x y c s)=some (v,s') from hv)
 obtain ⟨hc,hv⟩:=au.1 hv
 have hc:c≤1:=qab hc
 cases hv
 refine ⟨_,ρ,w,?_,Goes.refl hr,.tuple (.cons (.int _ _) (.cons (.int _ _) .nil))⟩
 rw [Uc h he]
 unfold Go.Proofs.sub64Entry
 simp only [qaH,Yo k1 k2 k3 x y c hc,qay,qaT]
 unfold Extern.MathBitsCarry.pair
 by_cases hx:x<y+c
 ·have e:ltN x (qaN y c)=true:=qav hx
  rw [if_pos hx,e];rfl
 ·have e:ltN x (qaN y c)=false:=by
   cases h:ltN x (qaN y c) with
   |false=>rfl
   |true=>exact absurd (qab h) hx
  rw [if_neg hx,e];rfl
end Go.Ax
namespace Go.Ax
variable [Lo]
open Go Go.Extern
variable {P:Program} {C:Cfg}
noncomputable def hdl (P:Program)(t:TypeId):Value:=.pointer (some ⟨P.globals.size,t,none⟩)
theorem ZL (ρ:Ren)(hG:P.globals.size<eU)(t:TypeId):VR ρ (handle P t) (hdl P t):=by
 have:=VR.ptr (ρ:=ρ) (b:=P.globals.size) (o:=t) (l:=⟨P.globals.size,0,0⟩) (Ren.Ya hG)
 simpa [handle,hdl] using this
theorem LZ {ρ:Ren}(hG:P.globals.size<eU){h c:Value}(hv:VR ρ h c){t:TypeId}(ht:ofHandle P h=some t):c=hdl P t:=by
 unfold ofHandle at ht
 split at ht
 ·rename_i a
  obtain ⟨hb,ht⟩:=au.1 ht
  cases ht
  have hb:=qaa hb
  cases hv with
  |@ptr b o l hl=>
   have hb:b=P.globals.size:=hb
   subst hb
   rw [Ren.Ya hG] at hl
   cases hl
   simp [hdl]
 ·cases ht
end Go.Ax
namespace Go.Ax
variable [Lo]
open Go Go.Extern
variable {P:Program} {base:Nat} {ρ:Ren} {s s':St} {w w':World}
theorem Goes.forget (h:HR P base ρ s w){b:Nat}{cs:List Value}{e:TypeId}{f:Nat}(hc:s.cells b=some (cs,e,f))(hf:f≠0) :
  Goes P base ρ s w ρ { heap:=s.heap.set b (.row [] e f),bZ:=s.bZ,next:=s.next } w:=by
 obtain ⟨hg,hlive⟩:=aO.1 hc
 have hget:∀ i,i≠b→(s.heap.set b (.row [] e f)).get i=s.heap.get i:=fun i hi=>Hp.get_set_other _ _ hi
 have htag:∀ i,St.tag { heap:=s.heap.set b (.row [] e f),bZ:=s.bZ,next:=s.next } i=s.tag i:=by
  intro i
  by_cases hi:i=b
  ·subst hi
   unfold St.tag
   simp only [Hp.get_set_same,hg]
  ·unfold St.tag
   simp only [hget i hi]
 have hown:∀ x,xO ρ { heap:=s.heap.set b (.row [] e f),bZ:=s.bZ,next:=s.next } x→xO ρ s x:=by
  rintro x ⟨i,l,a,h1,h2,h3,h4⟩
  exact ⟨i,l,a,h1,by rw [←htag i];exact h2,h3,h4⟩
 refine ⟨Ren.le_refl ρ,?_,rfl,rfl,rfl,qat _,qat _,fun _ _ _=>rfl,fun x hx=>.inl (hown x hx),fun _ _=>rfl⟩
 refine ⟨h.dom,h.next,h.iF,fun i hi ht=>h.low i hi (by rw [←htag i];exact ht),fun i r hi=>?_,fun i cs' e' f' hi=>?_,fun i cs' e' f' hi=>?_,fun i es c hi=>?_,fun i r hi=>?_,fun i j a c l l' hi hj=>?_⟩
 ·by_cases e0:i=b
  ·subst e0;exact h.dO _ _ hg
  ·exact h.dO i r (by rw [←hget i e0];exact hi)
 ·by_cases e0:i=b
  ·subst e0
   have hi:(s.heap.set i (.row [] e f)).get i=some (.row cs' e' f'):=hi
   rw [Hp.get_set_same] at hi
   cases hi
   exact h.fM _ _ _ _ hg
  ·exact h.fM i cs' e' f' (by rw [←hget i e0];exact hi)
 ·by_cases e0:i=b
  ·subst e0
   obtain ⟨h1,h2⟩:=aO.1 hi
   have h1:(s.heap.set i (.row [] e f)).get i=some (.row cs' e' f'):=h1
   rw [Hp.get_set_same] at h1
   cases h1
   obtain ⟨l,hq⟩:=h.rows i cs e f hc
   obtain ⟨hat,a,fz,ha,hv,hz,h0,h4⟩:=hq
   refine ⟨l,hat,a,fz,ha,fun j x hj=>by simp at hj,hz,fun h=>absurd h hf,fun h=>?_⟩
   obtain ⟨n,n1,n2,n3,n4⟩:=h4 h
   exact ⟨n,n1,n2,n3,by simp⟩
  ·refine h.rows i cs' e' f' ?_
   obtain ⟨h1,h2⟩:=aO.1 hi
   exact aO.2 ⟨by rw [←hget i e0];exact h1,h2⟩
 ·have e0:i≠b:=by
   rintro rfl
   have hi:(s.heap.set i (.row [] e f)).get i=some (.map es c):=hi
   rw [Hp.get_set_same] at hi
   cases hi
  exact h.maps i es c (by rw [←hget i e0];exact hi)
 ·have e0:i≠b:=by
   rintro rfl
   have hi:(s.heap.set i (.row [] e f)).get i=some (.loop r):=hi
   rw [Hp.get_set_same] at hi
   cases hi
  exact h.loops i r (by rw [←hget i e0];exact hi)
 ·rw [htag i] at hi
  rw [htag j] at hj
  exact h.sep i j a c l l' hi hj
theorem run_copy_cells {t e:TypeId}{sz:Nat}(hu:P.underlying t=some (.slice e))(hsz:size P e=some sz)(ty:TypeId){g off dLen dCap sb so sLen sCap m:Nat}(hm:Nat.min sLen dLen=m){cur:Array Value}{ty0:TypeId}{fz:Nat × Nat}
  (hg:w.heap[g]? = some (.cells cur ty0 fz)) (hfz:∀ k,k<cur.size→¬(fz.1≤k∧k<fz.2)) {cl:List Value} (hcl:cl.length=m*sz) (hsrc:∀ (j:Nat) (v:Value),cl[j]? = some v→w.cell? ⟨sb,so+j,none⟩=some v)
  (hfit:off+cl.length≤cur.size) (h1:∀ v∈cl,v.oneCell'=true) :
  (Builtin.copy_ #[t,t] ty #[.slice (some ⟨g,off,none⟩) dLen dCap,.slice (some ⟨sb,so,none⟩) sLen sCap]).run P w = .ok (goInt m) (w.setRow g (cur.toList.take off++cl++cur.toList.drop (off+cl.length)).toArray):=by
 have hl:=run_loadCells_list (P:=P) w ⟨sb,so,none⟩ cl (fun j v hj=>by rw [add_eq];exact hsrc j v hj)
 rw [hcl] at hl
 have hst:=jC P g off ty0 fz cl 0 cur w hg (by simpa using hfit) hfz h1
 simp only [qaz] at hst
 simp [Builtin.copy_,run_underlying hu,Builtin.lenOf,run_sizeOf hsz,hm,Builtin.firstCells,hl,hst]
theorem KE {t it e:TypeId}{i:TypeInfo}{z:Value}(hu:P.underlying t=some (.slice e))(hi:P.info? e=some i)(hz:i.zero=some z)(aB6:z.cells.size=i.size)(h0:1≤i.size)(hint:P.underlying it=some (.int .i64))(ty:TypeId)
  {b:Addr} {sLen sCap m:Nat} {old:List Value} (hold:(Go.loadCells b (sLen*i.size)).run P w.drew = .ok ⟨old⟩ w.drew) (hm0:1≤m) (hfit:sCap<sLen+m) (h63:sLen+m≤281474976710656) (hmb:m*i.bytes≤281474976710656)
  (h48:Builtin.nextslicecap (sLen+m) sCap*i.bytes≤281474976710656) :
  (Builtin.append_ #[t,it] ty #[.slice (some b) sLen sCap,.int .i64 (m:Int)]).run P w =
   .ok (.slice (some ⟨w.heap.size,0,none⟩) (sLen+m) (grownCap w (sLen+m) sCap e))
    (w.drew.alloc (.cells ((⟨old⟩:Array Value)++Builtin.zeroCells z.cells m++Builtin.zeroCells z.cells (grownCap w (sLen+m) sCap e-(sLen+m))) e)):=by
 have hn:¬(sLen+m≤sCap):=by omega
 have h63':¬(9223372036854775807<((sLen:Int)+(m:Int))):=by omega
 have h48':¬(281474976710656<Builtin.nextslicecap (sLen+m) sCap*i.bytes):=by omega
 have hw:IntKind.i64.wrap (m:Int)=m:=by rw [IntKind.wrap_i64];omega
 have aBC:¬(281474976710656<(m:Int)*(i.bytes:Int)):=by
  have:((m*i.bytes:Nat):Int)≤281474976710656:=by omega
  rw [Int.natCast_mul] at this
  omega
 have hneg:¬((m:Int)<0):=by omega
 have hz0:¬(m*i.size=0):=by
  have:=Nat.mul_pos hm0 h0
  omega
 have hai:(asInt (.int .i64 (m:Int))).run P w = .ok (m:Int) w:=rfl
 simp [hai,Builtin.append_,run_underlying hu,run_underlying hint,sizeOf,typeInfo,zeroValue,hi,hz,hw,hneg,aBC,hn,h63',h48',hz0,Question.forced,Builtin.firstCells,hold,newRow,grownCap]
theorem ovl (params results:Array TypeId)(a b:Addr)(la ca lb cb:Nat):SlicesOverlaps.overlaps params results #[.slice (some a) la ca,.slice (some b) lb cb]=(do
  let some t:=params[0]?|stuck "slices.overlaps: no parameter types"
  let .slice elem ←underlying t|stuck "slices.overlaps: slice type expected"
  let size ←sizeOf elem
  if la=0∨lb=0∨size=0 then pure (.bool false)
  else if a.block != b.block&&(←frozen a)&&(←frozen b) then unsupported .addressObserved
  else do
   if a.block != b.block then do
    noView a;noView b
    if ←mayBeOne a b then return .bool ((←choose (.extern "sameAddr.stringBytes" 2)) == 1)
   pure (.bool (a.block == b.block&&a.off<b.off+lb*size&&b.off<a.off+la*size))):=rfl
theorem Wv {params results:Array TypeId}{t e:TypeId}{sz:Nat}(h0:params[0]? = some t)(hu:P.underlying t=some (.slice e))(hsz:size P e=some sz)(h1:1≤sz){va vo la ca gb go lb cb:Nat}(hla:la≠0)(hlb:lb≠0)(hne:va≠gb)
  {A:Array Value} {tA:TypeId} {fA:Nat × Nat} (hA:w.heap[va]? = some (.cells A tA fA)) (hv:¬(fA.1≤vo∧vo<fA.2)) (hend:¬(fA.1≤A.size∧A.size<fA.2)) {B:Array Value} {tB:TypeId} {fB:Nat × Nat} (hB:w.heap[gb]? = some (.cells B tB fB)) (hBs:B.size≠0) :
  (SlicesOverlaps.overlaps params results #[.slice (some ⟨va,vo,none⟩) la ca,.slice (some ⟨gb,go,none⟩) lb cb]).run P w = .ok (.bool false) w:=by
 have hz:sz≠0:=by omega
 have f1:w.frozen? ⟨va,vo,none⟩=false:=by
  simp only [World.frozen?,hA]
  by_cases h:fA.1≤vo
  ·have:¬vo<fA.2:=fun h'=>hv ⟨h,h'⟩
   simp [this]
  ·simp [h]
 have f2:w.frozen? ⟨va,A.size,none⟩=false:=by
  simp only [World.frozen?,hA]
  by_cases h:fA.1≤A.size
  ·have:¬A.size<fA.2:=fun h'=>hend ⟨h,h'⟩
   simp [this]
  ·simp [h]
 have s1:w.shape? va=some (tA,A.size):=by simp [World.shape?,hA]
 obtain ⟨k,hk⟩:∃ k,B.size=k+1:=⟨B.size-1,by omega⟩
 have s2:w.shape? gb=some (tB,k+1):=by simp [World.shape?,hB,hk]
 rw [ovl]
 simp [h0,run_underlying hu,run_sizeOf hsz,hla,hlb,hz,hne,f1,noView,viewAt,s1,s2,mayBeOne,stringish,f2]
end Go.Ax
namespace Go.Ax
variable [Lo]
open Go Go.Extern Go.RowKit
variable {P:Program} {base:Nat} {ρ:Ren} {s s':St} {w w':World}
def spl (A:Array Value)(o:Nat)(l:List Value):Array Value:=(A.toList.take o++l++A.toList.drop (o+l.length)).toArray
theorem qP {A:Array Value}{o:Nat}{l:List Value}(h:o+l.length≤A.size):(spl A o l).size=A.size:=by simp [spl];omega
theorem E8 {A:Array Value}{o j:Nat}{l:List Value}(h:o≤A.size)(hj:j<o):(spl A o l)[j]? = A[j]?:=by
 simp only [spl,qax]
 rw [qah,qal (by simp;omega),qaq,if_pos hj]
 simp
theorem Ht {A:Array Value}{o k:Nat}{l:List Value}(h:o+l.length≤A.size)(hk:k<l.length):(spl A o l)[o+k]? = l[k]?:=by
 simp only [spl,qax]
 rw [qah,qak (by simp;omega),qal (by simp;omega)]
 congr 1
 simp;omega
theorem QJ {A:Array Value}{o j:Nat}{l:List Value}(h:o+l.length≤A.size)(hj:o+l.length≤j):(spl A o l)[j]? = A[j]?:=by
 simp only [spl,qax]
 rw [qak (by simp;omega),qaB]
 have:o+l.length+(j-(List.take o A.toList++l).length)=j:=by simp;omega
 rw [this]
 simp
theorem Nq {A:Array Value}{off i n sz:Nat}{cs new tcl ncl:List Value}(hi:i≤n)(hcs:cs.length=n*sz)(ht:VRs ρ (cs.drop (i*sz)) tcl)(hn:VRs ρ new ncl)(hnl:new.length=sz)
  (hlow:∀ (j:Nat) (x:Value),j<i*sz→cs[j]? = some x→∃ y,A[off+j]? = some y∧VR ρ x y) (hfit:off+(n+1)*sz≤A.size) :
  ∀ (j:Nat) (x:Value),(cs.take (i*sz)++(new++cs.drop (i*sz)))[j]? = some x→∃ y,(spl (spl A (off+(i+1)*sz) tcl) (off+i*sz) ncl)[off+j]? = some y∧VR ρ x y:=by
 have him:i*sz≤n*sz:=qaf _ hi
 have e1:(i+1)*sz=i*sz+sz:=qao _ _
 have e2:(n+1)*sz=n*sz+sz:=qao _ _
 have htl:=ht.length
 have aBe:=hn.length
 simp at htl
 have hf1:off+(i+1)*sz+tcl.length≤A.size:=by omega
 have hs1:=qP hf1
 have hf2:off+i*sz+ncl.length≤(spl A (off+(i+1)*sz) tcl).size:=by omega
 intro j x hj
 by_cases h1:j<i*sz
 ·rw [qal (by simp;omega),qaq,if_pos h1] at hj
  rw [E8 (by omega) (by omega),E8 (by omega) (by omega)]
  exact hlow j x h1 hj
 ·rw [qak (by simp;omega)] at hj
  have el:(List.take (i*sz) cs).length=i*sz:=by simp;omega
  rw [el] at hj
  by_cases h2:j-i*sz<sz
  ·rw [qal (by omega)] at hj
   obtain ⟨y,hy,hv⟩:=hn.get hj
   refine ⟨y,?_,hv⟩
   have:=Ht hf2 (k:=j-i*sz) (by omega)
   rw [←hy,←this]
   congr 1
   omega
  ·rw [qak (by omega),hnl] at hj
   obtain ⟨y,hy,hv⟩:=ht.get hj
   refine ⟨y,?_,hv⟩
   rw [QJ hf2 (by omega)]
   have hlt:=(List.getElem?_eq_some_iff.1 hy).1
   have:=Ht hf1 (k:=j-i*sz-sz) (by omega)
   rw [←hy,←this]
   congr 1
   omega
theorem aro {A B:Array Value}(h:∀ j:Nat,A[j]? = B[j]?):A=B:=by
 apply Array.ext'
 apply qaU
 intro j
 simpa using h j
theorem asa {A:Array Value}{o:Nat}:spl A o []=A:=by simp [spl]
theorem anu {A:Array Value}{o1 o2:Nat}{l1 l2:List Value}(h1:o1+l1.length≤o2)(h2:o2+l2.length≤A.size):spl (spl A o1 l1) o2 l2=spl (spl A o2 l2) o1 l1:=by
 have e1:(spl A o1 l1).size=A.size:=qP (by omega)
 have e2:(spl A o2 l2).size=A.size:=qP h2
 apply aro
 intro j
 by_cases c1:j<o1
 ·rw [E8 (by omega) (by omega),E8 (by omega) c1,E8 (by omega) c1,E8 (by omega) (by omega)]
 ·by_cases c2:j<o1+l1.length
  ·rw [E8 (by omega) (by omega)]
   have a1:=Ht (A:=A) (o:=o1) (l:=l1) (k:=j-o1) (by omega) (by omega)
   have a2:=Ht (A:=spl A o2 l2) (o:=o1) (l:=l1) (k:=j-o1) (by omega) (by omega)
   have ej:o1+(j-o1)=j:=by omega
   rw [ej] at a1 a2
   rw [a1,a2]
  ·rw [QJ (A:=spl A o2 l2) (by omega) (by omega)]
   by_cases c3:j<o2
   ·rw [E8 (by omega) c3,E8 (by omega) c3,QJ (by omega) (by omega)]
   ·by_cases c4:j<o2+l2.length
    ·have a1:=Ht (A:=A) (o:=o2) (l:=l2) (k:=j-o2) h2 (by omega)
     have a2:=Ht (A:=spl A o1 l1) (o:=o2) (l:=l2) (k:=j-o2) (by omega) (by omega)
     have ej:o2+(j-o2)=j:=by omega
     rw [ej] at a1 a2
     rw [a1,a2]
    ·rw [QJ (by omega) (by omega),QJ (by omega) (by omega),QJ h2 (by omega)]
theorem N7:∀ (k:Nat) {l:List Value},rV l=true→rV (l.drop k)=true
 |0,_,h=>h
 |_+1,[],_=>rfl
 |k+1,a::l,h=>by
  change sel (aoa a) (rV l) false=true at h
  rw [aG] at h
  split at h
  ·exact N7 k h
  ·cases h
noncomputable def alx (s:St)(b:Nat)(e:TypeId)(f:Nat)(l:List Value):St:=
 { heap:=(s.heap.set b (.row [] e f)).set s.next (.row l e f),bZ:=s.bZ.set f [s.next,b],next:=qar s.next }
theorem DC (h:HR P base ρ s w){b:Nat}{cs final:List Value}{e:TypeId}{f sz k:Nat}{L:Loc}(hb:ak≤b)(hc:s.cells b=some (cs,e,f))(hf:f≠0)(hl:ρ.at b=some L)(hsz:size P e=some sz)
  {A A':Array Value} {fz:Nat × Nat} (ha:w.heap[L.blk]? = some (.cells A e fz)) (hs:A'.size=A.size) (hv:∀ (j:Nat) (x:Value),final[j]? = some x→∃ y,A'[L.off+j]? = some y∧VR ρ x y)
  (hcap:L.off+L.cap*sz≤A.size) (hlen:final.length≤L.cap*sz) :
  Goes P base ρ s w (ρ.set s.next L) (alx s b e f final) (({ w with drawn:=k }:World).setRow L.blk A'):=by
 have g0:=Goes.forget h hc hf
 have g1:=Goes.drew g0.hr k
 have hc0:St.cells { heap:=s.heap.set b (.row [] e f),bZ:=s.bZ,next:=s.next } b=some ([],e,f):=
  aO.2 ⟨Hp.get_set_same _ _ _,(aO.1 hc).2⟩
 have g2:=Goes.share (cells:=final) (ln:=L) g1.hr hb hc0 hf hl (a':=A') ha hs (fun j x hj=>by simp at hj) rfl hv (fun n hn=>by
  rw [hsz] at hn
  cases hn
  exact ⟨hcap,hlen⟩)
 exact (g0.trans g1).trans g2
theorem Gw (h:HR P base ρ s w){b:Nat}{cs final:List Value}{e:TypeId}{f sz cap k:Nat}(hc:s.cells b=some (cs,e,f))(hf:f≠0)(hsz:size P e=some sz)(h0:0<sz)
  {A:Array Value} (hv:∀ (j:Nat) (x:Value),final[j]? = some x→∃ y,A[j]? = some y∧VR ρ x y) (hs:A.size=cap*sz) (hlen:final.length≤cap*sz) :
  Goes P base ρ s w (ρ.set s.next ⟨w.heap.size,0,cap⟩) (alx s b e f final) (({ w with drawn:=k }:World).alloc (.cells A e)):=by
 have g0:=Goes.forget h hc hf
 have hc0:St.cells { heap:=s.heap.set b (.row [] e f),bZ:=s.bZ,next:=s.next } b=some ([],e,f):=
  aO.2 ⟨Hp.get_set_same _ _ _,(aO.1 hc).2⟩
 have g2:=Goes.adI (cells:=final) (k:=k) g0.hr hc0 hf hsz h0 hv hs hlen
 exact g0.trans g2
structure UE (P:Program) (F OV:FuncId) (t it:TypeId) (sz:Nat):Prop where
 place:∀ (b o n K i vb vo vc:Nat) (w w2 w3:World) (x2 x3:Value),i<n→n+1≤K→n+1≤9223372036854775807→
  qaK P (callFunc OV #[.slice (some ⟨vb,vo,none⟩) 1 vc,.slice (some ⟨b,o+(i+1)*sz,none⟩) (n-i) (K-(i+1))]) w = .ok (.value (.bool false)) w→
  Hid (qaK P (Builtin.copy_ #[t,t] it #[.slice (some ⟨b,o+(i+1)*sz,none⟩) (n-i) (K-(i+1)),.slice (some ⟨b,o+i*sz,none⟩) (n+1-i) (K-i)]) w.drew = .ok x2 w2)→
  qaK P (Builtin.copy_ #[t,t] it #[.slice (some ⟨b,o+i*sz,none⟩) (n+1-i) (K-i),.slice (some ⟨vb,vo,none⟩) 1 vc]) w2 = .ok x3 w3→
  Calls P F #[.slice (some ⟨b,o,none⟩) n K,.int .i64 i,.slice (some ⟨vb,vo,none⟩) 1 vc] w fun e w'=>e = .returned (.slice (some ⟨b,o,none⟩) (n+1) K)∧w'=w3
 fin:∀ (b o n K vb vo vc:Nat) (w w2:World) (x2:Value),
  Hid (qaK P (Builtin.append_ #[t,t] t #[.slice (some ⟨b,o,none⟩) n K,.slice (some ⟨vb,vo,none⟩) 1 vc]) w = .ok x2 w2)→
  Calls P F #[.slice (some ⟨b,o,none⟩) n K,.int .i64 n,.slice (some ⟨vb,vo,none⟩) 1 vc] w fun e w'=>e = .returned x2∧w'=w2
 grow:∀ (b o n K i vb vo vc g G:Nat) (w w2 w3 w4:World) (x3 x4:Value),i<n→n≤K→K<n+1→n+1≤9223372036854775807→n+1≤G→
  Hid (qaK P (Builtin.append_ #[t,it] t #[.slice (some ⟨b,o,none⟩) i K,.int .i64 ((n:Int)+1-i)]) w = .ok (.slice (some ⟨g,0,none⟩) (n+1) G) w2)→
  qaK P (Builtin.copy_ #[t,t] it #[.slice (some ⟨g,i*sz,none⟩) (n+1-i) (G-i),.slice (some ⟨vb,vo,none⟩) 1 vc]) w2 = .ok x3 w3→
  Hid (qaK P (Builtin.copy_ #[t,t] it #[.slice (some ⟨g,(i+1)*sz,none⟩) (n-i) (G-(i+1)),.slice (some ⟨b,o+i*sz,none⟩) (n-i) (K-i)]) w3.drew = .ok x4 w4)→
  Calls P F #[.slice (some ⟨b,o,none⟩) n K,.int .i64 i,.slice (some ⟨vb,vo,none⟩) 1 vc] w fun e w'=>e = .returned (.slice (some ⟨g,0,none⟩) (n+1) G)∧w'=w4
theorem I9 (w:World)(a a':Array Value)(e:TypeId):(w.alloc (.cells a e)).setRow w.heap.size a'=w.alloc (.cells a' e):=by
 unfold World.alloc World.setRow
 congr 1
 apply Array.ext
 ·simp
 ·intro i h1 h2
  simp only [Array.getElem_modify]
  by_cases h:w.heap.size=i
  ·subst h;simp
  ·simp only [h,if_false]
   have hlt:i<w.heap.size:=by simp at h2;omega
   rw [qaL hlt,qaL hlt]
theorem YN (w:World)(o:Obj){b j:Nat}{v:Value}(h:w.cell? ⟨b,j,none⟩=some v):(w.alloc o).cell? ⟨b,j,none⟩=some v:=by
 have hlt:b<w.heap.size:=by
  unfold World.cell? at h
  cases hb:w.heap[b]? with
  |none=>simp [hb] at h
  |some x=>exact (Array.getElem?_eq_some_iff.1 hb).1
 rw [World.cell?_alloc_lt _ _ ⟨b,j,none⟩ hlt]
 exact h
theorem J6 {C:Cfg}{F OV:FuncId}{t it e:TypeId}{sz:Nat}{ps rs:Array TypeId}(hW:UE P F OV t it sz)(hC:C.P=P)(hu:P.underlying t=some (.slice e))(hsz:size P e=some sz)(hint:P.underlying it=some (.int .i64))
  (hx:Rt P OV=true) (ho:(P.funcs[OV]?).bind Extern.find=some (SlicesOverlaps.overlaps ps rs)) (hps:ps[0]? = some t) (hni:Qn P (some t)=true)
  {args:List Value} {s s':St} {v:Value} (hv:yw C e s args=some (v,s')) {base:Nat} {ρ:Ren} {w:World} {aZ:List Value} (h:HR P base ρ s w) (ha:VRs ρ args aZ) :
  Calls P F ⟨aZ⟩ w fun x w'=>∃ c ρ',x = .returned c∧Goes P base ρ s w ρ' s' w'∧VR ρ' v c:=by
 unfold yw at hv
 split at hv
 ·rename_i a n cap iv u m uc
  obtain ⟨i,hiv,hv1⟩:=ah.1 hv
  obtain ⟨hm1,hv2⟩:=au.1 hv1
  obtain ⟨⟨cs,e',f⟩,hc,hv3⟩:=ah.1 hv2
  obtain ⟨⟨ds,ed,fd⟩,hd,hv4⟩:=ah.1 hv3
  obtain ⟨sz',hsz',hv5⟩:=ah.1 hv4
  obtain ⟨hg,hv6⟩:=au.1 hv5
  obtain ⟨new,hnew,hv7⟩:=ah.1 hv6
  obtain ⟨hone,hv8⟩:=au.1 hv7
  clear hv hv1 hv2 hv3 hv4 hv5 hv6 hv7
  rw [hC] at hsz' hg
  rw [hsz] at hsz'
  cases hsz'
  have hm1:=qaa hm1
  subst hm1
  simp only [qag,qaC] at hg hone
  obtain ⟨⟨⟨⟨⟨⟨⟨⟨⟨⟨⟨⟨g1,g2⟩,g3⟩,g4⟩,g5⟩,g6⟩,g7⟩,g8⟩,g9⟩,g10⟩,g11⟩,g12⟩,g13⟩:=hg
  have g1:e'=e:=qaa g1
  subst g1
  have g2:a.off=0:=qaa g2
  have g3:cs.length=n*sz:=by rw [aW] at g3;exact qaa g3
  have g4:i≤n:=qab g4
  have g5:f≠0:=by rintro rfl;simp at g5
  have g6:cap=aC:=qaa g6
  have g7:ak≤a.block:=qab g7
  have g8:ak≤u.block:=qab g8
  have g9:fd=0:=qaa g9
  subst g9 g6
  have g10:1≤ds.length:=by rw [aW] at g10;exact qab g10
  have g11:1≤sz:=qab g11
  have g13:n≤1099511627776:=qab g13
  rw [wG,iy] at hnew
  obtain ⟨hnl,rfl⟩:=hnew
  simp only [iG,qU,iy] at hv8
  have aBx:iv=qaZ i:=by
   cases iv with
   |ofNat k=>cases hiv;rfl
   |negSucc k=>cases hiv
  subst aBx
  cases hv8
  cases ha with
  |cons h1 ha=>cases ha with
   |cons h2 ha=>cases ha with
    |cons h3 ha=>cases ha with
     |nil=>
      cases h2
      cases h1 with
      |dead A K=>exact (h.O7 hc).elim
      |@slice b o _ _ L hL=>cases h3 with
       |@slice vb vo _ _ Lv hLv=>
        have g2:o=0:=g2
        subst g2
        have hcap:capOf L aC=L.cap:=uP L.blk L.off L.cap
        rw [hcap]
        simp only [qaz]
        obtain ⟨q,hq⟩:=h.rows b cs e' f hc
        have hql:q=L:=by have:=hq.at_;rw [hL] at this;exact (Option.some.inj this).symm
        subst hql
        have hq2:=hq
        obtain ⟨_,A,fz,⟨e9,hA,he9⟩,AV,hfz,_,h4⟩:=hq
        have he9:=(he9 (.inr g7)).symm
        subst he9
        obtain ⟨n',hn',h0,ayk,hlen⟩:=h4 g5
        rw [hsz] at hn'
        cases hn'
        obtain ⟨qv,hqv⟩:=h.rows vb ds ed 0 hd
        have aBB:qv=Lv:=by have:=hqv.at_;rw [hLv] at this;exact (Option.some.inj this).symm
        subst aBB
        have aBs:=hqv
        obtain ⟨_,Av,fzv,⟨e8,hAv,he8⟩,_,aBu,hv0,_⟩:=hqv
        have he8:=(he8 (.inl rfl)).symm
        subst he8
        obtain ⟨hvo,hvs,ayD⟩:=hv0 rfl
        have hK:n≤q.cap:=by
         have:n*sz≤q.cap*sz:=by omega
         exact Nat.le_of_mul_le_mul_right this h0
        have hne:qv.blk≠q.blk:=h.sep vb b (0,vb) (1,f) qv q (by rw [dH hd];simp) (by rw [dH hc];simp [g5]) (by simp) hLv hL (.inr (by omega))
        have aBw:vo+sz≤ds.length:=by simp at hnl;omega
        obtain ⟨ncl,nv,nl,nc⟩:=aBs.seg (o:=vo) (n:=sz) aBw
        have him:i*sz≤n*sz:=qaf _ g4
        have hsub:(n-i)*sz=n*sz-i*sz:=Nat.sub_mul _ _ _
        obtain ⟨tcl,tv,tl,tc⟩:=hq2.seg (o:=i*sz) (n:=(n-i)*sz) (by omega)
        rw [qap (by simp;omega)] at tv
        have hnone:=CW nv hone.1
        have axh:=CW tv (N7 _ hone.2)
        have aly:((ds.drop vo).take sz).length=sz:=by simp;omega
        have eS:qa4 i sz=i*sz:=rfl
        have hsn:(n+1)*sz=n*sz+sz:=qao _ _
        have hsi:(i+1)*sz=i*sz+sz:=qao _ _
        have asj:(cs.take (i*sz)++((ds.drop vo).take sz++cs.drop (i*sz))).length=(n+1)*sz:=by
         rw [qam,qam,aly]
         simp
         omega
        have aB7:q.blk<w.heap.size:=(Array.getElem?_eq_some_iff.1 hA).1
        have key:∀ (ln:Loc) (w':World),Goes P base ρ s w (ρ.set s.next ln) (alx s b e' f (cs.take (i*sz)++((ds.drop vo).take sz++cs.drop (i*sz)))) w'→
          ∃ c ρ',Ending.returned (.slice (some ⟨ln.blk,ln.off,none⟩) (n+1) ln.cap) = .returned c∧Goes P base ρ s w ρ' (alx s b e' f (cs.take (i*sz)++((ds.drop vo).take sz++cs.drop (i*sz)))) w'∧VR ρ' (.slice (some ⟨s.next,0,none⟩) (qar n) aC) c:=by
         intro ln w' hgo
         have kv:=VR.slice (ρ:=ρ.set s.next ln) (b:=s.next) (o:=0) (n:=n+1) (c:=aC) (l:=ln) (by rw [Ren.dw h.next,Ren.dQ])
         rw [show capOf ln aC=ln.cap from uP ln.blk ln.off ln.cap] at kv
         exact ⟨_,_,rfl,hgo,kv⟩
        rcases Nat.lt_or_ge i n with hin|hin
        ·by_cases hfit:n+1≤q.cap
         ·
          have hbig:q.off+(n+1)*sz≤A.size:=by
           have:(n+1)*sz≤q.cap*sz:=qaf _ hfit
           omega
          have hcp:=run_copy_cells (P:=P) (w:=w.drew) hu hsz it (g:=q.blk) (off:=q.off+(i+1)*sz) (dLen:=n-i) (dCap:=q.cap-(i+1)) (sb:=q.blk) (so:=q.off+i*sz) (sLen:=n+1-i) (sCap:=q.cap-i) (m:=n-i) (Nat.min_eq_right (by omega)) (cur:=A) hA (hfz g7) (cl:=tcl) tl (fun j v hj=>tc j v hj) (by omega) axh
          have hA2:((w.drew).setRow q.blk (spl A (q.off+(i+1)*sz) tcl)).heap[q.blk]? = some (.cells (spl A (q.off+(i+1)*sz) tcl) e' fz):=setRow_heap _ _ _ _ _ _ hA
          have hs1:(spl A (q.off+(i+1)*sz) tcl).size=A.size:=qP (by omega)
          have hcp2:=run_copy_cells (P:=P) (w:=(w.drew).setRow q.blk (spl A (q.off+(i+1)*sz) tcl)) hu hsz it (g:=q.blk) (off:=q.off+i*sz) (dLen:=n+1-i) (dCap:=q.cap-i) (sb:=qv.blk) (so:=qv.off+vo) (sLen:=1) (sCap:=capOf qv uc) (m:=1) (qaX (by omega)) hA2 (fun k hk=>hfz g7 k (by omega)) (cl:=ncl) (by omega) (fun j v hj=>by rw [cell_setRow_other _ _ _ _ (by exact hne)];exact nc j v hj) (by omega) hnone
          have hov:qaK P (callFunc OV #[.slice (some ⟨qv.blk,qv.off+vo,none⟩) 1 (capOf qv uc),.slice (some ⟨q.blk,q.off+(i+1)*sz,none⟩) (n-i) (q.cap-(i+1))]) w = .ok (.value (.bool false)) w:=by
           rw [Uc hx ho,Wv hps hu hsz g11 (by omega) (by omega) hne hAv (aBu g8 _ (by omega)) (ayD g8) hA (by omega)]
           rfl
          refine (hW.place q.blk q.off n q.cap i qv.blk (qv.off+vo) (capOf qv uc) w _ _ _ _ hin hfit (by omega) hov hcp hcp2).mono ?_
          rintro x w' ⟨rfl,rfl⟩
          refine key q _ ?_
          rw [setRow_setRow]
          exact DC (k:=w.drawn+1) h g7 hc g5 hL hsz hA (by show (spl (spl A (q.off+(i+1)*sz) tcl) (q.off+i*sz) ncl).size=_;rw [qP (by omega)];exact hs1) (Nq g4 g3 tv nv aly (fun j x _ hj=>AV j x hj) hbig) ayk (by rw [asj];exact qaf _ hfit)
         ·
          obtain ⟨ti,z,hi,hz,hzs,h1,h63,h48⟩:=OB g12
          obtain ⟨ti',hi',hs⟩:=rW hsz
          rw [hi] at hi'
          cases hi'
          subst hs
          have hem:i+(n+1-i)=n+1:=by omega
          obtain ⟨ocl,ov,ol,oc⟩:=hq2.seg (o:=0) (n:=i*ti.size) (by omega)
          simp only [qaz,qaO] at ov oc
          have hold:=run_loadCells_list (P:=P) w.drew ⟨q.blk,q.off,none⟩ ocl (fun j v hj=>by rw [add_eq];exact oc j v hj)
          rw [ol] at hold
          have hnc:=nextslicecap_le (need:=n+1) (old:=q.cap) (by omega)
          have hap:=KE (P:=P) (w:=w) hu hi hz hzs h1 hint t (b:=⟨q.blk,q.off,none⟩) (sLen:=i) (sCap:=q.cap) (m:=n+1-i) hold (by omega) (by omega) (by omega)
           (qaR (qaf _ (by omega)) h48) (qaR (qaf _ (by rw [hem];exact hnc)) h48)
          rw [hem,show ((n+1-i:Nat):Int)=(n:Int)+1-i by omega] at hap
          have hge:=grownCap_ge w (n+1) q.cap e'
          generalize hG:grownCap w (n+1) q.cap e'=G at hap hge
          generalize hA0:((⟨ocl⟩:Array Value)++Builtin.zeroCells z.cells (n+1-i)++Builtin.zeroCells z.cells (G-(n+1)))=A0 at hap
          have hzc:∀ k,(Builtin.zeroCells z.cells k).size=k*ti.size:=fun k=>by simp [Builtin.zeroCells,hzs]
          have ayt:A0.size=G*ti.size:=by
           rw [←hA0,qaG,qaG,hzc,hzc,show (⟨ocl⟩:Array Value).size=ocl.length from rfl,ol,←Nat.add_mul,←Nat.add_mul,show i+(n+1-i)+(G-(n+1))=G by omega]
          have aB2:∀ j,j<ocl.length→A0[j]? = ocl[j]?:=by
           intro j hj
           rw [←hA0,qaA (by simp [qaG];omega),qaA (by simpa using hj)]
           simp
          have hbig:(n+1)*ti.size≤A0.size:=by rw [ayt];exact qaf _ hge
          have hz0:∀ (fz:Nat × Nat),fz=(0,0)→∀ (k m:Nat),k<m→¬(fz.1≤k∧k<fz.2):=by
           rintro fz rfl k m _ ⟨_,h⟩
           exact absurd h (Nat.not_lt_zero _)
          have hgh:∀ (x:World) (B:Array Value),(x.alloc (.cells B e')).heap[x.heap.size]? = some (.cells B e' (0,0)):=fun x B=>alloc_at x _
          have hcp:=run_copy_cells (P:=P) (w:=w.drew.alloc (.cells A0 e')) hu hsz it (g:=w.heap.size) (off:=i*ti.size) (dLen:=n+1-i) (dCap:=G-i) (sb:=qv.blk) (so:=qv.off+vo) (sLen:=1) (sCap:=capOf qv uc) (m:=1) (qaX (by omega))
           (hgh w.drew A0) (fun k hk=>hz0 _ rfl k _ hk) (cl:=ncl) (by omega) (fun j v hj=>YN _ _ (nc j v hj)) (by omega) hnone
          have e1:(w.drew.alloc (.cells A0 e')).setRow w.heap.size (spl A0 (i*ti.size) ncl)=w.drew.alloc (.cells (spl A0 (i*ti.size) ncl) e'):=I9 w.drew _ _ _
          have hcp:qaK P (Builtin.copy_ #[t,t] it #[.slice (some ⟨w.heap.size,i*ti.size,none⟩) (n+1-i) (G-i),.slice (some ⟨qv.blk,qv.off+vo,none⟩) 1 (capOf qv uc)]) (w.drew.alloc (.cells A0 e')) = .ok (goInt 1) (w.drew.alloc (.cells (spl A0 (i*ti.size) ncl) e')):=by
           rw [←e1];exact hcp
          have hs1:(spl A0 (i*ti.size) ncl).size=A0.size:=qP (by omega)
          have hcp2:=run_copy_cells (P:=P) (w:=w.drew.drew.alloc (.cells (spl A0 (i*ti.size) ncl) e')) hu hsz it (g:=w.heap.size) (off:=(i+1)*ti.size) (dLen:=n-i) (dCap:=G-(i+1)) (sb:=q.blk) (so:=q.off+i*ti.size) (sLen:=n-i) (sCap:=q.cap-i) (m:=n-i) (Nat.min_self _)
           (hgh w.drew.drew _) (fun k hk=>hz0 _ rfl k _ hk) (cl:=tcl) tl (fun j v hj=>YN _ _ (tc j v hj)) (by omega) axh
          have e2:(w.drew.drew.alloc (.cells (spl A0 (i*ti.size) ncl) e')).setRow w.heap.size (spl (spl A0 (i*ti.size) ncl) ((i+1)*ti.size) tcl)=w.drew.drew.alloc (.cells (spl (spl A0 (i*ti.size) ncl) ((i+1)*ti.size) tcl) e'):=I9 w.drew.drew _ _ _
          have hcp2:qaK P (Builtin.copy_ #[t,t] it #[.slice (some ⟨w.heap.size,(i+1)*ti.size,none⟩) (n-i) (G-(i+1)),.slice (some ⟨q.blk,q.off+i*ti.size,none⟩) (n-i) (q.cap-i)]) (w.drew.alloc (.cells (spl A0 (i*ti.size) ncl) e')).drew = .ok (goInt ((n-i:Nat):Int)) (w.drew.drew.alloc (.cells (spl (spl A0 (i*ti.size) ncl) ((i+1)*ti.size) tcl) e')):=by
           rw [←e2];exact hcp2
          refine (hW.grow q.blk q.off n q.cap i qv.blk (qv.off+vo) (capOf qv uc) w.heap.size G w _ _ _ _ _ hin hK (by omega) (by omega) hge hap hcp hcp2).mono ?_
          rintro x w' ⟨rfl,rfl⟩
          refine key ⟨w.heap.size,0,G⟩ _ ?_
          have hsc:=anu (A:=A0) (o1:=i*ti.size) (o2:=(i+1)*ti.size) (l1:=ncl) (l2:=tcl) (by omega) (by omega)
          rw [hsc]
          have hcells:=Nq (A:=A0) (off:=0) g4 g3 tv nv aly (fun j x hj hx=>by
           have hx':(cs.take (i*ti.size))[j]? = some x:=by rw [qaq,if_pos hj];exact hx
           obtain ⟨y,hy,hv⟩:=ov.get hx'
           refine ⟨y,?_,hv⟩
           rw [qaI,aB2 j (by omega)]
           exact hy) (by omega)
          simp only [qaI] at hcells
          exact Gw (k:=w.drawn+1+1) h hc g5 hsz h0 hcells (by rw [qP (by rw [qP (by omega)];omega),qP (by omega)];exact ayt) (by rw [asj,←ayt];exact hbig)
        ·have hin:i=n:=by omega
         subst hin
         have hdrop:cs.drop (i*sz)=[]:=List.drop_of_length_le (by omega)
         have htake:cs.take (i*sz)=cs:=qap (by omega)
         have aw2:∀ w:World,(Builtin.lenOf (.slice (some ⟨qv.blk,qv.off+vo,none⟩) 1 (capOf qv uc))).run P w = .ok 1 w:=fun w=>rfl
         have auK:∀ w':World,(∀ (j:Nat) (v:Value),ncl[j]? = some v→w'.cell? ⟨qv.blk,qv.off+vo+j,none⟩=some v)→(Builtin.firstCells sz 1 (.slice (some ⟨qv.blk,qv.off+vo,none⟩) 1 (capOf qv uc))).run P w' = .ok ⟨ncl⟩ w':=by
          intro w' hcl
          have:=run_loadCells_list (P:=P) w' ⟨qv.blk,qv.off+vo,none⟩ ncl (fun j v hj=>by rw [add_eq];exact hcl j v hj)
          rw [nl] at this
          simp only [Builtin.firstCells,Nat.one_mul]
          exact this
         by_cases hfit:i+1≤q.cap
         ·obtain ⟨ti,hi,hs⟩:=rW hsz
          have hbig:q.off+(i+1)*sz≤A.size:=by
           have:(i+1)*sz≤q.cap*sz:=qaf _ hfit
           omega
          have hst:=jC P q.blk (q.off+i*sz) e' fz ncl 0 A w hA (by omega) (hfz g7) hnone
          simp only [qaz] at hst
          have hap:=ji (P:=P) (w:=w) (w':=w.setRow q.blk (spl A (q.off+i*sz) ncl)) (ts:=#[t,t]) (ty:=t) rfl hu hi hni (b:=some ⟨q.blk,q.off,none⟩) (sLen:=i) (sCap:=q.cap) (aw2 w) (by rw [hs];exact auK w nc) hfit
           (fun a ha=>by cases ha;rw [add_eq,hs];exact hst) (fun e=>by cases e)
          refine (hW.fin q.blk q.off i q.cap qv.blk (qv.off+vo) (capOf qv uc) w _ _ hap).mono ?_
          rintro x w' ⟨rfl,rfl⟩
          refine key q _ ?_
          have hcells:=Nq (A:=A) (off:=q.off) (tcl:=[]) g4 g3 (by rw [hdrop];exact .nil) nv aly (fun j x _ hj=>AV j x hj) hbig
          rw [asa] at hcells
          exact DC (k:=w.drawn) h g7 hc g5 hL hsz hA (qP (by omega)) hcells ayk (by rw [asj];exact qaf _ hfit)
         ·obtain ⟨ocl,ov,ol,oc⟩:=hq2.seg (o:=0) (n:=i*sz) (by omega)
          simp only [qaz,qaO,htake] at ov oc
          have hold:=run_loadCells_list (P:=P) w.drew ⟨q.blk,q.off,none⟩ ocl (fun j v hj=>by rw [add_eq];exact oc j v hj)
          rw [ol] at hold
          obtain ⟨arr,cp,hap,_,hsz2,hle2,hcells⟩:=DV (P:=P) (w:=w) (ts:=#[t,t]) (ty:=t) rfl hu hsz hni (b:=some ⟨q.blk,q.off,none⟩) (sLen:=i) (sCap:=q.cap) (n:=1) g12 (aw2 w) (old:=cs) (by simp only [Builtin.firstCells];exact hold) ov g3 (auK w.drew (fun j v hj=>nc j v hj)) nv (by omega) (by omega)
          refine (hW.fin q.blk q.off i q.cap qv.blk (qv.off+vo) (capOf qv uc) w _ _ hap).mono ?_
          rintro x w' ⟨rfl,rfl⟩
          refine key ⟨w.heap.size,0,cp⟩ _ ?_
          rw [hdrop,htake,qa1]
          exact Gw (k:=w.drawn+1) h hc g5 hsz h0 hcells hsz2 hle2
 ·cases hv
end Go.Ax
namespace Go.Ax
variable [Lo]
open Go Go.Extern
variable {P:Program} {base:Nat} {ρ:Ren} {s:St} {w:World}
theorem GX (l:List UInt8)(i:Nat)(h:i<l.length):(⟨⟨l⟩⟩:ByteArray)[i]! = l[i]:=by
 have hb:i<(⟨⟨l⟩⟩:ByteArray).size:=h
 rw [getElem!_pos (⟨⟨l⟩⟩:ByteArray) i hb]
 rfl
theorem find_range (f:Nat→Bool):∀ n,(qaQ (n+1)).find? f=if f 0=true then some 0 else ((qaQ n).find? fun i=>f (i+1)).map (·+1):=by
 intro n
 rw [List.range_succ_eq_map,qaM]
 cases h:f 0 with
 |true=>simp
 |false=>
  simp only [qaP,if_false,List.find?_map]
  rfl
theorem find_congr {α:Type}{p q:α→Bool}:∀ {l:List α},(∀ a∈l,p a=q a)→l.find? p=l.find? q
 |[],_=>rfl
 |a::l,h=>by
  rw [qaM,qaM,h a qai,find_congr (l:=l) fun b hb=>h b (qae _ hb)]
theorem Xi:∀ (x y:List UInt8),BytealgCompare.cmp ⟨⟨x⟩⟩ ⟨⟨y⟩⟩=sel (zK x y) (-1) (sel (zK y x) 1 0)
 |[],[]=>rfl
 |[],b::t=>rfl
 |a::s,[]=>rfl
 |a::s,b::t=>by
  have ih:=Xi s t
  have e1:zK (a::s) (b::t)=sel (qaw (qar a.toNat) b.toNat) true (sel (qac a.toNat b.toNat) (zK s t) false):=rfl
  have e2:zK (b::t) (a::s)=sel (qaw (qar b.toNat) a.toNat) true (sel (qac b.toNat a.toNat) (zK t s) false):=rfl
  have hsz:min (⟨⟨a::s⟩⟩:ByteArray).size (⟨⟨b::t⟩⟩:ByteArray).size=min s.length t.length+1:=by
   show min (s.length+1) (t.length+1)=_
   omega
  have h0a:(⟨⟨a::s⟩⟩:ByteArray)[0]! = a:=GX (a::s) 0 (by simp)
  have h0b:(⟨⟨b::t⟩⟩:ByteArray)[0]! = b:=GX (b::t) 0 (by simp)
  unfold BytealgCompare.cmp
  rw [hsz,find_range]
  simp only [h0a,h0b]
  by_cases hab:a=b
  ·subst hab
   simp only [bne_self_eq_false,qaP,if_false]
   have hs:∀ i,i<min s.length t.length→((⟨⟨a::s⟩⟩:ByteArray)[i+1]! = (⟨⟨s⟩⟩:ByteArray)[i]!∧(⟨⟨a::t⟩⟩:ByteArray)[i+1]! = (⟨⟨t⟩⟩:ByteArray)[i]!):=by
    intro i hi
    rw [GX (a::s) (i+1) (by simp;omega),GX s i (by omega),GX (a::t) (i+1) (by simp;omega),GX t i (by omega)]
    exact ⟨rfl,rfl⟩
   have hf:((qaQ (min s.length t.length)).find? fun i=>(⟨⟨a::s⟩⟩:ByteArray)[i+1]! != (⟨⟨a::t⟩⟩:ByteArray)[i+1]!)=(qaQ (min s.length t.length)).find? fun i=>(⟨⟨s⟩⟩:ByteArray)[i]! != (⟨⟨t⟩⟩:ByteArray)[i]!:=by
    apply find_congr
    intro i hi
    obtain ⟨h1,h2⟩:=hs i (List.mem_range.1 hi)
    rw [h1,h2]
   rw [hf]
   have hr:sel (zK (a::s) (a::t)) (-1:Int) (sel (zK (a::t) (a::s)) 1 0)=sel (zK s t) (-1) (sel (zK t s) 1 0):=by
    rw [e1,e2]
    have:qaw (qar a.toNat) a.toNat=false:=by
     cases h:qaw (qar a.toNat) a.toNat with
     |false=>rfl
     |true=>have:=qab h;omega
    rw [this,Nat.beq_refl]
    rfl
   rw [hr,←ih]
   unfold BytealgCompare.cmp
   have hsz2:min (⟨⟨s⟩⟩:ByteArray).size (⟨⟨t⟩⟩:ByteArray).size=min s.length t.length:=rfl
   rw [hsz2]
   cases hq:(qaQ (min s.length t.length)).find? fun i=>(⟨⟨s⟩⟩:ByteArray)[i]! != (⟨⟨t⟩⟩:ByteArray)[i]! with
   |none=>
    show (if (s.length+1)<(t.length+1) then (-1:Int) else if (s.length+1)>(t.length+1) then 1 else 0)=if s.length<t.length then -1 else if s.length>t.length then 1 else 0
    simp
   |some i=>
    have hi:=List.mem_range.1 (List.mem_of_find?_eq_some hq)
    obtain ⟨h1,h2⟩:=hs i hi
    show (if (⟨⟨a::s⟩⟩:ByteArray)[i+1]! < (⟨⟨a::t⟩⟩:ByteArray)[i+1]! then (-1:Int) else 1)=if (⟨⟨s⟩⟩:ByteArray)[i]! < (⟨⟨t⟩⟩:ByteArray)[i]! then -1 else 1
    rw [h1,h2]
  ·have hne:(a != b)=true:=by simpa using hab
   rw [if_pos hne]
   simp only [h0a,h0b]
   have hn:a.toNat≠b.toNat:=fun h=>hab (UInt8.toNat_inj.1 h)
   have hbf:qac a.toNat b.toNat=false:=by rw [←qaF,Nat.beq_eq];exact hn
   have aBn:qac b.toNat a.toNat=false:=by rw [←qaF,Nat.beq_eq];exact fun h=>hn h.symm
   rw [e1,e2,hbf,aBn]
   by_cases hlt:a<b
   ·have:qaw (qar a.toNat) b.toNat=true:=qav (UInt8.lt_iff_toNat_lt.1 hlt)
    rw [if_pos hlt,this];rfl
   ·have h1:qaw (qar a.toNat) b.toNat=false:=by
     cases h:qaw (qar a.toNat) b.toNat with
     |false=>rfl
     |true=>exact absurd (UInt8.lt_iff_toNat_lt.2 (qab h)) hlt
    have h2:qaw (qar b.toNat) a.toNat=true:=qav (by
     have h3:¬a.toNat<b.toNat:=fun h=>hlt (UInt8.lt_iff_toNat_lt.2 h)
     show b.toNat+1≤a.toNat
     omega)
    rw [if_neg hlt,h1,h2];rfl
theorem Ap (w:World)(b:Nat):∀ (ns:List Int) (o:Nat) (acc:ByteArray),(∀ (j:Nat) (v:Value),(ns.map (Value.int .u8))[j]? = some v→w.cell? ⟨b,o+j,none⟩=some v)→
  (Bytes.loadBytes ⟨b,o,none⟩ ns.length acc).run P w = .ok ⟨⟨acc.data.toList++ns.map fun n=>UInt8.ofNat n.toNat⟩⟩ w
 |[],o,acc,_=>by simp [Bytes.loadBytes]
 |n::ns,o,acc,h=>by
  have h0:w.cell? ⟨b,o,none⟩=some (.int .u8 n):=by
   have:=h 0 (.int .u8 n) rfl
   simpa using this
  have ih:=Ap w b ns (o+1) (acc.push n.toNat.toUInt8) fun j v hj=>by
   have:=h (j+1) v (by simpa using hj)
   rw [show o+1+j=o+(j+1) by omega]
   exact this
  have e:(⟨b,o,none⟩:Addr).add 1=⟨b,o+1,none⟩:=add_eq ..
  show (Bytes.loadBytes ⟨b,o,none⟩ (ns.length+1) acc).run P w=_
  simp only [Bytes.loadBytes,qaH,run_load,h0,qay,e]
  rw [ih]
  simp [ByteArray.push]
theorem OL (h:HR P base ρ s w){a:Option Addr}{n k:Nat}{c:Value}{l:List Value}{bs:List UInt8}(hv:VR ρ (.slice a n k) c)(hl:firstCells s 1 n (.slice a n k)=some l)(hb:bytesOf l=some bs) :
  (Bytes.bytesOf c).run P w = .ok ⟨⟨bs⟩⟩ w:=by
 cases hv with
 |dW n c=>
  obtain ⟨_,hl⟩:=au.1 (show guard (qac n 0) (some [])=some l from hl)
  cases hl
  cases hb
  rfl
 |dead A K=>
  have hl:sel (qac fP fP) (guard (qac 0 0) (some [])) (aj (s.cells fP) fun c=>takeN (qa4 0 1) (eH 0 c.1))=some l:=hl
  cases hl
  cases hb
  rfl
 |@slice b o _ _ L hL=>
  have hl:sel (qac b fP) (guard (qac n 0) (some [])) (aj (s.cells b) fun c=>takeN (qa4 n 1) (eH o c.1))=some l:=hl
  rw [aG] at hl
  split at hl
  ·obtain ⟨hg,hl⟩:=au.1 hl
   have hg:=qaa hg
   subst hg
   cases hl
   cases hb
   rfl
  ·obtain ⟨⟨cs,e,f⟩,hc,hl2⟩:=ah.1 hl
   rw [wG,iy] at hl2
   obtain ⟨h1,rfl⟩:=hl2
   obtain ⟨q,hq⟩:=h.rows b cs e f hc
   have hql:q=L:=by have:=hq.at_;rw [hL] at this;exact (Option.some.inj this).symm
   subst hql
   have h1':n≤cs.length-o:=by simpa using h1
   have hm:qa4 n 1=n:=Nat.mul_one n
   rw [hm] at hb
   by_cases ho:o≤cs.length
   ·obtain ⟨cl,h2,h3,h4⟩:=hq.seg (o:=o) (n:=n) (by omega)
    obtain ⟨ns,rfl,hns⟩:=yK h2 hb
    have h3:ns.length=n:=by simpa using h3
    have:=Ap (P:=P) w q.blk ns (q.off+o) .empty h4
    rw [h3,hns] at this
    exact this
   ·have h0:n=0:=by omega
    subst h0
    cases hb
    rfl
theorem aj7 {C:Cfg}{f:FuncId}(h:Rt P f=true)(he:(P.funcs[f]?).bind Extern.find=some BytealgCompare.compare):wH C P f .cmp:=by
 intro base ρ s s' w args aZ v hr ha hv
 have hv:agZ s args=some (v,s'):=hv
 unfold agZ at hv
 split at hv
 ·rename_i a la ca b lb cb
  obtain ⟨x,hx,hv⟩:=ah.1 hv
  obtain ⟨x',hx',hv⟩:=ah.1 hv
  obtain ⟨y,hy,hv⟩:=ah.1 hv
  obtain ⟨y',hy',hv⟩:=ah.1 hv
  cases hv
  cases ha with
  |cons h1 h2=>cases h2 with
   |cons h2 h3=>cases h3 with
    |nil=>
     refine ⟨_,ρ,w,?_,Goes.refl hr,.int _ _⟩
     rw [Uc h he]
     rename_i c1 c2
     show Result.andThen ((do pure (goInt (BytealgCompare.cmp (←Bytes.bytesOf c1) (←Bytes.bytesOf c2))):Sem Value).run P w) _=_
     simp only [qaH,OL hr h1 hx hx',OL hr h2 hy hy',qay,qaT,Xi]
     rfl
 ·cases hv
end Go.Ax
namespace Go.Ax
open Go Go.Extern
variable {P:Program} {base:Nat} {ρ:Ren} {s:St} {w:World}
end Go.Ax
namespace Go.Ax
variable [Lo]
open Go
section
variable {P:Program} {W:World}
end
end Go.Ax
namespace Go.Ax
open Go
noncomputable def repeatL' {α:Type}:Nat→List α→List α
 |0,_=>[]
 |n+1,l=>l++repeatL' n l
variable {H:Type} {enc:TypeId × Value→H} {P:Program}
end Go.Ax
namespace Go.Ax
open Go
inductive LK where
 |int (k:IntKind)
 |bool
 |slice
noncomputable def Ej (P:Program)(g:TypeId→Option (List LK)):List Field→Nat→Option (List LK)
 |[],_=>some []
 |f::fs,o=>if f.offset=o then (g f.type).bind fun ks=>if ks.length=P.cellsOf f.type then (Ej P g fs (o+ks.length)).map (ks++·) else none else none
noncomputable def Dt (P:Program):Nat→TypeId→Option (List LK)
 |0,_=>none
 |n+1,t=>match P.underlying t with
  |some (.int k)=>some [.int k]
  |some .bool=>some [.bool]
  |some (.slice _)=>some [.slice]
  |some (.struct fs)=>(Ej P (Dt P n) fs.toList 0).bind fun r=>if r.length=P.cellsOf t then some r else none
  |some (.array m e)=>(Dt P n e).bind fun ks=>if ks.length=P.cellsOf e∧m*ks.length=P.cellsOf t then some (repeatL' m ks) else none
  |_=>none
inductive Gn:LK→Value→Prop
 |int (k:IntKind) (n:Int) (h:(Lit.int k n).wf=true):Gn (.int k) (.int k n)
 |bool (b:Bool):Gn .bool (.bool b)
 |nil:Gn .slice (.slice none 0 0)
 |slice (a:Addr) (n c:Nat):Gn .slice (.slice (some a) n c)
inductive jy:List LK→List Value→Prop
 |nil:jy [] []
 |cons {k:LK} {v:Value} {ks:List LK} {vs:List Value} (h:Gn k v) (hs:jy ks vs):jy (k::ks) (v::vs)
theorem jy.append:∀ {a b:List LK} {x y:List Value},jy a x→jy b y→jy (a++b) (x++y)
 |_,_,_,_,.nil,hb=>hb
 |_,_,_,_,.cons h hs,hb=>.cons h (hs.append hb)
theorem X9 {P:Program}{g:TypeId→Option (List LK)}{f:Field}{fs:List Field}{o:Nat}{r:List LK}(h:Ej P g (f::fs) o=some r) :
  ∃ ks r',f.offset=o∧g f.type=some ks∧ks.length=P.cellsOf f.type∧Ej P g fs (o+ks.length)=some r'∧r=ks++r':=by
 unfold Ej at h
 split at h
 ·next ho=>
  obtain ⟨ks,hk,h⟩:=Option.bind_eq_some_iff.1 h
  split at h
  ·next hl=>
   obtain ⟨r',hr,rfl⟩:=Option.map_eq_some_iff.1 h
   exact ⟨ks,r',ho,hk,hl,hr,rfl⟩
  ·cases h
 ·cases h
theorem WG {P:Program}{n:Nat}{t:TypeId}{r:List LK}(h:Dt P (n+1) t=some r) :
  (∃ k,P.underlying t=some (.int k)∧r=[.int k])∨(P.underlying t=some .bool∧r=[.bool])∨(∃ e,P.underlying t=some (.slice e)∧r=[.slice])∨
   (∃ fs,P.underlying t=some (.struct fs)∧Ej P (Dt P n) fs.toList 0=some r∧r.length=P.cellsOf t)∨
   (∃ m e ks,P.underlying t=some (.array m e)∧Dt P n e=some ks∧ks.length=P.cellsOf e∧m*ks.length=P.cellsOf t∧r=repeatL' m ks):=by
 unfold Dt at h
 split at h
 ·next k hk=>cases h;exact .inl ⟨k,hk,rfl⟩
 ·next hk=>cases h;exact .inr (.inl ⟨hk,rfl⟩)
 ·next e hk=>cases h;exact .inr (.inr (.inl ⟨e,hk,rfl⟩))
 ·next fs hf=>
  obtain ⟨r',hr,h⟩:=Option.bind_eq_some_iff.1 h
  split at h
  ·next hl=>cases h;exact .inr (.inr (.inr (.inl ⟨fs,hf,hr,hl⟩)))
  ·cases h
 ·next m e hf=>
  obtain ⟨ks,hr,h⟩:=Option.bind_eq_some_iff.1 h
  split at h
  ·next hl=>cases h;exact .inr (.inr (.inr (.inr ⟨m,e,ks,hf,hr,hl.1,hl.2,rfl⟩)))
  ·cases h
 ·cases h
variable {H:Type} {enc:TypeId × Value→H} {P:Program}
theorem Je {g:TypeId→Option (List LK)}{cs:List Value}:∀ {fs:List Field} {o:Nat} {r:List LK},Ej P g fs o=some r→
  (∀ f∈fs,∀ ks,g f.type=some ks→jy ks ((cs.drop f.offset).take (P.cellsOf f.type)))→jy r ((cs.drop o).take r.length)
 |[],o,r,h,_=>by
  cases h
  simpa using jy.nil
 |f::fs,o,r,h,hall=>by
  obtain ⟨ks,r',ho,hk,hl,hr,rfl⟩:=X9 h
  have h1:=hall f qai ks hk
  have h2:=Je hr fun f' hf=>hall f' (qae _ hf)
  rw [qam,qaJ,qaD]
  rw [ho,←hl] at h1
  exact h1.append h2
theorem Et {cs:List Value}{ks:List LK}:∀ (m o:Nat),(∀ i,i<m→jy ks ((cs.drop (o+i*ks.length)).take ks.length))→jy (repeatL' m ks) ((cs.drop o).take (m*ks.length))
 |0,o,_=>by simpa [repeatL'] using jy.nil
 |m+1,o,h=>by
  have h1:=h 0 (Nat.succ_pos _)
  have h2:=Et m (o+ks.length) fun i hi=>by
   have:=h (i+1) (qaV hi)
   rw [qao] at this
   rw [show o+ks.length+i*ks.length=o+(i*ks.length+ks.length) by omega]
   exact this
  rw [show (m+1)*ks.length=ks.length+m*ks.length by rw [qao,Nat.add_comm],qaJ,qaD]
  show jy (ks++repeatL' m ks) _
  refine jy.append ?_ h2
  simpa using h1
theorem N8:∀ {n:Nat} {t:TypeId} {ks:List LK},Dt P n t=some ks→∀ {w:World} {b:Nat} {s:Nat→Bool} {h:Bool} {fuel:Nat} {cs:List Value} {x:DataW H × List MemPlace},
  DataW.trod enc P w b s h fuel t cs=some x→jy ks cs
 |0,_,_,hk,_,_,_,_,_,_,_,_=>by cases hk
 |n+1,t,ks,hk,w,b,s,h,fuel,cs,x,hx=>by
  rcases WG hk with ⟨k,ht,rfl⟩|⟨ht,rfl⟩|⟨e,ht,rfl⟩|⟨fs,ht,hf,hl⟩|⟨q,e,ks',ht,hke,hle,hlt,rfl⟩
  ·obtain ⟨m,rfl,_,hw⟩:=DataW.trod_int ht hx
   exact .cons (.int k m hw) .nil
  ·cases fuel with
   |zero=>cases hx
   |succ m=>
    unfold DataW.trod at hx
    rw [ht] at hx
    split at hx <;> simp_all
    exact .cons (.bool _) .nil
  ·rcases DataW.trod_slice ht hx with ⟨hcs,_⟩|⟨a,len,cap,elems,rest,m,_,hcs,_⟩
   ·rw [hcs];exact .cons .nil .nil
   ·rw [hcs];exact .cons (.slice _ _ _) .nil
  ·obtain ⟨xs,m,_,_,hcl,hxl,hall⟩:=DataW.trod_struct ht hx
   have h1:=Je (cs:=cs) hf fun f hm ks' hk'=>by
    obtain ⟨i,hi,hif⟩:=List.mem_iff_getElem.1 hm
    have hi':i<xs.length:=by rw [hxl];simpa using hi
    have:=hall i f (by rw [←hif];simp)
    rw [qaj hi'] at this
    exact N8 hk' this
   rw [hl,←hcl] at h1
   simpa using h1
  ·obtain ⟨xs,m,_,_,hcl,hxl,hall⟩:=DataW.trod_array ht hx
   have h1:=Et (cs:=cs) (ks:=ks') q 0 fun i hi=>by
    have:=hall i hi
    have hi':i<xs.length:=by rw [hxl];exact hi
    rw [qaj hi'] at this
    rw [hle,qaI]
    exact N8 hke this
   rw [hlt,←hcl] at h1
   simpa using h1
theorem Gn.yO {k:IntKind}{v:Value}(h:Gn (.int k) v):∃ n,v = .int k n∧(Lit.int k n).wf=true:=by
 cases h with
 |int _ n h=>exact ⟨n,rfl,h⟩
theorem Gn.xw {v:Value}(h:Gn .slice v):v = .slice none 0 0∨∃ a n c,v = .slice (some a) n c:=by
 cases h with
 |nil=>exact .inl rfl
 |slice a n c=>exact .inr ⟨a,n,c,rfl⟩
end Go.Ax
namespace Go.Ax
open Go
inductive eG (P:Program) (w:World):List jw→List Value→List Loc→Prop
 |nil:eG P w [] [] []
 |cons {c:jw} {cs:List jw} {v:Value} {vs:List Value} {l ls:List Loc} (hf:c.fine P) (hr:kY P w c.rows l)
   (hv:∀ (pre post:List Loc) (k:Nat),pre.length=k→k+l.length≤31→∀ ρ',@VR (qO (pre++(l++post))) ρ' (c.val k) v) (h:eG P w cs vs ls):eG P w (c::cs) (v::vs) (l++ls)
theorem eG.append {P:Program}{w:World}:∀ {a b:List jw} {x y:List Value} {l m:List Loc},eG P w a x l→eG P w b y m→eG P w (a++b) (x++y) (l++m)
 |_,_,_,_,_,_,.nil,hb=>hb
 |_,_,_,_,_,_,.cons hf hr hv h,hb=>by
  have:=eG.cons hf hr hv (h.append hb)
  rw [←qah] at this
  exact this
theorem eG.rows {P:Program}{w:World}:∀ {a:List jw} {x:List Value} {l:List Loc},eG P w a x l→kY P w (uM a) l
 |_,_,_,.nil=>.nil
 |_,_,_,.cons _ hr _ h=>by rw [DF];exact hr.append h.rows
theorem eG.vrs {P:Program}{w:World}:∀ {a:List jw} {x:List Value} {l:List Loc},eG P w a x l→∀ (pre post:List Loc) (k:Nat),pre.length=k→k+l.length≤31→∀ ρ',@VRs (qO (pre++(l++post))) ρ' (xM a k) x
 |_,_,_,.nil,pre,post,k,_,_,ρ'=>@VRs.nil (qO (pre++([]++post))) ρ'
 |_,_,_,@eG.cons _ _ c cs v vs l ls hf hr hv h,pre,post,k,hk,hlen,ρ'=>by
  rw [DI]
  have e1:=hr.length
  simp only [qam] at hlen
  refine @VRs.cons (qO (pre++(l++ls++post))) ρ' _ _ _ _ ?_ ?_
  ·have:=hv pre (ls++post) k hk (by omega) ρ'
   rw [qah l ls post]
   exact this
  ·have:=h.vrs (pre++l) post (k+c.rows.length) (by simp;omega) (by omega) ρ'
   rw [qah pre l (ls++post)] at this
   rw [qah l ls post]
   exact this
inductive oV (P:Program) (w:World):List fK→List Value→List Loc→Prop
 |nil:oV P w [] [] []
 |one {c:jw} {cs:List fK} {v:Value} {vs:List Value} {l ls:List Loc} (h1:eG P w [c] [v] l) (h:oV P w cs vs ls):oV P w (.one c::cs) (v::vs) (l++ls)
 |agg {a:List jw} {cs:List fK} {x vs:List Value} {l ls:List Loc} (h1:eG P w a x l) (h:oV P w cs vs ls):oV P w (.agg a::cs) (.agg ⟨x⟩::vs) (l++ls)
theorem eG.aiS {P:Program}{w:World}{c:jw}{v:Value}{l:List Loc}(h:eG P w [c] [v] l):kY P w c.rows l∧∀ (pre post:List Loc) (k:Nat),pre.length=k→k+l.length≤31→∀ ρ',@VR (qO (pre++(l++post))) ρ' (c.val k) v:=by
 cases h with
 |cons hf hr hv h=>
  cases h
  rw [qa1]
  exact ⟨hr,hv⟩
theorem oV.rows {P:Program}{w:World}:∀ {a:List fK} {x:List Value} {l:List Loc},oV P w a x l→kY P w (mW a) l
 |_,_,_,.nil=>.nil
 |_,_,_,.one h1 h=>by rw [wU];exact h1.aiS.1.append h.rows
 |_,_,_,.agg h1 h=>by rw [wU];exact h1.rows.append h.rows
theorem oV.vrs {P:Program}{w:World}:∀ {a:List fK} {x:List Value} {l:List Loc},oV P w a x l→∀ (pre post:List Loc) (k:Nat),pre.length=k→k+l.length≤31→∀ ρ',@VRs (qO (pre++(l++post))) ρ' (xB a k) x
 |_,_,_,.nil,pre,post,k,_,_,ρ'=>@VRs.nil (qO (pre++([]++post))) ρ'
 |_,_,_,@oV.one _ _ c cs v vs l ls h1 h,pre,post,k,hk,hlen,ρ'=>by
  rw [wJ]
  obtain ⟨hr,hv⟩:=h1.aiS
  have e1:=hr.length
  simp only [qam] at hlen
  refine @VRs.cons (qO (pre++(l++ls++post))) ρ' _ _ _ _ ?_ ?_
  ·have:=hv pre (ls++post) k hk (by omega) ρ'
   rw [qah l ls post]
   exact this
  ·have:=h.vrs (pre++l) post (k+c.rows.length) (by simp;omega) (by omega) ρ'
   rw [qah pre l (ls++post)] at this
   rw [qah l ls post]
   exact this
 |_,_,_,@oV.agg _ _ a cs x vs l ls h1 h,pre,post,k,hk,hlen,ρ'=>by
  rw [wJ]
  have hr:=h1.rows
  have e1:=hr.length
  simp only [qam] at hlen
  refine @VRs.cons (qO (pre++(l++ls++post))) ρ' _ _ _ _ ?_ ?_
  ·have:=h1.vrs pre (ls++post) k hk (by omega) ρ'
   rw [qah l ls post]
   exact @VR.agg (qO (pre++(l++(ls++post)))) ρ' _ _ this
  ·have:=h.vrs (pre++l) post (k+(fK.agg a).rows.length) (by show (pre++l).length=k+(uM a).length;simp;omega) (by show k+(uM a).length+ls.length≤31;omega) ρ'
   rw [qah pre l (ls++post)] at this
   rw [qah l ls post]
   exact this
inductive AK where
 |int (k:IntKind)
 |bool
 |sl (e:TypeId) (ks:List LK)
noncomputable def DR:List LK→Bool
 |[]=>true
 |.slice::_=>false
 |_::l=>DR l
noncomputable def Ez (P:Program)(g:TypeId→Option (List AK)):List Field→Nat→Option (List AK)
 |[],_=>some []
 |f::fs,o=>if f.offset=o then (g f.type).bind fun ks=>if ks.length=P.cellsOf f.type then (Ez P g fs (o+ks.length)).map (ks++·) else none else none
noncomputable def Ql (P:Program):Nat→TypeId→Option (List AK)
 |0,_=>none
 |n+1,t=>match P.underlying t with
  |some (.int k)=>some [.int k]
  |some .bool=>some [.bool]
  |some (.slice e)=>(Dt P n e).bind fun ks=>if ks.length=P.cellsOf e∧0<ks.length∧DR ks=true∧size P e=some ks.length∧ao5 P e=false then some [.sl e ks] else none
  |some (.struct fs)=>(Ez P (Ql P n) fs.toList 0).bind fun r=>if r.length=P.cellsOf t then some r else none
  |some (.array m e)=>(Ql P n e).bind fun ks=>if ks.length=P.cellsOf e∧m*ks.length=P.cellsOf t then some (repeatL' m ks) else none
  |_=>none
inductive aii:AK→jw→Prop
 |int (k:IntKind) (n:Int) (h:(Lit.int k n).wf=true):aii (.int k) (.raw (.int k n))
 |bool (b:Bool):aii .bool (.raw (.bool b))
 |nil (e:TypeId) (ks:List LK):aii (.sl e ks) (.raw (.slice none 0 0))
 |dead (e:TypeId) (ks:List LK):aii (.sl e ks) (.raw bY)
 |row (e:TypeId) (ks:List LK) (cs:List Value) (n:Nat) (h0:0<n) (hl:n*ks.length=cs.length) (h:jy (repeatL' n ks) cs):aii (.sl e ks) (.sl cs e n)
inductive kV:List AK→List jw→Prop
 |nil:kV [] []
 |cons {k:AK} {c:jw} {ks:List AK} {cs:List jw} (h:aii k c) (hs:kV ks cs):kV (k::ks) (c::cs)
theorem kV.append:∀ {a b:List AK} {x y:List jw},kV a x→kV b y→kV (a++b) (x++y)
 |_,_,_,_,.nil,hb=>hb
 |_,_,_,_,.cons h hs,hb=>.cons h (hs.append hb)
theorem ahm {ks:List LK}{cs:List Value}(hk:DR ks=true)(h:jy ks cs):flatAll cs=true:=by
 induction h with
 |nil=>rfl
 |@cons k v ks vs h hs ih=>
  show sel (lZ v) (flatAll vs) false=true
  cases h with
  |int k n hw=>
   show sel true (flatAll vs) false=true
   rw [aN]
   exact ih hk
  |bool b=>
   show sel true (flatAll vs) false=true
   rw [aN]
   exact ih hk
  |nil=>exact Bool.noConfusion (show false=true from hk)
  |slice a n c=>exact Bool.noConfusion (show false=true from hk)
theorem Ij:∀ {a b:List LK},DR a=true→DR b=true→DR (a++b)=true
 |[],_,_,hb=>hb
 |.int k::a,b,h,hb=>Ij (a:=a) h hb
 |.bool::a,b,h,hb=>Ij (a:=a) h hb
 |.slice::_,_,h,_=>by cases h
theorem QZ {ks:List LK}(h:DR ks=true):∀ n,DR (repeatL' n ks)=true
 |0=>rfl
 |n+1=>Ij h (QZ h n)
section
variable {H:Type} {enc:TypeId × Value→H} {P:Program}
theorem acI {w:World}{v:Value}(h1:o7 v=true){x:Value}(h2:∀ (lo:Lo) (ρ:Ren),@VR lo ρ v x):eG P w [.raw v] [x] []:=
 .cons (l:=[]) (ls:=[]) h1 .nil (fun pre post k _ _ ρ'=>h2 _ ρ') .nil
theorem akl {w:World}{b:Nat}{a:Addr}{n:Nat}{cs:List Value}(h:w.cells? b a n=some cs)(hn:0<n) :
  ∃ (arr:Array Value) (t:TypeId) (fz:Nat × Nat),a.spot=none∧w.heap[a.block]? = some (.cells arr t fz)∧cs=(arr.toList.drop a.off).take n∧a.off+n≤arr.size:=by
 obtain ⟨hb,hl,hall⟩:=World.cells?_some h
 have hcell:∀ i,i<n→∃ v,w.cell? (a.add i)=some v∧cs[i]? = some v:=fun i hi=>by
  have hi':i<cs.length:=by omega
  exact ⟨cs[i],by rw [hall i hi,qaj hi'],qaj hi'⟩
 obtain ⟨blk,off,sp⟩:=a
 have hadd:∀ i,sp=none→(⟨blk,off,sp⟩:Addr).add i=⟨blk,off+i,none⟩:=fun i hs=>by subst hs;exact add_eq _ _ _
 obtain ⟨v0,h0,_⟩:=hcell 0 hn
 have hsp:sp=none:=by
  cases sp with
  |none=>rfl
  |some q=>
   unfold World.cell? Addr.add at h0
   revert h0
   split <;> (try split) <;> simp_all
 subst hsp
 rw [hadd 0 rfl] at h0
 unfold World.cell? at h0
 split at h0
 ·rename_i arr t fz harr
  have harr:w.heap[blk]? = some (.cells arr t fz):=harr
  have hget:∀ i,i<n→∃ v,arr[off+i]? = some v∧cs[i]? = some v:=fun i hi=>by
   obtain ⟨v,h1,h2⟩:=hcell i hi
   rw [hadd i rfl] at h1
   simp only [World.cell?,harr] at h1
   exact ⟨v,by simpa using h1,h2⟩
  have hsz:off+n≤arr.size:=by
   obtain ⟨v,h1,_⟩:=hget (n-1) (by omega)
   have:=(Array.getElem?_eq_some_iff.1 h1).1
   omega
  refine ⟨arr,t,fz,rfl,harr,?_,hsz⟩
  refine qaU fun i=>?_
  rw [qaq]
  by_cases hi:i<n
  ·rw [if_pos hi,qaB]
   obtain ⟨v,h1,h2⟩:=hget i hi
   rw [h2]
   simpa using h1.symm
  ·rw [if_neg hi]
   exact List.getElem?_eq_none (by omega)
 ·cases h0
theorem anU {t e:TypeId}(ht:P.underlying t=some (.slice e)){m:Nat}{ks:List LK}(hk:Dt P m e=some ks)(hc:ks.length=P.cellsOf e)(h0:0<ks.length)(hf:DR ks=true)(hs:size P e=some ks.length)(hns:ao5 P e=false)
  {w:World} {b:Nat} {held:Bool} {fuel:Nat} {cs:List Value} {x:DataW H × List MemPlace} (h:DataW.trod enc P w b (fun _=>true) held fuel t cs=some x) :
  ∃ c bn,eG P w [c] cs bn∧aii (.sl e ks) c:=by
 rcases Deep.open_slice ht h with ⟨rfl,_⟩|⟨a,len,cap,q,n,D,Pl,rfl,hb,hle,hmax,hq,_,hall⟩
 ·exact ⟨.raw (.slice none 0 0),[],acI rfl (fun lo ρ=>@VR.dW lo ρ 0 0),.nil e ks⟩
 ·have hq:q=cap:=by simpa using hq
  subst hq
  by_cases hl:len=0
  ·subst hl
   exact ⟨.raw bY,[],acI rfl (fun lo ρ=>@VR.dead lo ρ a q),.dead e ks⟩
  ·have apz:∀ i,i<q→∃ (arr:Array Value) (tt:TypeId) (fz:Nat × Nat),(a.add (i*ks.length)).spot=none∧w.heap[(a.add (i*ks.length)).block]? = some (.cells arr tt fz)∧jy ks ((arr.toList.drop (a.add (i*ks.length)).off).take ks.length)∧(a.add (i*ks.length)).off+ks.length≤arr.size:=fun i hi=>by
    obtain ⟨cs',h1,h2⟩:=hall i hi
    rw [←hc] at h1
    obtain ⟨arr,tt,fz,g1,g2,g3,g4⟩:=akl h1 h0
    exact ⟨arr,tt,fz,g1,g2,g3▸N8 hk h2,g4⟩
   obtain ⟨blk,off,sp⟩:=a
   obtain ⟨arr,tt,fz,hsp,harr,_,_⟩:=apz 0 (by omega)
   have e0:(⟨blk,off,sp⟩:Addr).add (0*ks.length)=⟨blk,off,sp⟩:=by
    unfold Addr.add
    rw [if_pos (Nat.zero_mul _)]
   rw [e0] at hsp harr
   have hsp:sp=none:=hsp
   subst hsp
   have harr:w.heap[blk]? = some (.cells arr tt fz):=harr
   have hch:∀ i,i<q→jy ks ((arr.toList.drop (off+i*ks.length)).take ks.length)∧off+i*ks.length+ks.length≤arr.size:=fun i hi=>by
    obtain ⟨arr',tt',fz',_,g2,g3,g4⟩:=apz i hi
    rw [add_eq] at g2 g3 g4
    have g2:w.heap[blk]? = some (.cells arr' tt' fz'):=g2
    rw [harr] at g2
    cases g2
    exact ⟨g3,g4⟩
   have hend:off+q*ks.length≤arr.size:=by
    have:=(hch (q-1) (by omega)).2
    have e:(q-1)*ks.length+ks.length=q*ks.length:=by rw [←qao,Nat.succ_eq_add_one,Nat.sub_add_cancel (by omega)]
    omega
   have hmul:len*ks.length≤q*ks.length:=qaf _ hle
   have arq:=Et (cs:=arr.toList) (ks:=ks) len off fun i hi=>(hch i (by omega)).1
   have hlen:((arr.toList.drop off).take (len*ks.length)).length=len*ks.length:=by simp;omega
   have KN:=ahm (QZ hf len) arq
   generalize hrow:(arr.toList.drop off).take (len*ks.length)=row at arq hlen KN
   have hget:∀ (j:Nat) (x:Value),row[j]? = some x→arr[off+j]? = some x:=fun j x hj=>by
    rw [←hrow,qaq] at hj
    split at hj
    ·rw [qaB] at hj
     simpa using hj
    ·cases hj
   have kL:(jw.sl row e len).fine P:=by
    refine ⟨?_,ks.length,hs,h0,hlen.symm⟩
    unfold rowFine
    rw [hns]
    exact KN
   have hat:afL P w (row,e) ⟨blk,off,q⟩:=⟨arr,fz,ks.length,⟨tt,harr⟩,fun j x hj=>⟨x,hget j x hj,fun lo ρ=>@H6 lo ρ _ (qp KN hj)⟩,hs,h0,hend,by show row.length≤q*ks.length;omega⟩
   refine ⟨.sl row e len,[⟨blk,off,q⟩],eG.cons (l:=[⟨blk,off,q⟩]) (ls:=[]) kL (.cons hat .nil) (fun pre post k hk ayH ρ'=>?_) .nil,.row e ks row len (by omega) hlen.symm arq⟩
   have hlt:k<31:=by simp at ayH;omega
   have e1:eU=32:=rfl
   have e2:ak=64:=rfl
   have key:=@VR.slice (qO (pre++([⟨blk,off,q⟩]++post))) ρ' (qaN eU k) 0 len aC ⟨blk,off,q⟩ (by
    have e:qaN eU k=eU+k:=rfl
    rw [e,@Ren.kU (qO _) _ _ (by omega)]
    exact congrArg some (adM (bn:=[]) hk hlt))
   rw [rJ] at key
   exact key
theorem Wy {g:TypeId→Option (List AK)}{f:Field}{fs:List Field}{o:Nat}{r:List AK}(h:Ez P g (f::fs) o=some r) :
  ∃ ks r',f.offset=o∧g f.type=some ks∧ks.length=P.cellsOf f.type∧Ez P g fs (o+ks.length)=some r'∧r=ks++r':=by
 unfold Ez at h
 split at h
 ·next ho=>
  obtain ⟨ks,hk,h⟩:=Option.bind_eq_some_iff.1 h
  split at h
  ·next hl=>
   obtain ⟨r',hr,rfl⟩:=Option.map_eq_some_iff.1 h
   exact ⟨ks,r',ho,hk,hl,hr,rfl⟩
  ·cases h
 ·cases h
theorem Ko {w:World}{g:TypeId→Option (List AK)}{cs:List Value}:∀ {fs:List Field} {o:Nat} {r:List AK},Ez P g fs o=some r→
  (∀ f∈fs,∀ ks,g f.type=some ks→∃ c l,eG P w c ((cs.drop f.offset).take (P.cellsOf f.type)) l∧kV ks c)→∃ c l,eG P w c ((cs.drop o).take r.length) l∧kV r c
 |[],o,r,h,_=>by
  cases h
  exact ⟨[],[],by simpa using eG.nil,.nil⟩
 |f::fs,o,r,h,hall=>by
  obtain ⟨ks,r',ho,hk,hl,hr,rfl⟩:=Wy h
  obtain ⟨c1,l1,h1,a1⟩:=hall f qai ks hk
  obtain ⟨c2,l2,h2,a2⟩:=Ko hr fun f' hf=>hall f' (qae _ hf)
  rw [qam,qaJ,qaD]
  rw [ho,←hl] at h1
  exact ⟨c1++c2,l1++l2,h1.append h2,a1.append a2⟩
theorem PN {w:World}{cs:List Value}{ks:List AK}:∀ (m o:Nat),(∀ i,i<m→∃ c l,eG P w c ((cs.drop (o+i*ks.length)).take ks.length) l∧kV ks c)→∃ c l,eG P w c ((cs.drop o).take (m*ks.length)) l∧kV (repeatL' m ks) c
 |0,o,_=>⟨[],[],by simpa using eG.nil,.nil⟩
 |m+1,o,h=>by
  obtain ⟨c1,l1,h1,a1⟩:=h 0 (Nat.succ_pos _)
  obtain ⟨c2,l2,h2,a2⟩:=PN m (o+ks.length) fun i hi=>by
   have:=h (i+1) (qaV hi)
   rw [qao] at this
   rw [show o+ks.length+i*ks.length=o+(i*ks.length+ks.length) by omega]
   exact this
  rw [show (m+1)*ks.length=ks.length+m*ks.length by rw [qao,Nat.add_comm],qaJ,qaD]
  refine ⟨c1++c2,l1++l2,eG.append ?_ h2,a1.append a2⟩
  simpa using h1
theorem abG {n:Nat}{t:TypeId}{r:List AK}(h:Ql P (n+1) t=some r) :
  (∃ k,P.underlying t=some (.int k)∧r=[.int k])∨(P.underlying t=some .bool∧r=[.bool])∨
   (∃ e ks,P.underlying t=some (.slice e)∧Dt P n e=some ks∧ks.length=P.cellsOf e∧0<ks.length∧DR ks=true∧size P e=some ks.length∧ao5 P e=false∧r=[.sl e ks])∨
   (∃ fs,P.underlying t=some (.struct fs)∧Ez P (Ql P n) fs.toList 0=some r∧r.length=P.cellsOf t)∨
   (∃ m e ks,P.underlying t=some (.array m e)∧Ql P n e=some ks∧ks.length=P.cellsOf e∧m*ks.length=P.cellsOf t∧r=repeatL' m ks):=by
 unfold Ql at h
 split at h
 ·next k hk=>cases h;exact .inl ⟨k,hk,rfl⟩
 ·next hk=>cases h;exact .inr (.inl ⟨hk,rfl⟩)
 ·next e hk=>
  obtain ⟨ks,hr,h⟩:=Option.bind_eq_some_iff.1 h
  split at h
  ·next hl=>cases h;exact .inr (.inr (.inl ⟨e,ks,hk,hr,hl.1,hl.2.1,hl.2.2.1,hl.2.2.2.1,hl.2.2.2.2,rfl⟩))
  ·cases h
 ·next fs hf=>
  obtain ⟨r',hr,h⟩:=Option.bind_eq_some_iff.1 h
  split at h
  ·next hl=>cases h;exact .inr (.inr (.inr (.inl ⟨fs,hf,hr,hl⟩)))
  ·cases h
 ·next m e hf=>
  obtain ⟨ks,hr,h⟩:=Option.bind_eq_some_iff.1 h
  split at h
  ·next hl=>cases h;exact .inr (.inr (.inr (.inr ⟨m,e,ks,hf,hr,hl.1,hl.2,rfl⟩)))
  ·cases h
 ·cases h
theorem Gi:∀ {n:Nat} {t:TypeId} {ks:List AK},Ql P n t=some ks→∀ {w:World} {b:Nat} {h:Bool} {fuel:Nat} {cs:List Value} {x:DataW H × List MemPlace},
  DataW.trod enc P w b (fun _=>true) h fuel t cs=some x→∃ c l,eG P w c cs l∧kV ks c
 |0,_,_,hk,_,_,_,_,_,_,_=>by cases hk
 |n+1,t,ks,hk,w,b,h,fuel,cs,x,hx=>by
  rcases abG hk with ⟨k,ht,rfl⟩|⟨ht,rfl⟩|⟨e,ks',ht,h1,h2,h3,h4,h5,h6,rfl⟩|⟨fs,ht,hf,hl⟩|⟨q,e,ks',ht,hke,hle,hlt,rfl⟩
  ·obtain ⟨m,rfl,_,hw⟩:=DataW.trod_int ht hx
   exact ⟨[.raw (.int k m)],[],acI rfl (fun lo ρ=>@VR.int lo ρ k m),.cons (.int k m hw) .nil⟩
  ·cases fuel with
   |zero=>cases hx
   |succ m=>
    unfold DataW.trod at hx
    rw [ht] at hx
    split at hx <;> simp_all
    exact ⟨[.raw (.bool _)],⟨[],acI rfl (fun lo ρ=>@VR.bool lo ρ _)⟩,.cons (.bool _) .nil⟩
  ·obtain ⟨c,l,h7,h8⟩:=anU ht h1 h2 h3 h4 h5 h6 hx
   exact ⟨[c],l,h7,.cons h8 .nil⟩
  ·obtain ⟨xs,m,_,_,hcl,hxl,hall⟩:=DataW.trod_struct ht hx
   obtain ⟨c,l,h1,a1⟩:=Ko (w:=w) (cs:=cs) hf fun f hm ks' hk'=>by
    obtain ⟨i,hi,hif⟩:=List.mem_iff_getElem.1 hm
    have hi':i<xs.length:=by rw [hxl];simpa using hi
    have:=hall i f (by rw [←hif];simp)
    rw [qaj hi'] at this
    exact Gi hk' this
   rw [hl,←hcl] at h1
   exact ⟨c,l,by simpa using h1,a1⟩
  ·obtain ⟨xs,m,_,_,hcl,hxl,hall⟩:=DataW.trod_array ht hx
   obtain ⟨c,l,h1,a1⟩:=PN (w:=w) (cs:=cs) (ks:=ks') q 0 fun i hi=>by
    have:=hall i hi
    have hi':i<xs.length:=by rw [hxl];exact hi
    rw [qaj hi'] at this
    rw [hle,qaI]
    exact Gi hke this
   rw [hlt,←hcl] at h1
   exact ⟨c,l,by simpa using h1,a1⟩
end
noncomputable def LM (s:St)(G:List (Nat × List Value × TypeId)):St:={ heap:=List.rec s.heap (fun x _ h=>Hp.set h x.1 (.row x.2.1 x.2.2 0)) G,bZ:=s.bZ,next:=s.next }
theorem rU {s:St}:∀ {G:List (Nat × List Value × TypeId)} {i:Nat} {r:Row},(LM s G).heap.get i=some r→(∃ x∈G,x.1=i∧r = .row x.2.1 x.2.2 0)∨s.heap.get i=some r
 |[],i,r,h=>.inr h
 |x::L,i,r,h=>by
  have h:(Hp.set (LM s L).heap x.1 (Row.row x.2.1 x.2.2 0)).get i=some r:=h
  rw [Hp.jv] at h
  by_cases e:i=x.1
  ·rw [if_pos e] at h
   exact .inl ⟨x,qai,e.symm,(Option.some.inj h).symm⟩
  ·rw [if_neg e] at h
   rcases rU h with ⟨y,hy,h1,h2⟩|h
   ·exact .inl ⟨y,qae _ hy,h1,h2⟩
   ·exact .inr h
theorem aqH {P:Program}{w:World}{rows:List (List Value × TypeId)}{bn:List Loc}{G:List (Nat × List Value × TypeId)}(h:kY P w rows bn)(hlen:rows.length≤31)(hlo:∀ x∈G,x.1<eU)
  (hW:∀ x∈G,∃ (a:Array Value) (fz:Nat × Nat),w.heap[x.1]? = some (.cells a x.2.2 fz)∧∀ (lo:Lo) (ρ:Ren),@VRs lo ρ x.2.1 a.toList) :
  @HR (qO bn) P w.heap.size (fun _=>none) (LM (Az rows) G) w:=by
 have h0:=apl h hlen
 have e1:eU=32:=rfl
 have e2:ak=64:=rfl
 have e3:fP=63:=rfl
 have hn:(LM (Az rows) G).next=64:=(nZ rows).1
 have atC:∀ i,i<eU→@Lo.lo (qO bn) i=⟨i,0,0⟩:=fun i hi=>@Lo.fix (qO bn) i hi
 have hcell:∀ i cs e f,(LM (Az rows) G).cells i=some (cs,e,f)→(∃ x∈G,x.1=i∧cs=x.2.1∧e=x.2.2∧f=0)∨(Az rows).cells i=some (cs,e,f):=by
  intro i cs e f hc
  obtain ⟨g1,g2⟩:=aO.1 hc
  rcases rU g1 with ⟨x,hx,h1,h2⟩|h1
  ·injection h2 with q1 q2 q3
   exact .inl ⟨x,hx,h1,q1,q2,q3⟩
  ·exact .inr (aO.2 ⟨h1,g2⟩)
 refine @HR.mk (qO bn) P w.heap.size (fun _=>none) _ w (fun _ _ h=>by cases h) (by rw [hn];exact qat _) (qat _) (fun i hi ht=>?_) (fun i r hi=>?_) (fun i cs e f hi=>?_) (fun i cs e f hc=>?_) (fun i es c hi=>?_) (fun i r hi=>?_) (fun i j a b l l' hi hj hab hl hl' hh=>?_)
 ·cases ht':(LM (Az rows) G).tag i with
  |none=>exact absurd ht' ht
  |some a=>
   obtain ⟨r,hr⟩:=tag_some ht'
   rcases rU hr with ⟨x,hx,rfl,_⟩|hr
   ·obtain ⟨b,fz,hb,_⟩:=hW x hx
    have:=hlo x hx
    rw [atC _ this]
    exact ⟨(Array.getElem?_eq_some_iff.1 hb).1,by omega⟩
   ·obtain ⟨_,h2,_⟩:=nZ rows
    have hr0:=hr
    rw [h2 i] at hr
    split at hr
    ·rename_i hh
     obtain ⟨p,hp,rfl⟩:=Option.map_eq_some_iff.1 hr
     refine @HR.low (qO bn) _ _ _ _ _ h0 i hi ?_
     have hfm:(Az rows).bZ.get i=some [i]:=by rw [(nZ rows).2.2 i,if_pos hh]
     rw [(UY (by omega) hr0 hfm).1]
     simp
    ·cases hr
 ·rcases rU hi with ⟨x,hx,rfl,_⟩|hi
  ·have:=hlo x hx
   rw [hn];omega
  ·have:=@HR.dO (qO bn) _ _ _ _ _ h0 i r hi
   rw [(nZ rows).1] at this
   rw [hn];exact this
 ·rcases rU hi with ⟨x,hx,_,h2⟩|hi
  ·injection h2 with _ _ q3
   rw [hn];omega
  ·have:=@HR.fM (qO bn) _ _ _ _ _ h0 i cs e f hi
   rw [(nZ rows).1] at this
   rw [hn];exact this
 ·rcases hcell i cs e f hc with ⟨x,hx,rfl,rfl,rfl,rfl⟩|hc
  ·obtain ⟨a,fz,ha,hv⟩:=hW x hx
   have hxl:=hlo x hx
   refine ⟨⟨x.1,0,0⟩,@alc.mk (qO bn) P (fun _=>none) w x.1 x.2.1 x.2.2 0 ⟨x.1,0,0⟩ (@Ren.Ya (qO bn) _ _ hxl) ⟨a,fz,⟨_,ha,fun _=>rfl⟩,fun j y hj=>?_,fun h=>absurd h (by omega),fun _=>⟨rfl,?_,fun h=>absurd h (by omega)⟩,fun h=>absurd rfl h⟩⟩
   ·letI:Lo:=qO bn
    obtain ⟨z,hz,hyz⟩:=VRs.get (hv (qO bn) (fun _=>none)) hj
    exact ⟨z,by simpa using hz,hyz⟩
   ·letI:Lo:=qO bn
    have:=VRs.length (hv (qO bn) (fun _=>none))
    simpa using this
  ·exact @HR.rows (qO bn) _ _ _ _ _ h0 i cs e f hc
 ·rcases rU hi with ⟨x,_,_,h2⟩|hi
  ·cases h2
  ·exact @HR.maps (qO bn) _ _ _ _ _ h0 i es c hi
 ·rcases rU hi with ⟨x,_,_,h2⟩|hi
  ·cases h2
  ·exact @HR.loops (qO bn) _ _ _ _ _ h0 i r hi
 ·obtain ⟨r,hr⟩:=tag_some hi
  obtain ⟨r',hr'⟩:=tag_some hj
  have lt:∀ i r,(LM (Az rows) G).heap.get i=some r→i<64:=fun i r hr=>by
   rcases rU hr with ⟨x,hx,rfl,_⟩|hr
   ·have:=hlo x hx
    omega
   ·have:=@HR.dO (qO bn) _ _ _ _ _ h0 i r hr
    rwa [(nZ rows).1] at this
  have:=lt i r hr
  have:=lt j r' hr'
  omega
theorem aiv {P:Program}{C:Cfg}(hK:∀ lo:Lo,@eX lo C P){n:Nat}{f:FuncId}{comps:List fK}{aZ:List Value}{bn:List Loc}{w:World}(h:oV P w comps aZ bn)(hlen:(mW comps).length≤31)
  {G:List (Nat × List Value × TypeId)} (hlo:∀ x∈G,x.1<eU) (hW:∀ x∈G,∃ (a:Array Value) (fz:Nat × Nat),w.heap[x.1]? = some (.cells a x.2.2 fz)∧∀ (lo:Lo) (ρ:Ren),@VRs lo ρ x.2.1 a.toList)
  (hrun:∃ s,(runN C n).1 f (bG comps) (LM (aH comps) G)=some (.bool true,s)):Calls P f ⟨aZ⟩ w fun e w'=>e = .returned (.bool true)∧RowKit.Below w.heap.size w w':=by
 obtain ⟨s,hrun⟩:=hrun
 have hr:=h.rows
 have hlow:=aqH hr hlen hlo hW
 have hlen2:=hr.length
 have hv:=h.vrs [] [] 0 rfl (by omega) (fun _=>none)
 have ayV:([]:List Loc)++(bn++[])=bn:=by simp
 rw [ayV] at hv
 refine ((@sN (qO bn) P C (hK _) n).1 f _ _ _ s hrun w.heap.size _ w aZ hlow hv).mono ?_
 rintro e w' ⟨c,ρ',rfl,hgo,hvc⟩
 cases hvc
 exact ⟨rfl,@Goes.below (qO bn) _ _ _ _ _ _ _ _ hlow hgo⟩
end Go.Ax
namespace Go.Ax
open Go
noncomputable section
def QY (P:Program)(f:FuncId):List FuncId:=(P.funcs[f]?).elim [] P.leadsTo
def MH (L:FuncId→List FuncId):Nat→List FuncId→List FuncId→Nat→List FuncId:=fun n=>
 Nat.rec (fun _ seen _=>seen.reverse)
  (fun _ ih todo seen m=>List.casesOn todo seen.reverse fun f todo=>sel (dY m f) (ih todo seen m) (ih (aK (L f) todo) (f::seen) (Eu m f))) n
theorem GY (P:Program):∀ (n:Nat) (todo seen:List FuncId) (m:Nat),(∀ x,dY m x=seen.contains x)→MH (QY P) n todo seen m=P.closureVia n todo seen
 |0,todo,seen,m,h=>by cases todo <;> rfl
 |n+1,[],seen,m,h=>rfl
 |n+1,f::todo,seen,m,h=>by
  show sel (dY m f) (MH (QY P) n todo seen m) (MH (QY P) n (aK (QY P f) todo) (f::seen) (Eu m f))=P.closureVia (n+1) (f::todo) seen
  unfold Program.closureVia
  rw [h f,aG]
  by_cases hc:seen.contains f=true
  ·rw [if_pos hc,if_pos hc]
   exact GY P n todo seen m h
  ·rw [if_neg hc,if_neg hc,iG]
   refine GY P n _ (f::seen) (Eu m f) fun x=>?_
   rw [jE,h x]
   rw [List.contains_cons,Bool.or_comm]
   have e:(x == f)=decide (f=x):=by
    by_cases hx:f=x
    ·subst hx;simp
    ·rw [decide_eq_false hx]
     exact beq_eq_false_iff_ne.2 fun h=>hx h.symm
   rw [e]
def ahc (P:Program):Nat:=1+(P.funcs.toList.map fun g=>(P.leadsTo g).length+1).sum
theorem ZO {P:Program}{f:FuncId}{n:Nat}{l:List FuncId}(hn:ahc P=n)(h:MH (QY P) n [f] [] 0=l):P.closure f=l:=by
 have e:P.closure f=P.closureVia (ahc P) [f] []:=rfl
 rw [e,hn,←GY P n [f] [] 0 fun x=>by rw [qh];rfl]
 exact h
theorem ahO {P:Program}{s:Start}{func:String}(h:P.funcs.any Func.goes=false):P.goesAt s func=false:=by
 have hg:∀ f,P.goes f=false:=by
  intro f
  unfold Program.goes
  rw [h,Bool.and_false,Bool.or_false]
  rw [qaW]
  intro g _
  cases hf:P.funcs[g]? with
  |none=>simp
  |some fn=>
   have:=Array.any_eq_false.1 h
   obtain ⟨hi,rfl⟩:=Array.getElem?_eq_some_iff.1 hf
   simpa using this g hi
 unfold Program.goesAt Program.goesFrom
 have h1:(P.funcNamed func).any P.goes=false:=by
  cases P.funcNamed func with
  |none=>rfl
  |some f=>exact hg f
 rw [h1,Bool.false_or]
 cases s <;> first|rfl|(simp only [qaW];intro f _;rw [hg f];simp)
theorem iU {p:Nat→Bool}{k m:Nat}(h1:(qaE 0 k).all p=true)(h2:(qaE k m).all p=true):(qaE 0 (k+m)).all p=true:=by
 have:qaE 0 (k+m)=qaE 0 k++qaE k m:=by
  have:=List.range'_append (s:=0) (m:=k) (n:=m) (step:=1)
  simpa using this.symm
 rw [this,List.all_append,h1,h2]
 rfl
end
end Go.Ax
