import Derived.Test.YtgpfgjhbiehafaaGreatDoorDc
import Derived.Test.YtgpfgjhbiehafaaGreatDoorDb
import Derived.Laws.Externs
import Derived.Shelf.Spec.BitsCarry
import Derived.Laws.CopyRow
import Derived.Test.YtgpfgjhbiehafaaGreatDoorDa
import Derived.ChangeArms
import Derived.OpenShut
import Derived.Deep.Slices
import GoSem.ClaimFn
import GoSem.ClaimGoes
set_option linter.unusedVariables false
set_option linter.unusedSectionVars false
namespace Go.Ax
open Go
noncomputable section
def Tree.bnd {α β:Type}(t:Tree α)(k:α→Tree β):Tree β:=Tree.rec .fail k (fun b _ _ x y=>.test b x y) t
theorem Tree.ES {α β:Type}{k:α→Tree β}:∀ {t:Tree α} {r:β},(t.bnd k).run=some r→∃ a,t.run=some a∧(k a).run=some r
 |.fail,r,h=>by cases h
 |.leaf a,r,h=>⟨a,rfl,h⟩
 |.test b x y,r,h=>by
  have h:sel b (x.bnd k).run (y.bnd k).run=some r:=h
  cases b with
  |true=>exact Tree.ES (t:=x) h
  |false=>exact Tree.ES (t:=y) h
def QB {α:Type}(b:Bool)(t:Tree α):Tree α:=sel b t .fail
theorem iT {α:Type}{b:Bool}{t:Tree α}{r:α}(h:(QB b t).run=some r):b=true∧t.run=some r:=bD h
def Tree.alt {α:Type}(t u:Tree α):Tree α:=
 match t with
 |.fail=>u
 |t=>t
theorem Tree.VQ {α:Type}{t u:Tree α}{r:α}(h:(t.alt u).run=some r):t.run=some r∨u.run=some r:=by
 cases t with
 |fail=>exact .inr h
 |leaf a=>exact .inl h
 |test b x y=>exact .inl h
def rG:List (Nat × Row)→List Bool→Prop:=fun l=>List.rec (fun _=>True) (fun p _ ih fl=>(gG fl True fun b _=>b=false→∀ cs e f,p.2=Row.row cs e f→bH ak cs=true)∧ih (gG fl [] fun _ t=>t)) l
section
variable {R:Type}
def Nk (aN:List Loc)(N:Nat)(v:Value)(k:Value→Tree R):Tree R:=
 match v with
 |.slice (some a) n c=>sel a.spot.isNone (nT (aiw a.block aN N) fun p=>
   sel (Nat.beq p.2.cap c) (QB (Nat.beq p.2.off a.off) (k (.slice (some ⟨p.1,0,none⟩) n aA)))
    (QB (Nat.beq p.2.off 0&&(Nat.beq p.2.cap aA&&ltN c aQ)) (k (.slice (some ⟨p.1,a.off,none⟩) n c)))) .fail
 |.pointer (some a)=>sel a.spot.isNone (nT (aiw a.block aN N) fun p=>QB (Nat.beq p.2.off 0&&Nat.beq p.2.cap aA) (k (.pointer (some ⟨p.1,a.off,none⟩)))) .fail
 |_=>.fail
def rJ (N:Nat)(aN:List Loc)(v:Value)(k:Value→Tree R):Tree R:=sel (fQ N v) (k v) (Nk aN N v k)
def NU (N:Nat)(aN:List Loc)(l:List Value):(List Value→Tree R)→Tree R:=List.rec (fun k=>k []) (fun v _ ih k=>rJ N aN v fun v=>ih fun vs=>k (v::vs)) l
def NJ (N:Nat)(aN:List Loc)(v:Value)(k:Value→Tree R):Tree R:=
 match v with
 |.agg ⟨l⟩=>NU N aN l fun l=>k (.agg ⟨l⟩)
 |.iface t v=>rJ N aN v fun v=>k (.iface t v)
 |v=>rJ N aN v k
def Md (N:Nat)(aN:List Loc)(l:List Value):(List Value→Tree R)→Tree R:=List.rec (fun k=>k []) (fun v _ ih k=>NJ N aN v fun v=>ih fun vs=>k (v::vs)) l
def rW (N:Nat)(aN:List Loc)(spine:Bool)(l:List Value)(k:List Value→Tree R):Tree R:=sel spine (NU N aN l k) (k l)
def aok (i:Nat)(b:Bool)(t:Tree R):Tree R:=sel (ltN i bg) (QB b t) (fF b t)
theorem abd {i:Nat}{b:Bool}{t:Tree R}{r:R}(h:(aok i b t).run=some r):b=true∧t.run=some r:=by
 unfold aok at h
 cases hl:ltN i bg with
 |true=>rw [hl,aH] at h;exact iT h
 |false=>rw [hl,aF] at h;exact bI h
def UD (N:Nat)(s:St)(i:Nat)(k:Row→Tree R):Tree R:=nT (s.cells i) fun c=>aok i (dF c.1) (sel (ltN i ak&&ltN c.2.2 N) (k (.row c.1 c.2.1 c.2.2)) .fail)
def Ob (N:Nat)(s:St)(l:List Nat):(List (Nat × Row)→Tree R)→Tree R:=List.rec (fun k=>k []) (fun i _ ih k=>UD N s i fun r=>ih fun rs=>k ((i,r)::rs)) l
def Hq (P:Program)(N:Nat)(s:St)(aN:List Loc)(i:Nat)(q:Loc)(fam spine:Bool)(k:Row→Tree R):Tree R:=
 nT (s.cells q.blk) fun c=>sel fam
  (nT (size P c.2.1) fun sz=>QB (BK sz q c.2.2 (aV c.1)) (rW N aN spine (eY q.off c.1) fun cs=>k (.row cs c.2.1 i)))
  (sel (Nat.beq c.2.2 0&&(Nat.beq q.off 0&&Nat.beq q.cap aA)) (rW N aN spine c.1 fun cs=>k (.row cs c.2.1 0)) .fail)
def Hz (P:Program)(N:Nat)(s:St)(aN:List Loc)(l:List (Nat × Bool × Bool)):(List (Nat × Row)→Tree R)→Tree R:=
 List.rec (fun k=>k []) (fun p _ ih k=>sel (Nat.ble ak p.1&&ltN p.1 N) (Hq P N s aN p.1 ⟨p.1,0,aA⟩ p.2.1 p.2.2 fun r=>ih fun rs=>k ((p.1,r)::rs)) .fail) l
def MX (P:Program)(N:Nat)(s:St)(aN:List Loc)(l:List Fnd):Nat→(List (Nat × Row)→Tree R)→Tree R:=
 List.rec (fun _ k=>k []) (fun f _ ih j k=>nT (nth aN j) fun q=>Hq P N s aN (Nat.add N j) q f.fam f.spine fun r=>ih (Nat.succ j) fun rs=>k ((Nat.add N j,r)::rs)) l
end
section
variable {R:Type} {P:Program} {N:Nat} {aN:List Loc} {s:St}
theorem Om (hN:ak≤N)(hbl:∀ j q,nth aN j=some q→N≤q.blk){v:Value}{k:Value→Tree R}{r:R}(h:(Nk aN N v k).run=some r):∃ v0,(k v0).run=some r∧RV (gI N aN) v0 v:=by
 unfold Nk at h
 split at h
 ·rename_i a n c
  obtain ⟨b,o,sp⟩:=a
  obtain ⟨hs,h⟩:=bD h
  obtain ⟨⟨j,q⟩,hp,h⟩:=dK h
  have hs:sp=none:=by
   cases sp with
   |none=>rfl
   |some x=>cases hs
  subst hs
  obtain ⟨h1,h2,h3⟩:=wH hp
  have h3:q.blk=b:=h3
  have hq:=pJ hN h2
  rw [show N+(j-N)=j by omega] at hq
  have hqb:=hbl _ _ h2
  obtain ⟨qb,qo,qc⟩:=q
  have h3:qb=b:=h3
  subst h3
  have hqb:N≤qb:=hqb
  have h:(sel (Nat.beq qc c) (QB (Nat.beq qo o) (k (.slice (some ⟨j,0,none⟩) n aA))) (QB (Nat.beq qo 0&&(Nat.beq qc aA&&ltN c aQ)) (k (.slice (some ⟨j,o,none⟩) n c)))).run=some r:=h
  rw [aC] at h
  split at h
  ·rename_i hc
   have hc:qc=c:=Nat.eq_of_beq_eq_true hc
   obtain ⟨ho,h9⟩:=iT h
   have ho:qo=o:=Nat.eq_of_beq_eq_true ho
   clear h
   subst hc ho
   refine ⟨_,h9,?_⟩
   have:=RV.slice (π:=gI N aN) (b:=j) (o:=0) (n:=n) (by omega) hq (by show ak≤qb;omega)
   simpa using this
  ·obtain ⟨hg,h9⟩:=iT h
   clear h
   simp only [Bool.and_eq_true] at hg
   obtain ⟨g1,g2,g3⟩:=hg
   have g1:qo=0:=Nat.eq_of_beq_eq_true g1
   have g2:qc=aA:=Nat.eq_of_beq_eq_true g2
   subst g1 g2
   exact ⟨_,h9,.zG (by omega) hq (by omega) (aY g3)⟩
 ·rename_i a
  obtain ⟨b,o,sp⟩:=a
  obtain ⟨hs,h⟩:=bD h
  obtain ⟨⟨j,q⟩,hp,h⟩:=dK h
  have hs:sp=none:=by
   cases sp with
   |none=>rfl
   |some x=>cases hs
  subst hs
  obtain ⟨h1,h2,h3⟩:=wH hp
  have hq:=pJ hN h2
  rw [show N+(j-N)=j by omega] at hq
  have hqb:=hbl _ _ h2
  obtain ⟨qb,qo,qc⟩:=q
  have h3:qb=b:=h3
  subst h3
  have hqb:N≤qb:=hqb
  obtain ⟨hg,h9⟩:=iT (show (QB (Nat.beq qo 0&&Nat.beq qc aA) (k (.pointer (some ⟨j,o,none⟩)))).run=some r from h)
  clear h
  simp only [Bool.and_eq_true] at hg
  have g1:qo=0:=Nat.eq_of_beq_eq_true hg.1
  have g2:qc=aA:=Nat.eq_of_beq_eq_true hg.2
  subst g1 g2
  exact ⟨_,h9,.ptr (by omega) hq (by omega)⟩
 ·cases h
theorem qK (hN:ak≤N)(hbl:∀ j q,nth aN j=some q→N≤q.blk){v:Value}{k:Value→Tree R}{r:R}(h:(rJ N aN v k).run=some r):∃ v0,(k v0).run=some r∧RV (gI N aN) v0 v:=by
 unfold rJ at h
 rw [aC] at h
 split at h
 ·rename_i hh
  exact ⟨v,h,Vs hN hh⟩
 ·exact Om hN hbl h
theorem wo (hN:ak≤N)(hbl:∀ j q,nth aN j=some q→N≤q.blk):∀ {l:List Value} {k:List Value→Tree R} {r:R},(NU N aN l k).run=some r→∃ l0,(k l0).run=some r∧RVs (gI N aN) l0 l
 |[],k,r,h=>⟨[],h,.nil⟩
 |v::l,k,r,h=>by
  have h:(rJ N aN v fun v=>NU N aN l fun vs=>k (v::vs)).run=some r:=h
  obtain ⟨v0,h1,h2⟩:=qK hN hbl h
  obtain ⟨l0,h3,h4⟩:=wo hN hbl h1
  exact ⟨v0::l0,h3,.cons h2 h4⟩
theorem Rt (hN:ak≤N)(hbl:∀ j q,nth aN j=some q→N≤q.blk){v:Value}{k:Value→Tree R}{r:R}(h:(NJ N aN v k).run=some r):∃ v0,(k v0).run=some r∧RV (gI N aN) v0 v:=by
 unfold NJ at h
 split at h
 ·obtain ⟨l0,h1,h2⟩:=wo hN hbl h
  exact ⟨_,h1,.agg h2⟩
 ·obtain ⟨v0,h1,h2⟩:=qK hN hbl h
  exact ⟨_,h1,.iface _ h2⟩
 ·exact qK hN hbl h
theorem zF (hN:ak≤N)(hbl:∀ j q,nth aN j=some q→N≤q.blk):∀ {l:List Value} {k:List Value→Tree R} {r:R},(Md N aN l k).run=some r→∃ l0,(k l0).run=some r∧RVs (gI N aN) l0 l
 |[],k,r,h=>⟨[],h,.nil⟩
 |v::l,k,r,h=>by
  have h:(NJ N aN v fun v=>Md N aN l fun vs=>k (v::vs)).run=some r:=h
  obtain ⟨v0,h1,h2⟩:=Rt hN hbl h
  obtain ⟨l0,h3,h4⟩:=zF hN hbl h1
  exact ⟨v0::l0,h3,.cons h2 h4⟩
theorem yB (hN:ak≤N)(hbl:∀ j q,nth aN j=some q→N≤q.blk){spine:Bool}{l:List Value}{k:List Value→Tree R}{r:R}(h:(rW N aN spine l k).run=some r):∃ l0,(k l0).run=some r∧((spine=false→bH ak l0=true)→RVs (gI N aN) l0 l)∧(spine=false→l0=l):=by
 unfold rW at h
 cases spine with
 |true=>
  obtain ⟨l0,h1,h2⟩:=wo hN hbl h
  exact ⟨l0,h1,fun _=>h2,fun e=>by cases e⟩
 |false=>exact ⟨l,h,fun hh=>uF (hh rfl),fun _=>rfl⟩
theorem O7 {π:Ren}{next:Nat}(hn:N≤next)(hN:ak≤N){i:Nat}{k:Row→Tree R}{r:R}(h:(UD N s i k).run=some r):∃ row,(k row).run=some r∧AB P π next s (i,row):=by
 obtain ⟨⟨cs,e,f⟩,hc,h⟩:=dK h
 obtain ⟨hg,h⟩:=abd h
 obtain ⟨hg2,h⟩:=bD h
 simp only [Bool.and_eq_true] at hg2
 have g1:=aY hg2.1
 have g2:f<N:=aY hg2.2
 exact ⟨_,h,by show i<next;omega,cs,e,f,rfl,by omega,.low g1 hc (Iz hg)⟩
theorem Am {π:Ren}{next:Nat}(hn:N≤next)(hN:ak≤N):∀ {l:List Nat} {k:List (Nat × Row)→Tree R} {r:R},(Ob N s l k).run=some r→∃ rows,(k rows).run=some r∧rows.length=l.length∧∀ p∈rows,AB P π next s p
 |[],k,r,h=>⟨[],h,rfl,fun p hp=>by cases hp⟩
 |i::l,k,r,h=>by
  have h:(UD N s i fun r=>Ob N s l fun rs=>k ((i,r)::rs)).run=some r:=h
  obtain ⟨row,h1,h2⟩:=O7 (P:=P) (π:=π) hn hN h
  obtain ⟨rows,h3,hl,h4⟩:=Am hn hN h1
  refine ⟨(i,row)::rows,h3,by simp [hl],fun p hp=>?_⟩
  rcases List.mem_cons.1 hp with rfl|hp
  ·exact h2
  ·exact h4 p hp
theorem DX {next:Nat}(hN:ak≤N)(hbl:∀ j q,nth aN j=some q→N≤q.blk){i:Nat}{q:Loc}(hi:ak≤i)(hlt:i<next)(hq:gI N aN i=some q)(hqb:ak≤q.blk)
  {fam spine:Bool} {k:Row→Tree R} {r:R} (h:(Hq P N s aN i q fam spine k).run=some r):∃ row,(k row).run=some r∧((spine=false→∀ cs e f,row=Row.row cs e f→bH ak cs=true)→AB P (gI N aN) next s (i,row)):=by
 obtain ⟨⟨cs,e,f⟩,hc,h⟩:=dK h
 have apU:ak=64:=rfl
 cases fam with
 |true=>
  obtain ⟨sz,hsz,h⟩:=dK (show (nT (size P e) fun sz=>QB (BK sz q f (aV cs)) (rW N aN spine (eY q.off cs) fun cs=>k (.row cs e i))).run=some r from h)
  obtain ⟨hg,h⟩:=iT h
  obtain ⟨l0,h1,h2,h20⟩:=yB hN hbl h
  refine ⟨_,h1,fun hraw=>?_⟩
  have h2:=h2 (fun e=>hraw e _ _ _ rfl)
  unfold BK at hg
  simp only [Bool.and_eq_true,Bool.not_eq_true'] at hg
  obtain ⟨g1,g2,g3,g4,g5,g6⟩:=hg
  have g1:f≠0:=fun e=>by rw [e] at g1;cases g1
  have g2:1≤sz:=Nat.le_of_ble_eq_true g2
  have g3:q.off=(aA-q.cap)*sz:=Nat.eq_of_beq_eq_true g3
  have g4:aA-q.cap≤aQ:=Nat.le_of_ble_eq_true g4
  have g5:q.cap≤aA:=Nat.le_of_ble_eq_true g5
  have g6:q.off≤cs.length:=by
   rw [aC,aP] at g6
   split at g6
   ·rename_i h0
    have:q.off=0:=Nat.eq_of_beq_eq_true h0
    omega
   ·exact Nat.le_of_ble_eq_true g6
  rw [iY] at h2
  have hlen:l0.length=cs.length-q.off:=by have:=h2.length;simp at this;omega
  refine ⟨hlt,l0,e,i,rfl,hlt,?_⟩
  obtain ⟨qb,qo,qc⟩:=q
  simp only at g3 g4 g5 g6 h2 hlen hq hqb hc
  have hcap:aA-(aA-qc)=qc:=by omega
  refine lD.fam (j:=qb) (k:=aA-qc) (n:=sz) hi ?_ hqb hc (by show i≠0;omega) g1 hsz (by omega) g4 (by rw [←g3];omega) ?_
  ·rw [hq,←g3,hcap]
  ·rw [←g3,List.take_of_length_le (by simp;omega)]
   exact h2
 |false=>
  obtain ⟨hg,h⟩:=bD (show (sel (Nat.beq f 0&&(Nat.beq q.off 0&&Nat.beq q.cap aA)) (rW N aN spine cs fun cs=>k (.row cs e 0)) .fail).run=some r from h)
  obtain ⟨l0,h1,h2,h20⟩:=yB hN hbl h
  refine ⟨_,h1,fun hraw=>?_⟩
  have h2:=h2 (fun e=>hraw e _ _ _ rfl)
  simp only [Bool.and_eq_true] at hg
  have g1:f=0:=Nat.eq_of_beq_eq_true hg.1
  have g2:q.off=0:=Nat.eq_of_beq_eq_true hg.2.1
  have g3:q.cap=aA:=Nat.eq_of_beq_eq_true hg.2.2
  subst g1
  obtain ⟨qb,qo,qc⟩:=q
  simp only at g2 g3 hq hqb hc
  subst g2 g3
  exact ⟨hlt,l0,e,0,rfl,by omega,.whole hi hq hqb hc rfl h2⟩
theorem yx {next:Nat}(hN:ak≤N)(hn:N≤next)(hbl:∀ j q,nth aN j=some q→N≤q.blk):∀ {l:List (Nat × Bool × Bool)} {k:List (Nat × Row)→Tree R} {r:R},(Hz P N s aN l k).run=some r→∃ rows,(k rows).run=some r∧rows.length=l.length∧(rG rows (l.map fun p=>p.2.2)→∀ p∈rows,AB P (gI N aN) next s p)
 |[],k,r,h=>⟨[],h,rfl,fun _ p hp=>by cases hp⟩
 |q::l,k,r,h=>by
  obtain ⟨hg,h⟩:=bD (show (sel (Nat.ble ak q.1&&ltN q.1 N) (Hq P N s aN q.1 ⟨q.1,0,aA⟩ q.2.1 q.2.2 fun r=>Hz P N s aN l fun rs=>k ((q.1,r)::rs)) .fail).run=some r from h)
  simp only [Bool.and_eq_true] at hg
  have g1:ak≤q.1:=Nat.le_of_ble_eq_true hg.1
  have g2:=aY hg.2
  obtain ⟨row,h1,h2⟩:=DX (next:=next) hN hbl g1 (by omega) (lU q.1 g1 g2) g1 h
  obtain ⟨rows,h3,hl,h4⟩:=yx hN hn hbl h1
  refine ⟨(q.1,row)::rows,h3,by simp [hl],fun hraw p hp=>?_⟩
  obtain ⟨aaA,abP⟩:=(show (q.2.2=false→∀ cs e f,row=Row.row cs e f→bH ak cs=true)∧rG rows (l.map fun p=>p.2.2) from hraw)
  rcases List.mem_cons.1 hp with rfl|hp
  ·exact h2 aaA
  ·exact h4 abP p hp
theorem AO {next:Nat}(hN:ak≤N)(hbl:∀ j q,nth aN j=some q→N≤q.blk)(hnx:N+aN.length≤next):∀ {l:List Fnd} {j:Nat} {k:List (Nat × Row)→Tree R} {r:R},(MX P N s aN l j k).run=some r→∃ rows,(k rows).run=some r∧rows.length=l.length∧(rG rows (l.map fun f=>f.spine)→∀ p∈rows,AB P (gI N aN) next s p)
 |[],j,k,r,h=>⟨[],h,rfl,fun _ p hp=>by cases hp⟩
 |f::l,j,k,r,h=>by
  obtain ⟨q,hq,h⟩:=dK (show (nT (nth aN j) fun q=>Hq P N s aN (N+j) q f.fam f.spine fun r=>MX P N s aN l (j+1) fun rs=>k ((N+j,r)::rs)).run=some r from h)
  have hj:j<aN.length:=by rw [dY] at hq;exact (List.getElem?_eq_some_iff.1 hq).1
  have hb:=hbl j q hq
  obtain ⟨row,h1,h2⟩:=DX (next:=next) hN hbl (i:=N+j) (by omega) (by omega) (pJ hN hq) (by omega) h
  obtain ⟨rows,h3,hl,h4⟩:=AO hN hbl hnx h1
  refine ⟨(N+j,row)::rows,h3,by simp [hl],fun hraw p hp=>?_⟩
  obtain ⟨aaA,abP⟩:=(show (f.spine=false→∀ cs e f,row=Row.row cs e f→bH ak cs=true)∧rG rows (l.map fun f=>f.spine) from hraw)
  rcases List.mem_cons.1 hp with rfl|hp
  ·exact h2 aaA
  ·exact h4 abP p hp
end
theorem Ja:∀ {a b:List (Nat × Row)} {fa fb:List Bool},a.length=fa.length→rG (a++b) (fa++fb)→rG a fa∧rG b fb
 |[],b,[],fb,_,h=>⟨trivial,h⟩
 |[],b,_::_,fb,hl,h=>by cases hl
 |p::a,b,[],fb,hl,h=>by cases hl
 |p::a,b,f::fa,fb,hl,h=>by
  obtain ⟨h1,h2⟩:=(show (f=false→∀ cs e f,p.2=Row.row cs e f→bH ak cs=true)∧rG (a++b) (fa++fb) from h)
  obtain ⟨h3,h4⟩:=Ja (by simpa using hl) h2
  exact ⟨⟨h1,h3⟩,h4⟩
def flagsOf (sp:bZ):List Bool:=dG (qB (fun _=>true) sp.low) (dG (qB (fun p=>p.2.2) sp.keep) (qB (fun f=>f.spine) sp.new))
def aax (P:Program)(sp:bZ)(vs:List Value)(s:St):Tree bC:=
 sel (Nat.ble ak sp.N) (nT (xA sp.N s vs sp.new []) fun aN=>
  Ob sp.N s sp.low fun lr=>Hz P sp.N s aN sp.keep fun kr=>MX P sp.N s aN sp.new 0 fun nr=>Md sp.N aN vs fun vals=>
   (fun rows=>sel (Nat.beq (aV aN) (aV sp.new)&&Bz (gI sp.N aN) (uT sp.next ⟨vals,rows⟩) s (o7 rows) (o7 rows)) (.leaf ⟨vals,rows⟩) .fail) (dG lr (dG kr nr))) .fail
theorem JM {P:Program}{s:St}{sp:bZ}{vs:List Value}{o:bC}(h:(aax P sp vs s).run=some o)(hraw:rG o.rows (flagsOf sp)) :
  ∃ aN,xA sp.N s vs sp.new []=some aN∧RVs (gI sp.N aN) o.vals vs∧Emb P (gI sp.N aN) (uT sp.next o) s∧ak≤sp.N∧sp.next=sp.N+aN.length:=by
 unfold aax at h
 obtain ⟨hN,h⟩:=bD (R:=bC) h
 have hN:ak≤sp.N:=Nat.le_of_ble_eq_true hN
 obtain ⟨aN,XU,h⟩:=dK h
 have hbl:∀ j q,nth aN j=some q→sp.N≤q.blk:=fun j q hj=>by
  rw [dY] at hj
  exact wI XU (fun q hq=>by cases hq) q (List.mem_of_getElem? hj)
 have hnx:sp.N≤sp.next:=by unfold bZ.next;exact Nat.le_add_right _ _
 obtain ⟨lr,h1,hll,hl1⟩:=Am (P:=P) (π:=gI sp.N aN) (next:=sp.N+aN.length) (Nat.le_add_right _ _) hN h
 obtain ⟨kr,h2,hlk,hl2⟩:=yx (next:=sp.N+aN.length) hN (Nat.le_add_right _ _) hbl h1
 obtain ⟨nr,h3,hln,hl3⟩:=AO (next:=sp.N+aN.length) hN hbl (Nat.le_refl _) h2
 obtain ⟨vals,h4,hv⟩:=zF hN hbl h3
 obtain ⟨hg,h5⟩:=bD h4
 simp only [Bool.and_eq_true] at hg
 have hlen:aN.length=aV sp.new:=by rw [←aP];exact Nat.eq_of_beq_eq_true hg.1
 cases h5
 unfold flagsOf at hraw
 simp only [xM,iV] at hraw
 obtain ⟨_,hraw⟩:=Ja (by simp [hll]) hraw
 obtain ⟨aaA,abP⟩:=Ja (by simp [hlk]) hraw
 have adS:sp.next=sp.N+aN.length:=by unfold bZ.next;rw [hlen];rfl
 refine ⟨aN,XU,hv,Emb.of2 (rows:=dG lr (dG kr nr)) ?_ rfl (fun i q hq=>?_) (fun p hp=>?_) hg.2,hN,adS⟩
 ·show ak≤sp.next;omega
 ·show i<sp.next
  have:=Lh hq
  omega
 ·show AB P (gI sp.N aN) sp.next s p
  rw [adS]
  simp only [aX] at hp
  rcases List.mem_append.1 hp with hp|hp
  ·exact hl1 p hp
  ·rcases List.mem_append.1 hp with hp|hp
   ·exact hl2 aaA p hp
   ·exact hl3 abP p hp
structure xZ where
 pre:bZ
 ends:List bZ
def Xo (q:Loc):Bool:=Nat.beq q.off 0&&Nat.beq q.cap aA
def Hf:List Loc→Bool:=fun l=>List.rec true (fun q _ ih=>sel (Xo q) ih false) l
def CW (bl:List Nat)(v:Value):Option Value:=
 match v with
 |.slice (some a) n c=>sel (ltN a.block ak) (guard a.spot.isNone (some (.slice (some a) n c)))
   (aj (nth bl (Nat.sub a.block ak)) fun b=>guard (a.spot.isNone&&(Nat.beq c aA||ltN c aQ)) (some (.slice (some ⟨b,a.off,none⟩) n c)))
 |.pointer (some a)=>sel (ltN a.block ak) (guard a.spot.isNone (some (.pointer (some a)))) (aj (nth bl (Nat.sub a.block ak)) fun b=>guard a.spot.isNone (some (.pointer (some ⟨b,a.off,none⟩))))
 |v=>guard (fQ ak v) (some v)
def ael (bl:List Nat):List Value→Option (List Value):=fun l=>List.rec (some []) (fun v _ ih=>aj (CW bl v) fun v=>aj ih fun l=>some (v::l)) l
def ad6 (bl:List Nat)(v:Value):Option Value:=
 match v with
 |.agg ⟨l⟩=>aj (ael bl l) fun l=>some (.agg ⟨l⟩)
 |.iface t v=>aj (CW bl v) fun v=>some (.iface t v)
 |v=>CW bl v
def ZE (bl:List Nat):List Value→Option (List Value):=fun l=>List.rec (some []) (fun v _ ih=>aj (ad6 bl v) fun v=>aj ih fun l=>some (v::l)) l
def Gu (bl:List Nat)(spine:Bool)(cs:List Value):Option (List Value):=sel spine (ael bl cs) (some cs)
def FC (s:St)(b f:Nat):Option Nat:=
 sel (ltN b s.next) (aj (s.cells b) fun c=>sel (Nat.beq f 0) (guard (Nat.beq c.2.2 0) (some 0)) (guard (!Nat.beq c.2.2 0) (some c.2.2))) (some (sel (Nat.beq f 0) 0 b))
def EW (s:St)(bl:List Nat):List (Nat × Row)→List Bool→Option (List (Nat × Row)):=fun rows=>
 List.rec (fun _=>some []) (fun p _ ih fl=>gG fl none fun sp fl=>match p.2 with
  |.row cs e f=>guard (Nat.ble ak p.1&&(Nat.beq f 0||Nat.beq f p.1)) (aj (nth bl (Nat.sub p.1 ak)) fun b=>aj (Gu bl sp cs) fun cs'=>aj (FC s b f) fun f'=>aj (ih fl) fun r=>some ((b,.row cs' e f')::r))
  |_=>none) rows
def oO (ids:List Nat):List Nat→Nat→List Nat:=fun l=>List.rec (fun _=>[]) (fun p _ ih k=>sel (qX k ids) (ih (Nat.succ k)) (p::ih (Nat.succ k))) l
def jd (l:List Nat):List (Nat × Row):=qB (fun p=>(p,Row.other)) l
def gu (s:St):List Nat→List (Nat × List Nat):=fun l=>List.rec [] (fun p _ ih=>Option.rec ih (fun c:List Value × TypeId × Nat=>(c.2.2,[])::ih) (s.cells p)) l
def kD:List (Nat × Row)→List (Nat × List Nat):=fun l=>List.rec [] (fun p _ ih=>sel (Nat.beq (jh p.2) 0) ih ((jh p.2,[p.1])::ih)) l
def Rj (n:Nat):Nat→List Nat:=fun k=>Nat.rec (fun _=>[]) (fun _ ih n=>n::ih (Nat.succ n)) k n
def wQ:List Nat→Bool:=fun l=>List.rec true (fun a t ih=>sel (qX a t) false ih) l
def adA (N:Nat):List Nat→Bool:=fun l=>List.rec true (fun a _ ih=>sel (Nat.ble ak a&&ltN a N) ih false) l
def aa7:List Nat→Bool:=fun l=>List.rec true (fun a _ ih=>sel (ltN a ak) ih false) l
def aik (s:St)(aN:List Loc)(spe:bZ):List Nat:=dG (qB (fun q:Loc=>q.blk) aN) (Rj s.next (aV spe.new))
def XT (s:St)(n:Nat)(post:List (Nat × Row))(dr:List Nat):St:={ heap:=nP s.heap (dG post (jd dr)),bG:=nP s.bG (dG (kD post) (gu s dr)),next:=n }
def ahE (s:St)(aN:List Loc)(sp spe:bZ)(O:bC):Option (Value × St):=
 guard (wQ (aik s aN spe)&&(adA (Nat.add s.next (aV spe.new)) (aik s aN spe)&&(adA s.next (qB (fun q:Loc=>q.blk) aN)&&(Nat.beq sp.N ak&&(Nat.beq spe.N sp.next&&(aa7 sp.low&&wQ (o7 O.rows)))))))
  (aj (EW s (aik s aN spe) O.rows (flagsOf spe)) fun post=>aj (ZE (aik s aN spe) O.vals) fun vs=>some (tuple vs,XT s (Nat.add s.next (aV spe.new)) post (oO (o7 O.rows) (qB (fun q:Loc=>q.blk) aN) ak)))
def aiu (P:Program)(ms:xZ)(G:bC→Tree (Nat × bC))(s:St)(args:List Value):Tree (Value × St):=
 nT (xA ak s args ms.pre.new []) fun aN=>sel (Hf aN)
  ((aax P ms.pre args s).bnd fun o=>(G o).bnd fun q=>nT (nth ms.ends q.1) fun spe=>nT (ahE s aN ms.pre spe q.2) fun r=>.leaf r) .fail
def anp (P:Program)(spe:bZ)(r:Value × St):Tree bC:=sel (Xd r.1) (aax P spe (H9 r.1) r.2) .fail
def eF (P:Program)(l:List bZ):Nat→Value × St→Tree (Nat × bC):=List.rec (fun _ _=>.fail) (fun sp _ ih k r=>((anp P sp r).map fun O=>(k,O)).alt (ih (Nat.succ k) r)) l
theorem Eo {P:Program}:∀ {l:List bZ} {k:Nat} {r:Value × St} {q:Nat × bC},(eF P l k r).run=some q→∃ sp,k≤q.1∧nth l (q.1-k)=some sp∧(anp P sp r).run=some q.2
 |[],k,r,q,h=>by cases h
 |sp::l,k,r,q,h=>by
  rcases Tree.VQ (show ((((anp P sp r).map fun O=>(k,O)).alt (eF P l (k+1) r)).run=some q) from h) with h|h
  ·obtain ⟨O,h1,rfl⟩:=Tree.map_some h
   exact ⟨sp,Nat.le_refl _,by rw [Nat.sub_self];rfl,h1⟩
  ·obtain ⟨sp',h1,h2,h3⟩:=Eo h
   refine ⟨sp',by omega,?_,h3⟩
   rw [show q.1-k=(q.1-(k+1))+1 by omega]
   exact h2
def kZ (P:Program)(C:Cfg)(n:Nat)(f:FuncId)(ms:xZ)(G:bC→Tree (Nat × bC)):Prop:=
 ∀ o q,(G o).run=some q→rG o.rows (flagsOf ms.pre)∧(∀ spe,nth ms.ends q.1=some spe→rG q.2.rows (flagsOf spe))∧aj ((runN C n).1 f o.vals (uT ms.pre.next o)) (fun r=>(eF P ms.ends 0 r).run)=some q
theorem FX {α:Type}:∀ (t:Tree α),t.xQ some=t.run
 |.fail=>rfl
 |.leaf a=>rfl
 |.test b x y=>by
  show sel b (x.xQ some) (y.xQ some)=sel b x.run y.run
  rw [FX x,FX y]
theorem jX {K:KP}(hL:K.L≤100000){P:Program}{C:Cfg}(hA:QJ K C)(hLo:uh K C){n:Nat}{f:FuncId}{args:List Value}{s:St}{l:List bZ}{q:Nat × bC}(h:(runK K C n).1 f args s (fun r=>(eF P l 0 r).xQ some)=some q) :
  aj ((runN C n).1 f args s) (fun r=>(eF P l 0 r).run)=some q:=by
 have h1:=(iy hL C hA hLo n).1 f args s (fun r=>(eF P l 0 r).xQ some) q h
 have e:(fun r=>(eF P l 0 r).xQ some)=fun r=>(eF P l 0 r).run:=funext fun r=>FX _
 rw [e] at h1
 exact h1
theorem Az {b:Nat}{l:List Nat}:qX b l=true↔b∈l:=by rw [um];simp
theorem G5 {N:Nat}:∀ {l:List Nat},adA N l=true→∀ a∈l,ak≤a∧a<N
 |[],_,a,h=>by cases h
 |b::t,h,a,ha=>by
  obtain ⟨h1,h2⟩:=bM (show sel (Nat.ble ak b&&ltN b N) (adA N t) false=true from h)
  simp only [Bool.and_eq_true] at h1
  rcases List.mem_cons.1 ha with rfl|ha
  ·exact ⟨Nat.le_of_ble_eq_true h1.1,aY h1.2⟩
  ·exact G5 h2 a ha
theorem JZ:∀ {l:List Nat},aa7 l=true→∀ a∈l,a<ak
 |[],_,a,h=>by cases h
 |b::t,h,a,ha=>by
  obtain ⟨h1,h2⟩:=bM (show sel (ltN b ak) (aa7 t) false=true from h)
  rcases List.mem_cons.1 ha with rfl|ha
  ·exact aY h1
  ·exact JZ h2 a ha
theorem zX:∀ {l:List Loc},Hf l=true→∀ q∈l,q=⟨q.blk,0,aA⟩
 |[],_,q,h=>by cases h
 |p::t,h,q,hq=>by
  obtain ⟨h1,h2⟩:=bM (show sel (Xo p) (Hf t) false=true from h)
  rcases List.mem_cons.1 hq with rfl|hq
  ·have h1:(Nat.beq q.off 0&&Nat.beq q.cap aA)=true:=h1
   simp only [Bool.and_eq_true] at h1
   have e1:q.off=0:=Nat.eq_of_beq_eq_true h1.1
   have e2:q.cap=aA:=Nat.eq_of_beq_eq_true h1.2
   obtain ⟨b,o,c⟩:=q
   simp only at e1 e2
   rw [e1,e2]
  ·exact zX h2 q hq
theorem Kr:∀ (k n j:Nat) (b:Nat),(Rj n k)[j]? = some b→b=n+j
 |0,n,j,b,h=>by
  have h:([]:List Nat)[j]? = some b:=h
  simp at h
 |k+1,n,j,b,h=>by
  have h:(n::Rj (n+1) k)[j]? = some b:=h
  cases j with
  |zero=>simp at h;omega
  |succ j=>
   have:=Kr k (n+1) j b (by simpa using h)
   omega
def aio (i:Nat):List Nat→Nat→Option Nat:=fun l=>List.rec (fun _=>none) (fun a _ ih k=>sel (Nat.beq a i) (some k) (ih (Nat.succ k))) l
theorem P6 {i:Nat}:∀ {l:List Nat} {k j:Nat},aio i l k=some j→k≤j∧l[j-k]? = some i
 |[],k,j,h=>by cases h
 |a::t,k,j,h=>by
  have h:sel (Nat.beq a i) (some k) (aio i t (k+1))=some j:=h
  rw [aC] at h
  split at h
  ·rename_i e
   cases h
   exact ⟨Nat.le_refl _,by rw [Nat.sub_self];simp [Nat.eq_of_beq_eq_true e]⟩
  ·obtain ⟨h1,h2⟩:=P6 h
   refine ⟨by omega,?_⟩
   rw [show j-k=(j-(k+1))+1 by omega]
   simpa using h2
theorem WC {i:Nat}:∀ {l:List Nat} {k j:Nat},wQ l=true→l[j]? = some i→aio i l k=some (k+j)
 |[],k,j,_,h=>by simp at h
 |a::t,k,j,hn,h=>by
  show sel (Nat.beq a i) (some k) (aio i t (k+1))=some (k+j)
  cases j with
  |zero=>
   have h:a=i:=by simpa using h
   subst h
   have:Nat.beq a a=true:=by simp
   rw [this];rfl
  |succ j=>
   have hn':sel (qX a t) false (wQ t)=true:=hn
   rw [aC] at hn'
   split at hn'
   ·cases hn'
   ·rename_i hne
    have hm:i∈t:=List.mem_of_getElem? (by simpa using h)
    have:Nat.beq a i=false:=by
     rw [←Bool.not_eq_true]
     intro e
     have e:=Nat.eq_of_beq_eq_true e
     subst e
     exact hne (Az.2 hm)
    rw [this,aF,WC hn' (by simpa using h)]
    congr 1
    omega
def kY (bl:List Nat):Ren:=fun i=>Option.rec none (fun k=>some ⟨ak+k,0,aA⟩) (aio i bl 0)
theorem xG {bl:List Nat}(hn:wQ bl=true){j b:Nat}(h:bl[j]? = some b):kY bl b=some ⟨ak+j,0,aA⟩:=by
 unfold kY
 rw [WC hn h]
 simp
theorem Ip {bl:List Nat}{i:Nat}{q:Loc}(h:kY bl i=some q):∃ j,bl[j]? = some i∧q=⟨ak+j,0,aA⟩:=by
 unfold kY at h
 cases hx:aio i bl 0 with
 |none=>rw [hx] at h;cases h
 |some k=>
  rw [hx] at h
  obtain ⟨_,h2⟩:=P6 hx
  have h:some (⟨ak+k,0,aA⟩:Loc)=some q:=h
  cases h
  exact ⟨k,by simpa using h2,rfl⟩
section
variable {bl:List Nat} (hn:wQ bl=true) (hb:∀ a∈bl,ak≤a)
include hn hb
theorem Dh {v v':Value}(h:CW bl v=some v'):RV (kY bl) v' v:=by
 unfold CW at h
 split at h
 ·rename_i a n c
  obtain ⟨b,o,sp⟩:=a
  rw [aC] at h
  split at h
  ·rename_i hlo
   obtain ⟨hg,h⟩:=au.1 h
   cases h
   cases sp with
   |some x=>cases hg
   |none=>exact .Fh (aY hlo)
  ·rename_i hlo
   obtain ⟨b',h1,h⟩:=ah.1 h
   obtain ⟨hg,h⟩:=au.1 h
   cases h
   simp only [Bool.and_eq_true,Bool.or_eq_true] at hg
   have hb64:ak≤b:=by
    have:¬b<ak:=fun e=>hlo (by rw [iZ];simpa using e)
    omega
   cases sp with
   |some x=>exact absurd hg.1 (by simp)
   |none=>
    rw [dY] at h1
    have h1:bl[b-ak]? = some b':=h1
    have hs:=xG hn h1
    rw [show ak+(b-ak)=b by omega] at hs
    have hb':=hb b' (List.mem_of_getElem? h1)
    rcases hg.2 with hc|hc
    ·have hc:c=aA:=Nat.eq_of_beq_eq_true hc
     subst hc
     have:=RV.slice (π:=kY bl) (b:=b') (o:=o) (n:=n) hb' hs (by show ak≤b;omega)
     simpa using this
    ·exact .zG hb' hs hb64 (aY hc)
 ·rename_i a
  obtain ⟨b,o,sp⟩:=a
  rw [aC] at h
  split at h
  ·rename_i hlo
   obtain ⟨hg,h⟩:=au.1 h
   cases h
   cases sp with
   |some x=>cases hg
   |none=>exact .V6 (aY hlo)
  ·rename_i hlo
   obtain ⟨b',h1,h⟩:=ah.1 h
   obtain ⟨hg,h⟩:=au.1 h
   cases h
   have hb64:ak≤b:=by
    have:¬b<ak:=fun e=>hlo (by rw [iZ];simpa using e)
    omega
   cases sp with
   |some x=>cases hg
   |none=>
    rw [dY] at h1
    have h1:bl[b-ak]? = some b':=h1
    have hs:=xG hn h1
    rw [show ak+(b-ak)=b by omega] at hs
    exact .ptr (hb b' (List.mem_of_getElem? h1)) hs hb64
 ·obtain ⟨hg,h⟩:=au.1 h
  cases h
  exact ER hg
theorem LW:∀ {l l':List Value},ael bl l=some l'→RVs (kY bl) l' l
 |[],l',h=>by cases h;exact .nil
 |v::l,l',h=>by
  obtain ⟨v',h1,h⟩:=ah.1 (show (aj (CW bl v) fun v=>aj (ael bl l) fun l=>some (v::l))=some l' from h)
  obtain ⟨t,h2,h⟩:=ah.1 h
  cases h
  exact .cons (Dh hn hb h1) (LW h2)
theorem ad5 {v v':Value}(h:ad6 bl v=some v'):RV (kY bl) v' v:=by
 unfold ad6 at h
 split at h
 ·obtain ⟨l,h1,h⟩:=ah.1 h
  cases h
  exact .agg (LW hn hb h1)
 ·obtain ⟨l,h1,h⟩:=ah.1 h
  cases h
  exact .iface _ (Dh hn hb h1)
 ·exact Dh hn hb h
theorem Pz:∀ {l l':List Value},ZE bl l=some l'→RVs (kY bl) l' l
 |[],l',h=>by cases h;exact .nil
 |v::l,l',h=>by
  obtain ⟨v',h1,h⟩:=ah.1 (show (aj (ad6 bl v) fun v=>aj (ZE bl l) fun l=>some (v::l))=some l' from h)
  obtain ⟨t,h2,h⟩:=ah.1 h
  cases h
  exact .cons (ad5 hn hb h1) (Pz h2)
end
theorem AZ {s:St}{bl:List Nat}:∀ {rows:List (Nat × Row)} {fl:List Bool} {post:List (Nat × Row)},EW s bl rows fl=some post→
  (∀ p∈post,∃ (j i:Nat) (cs:List Value) (e:TypeId) (f:Nat) (sp:Bool) (cs':List Value) (f':Nat),rows[j]? = some (i,Row.row cs e f)∧fl[j]? = some sp∧ak≤i∧bl[i-ak]? = some p.1∧p.2=Row.row cs' e f'∧Gu bl sp cs=some cs'∧FC s p.1 f=some f')∧
  (∀ q∈rows,ak≤q.1∧(jh q.2=0∨jh q.2=q.1)∧∃ p∈post,bl[q.1-ak]? = some p.1)
 |[],fl,post,h=>by cases h;exact ⟨(fun p hp=>by cases hp),(fun p hp=>by cases hp)⟩
 |p::rows,fl,post,h=>by
  have h:(gG fl none fun sp fl=>match p.2 with
   |.row cs e f=>guard (Nat.ble ak p.1&&(Nat.beq f 0||Nat.beq f p.1)) (aj (nth bl (Nat.sub p.1 ak)) fun b=>aj (Gu bl sp cs) fun cs'=>aj (FC s b f) fun f'=>aj (EW s bl rows fl) fun r=>some ((b,.row cs' e f')::r))
   |_=>none)=some post:=h
  cases fl with
  |nil=>cases h
  |cons sp fl=>
   obtain ⟨i,row⟩:=p
   cases row with
   |row cs e f=>
    obtain ⟨hg,h⟩:=au.1 (show guard (Nat.ble ak i&&(Nat.beq f 0||Nat.beq f i)) (aj (nth bl (Nat.sub i ak)) fun b=>aj (Gu bl sp cs) fun cs'=>aj (FC s b f) fun f'=>aj (EW s bl rows fl) fun r=>some ((b,Row.row cs' e f')::r))=some post from h)
    obtain ⟨b,h0,h⟩:=ah.1 h
    obtain ⟨cs',h1,h⟩:=ah.1 h
    obtain ⟨f',h2,h⟩:=ah.1 h
    obtain ⟨r,h3,h⟩:=ah.1 h
    cases h
    simp only [Bool.and_eq_true,Bool.or_eq_true] at hg
    have hi:ak≤i:=Nat.le_of_ble_eq_true hg.1
    have hf:f=0∨f=i:=hg.2.imp (fun h=>Nat.eq_of_beq_eq_true h) (fun h=>Nat.eq_of_beq_eq_true h)
    rw [dY] at h0
    have h0:bl[i-ak]? = some b:=h0
    obtain ⟨ih1,ih2⟩:=AZ h3
    refine ⟨fun q hq=>?_,fun q hq=>?_⟩
    ·rcases List.mem_cons.1 hq with rfl|hq
     ·exact ⟨0,i,cs,e,f,sp,cs',f',rfl,rfl,hi,h0,rfl,h1,h2⟩
     ·obtain ⟨j,i1,cs1,e1,f1,sp1,aqu,f1',g1,g2,g3⟩:=ih1 q hq
      exact ⟨j+1,i1,cs1,e1,f1,sp1,aqu,f1',by simpa using g1,by simpa using g2,g3⟩
    ·rcases List.mem_cons.1 hq with rfl|hq
     ·exact ⟨hi,hf,_,List.mem_cons_self,h0⟩
     ·obtain ⟨g1,g2,p,hp,g3⟩:=ih2 q hq
      exact ⟨g1,g2,p,List.mem_cons_of_mem _ hp,g3⟩
   |_=>cases h
theorem Jj {ids:List Nat}:∀ {l:List Nat} {k j p:Nat},l[j]? = some p→(k+j∈ids∨p∈oO ids l k)
 |[],k,j,p,h=>by simp at h
 |a::l,k,j,p,h=>by
  have key:k+j∈ids∨(j=0∧a=p∧k ∉ ids)∨p∈oO ids l (k+1):=by
   cases j with
   |zero=>
    have h:a=p:=by simpa using h
    by_cases hm:k∈ids
    ·exact .inl hm
    ·exact .inr (.inl ⟨rfl,h,hm⟩)
   |succ j=>
    rcases Jj (ids:=ids) (k:=k+1) (show l[j]? = some p by simpa using h) with h|h
    ·exact .inl (by rw [show k+(j+1)=k+1+j by omega];exact h)
    ·exact .inr (.inr h)
  rcases key with h|⟨_,rfl,hm⟩|h
  ·exact .inl h
  ·right
   show a∈sel (qX k ids) (oO ids l (k+1)) (a::oO ids l (k+1))
   rw [aC,if_neg (fun e=>hm (Az.1 e))]
   exact List.mem_cons_self
  ·right
   show p∈sel (qX k ids) (oO ids l (k+1)) (a::oO ids l (k+1))
   rw [aC]
   split
   ·exact h
   ·exact List.mem_cons_of_mem _ h
theorem yM {ids:List Nat}:∀ {l:List Nat} {k p:Nat},p∈oO ids l k→p∈l
 |[],k,p,h=>by cases h
 |a::l,k,p,h=>by
  have h:p∈sel (qX k ids) (oO ids l (k+1)) (a::oO ids l (k+1)):=h
  rw [aC] at h
  split at h
  ·exact List.mem_cons_of_mem _ (yM h)
  ·rcases List.mem_cons.1 h with rfl|h
   ·exact List.mem_cons_self
   ·exact List.mem_cons_of_mem _ (yM h)
theorem sZ {s:St}:∀ {l:List Nat} {f:Nat} {b:List Nat},dn (gu s l) f=some b→b=[]
 |[],f,b,h=>by cases h
 |p::l,f,b,h=>by
  have h:dn (Option.rec (gu s l) (fun c:List Value × TypeId × Nat=>(c.2.2,[])::gu s l) (s.cells p)) f=some b:=h
  cases hc:s.cells p with
  |none=>rw [hc] at h;exact sZ h
  |some c=>
   rw [hc] at h
   have h:sel (Nat.beq c.2.2 f) (some []) (dn (gu s l) f)=some b:=h
   rw [aC] at h
   split at h
   ·cases h;rfl
   ·exact sZ h
theorem DL {s:St}:∀ {l:List Nat} {p:Nat} {c:List Value × TypeId × Nat},p∈l→s.cells p=some c→∃ b,dn (gu s l) c.2.2=some b
 |[],p,c,h,_=>by cases h
 |q::l,p,c,h,hc=>by
  show ∃ b,dn (Option.rec (gu s l) (fun c:List Value × TypeId × Nat=>(c.2.2,[])::gu s l) (s.cells q)) c.2.2=some b
  have ih:p∈l→∃ b,dn (gu s l) c.2.2=some b:=fun h=>DL h hc
  rcases List.mem_cons.1 h with rfl|h
  ·rw [hc]
   refine ⟨[],?_⟩
   show sel (Nat.beq c.2.2 c.2.2) (some []) _=_
   have:Nat.beq c.2.2 c.2.2=true:=by simp
   rw [this];rfl
  ·obtain ⟨b,hb⟩:=ih h
   cases hq:s.cells q with
   |none=>exact ⟨b,hb⟩
   |some d=>
    show ∃ b,sel (Nat.beq d.2.2 c.2.2) (some []) (dn (gu s l) c.2.2)=some b
    rw [aC]
    split
    ·exact ⟨_,rfl⟩
    ·exact ⟨b,hb⟩
theorem Ac:∀ {l:List Nat} {i:Nat} {r:Row},dn (jd l) i=some r→r = .other
 |[],i,r,h=>by cases h
 |p::l,i,r,h=>by
  have h:sel (Nat.beq p i) (some Row.other) (dn (jd l) i)=some r:=h
  rw [aC] at h
  split at h
  ·cases h;rfl
  ·exact Ac h
theorem Dq:∀ {l:List Nat} {i:Nat},i∈l→∃ r,dn (jd l) i=some r
 |[],i,h=>by cases h
 |p::l,i,h=>by
  show ∃ r,sel (Nat.beq p i) (some Row.other) (dn (jd l) i)=some r
  rw [aC]
  split
  ·exact ⟨_,rfl⟩
  ·rename_i hne
   rcases List.mem_cons.1 h with rfl|h
   ·exact absurd (by simp) hne
   ·exact Dq h
theorem sN {β:Type}:∀ {l r:List (Nat × β)} {i:Nat},dn (dG l r) i=match dn l i with
  |some a=>some a
  |none=>dn r i
 |[],r,i=>rfl
 |p::l,r,i=>by
  show sel (Nat.beq p.1 i) (some p.2) (dn (dG l r) i)=match sel (Nat.beq p.1 i) (some p.2) (dn l i) with
   |some a=>some a
   |none=>dn r i
  rw [sN,aC,aC]
  split <;> rfl
theorem Io {β:Type}:∀ {l:List (Nat × β)} {p:Nat × β},p∈l→∃ r,dn l p.1=some r
 |[],p,h=>by cases h
 |q::l,p,h=>by
  show ∃ r,sel (Nat.beq q.1 p.1) (some q.2) (dn l p.1)=some r
  rw [aC]
  split
  ·exact ⟨_,rfl⟩
  ·rename_i hne
   rcases List.mem_cons.1 h with rfl|h
   ·exact absurd (by simp) hne
   ·exact Io h
theorem Qq:∀ {l:List (Nat × Row)} {fl:List Bool} {j:Nat} {i:Nat} {cs:List Value} {e:TypeId} {f:Nat},rG l fl→l[j]? = some (i,.row cs e f)→fl[j]? = some false→bH ak cs=true
 |[],fl,j,i,cs,e,f,h,hl,hf=>by simp at hl
 |p::l,[],j,i,cs,e,f,h,hl,hf=>by simp at hf
 |p::l,b::fl,j,i,cs,e,f,h,hl,hf=>by
  obtain ⟨h1,h2⟩:=(show (b=false→∀ cs e f,p.2 = .row cs e f→bH ak cs=true)∧rG l fl from h)
  cases j with
  |zero=>
   have hl:p=(i,.row cs e f):=by simpa using hl
   have hf:b=false:=by simpa using hf
   exact h1 hf cs e f (by rw [hl])
  |succ j=>exact Qq h2 (by simpa using hl) (by simpa using hf)
theorem WW:∀ {l:List (Nat × Row)} {i:Nat} {r:Row},wQ (o7 l)=true→(i,r)∈l→(aiB l).get i=some r
 |[],i,r,_,h=>by cases h
 |p::l,i,r,hn,h=>by
  show ((aiB l).set p.1 p.2).get i=some r
  have hn:sel (qX p.1 (o7 l)) false (wQ (o7 l))=true:=hn
  rw [aC] at hn
  split at hn
  ·cases hn
  ·rename_i hne
   rw [Hp.fG]
   rcases List.mem_cons.1 h with rfl|h
   ·simp
   ·have hi:i∈o7 l:=by
     unfold o7
     rw [iV]
     exact List.mem_map.2 ⟨_,h,rfl⟩
    rw [if_neg (fun e=>hne (Az.2 (by rw [←e];exact hi)))]
    exact WW hn h
theorem V7:∀ {l:List (Nat × Row)} {i:Nat} {r:Row},wQ (o7 l)=true→(∀ p∈l,jh p.2=0∨jh p.2=p.1)→(i,r)∈l→jh r≠0→(akK l).get i=some [i]
 |[],i,r,_,_,h,_=>by cases h
 |p::l,i,r,hn,hs,h,hr=>by
  show (sel (Nat.beq (jh p.2) 0) (akK l) ((akK l).set (jh p.2) [p.1])).get i=_
  have hn:sel (qX p.1 (o7 l)) false (wQ (o7 l))=true:=hn
  rw [aC] at hn
  split at hn
  ·cases hn
  ·rename_i hne
   have hp:=hs p List.mem_cons_self
   rw [aC]
   rcases List.mem_cons.1 h with rfl|h
   ·have hp:jh r=0∨jh r=i:=hp
    have e:jh r=i:=hp.resolve_left hr
    rw [if_neg (fun e=>hr (Nat.eq_of_beq_eq_true e))]
    show ((akK l).set (jh r) [i]).get i=_
    rw [e,Hp.get_set_same]
   ·have hi:i∈o7 l:=by
     unfold o7
     rw [iV]
     exact List.mem_map.2 ⟨_,h,rfl⟩
    have hip:i≠p.1:=fun e=>hne (Az.2 (by rw [←e];exact hi))
    have ih:=V7 hn (fun p hp=>hs p (List.mem_cons_of_mem _ hp)) h hr
    split
    ·exact ih
    ·rename_i hf
     have hf:jh p.2≠0:=fun e=>hf (by rw [e];rfl)
     rw [Hp.get_set_other _ _ (by rw [hp.resolve_left hf];exact hip)]
     exact ih
theorem zh:∀ {l:List (Nat × Row)} {f:Nat} {b:List Nat},dn (kD l) f=some b→∃ p∈l,b=[p.1]∧jh p.2=f
 |[],f,b,h=>by cases h
 |p::l,f,b,h=>by
  have h:dn (sel (Nat.beq (jh p.2) 0) (kD l) ((jh p.2,[p.1])::kD l)) f=some b:=h
  rw [aC] at h
  split at h
  ·obtain ⟨q,hq,h1,h2⟩:=zh h
   exact ⟨q,List.mem_cons_of_mem _ hq,h1,h2⟩
  ·have h:sel (Nat.beq (jh p.2) f) (some [p.1]) (dn (kD l) f)=some b:=h
   rw [aC] at h
   split at h
   ·rename_i e
    cases h
    exact ⟨p,List.mem_cons_self,rfl,Nat.eq_of_beq_eq_true e⟩
   ·obtain ⟨q,hq,h1,h2⟩:=zh h
    exact ⟨q,List.mem_cons_of_mem _ hq,h1,h2⟩
theorem Dp:∀ {l:List (Nat × Row)} {p:Nat × Row},p∈l→jh p.2≠0→∃ b,dn (kD l) (jh p.2)=some b
 |[],p,h,_=>by cases h
 |q::l,p,h,hf=>by
  show ∃ b,dn (sel (Nat.beq (jh q.2) 0) (kD l) ((jh q.2,[q.1])::kD l)) (jh p.2)=some b
  rw [aC]
  rcases List.mem_cons.1 h with rfl|h
  ·rw [if_neg (fun e=>hf (Nat.eq_of_beq_eq_true e))]
   refine ⟨[p.1],?_⟩
   show sel (Nat.beq (jh p.2) (jh p.2)) _ _=_
   have:Nat.beq (jh p.2) (jh p.2)=true:=by simp
   rw [this];rfl
  ·obtain ⟨b,hb⟩:=Dp h hf
   split
   ·exact ⟨b,hb⟩
   ·show ∃ b,sel (Nat.beq (jh q.2) (jh p.2)) (some [q.1]) (dn (kD l) (jh p.2))=some b
    rw [aC]
    split
    ·exact ⟨_,rfl⟩
    ·exact ⟨b,hb⟩
def zL (H:Hp Row):List Nat→Hp Row:=fun l=>List.rec (.s 15 0) (fun i _ ih=>Option.rec ih (fun r=>ih.set i r) (H.get i)) l
theorem rU {H:Hp Row}:∀ {l:List Nat} {i:Nat},(zL H l).get i=if i∈l then H.get i else none
 |[],i=>by
  show (Hp.s 15 0:Hp Row).get i=_
  rw [Hp.rM];simp
 |a::l,i=>by
  show (Option.rec (zL H l) (fun r=>(zL H l).set a r) (H.get a):Hp Row).get i=_
  cases h:H.get a with
  |none=>
   show (zL H l).get i=_
   rw [rU]
   by_cases e:i=a
   ·subst e;simp [h]
   ·simp [e]
  |some r=>
   show ((zL H l).set a r).get i=_
   rw [Hp.fG,rU]
   by_cases e:i=a
   ·subst e;simp [h]
   ·simp [e]
def o8 (s:St)(ids:List Nat):St:={ heap:=zL s.heap ids,bG:=s.bG,next:=s.next }
section
variable {P:Program} {s S:St} {π:Ren} {ids:List Nat}
theorem BM:Sub (o8 s ids) s where
 next:=rfl
 row:=fun i r h=>by
  have h:(zL s.heap ids).get i=some r:=h
  rw [rU] at h
  split at h
  ·exact h
  ·cases h
 fam:=fun f l h=>⟨l,h,fun _ h=>h⟩
theorem BG {i:Nat}(h:i∈ids):(o8 s ids).heap.get i=s.heap.get i:=by
 show (zL s.heap ids).get i=_
 rw [rU,if_pos h]
theorem CX {i:Nat}(h:i∈ids):(o8 s ids).tag i=s.tag i:=by
 unfold St.tag
 rw [BG h]
 rfl
theorem qF {i:Nat}(h:i∈ids):(o8 s ids).cells i=s.cells i:=by
 unfold St.cells
 rw [BG h]
 rfl
theorem Xr {i:Nat}{a:Nat × Nat}(h:(o8 s ids).tag i=some a):i∈ids:=by
 obtain ⟨r,hr⟩:=tag_some h
 have hr:(zL s.heap ids).get i=some r:=hr
 rw [rU] at hr
 split at hr
 ·assumption
 ·cases hr
theorem XM (he:Emb P π S s)(hlow:∀ i r,S.heap.get i=some r→i<ak→i∈ids)(hhigh:∀ i q,π i=some q→q.blk∈ids):Emb P π S (o8 s ids) where
 next:=he.next
 dom:=he.dom
 hdom:=he.hdom
 aiy:=he.aiy
 cells:=fun i cs e f hc=>by
  cases he.cells i cs e f hc with
  |low hi hc' hv=>exact .low hi (by rw [qF (hlow i _ (aG.1 hc).1 hi)];exact hc') hv
  |whole hi hq hj hc' hf hv=>exact .whole hi hq hj (by rw [qF (hhigh i _ hq)];exact hc') hf hv
  |fam hi hq hj hc' hf hf' hn hn0 hk hle hv=>exact .fam hi hq hj (by rw [qF (hhigh i _ hq)];exact hc') hf hf' hn hn0 hk hle hv
  |known hi hq hj hc' hf hn hn0 hcap hle hle2 hv=>exact .known hi hq hj (by rw [qF (hhigh i _ hq)];exact hc') hf hn hn0 hcap hle hle2 hv
 maps:=fun i es c hg=>by
  obtain ⟨h1,j,es',h2,h3,h4,h5⟩:=he.maps i es c hg
  exact ⟨h1,j,es',h2,h3,by rw [BG (hhigh i _ h2)];exact h4,h5⟩
 loops:=he.loops
 tags:=fun i j a b x y hi hj hab hh hx hy=>by
  have hmem:∀ i a x,S.tag i=some a→QA π i=some x→x∈ids:=by
   intro i a x hi hx
   unfold QA at hx
   split at hx
   ·rename_i hlo
    cases hx
    obtain ⟨r,hr⟩:=tag_some hi
    exact hlow i r hr hlo
   ·obtain ⟨q,hq,rfl⟩:=Option.map_eq_some_iff.1 hx
    exact hhigh i q hq
  rw [CX (hmem i a x hi hx),CX (hmem j b y hj hy)]
  exact he.tags i j a b x y hi hj hab hh hx hy
end
section
variable [Lo] {P:Program} {base:Nat} {ρ:Ren} {s s':St} {w w':World}
def vK (n:Nat)(post:List (Nat × Row)):St:={ heap:=nP (.s 15 0) post,bG:=nP (.s 15 0) (kD post),next:=n }
structure J3 (P:Program) (s:St) (bl:List Nat) (n:Nat) (SO:St) (post:List (Nat × Row)) (dr:List Nat):Prop where
 keys:∀ b∈bl,b<s.next→(∃ r,dn post b=some r)∨b∈dr
 drop:∀ b∈dr,b∈bl
 nodup:wQ bl=true
 range:∀ b∈bl,ak≤b∧b<n
 next:s.next≤n
 row:∀ p∈post,∃ j cs e f cs' f',bl[j]? = some p.1∧SO.cells (ak+j)=some (cs,e,f)∧(f=0∨f=ak+j)∧p.2 = .row cs' e f'∧RVs (kY bl) cs' cs∧(f=0→f'=0)∧(f≠0→f'≠0∧∃ n,size P e=some n∧0<n)∧
  f'<n∧(p.1<s.next→∃ c,s.cells p.1=some c∧c.2.2=f')
theorem J3.emb {bl:List Nat}{n:Nat}{SO:St}{post:List (Nat × Row)}{dr:List Nat}(h:J3 P s bl n SO post dr)(hn:ak≤n):Emb P (kY bl) (vK n post) SO:=by
 have hrow:∀ i r,(vK n post).heap.get i=some r→(i,r)∈post:=fun i r hg=>by
  rcases lS hg with hf|⟨_,hz⟩
  ·exact fU hf
  ·rw [Hp.rM] at hz;cases hz
 have hbl:∀ i r,(vK n post).heap.get i=some r→i∈bl:=fun i r hg=>by
  obtain ⟨j,_,_,_,_,_,h1,_⟩:=h.row _ (hrow i r hg)
  exact List.mem_of_getElem? h1
 refine ⟨hn,fun i q hq hi=>?_,fun i r hg=>?_,fun i cs e f hg=>?_,fun i cs e f hc=>?_,fun i es c hg=>?_,fun i q hg=>?_,fun i j a b x y hi hj hab hh hx hy=>?_⟩
 ·obtain ⟨j,hj,_⟩:=Ip hq
  exact (h.range i (List.mem_of_getElem? hj)).2
 ·exact (h.range i (hbl i r hg)).2
 ·obtain ⟨j,cs0,e0,f0,cs',f',h1,h2,h3,h4,h5,h6,h7,h8,_⟩:=h.row _ (hrow i _ hg)
  cases h4
  exact h8
 ·obtain ⟨hg,_⟩:=aG.1 hc
  obtain ⟨j,cs0,e0,f0,cs',f',h1,h2,h3,h4,h5,h6,h7,h8,_⟩:=h.row _ (hrow i _ hg)
  cases h4
  have hq:=xG h.nodup h1
  have hi:=(h.range i (List.mem_of_getElem? h1)).1
  rcases h3 with h3|h3
  ·subst h3
   rw [h6 rfl] at *
   exact .whole hi hq (Nat.le_add_right _ _) h2 rfl h5
  ·have hf0:f0≠0:=by have:ak=64:=rfl;omega
   obtain ⟨g1,sz,g2,g3⟩:=h7 hf0
   have hlen:=h5.length
   refine .fam (j:=ak+j) (k:=0) (n:=sz) hi (by rw [hq];simp) (Nat.le_add_right _ _) h2 g1 hf0 g2 g3 (Nat.zero_le _) (by omega) ?_
   simp only [Nat.zero_mul,List.drop_zero]
   rw [List.take_of_length_le (by omega)]
   exact h5
 ·obtain ⟨j,cs0,e0,f0,cs',f',h1,h2,h3,h4,_⟩:=h.row _ (hrow i _ hg)
  cases h4
 ·obtain ⟨j,cs0,e0,f0,cs',f',h1,h2,h3,h4,_⟩:=h.row _ (hrow i _ hg)
  cases h4
 ·have key:∀ i a x,(vK n post).tag i=some a→QA (kY bl) i=some x→∃ k f,bl[k]? = some i∧x=ak+k∧SO.tag x=some (if f=0 then (0,x) else (1,f))∧(f=0∨f=x):=by
   intro i a x hi hx
   obtain ⟨r,hr⟩:=tag_some hi
   obtain ⟨k,cs0,e0,f0,cs',f',h1,h2,h3,_⟩:=h.row _ (hrow i r hr)
   have hq:=xG h.nodup h1
   have hi:=(h.range i (List.mem_of_getElem? h1)).1
   unfold QA at hx
   rw [if_neg (by omega),hq] at hx
   cases hx
   exact ⟨k,f0,h1,rfl,bP h2,h3⟩
  obtain ⟨k,f,g1,g2,g3,g4⟩:=key i a x hi hx
  obtain ⟨k',f',g1',g2',g3',g4'⟩:=key j b y hj hy
  rw [g3,g3']
  intro e
  have hxy:x=y:=by
   have e64:ak=64:=rfl
   have e:=Option.some.inj e
   by_cases hf:f=0 <;> by_cases hf':f'=0 <;> simp only [hf,hf',if_true,if_false,Prod.mk.injEq] at e <;> omega
  have:k=k':=by omega
  subst this
  rw [g1] at g1'
  cases g1'
  rw [hi] at hj
  exact hab (Option.some.inj hj)
theorem J3.over {bl:List Nat}{n:Nat}{SO:St}{post:List (Nat × Row)}{dr:List Nat}(h:J3 P s bl n SO post dr)(hr:HR P base ρ s w){ids:List Nat}(ain:∀ i∈ids,ak≤i→i∈bl∧i<s.next) :
  Over (o8 s ids) (vK n post) s (XT s n post dr):=by
 have hsmall:∀ i r,dn post i=some r→(vK n post).heap.get i=some r:=fun i r hf=>by
  show (nP (.s 15 0) post).get i=_
  rw [xP,hf]
 have hsm:∀ i r,(vK n post).heap.get i=some r→dn post i=some r:=fun i r hg=>by
  rcases lS hg with hf|⟨_,hz⟩
  ·exact hf
  ·rw [Hp.rM] at hz;cases hz
 have h64:∀ i r,dn post i=some r→i∈bl∧ak≤i∧i<n:=fun i r hf=>by
  obtain ⟨j,_,_,_,_,_,h1,_⟩:=h.row _ (fU hf)
  have hm:=List.mem_of_getElem? h1
  exact ⟨hm,h.range i hm⟩
 have aiA:∀ i cs e f,dn post i=some (.row cs e f)→f≠0→(vK n post).bG.get f=(XT s n post dr).bG.get f:=fun i cs e f hf h0=>by
  obtain ⟨b,hb⟩:=Dp (fU hf) (show jh (.row cs e f)≠0 from h0)
  show (nP (.s 15 0) (kD post)).get f=(nP s.bG (dG (kD post) (gu s dr))).get f
  have hb:dn (kD post) f=some b:=hb
  rw [xP,xP,sN,hb]
 have hnone:∀ i,dn (dG post (jd dr)) i=none→dn post i=none∧i ∉ dr:=fun i hf=>by
  rw [sN] at hf
  cases hp:dn post i with
  |some r=>rw [hp] at hf;cases hf
  |none=>
   rw [hp] at hf
   refine ⟨rfl,fun hm=>?_⟩
   obtain ⟨r,hr⟩:=Dq hm
   have hf:dn (jd dr) i=none:=hf
   rw [hf] at hr;cases hr
 have hold:∀ i,dn (dG post (jd dr)) i=none→i<s.next→i ∉ bl:=fun i hf hi hm=>by
  obtain ⟨h1,h2⟩:=hnone i hf
  rcases h.keys i hm hi with ⟨r,hr⟩|hr
  ·rw [h1] at hr;cases hr
  ·exact h2 hr
 have hkeep:∀ j a,ak≤j→(o8 s ids).tag j=some a→j∈bl∧j<s.next∧s.tag j=some a:=fun j a hj ht=>by
  have hm:=Xr ht
  rw [CX hm] at ht
  exact ⟨(ain j hm hj).1,(ain j hm hj).2,ht⟩
 have hn0:∀ i,dn (dG post (jd dr)) i=none→∀ j,ak≤j→(o8 s ids).tag j≠some (0,i):=fun i hf j hj ht=>by
  obtain ⟨h1,hlt,h2⟩:=hkeep j _ hj ht
  have:=adF h2
  subst this
  exact hold j hf hlt h1
 have hn1:∀ f,f≠0→dn (dG (kD post) (gu s dr)) f=none→∀ j,ak≤j→(o8 s ids).tag j≠some (1,f):=fun f hf0 hf j hj ht=>by
  obtain ⟨h1,hlt,h2⟩:=hkeep j _ hj ht
  have hff:dn (kD post) f=none∧dn (gu s dr) f=none:=by
   rw [sN] at hf
   cases hp:dn (kD post) f with
   |some r=>rw [hp] at hf;cases hf
   |none=>rw [hp] at hf;exact ⟨rfl,hf⟩
  rcases vP h2 with ⟨cs2,e2,f2,hc,ha⟩|⟨es,c,hm⟩|⟨q,hq⟩
  ·have hf2:f2=f:=by
    by_cases hz:f2=0
    ·rw [if_pos hz] at ha;cases ha
    ·rw [if_neg hz] at ha;cases ha;rfl
   subst hf2
   rcases h.keys j h1 hlt with ⟨r,hr⟩|hdr
   ·obtain ⟨_,_,_,_,cs',f',_,_,_,h4,_,_,_,_,h9⟩:=h.row _ (fU hr)
    obtain ⟨⟨cs3,e3,f3⟩,hc3,hf3⟩:=h9 hlt
    have hc3:s.cells j=some (cs3,e3,f3):=hc3
    rw [hc] at hc3
    cases hc3
    have hf3:f2=f':=hf3
    have h4:r = .row cs' _ f':=h4
    obtain ⟨b,hb⟩:=Dp (fU hr) (show jh r≠0 by rw [h4];show f'≠0;omega)
    have hb:dn (kD post) (jh r)=some b:=hb
    rw [show jh r=f' by rw [h4];rfl,←hf3,hff.1] at hb
    cases hb
   ·obtain ⟨b,hb⟩:=DL hdr hc
    have hb:dn (gu s dr) f2=some b:=hb
    rw [hff.2] at hb
    cases hb
  ·rw [l9 hm] at h2;cases h2
  ·rw [je hq] at h2;cases h2
 have hheap:∀ i r,(XT s n post dr).heap.get i=some r→dn post i=some r∨(r = .other∧i∈bl)∨(dn (dG post (jd dr)) i=none∧s.heap.get i=some r):=fun i r hg=>by
  rcases lS (show (nP s.heap (dG post (jd dr))).get i=some r from hg) with hf|hf
  ·rw [sN] at hf
   cases hp:dn post i with
   |some x=>rw [hp] at hf;exact .inl hf
   |none=>
    rw [hp] at hf
    have hf:dn (jd dr) i=some r:=hf
    have e:=Ac hf
    subst e
    have hm:=fU hf
    unfold jd at hm
    rw [iV] at hm
    obtain ⟨x,hx,e⟩:=List.mem_map.1 hm
    cases e
    exact .inr (.inl ⟨rfl,h.drop _ hx⟩)
  ·exact .inr (.inr hf)
 have alA:∀ i f l,dn (dG post (jd dr)) i=none→f≠0→(XT s n post dr).bG.get f=some l→i∈l→dn (dG (kD post) (gu s dr)) f=none∧s.bG.get f=some l:=fun i f l hi hf hl hm=>by
  rcases lS (show (nP s.bG (dG (kD post) (gu s dr))).get f=some l from hl) with hk|⟨hk,hz⟩
  ·rw [sN] at hk
   cases hp:dn (kD post) f with
   |some x=>
    rw [hp] at hk
    have hk:x=l:=Option.some.inj hk
    subst hk
    obtain ⟨p,hpm,rfl,_⟩:=zh hp
    have:i=p.1:=by simpa using hm
    subst this
    obtain ⟨r,hr⟩:=Io hpm
    rw [(hnone _ hi).1] at hr
    cases hr
   |none=>
    rw [hp] at hk
    have hk:dn (gu s dr) f=some l:=hk
    rw [sZ hk] at hm
    cases hm
  ·exact ⟨hk,hz⟩
 refine ⟨rfl,fun i r hg=>?_,fun i cs e f hg=>?_,fun i a ht=>?_,fun i c hc=>?_,fun i es c hg=>?_,fun i q hg=>?_⟩
 ·show i<n
  rcases hheap i r hg with hf|⟨_,hm⟩|⟨_,hg⟩
  ·exact (h64 i r hf).2.2
  ·exact (h.range i hm).2
  ·exact Nat.lt_of_lt_of_le (hr.bV i r hg) h.next
 ·show f<n
  rcases hheap i _ hg with hf|⟨hz,_⟩|⟨_,hg⟩
  ·obtain ⟨_,_,_,_,cs',f',_,_,_,h4,_,_,_,h8,_⟩:=h.row _ (fU hf)
   cases h4
   exact h8
  ·cases hz
  ·exact Nat.lt_of_lt_of_le (hr.dM i cs e f hg) h.next
 ·obtain ⟨r,hg⟩:=tag_some ht
  rcases hheap i r hg with hf|⟨rfl,_⟩|⟨hf,hg'⟩
  ·refine .inl ⟨(h64 i r hf).2.1,?_⟩
   obtain ⟨_,_,_,_,cs',f',_,_,_,h4,_⟩:=h.row _ (fU hf)
   have h4:r = .row cs' _ f':=h4
   subst h4
   unfold St.tag at ht ⊢
   rw [hg] at ht
   rw [hsmall i _ hf]
   simp only at ht ⊢
   by_cases h0:f'=0
   ·simpa [h0] using ht
   ·simp only [h0,if_false] at ht ⊢
    rw [aiA i _ _ _ hf h0]
    exact ht
  ·unfold St.tag at ht
   rw [hg] at ht
   cases ht
  ·right
   unfold St.tag at ht
   rw [hg] at ht
   cases r with
   |row cs e f=>
    simp only at ht
    by_cases h0:f=0
    ·simp only [h0,if_true] at ht
     cases ht
     exact ⟨by unfold St.tag;rw [hg'];simp [h0],hn0 i hf⟩
    ·simp only [h0,if_false] at ht
     split at ht
     ·rename_i l hl
      split at ht
      ·rename_i hm
       cases ht
       obtain ⟨g1,g2⟩:=alA i f l hf h0 hl hm
       exact ⟨by unfold St.tag;rw [hg'];simp [h0,g2,hm],hn1 f h0 g1⟩
      ·cases ht
     ·cases ht
   |map es c=>cases ht;exact ⟨l9 hg',hn0 i hf⟩
   |loop q=>cases ht;exact ⟨je hg',hn0 i hf⟩
   |other=>cases ht
 ·obtain ⟨cs,e,f⟩:=c
  obtain ⟨hg,hm⟩:=aG.1 hc
  rcases hheap i _ hg with hf|⟨hz,_⟩|⟨hf,hg'⟩
  ·left
   refine aG.2 ⟨hsmall i _ hf,?_⟩
   rcases hm with hm|⟨l,hl,hm⟩
   ·exact .inl hm
   ·by_cases h0:f=0
    ·exact .inl h0
    ·exact .inr ⟨l,by rw [aiA i _ _ _ hf h0];exact hl,hm⟩
  ·cases hz
  ·right
   by_cases h0:f=0
   ·have hc':s.cells i=some (cs,e,f):=aG.2 ⟨hg',.inl h0⟩
    refine ⟨hc',fun j hj=>?_⟩
    rw [bP hc',if_pos h0]
    exact hn0 i hf j hj
   ·rcases hm with hm|⟨l,hl,hm⟩
    ·exact absurd hm h0
    ·obtain ⟨g1,g2⟩:=alA i f l hf h0 hl hm
     have hc':s.cells i=some (cs,e,f):=aG.2 ⟨hg',.inr ⟨l,g2,hm⟩⟩
     refine ⟨hc',fun j hj=>?_⟩
     rw [bP hc',if_neg h0]
     exact hn1 f h0 g1 j hj
 ·rcases hheap i _ hg with hf|⟨hz,_⟩|⟨hf,hg'⟩
  ·obtain ⟨_,_,_,_,cs',f',_,_,_,h4,_⟩:=h.row _ (fU hf)
   cases h4
  ·cases hz
  ·exact .inr ⟨hg',hn0 i hf⟩
 ·rcases hheap i _ hg with hf|⟨hz,_⟩|⟨hf,hg'⟩
  ·obtain ⟨_,_,_,_,cs',f',_,_,_,h4,_⟩:=h.row _ (fU hf)
   cases h4
  ·cases hz
  ·exact .inr ⟨hg',hn0 i hf⟩
theorem akM (hr:HR P base ρ s w){π:Ren}{SC:St}{ids bl:List Nat}{n:Nat}{SO:St}{post:List (Nat × Row)}{dr:List Nat}{ρ2:Ren}(he0:Emb P π SC (o8 s ids))(ain:∀ i∈ids,ak≤i→i∈bl∧i<s.next)
  (hg:Goes P base (under ρ π) SC w ρ2 SO w') (hp:J3 P s bl n SO post dr) (hpi:∀ (k b:Nat),bl[k]? = some b→b<s.next→ak+k<SC.next∧π (ak+k)=some ⟨b,0,aA⟩) :
  ∃ ρ',Goes P base ρ s w ρ' (XT s n post dr) w'∧∀ {v v' c:Value},RV (kY bl) v' v→VR ρ2 v c→VR ρ' v' c:=by
 have hr0:HR P base ρ (o8 s ids) w:=hr.less BM
 have aqU:ak≤n:=Nat.le_trans hr.next hp.next
 have aae:=hp.emb aqU
 have hr2:=hg.hr.ren aae
 have e64:ak=64:=rfl
 have ajg:∀ i,i<s.next→∀ l,under ρ2 (kY bl) i=some l→ρ i=some l:=by
  intro i hi l hl
  obtain ⟨h1,q,l0,h2,h3,h4,rfl⟩:=EP hl
  obtain ⟨k,hk,rfl⟩:=Ip h2
  obtain ⟨h5,h6⟩:=hpi k i hk hi
  have h4:ρ2 (ak+k)=some l0:=h4
  rw [hg.old _ h5] at h4
  obtain ⟨_,q1,l1,g2,g3,g4,rfl⟩:=EP h4
  rw [h6] at g2
  cases g2
  have g4:ρ i=some l1:=g4
  rw [g4]
  obtain ⟨b1,o1,c1⟩:=l1
  simp [ku]
 let ρ':Ren:=fun i=>if i<s.next then ρ i else under ρ2 (kY bl) i
 have hlo:∀ i,i<s.next→ρ' i=ρ i:=fun i hi=>if_pos hi
 have hhi:∀ i,¬i<s.next→ρ' i=under ρ2 (kY bl) i:=fun i hi=>if_neg hi
 have hle2:(under ρ2 (kY bl)).le ρ':=fun i l hl=>by
  by_cases hi:i<s.next
  ·rw [hlo i hi];exact ajg i hi l hl
  ·rw [hhi i hi];exact hl
 have hle:ρ.le ρ':=fun i l hl=>by rw [hlo i (hr.dom i l hl).2.1];exact hl
 have abZ:∀ i a l,(vK n post).tag i=some a→ρ'.at i=some l→(under ρ2 (kY bl)).at i=some l:=by
  intro i a l ht hl
  rcases vP ht with ⟨cs,e,f,hc,_⟩|⟨es,c,hm⟩|⟨q,hq⟩
  ·obtain ⟨l0,h0⟩:=hr2.rows i cs e f hc
   have:=Ren.TK hle2 h0.at_
   rw [hl] at this
   cases this
   exact h0.at_
  ·obtain ⟨_,_,_,h2,_⟩:=aae.maps i es c hm
   obtain ⟨l0,h0,_⟩:=hr2.maps i es c hm
   have h1:=(aae.maps i es c hm).1
   rw [Ren.bJ h1] at hl ⊢
   rw [hle2 i l0 h0] at hl
   cases hl
   exact h0
  ·exact absurd hq (aae.loops i q)
 have hrS:HR P base ρ' (vK n post) w':=by
  refine ⟨fun i l hi=>?_,hr2.next,hr2.dS,hr2.low,hr2.bV,hr2.dM,fun i cs e f hc=>?_,fun i es c hi=>?_,fun i q hi=>absurd hi (aae.loops i q),fun i j a b l l' hi hj hab hl hl' hh=>?_⟩
  ·by_cases hlt:i<s.next
   ·rw [hlo i hlt] at hi
    obtain ⟨d1,d2,d3,d4⟩:=hr.dom i l hi
    exact ⟨d1,Nat.lt_of_lt_of_le d2 hp.next,d3,Nat.lt_of_lt_of_le d4 hg.grow⟩
   ·rw [hhi i hlt] at hi
    exact hr2.dom i l hi
  ·obtain ⟨l,hl⟩:=hr2.rows i cs e f hc
   exact ⟨l,hl.move hle2 rfl⟩
  ·obtain ⟨l,hl,es',h3,h4⟩:=hr2.maps i es c hi
   exact ⟨l,hle2 _ _ hl,es',h3,h4.mono hle2⟩
  ·exact hr2.sep i j a b l l' hi hj hab (abZ i a l hi hl) (abZ j b l' hj hl') hh
 have hgo:Goes P base ρ (o8 s ids) w ρ' (vK n post) w':=by
  refine ⟨hle,hrS,hg.os,hg.tape,hg.output,hg.grow,hp.next,fun b hb hn=>?_,fun b ho=>?_,fun i hi=>hlo i hi⟩
  ·exact hg.frame b hb fun ho=>hn (he0.owned hr0 ho)
  ·obtain ⟨i,l,a,h1,h2,h3,h4⟩:=ho
   have h5:=abZ i a l h2 (by rw [Ren.bJ h1];exact h3)
   rw [Ren.bJ h1] at h5
   have ho2:=aae.owned hg.hr ⟨i,l,a,h1,h2,h5,h4⟩
   rcases hg.own b ho2 with h6|h6
   ·exact .inl (he0.owned hr0 h6)
   ·exact .inr h6
 exact ⟨ρ',Goes.over hr BM hgo (hp.over hr ain),fun hv hc=>(hv.comp hc).mono hle2⟩
theorem Ll {C:Cfg}(hK:dH C P){n:Nat}{f:FuncId}{ms:xZ}{G:bC→Tree (Nat × bC)}(hrun:kZ P C n f ms G){args:List Value}{v:Value}(hv:(aiu P ms G s args).run=some (v,s'))
  {aO:List Value} (hr:HR P base ρ s w) (ha:VRs ρ args aO):Calls P f ⟨aO⟩ w fun e w'=>∃ c ρ',e = .returned c∧Goes P base ρ s w ρ' s' w'∧VR ρ' v c:=by
 have e64:ak=64:=rfl
 obtain ⟨aN,XU,hv⟩:=dK hv
 obtain ⟨hwh,hv⟩:=bD hv
 obtain ⟨o,ho,hv⟩:=Tree.ES hv
 obtain ⟨⟨ei,O⟩,hG,hv⟩:=Tree.ES hv
 obtain ⟨spe,alY,hv⟩:=dK hv
 obtain ⟨⟨v0,s0⟩,hback,hv⟩:=dK hv
 cases hv
 obtain ⟨anK,hraw,hrun⟩:=hrun o (ei,O) hG
 have alY:nth ms.ends ei=some spe:=alY
 have hraw:=hraw spe alY
 obtain ⟨hgd,hback⟩:=au.1 hback
 simp only [Bool.and_eq_true] at hgd
 obtain ⟨g1,g2,g3,g4,g5,g6,g7⟩:=hgd
 have g4:ms.pre.N=ak:=Nat.eq_of_beq_eq_true g4
 have g5:spe.N=ms.pre.next:=Nat.eq_of_beq_eq_true g5
 have g3:=G5 g3
 have g6:=JZ g6
 obtain ⟨post,hpost,hback⟩:=ah.1 hback
 obtain ⟨vs,hvs,hback⟩:=ah.1 hback
 cases hback
 have hpost:=AZ hpost
 obtain ⟨zH,Zm,hov,aae,_,hnx⟩:=JM ho anK
 rw [g4] at Zm
 rw [XU] at Zm
 cases Zm
 rw [g4] at hov aae hnx
 generalize hbl:aik s aN spe=bl at *
 have aol:bl=aN.map (fun q=>q.blk)++Rj s.next (aV spe.new):=by
  rw [←hbl]
  unfold aik
  rw [xM,iV]
 have g2:∀ a∈bl,ak≤a∧a<s.next+aV spe.new:=G5 g2
 have aha:qB (fun q:Loc=>q.blk) aN=aN.map (fun q=>q.blk):=iV ..
 rw [aha] at g3
 have hold:∀ (k b:Nat),bl[k]? = some b→b<s.next→∃ q:Loc,aN[k]? = some q∧q=(⟨b,0,aA⟩:Loc):=by
  intro k b hk hb
  rw [aol] at hk
  by_cases hlt:k<aN.length
  ·rw [List.getElem?_append_left (by simpa using hlt),List.getElem?_map] at hk
   obtain ⟨q,hq,rfl⟩:=Option.map_eq_some_iff.1 hk
   exact ⟨q,hq,zX hwh q (List.mem_of_getElem? hq)⟩
  ·rw [List.getElem?_append_right (by simpa using hlt)] at hk
   have:=Kr _ _ _ _ hk
   omega
 let ids:List Nat:=aN.map (fun q=>q.blk)++ms.pre.low++(Xq (uT ms.pre.next o).heap).filter (fun i=>decide (i<ak))
 have anY:∀ q∈aN,q.blk∈ids:=fun q hq=>List.mem_append_left _ (List.mem_append_left _ (List.mem_map.2 ⟨q,hq,rfl⟩))
 have he0:Emb P (gI ak aN) (uT ms.pre.next o) (o8 s ids):=by
  refine XM aae (fun i r hg hlo=>?_) (fun i q hq=>?_)
  ·exact List.mem_append_right _ (List.mem_filter.2 ⟨vk hg,by simpa using hlo⟩)
  ·unfold gI at hq
   rw [aC,aC] at hq
   split at hq
   ·cases hq
   ·rw [dY] at hq
    exact anY q (List.mem_of_getElem? hq)
 have ain:∀ i∈ids,ak≤i→i∈bl∧i<s.next:=by
  intro i hi h64
  rcases List.mem_append.1 hi with hi|hi
  ·rcases List.mem_append.1 hi with hi|hi
   ·exact ⟨by rw [aol];exact List.mem_append_left _ hi,(g3 i hi).2⟩
   ·have:=g6 i hi;omega
  ·have:=(List.mem_filter.1 hi).2
   simp at this
   omega
 obtain ⟨q1,hrn,hend⟩:=ah.1 hrun
 obtain ⟨v1,s1⟩:=q1
 obtain ⟨apQ,_,ac0,hend⟩:=Eo (show (eF P ms.ends 0 (v1,s1)).run=some (ei,O) from hend)
 have ac0:nth ms.ends ei=some apQ:=ac0
 rw [alY] at ac0
 cases ac0
 obtain ⟨hone,hend⟩:=bD (show (sel (Xd v1) (aax P spe (H9 v1) s1) .fail).run=some O from hend)
 obtain ⟨an0,_,aq9,ak9,_,hnx1⟩:=JM hend hraw
 have hr0:HR P base ρ (o8 s ids) w:=hr.less BM
 refine ((nI hK n).1 f o.vals _ v1 s1 hrn base _ w aO (hr0.ren he0) (hov.comp ha)).mono ?_
 rintro e w' ⟨c,ρ1,rfl,hg,hvc⟩
 have hsn:(uT ms.pre.next o).next=ms.pre.next:=rfl
 have hg2:=Goes.Px (hr0.ren he0) hg ak9 (by rw [hsn,←g5];exact lU) (by show ms.pre.next≤spe.next;rw [hnx1,g5];omega)
 have hvO:VR (under ρ1 (gI spe.N an0)) (tuple O.vals) c:=by
  have:=RVs.tuple' aq9
  rw [zQ hone] at this
  exact this.comp hvc
 generalize hdr:oO (o7 O.rows) (qB (fun q:Loc=>q.blk) aN) ak=dr at *
 have hP:J3 P s bl (s.next+aV spe.new) (uT spe.next O) post dr:=by
  refine ⟨fun b hb hlt=>?_,fun b hb=>?_,g1,g2,Nat.le_add_right _ _,fun p hp=>?_⟩
  ·obtain ⟨k,hk⟩:=List.getElem?_of_mem hb
   obtain ⟨q,hq,rfl⟩:=hold k b hk hlt
   rcases Jj (ids:=o7 O.rows) (k:=ak) (show (qB (fun q:Loc=>q.blk) aN)[k]? = some b by rw [aha,List.getElem?_map,hq];rfl) with hm|hm
   ·left
    unfold o7 at hm
    rw [iV] at hm
    obtain ⟨q,hq2,e⟩:=List.mem_map.1 hm
    obtain ⟨_,_,p,hp,h1⟩:=hpost.2 q hq2
    have e:q.1=ak+k:=e
    rw [e,show ak+k-ak=k by omega,hk] at h1
    cases h1
    exact Io hp
   ·right
    rw [hdr] at hm
    exact hm
  ·rw [←hdr] at hb
   have:=yM hb
   rw [aha] at this
   rw [aol]
   exact List.mem_append_left _ this
  ·obtain ⟨jr,i,cs,e,f,sp,cs',f',h2,h3,hi,h1,h4,h6,h7⟩:=hpost.1 p hp
   have hmr:(i,Row.row cs e f)∈O.rows:=List.mem_of_getElem? h2
   obtain ⟨_,h5,_⟩:=hpost.2 _ hmr
   have h5:f=0∨f=i:=h5
   obtain ⟨j,rfl⟩:∃ j,i=ak+j:=⟨i-ak,by omega⟩
   rw [show ak+j-ak=j by omega] at h1
   have hcell:(uT spe.next O).cells (ak+j)=some (cs,e,f):=by
    refine aG.2 ⟨WW g7 hmr,?_⟩
    rcases h5 with h5|h5
    ·exact .inl h5
    ·right
     subst h5
     exact ⟨_,V7 g7 (fun p hp=>(hpost.2 p hp).2.1) hmr (by show ak+j≠0;omega),by simp⟩
   have hrv:RVs (kY bl) cs' cs:=by
    unfold Gu at h6
    cases sp with
    |true=>exact LW g1 (fun a ha=>(g2 a ha).1) h6
    |false=>
     have h6:some cs=some cs':=h6
     cases h6
     exact uF (Qq hraw h2 h3)
   have hbf:(f=0→f'=0)∧(f≠0→f'≠0)∧f'<s.next+aV spe.new∧(p.1<s.next→∃ c,s.cells p.1=some c∧c.2.2=f'):=by
    unfold FC at h7
    rw [aC] at h7
    split at h7
    ·rename_i hlt
     have hlt:=aY hlt
     obtain ⟨⟨cs2,e2,f2⟩,hc2,h7⟩:=ah.1 h7
     have h7:sel (Nat.beq f 0) (guard (Nat.beq f2 0) (some 0)) (guard (!Nat.beq f2 0) (some f2))=some f':=h7
     rw [aC] at h7
     split at h7
     ·rename_i hf
      have hf:f=0:=Nat.eq_of_beq_eq_true hf
      obtain ⟨k1,k2⟩:=au.1 h7
      cases k2
      have k1:f2=0:=Nat.eq_of_beq_eq_true k1
      exact ⟨fun _=>rfl,fun h=>absurd hf h,by omega,fun _=>⟨_,hc2,k1⟩⟩
     ·rename_i hf
      obtain ⟨k1,k2⟩:=au.1 h7
      cases k2
      have k1:f'≠0:=fun e=>by rw [e] at k1;cases k1
      have:=hr.dM _ _ _ _ (aG.1 hc2).1
      exact ⟨fun h=>absurd (by rw [h];rfl) hf,fun _=>k1,by omega,fun _=>⟨_,hc2,rfl⟩⟩
    ·rename_i hlt
     have hlt:¬p.1<s.next:=fun e=>hlt (by rw [iZ];simpa using e)
     have h7:=Option.some.inj h7
     have hrg:=g2 p.1 (List.mem_of_getElem? h1)
     rw [aC] at h7
     split at h7
     ·rename_i hf
      exact ⟨fun _=>h7.symm,fun h=>absurd (Nat.eq_of_beq_eq_true hf) h,by omega,fun h=>absurd h hlt⟩
     ·rename_i hf
      exact ⟨fun h=>absurd (by rw [h];rfl) hf,fun _=>by omega,by omega,fun h=>absurd h hlt⟩
   refine ⟨j,cs,e,f,cs',f',h1,hcell,h5,h4,hrv,hbf.1,fun hf=>⟨hbf.2.1 hf,?_⟩,hbf.2.2.1,hbf.2.2.2⟩
   cases ak9.cells _ _ _ _ hcell with
   |low hi _ _=>omega
   |whole _ _ _ _ hf0 _=>exact absurd hf0 hf
   |fam _ _ _ _ _ _ hn hn0 _ _ _=>exact ⟨_,hn,hn0⟩
   |known _ _ _ _ _ hn hn0 _ _ _ _=>exact ⟨_,hn,hn0⟩
 obtain ⟨ρ',hgo,hval⟩:=akM hr he0 ain hg2 hP (fun k b hk hb=>by
  obtain ⟨q,hq,rfl⟩:=hold k b hk hb
  have hlt:=(List.getElem?_eq_some_iff.1 hq).1
  refine ⟨by show ak+k<ms.pre.next;omega,?_⟩
  exact pJ (Nat.le_refl _) (by rw [dY];exact hq))
 exact ⟨c,ρ',rfl,hgo,hval (Pz g1 (fun a ha=>(g2 a ha).1) hvs).tuple' hvO⟩
def oI (P:Program)(L:List (xZ × (bC→Tree (Nat × bC))))(s:St)(args:List Value):Tree (Value × St):=List.rec .fail (fun p _ ih=>(aiu P p.1 p.2 s args).alt ih) L
theorem I9 {f:FuncId}:∀ {L:List (xZ × (bC→Tree (Nat × bC)))},(∀ p∈L,∃ C n,dH C P∧kZ P C n f p.1 p.2)→∀ {args:List Value} {v:Value},(oI P L s args).run=some (v,s')→∀ {aO:List Value},HR P base ρ s w→VRs ρ args aO→
  Calls P f ⟨aO⟩ w fun e w'=>∃ c ρ',e = .returned c∧Goes P base ρ s w ρ' s' w'∧VR ρ' v c
 |[],_,args,v,h,_,_,_=>by cases h
 |p::L,hL,args,v,h,aO,hr,ha=>by
  rcases Tree.VQ (show (((aiu P p.1 p.2 s args).alt (oI P L s args)).run=some (v,s')) from h) with h|h
  ·obtain ⟨C,n,hK,hrun⟩:=hL p List.mem_cons_self
   exact Ll hK hrun h hr ha
  ·exact I9 (fun q hq=>hL q (List.mem_cons_of_mem _ hq)) h hr ha
theorem fJ.oI {C:Cfg}{f0:FuncId}{L0:List (xZ × (bC→Tree (Nat × bC)))}(hrun:∀ p∈L0,∃ C n,dH C P∧kZ P C n f0 p.1 p.2){L:List (Nat × Con)}(hL:fJ P C L):fJ P C ((f0,.tree (Ax.oI P L0))::L):=by
 intro f t h args s v s' hv base ρ w aO hr ha
 have h':sel (Nat.beq f0 f) (some (Con.tree (Ax.oI P L0))) (dn L f)=some t:=h
 rw [aC] at h'
 split at h'
 ·rename_i hb
  cases h'
  have hf:f0=f:=Nat.eq_of_beq_eq_true hb
  subst hf
  exact I9 hrun hv hr ha
 ·exact hL f t h' args s v s' hv base ρ w aO hr ha
theorem fJ.aiu {C C0:Cfg}(hK:dH C0 P){n:Nat}{f0:FuncId}{ms:xZ}{G:bC→Tree (Nat × bC)}(hrun:kZ P C0 n f0 ms G){L:List (Nat × Con)}(hL:fJ P C L):fJ P C ((f0,.tree (Ax.aiu P ms G))::L):=by
 intro f t h args s v s' hv base ρ w aO hr ha
 have h':sel (Nat.beq f0 f) (some (Con.tree (Ax.aiu P ms G))) (dn L f)=some t:=h
 rw [aC] at h'
 split at h'
 ·rename_i hb
  cases h'
  have hf:f0=f:=Nat.eq_of_beq_eq_true hb
  subst hf
  exact Ll hK hrun hv hr ha
 ·exact hL f t h' args s v s' hv base ρ w aO hr ha
end
end
end Go.Ax
namespace Go.Ax
open Go
variable [Lo]
variable {P:Program}
def lK (P:Program)(f:FuncId):Bool:=
 match P.funcs[f]? with
 |some fn=>!(fn.name == "runtime.NumGoroutine")&&fn.body.isNone&&(Extern.findNext fn).isNone
 |none=>false
theorem kW {f:FuncId}(h:lK P f=true){e:Array Value→Sem Value}(he:(P.funcs[f]?).bind Extern.find=some e)(args:Array Value)(w:World) :
  (callFunc f args).run P w=((e args).run P w).andThen fun v w'=>.ok (.value v) w':=by
 unfold lK at h
 cases hf:P.funcs[f]? with
 |none=>rw [hf] at h;cases h
 |some fn=>
  rw [hf] at h he
  simp only [Bool.and_eq_true,Bool.not_eq_true'] at h
  have hn:Extern.findNext fn=none:=by
   cases hx:Extern.findNext fn with
   |none=>rfl
   |some y=>rw [hx] at h;exact absurd h.2 (by intro q;cases q)
  exact run_callFunc_extern hf h.1.1 h.1.2 hn he args w
theorem Qw (k1 k2 k3:IntKind)(x y c:Nat)(hc:c≤1)(n:String)(w:World) :
  (Extern.MathBitsCarry.three n #[.int k1 (Int.ofNat x),.int k2 (Int.ofNat y),.int k3 (Int.ofNat c)]).run P w = .ok (x,y,c) w:=by
 have:c=0∨c=1:=by omega
 rcases this with rfl|rfl <;> rfl
theorem Uw {C:Cfg}{f:FuncId}(h:lK P f=true)(he:(P.funcs[f]?).bind Extern.find=some add64Entry):dh C P f .ahO:=by
 intro base ρ s s' w args aO v hr ha hv
 obtain ⟨k1,k2,k3,x,y,c,rfl,hv⟩:=Wi ha (show ais args (fun x y c=>WH x y c s)=some (v,s') from hv)
 obtain ⟨hc,hv⟩:=au.1 hv
 have hc:c≤1:=Nat.le_of_ble_eq_true hc
 cases hv
 refine ⟨_,ρ,w,?_,Goes.refl hr,.tuple (.cons (.int _ _) (.cons (.int _ _) .nil))⟩
 rw [kW h he]
 unfold add64Entry
 simp only [Sem.run_bind,Qw k1 k2 k3 x y c hc,Result.andThen_ok,Sem.run_pure]
 rfl
theorem Ue {C:Cfg}{f:FuncId}(h:lK P f=true)(he:(P.funcs[f]?).bind Extern.find=some Go.Proofs.sub64Entry):dh C P f .agk:=by
 intro base ρ s s' w args aO v hr ha hv
 obtain ⟨k1,k2,k3,x,y,c,rfl,hv⟩:=Wi ha (show ais args (fun x y c=>V8 x y c s)=some (v,s') from hv)
 obtain ⟨hc,hv⟩:=au.1 hv
 have hc:c≤1:=Nat.le_of_ble_eq_true hc
 cases hv
 refine ⟨_,ρ,w,?_,Goes.refl hr,.tuple (.cons (.int _ _) (.cons (.int _ _) .nil))⟩
 rw [kW h he]
 unfold Go.Proofs.sub64Entry
 simp only [Sem.run_bind,Qw k1 k2 k3 x y c hc,Result.andThen_ok,Sem.run_pure]
 unfold Extern.MathBitsCarry.pair
 by_cases hx:x<y+c
 ·have e:ltN x (Nat.add y c)=true:=Nat.ble_eq_true_of_le hx
  rw [if_pos hx,e];rfl
 ·have e:ltN x (Nat.add y c)=false:=by
   cases h:ltN x (Nat.add y c) with
   |false=>rfl
   |true=>exact absurd (Nat.le_of_ble_eq_true h) hx
  rw [if_neg hx,e];rfl
theorem yI {C:Cfg}{f:FuncId}(h:lK P f=true)(he:(P.funcs[f]?).bind Extern.find=some Extern.AbiNoEscape.same):dh C P f .Fe:=by
 intro base ρ s s' w args aO v hr ha hv
 unfold FH at hv
 cases ha with
 |nil=>cases hv
 |cons hx hn=>
  cases hn with
  |nil=>
   cases hv
   refine ⟨_,ρ,w,?_,Goes.refl hr,hx⟩
   rw [kW h he]
   rfl
  |cons hy hn=>cases hv
end Go.Ax
namespace Go.Ax
variable [Lo]
open Go Go.Extern
variable {P:Program} {C:Cfg}
noncomputable def hdl (P:Program)(t:TypeId):Value:=.pointer (some ⟨P.globals.size,t,none⟩)
theorem lG {β:Type}{l:List (Nat × β)}{n:Nat}{b:β}(h:dn l n=some b):(n,b)∈l:=by
 induction l with
 |nil=>cases h
 |cons p l ih=>
  have h:sel (Nat.beq p.1 n) (some p.2) (dn l n)=some b:=h
  cases hb:Nat.beq p.1 n with
  |true=>
   rw [hb] at h
   have e:p.1=n:=Nat.eq_of_beq_eq_true hb
   cases h
   subst e
   exact List.mem_cons_self
  |false=>rw [hb] at h;exact List.mem_cons_of_mem _ (ih h)
theorem YO {l:List (Nat × Nat × Bool)}{t u:Nat}{b:Bool}(h:aaf l t u=some b):(t,u,b)∈l:=by
 induction l with
 |nil=>cases h
 |cons p l ih=>
  have h:sel (Nat.beq p.1 t&&Nat.beq p.2.1 u) (some p.2.2) (aaf l t u)=some b:=h
  cases hb:(Nat.beq p.1 t&&Nat.beq p.2.1 u) with
  |true=>
   rw [hb] at h
   simp only [Bool.and_eq_true] at hb
   have e1:p.1=t:=Nat.eq_of_beq_eq_true hb.1
   have e2:p.2.1=u:=Nat.eq_of_beq_eq_true hb.2
   cases h
   subst e1 e2
   exact List.mem_cons_self
  |false=>rw [hb] at h;exact List.mem_cons_of_mem _ (ih h)
theorem uY (ρ:Ren)(hG:P.globals.size<bg)(t:TypeId):VR ρ (handle P t) (hdl P t):=by
 have:=VR.ptr (ρ:=ρ) (b:=P.globals.size) (o:=t) (l:=⟨P.globals.size,0,0⟩) (Ren.Ae hG)
 simpa [handle,hdl] using this
theorem jZ {ρ:Ren}(hG:P.globals.size<bg){h c:Value}(hv:VR ρ h c){t:TypeId}(ht:ofHandle P h=some t):c=hdl P t:=by
 unfold ofHandle at ht
 split at ht
 ·rename_i a
  obtain ⟨hb,ht⟩:=au.1 ht
  cases ht
  have hb:=Nat.eq_of_beq_eq_true hb
  cases hv with
  |@ptr b o l hl=>
   have hb:b=P.globals.size:=hb
   subst hb
   rw [Ren.Ae hG] at hl
   cases hl
   simp [hdl]
 ·cases ht
theorem BA (ρ:Ren)(hC:C.P=P)(hG:P.globals.size<bg)(t:TypeId):VR ρ (FI C t) (.iface C.rtype (.agg #[hdl P t])):=by
 unfold FI
 rw [hC]
 exact .iface _ (.agg (.cons (uY ρ hG t) .nil))
theorem Jq {f:FuncId}{l:List (Nat × Unit)}(hC:C.P=P)(hG:P.globals.size<bg)(h:lK P f=true)(he:(P.funcs[f]?).bind Extern.find=some ReflectliteType.typeOf)
  (hf:∀ q∈l,∀ w,(ReflectliteType.toType q.1).run P w = .ok (.iface C.rtype (.agg #[hdl P q.1])) w):dh C P f (.EX l):=by
 intro base ρ s s' w args aO v hr ha hv
 have hv:GN C l s args=some (v,s'):=hv
 unfold GN at hv
 split at hv
 ·rename_i t x _
  obtain ⟨u,hu,hv⟩:=ah.1 hv
  cases hv
  cases ha with
  |cons h1 h2=>cases h2 with
   |nil=>cases h1 with
    |@iface _ x x' hx=>
     refine ⟨_,ρ,w,?_,Goes.refl hr,BA ρ hC hG t⟩
     rw [kW h he]
     show ((ReflectliteType.toType t).run P w).andThen _=_
     rw [hf _ (lG hu)]
     rfl
 ·cases hv
theorem Sj {f:FuncId}{l:List (Nat × Nat)}(hC:C.P=P)(hG:P.globals.size<bg)(h:lK P f=true)(he:(P.funcs[f]?).bind Extern.find=some (ReflectliteType.method ReflectliteType.elem))
  (hf:∀ q∈l,∀ w,(ReflectliteType.method ReflectliteType.elem #[.agg #[hdl P q.1]]).run P w = .ok (.iface C.rtype (.agg #[hdl P q.2])) w):dh C P f (.Xf l):=by
 intro base ρ s s' w args aO v hr ha hv
 have hv:TP C l s args=some (v,s'):=hv
 unfold TP at hv
 split at hv
 ·rename_i x
  obtain ⟨t,ht,hv⟩:=ah.1 hv
  obtain ⟨e,hu,hv⟩:=ah.1 hv
  cases hv
  rw [hC] at ht
  cases ha with
  |cons h1 h2=>cases h2 with
   |nil=>cases h1 with
    |agg h1=>cases h1 with
     |cons h1 h2=>cases h2 with
      |nil=>
       rw [jZ hG h1 ht]
       refine ⟨_,ρ,w,?_,Goes.refl hr,BA ρ hC hG e⟩
       rw [kW h he,hf _ (lG hu)]
       rfl
 ·cases hv
theorem LG {args aO:List Value}{ρ:Ren}{k:TypeId→TypeId→Option (Value × St)}{r:Value × St}(hC:C.P=P)(hG:P.globals.size<bg)(ha:VRs ρ args aO)(hv:NC C args k=some r) :
  ∃ t u,aO=[.agg #[hdl P t],.iface C.rtype (.agg #[hdl P u])]∧k t u=some r:=by
 unfold NC at hv
 split at hv
 ·rename_i x rt y
  obtain ⟨hr,hv2⟩:=au.1 hv
  obtain ⟨t,ht,hv3⟩:=ah.1 hv2
  obtain ⟨u,hu,hv4⟩:=ah.1 hv3
  clear hv hv2 hv3
  have hr:=Nat.eq_of_beq_eq_true hr
  subst hr
  rw [hC] at ht hu
  cases ha with
  |cons h1 h2=>cases h2 with
   |cons h2 h3=>cases h3 with
    |nil=>cases h1 with
     |agg h1=>cases h1 with
      |cons h1 h4=>cases h4 with
       |nil=>cases h2 with
        |iface _ h2=>cases h2 with
         |agg h2=>cases h2 with
          |cons h2 h5=>cases h5 with
           |nil=>
            rw [jZ hG h1 ht,jZ hG h2 hu]
            exact ⟨t,u,rfl,hv4⟩
 ·cases hv
theorem JO {f:FuncId}{l:List (Nat × Nat × Bool)}(hC:C.P=P)(hG:P.globals.size<bg)(h:lK P f=true){e:Array Value→Sem Value}(he:(P.funcs[f]?).bind Extern.find=some e)
  (hf:∀ q∈l,∀ w,(e #[.agg #[hdl P q.1],.iface C.rtype (.agg #[hdl P q.2.1])]).run P w = .ok (.bool q.2.2) w)
  {base:Nat} {ρ:Ren} {s s':St} {w:World} {args aO:List Value} {v:Value} (hr:HR P base ρ s w) (ha:VRs ρ args aO) (hv:aam C l s args=some (v,s')) :
  ∃ c ρ' w',(callFunc f ⟨aO⟩).run P w = .ok (.value c) w'∧Goes P base ρ s w ρ' s' w'∧VR ρ' v c:=by
 obtain ⟨t,u,rfl,hv⟩:=LG hC hG ha hv
 obtain ⟨q,hq,hv⟩:=ah.1 hv
 cases hv
 refine ⟨_,ρ,w,?_,Goes.refl hr,.bool _⟩
 rw [kW h he]
 have:=hf _ (YO hq) w
 rw [show (⟨[.agg #[hdl P t],.iface C.rtype (.agg #[hdl P u])]⟩:Array Value)=#[.agg #[hdl P t],.iface C.rtype (.agg #[hdl P u])] from rfl,this]
 rfl
theorem Bg {f:FuncId}{l:List (Nat × Nat × Bool)}(hC:C.P=P)(hG:P.globals.size<bg)(h:lK P f=true){e:Array Value→Sem Value}(he:(P.funcs[f]?).bind Extern.find=some e)
  (hf:∀ q∈l,∀ w,(e #[.agg #[hdl P q.1],.iface C.rtype (.agg #[hdl P q.2.1])]).run P w = .ok (.bool q.2.2) w):dh C P f (.qh l):=
 fun _ _ _ _ _ _ _ _ hr ha hv=>JO hC hG h he hf hr ha hv
theorem Bh {f:FuncId}{l:List (Nat × Nat × Bool)}(hC:C.P=P)(hG:P.globals.size<bg)(h:lK P f=true){e:Array Value→Sem Value}(he:(P.funcs[f]?).bind Extern.find=some e)
  (hf:∀ q∈l,∀ w,(e #[.agg #[hdl P q.1],.iface C.rtype (.agg #[hdl P q.2.1])]).run P w = .ok (.bool q.2.2) w):dh C P f (.qC l):=
 fun _ _ _ _ _ _ _ _ hr ha hv=>JO hC hG h he hf hr ha hv
theorem Ox {f:FuncId}{l:List (Nat × Nat)}(hC:C.P=P)(hG:P.globals.size<bg)(h:lK P f=true){e:Array Value→Sem Value}(he:(P.funcs[f]?).bind Extern.find=some e)
  (hf:∀ q∈l,∀ w,(e #[hdl P q.1]).run P w = .ok (.int .u8 (Int.ofNat q.2)) w):dh C P f (.Nw l):=by
 intro base ρ s s' w args aO v hr ha hv
 have hv:Oz C l s args=some (v,s'):=hv
 unfold Oz at hv
 split at hv
 ·rename_i x
  obtain ⟨t,ht,hv⟩:=ah.1 hv
  obtain ⟨k,hu,hv⟩:=ah.1 hv
  cases hv
  rw [hC] at ht
  cases ha with
  |cons h1 h2=>cases h2 with
   |nil=>
    rw [jZ hG h1 ht]
    refine ⟨_,ρ,w,?_,Goes.refl hr,.int _ _⟩
    have:=hf _ (lG hu) w
    rw [kW h he,show (⟨[hdl P t]⟩:Array Value)=#[hdl P t] from rfl,this]
    rfl
 ·cases hv
noncomputable def EY (P:Program)(t:TypeId)(a:Addr)(f:Nat):Value:=.agg #[hdl P t,.pointer (some a),.int .u64 (Int.ofNat f)]
theorem pF {ρ:Ren}{x c:Value}{k:TypeId→Addr→Nat→Option (Value × St)}{r:Value × St}(hC:C.P=P)(hG:P.globals.size<bg)(hx:VR ρ x c)(hv:FM C x k=some r) :
  ∃ t b o f L,ρ.at b=some L∧c=EY P t ⟨L.blk,L.off+o,none⟩ f∧k t ⟨b,o,none⟩ f=some r:=by
 unfold FM at hv
 split at hv
 ·rename_i y a i
  obtain ⟨t,ht,hv⟩:=ah.1 hv
  rw [hC] at ht
  cases hx with
  |agg h1=>cases h1 with
   |cons h1 h2=>cases h2 with
    |cons h2 h3=>cases h3 with
     |cons h3 h4=>cases h4 with
      |nil=>cases h3 with
       |int _ _=>cases h2 with
        |@ptr b o L hL=>
         cases i with
         |ofNat f=>
          rw [jZ hG h1 ht]
          exact ⟨t,b,o,f,L,hL,rfl,hv⟩
         |negSucc f=>cases hv
 ·cases hv
theorem Ns {f:FuncId}{l:List (Nat × Nat)}(hC:C.P=P)(hG:P.globals.size<bg)(h:lK P f=true){e:Array Value→Sem Value}(he:(P.funcs[f]?).bind Extern.find=some e)
  (hf:∀ q∈l,∀ a w,(e #[EY P q.1 a q.2]).run P w = .ok (.iface C.rtype (.agg #[hdl P q.1])) w):dh C P f (.Na l):=by
 intro base ρ s s' w args aO v hr ha hv
 have hv:Oj C l s args=some (v,s'):=hv
 unfold Oj at hv
 split at hv
 ·cases ha with
  |cons h1 h2=>cases h2 with
   |nil=>
    obtain ⟨t,b,o,g,L,hL,rfl,hv⟩:=pF hC hG h1 hv
    obtain ⟨q,hq,hv2⟩:=ah.1 hv
    obtain ⟨hb,hv3⟩:=au.1 hv2
    clear hv hv2
    have hb:=Nat.eq_of_beq_eq_true hb
    subst hb
    cases hv3
    refine ⟨_,ρ,w,?_,Goes.refl hr,BA ρ hC hG t⟩
    have:=hf _ (lG hq) ⟨L.blk,L.off+o,none⟩ w
    rw [kW h he,show (⟨[EY P t ⟨L.blk,L.off+o,none⟩ q]⟩:Array Value)=#[EY P t ⟨L.blk,L.off+o,none⟩ q] from rfl,this]
    rfl
 ·cases hv
theorem FZ {f:FuncId}{l:List (Nat × Nat)}(hC:C.P=P)(hG:P.globals.size<bg)(h:lK P f=true)(he:(P.funcs[f]?).bind Extern.find=some (fun args=>ReflectliteValue.unpack (args.getD 0 (.tuple #[]))))
  (hf:∀ q∈l,∀ a w,(ReflectliteValue.mk q.1 a 0).run P w = .ok (EY P q.1 a q.2) w):dh C P f (.Aa l):=by
 intro base ρ s s' w args aO v hr ha hv
 have hv:BD C l s args=some (v,s'):=hv
 unfold BD at hv
 split at hv
 ·rename_i t x _
  obtain ⟨g,hu,hv⟩:=ah.1 hv
  cases hv
  cases ha with
  |cons h1 h2=>cases h2 with
   |nil=>cases h1 with
    |@iface _ x x' hx=>
     have hg:=Goes.newRow (e:=t) hr (a:=x'.cells) (kG hx)
     refine ⟨EY P t ⟨w.heap.size,0,none⟩ g,_,w.alloc (.cells x'.cells t),?_,hg,?_⟩
     ·rw [kW h he]
      have e1:(ReflectliteValue.unpack (.iface t x')).run P w = .ok (EY P t ⟨w.heap.size,0,none⟩ g) (w.alloc (.cells x'.cells t)):=by
       simp only [ReflectliteValue.unpack,newVar,newRow]
       simp [hf _ (lG hu)]
      show ((ReflectliteValue.unpack (.iface t x')).run P w).andThen _=_
      rw [e1]
      rfl
     ·rw [hC]
      exact .agg (.cons (uY _ hG t) (.cons (VR.aaY hr ⟨w.heap.size,0,0⟩ rfl) (.cons (.int _ _) .nil)))
 ·cases hv
theorem Kz (z:Sem Value)(f:TypeId→Addr→Nat→Nat→Sem Value){v:Value}{t:TypeId}{a:Addr}{n:Nat}{w:World}(hp:(ReflectliteValue.parts v).run P w = .ok (some (t,a,n)) w) :
  (ReflectliteValue.method z f #[v]).run P w=(f t a n (n%32)).run P w:=by
 show Sem.run P (do match ←ReflectliteValue.parts v with|none=>z|some (t,a,fl)=>f t a fl (fl%32)) w=_
 simp only [Sem.run_bind,hp,Result.andThen_ok]
theorem MP {f:FuncId}{l:List (Nat × Nat)}(hC:C.P=P)(hG:P.globals.size<bg)(h:lK P f=true)(he:(P.funcs[f]?).bind Extern.find=some (ReflectliteValue.method (ReflectliteValue.valueError "reflectlite.Value.IsNil" 0) ReflectliteValue.isNil))
  (hp:∀ q∈l,∀ a w,(ReflectliteValue.parts (EY P q.1 a q.2)).run P w = .ok (some (q.1,a,q.2)) w) (hk:∀ q∈l,q.2%32=22):dh C P f (.LV l):=by
 intro base ρ s s' w args aO v hr ha hv
 have hv:NY C l s args=some (v,s'):=hv
 unfold NY at hv
 split at hv
 ·cases ha with
  |cons h1 h2=>cases h2 with
   |nil=>
    obtain ⟨t,b,o,g,L,hL,rfl,hv⟩:=pF hC hG h1 hv
    obtain ⟨q,hq,hv2⟩:=ah.1 hv
    obtain ⟨hb,hv3⟩:=au.1 hv2
    obtain ⟨x,hx,hv4⟩:=ah.1 hv3
    obtain ⟨y,hy,hv5⟩:=ah.1 hv4
    clear hv hv2 hv3 hv4
    have hb:=Nat.eq_of_beq_eq_true hb
    subst hb
    cases hv5
    rw [hC] at hx
    obtain ⟨c,hc,hvc⟩:=lN hr hL hx
    refine ⟨.bool y,ρ,w,?_,Goes.refl hr,.bool _⟩
    have hp':=hp _ (lG hq) ⟨L.blk,L.off+o,none⟩ w
    have hk':=hk _ (lG hq)
    have hk':q%32=22:=hk'
    rw [kW h he,show (⟨[EY P t ⟨L.blk,L.off+o,none⟩ q]⟩:Array Value)=#[EY P t ⟨L.blk,L.off+o,none⟩ q] from rfl,Kz _ _ hp',hk']
    have hn:(ReflectliteValue.isNil t ⟨L.blk,L.off+o,none⟩ q 22).run P w = .ok (.bool y) w:=by
     unfold aeA at hy
     split at hy
     ·cases hvc;cases hy
      simp [ReflectliteValue.isNil,hc]
     ·cases hvc;cases hy
      simp [ReflectliteValue.isNil,hc]
     ·cases hy
    rw [hn]
    rfl
 ·cases hv
theorem Oy {f:FuncId}{l:List (Nat × Nat × Nat × Nat)}(hC:C.P=P)(hG:P.globals.size<bg)(h:lK P f=true)(he:(P.funcs[f]?).bind Extern.find=some (ReflectliteValue.method (ReflectliteValue.valueError "reflectlite.Value.Elem" 0) ReflectliteValue.elem))
  (hp:∀ q∈l,∀ a w,(ReflectliteValue.parts (EY P q.1 a q.2.1)).run P w = .ok (some (q.1,a,q.2.1)) w) (hk:∀ q∈l,q.2.1%32=22)
  (hel:∀ q∈l,∀ w,(Rtype.elem? q.1).run P w = .ok (some q.2.2.1) w) (hm:∀ q∈l,∀ a w,(ReflectliteValue.mk q.2.2.1 a ReflectliteValue.flagAddr).run P w = .ok (EY P q.2.2.1 a q.2.2.2) w):dh C P f (.Nu l):=by
 intro base ρ s s' w args aO v hr ha hv
 have hv:NI C l s args=some (v,s'):=hv
 unfold NI at hv
 split at hv
 ·cases ha with
  |cons h1 h2=>cases h2 with
   |nil=>
    obtain ⟨t,b,o,g,L,hL,rfl,hv⟩:=pF hC hG h1 hv
    obtain ⟨q,hq,hv2⟩:=ah.1 hv
    obtain ⟨hb,hv3⟩:=au.1 hv2
    obtain ⟨x,hx,hv4⟩:=ah.1 hv3
    clear hv hv2 hv3
    have hb:=Nat.eq_of_beq_eq_true hb
    rw [hC] at hx
    obtain ⟨c,hc,hvc⟩:=lN hr hL hx
    obtain ⟨g',e,g2⟩:=q
    have hb:g'=g:=hb
    subst hb
    have hm':=lG hq
    have hp':=hp _ hm' ⟨L.blk,L.off+o,none⟩ w
    have hk':g'%32=22:=hk _ hm'
    have he':=hel _ hm' w
    dsimp only at hp' he'
    split at hv4
    ·rename_i p
     cases hv4
     cases hvc with
     |@ptr pb po pl hpl=>
      refine ⟨EY P e ⟨pl.blk,pl.off+po,none⟩ g2,ρ,w,?_,Goes.refl hr,?_⟩
      ·rw [kW h he,show (⟨[EY P t ⟨L.blk,L.off+o,none⟩ g']⟩:Array Value)=#[EY P t ⟨L.blk,L.off+o,none⟩ g'] from rfl,Kz _ _ hp',hk']
       have hn:(ReflectliteValue.elem t ⟨L.blk,L.off+o,none⟩ g' 22).run P w = .ok (EY P e ⟨pl.blk,pl.off+po,none⟩ g2) w:=by
        have hm2:=hm _ hm' ⟨pl.blk,pl.off+po,none⟩ w
        dsimp only at hm2
        simp [ReflectliteValue.elem,hc,he',hm2]
       rw [hn]
       rfl
      ·rw [hC]
       exact .agg (.cons (uY _ hG e) (.cons (.ptr hpl) (.cons (.int _ _) .nil)))
    ·cases hv4
 ·cases hv
theorem rls (v x:Value):ReflectliteValue.set #[v,x]=(do
  let (some (dst,a,fl),some (src,b,_)):=(←ReflectliteValue.parts v,←ReflectliteValue.parts x)
   |unsupported (.noEntry "extern/(internal/reflectlite.Value).Set.zeroValue")
  if fl/ReflectliteValue.flagAddr%2 == 0 then unsupported (.noEntry "extern/(internal/reflectlite.Value).Set.unaddressable")
  let val ←loadVar src b
  if ←Rtype.directlyAssignable dst src then storeVar dst a val
  else if ←Rtype.implements dst src then
   if (←Rtype.kind src) == 20 then
    match val with
    |.nilIface=>unsupported (.noEntry "extern/reflectlite: a nil value of one interface type handed on as a value of another")
    |_=>storeVar dst a val
   else storeVar dst a (.iface src val)
  else panicString ("reflectlite.Set: value of type "++(←Rtype.spelt src)++" is not assignable to type "++(←Rtype.spelt dst))
  pure (.tuple #[])):=rfl
theorem run_set (v x:Value){t:TypeId}{a b:Addr}{f g:Nat}{w:World}(hp:(ReflectliteValue.parts v).run P w = .ok (some (t,a,f)) w)(hq:(ReflectliteValue.parts x).run P w = .ok (some (t,b,g)) w)
  (hf:f/ReflectliteValue.flagAddr%2=1) (hd:∀ w,(Rtype.directlyAssignable t t).run P w = .ok true w) {c:Value} (hc:(loadVar t b).run P w = .ok c w) {w':World} (hs:(storeVar t a c).run P w = .ok () w') :
  (ReflectliteValue.set #[v,x]).run P w = .ok (.tuple #[]) w':=by
 rw [rls]
 simp only [Sem.run_bind,hp,hq,Result.andThen_ok]
 have hf':(f/ReflectliteValue.flagAddr%2 == 0)=false:=by rw [hf];rfl
 simp [hf',hc,hd w,hs]
theorem Tq {f:FuncId}{l:List (Nat × Nat × Nat)}(hC:C.P=P)(hG:P.globals.size<bg)(h:lK P f=true)(he:(P.funcs[f]?).bind Extern.find=some ReflectliteValue.set)
  (hp:∀ q∈l,∀ a w,(ReflectliteValue.parts (EY P q.1 a q.2.1)).run P w = .ok (some (q.1,a,q.2.1)) w∧(ReflectliteValue.parts (EY P q.1 a q.2.2)).run P w = .ok (some (q.1,a,q.2.2)) w)
  (hk:∀ q∈l,q.2.1/ReflectliteValue.flagAddr%2=1) (hd:∀ q∈l,∀ w,(Rtype.directlyAssignable q.1 q.1).run P w = .ok true w):dh C P f (.adH l):=by
 intro base ρ s s' w args aO v hr ha hv
 have hv:Y7 C l s args=some (v,s'):=hv
 unfold Y7 at hv
 split at hv
 ·cases ha with
  |cons h1 h2=>cases h2 with
   |cons h2 h3=>cases h3 with
    |nil=>
     obtain ⟨t,b,o,g,L,hL,rfl,hv⟩:=pF hC hG h1 hv
     obtain ⟨t2,b2,o2,g2,L2,hL2,rfl,hv⟩:=pF hC hG h2 hv
     obtain ⟨q,hq,hv2⟩:=ah.1 hv
     obtain ⟨hb,hv3⟩:=au.1 hv2
     obtain ⟨x,hx,hv4⟩:=ah.1 hv3
     obtain ⟨s2,hs2,hv5⟩:=ah.1 hv4
     clear hv hv2 hv3 hv4
     simp only [Bool.and_eq_true] at hb
     obtain ⟨⟨e1,e2⟩,e3⟩:=hb
     have e1:=Nat.eq_of_beq_eq_true e1
     have e2:=Nat.eq_of_beq_eq_true e2
     have e3:=Nat.eq_of_beq_eq_true e3
     subst e1
     cases hv5
     rw [hC] at hx hs2
     obtain ⟨g',g2'⟩:=q
     have e2:g'=g:=e2
     have e3:g2'=g2:=e3
     subst e2 e3
     obtain ⟨c,hc,hvc⟩:=lN hr hL2 hx
     obtain ⟨w',hw,hgo⟩:=FY hr hL hs2 hvc
     have hm:=lG hq
     refine ⟨.tuple #[],ρ,w',?_,hgo,.tuple .nil⟩
     have:=run_set (EY P t ⟨L.blk,L.off+o,none⟩ g') (EY P t ⟨L2.blk,L2.off+o2,none⟩ g2') (hp _ hm _ w).1 (hp _ hm _ w).2 (hk _ hm) (hd _ hm) hc hw
     rw [kW h he,show (⟨[EY P t ⟨L.blk,L.off+o,none⟩ g',EY P t ⟨L2.blk,L2.off+o2,none⟩ g2']⟩:Array Value)=#[EY P t ⟨L.blk,L.off+o,none⟩ g',EY P t ⟨L2.blk,L2.off+o2,none⟩ g2'] from rfl,this]
     rfl
 ·cases hv
end Go.Ax
namespace Go.Ax
variable [Lo]
open Go Go.Extern
variable {P:Program} {base:Nat} {ρ:Ren} {s s':St} {w w':World}
theorem Goes.forget (h:HR P base ρ s w){b:Nat}{cs:List Value}{e:TypeId}{f:Nat}(hc:s.cells b=some (cs,e,f))(hf:f≠0) :
  Goes P base ρ s w ρ { heap:=s.heap.set b (.row [] e f),bG:=s.bG,next:=s.next } w:=by
 obtain ⟨hg,hlive⟩:=aG.1 hc
 have hget:∀ i,i≠b→(s.heap.set b (.row [] e f)).get i=s.heap.get i:=fun i hi=>Hp.get_set_other _ _ hi
 have htag:∀ i,St.tag { heap:=s.heap.set b (.row [] e f),bG:=s.bG,next:=s.next } i=s.tag i:=by
  intro i
  by_cases hi:i=b
  ·subst hi
   unfold St.tag
   simp only [Hp.get_set_same,hg]
  ·unfold St.tag
   simp only [hget i hi]
 have hown:∀ x,sH ρ { heap:=s.heap.set b (.row [] e f),bG:=s.bG,next:=s.next } x→sH ρ s x:=by
  rintro x ⟨i,l,a,h1,h2,h3,h4⟩
  exact ⟨i,l,a,h1,by rw [←htag i];exact h2,h3,h4⟩
 refine ⟨Ren.le_refl ρ,?_,rfl,rfl,rfl,Nat.le_refl _,Nat.le_refl _,fun _ _ _=>rfl,fun x hx=>.inl (hown x hx),fun _ _=>rfl⟩
 refine ⟨h.dom,h.next,h.dS,fun i hi ht=>h.low i hi (by rw [←htag i];exact ht),fun i r hi=>?_,fun i cs' e' f' hi=>?_,fun i cs' e' f' hi=>?_,fun i es c hi=>?_,fun i r hi=>?_,fun i j a c l l' hi hj=>?_⟩
 ·by_cases e0:i=b
  ·subst e0;exact h.bV _ _ hg
  ·exact h.bV i r (by rw [←hget i e0];exact hi)
 ·by_cases e0:i=b
  ·subst e0
   have hi:(s.heap.set i (.row [] e f)).get i=some (.row cs' e' f'):=hi
   rw [Hp.get_set_same] at hi
   cases hi
   exact h.dM _ _ _ _ hg
  ·exact h.dM i cs' e' f' (by rw [←hget i e0];exact hi)
 ·by_cases e0:i=b
  ·subst e0
   obtain ⟨h1,h2⟩:=aG.1 hi
   have h1:(s.heap.set i (.row [] e f)).get i=some (.row cs' e' f'):=h1
   rw [Hp.get_set_same] at h1
   cases h1
   obtain ⟨l,hq⟩:=h.rows i cs e f hc
   obtain ⟨hat,a,fz,ha,hv,hz,h0,h4⟩:=hq
   refine ⟨l,hat,a,fz,ha,fun j x hj=>by simp at hj,hz,fun h=>absurd h hf,fun h=>?_⟩
   obtain ⟨n,n1,n2,n3,n4⟩:=h4 h
   exact ⟨n,n1,n2,n3,by simp⟩
  ·refine h.rows i cs' e' f' ?_
   obtain ⟨h1,h2⟩:=aG.1 hi
   exact aG.2 ⟨by rw [←hget i e0];exact h1,h2⟩
 ·have e0:i≠b:=by
   rintro rfl
   have hi:(s.heap.set i (.row [] e f)).get i=some (.map es c):=hi
   rw [Hp.get_set_same] at hi
   cases hi
  exact h.maps i es c (by rw [←hget i e0];exact hi)
 ·have e0:i≠b:=by
   rintro rfl
   have hi:(s.heap.set i (.row [] e f)).get i=some (.loop r):=hi
   rw [Hp.get_set_same] at hi
   cases hi
  exact h.loops i r (by rw [←hget i e0];exact hi)
 ·rw [htag i] at hi
  rw [htag j] at hj
  exact h.sep i j a c l l' hi hj
theorem run_copy_cells {t e:TypeId}{sz:Nat}(hu:P.underlying t=some (.slice e))(hsz:size P e=some sz)(ty:TypeId){g off dLen dCap sb so sLen sCap m:Nat}(hm:Nat.min sLen dLen=m){cur:Array Value}{ty0:TypeId}{fz:Nat × Nat}
  (hg:w.heap[g]? = some (.cells cur ty0 fz)) (hfz:∀ k,k<cur.size→¬(fz.1≤k∧k<fz.2)) {cl:List Value} (hcl:cl.length=m*sz) (hsrc:∀ (j:Nat) (v:Value),cl[j]? = some v→w.cell? ⟨sb,so+j,none⟩=some v)
  (hfit:off+cl.length≤cur.size) (h1:∀ v∈cl,v.oneCell'=true) :
  (Builtin.copy_ #[t,t] ty #[.slice (some ⟨g,off,none⟩) dLen dCap,.slice (some ⟨sb,so,none⟩) sLen sCap]).run P w = .ok (goInt m) (w.setRow g (cur.toList.take off++cl++cur.toList.drop (off+cl.length)).toArray):=by
 have hl:=run_loadCells_list (P:=P) w ⟨sb,so,none⟩ cl (fun j v hj=>by rw [add_eq];exact hsrc j v hj)
 rw [hcl] at hl
 have hst:=gB P g off ty0 fz cl 0 cur w hg (by simpa using hfit) hfz h1
 simp only [Nat.add_zero] at hst
 simp [Builtin.copy_,run_underlying hu,Builtin.lenOf,run_sizeOf hsz,hm,Builtin.firstCells,hl,hst]
theorem EH {t it e:TypeId}{i:TypeInfo}{z:Value}(hu:P.underlying t=some (.slice e))(hi:P.info? e=some i)(hz:i.zero=some z)(aro:z.cells.size=i.size)(h0:1≤i.size)(hint:P.underlying it=some (.int .i64))(ty:TypeId)
  {b:Addr} {sLen sCap m:Nat} {old:List Value} (hold:(Go.loadCells b (sLen*i.size)).run P w.drew = .ok ⟨old⟩ w.drew) (hm0:1≤m) (hfit:sCap<sLen+m) (h63:sLen+m≤281474976710656) (hmb:m*i.bytes≤281474976710656)
  (h48:Builtin.nextslicecap (sLen+m) sCap*i.bytes≤281474976710656) :
  (Builtin.append_ #[t,it] ty #[.slice (some b) sLen sCap,.int .i64 (m:Int)]).run P w =
   .ok (.slice (some ⟨w.heap.size,0,none⟩) (sLen+m) (grownCap w (sLen+m) sCap e))
    (w.drew.alloc (.cells ((⟨old⟩:Array Value)++Builtin.zeroCells z.cells m++Builtin.zeroCells z.cells (grownCap w (sLen+m) sCap e-(sLen+m))) e)):=by
 have hn:¬(sLen+m≤sCap):=by omega
 have h63':¬(9223372036854775807<((sLen:Int)+(m:Int))):=by omega
 have h48':¬(281474976710656<Builtin.nextslicecap (sLen+m) sCap*i.bytes):=by omega
 have hw:IntKind.i64.wrap (m:Int)=m:=by rw [IntKind.wrap_i64];omega
 have aqP:¬(281474976710656<(m:Int)*(i.bytes:Int)):=by
  have:((m*i.bytes:Nat):Int)≤281474976710656:=by omega
  rw [Int.natCast_mul] at this
  omega
 have hneg:¬((m:Int)<0):=by omega
 have hz0:¬(m*i.size=0):=by
  have:=Nat.mul_pos hm0 h0
  omega
 have hai:(asInt (.int .i64 (m:Int))).run P w = .ok (m:Int) w:=rfl
 simp [hai,Builtin.append_,run_underlying hu,run_underlying hint,sizeOf,typeInfo,zeroValue,hi,hz,hw,hneg,aqP,hn,h63',h48',hz0,Question.forced,Builtin.firstCells,hold,newRow,grownCap]
theorem ovl (params results:Array TypeId)(a b:Addr)(la ca lb cb:Nat):SlicesOverlaps.overlaps params results #[.slice (some a) la ca,.slice (some b) lb cb]=(do
  let some t:=params[0]?|stuck "slices.overlaps: no parameter types"
  let .slice elem ←underlying t|stuck "slices.overlaps: slice type expected"
  let size ←sizeOf elem
  if la=0∨lb=0∨size=0 then pure (.bool false)
  else if a.block != b.block&&(←frozen a)&&(←frozen b) then unsupported .addressObserved
  else do
   if a.block != b.block then do
    noView a;noView b
    if ←mayBeOne a b then return .bool ((←choose (.extern "sameAddr.stringBytes" 2)) == 1)
   pure (.bool (a.block == b.block&&a.off<b.off+lb*size&&b.off<a.off+la*size))):=rfl
theorem P9 {params results:Array TypeId}{t e:TypeId}{sz:Nat}(h0:params[0]? = some t)(hu:P.underlying t=some (.slice e))(hsz:size P e=some sz)(h1:1≤sz){va vo la ca gb go lb cb:Nat}(hla:la≠0)(hlb:lb≠0)(hne:va≠gb)
  {A:Array Value} {tA:TypeId} {fA:Nat × Nat} (hA:w.heap[va]? = some (.cells A tA fA)) (hv:¬(fA.1≤vo∧vo<fA.2)) (hend:¬(fA.1≤A.size∧A.size<fA.2)) {B:Array Value} {tB:TypeId} {fB:Nat × Nat} (hB:w.heap[gb]? = some (.cells B tB fB)) (hBs:B.size≠0) :
  (SlicesOverlaps.overlaps params results #[.slice (some ⟨va,vo,none⟩) la ca,.slice (some ⟨gb,go,none⟩) lb cb]).run P w = .ok (.bool false) w:=by
 have hz:sz≠0:=by omega
 have f1:w.frozen? ⟨va,vo,none⟩=false:=by
  simp only [World.frozen?,hA]
  by_cases h:fA.1≤vo
  ·have:¬vo<fA.2:=fun h'=>hv ⟨h,h'⟩
   simp [this]
  ·simp [h]
 have f2:w.frozen? ⟨va,A.size,none⟩=false:=by
  simp only [World.frozen?,hA]
  by_cases h:fA.1≤A.size
  ·have:¬A.size<fA.2:=fun h'=>hend ⟨h,h'⟩
   simp [this]
  ·simp [h]
 have s1:w.shape? va=some (tA,A.size):=by simp [World.shape?,hA]
 obtain ⟨k,hk⟩:∃ k,B.size=k+1:=⟨B.size-1,by omega⟩
 have s2:w.shape? gb=some (tB,k+1):=by simp [World.shape?,hB,hk]
 rw [ovl]
 simp [h0,run_underlying hu,run_sizeOf hsz,hla,hlb,hz,hne,f1,noView,viewAt,s1,s2,mayBeOne,stringish,f2]
end Go.Ax
namespace Go.Ax
variable [Lo]
open Go Go.Extern Go.RowKit
variable {P:Program} {base:Nat} {ρ:Ren} {s s':St} {w w':World}
def spl (A:Array Value)(o:Nat)(l:List Value):Array Value:=(A.toList.take o++l++A.toList.drop (o+l.length)).toArray
theorem mJ {A:Array Value}{o:Nat}{l:List Value}(h:o+l.length≤A.size):(spl A o l).size=A.size:=by simp [spl];omega
theorem Bj {A:Array Value}{o j:Nat}{l:List Value}(h:o≤A.size)(hj:j<o):(spl A o l)[j]? = A[j]?:=by
 simp only [spl,List.getElem?_toArray]
 rw [List.append_assoc,List.getElem?_append_left (by simp;omega),List.getElem?_take,if_pos hj]
 simp
theorem Dn {A:Array Value}{o k:Nat}{l:List Value}(h:o+l.length≤A.size)(hk:k<l.length):(spl A o l)[o+k]? = l[k]?:=by
 simp only [spl,List.getElem?_toArray]
 rw [List.append_assoc,List.getElem?_append_right (by simp;omega),List.getElem?_append_left (by simp;omega)]
 congr 1
 simp;omega
theorem J4 {A:Array Value}{o j:Nat}{l:List Value}(h:o+l.length≤A.size)(hj:o+l.length≤j):(spl A o l)[j]? = A[j]?:=by
 simp only [spl,List.getElem?_toArray]
 rw [List.getElem?_append_right (by simp;omega),List.getElem?_drop]
 have:o+l.length+(j-(List.take o A.toList++l).length)=j:=by simp;omega
 rw [this]
 simp
theorem Gx {A:Array Value}{off i n sz:Nat}{cs new tcl ncl:List Value}(hi:i≤n)(hcs:cs.length=n*sz)(ht:VRs ρ (cs.drop (i*sz)) tcl)(hn:VRs ρ new ncl)(hnl:new.length=sz)
  (hlow:∀ (j:Nat) (x:Value),j<i*sz→cs[j]? = some x→∃ y,A[off+j]? = some y∧VR ρ x y) (hfit:off+(n+1)*sz≤A.size) :
  ∀ (j:Nat) (x:Value),(cs.take (i*sz)++(new++cs.drop (i*sz)))[j]? = some x→∃ y,(spl (spl A (off+(i+1)*sz) tcl) (off+i*sz) ncl)[off+j]? = some y∧VR ρ x y:=by
 have him:i*sz≤n*sz:=Nat.mul_le_mul_right _ hi
 have e1:(i+1)*sz=i*sz+sz:=Nat.succ_mul _ _
 have e2:(n+1)*sz=n*sz+sz:=Nat.succ_mul _ _
 have htl:=ht.length
 have apj:=hn.length
 simp at htl
 have hf1:off+(i+1)*sz+tcl.length≤A.size:=by omega
 have hs1:=mJ hf1
 have hf2:off+i*sz+ncl.length≤(spl A (off+(i+1)*sz) tcl).size:=by omega
 intro j x hj
 by_cases h1:j<i*sz
 ·rw [List.getElem?_append_left (by simp;omega),List.getElem?_take,if_pos h1] at hj
  rw [Bj (by omega) (by omega),Bj (by omega) (by omega)]
  exact hlow j x h1 hj
 ·rw [List.getElem?_append_right (by simp;omega)] at hj
  have el:(List.take (i*sz) cs).length=i*sz:=by simp;omega
  rw [el] at hj
  by_cases h2:j-i*sz<sz
  ·rw [List.getElem?_append_left (by omega)] at hj
   obtain ⟨y,hy,hv⟩:=hn.get hj
   refine ⟨y,?_,hv⟩
   have:=Dn hf2 (k:=j-i*sz) (by omega)
   rw [←hy,←this]
   congr 1
   omega
  ·rw [List.getElem?_append_right (by omega),hnl] at hj
   obtain ⟨y,hy,hv⟩:=ht.get hj
   refine ⟨y,?_,hv⟩
   rw [J4 hf2 (by omega)]
   have hlt:=(List.getElem?_eq_some_iff.1 hy).1
   have:=Dn hf1 (k:=j-i*sz-sz) (by omega)
   rw [←hy,←this]
   congr 1
   omega
theorem afm {A B:Array Value}(h:∀ j:Nat,A[j]? = B[j]?):A=B:=by
 apply Array.ext'
 apply List.ext_getElem?
 intro j
 simpa using h j
theorem agT {A:Array Value}{o:Nat}:spl A o []=A:=by simp [spl]
theorem adU {A:Array Value}{o1 o2:Nat}{l1 l2:List Value}(h1:o1+l1.length≤o2)(h2:o2+l2.length≤A.size):spl (spl A o1 l1) o2 l2=spl (spl A o2 l2) o1 l1:=by
 have e1:(spl A o1 l1).size=A.size:=mJ (by omega)
 have e2:(spl A o2 l2).size=A.size:=mJ h2
 apply afm
 intro j
 by_cases c1:j<o1
 ·rw [Bj (by omega) (by omega),Bj (by omega) c1,Bj (by omega) c1,Bj (by omega) (by omega)]
 ·by_cases c2:j<o1+l1.length
  ·rw [Bj (by omega) (by omega)]
   have a1:=Dn (A:=A) (o:=o1) (l:=l1) (k:=j-o1) (by omega) (by omega)
   have a2:=Dn (A:=spl A o2 l2) (o:=o1) (l:=l1) (k:=j-o1) (by omega) (by omega)
   have ej:o1+(j-o1)=j:=by omega
   rw [ej] at a1 a2
   rw [a1,a2]
  ·rw [J4 (A:=spl A o2 l2) (by omega) (by omega)]
   by_cases c3:j<o2
   ·rw [Bj (by omega) c3,Bj (by omega) c3,J4 (by omega) (by omega)]
   ·by_cases c4:j<o2+l2.length
    ·have a1:=Dn (A:=A) (o:=o2) (l:=l2) (k:=j-o2) h2 (by omega)
     have a2:=Dn (A:=spl A o1 l1) (o:=o2) (l:=l2) (k:=j-o2) (by omega) (by omega)
     have ej:o2+(j-o2)=j:=by omega
     rw [ej] at a1 a2
     rw [a1,a2]
    ·rw [J4 (by omega) (by omega),J4 (by omega) (by omega),J4 h2 (by omega)]
theorem I4:∀ (k:Nat) {l:List Value},kV l=true→kV (l.drop k)=true
 |0,_,h=>h
 |_+1,[],_=>rfl
 |k+1,a::l,h=>by
  change sel (adG a) (kV l) false=true at h
  rw [aC] at h
  split at h
  ·exact I4 k h
  ·cases h
noncomputable def adE (s:St)(b:Nat)(e:TypeId)(f:Nat)(l:List Value):St:=
 { heap:=(s.heap.set b (.row [] e f)).set s.next (.row l e f),bG:=s.bG.set f [s.next,b],next:=Nat.succ s.next }
theorem yC (h:HR P base ρ s w){b:Nat}{cs final:List Value}{e:TypeId}{f sz k:Nat}{L:Loc}(hb:ak≤b)(hc:s.cells b=some (cs,e,f))(hf:f≠0)(hl:ρ.at b=some L)(hsz:size P e=some sz)
  {A A':Array Value} {fz:Nat × Nat} (ha:w.heap[L.blk]? = some (.cells A e fz)) (hs:A'.size=A.size) (hv:∀ (j:Nat) (x:Value),final[j]? = some x→∃ y,A'[L.off+j]? = some y∧VR ρ x y)
  (hcap:L.off+L.cap*sz≤A.size) (hlen:final.length≤L.cap*sz) :
  Goes P base ρ s w (ρ.set s.next L) (adE s b e f final) (({ w with drawn:=k }:World).setRow L.blk A'):=by
 have g0:=Goes.forget h hc hf
 have g1:=Goes.drew g0.hr k
 have hc0:St.cells { heap:=s.heap.set b (.row [] e f),bG:=s.bG,next:=s.next } b=some ([],e,f):=
  aG.2 ⟨Hp.get_set_same _ _ _,(aG.1 hc).2⟩
 have g2:=Goes.share (cells:=final) (ln:=L) g1.hr hb hc0 hf hl (a':=A') ha hs (fun j x hj=>by simp at hj) rfl hv (fun n hn=>by
  rw [hsz] at hn
  cases hn
  exact ⟨hcap,hlen⟩)
 exact (g0.trans g1).trans g2
theorem zU (h:HR P base ρ s w){b:Nat}{cs final:List Value}{e:TypeId}{f sz cap k:Nat}(hc:s.cells b=some (cs,e,f))(hf:f≠0)(hsz:size P e=some sz)(h0:0<sz)
  {A:Array Value} (hv:∀ (j:Nat) (x:Value),final[j]? = some x→∃ y,A[j]? = some y∧VR ρ x y) (hs:A.size=cap*sz) (hlen:final.length≤cap*sz) :
  Goes P base ρ s w (ρ.set s.next ⟨w.heap.size,0,cap⟩) (adE s b e f final) (({ w with drawn:=k }:World).alloc (.cells A e)):=by
 have g0:=Goes.forget h hc hf
 have hc0:St.cells { heap:=s.heap.set b (.row [] e f),bG:=s.bG,next:=s.next } b=some ([],e,f):=
  aG.2 ⟨Hp.get_set_same _ _ _,(aG.1 hc).2⟩
 have g2:=Goes.WB (cells:=final) (k:=k) g0.hr hc0 hf hsz h0 hv hs hlen
 exact g0.trans g2
structure MH (P:Program) (F OV:FuncId) (t it:TypeId) (sz:Nat):Prop where
 place:∀ (b o n K i vb vo vc:Nat) (w w2 w3:World) (x2 x3:Value),i<n→n+1≤K→n+1≤9223372036854775807→
  Sem.run P (callFunc OV #[.slice (some ⟨vb,vo,none⟩) 1 vc,.slice (some ⟨b,o+(i+1)*sz,none⟩) (n-i) (K-(i+1))]) w = .ok (.value (.bool false)) w→
  Hid (Sem.run P (Builtin.copy_ #[t,t] it #[.slice (some ⟨b,o+(i+1)*sz,none⟩) (n-i) (K-(i+1)),.slice (some ⟨b,o+i*sz,none⟩) (n+1-i) (K-i)]) w.drew = .ok x2 w2)→
  Sem.run P (Builtin.copy_ #[t,t] it #[.slice (some ⟨b,o+i*sz,none⟩) (n+1-i) (K-i),.slice (some ⟨vb,vo,none⟩) 1 vc]) w2 = .ok x3 w3→
  Calls P F #[.slice (some ⟨b,o,none⟩) n K,.int .i64 i,.slice (some ⟨vb,vo,none⟩) 1 vc] w fun e w'=>e = .returned (.slice (some ⟨b,o,none⟩) (n+1) K)∧w'=w3
 fin:∀ (b o n K vb vo vc:Nat) (w w2:World) (x2:Value),
  Hid (Sem.run P (Builtin.append_ #[t,t] t #[.slice (some ⟨b,o,none⟩) n K,.slice (some ⟨vb,vo,none⟩) 1 vc]) w = .ok x2 w2)→
  Calls P F #[.slice (some ⟨b,o,none⟩) n K,.int .i64 n,.slice (some ⟨vb,vo,none⟩) 1 vc] w fun e w'=>e = .returned x2∧w'=w2
 grow:∀ (b o n K i vb vo vc g G:Nat) (w w2 w3 w4:World) (x3 x4:Value),i<n→n≤K→K<n+1→n+1≤9223372036854775807→n+1≤G→
  Hid (Sem.run P (Builtin.append_ #[t,it] t #[.slice (some ⟨b,o,none⟩) i K,.int .i64 ((n:Int)+1-i)]) w = .ok (.slice (some ⟨g,0,none⟩) (n+1) G) w2)→
  Sem.run P (Builtin.copy_ #[t,t] it #[.slice (some ⟨g,i*sz,none⟩) (n+1-i) (G-i),.slice (some ⟨vb,vo,none⟩) 1 vc]) w2 = .ok x3 w3→
  Hid (Sem.run P (Builtin.copy_ #[t,t] it #[.slice (some ⟨g,(i+1)*sz,none⟩) (n-i) (G-(i+1)),.slice (some ⟨b,o+i*sz,none⟩) (n-i) (K-i)]) w3.drew = .ok x4 w4)→
  Calls P F #[.slice (some ⟨b,o,none⟩) n K,.int .i64 i,.slice (some ⟨vb,vo,none⟩) 1 vc] w fun e w'=>e = .returned (.slice (some ⟨g,0,none⟩) (n+1) G)∧w'=w4
theorem D6 (w:World)(a a':Array Value)(e:TypeId):(w.alloc (.cells a e)).setRow w.heap.size a'=w.alloc (.cells a' e):=by
 unfold World.alloc World.setRow
 congr 1
 apply Array.ext
 ·simp
 ·intro i h1 h2
  simp only [Array.getElem_modify]
  by_cases h:w.heap.size=i
  ·subst h;simp
  ·simp only [h,if_false]
   have hlt:i<w.heap.size:=by simp at h2;omega
   rw [Array.getElem_push_lt hlt,Array.getElem_push_lt hlt]
theorem QK (w:World)(o:Obj){b j:Nat}{v:Value}(h:w.cell? ⟨b,j,none⟩=some v):(w.alloc o).cell? ⟨b,j,none⟩=some v:=by
 have hlt:b<w.heap.size:=by
  unfold World.cell? at h
  cases hb:w.heap[b]? with
  |none=>simp [hb] at h
  |some x=>exact (Array.getElem?_eq_some_iff.1 hb).1
 rw [World.cell?_alloc_lt _ _ ⟨b,j,none⟩ hlt]
 exact h
theorem Ew {C:Cfg}{F OV:FuncId}{t it e:TypeId}{sz:Nat}{ps rs:Array TypeId}(hW:MH P F OV t it sz)(hC:C.P=P)(hu:P.underlying t=some (.slice e))(hsz:size P e=some sz)(hint:P.underlying it=some (.int .i64))
  (hx:lK P OV=true) (ho:(P.funcs[OV]?).bind Extern.find=some (SlicesOverlaps.overlaps ps rs)) (hps:ps[0]? = some t) (hni:JB P (some t)=true)
  {args:List Value} {s s':St} {v:Value} (hv:sG C e s args=some (v,s')) {base:Nat} {ρ:Ren} {w:World} {aO:List Value} (h:HR P base ρ s w) (ha:VRs ρ args aO) :
  Calls P F ⟨aO⟩ w fun x w'=>∃ c ρ',x = .returned c∧Goes P base ρ s w ρ' s' w'∧VR ρ' v c:=by
 unfold sG at hv
 split at hv
 ·rename_i a n cap iv u m uc
  obtain ⟨i,hiv,hv1⟩:=ah.1 hv
  obtain ⟨hm1,hv2⟩:=au.1 hv1
  obtain ⟨⟨cs,e',f⟩,hc,hv3⟩:=ah.1 hv2
  obtain ⟨⟨ds,ed,fd⟩,hd,hv4⟩:=ah.1 hv3
  obtain ⟨sz',hsz',hv5⟩:=ah.1 hv4
  obtain ⟨hg,hv6⟩:=au.1 hv5
  obtain ⟨new,hnew,hv7⟩:=ah.1 hv6
  obtain ⟨hone,hv8⟩:=au.1 hv7
  clear hv hv1 hv2 hv3 hv4 hv5 hv6 hv7
  rw [hC] at hsz' hg
  rw [hsz] at hsz'
  cases hsz'
  have hm1:=Nat.eq_of_beq_eq_true hm1
  subst hm1
  simp only [Bool.and_eq_true,Bool.not_eq_true'] at hg hone
  obtain ⟨⟨⟨⟨⟨⟨⟨⟨⟨⟨⟨⟨g1,g2⟩,g3⟩,g4⟩,g5⟩,g6⟩,g7⟩,g8⟩,g9⟩,g10⟩,g11⟩,g12⟩,g13⟩:=hg
  have g1:e'=e:=Nat.eq_of_beq_eq_true g1
  subst g1
  have g2:a.off=0:=Nat.eq_of_beq_eq_true g2
  have g3:cs.length=n*sz:=by rw [aP] at g3;exact Nat.eq_of_beq_eq_true g3
  have g4:i≤n:=Nat.le_of_ble_eq_true g4
  have g5:f≠0:=by rintro rfl;simp at g5
  have g6:cap=aA:=Nat.eq_of_beq_eq_true g6
  have g7:ak≤a.block:=Nat.le_of_ble_eq_true g7
  have g8:ak≤u.block:=Nat.le_of_ble_eq_true g8
  have g9:fd=0:=Nat.eq_of_beq_eq_true g9
  subst g9 g6
  have g10:1≤ds.length:=by rw [aP] at g10;exact Nat.le_of_ble_eq_true g10
  have g11:1≤sz:=Nat.le_of_ble_eq_true g11
  have g13:n≤1099511627776:=Nat.le_of_ble_eq_true g13
  rw [qp,iY] at hnew
  obtain ⟨hnl,rfl⟩:=hnew
  simp only [aX,lC,iY] at hv8
  have aq0:iv=Int.ofNat i:=by
   cases iv with
   |ofNat k=>cases hiv;rfl
   |negSucc k=>cases hiv
  subst aq0
  cases hv8
  cases ha with
  |cons h1 ha=>cases ha with
   |cons h2 ha=>cases ha with
    |cons h3 ha=>cases ha with
     |nil=>
      cases h2
      cases h1 with
      |dead A K=>exact (h.IQ hc).elim
      |@slice b o _ _ L hL=>cases h3 with
       |@slice vb vo _ _ Lv hLv=>
        have g2:o=0:=g2
        subst g2
        have hcap:capOf L aA=L.cap:=oK L.blk L.off L.cap
        rw [hcap]
        simp only [Nat.add_zero]
        obtain ⟨q,hq⟩:=h.rows b cs e' f hc
        have hql:q=L:=by have:=hq.at_;rw [hL] at this;exact (Option.some.inj this).symm
        subst hql
        have hq2:=hq
        obtain ⟨_,A,fz,⟨e9,hA,he9⟩,wK,hfz,_,h4⟩:=hq
        have he9:=(he9 (.inr g7)).symm
        subst he9
        obtain ⟨n',hn',h0,aoO,hlen⟩:=h4 g5
        rw [hsz] at hn'
        cases hn'
        obtain ⟨qv,hqv⟩:=h.rows vb ds ed 0 hd
        have aqL:qv=Lv:=by have:=hqv.at_;rw [hLv] at this;exact (Option.some.inj this).symm
        subst aqL
        have aqj:=hqv
        obtain ⟨_,Av,fzv,⟨e8,hAv,he8⟩,_,apN,hv0,_⟩:=hqv
        have he8:=(he8 (.inl rfl)).symm
        subst he8
        obtain ⟨hvo,hvs,anZ⟩:=hv0 rfl
        have hK:n≤q.cap:=by
         have:n*sz≤q.cap*sz:=by omega
         exact Nat.le_of_mul_le_mul_right this h0
        have hne:qv.blk≠q.blk:=h.sep vb b (0,vb) (1,f) qv q (by rw [bP hd];simp) (by rw [bP hc];simp [g5]) (by simp) hLv hL (.inr (by omega))
        have ara:vo+sz≤ds.length:=by simp at hnl;omega
        obtain ⟨ncl,nv,nl,nc⟩:=aqj.seg (o:=vo) (n:=sz) ara
        have him:i*sz≤n*sz:=Nat.mul_le_mul_right _ g4
        have hsub:(n-i)*sz=n*sz-i*sz:=Nat.sub_mul _ _ _
        obtain ⟨tcl,tv,tl,tc⟩:=hq2.seg (o:=i*sz) (n:=(n-i)*sz) (by omega)
        rw [List.take_of_length_le (by simp;omega)] at tv
        have hnone:=xu nv hone.1
        have ai8:=xu tv (I4 _ hone.2)
        have adg:((ds.drop vo).take sz).length=sz:=by simp;omega
        have eS:Nat.mul i sz=i*sz:=rfl
        have hsn:(n+1)*sz=n*sz+sz:=Nat.succ_mul _ _
        have hsi:(i+1)*sz=i*sz+sz:=Nat.succ_mul _ _
        have ahI:(cs.take (i*sz)++((ds.drop vo).take sz++cs.drop (i*sz))).length=(n+1)*sz:=by
         rw [List.length_append,List.length_append,adg]
         simp
         omega
        have arp:q.blk<w.heap.size:=(Array.getElem?_eq_some_iff.1 hA).1
        have key:∀ (ln:Loc) (w':World),Goes P base ρ s w (ρ.set s.next ln) (adE s b e' f (cs.take (i*sz)++((ds.drop vo).take sz++cs.drop (i*sz)))) w'→
          ∃ c ρ',Ending.returned (.slice (some ⟨ln.blk,ln.off,none⟩) (n+1) ln.cap) = .returned c∧Goes P base ρ s w ρ' (adE s b e' f (cs.take (i*sz)++((ds.drop vo).take sz++cs.drop (i*sz)))) w'∧VR ρ' (.slice (some ⟨s.next,0,none⟩) (Nat.succ n) aA) c:=by
         intro ln w' hgo
         have kv:=VR.slice (ρ:=ρ.set s.next ln) (b:=s.next) (o:=0) (n:=n+1) (c:=aA) (l:=ln) (by rw [Ren.bJ h.next,Ren.cu])
         rw [show capOf ln aA=ln.cap from oK ln.blk ln.off ln.cap] at kv
         exact ⟨_,_,rfl,hgo,kv⟩
        rcases Nat.lt_or_ge i n with hin|hin
        ·by_cases hfit:n+1≤q.cap
         ·
          have hbig:q.off+(n+1)*sz≤A.size:=by
           have:(n+1)*sz≤q.cap*sz:=Nat.mul_le_mul_right _ hfit
           omega
          have hcp:=run_copy_cells (P:=P) (w:=w.drew) hu hsz it (g:=q.blk) (off:=q.off+(i+1)*sz) (dLen:=n-i) (dCap:=q.cap-(i+1)) (sb:=q.blk) (so:=q.off+i*sz) (sLen:=n+1-i) (sCap:=q.cap-i) (m:=n-i) (Nat.min_eq_right (by omega)) (cur:=A) hA (hfz g7) (cl:=tcl) tl (fun j v hj=>tc j v hj) (by omega) ai8
          have hA2:((w.drew).setRow q.blk (spl A (q.off+(i+1)*sz) tcl)).heap[q.blk]? = some (.cells (spl A (q.off+(i+1)*sz) tcl) e' fz):=setRow_heap _ _ _ _ _ _ hA
          have hs1:(spl A (q.off+(i+1)*sz) tcl).size=A.size:=mJ (by omega)
          have hcp2:=run_copy_cells (P:=P) (w:=(w.drew).setRow q.blk (spl A (q.off+(i+1)*sz) tcl)) hu hsz it (g:=q.blk) (off:=q.off+i*sz) (dLen:=n+1-i) (dCap:=q.cap-i) (sb:=qv.blk) (so:=qv.off+vo) (sLen:=1) (sCap:=capOf qv uc) (m:=1) (Nat.min_eq_left (by omega)) hA2 (fun k hk=>hfz g7 k (by omega)) (cl:=ncl) (by omega) (fun j v hj=>by rw [cell_setRow_other _ _ _ _ (by exact hne)];exact nc j v hj) (by omega) hnone
          have hov:Sem.run P (callFunc OV #[.slice (some ⟨qv.blk,qv.off+vo,none⟩) 1 (capOf qv uc),.slice (some ⟨q.blk,q.off+(i+1)*sz,none⟩) (n-i) (q.cap-(i+1))]) w = .ok (.value (.bool false)) w:=by
           rw [kW hx ho,P9 hps hu hsz g11 (by omega) (by omega) hne hAv (apN g8 _ (by omega)) (anZ g8) hA (by omega)]
           rfl
          refine (hW.place q.blk q.off n q.cap i qv.blk (qv.off+vo) (capOf qv uc) w _ _ _ _ hin hfit (by omega) hov hcp hcp2).mono ?_
          rintro x w' ⟨rfl,rfl⟩
          refine key q _ ?_
          rw [setRow_setRow]
          exact yC (k:=w.drawn+1) h g7 hc g5 hL hsz hA (by show (spl (spl A (q.off+(i+1)*sz) tcl) (q.off+i*sz) ncl).size=_;rw [mJ (by omega)];exact hs1) (Gx g4 g3 tv nv adg (fun j x _ hj=>wK j x hj) hbig) aoO (by rw [ahI];exact Nat.mul_le_mul_right _ hfit)
         ·
          obtain ⟨ti,z,hi,hz,hzs,h1,h63,h48⟩:=FN g12
          obtain ⟨ti',hi',hs⟩:=mP hsz
          rw [hi] at hi'
          cases hi'
          subst hs
          have hem:i+(n+1-i)=n+1:=by omega
          obtain ⟨ocl,ov,ol,oc⟩:=hq2.seg (o:=0) (n:=i*ti.size) (by omega)
          simp only [Nat.add_zero,List.drop_zero] at ov oc
          have hold:=run_loadCells_list (P:=P) w.drew ⟨q.blk,q.off,none⟩ ocl (fun j v hj=>by rw [add_eq];exact oc j v hj)
          rw [ol] at hold
          have hnc:=nextslicecap_le (need:=n+1) (old:=q.cap) (by omega)
          have hap:=EH (P:=P) (w:=w) hu hi hz hzs h1 hint t (b:=⟨q.blk,q.off,none⟩) (sLen:=i) (sCap:=q.cap) (m:=n+1-i) hold (by omega) (by omega) (by omega)
           (Nat.le_trans (Nat.mul_le_mul_right _ (by omega)) h48) (Nat.le_trans (Nat.mul_le_mul_right _ (by rw [hem];exact hnc)) h48)
          rw [hem,show ((n+1-i:Nat):Int)=(n:Int)+1-i by omega] at hap
          have hge:=grownCap_ge w (n+1) q.cap e'
          generalize hG:grownCap w (n+1) q.cap e'=G at hap hge
          generalize hA0:((⟨ocl⟩:Array Value)++Builtin.zeroCells z.cells (n+1-i)++Builtin.zeroCells z.cells (G-(n+1)))=A0 at hap
          have hzc:∀ k,(Builtin.zeroCells z.cells k).size=k*ti.size:=fun k=>by simp [Builtin.zeroCells,hzs]
          have amC:A0.size=G*ti.size:=by
           rw [←hA0,Array.size_append,Array.size_append,hzc,hzc,show (⟨ocl⟩:Array Value).size=ocl.length from rfl,ol,←Nat.add_mul,←Nat.add_mul,show i+(n+1-i)+(G-(n+1))=G by omega]
          have ap5:∀ j,j<ocl.length→A0[j]? = ocl[j]?:=by
           intro j hj
           rw [←hA0,Array.getElem?_append_left (by simp [Array.size_append];omega),Array.getElem?_append_left (by simpa using hj)]
           simp
          have hbig:(n+1)*ti.size≤A0.size:=by rw [amC];exact Nat.mul_le_mul_right _ hge
          have hz0:∀ (fz:Nat × Nat),fz=(0,0)→∀ (k m:Nat),k<m→¬(fz.1≤k∧k<fz.2):=by
           rintro fz rfl k m _ ⟨_,h⟩
           exact absurd h (Nat.not_lt_zero _)
          have hgh:∀ (x:World) (B:Array Value),(x.alloc (.cells B e')).heap[x.heap.size]? = some (.cells B e' (0,0)):=fun x B=>alloc_at x _
          have hcp:=run_copy_cells (P:=P) (w:=w.drew.alloc (.cells A0 e')) hu hsz it (g:=w.heap.size) (off:=i*ti.size) (dLen:=n+1-i) (dCap:=G-i) (sb:=qv.blk) (so:=qv.off+vo) (sLen:=1) (sCap:=capOf qv uc) (m:=1) (Nat.min_eq_left (by omega))
           (hgh w.drew A0) (fun k hk=>hz0 _ rfl k _ hk) (cl:=ncl) (by omega) (fun j v hj=>QK _ _ (nc j v hj)) (by omega) hnone
          have e1:(w.drew.alloc (.cells A0 e')).setRow w.heap.size (spl A0 (i*ti.size) ncl)=w.drew.alloc (.cells (spl A0 (i*ti.size) ncl) e'):=D6 w.drew _ _ _
          have hcp:Sem.run P (Builtin.copy_ #[t,t] it #[.slice (some ⟨w.heap.size,i*ti.size,none⟩) (n+1-i) (G-i),.slice (some ⟨qv.blk,qv.off+vo,none⟩) 1 (capOf qv uc)]) (w.drew.alloc (.cells A0 e')) = .ok (goInt 1) (w.drew.alloc (.cells (spl A0 (i*ti.size) ncl) e')):=by
           rw [←e1];exact hcp
          have hs1:(spl A0 (i*ti.size) ncl).size=A0.size:=mJ (by omega)
          have hcp2:=run_copy_cells (P:=P) (w:=w.drew.drew.alloc (.cells (spl A0 (i*ti.size) ncl) e')) hu hsz it (g:=w.heap.size) (off:=(i+1)*ti.size) (dLen:=n-i) (dCap:=G-(i+1)) (sb:=q.blk) (so:=q.off+i*ti.size) (sLen:=n-i) (sCap:=q.cap-i) (m:=n-i) (Nat.min_self _)
           (hgh w.drew.drew _) (fun k hk=>hz0 _ rfl k _ hk) (cl:=tcl) tl (fun j v hj=>QK _ _ (tc j v hj)) (by omega) ai8
          have e2:(w.drew.drew.alloc (.cells (spl A0 (i*ti.size) ncl) e')).setRow w.heap.size (spl (spl A0 (i*ti.size) ncl) ((i+1)*ti.size) tcl)=w.drew.drew.alloc (.cells (spl (spl A0 (i*ti.size) ncl) ((i+1)*ti.size) tcl) e'):=D6 w.drew.drew _ _ _
          have hcp2:Sem.run P (Builtin.copy_ #[t,t] it #[.slice (some ⟨w.heap.size,(i+1)*ti.size,none⟩) (n-i) (G-(i+1)),.slice (some ⟨q.blk,q.off+i*ti.size,none⟩) (n-i) (q.cap-i)]) (w.drew.alloc (.cells (spl A0 (i*ti.size) ncl) e')).drew = .ok (goInt ((n-i:Nat):Int)) (w.drew.drew.alloc (.cells (spl (spl A0 (i*ti.size) ncl) ((i+1)*ti.size) tcl) e')):=by
           rw [←e2];exact hcp2
          refine (hW.grow q.blk q.off n q.cap i qv.blk (qv.off+vo) (capOf qv uc) w.heap.size G w _ _ _ _ _ hin hK (by omega) (by omega) hge hap hcp hcp2).mono ?_
          rintro x w' ⟨rfl,rfl⟩
          refine key ⟨w.heap.size,0,G⟩ _ ?_
          have hsc:=adU (A:=A0) (o1:=i*ti.size) (o2:=(i+1)*ti.size) (l1:=ncl) (l2:=tcl) (by omega) (by omega)
          rw [hsc]
          have hcells:=Gx (A:=A0) (off:=0) g4 g3 tv nv adg (fun j x hj hx=>by
           have hx':(cs.take (i*ti.size))[j]? = some x:=by rw [List.getElem?_take,if_pos hj];exact hx
           obtain ⟨y,hy,hv⟩:=ov.get hx'
           refine ⟨y,?_,hv⟩
           rw [Nat.zero_add,ap5 j (by omega)]
           exact hy) (by omega)
          simp only [Nat.zero_add] at hcells
          exact zU (k:=w.drawn+1+1) h hc g5 hsz h0 hcells (by rw [mJ (by rw [mJ (by omega)];omega),mJ (by omega)];exact amC) (by rw [ahI,←amC];exact hbig)
        ·have hin:i=n:=by omega
         subst hin
         have hdrop:cs.drop (i*sz)=[]:=List.drop_of_length_le (by omega)
         have htake:cs.take (i*sz)=cs:=List.take_of_length_le (by omega)
         have ajL:∀ w:World,(Builtin.lenOf (.slice (some ⟨qv.blk,qv.off+vo,none⟩) 1 (capOf qv uc))).run P w = .ok 1 w:=fun w=>rfl
         have ajK:∀ w':World,(∀ (j:Nat) (v:Value),ncl[j]? = some v→w'.cell? ⟨qv.blk,qv.off+vo+j,none⟩=some v)→(Builtin.firstCells sz 1 (.slice (some ⟨qv.blk,qv.off+vo,none⟩) 1 (capOf qv uc))).run P w' = .ok ⟨ncl⟩ w':=by
          intro w' hcl
          have:=run_loadCells_list (P:=P) w' ⟨qv.blk,qv.off+vo,none⟩ ncl (fun j v hj=>by rw [add_eq];exact hcl j v hj)
          rw [nl] at this
          simp only [Builtin.firstCells,Nat.one_mul]
          exact this
         by_cases hfit:i+1≤q.cap
         ·obtain ⟨ti,hi,hs⟩:=mP hsz
          have hbig:q.off+(i+1)*sz≤A.size:=by
           have:(i+1)*sz≤q.cap*sz:=Nat.mul_le_mul_right _ hfit
           omega
          have hst:=gB P q.blk (q.off+i*sz) e' fz ncl 0 A w hA (by omega) (hfz g7) hnone
          simp only [Nat.add_zero] at hst
          have hap:=fM (P:=P) (w:=w) (w':=w.setRow q.blk (spl A (q.off+i*sz) ncl)) (ts:=#[t,t]) (ty:=t) rfl hu hi hni (b:=some ⟨q.blk,q.off,none⟩) (sLen:=i) (sCap:=q.cap) (ajL w) (by rw [hs];exact ajK w nc) hfit
           (fun a ha=>by cases ha;rw [add_eq,hs];exact hst) (fun e=>by cases e)
          refine (hW.fin q.blk q.off i q.cap qv.blk (qv.off+vo) (capOf qv uc) w _ _ hap).mono ?_
          rintro x w' ⟨rfl,rfl⟩
          refine key q _ ?_
          have hcells:=Gx (A:=A) (off:=q.off) (tcl:=[]) g4 g3 (by rw [hdrop];exact .nil) nv adg (fun j x _ hj=>wK j x hj) hbig
          rw [agT] at hcells
          exact yC (k:=w.drawn) h g7 hc g5 hL hsz hA (mJ (by omega)) hcells aoO (by rw [ahI];exact Nat.mul_le_mul_right _ hfit)
         ·obtain ⟨ocl,ov,ol,oc⟩:=hq2.seg (o:=0) (n:=i*sz) (by omega)
          simp only [Nat.add_zero,List.drop_zero,htake] at ov oc
          have hold:=run_loadCells_list (P:=P) w.drew ⟨q.blk,q.off,none⟩ ocl (fun j v hj=>by rw [add_eq];exact oc j v hj)
          rw [ol] at hold
          obtain ⟨arr,cp,hap,_,hsz2,hle2,hcells⟩:=yX (P:=P) (w:=w) (ts:=#[t,t]) (ty:=t) rfl hu hsz hni (b:=some ⟨q.blk,q.off,none⟩) (sLen:=i) (sCap:=q.cap) (n:=1) g12 (ajL w) (old:=cs) (by simp only [Builtin.firstCells];exact hold) ov g3 (ajK w.drew (fun j v hj=>nc j v hj)) nv (by omega) (by omega)
          refine (hW.fin q.blk q.off i q.cap qv.blk (qv.off+vo) (capOf qv uc) w _ _ hap).mono ?_
          rintro x w' ⟨rfl,rfl⟩
          refine key ⟨w.heap.size,0,cp⟩ _ ?_
          rw [hdrop,htake,List.append_nil]
          exact zU (k:=w.drawn+1) h hc g5 hsz h0 hcells hsz2 hle2
 ·cases hv
end Go.Ax
namespace Go.Ax
variable [Lo]
open Go Go.Extern
variable {P:Program} {base:Nat} {ρ:Ren} {s:St} {w:World}
theorem Dl (l:List UInt8)(i:Nat)(h:i<l.length):(⟨⟨l⟩⟩:ByteArray)[i]! = l[i]:=by
 have hb:i<(⟨⟨l⟩⟩:ByteArray).size:=h
 rw [getElem!_pos (⟨⟨l⟩⟩:ByteArray) i hb]
 rfl
theorem find_range (f:Nat→Bool):∀ n,(List.range (n+1)).find? f=if f 0=true then some 0 else ((List.range n).find? fun i=>f (i+1)).map (·+1):=by
 intro n
 rw [List.range_succ_eq_map,List.find?_cons]
 cases h:f 0 with
 |true=>simp
 |false=>
  simp only [Bool.false_eq_true,if_false,List.find?_map]
  rfl
theorem find_congr {α:Type}{p q:α→Bool}:∀ {l:List α},(∀ a∈l,p a=q a)→l.find? p=l.find? q
 |[],_=>rfl
 |a::l,h=>by
  rw [List.find?_cons,List.find?_cons,h a List.mem_cons_self,find_congr (l:=l) fun b hb=>h b (List.mem_cons_of_mem _ hb)]
theorem Ph:∀ (x y:List UInt8),BytealgCompare.cmp ⟨⟨x⟩⟩ ⟨⟨y⟩⟩=sel (uV x y) (-1) (sel (uV y x) 1 0)
 |[],[]=>rfl
 |[],b::t=>rfl
 |a::s,[]=>rfl
 |a::s,b::t=>by
  have ih:=Ph s t
  have e1:uV (a::s) (b::t)=sel (Nat.ble (Nat.succ a.toNat) b.toNat) true (sel (Nat.beq a.toNat b.toNat) (uV s t) false):=rfl
  have e2:uV (b::t) (a::s)=sel (Nat.ble (Nat.succ b.toNat) a.toNat) true (sel (Nat.beq b.toNat a.toNat) (uV t s) false):=rfl
  have hsz:min (⟨⟨a::s⟩⟩:ByteArray).size (⟨⟨b::t⟩⟩:ByteArray).size=min s.length t.length+1:=by
   show min (s.length+1) (t.length+1)=_
   omega
  have h0a:(⟨⟨a::s⟩⟩:ByteArray)[0]! = a:=Dl (a::s) 0 (by simp)
  have h0b:(⟨⟨b::t⟩⟩:ByteArray)[0]! = b:=Dl (b::t) 0 (by simp)
  unfold BytealgCompare.cmp
  rw [hsz,find_range]
  simp only [h0a,h0b]
  by_cases hab:a=b
  ·subst hab
   simp only [bne_self_eq_false,Bool.false_eq_true,if_false]
   have hs:∀ i,i<min s.length t.length→((⟨⟨a::s⟩⟩:ByteArray)[i+1]! = (⟨⟨s⟩⟩:ByteArray)[i]!∧(⟨⟨a::t⟩⟩:ByteArray)[i+1]! = (⟨⟨t⟩⟩:ByteArray)[i]!):=by
    intro i hi
    rw [Dl (a::s) (i+1) (by simp;omega),Dl s i (by omega),Dl (a::t) (i+1) (by simp;omega),Dl t i (by omega)]
    exact ⟨rfl,rfl⟩
   have hf:((List.range (min s.length t.length)).find? fun i=>(⟨⟨a::s⟩⟩:ByteArray)[i+1]! != (⟨⟨a::t⟩⟩:ByteArray)[i+1]!)=(List.range (min s.length t.length)).find? fun i=>(⟨⟨s⟩⟩:ByteArray)[i]! != (⟨⟨t⟩⟩:ByteArray)[i]!:=by
    apply find_congr
    intro i hi
    obtain ⟨h1,h2⟩:=hs i (List.mem_range.1 hi)
    rw [h1,h2]
   rw [hf]
   have hr:sel (uV (a::s) (a::t)) (-1:Int) (sel (uV (a::t) (a::s)) 1 0)=sel (uV s t) (-1) (sel (uV t s) 1 0):=by
    rw [e1,e2]
    have:Nat.ble (Nat.succ a.toNat) a.toNat=false:=by
     cases h:Nat.ble (Nat.succ a.toNat) a.toNat with
     |false=>rfl
     |true=>have:=Nat.le_of_ble_eq_true h;omega
    rw [this,Nat.beq_refl]
    rfl
   rw [hr,←ih]
   unfold BytealgCompare.cmp
   have hsz2:min (⟨⟨s⟩⟩:ByteArray).size (⟨⟨t⟩⟩:ByteArray).size=min s.length t.length:=rfl
   rw [hsz2]
   cases hq:(List.range (min s.length t.length)).find? fun i=>(⟨⟨s⟩⟩:ByteArray)[i]! != (⟨⟨t⟩⟩:ByteArray)[i]! with
   |none=>
    show (if (s.length+1)<(t.length+1) then (-1:Int) else if (s.length+1)>(t.length+1) then 1 else 0)=if s.length<t.length then -1 else if s.length>t.length then 1 else 0
    simp
   |some i=>
    have hi:=List.mem_range.1 (List.mem_of_find?_eq_some hq)
    obtain ⟨h1,h2⟩:=hs i hi
    show (if (⟨⟨a::s⟩⟩:ByteArray)[i+1]! < (⟨⟨a::t⟩⟩:ByteArray)[i+1]! then (-1:Int) else 1)=if (⟨⟨s⟩⟩:ByteArray)[i]! < (⟨⟨t⟩⟩:ByteArray)[i]! then -1 else 1
    rw [h1,h2]
  ·have hne:(a != b)=true:=by simpa using hab
   rw [if_pos hne]
   simp only [h0a,h0b]
   have hn:a.toNat≠b.toNat:=fun h=>hab (UInt8.toNat_inj.1 h)
   have hbf:Nat.beq a.toNat b.toNat=false:=by rw [←Bool.not_eq_true,Nat.beq_eq];exact hn
   have aqw:Nat.beq b.toNat a.toNat=false:=by rw [←Bool.not_eq_true,Nat.beq_eq];exact fun h=>hn h.symm
   rw [e1,e2,hbf,aqw]
   by_cases hlt:a<b
   ·have:Nat.ble (Nat.succ a.toNat) b.toNat=true:=Nat.ble_eq_true_of_le (UInt8.lt_iff_toNat_lt.1 hlt)
    rw [if_pos hlt,this];rfl
   ·have h1:Nat.ble (Nat.succ a.toNat) b.toNat=false:=by
     cases h:Nat.ble (Nat.succ a.toNat) b.toNat with
     |false=>rfl
     |true=>exact absurd (UInt8.lt_iff_toNat_lt.2 (Nat.le_of_ble_eq_true h)) hlt
    have h2:Nat.ble (Nat.succ b.toNat) a.toNat=true:=Nat.ble_eq_true_of_le (by
     have h3:¬a.toNat<b.toNat:=fun h=>hlt (UInt8.lt_iff_toNat_lt.2 h)
     show b.toNat+1≤a.toNat
     omega)
    rw [if_neg hlt,h1,h2];rfl
theorem uZ (w:World)(b:Nat):∀ (ns:List Int) (o:Nat) (acc:ByteArray),(∀ (j:Nat) (v:Value),(ns.map (Value.int .u8))[j]? = some v→w.cell? ⟨b,o+j,none⟩=some v)→
  (Bytes.loadBytes ⟨b,o,none⟩ ns.length acc).run P w = .ok ⟨⟨acc.data.toList++ns.map fun n=>UInt8.ofNat n.toNat⟩⟩ w
 |[],o,acc,_=>by simp [Bytes.loadBytes]
 |n::ns,o,acc,h=>by
  have h0:w.cell? ⟨b,o,none⟩=some (.int .u8 n):=by
   have:=h 0 (.int .u8 n) rfl
   simpa using this
  have ih:=uZ w b ns (o+1) (acc.push n.toNat.toUInt8) fun j v hj=>by
   have:=h (j+1) v (by simpa using hj)
   rw [show o+1+j=o+(j+1) by omega]
   exact this
  have e:(⟨b,o,none⟩:Addr).add 1=⟨b,o+1,none⟩:=add_eq ..
  show (Bytes.loadBytes ⟨b,o,none⟩ (ns.length+1) acc).run P w=_
  simp only [Bytes.loadBytes,Sem.run_bind,run_load,h0,Result.andThen_ok,e]
  rw [ih]
  simp [ByteArray.push]
theorem Jg (h:HR P base ρ s w){a:Option Addr}{n k:Nat}{c:Value}{l:List Value}{bs:List UInt8}(hv:VR ρ (.slice a n k) c)(hl:firstCells s 1 n (.slice a n k)=some l)(hb:bytesOf l=some bs) :
  (Bytes.bytesOf c).run P w = .ok ⟨⟨bs⟩⟩ w:=by
 cases hv with
 |bW n c=>
  obtain ⟨_,hl⟩:=au.1 (show guard (Nat.beq n 0) (some [])=some l from hl)
  cases hl
  cases hb
  rfl
 |dead A K=>
  have hl:sel (Nat.beq dN dN) (guard (Nat.beq 0 0) (some [])) (aj (s.cells dN) fun c=>takeN (Nat.mul 0 1) (eY 0 c.1))=some l:=hl
  cases hl
  cases hb
  rfl
 |@slice b o _ _ L hL=>
  have hl:sel (Nat.beq b dN) (guard (Nat.beq n 0) (some [])) (aj (s.cells b) fun c=>takeN (Nat.mul n 1) (eY o c.1))=some l:=hl
  rw [aC] at hl
  split at hl
  ·obtain ⟨hg,hl⟩:=au.1 hl
   have hg:=Nat.eq_of_beq_eq_true hg
   subst hg
   cases hl
   cases hb
   rfl
  ·obtain ⟨⟨cs,e,f⟩,hc,hl2⟩:=ah.1 hl
   rw [qp,iY] at hl2
   obtain ⟨h1,rfl⟩:=hl2
   obtain ⟨q,hq⟩:=h.rows b cs e f hc
   have hql:q=L:=by have:=hq.at_;rw [hL] at this;exact (Option.some.inj this).symm
   subst hql
   have h1':n≤cs.length-o:=by simpa using h1
   have hm:Nat.mul n 1=n:=Nat.mul_one n
   rw [hm] at hb
   by_cases ho:o≤cs.length
   ·obtain ⟨cl,h2,h3,h4⟩:=hq.seg (o:=o) (n:=n) (by omega)
    obtain ⟨ns,rfl,hns⟩:=uf h2 hb
    have h3:ns.length=n:=by simpa using h3
    have:=uZ (P:=P) w q.blk ns (q.off+o) .empty h4
    rw [h3,hns] at this
    exact this
   ·have h0:n=0:=by omega
    subst h0
    cases hb
    rfl
theorem Y9 {C:Cfg}{f:FuncId}(h:lK P f=true)(he:(P.funcs[f]?).bind Extern.find=some BytealgCompare.compare):dh C P f .cmp:=by
 intro base ρ s s' w args aO v hr ha hv
 have hv:Zj s args=some (v,s'):=hv
 unfold Zj at hv
 split at hv
 ·rename_i a la ca b lb cb
  obtain ⟨x,hx,hv⟩:=ah.1 hv
  obtain ⟨x',hx',hv⟩:=ah.1 hv
  obtain ⟨y,hy,hv⟩:=ah.1 hv
  obtain ⟨y',hy',hv⟩:=ah.1 hv
  cases hv
  cases ha with
  |cons h1 h2=>cases h2 with
   |cons h2 h3=>cases h3 with
    |nil=>
     refine ⟨_,ρ,w,?_,Goes.refl hr,.int _ _⟩
     rw [kW h he]
     rename_i c1 c2
     show Result.andThen ((do pure (goInt (BytealgCompare.cmp (←Bytes.bytesOf c1) (←Bytes.bytesOf c2))):Sem Value).run P w) _=_
     simp only [Sem.run_bind,Jg hr h1 hx hx',Jg hr h2 hy hy',Result.andThen_ok,Sem.run_pure,Ph]
     rfl
 ·cases hv
end Go.Ax
namespace Go.Ax
open Go Go.Extern
variable {P:Program} {base:Nat} {ρ:Ren} {s:St} {w:World}
end Go.Ax
namespace Go.Ax
variable [Lo]
open Go
section
variable {P:Program} {W:World}
noncomputable def F6 (L:List (Nat × List Value × TypeId)):St:={ heap:=List.rec (.s 20 0) (fun x _ h=>Hp.set h x.1 (.row x.2.1 x.2.2 0)) L,bG:=.s 20 0,next:=64 }
theorem lZ:∀ {L:List (Nat × List Value × TypeId)} {i:Nat} {r:Row},(F6 L).heap.get i=some r→∃ x∈L,x.1=i∧r = .row x.2.1 x.2.2 0
 |[],i,r,h=>by
  have h:(Hp.s 20 0:Hp Row).get i=some r:=h
  rw [Hp.rM] at h
  cases h
 |x::L,i,r,h=>by
  have h:(Hp.set (F6 L).heap x.1 (Row.row x.2.1 x.2.2 0)).get i=some r:=h
  rw [Hp.fG] at h
  by_cases e:i=x.1
  ·rw [if_pos e] at h
   exact ⟨x,List.mem_cons_self,e.symm,(Option.some.inj h).symm⟩
  ·rw [if_neg e] at h
   obtain ⟨y,hy,h1,h2⟩:=lZ h
   exact ⟨y,List.mem_cons_of_mem _ hy,h1,h2⟩
theorem Cm {L:List (Nat × List Value × TypeId)}{i:Nat}{a:Nat × Nat}(h:(F6 L).tag i=some a):a=(0,i)∧∃ x∈L,x.1=i:=by
 unfold St.tag at h
 cases hg:(F6 L).heap.get i with
 |none=>rw [hg] at h;cases h
 |some r=>
  obtain ⟨x,hx,h1,rfl⟩:=lZ hg
  rw [hg] at h
  simp at h
  exact ⟨h.symm,x,hx,h1⟩
theorem aaN {L:List (Nat × List Value × TypeId)}(hlo:∀ x∈L,x.1<bg)(hW:∀ x∈L,∃ (a:Array Value) (fz:Nat × Nat),W.heap[x.1]? = some (.cells a x.2.2 fz)∧VRs (fun _=>none) x.2.1 a.toList) :
  HR P W.heap.size (fun _=>none) (F6 L) W where
 dom:=fun _ _ h=>by cases h
 next:=Nat.le_refl 64
 dS:=Nat.le_refl _
 low:=fun i hi ht=>by
  cases ht':(F6 L).tag i with
  |none=>exact absurd ht' ht
  |some a=>
   obtain ⟨_,x,hx,rfl⟩:=Cm ht'
   obtain ⟨b,fz,hb,_⟩:=hW x hx
   have:=hlo x hx
   have e:dN=63:=rfl
   have e2:bg=32:=rfl
   exact ⟨by rw [Lo.fix _ this];exact (Array.getElem?_eq_some_iff.1 hb).1,by omega⟩
 bV:=fun i r h=>by
  obtain ⟨x,hx,rfl,_⟩:=lZ h
  have:=hlo x hx
  have e:bg=32:=rfl
  show x.1<64
  omega
 dM:=fun i cs e f h=>by
  obtain ⟨x,hx,rfl,e⟩:=lZ h
  cases e
  show 0<64
  omega
 rows:=fun i cs e f h=>by
  obtain ⟨h1,_⟩:=aG.1 h
  obtain ⟨x,hx,rfl,e'⟩:=lZ h1
  cases e'
  have ars:=hlo x hx
  have e:bg=32:=rfl
  have e2:ak=64:=rfl
  obtain ⟨a,fz,ha,hv⟩:=hW x hx
  refine ⟨⟨x.1,0,0⟩,Ren.Ae (by omega),a,fz,⟨_,ha,fun _=>rfl⟩,fun j y hj=>?_,fun h=>absurd h (by omega),fun _=>⟨rfl,?_,fun h=>absurd h (by omega)⟩,fun h=>absurd rfl h⟩
  ·obtain ⟨z,hz,hyz⟩:=hv.get hj
   refine ⟨z,?_,hyz⟩
   simpa using hz
  ·have:=hv.length
   simpa using this
 maps:=fun i es c h=>by
  obtain ⟨x,hx,_,e⟩:=lZ h
  cases e
 loops:=fun i r h=>by
  obtain ⟨x,hx,_,e⟩:=lZ h
  cases e
 sep:=fun i j a b l l' hi hj hab hl hl' hh=>by
  obtain ⟨rfl,x,hx,e1⟩:=Cm hi
  obtain ⟨rfl,y,hy,e2⟩:=Cm hj
  have:=hlo x hx
  have:=hlo y hy
  have e:bg=32:=rfl
  have e3:ak=64:=rfl
  omega
theorem Oh (ρ:Ren):∀ {l:List Value},flatAll l=true→VRs ρ l l
 |[],_=>.nil
 |a::l,h=>by
  change sel (jI a) (flatAll l) false=true at h
  rw [aC] at h
  split at h
  ·rename_i ha
   exact .cons (zl ρ ha) (Oh ρ h)
  ·cases h
theorem ML {ρ:Ren}:∀ {l c:List Value},flatAll l=true→VRs ρ l c→c=l
 |[],_,_,.nil=>rfl
 |a::l,_,h,.cons hv hl=>by
  change sel (jI a) (flatAll l) false=true at h
  rw [aC] at h
  split at h
  ·rename_i ha
   rw [Dc ha hv,ML h hl]
  ·cases h
noncomputable def zI (s:St)(k:Nat)(cs:List Value):Bool:=Option.casesOn (s.cells k) false fun c=>sel (Nat.beq c.2.2 0) (qR (jG 4) c.1 cs) false
theorem NT {base:Nat}{ρ:Ren}{s:St}{w:World}(h:HR P base ρ s w){k:Nat}{cs:List Value}(hf:flatAll cs=true)(hlo:k<bg)(hk:zI s k cs=true):∃ (t:TypeId) (fz:Nat × Nat),w.heap[k]? = some (.cells ⟨cs⟩ t fz):=by
 unfold zI at hk
 cases hc:s.cells k with
 |none=>rw [hc] at hk;cases hk
 |some c=>
  obtain ⟨cs',e,f⟩:=c
  rw [hc] at hk
  change sel (Nat.beq f 0) (qR (jG 4) cs' cs) false=true at hk
  rw [aC] at hk
  split at hk
  ·rename_i h0
   have h0:f=0:=Nat.eq_of_beq_eq_true h0
   subst h0
   have he:=jQ (fun a b=>jR 4) hk
   subst he
   obtain ⟨l,hat,a,fz,⟨e9,ha,he9⟩,hv,_,h0,_⟩:=h.rows k _ _ _ hc
   have he9:=(he9 (.inl rfl)).symm
   subst he9
   rw [Ren.Ae hlo] at hat
   cases hat
   obtain ⟨_,hsz,_⟩:=h0 rfl
   refine ⟨e,fz,?_⟩
   have hvs:VRs ρ cs' a.toList:=VRs.Xe (by simpa using hsz) fun j x hj=>by
    obtain ⟨y,hy,hxy⟩:=hv j x hj
    exact ⟨y,by simpa using hy,hxy⟩
   have:=ML hf hvs
   rw [←this]
   exact ha
  ·cases hk
end
end Go.Ax
namespace Go.Ax
open Go
noncomputable def repeatL' {α:Type}:Nat→List α→List α
 |0,_=>[]
 |n+1,l=>l++repeatL' n l
variable {H:Type} {enc:TypeId × Value→H} {P:Program}
end Go.Ax
namespace Go.Ax
open Go
inductive LK where
 |int (k:IntKind)
 |bool
 |slice
noncomputable def yT (P:Program)(g:TypeId→Option (List LK)):List Field→Nat→Option (List LK)
 |[],_=>some []
 |f::fs,o=>if f.offset=o then (g f.type).bind fun ks=>if ks.length=P.cellsOf f.type then (yT P g fs (o+ks.length)).map (ks++·) else none else none
noncomputable def wP (P:Program):Nat→TypeId→Option (List LK)
 |0,_=>none
 |n+1,t=>match P.underlying t with
  |some (.int k)=>some [.int k]
  |some .bool=>some [.bool]
  |some (.slice _)=>some [.slice]
  |some (.struct fs)=>(yT P (wP P n) fs.toList 0).bind fun r=>if r.length=P.cellsOf t then some r else none
  |some (.array m e)=>(wP P n e).bind fun ks=>if ks.length=P.cellsOf e∧m*ks.length=P.cellsOf t then some (repeatL' m ks) else none
  |_=>none
inductive wz:LK→Value→Prop
 |int (k:IntKind) (n:Int) (h:(Lit.int k n).wf=true):wz (.int k) (.int k n)
 |bool (b:Bool):wz .bool (.bool b)
 |nil:wz .slice (.slice none 0 0)
 |slice (a:Addr) (n c:Nat):wz .slice (.slice (some a) n c)
inductive bU:List LK→List Value→Prop
 |nil:bU [] []
 |cons {k:LK} {v:Value} {ks:List LK} {vs:List Value} (h:wz k v) (hs:bU ks vs):bU (k::ks) (v::vs)
theorem bU.append:∀ {a b:List LK} {x y:List Value},bU a x→bU b y→bU (a++b) (x++y)
 |_,_,_,_,.nil,hb=>hb
 |_,_,_,_,.cons h hs,hb=>.cons h (hs.append hb)
theorem bU.length:∀ {a:List LK} {x:List Value},bU a x→x.length=a.length
 |_,_,.nil=>rfl
 |_,_,.cons _ hs=>by simp [hs.length]
theorem SQ {P:Program}{g:TypeId→Option (List LK)}{f:Field}{fs:List Field}{o:Nat}{r:List LK}(h:yT P g (f::fs) o=some r) :
  ∃ ks r',f.offset=o∧g f.type=some ks∧ks.length=P.cellsOf f.type∧yT P g fs (o+ks.length)=some r'∧r=ks++r':=by
 unfold yT at h
 split at h
 ·next ho=>
  obtain ⟨ks,hk,h⟩:=Option.bind_eq_some_iff.1 h
  split at h
  ·next hl=>
   obtain ⟨r',hr,rfl⟩:=Option.map_eq_some_iff.1 h
   exact ⟨ks,r',ho,hk,hl,hr,rfl⟩
  ·cases h
 ·cases h
theorem SK {P:Program}{n:Nat}{t:TypeId}{r:List LK}(h:wP P (n+1) t=some r) :
  (∃ k,P.underlying t=some (.int k)∧r=[.int k])∨(P.underlying t=some .bool∧r=[.bool])∨(∃ e,P.underlying t=some (.slice e)∧r=[.slice])∨
   (∃ fs,P.underlying t=some (.struct fs)∧yT P (wP P n) fs.toList 0=some r∧r.length=P.cellsOf t)∨
   (∃ m e ks,P.underlying t=some (.array m e)∧wP P n e=some ks∧ks.length=P.cellsOf e∧m*ks.length=P.cellsOf t∧r=repeatL' m ks):=by
 unfold wP at h
 split at h
 ·next k hk=>cases h;exact .inl ⟨k,hk,rfl⟩
 ·next hk=>cases h;exact .inr (.inl ⟨hk,rfl⟩)
 ·next e hk=>cases h;exact .inr (.inr (.inl ⟨e,hk,rfl⟩))
 ·next fs hf=>
  obtain ⟨r',hr,h⟩:=Option.bind_eq_some_iff.1 h
  split at h
  ·next hl=>cases h;exact .inr (.inr (.inr (.inl ⟨fs,hf,hr,hl⟩)))
  ·cases h
 ·next m e hf=>
  obtain ⟨ks,hr,h⟩:=Option.bind_eq_some_iff.1 h
  split at h
  ·next hl=>cases h;exact .inr (.inr (.inr (.inr ⟨m,e,ks,hf,hr,hl.1,hl.2,rfl⟩)))
  ·cases h
 ·cases h
variable {H:Type} {enc:TypeId × Value→H} {P:Program}
theorem D7 {g:TypeId→Option (List LK)}{cs:List Value}:∀ {fs:List Field} {o:Nat} {r:List LK},yT P g fs o=some r→
  (∀ f∈fs,∀ ks,g f.type=some ks→bU ks ((cs.drop f.offset).take (P.cellsOf f.type)))→bU r ((cs.drop o).take r.length)
 |[],o,r,h,_=>by
  cases h
  simpa using bU.nil
 |f::fs,o,r,h,hall=>by
  obtain ⟨ks,r',ho,hk,hl,hr,rfl⟩:=SQ h
  have h1:=hall f List.mem_cons_self ks hk
  have h2:=D7 hr fun f' hf=>hall f' (List.mem_cons_of_mem _ hf)
  rw [List.length_append,List.take_add,List.drop_drop]
  rw [ho,←hl] at h1
  exact h1.append h2
theorem yZ {cs:List Value}{ks:List LK}:∀ (m o:Nat),(∀ i,i<m→bU ks ((cs.drop (o+i*ks.length)).take ks.length))→bU (repeatL' m ks) ((cs.drop o).take (m*ks.length))
 |0,o,_=>by simpa [repeatL'] using bU.nil
 |m+1,o,h=>by
  have h1:=h 0 (Nat.succ_pos _)
  have h2:=yZ m (o+ks.length) fun i hi=>by
   have:=h (i+1) (Nat.succ_lt_succ hi)
   rw [Nat.succ_mul] at this
   rw [show o+ks.length+i*ks.length=o+(i*ks.length+ks.length) by omega]
   exact this
  rw [show (m+1)*ks.length=ks.length+m*ks.length by rw [Nat.succ_mul,Nat.add_comm],List.take_add,List.drop_drop]
  show bU (ks++repeatL' m ks) _
  refine bU.append ?_ h2
  simpa using h1
theorem vg:∀ {n:Nat} {t:TypeId} {ks:List LK},wP P n t=some ks→∀ {w:World} {b:Nat} {s:Nat→Bool} {h:Bool} {fuel:Nat} {cs:List Value} {x:DataW H × List MemPlace},
  DataW.trod enc P w b s h fuel t cs=some x→bU ks cs
 |0,_,_,hk,_,_,_,_,_,_,_,_=>by cases hk
 |n+1,t,ks,hk,w,b,s,h,fuel,cs,x,hx=>by
  rcases SK hk with ⟨k,ht,rfl⟩|⟨ht,rfl⟩|⟨e,ht,rfl⟩|⟨fs,ht,hf,hl⟩|⟨q,e,ks',ht,hke,hle,hlt,rfl⟩
  ·obtain ⟨m,rfl,_,hw⟩:=DataW.trod_int ht hx
   exact .cons (.int k m hw) .nil
  ·cases fuel with
   |zero=>cases hx
   |succ m=>
    unfold DataW.trod at hx
    rw [ht] at hx
    split at hx <;> simp_all
    exact .cons (.bool _) .nil
  ·rcases DataW.trod_slice ht hx with ⟨hcs,_⟩|⟨a,len,cap,elems,rest,m,_,hcs,_⟩
   ·rw [hcs];exact .cons .nil .nil
   ·rw [hcs];exact .cons (.slice _ _ _) .nil
  ·obtain ⟨xs,m,_,_,hcl,hxl,hall⟩:=DataW.trod_struct ht hx
   have h1:=D7 (cs:=cs) hf fun f hm ks' hk'=>by
    obtain ⟨i,hi,hif⟩:=List.mem_iff_getElem.1 hm
    have hi':i<xs.length:=by rw [hxl];simpa using hi
    have:=hall i f (by rw [←hif];simp)
    rw [List.getElem?_eq_getElem hi'] at this
    exact vg hk' this
   rw [hl,←hcl] at h1
   simpa using h1
  ·obtain ⟨xs,m,_,_,hcl,hxl,hall⟩:=DataW.trod_array ht hx
   have h1:=yZ (cs:=cs) (ks:=ks') q 0 fun i hi=>by
    have:=hall i hi
    have hi':i<xs.length:=by rw [hxl];exact hi
    rw [List.getElem?_eq_getElem hi'] at this
    rw [hle,Nat.zero_add]
    exact vg hke this
   rw [hlt,←hcl] at h1
   simpa using h1
theorem wz.ug {k:IntKind}{v:Value}(h:wz (.int k) v):∃ n,v = .int k n∧(Lit.int k n).wf=true:=by
 cases h with
 |int _ n h=>exact ⟨n,rfl,h⟩
theorem wz.sO {v:Value}(h:wz .slice v):v = .slice none 0 0∨∃ a n c,v = .slice (some a) n c:=by
 cases h with
 |nil=>exact .inl rfl
 |slice a n c=>exact .inr ⟨a,n,c,rfl⟩
end Go.Ax
namespace Go.Ax
open Go
inductive gW (P:Program) (w:World):List jK→List Value→List Loc→Prop
 |nil:gW P w [] [] []
 |cons {c:jK} {cs:List jK} {v:Value} {vs:List Value} {l ls:List Loc} (hf:c.fine P) (hr:jw P w c.rows l)
   (hv:∀ (pre post:List Loc) (k:Nat),pre.length=k→k+l.length≤31→∀ ρ',@VR (fZ (pre++(l++post))) ρ' (c.val k) v) (h:gW P w cs vs ls):gW P w (c::cs) (v::vs) (l++ls)
theorem gW.append {P:Program}{w:World}:∀ {a b:List jK} {x y:List Value} {l m:List Loc},gW P w a x l→gW P w b y m→gW P w (a++b) (x++y) (l++m)
 |_,_,_,_,_,_,.nil,hb=>hb
 |_,_,_,_,_,_,.cons hf hr hv h,hb=>by
  have:=gW.cons hf hr hv (h.append hb)
  rw [←List.append_assoc] at this
  exact this
theorem gW.fine {P:Program}{w:World}:∀ {a:List jK} {x:List Value} {l:List Loc},gW P w a x l→∀ c∈a,c.fine P
 |_,_,_,.nil,c,hc=>by cases hc
 |_,_,_,.cons hf _ _ h,c,hc=>by
  rcases List.mem_cons.1 hc with rfl|hc
  ·exact hf
  ·exact h.fine c hc
theorem gW.rows {P:Program}{w:World}:∀ {a:List jK} {x:List Value} {l:List Loc},gW P w a x l→jw P w (wG a) l
 |_,_,_,.nil=>.nil
 |_,_,_,.cons _ hr _ h=>by rw [yg];exact hr.append h.rows
inductive y5 (P:Program) (w:World):List gY→List Value→List Loc→Prop
 |nil:y5 P w [] [] []
 |one {c:jK} {cs:List gY} {v:Value} {vs:List Value} {l ls:List Loc} (h1:gW P w [c] [v] l) (h:y5 P w cs vs ls):y5 P w (.one c::cs) (v::vs) (l++ls)
 |agg {a:List jK} {cs:List gY} {x vs:List Value} {l ls:List Loc} (h1:gW P w a x l) (h:y5 P w cs vs ls):y5 P w (.agg a::cs) (.agg ⟨x⟩::vs) (l++ls)
theorem gW.ah2 {P:Program}{w:World}{c:jK}{v:Value}{l:List Loc}(h:gW P w [c] [v] l):jw P w c.rows l∧∀ (pre post:List Loc) (k:Nat),pre.length=k→k+l.length≤31→∀ ρ',@VR (fZ (pre++(l++post))) ρ' (c.val k) v:=by
 cases h with
 |cons hf hr hv h=>
  cases h
  rw [List.append_nil]
  exact ⟨hr,hv⟩
theorem y5.rows {P:Program}{w:World}:∀ {a:List gY} {x:List Value} {l:List Loc},y5 P w a x l→jw P w (oN a) l
 |_,_,_,.nil=>.nil
 |_,_,_,.one h1 h=>by rw [qZ];exact h1.ah2.1.append h.rows
 |_,_,_,.agg h1 h=>by rw [qZ];exact h1.rows.append h.rows
inductive AK where
 |int (k:IntKind)
 |bool
 |sl (e:TypeId) (ks:List LK)
noncomputable def Ap:List LK→Bool
 |[]=>true
 |.slice::_=>false
 |_::l=>Ap l
inductive agl:AK→jK→Prop
 |int (k:IntKind) (n:Int) (h:(Lit.int k n).wf=true):agl (.int k) (.raw (.int k n))
 |bool (b:Bool):agl .bool (.raw (.bool b))
 |nil (e:TypeId) (ks:List LK):agl (.sl e ks) (.raw (.slice none 0 0))
 |dead (e:TypeId) (ks:List LK):agl (.sl e ks) (.raw CQ)
 |row (e:TypeId) (ks:List LK) (cs:List Value) (n:Nat) (h0:0<n) (hl:n*ks.length=cs.length) (h:bU (repeatL' n ks) cs):agl (.sl e ks) (.sl cs e n)
inductive H7:List AK→List jK→Prop
 |nil:H7 [] []
 |cons {k:AK} {c:jK} {ks:List AK} {cs:List jK} (h:agl k c) (hs:H7 ks cs):H7 (k::ks) (c::cs)
theorem H7.append:∀ {a b:List AK} {x y:List jK},H7 a x→H7 b y→H7 (a++b) (x++y)
 |_,_,_,_,.nil,hb=>hb
 |_,_,_,_,.cons h hs,hb=>.cons h (hs.append hb)
theorem aas {ks:List LK}{cs:List Value}(hk:Ap ks=true)(h:bU ks cs):flatAll cs=true:=by
 induction h with
 |nil=>rfl
 |@cons k v ks vs h hs ih=>
  show sel (jI v) (flatAll vs) false=true
  cases h with
  |int k n hw=>
   show sel true (flatAll vs) false=true
   rw [aH]
   exact ih hk
  |bool b=>
   show sel true (flatAll vs) false=true
   rw [aH]
   exact ih hk
  |nil=>exact Bool.noConfusion (show false=true from hk)
  |slice a n c=>exact Bool.noConfusion (show false=true from hk)
theorem CU:∀ {a b:List LK},Ap a=true→Ap b=true→Ap (a++b)=true
 |[],_,_,hb=>hb
 |.int k::a,b,h,hb=>CU (a:=a) h hb
 |.bool::a,b,h,hb=>CU (a:=a) h hb
 |.slice::_,_,h,_=>by cases h
theorem CJ {ks:List LK}(h:Ap ks=true):∀ n,Ap (repeatL' n ks)=true
 |0=>rfl
 |n+1=>CU h (CJ h n)
section
variable {H:Type} {enc:TypeId × Value→H} {P:Program}
theorem aeZ {w:World}{v:Value}(h1:Qo v=true){x:Value}(h2:∀ (lo:Lo) (ρ:Ren),@VR lo ρ v x):gW P w [.raw v] [x] []:=
 .cons (l:=[]) (ls:=[]) h1 .nil (fun pre post k _ _ ρ'=>h2 _ ρ') .nil
theorem Qc {w:World}{b:Nat}{a:Addr}{n:Nat}{cs:List Value}(h:w.cells? b a n=some cs)(hn:0<n) :
  ∃ (arr:Array Value) (t:TypeId) (fz:Nat × Nat),a.spot=none∧w.heap[a.block]? = some (.cells arr t fz)∧cs=(arr.toList.drop a.off).take n∧a.off+n≤arr.size:=by
 obtain ⟨hb,hl,hall⟩:=World.cells?_some h
 have hcell:∀ i,i<n→∃ v,w.cell? (a.add i)=some v∧cs[i]? = some v:=fun i hi=>by
  have hi':i<cs.length:=by omega
  exact ⟨cs[i],by rw [hall i hi,List.getElem?_eq_getElem hi'],List.getElem?_eq_getElem hi'⟩
 obtain ⟨blk,off,sp⟩:=a
 have hadd:∀ i,sp=none→(⟨blk,off,sp⟩:Addr).add i=⟨blk,off+i,none⟩:=fun i hs=>by subst hs;exact add_eq _ _ _
 obtain ⟨v0,h0,_⟩:=hcell 0 hn
 have hsp:sp=none:=by
  cases sp with
  |none=>rfl
  |some q=>
   unfold World.cell? Addr.add at h0
   revert h0
   split <;> (try split) <;> simp_all
 subst hsp
 rw [hadd 0 rfl] at h0
 unfold World.cell? at h0
 split at h0
 ·rename_i arr t fz harr
  have harr:w.heap[blk]? = some (.cells arr t fz):=harr
  have hget:∀ i,i<n→∃ v,arr[off+i]? = some v∧cs[i]? = some v:=fun i hi=>by
   obtain ⟨v,h1,h2⟩:=hcell i hi
   rw [hadd i rfl] at h1
   simp only [World.cell?,harr] at h1
   exact ⟨v,by simpa using h1,h2⟩
  have hsz:off+n≤arr.size:=by
   obtain ⟨v,h1,_⟩:=hget (n-1) (by omega)
   have:=(Array.getElem?_eq_some_iff.1 h1).1
   omega
  refine ⟨arr,t,fz,rfl,harr,?_,hsz⟩
  refine List.ext_getElem? fun i=>?_
  rw [List.getElem?_take]
  by_cases hi:i<n
  ·rw [if_pos hi,List.getElem?_drop]
   obtain ⟨v,h1,h2⟩:=hget i hi
   rw [h2]
   simpa using h1.symm
  ·rw [if_neg hi]
   exact List.getElem?_eq_none (by omega)
 ·cases h0
theorem adh {t e:TypeId}(ht:P.underlying t=some (.slice e)){m:Nat}{ks:List LK}(hk:wP P m e=some ks)(hc:ks.length=P.cellsOf e)(h0:0<ks.length)(hf:Ap ks=true)(hs:size P e=some ks.length)(hns:ahq P e=false)
  {w:World} {b:Nat} {held:Bool} {fuel:Nat} {cs:List Value} {x:DataW H × List MemPlace} (h:DataW.trod enc P w b (fun _=>true) held fuel t cs=some x) :
  ∃ c aN,gW P w [c] cs aN∧agl (.sl e ks) c:=by
 rcases Deep.open_slice ht h with ⟨rfl,_⟩|⟨a,len,cap,q,n,D,Pl,rfl,hb,hle,hmax,hq,_,hall⟩
 ·exact ⟨.raw (.slice none 0 0),[],aeZ rfl (fun lo ρ=>@VR.bW lo ρ 0 0),.nil e ks⟩
 ·have hq:q=cap:=by simpa using hq
  subst hq
  by_cases hl:len=0
  ·subst hl
   exact ⟨.raw CQ,[],aeZ rfl (fun lo ρ=>@VR.dead lo ρ a q),.dead e ks⟩
  ·have P7:∀ i,i<q→∃ (arr:Array Value) (tt:TypeId) (fz:Nat × Nat),(a.add (i*ks.length)).spot=none∧w.heap[(a.add (i*ks.length)).block]? = some (.cells arr tt fz)∧bU ks ((arr.toList.drop (a.add (i*ks.length)).off).take ks.length)∧(a.add (i*ks.length)).off+ks.length≤arr.size:=fun i hi=>by
    obtain ⟨cs',h1,h2⟩:=hall i hi
    rw [←hc] at h1
    obtain ⟨arr,tt,fz,g1,g2,g3,g4⟩:=Qc h1 h0
    exact ⟨arr,tt,fz,g1,g2,g3▸vg hk h2,g4⟩
   obtain ⟨blk,off,sp⟩:=a
   obtain ⟨arr,tt,fz,hsp,harr,_,_⟩:=P7 0 (by omega)
   have e0:(⟨blk,off,sp⟩:Addr).add (0*ks.length)=⟨blk,off,sp⟩:=by
    unfold Addr.add
    rw [if_pos (Nat.zero_mul _)]
   rw [e0] at hsp harr
   have hsp:sp=none:=hsp
   subst hsp
   have harr:w.heap[blk]? = some (.cells arr tt fz):=harr
   have hch:∀ i,i<q→bU ks ((arr.toList.drop (off+i*ks.length)).take ks.length)∧off+i*ks.length+ks.length≤arr.size:=fun i hi=>by
    obtain ⟨arr',tt',fz',_,g2,g3,g4⟩:=P7 i hi
    rw [add_eq] at g2 g3 g4
    have g2:w.heap[blk]? = some (.cells arr' tt' fz'):=g2
    rw [harr] at g2
    cases g2
    exact ⟨g3,g4⟩
   have hend:off+q*ks.length≤arr.size:=by
    have:=(hch (q-1) (by omega)).2
    have e:(q-1)*ks.length+ks.length=q*ks.length:=by rw [←Nat.succ_mul,Nat.succ_eq_add_one,Nat.sub_add_cancel (by omega)]
    omega
   have hmul:len*ks.length≤q*ks.length:=Nat.mul_le_mul_right _ hle
   have xX:=yZ (cs:=arr.toList) (ks:=ks) len off fun i hi=>(hch i (by omega)).1
   have hlen:((arr.toList.drop off).take (len*ks.length)).length=len*ks.length:=by simp;omega
   have aga:=aas (CJ hf len) xX
   generalize hrow:(arr.toList.drop off).take (len*ks.length)=row at xX hlen aga
   have hget:∀ (j:Nat) (x:Value),row[j]? = some x→arr[off+j]? = some x:=fun j x hj=>by
    rw [←hrow,List.getElem?_take] at hj
    split at hj
    ·rw [List.getElem?_drop] at hj
     simpa using hj
    ·cases hj
   have aoN:(jK.sl row e len).fine P:=by
    refine ⟨?_,ks.length,hs,h0,hlen.symm⟩
    unfold rowFine
    rw [hns]
    exact aga
   have hat:QY P w (row,e) ⟨blk,off,q⟩:=⟨arr,fz,ks.length,⟨tt,harr⟩,fun j x hj=>⟨x,hget j x hj,fun lo ρ=>@zl lo ρ _ (mg aga hj)⟩,hs,h0,hend,by show row.length≤q*ks.length;omega⟩
   refine ⟨.sl row e len,[⟨blk,off,q⟩],gW.cons (l:=[⟨blk,off,q⟩]) (ls:=[]) aoN (.cons hat .nil) (fun pre post k hk aob ρ'=>?_) .nil,.row e ks row len (by omega) hlen.symm xX⟩
   have hlt:k<31:=by simp at aob;omega
   have e1:bg=32:=rfl
   have e2:ak=64:=rfl
   have key:=@VR.slice (fZ (pre++([⟨blk,off,q⟩]++post))) ρ' (Nat.add bg k) 0 len aA ⟨blk,off,q⟩ (by
    have e:Nat.add bg k=bg+k:=rfl
    rw [e,@Ren.gQ (fZ _) _ _ (by omega)]
    exact congrArg some (Xm (aN:=[]) hk hlt))
   rw [ku] at key
   exact key
end
noncomputable def He (s:St)(G:List (Nat × List Value × TypeId)):St:={ heap:=List.rec s.heap (fun x _ h=>Hp.set h x.1 (.row x.2.1 x.2.2 0)) G,bG:=s.bG,next:=s.next }
theorem mQ {s:St}:∀ {G:List (Nat × List Value × TypeId)} {i:Nat} {r:Row},(He s G).heap.get i=some r→(∃ x∈G,x.1=i∧r = .row x.2.1 x.2.2 0)∨s.heap.get i=some r
 |[],i,r,h=>.inr h
 |x::L,i,r,h=>by
  have h:(Hp.set (He s L).heap x.1 (Row.row x.2.1 x.2.2 0)).get i=some r:=h
  rw [Hp.fG] at h
  by_cases e:i=x.1
  ·rw [if_pos e] at h
   exact .inl ⟨x,List.mem_cons_self,e.symm,(Option.some.inj h).symm⟩
  ·rw [if_neg e] at h
   rcases mQ h with ⟨y,hy,h1,h2⟩|h
   ·exact .inl ⟨y,List.mem_cons_of_mem _ hy,h1,h2⟩
   ·exact .inr h
end Go.Ax
namespace Go.Ax
open Go
structure pW (aN:List Loc) (P:Program) (w:World) (r:List Value × TypeId) (l:Loc):Prop where
 arr:∃ (a:Array Value) (fz:Nat × Nat) (sz:Nat),(∃ e':TypeId,w.heap[l.blk]? = some (.cells a e' fz))∧(∀ (j:Nat) (x:Value),r.1[j]? = some x→∃ y,a[l.off+j]? = some y∧∀ (ρ:Ren),@VR (fZ aN) ρ x y)∧
  size P r.2=some sz∧0<sz∧l.off+l.cap*sz≤a.size∧r.1.length≤l.cap*sz
theorem QY.toL {P:Program}{w:World}{r:List Value × TypeId}{l:Loc}(h:QY P w r l)(aN:List Loc):pW aN P w r l:=by
 obtain ⟨a,fz,sz,h1,h2,h3⟩:=h
 exact ⟨a,fz,sz,h1,fun j x hj=>(h2 j x hj).imp fun y hy=>⟨hy.1,fun ρ=>hy.2 _ ρ⟩,h3⟩
theorem ahx {P:Program}{w:World}{rows:List (List Value × TypeId)}{aN:List Loc}(h:∀ (k:Nat) (r:List Value × TypeId),rows[k]? = some r→∃ l,aN[k]? = some l∧pW aN P w r l)(hlen:rows.length≤31):@HR (fZ aN) P w.heap.size (fun _=>none) (lI rows) w:=by
 obtain ⟨h1,h2,h3⟩:=jE rows
 have e1:bg=32:=rfl
 have e2:ak=64:=rfl
 have e3:dN=63:=rfl
 have hrow:∀ i r,(lI rows).heap.get i=some r→bg≤i∧i<bg+rows.length∧∃ p l,rows[i-bg]? = some p∧r = .row p.1 p.2 i∧pW aN P w p l∧(@Lo.lo (fZ aN) i)=l:=by
  intro i r hi
  rw [h2 i] at hi
  split at hi
  ·rename_i hh
   obtain ⟨p,hp,rfl⟩:=Option.map_eq_some_iff.1 hi
   obtain ⟨l,hl,hat⟩:=h _ _ hp
   refine ⟨hh.1,hh.2,p,l,hp,rfl,hat,?_⟩
   show (if i<bg then (⟨i,0,0⟩:Loc) else (aN[i-bg]?).getD ⟨0,0,0⟩)=l
   rw [if_neg (by omega),hl]
   rfl
  ·cases hi
 have hcell:∀ i cs e f,(lI rows).cells i=some (cs,e,f)→bg≤i∧i<bg+rows.length∧f=i∧∃ l,pW aN P w (cs,e) l∧(@Lo.lo (fZ aN) i)=l:=by
  intro i cs e f hc
  obtain ⟨g1,_⟩:=aG.1 hc
  obtain ⟨a1,a2,p,l,_,g4,g5,g6⟩:=hrow i _ g1
  injection g4 with q1 q2 q3
  subst q1 q2 q3
  exact ⟨a1,a2,rfl,l,g5,g6⟩
 have hblk:∀ r l,pW aN P w r l→l.blk<w.heap.size:=by
  rintro r l ⟨a,fz,sz,⟨_,ha⟩,_⟩
  exact (Array.getElem?_eq_some_iff.1 ha).1
 refine @HR.mk (fZ aN) P w.heap.size (fun _=>none) (lI rows) w (fun _ _ h=>by cases h) (by rw [h1];exact Nat.le_refl _) (Nat.le_refl _) (fun i hi ht=>?_) (fun i r hi=>?_) (fun i cs e f hi=>?_) (fun i cs e f hc=>?_) (fun i es c hi=>?_) (fun i r hi=>?_) (fun i j a b l l' hi hj hab hl hl' hh=>?_)
 ·cases ht':(lI rows).tag i with
  |none=>exact absurd ht' ht
  |some a=>
   obtain ⟨r,hr⟩:=tag_some ht'
   obtain ⟨a1,a2,p,l,_,_,g5,g6⟩:=hrow i _ hr
   rw [g6]
   exact ⟨hblk _ _ g5,by omega⟩
 ·obtain ⟨a1,a2,_⟩:=hrow i r hi
  rw [h1];omega
 ·obtain ⟨a1,a2,p,l,_,g4,_⟩:=hrow i _ hi
  injection g4 with _ _ q3
  rw [h1];omega
 ·obtain ⟨a1,a2,hfi,l,hrw,g6⟩:=hcell i cs e f hc
  obtain ⟨a,fz,sz,ha,hv,hsz,h0,hle,hle2⟩:=hrw
  have hf0:f≠0:=by omega
  have ao3:@Ren.at (fZ aN) (fun _=>none) i=some l:=by rw [@Ren.gQ (fZ aN) (fun _=>none) i (by omega),g6]
  exact ⟨l,@Zi.mk (fZ aN) P (fun _=>none) w i cs e f l ao3 ⟨a,fz,ha.imp fun _ h=>⟨h,fun hh=>by rcases hh with hh|hh <;> omega⟩,fun j x hj=>(hv j x hj).imp fun y hy=>⟨hy.1,hy.2 _⟩,fun hh=>absurd hh (by omega),fun hh=>absurd hh hf0,fun _=>⟨sz,hsz,h0,hle,hle2⟩⟩⟩
 ·obtain ⟨_,_,p,l,_,g4,_⟩:=hrow i _ hi
  cases g4
 ·obtain ⟨_,_,p,l,_,g4,_⟩:=hrow i _ hi
  cases g4
 ·obtain ⟨r,hr⟩:=tag_some hi
  obtain ⟨r',hr'⟩:=tag_some hj
  obtain ⟨a1,a2,_⟩:=hrow i _ hr
  obtain ⟨b1,b2,_⟩:=hrow j _ hr'
  omega
theorem agm {P:Program}{w:World}{rows:List (List Value × TypeId)}{aN:List Loc}{G:List (Nat × List Value × TypeId)}(h0:@HR (fZ aN) P w.heap.size (fun _=>none) (lI rows) w)(hlen:rows.length≤31)(hlo:∀ x∈G,x.1<bg)
  (hW:∀ x∈G,∃ (a:Array Value) (fz:Nat × Nat),w.heap[x.1]? = some (.cells a x.2.2 fz)∧∀ (lo:Lo) (ρ:Ren),@VRs lo ρ x.2.1 a.toList) :
  @HR (fZ aN) P w.heap.size (fun _=>none) (He (lI rows) G) w:=by
 have e1:bg=32:=rfl
 have e2:ak=64:=rfl
 have e3:dN=63:=rfl
 have hn:(He (lI rows) G).next=64:=(jE rows).1
 have akr:∀ i,i<bg→@Lo.lo (fZ aN) i=⟨i,0,0⟩:=fun i hi=>@Lo.fix (fZ aN) i hi
 have hcell:∀ i cs e f,(He (lI rows) G).cells i=some (cs,e,f)→(∃ x∈G,x.1=i∧cs=x.2.1∧e=x.2.2∧f=0)∨(lI rows).cells i=some (cs,e,f):=by
  intro i cs e f hc
  obtain ⟨g1,g2⟩:=aG.1 hc
  rcases mQ g1 with ⟨x,hx,h1,h2⟩|h1
  ·injection h2 with q1 q2 q3
   exact .inl ⟨x,hx,h1,q1,q2,q3⟩
  ·exact .inr (aG.2 ⟨h1,g2⟩)
 refine @HR.mk (fZ aN) P w.heap.size (fun _=>none) _ w (fun _ _ h=>by cases h) (by rw [hn];exact Nat.le_refl _) (Nat.le_refl _) (fun i hi ht=>?_) (fun i r hi=>?_) (fun i cs e f hi=>?_) (fun i cs e f hc=>?_) (fun i es c hi=>?_) (fun i r hi=>?_) (fun i j a b l l' hi hj hab hl hl' hh=>?_)
 ·cases ht':(He (lI rows) G).tag i with
  |none=>exact absurd ht' ht
  |some a=>
   obtain ⟨r,hr⟩:=tag_some ht'
   rcases mQ hr with ⟨x,hx,rfl,_⟩|hr
   ·obtain ⟨b,fz,hb,_⟩:=hW x hx
    have:=hlo x hx
    rw [akr _ this]
    exact ⟨(Array.getElem?_eq_some_iff.1 hb).1,by omega⟩
   ·obtain ⟨_,h2,_⟩:=jE rows
    have hr0:=hr
    rw [h2 i] at hr
    split at hr
    ·rename_i hh
     obtain ⟨p,hp,rfl⟩:=Option.map_eq_some_iff.1 hr
     refine @HR.low (fZ aN) _ _ _ _ _ h0 i hi ?_
     have hfm:(lI rows).bG.get i=some [i]:=by rw [(jE rows).2.2 i,if_pos hh]
     rw [(NV (by omega) hr0 hfm).1]
     simp
    ·cases hr
 ·rcases mQ hi with ⟨x,hx,rfl,_⟩|hi
  ·have:=hlo x hx
   rw [hn];omega
  ·have:=@HR.bV (fZ aN) _ _ _ _ _ h0 i r hi
   rw [(jE rows).1] at this
   rw [hn];exact this
 ·rcases mQ hi with ⟨x,hx,_,h2⟩|hi
  ·injection h2 with _ _ q3
   rw [hn];omega
  ·have:=@HR.dM (fZ aN) _ _ _ _ _ h0 i cs e f hi
   rw [(jE rows).1] at this
   rw [hn];exact this
 ·rcases hcell i cs e f hc with ⟨x,hx,rfl,rfl,rfl,rfl⟩|hc
  ·obtain ⟨a,fz,ha,hv⟩:=hW x hx
   have hxl:=hlo x hx
   refine ⟨⟨x.1,0,0⟩,@Zi.mk (fZ aN) P (fun _=>none) w x.1 x.2.1 x.2.2 0 ⟨x.1,0,0⟩ (@Ren.Ae (fZ aN) _ _ hxl) ⟨a,fz,⟨_,ha,fun _=>rfl⟩,fun j y hj=>?_,fun h=>absurd h (by omega),fun _=>⟨rfl,?_,fun h=>absurd h (by omega)⟩,fun h=>absurd rfl h⟩⟩
   ·letI:Lo:=fZ aN
    obtain ⟨z,hz,hyz⟩:=VRs.get (hv (fZ aN) (fun _=>none)) hj
    exact ⟨z,by simpa using hz,hyz⟩
   ·letI:Lo:=fZ aN
    have:=VRs.length (hv (fZ aN) (fun _=>none))
    simpa using this
  ·exact @HR.rows (fZ aN) _ _ _ _ _ h0 i cs e f hc
 ·rcases mQ hi with ⟨x,_,_,h2⟩|hi
  ·cases h2
  ·exact @HR.maps (fZ aN) _ _ _ _ _ h0 i es c hi
 ·rcases mQ hi with ⟨x,_,_,h2⟩|hi
  ·cases h2
  ·exact @HR.loops (fZ aN) _ _ _ _ _ h0 i r hi
 ·obtain ⟨r,hr⟩:=tag_some hi
  obtain ⟨r',hr'⟩:=tag_some hj
  have lt:∀ i r,(He (lI rows) G).heap.get i=some r→i<64:=fun i r hr=>by
   rcases mQ hr with ⟨x,hx,rfl,_⟩|hr
   ·have:=hlo x hx
    omega
   ·have:=@HR.bV (fZ aN) _ _ _ _ _ h0 i r hr
    rwa [(jE rows).1] at this
  have:=lt i r hr
  have:=lt j r' hr'
  omega
theorem XQ {P:Program}{C:Cfg}(hK:∀ lo:Lo,@dH lo C P){n:Nat}{f:FuncId}{rows:List (List Value × TypeId)}{aN:List Loc}{vals aO:List Value}{w:World}
  (h0:@HR (fZ aN) P w.heap.size (fun _=>none) (lI rows) w) (hlen:rows.length≤31) (hv:@VRs (fZ aN) (fun _=>none) vals aO)
  {G:List (Nat × List Value × TypeId)} (hlo:∀ x∈G,x.1<bg) (hW:∀ x∈G,∃ (a:Array Value) (fz:Nat × Nat),w.heap[x.1]? = some (.cells a x.2.2 fz)∧∀ (lo:Lo) (ρ:Ren),@VRs lo ρ x.2.1 a.toList)
  (hrun:∃ s,(runN C n).1 f vals (He (lI rows) G)=some (.bool true,s)):Calls P f ⟨aO⟩ w fun e w'=>e = .returned (.bool true)∧RowKit.Below w.heap.size w w':=by
 obtain ⟨s,hrun⟩:=hrun
 have hlow:=agm h0 hlen hlo hW
 refine ((@nI (fZ aN) P C (hK _) n).1 f _ _ _ s hrun w.heap.size _ w aO hlow hv).mono ?_
 rintro e w' ⟨c,ρ',rfl,hgo,hvc⟩
 cases hvc
 exact ⟨rfl,@Goes.below (fZ aN) _ _ _ _ _ _ _ _ hlow hgo⟩
end Go.Ax
namespace Go.Ax
open Go
noncomputable section
def J6 (P:Program)(f:FuncId):List FuncId:=(P.funcs[f]?).elim [] P.leadsTo
def Ib (L:FuncId→List FuncId):Nat→List FuncId→List FuncId→Nat→List FuncId:=fun n=>
 Nat.rec (fun _ seen _=>seen.reverse)
  (fun _ ih todo seen m=>List.casesOn todo seen.reverse fun f todo=>sel (dw m f) (ih todo seen m) (ih (dG (L f) todo) (f::seen) (y8 m f))) n
theorem BI (P:Program):∀ (n:Nat) (todo seen:List FuncId) (m:Nat),(∀ x,dw m x=seen.contains x)→Ib (J6 P) n todo seen m=P.closureVia n todo seen
 |0,todo,seen,m,h=>by cases todo <;> rfl
 |n+1,[],seen,m,h=>rfl
 |n+1,f::todo,seen,m,h=>by
  show sel (dw m f) (Ib (J6 P) n todo seen m) (Ib (J6 P) n (dG (J6 P f) todo) (f::seen) (y8 m f))=P.closureVia (n+1) (f::todo) seen
  unfold Program.closureVia
  rw [h f,aC]
  by_cases hc:seen.contains f=true
  ·rw [if_pos hc,if_pos hc]
   exact BI P n todo seen m h
  ·rw [if_neg hc,if_neg hc,aX]
   refine BI P n _ (f::seen) (y8 m f) fun x=>?_
   rw [gq,h x]
   rw [List.contains_cons,Bool.or_comm]
   have e:(x == f)=decide (f=x):=by
    by_cases hx:f=x
    ·subst hx;simp
    ·rw [decide_eq_false hx]
     exact beq_eq_false_iff_ne.2 fun h=>hx h.symm
   rw [e]
def Ze (P:Program):Nat:=1+(P.funcs.toList.map fun g=>(P.leadsTo g).length+1).sum
theorem Qx {P:Program}{f:FuncId}{n:Nat}{l:List FuncId}(hn:Ze P=n)(h:Ib (J6 P) n [f] [] 0=l):P.closure f=l:=by
 have e:P.closure f=P.closureVia (Ze P) [f] []:=rfl
 rw [e,hn,←BI P n [f] [] 0 fun x=>by rw [lM];rfl]
 exact h
theorem abg {P:Program}{s:Start}{func:String}(h:P.funcs.any Func.goes=false):P.goesAt s func=false:=by
 have hg:∀ f,P.goes f=false:=by
  intro f
  unfold Program.goes
  rw [h,Bool.and_false,Bool.or_false]
  rw [List.any_eq_false]
  intro g _
  cases hf:P.funcs[g]? with
  |none=>simp
  |some fn=>
   have:=Array.any_eq_false.1 h
   obtain ⟨hi,rfl⟩:=Array.getElem?_eq_some_iff.1 hf
   simpa using this g hi
 unfold Program.goesAt Program.goesFrom
 have h1:(P.funcNamed func).any P.goes=false:=by
  cases P.funcNamed func with
  |none=>rfl
  |some f=>exact hg f
 rw [h1,Bool.false_or]
 cases s <;> first|rfl|(simp only [List.any_eq_false];intro f _;rw [hg f];simp)
theorem fC {p:Nat→Bool}{k m:Nat}(h1:(List.range' 0 k).all p=true)(h2:(List.range' k m).all p=true):(List.range' 0 (k+m)).all p=true:=by
 have:List.range' 0 (k+m)=List.range' 0 k++List.range' k m:=by
  have:=List.range'_append (s:=0) (m:=k) (n:=m) (step:=1)
  simpa using this.symm
 rw [this,List.all_append,h1,h2]
 rfl
end
end Go.Ax
namespace Go.Ax
open Go
section
variable {H:Type} {enc:TypeId × Value→H} {P:Program}
theorem Ya {t e:TypeId}{q:Nat}{k:IntKind}(ht:P.underlying t=some (.array q e))(he:P.underlying e=some (.int k))(hc:P.cellsOf e=1)(hct:P.cellsOf t=q)
  {w:World} {b:Nat} {s:Nat→Bool} {h:Bool} {fuel:Nat} {cs:List Value} {ns:List Int} {p:List MemPlace}
  (hx:DataW.trod enc P w b s h fuel t cs=some (.agg (ns.map fun n=>.lit (.int k n)),p)):cs=ns.map (Value.int k):=by
 obtain ⟨xs,m,hm,hd,hcl,hxl,hall⟩:=DataW.trod_array ht hx
 have hds:(xs.map (·.1))=ns.map fun n=>DataW.lit (.int k n):=by
  have:=congrArg Prod.fst hd
  simp only [DataW.agg.injEq] at this
  exact this.symm
 have hnl:ns.length=q:=by
  have:=congrArg List.length hds
  simp only [List.length_map] at this
  rw [←this,hxl]
 apply List.ext_getElem
 ·rw [hcl,hct,List.length_map,hnl]
 ·intro i h1 h2
  have hi:i<q:=by rw [hcl,hct] at h1;exact h1
  have h3:=hall i hi
  rw [hc,Nat.mul_one] at h3
  have hix:i<xs.length:=by rw [hxl];exact hi
  rw [List.getElem?_eq_getElem hix] at h3
  have hd1:(cs.drop i).take 1=[cs[i]]:=by
   rw [List.drop_eq_getElem_cons h1]
   rfl
  rw [hd1] at h3
  obtain ⟨n,e1,e2,_⟩:=DataW.trod_int he h3
  have hin:i<ns.length:=by rw [hnl];exact hi
  have h4:(xs.map (·.1))[i]'(by rw [List.length_map];exact hix)=(ns.map fun n=>DataW.lit (.int k n))[i]'(by rw [List.length_map];exact hin):=by
   simp only [hds]
  simp only [List.getElem_map] at h4
  rw [e2] at h4
  simp only [DataW.lit.injEq,Lit.int.injEq,true_and] at h4
  simp only [List.cons.injEq,and_true] at e1
  rw [e1,List.getElem_map,h4]
end
end Go.Ax
