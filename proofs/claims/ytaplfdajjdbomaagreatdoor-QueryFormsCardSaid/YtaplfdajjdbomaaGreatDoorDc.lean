import Derived.Test.YtaplfdajjdbomaaGreatDoorDb
open Nat renaming eq_of_beq_eq_true→qaa,beq→qab,le_of_ble_eq_true→qac,ble→qae,add→qag,mul→qaj,succ→qak,sub→qam,le_refl→qat,add_assoc→qaw,le_add_right→qax,mod→qaD
open Bool renaming and_eq_true→qad,not_eq_true'→qao,or_eq_true→qay,not_eq_true→qaB
open Int renaming ofNat→qaf,negSucc→qan
open List renaming mem_cons_of_mem→qah,mem_cons_self→qai,append_assoc→qal,getElem?_append_left→qap,mem_append_right→qaq,mem_of_getElem?→qar,mem_append_left→qas,getElem?_append_right→qau,getElem?_drop→qav,getElem?_take→qaz,length_append→qaA,length_nil→qaC
set_option linter.unusedSectionVars false
set_option linter.unusedVariables false
set_option maxRecDepth 1000000
namespace Go.Ax
open Go
theorem avY (fr:Fr){ds:Dfs}(h:fr.defers=ds):F fr.vars fr.loc ds=fr:=by subst h;rfl
def Qx (n:Nat)(dst:Option Tmp)(ks:List Nat)(r:JK)(K:JE→aaP):Prop:=
 ∀ e vars loc ds s,keys loc=Ud n dst ks→r e vars loc ds s=K e (F vars loc ds) s
theorem uf {n:Nat}{dst:Option Tmp}{ks:List Nat}{put:JP}(hp:ap5 n dst = .mk put){r:JK}{K:JE→aaP}(hr:Qx n dst ks r K)(e:JE)(v:Value)(vars:Tr Value)(loc:ER)(ds:Dfs)(s:St)(hk:keys loc=ks) :
  put r e v vars loc ds s=K e (Fr.put n (F vars loc ds) dst v) s:=by
 rw [asD hp,hr e _ _ ds s (by rw [Uw,hk])]
 rw [show F (Fr.put n (F vars loc ds) dst v).vars (Fr.put n (F vars loc ds) dst v).loc ds=Fr.put n (F vars loc ds) dst v from avY _ (put_defers n vars loc ds dst v)]
theorem arU {C:Cfg}{rd:Bool}{n:Nat}{ks:List Nat}{o:Oper}{r:JK}{K:JE→aaP}(hr:Qx n o.dst ks r K)(e:JE)(vars:Tr Value)(loc:ER)(ds:Dfs)(s:St)(hk:keys loc=ks) :
  agA C rd n o r e vars loc ds s=aj (execOp C (Fr.ev n (F vars loc ds)) s o.op) (qI e.call e.yield rd n (F vars loc ds) o.dst (K e)):=by
 apply aI
 intro q
 have hg:∀ ds' v s',(fun (fr:Fr) s=>r e fr.vars fr.loc fr.defers s) (Fr.put n (F vars loc ds') o.dst v) s'=K e (Fr.put n (F vars loc ds') o.dst v) s':=by
  intro ds' v s'
  have h:=hr e (Fr.put n (F vars loc ds') o.dst v).vars (Fr.put n (F vars loc ds') o.dst v).loc (Fr.put n (F vars loc ds') o.dst v).defers s' (by rw [Uw,hk])
  exact h
 cases q with
 |val v s=>exact hg ds v s
 |call f args s=>exact aI _ fun q=>hg ds q.1 q.2
 |yield l args s=>exact aI _ fun q=>hg ds q.1 q.2
 |defer f args s=>
  show sel rd none _=sel rd none _
  cases rd with
  |true=>rfl
  |false=>exact hg _ unit s
theorem anz {α:Type}(l:List α):aK l []=l:=by rw [iG,List.append_nil]
theorem apE {C:Cfg}{rd:Bool}{n:Nat}{ks:List Nat}{o:Oper}{put:JP}(hp:ap5 n o.dst = .mk put){r:JK}{K:JE→aaP}(hr:Qx n o.dst ks r K){f:JK}(h:jOp C rd n ks o put r = .mk f)
  (e:JE) (vars:Tr Value) (loc:ER) (ds:Dfs) (s:St) (hk:keys loc=ks) :
  f e vars loc ds s=aj (execOp C (Fr.ev n (F vars loc ds)) s o.op) (qI e.call e.yield rd n (F vars loc ds) o.dst (K e)):=by
 have gen:Box.mk (agA C rd n o r) = .mk f→f e vars loc ds s=aj (execOp C (Fr.ev n (F vars loc ds)) s o.op) (qI e.call e.yield rd n (F vars loc ds) o.dst (K e)):=by
  intro h;have h:=mk_inj h;subst h;exact arU hr e vars loc ds s hk
 have val:Box.rec (motive:=fun _=>Box JK) (fun v=>.mk fun e vars loc ds s=>aj (v vars loc s) fun x=>put r e x vars loc ds s) (.mk (agA C rd n o r)) (apu C n ks o.op) = .mk f→f e vars loc ds s=aj (execOp C (Fr.ev n (F vars loc ds)) s o.op) (qI e.call e.yield rd n (F vars loc ds) o.dst (K e)):=by
  intro h
  cases hv:apu C n ks o.op with
  |bad=>rw [hv] at h;exact gen h
  |mk v=>
   rw [hv] at h
   have h:=mk_inj h;subst h
   rw [←ah7 hv vars loc ds s hk]
   show (aj (v vars loc s) fun x=>put r e x vars loc ds s)=aj (aj (v vars loc s) fun v=>ret v s) _
   rw [aF]
   apply aI;intro x
   exact uf hp hr e x vars loc ds s hk
 unfold jOp at h
 cases ho:o.op <;> rw [ho] at h <;> rw [←ho] <;> try exact val (by rw [ho];exact h)
 all_goals dsimp only at h
 case alloc t=>
  cases hz:zero C.P t with
  |none=>rw [hz] at h;exact gen h
  |some z=>
   rw [hz] at h
   have h:=mk_inj h;subst h
   rw [ho]
   show (jl s.next fun b=>put r e (ptr b 0) vars loc ds { heap:=s.heap.set b (.row z t 0),bZ:=s.bZ,next:=qak b })=aj (aj (zero C.P t) fun z=>s.new (.row z t 0) fun id s=>ret (ptr id 0) s) _
   rw [hz,pJ]
   exact uf hp hr e _ vars loc ds _ hk
 case box t x=>
  obtain ⟨g,h1,h⟩:=bK.1 h
  have h:=mk_inj h;subst h
  rw [ho]
  show (aj (g vars loc) fun v=>jl s.next fun b=>put r e (ptr b 0) vars loc ds { heap:=s.heap.set b (.row (cellsOf v) t 0),bZ:=s.bZ,next:=qak b })=aj (aj (Fr.ev n (F vars loc ds) x) fun v=>s.new (.row (cellsOf v) t 0) fun id s=>ret (ptr id 0) s) _
  rw [ku h1 vars loc ds hk,aF]
  apply aI;intro v
  rw [pJ]
  exact uf hp hr e _ vars loc ds _ hk
 case store t a x=>
  obtain ⟨ga,h1,h⟩:=bK.1 h
  obtain ⟨gx,h2,h⟩:=bK.1 h
  cases hz:size C.P t with
  |none=>rw [hz] at h;exact gen h
  |some m=>
   rw [hz] at h
   have h:=mk_inj h;subst h
   rw [ho]
   show (aj (ga vars loc) fun v=>alU v fun a=>aj (gx vars loc) fun v=>guard (qab (aQ (cellsOf v)) m) (aj (storeCells s a.block a.off (cellsOf v)) fun s=>put r e unit vars loc ds s))=aj (JU C (Fr.ev n (F vars loc ds)) s t a x) _
   show _=aj (aj (Fr.ev n (F vars loc ds) a) fun v=>_) _
   rw [ku h1 vars loc ds hk,ku h2 vars loc ds hk,aF]
   apply aI;intro v
   cases v <;> try rfl
   rename_i p
   cases p with
   |none=>rfl
   |some p=>
    show (aj (Fr.ev n (F vars loc ds) x) fun v=>guard (qab (aQ (cellsOf v)) m) (aj (storeCells s p.block p.off (cellsOf v)) fun s=>put r e unit vars loc ds s))=aj (aj (Fr.ev n (F vars loc ds) x) fun v=>aj (aj (size C.P t) fun n=>guard (qab (aQ (cellsOf v)) n) (storeCells s p.block p.off (cellsOf v))) fun s=>ret unit s) _
    rw [aF]
    apply aI;intro v
    rw [aF,hz]
    show _=aj (guard _ _) _
    rw [cZ]
    cases qab (aQ (cellsOf v)) m with
    |false=>rfl
    |true=>
     apply aI;intro s'
     exact uf hp hr e unit vars loc ds s' hk
 case call c=>
  cases hc:c.callee with
  |builtin b=>simp only [hc] at h;exact gen h
  |invoke a b=>simp only [hc] at h;exact gen h
  |value x=>
   simp only [hc] at h
   cases x with
   |tmp t=>exact gen h
   |const t=>exact gen h
   |global t=>exact gen h
   |func g=>
    have h:Option.casesOn (C.ext g) (sel (C.body g).isSome (dP (UC n ks c.args.toList) fun gs=>.mk fun e vars loc ds s=>aj (gs vars loc) fun args=>aj (e.call g args s) fun q=>put r e q.1 vars loc ds q.2) (.mk (agA C rd n o r))) (fun _=>.mk (agA C rd n o r))=Box.mk f:=h
    cases he:C.ext g with
    |some x=>rw [he] at h;exact gen h
    |none=>
     rw [he] at h
     have h:sel (C.body g).isSome (dP (UC n ks c.args.toList) fun gs=>.mk fun e vars loc ds s=>aj (gs vars loc) fun args=>aj (e.call g args s) fun q=>put r e q.1 vars loc ds q.2) (.mk (agA C rd n o r))=Box.mk f:=h
     cases hb:(C.body g).isSome with
     |false=>rw [hb] at h;exact gen h
     |true=>
      rw [hb] at h
      obtain ⟨gs,h1,h⟩:=bK.1 h
      have h:=mk_inj h;subst h
      rw [ho]
      show (aj (gs vars loc) fun args=>aj (e.call g args s) fun q=>put r e q.1 vars loc ds q.2)=aj (Bq C (Fr.ev n (F vars loc ds)) s c) _
      unfold Bq
      rw [hc,Vb h1 vars loc ds hk,aF]
      apply aI;intro args
      show _=aj (wS C s g (aK [] (aK args []))) _
      rw [anz]
      show _=aj (Option.casesOn (C.ext g) (guard (C.body g).isSome (some (.call g args s))) fun e=>aj (VE C s e args) H9) _
      rw [he,hb]
      show _=aj (e.call g args s) fun q=>K e (Fr.put n (F vars loc ds) o.dst q.1) q.2
      apply aI;intro q
      exact uf hp hr e q.1 vars loc ds q.2 hk
theorem WC {n:Nat}{all:List Oper}{ks:List Nat}{dst:Option Tmp}{g:Option (Nat × Bool)}{put:JP}(hp:ap5 n dst = .mk put){f r:JK}{K:JE→aaP}(hr:Qx n dst ks r K)
  (e:JE) (vars:Tr Value) (loc:ER) (ds:Dfs) (s:St) (hk:keys loc=ks) :
  aik n all g put f r e vars loc ds s=aj (jW n all (F vars loc ds) g) fun b=>sel b (f e vars loc ds s) (K e (Fr.put n (F vars loc ds) dst unit) s):=by
 cases g with
 |none=>rfl
 |some g=>
  apply aI;intro b
  rw [uf hp hr e unit vars loc ds s hk]
theorem ar9 {C:Cfg}{rd:Bool}{n:Nat}{all:List Oper}{ks:List Nat}{o:Oper}{r:JK}{K:JE→aaP}(hr:Qx n o.dst ks r K){f:JK}(h:az9 C rd n all ks o r = .mk f)
  (e:JE) (vars:Tr Value) (loc:ER) (ds:Dfs) (s:St) (hk:keys loc=ks) :
  f e vars loc ds s=an1 C e.call e.yield rd n all o (K e) (F vars loc ds) s:=by
 obtain ⟨put,hp,h⟩:=bK.1 h
 obtain ⟨f',h1,h⟩:=bK.1 h
 have h:=mk_inj h;subst h
 rw [WC hp hr e vars loc ds s hk]
 apply aI;intro b
 rw [apE hp hr h1 e vars loc ds s hk]
theorem aqV {C:Cfg}{rd:Bool}{n:Nat}{all:List Oper}:∀ {ops:List Oper} {ks:List Nat} {f:JK},axq C rd n all ops ks = .mk f→
  ∀ e vars loc ds s,keys loc=ks→f e vars loc ds s=qG C e.call e.yield rd n all ops (F vars loc ds) s:=by
 intro ops
 induction ops with
 |nil=>intro ks f h e vars loc ds s hk;have h:=mk_inj h;subst h;rfl
 |cons o ops ih=>
  intro ks f h e vars loc ds s hk
  obtain ⟨r,h1,h⟩:=bK.1 (show dP (axq C rd n all ops (Ud n o.dst ks)) (fun r=>az9 C rd n all ks o r) = .mk f from h)
  exact ar9 (K:=fun e=>qG C e.call e.yield rd n all ops) (fun e vars loc ds s hk=>ih h1 e vars loc ds s hk) h e vars loc ds s hk
abbrev azf {β:Type}(k:Value→Option β)(r:Res):Option β:=
 match r with
 |.val v _=>k v
 |_=>none
theorem aj1 {C:Cfg}{n:Nat}{ks:List Nat}{o:Op}{v:JV}(h:bor (apu C n ks o) (.mk (aat C n o)) = .mk v)(vars:Tr Value)(loc:ER)(ds:Dfs)(s:St)(hk:keys loc=ks){β:Type}(k:Value→Option β) :
  aj (v vars loc s) k=aj (execOp C (Fr.ev n (F vars loc ds)) s o) (azf k):=by
 cases hv:apu C n ks o with
 |mk w=>
  rw [hv] at h
  have h:=mk_inj h;subst h
  rw [←ah7 hv vars loc ds s hk]
  cases w vars loc s <;> rfl
 |bad=>
  rw [hv] at h
  have h:=mk_inj h;subst h
  show aj (aj (execOp C (Fr.ev n (F vars loc ds)) s o) _) k=_
  rw [aF]
  apply aI;intro r
  cases r <;> rfl
def aty (n:Nat)(dst:Option Tmp)(ks:List Nat)(r:JK)(K:JE→abh):Prop:=
 ∀ e vars loc ds s,keys loc=Ud n dst ks→r e vars loc ds s=K e e.cl e.pend (F vars loc ds) s
def Same (K:JE→abh):Prop:=(∀ e l,K (wC e l)=K e)∧∀ e b,K (zH e b)=K e
theorem FX {call:gX}{yield:dS}{rd:Bool}{n:Nat}{ks:List Nat}{dst:Option Tmp}{k l:aaP}(h:∀ vars loc ds s,keys loc=Ud n dst ks→k (F vars loc ds) s=l (F vars loc ds) s)
  (vars:Tr Value) (loc:ER) (ds:Dfs) (hk:keys loc=ks) (q:Res):qI call yield rd n (F vars loc ds) dst k q=qI call yield rd n (F vars loc ds) dst l q:=by
 have hg:∀ ds' v s',k (Fr.put n (F vars loc ds') dst v) s'=l (Fr.put n (F vars loc ds') dst v) s':=by
  intro ds' v s'
  exact h (Fr.put n (F vars loc ds') dst v).vars (Fr.put n (F vars loc ds') dst v).loc (Fr.put n (F vars loc ds') dst v).defers s' (by rw [Uw,hk])
 cases q with
 |val v s=>exact hg ds v s
 |call f args s=>exact aI _ fun q=>hg ds q.1 q.2
 |yield l args s=>exact aI _ fun q=>hg ds q.1 q.2
 |defer f args s=>
  show sel rd none _=sel rd none _
  cases rd with
  |true=>rfl
  |false=>exact hg _ unit s
theorem aru {C:Cfg}{n:Nat}{fr:Fr}{s:St}{o:Op}{q:Res}(hb:(nC o&&BJ C o)=false)(hx:execOp C (Fr.ev n fr) s o=some q):(nC o&&vJ C q)=false:=by
 cases hq:nC o with
 |false=>rfl
 |true=>
  rw [hq,Bool.true_and] at hb
  rw [Bool.true_and]
  unfold nC at hq
  split at hq
  ·rename_i c
   split at hq
   ·rename_i x hcx
    unfold BJ at hb
    simp only [hcx] at hb
    cases x with
    |func f=>
     have hb:Option.casesOn (C.insert f) false (fun t=>match t with|.pure _=>true|_=>false)=false:=hb
     change Bq C (Fr.ev n fr) s c=some q at hx
     unfold Bq at hx
     obtain ⟨xs,_,hx⟩:=ah.1 hx
     rw [hcx] at hx
     have hx:wS C s f (aK [] (aK xs []))=some q:=hx
     unfold wS at hx
     cases he:C.ext f with
     |none=>
      rw [he] at hx
      obtain ⟨_,hx⟩:=au.1 hx
      cases hx
      show Option.casesOn (C.insert f) false (fun t=>Lh t _)=false
      cases hi:C.insert f with
      |none=>rfl
      |some t=>
       rw [hi] at hb
       cases t <;> first|rfl|(exact Bool.noConfusion hb)
     |some e=>
      rw [he] at hx
      obtain ⟨_,_,hx⟩:=ah.1 hx
      cases hx
      rfl
    |_=>exact Bool.noConfusion hb
   ·cases hq
  ·cases hq
theorem ai1 {C:Cfg}{rd:Bool}{n:Nat}{ks:List Nat}{a:Info}{rest:List Info}{all:List Oper}{put:JP}(hp:ap5 n a.op.dst = .mk put){r:JK}{K:JE→abh}(hs:Same K)(hr:aty n a.op.dst ks r K){f:JK}(h:aja C rd n ks a rest put r = .mk f)
  (e:JE) (vars:Tr Value) (loc:ER) (ds:Dfs) (s:St) (hk:keys loc=ks) :
  (aj (jW n all (F vars loc ds) a.op.guard) fun b=>sel b (f e vars loc ds s) (K e e.cl e.pend (Fr.put n (F vars loc ds) a.op.dst unit) s))=Es C e.call e.yield rd n all e.base a rest (K e) e.cl e.pend (F vars loc ds) s:=by
 have hr':Qx n a.op.dst ks r (fun e=>K e e.cl e.pend):=hr
 unfold aja at h
 unfold Es
 apply aI;intro b
 cases b with
 |false=>rfl
 |true=>
  show f e vars loc ds s=Gz a.cls _ _
  generalize a.cls=c at h ⊢
  match c with
  |0=>
   obtain ⟨v,h1,h⟩:=bK.1 h
   have h:=mk_inj h;subst h
   show (aj (v vars loc s) fun x=>put r e x vars loc ds s)=_
   rw [aj1 h1 vars loc ds s hk]
   apply aI;intro q
   cases q <;> try rfl
   exact uf hp hr' e _ vars loc ds s hk
  |1=>
   obtain ⟨v,h1,h⟩:=bK.1 h
   have h:=mk_inj h;subst h
   show (aj (v vars loc s) fun x=>guard (lH s x) (put r (wC e ({ i:=a.i,op:=a.op.op,fr:={ vars:=vars,loc:=loc,defers:=ds },v:=x }::e.pend)) x vars loc ds s))=_
   rw [aj1 h1 vars loc ds s hk]
   apply aI;intro q
   cases q <;> try rfl
   rename_i x s'
   show guard (lH s x) _=guard (lH s x) _
   rw [uf hp hr' _ x vars loc ds s hk,hs.1]
   rfl
  |2=>
   have h:=mk_inj h;subst h
   apply aI;intro q
   rw [pJ,uf hp hr' (zH e false) _ vars loc ds _ hk,hs.2]
   rfl
  |k+3=>
   show _=aj (execOp C (Fr.ev n (F vars loc ds)) s a.op.op) (yP C e.call e.yield rd n e.base a rest (K e) e.cl e.pend (F vars loc ds))
   cases hb:(nC a.op.op&&BJ C a.op.op) with
   |true=>
    have h:(sel (nC a.op.op&&BJ C a.op.op) (.mk (atc C rd n a rest r)) (jOp C rd n ks a.op put fun e vars loc ds s=>guard (vN C n s a.mask e.pend&&lg s e.base rest) (r (zH e false) vars loc ds s)):Box JK) = .mk f:=h
    rw [hb,aN] at h
    have h:=mk_inj h;subst h
    apply aI;intro q
    have hcl:∀ cl (g:St→Bool),∀ vars loc ds s,keys loc=Ud n a.op.dst ks→guard (g s) (r (zH (wC e e.pend) cl) vars loc ds s)=guard (g s) (K e cl e.pend (F vars loc ds) s):=by
     intro cl g vars loc ds s hk
     rw [hr (zH (wC e e.pend) cl) vars loc ds s hk,hs.2,hs.1]
     rfl
    unfold yP
    rw [FX (k:=fun fr s=>guard (lg s e.base rest) (r (zH (wC e e.pend) true) fr.vars fr.loc fr.defers s)) (l:=fun fr s=>guard (lg s e.base rest) (K e true e.pend fr s)) (hcl true fun s=>lg s e.base rest) vars loc ds hk q,
     FX (k:=fun fr s=>guard (vN C n s a.mask e.pend&&lg s e.base rest) (r (zH (wC e e.pend) false) fr.vars fr.loc fr.defers s)) (l:=fun fr s=>guard (vN C n s a.mask e.pend&&lg s e.base rest) (K e false e.pend fr s)) (hcl false fun s=>vN C n s a.mask e.pend&&lg s e.base rest) vars loc ds hk q]
   |false=>
    have h:(sel (nC a.op.op&&BJ C a.op.op) (.mk (atc C rd n a rest r)) (jOp C rd n ks a.op put fun e vars loc ds s=>guard (vN C n s a.mask e.pend&&lg s e.base rest) (r (zH e false) vars loc ds s)):Box JK) = .mk f:=h
    rw [hb,aP] at h
    rw [apE hp (K:=fun e fr s=>guard (vN C n s a.mask e.pend&&lg s e.base rest) (K e false e.pend fr s)) (fun e vars loc ds s hk=>by
     show guard _ _=guard _ _
     rw [hr (zH e false) vars loc ds s hk,hs.2]
     rfl) h e vars loc ds s hk]
    cases hx:execOp C (Fr.ev n (F vars loc ds)) s a.op.op with
    |none=>rfl
    |some q=>
     rw [show ∀ (f:Res→Option (Fr × St)),aj (some q) f=f q from fun _=>rfl,show ∀ (f:Res→Option (Fr × St)),aj (some q) f=f q from fun _=>rfl]
     unfold yP
     rw [aru hb hx,Bool.and_false,aP]
theorem aor {C:Cfg}{rd:Bool}{n:Nat}{all:List Oper}:∀ {l:List Info} {ks:List Nat} {f:JK},anY C rd n all l ks = .mk f→
  ∀ e vars loc ds s,keys loc=ks→f e vars loc ds s=MG C e.call e.yield rd n all e.base l e.cl e.pend (F vars loc ds) s:=by
 intro l
 induction l with
 |nil=>intro ks f h e vars loc ds s hk;have h:=mk_inj h;subst h;rfl
 |cons a rest ih=>
  intro ks f h e vars loc ds s hk
  obtain ⟨r,h1,h⟩:=bK.1 (show dP (anY C rd n all rest (Ud n a.op.dst ks)) (fun r=>adO C rd n all ks a rest r) = .mk f from h)
  obtain ⟨put,hp,h⟩:=bK.1 h
  obtain ⟨f',h2,h⟩:=bK.1 h
  have h:=mk_inj h;subst h
  have hr:aty n a.op.dst ks r (fun e=>MG C e.call e.yield rd n all e.base rest):=fun e vars loc ds s hk=>ih h1 e vars loc ds s hk
  rw [WC hp (K:=fun e=>MG C e.call e.yield rd n all e.base rest e.cl e.pend) hr e vars loc ds s hk]
  exact ai1 hp ⟨fun e l=>rfl,fun e b=>rfl⟩ hr h2 e vars loc ds s hk
theorem afa {C:Cfg}{n:Nat}{fn:FuncId}{rd:Bool}{id:Nat}{ops:List Oper}{draw:Bool}{f:aw4}(h:ajf C n fn rd id ops draw = .mk f)(call:gX)(yield:dS)(fr:Fr)(s:St) :
  f call yield fr s=aj (sel draw (uj C call yield rd n ops (C.order fn id) fr.fresh s) (qG C call yield rd n ops ops fr.fresh s)) fun r=>some (.normal,r):=by
 cases draw with
 |false=>
  obtain ⟨r,h1,h⟩:=bK.1 (show dP (axq C rd n ops ops []) (fun r=>.mk fun call yield fr s=>aj (r { call:=call,yield:=yield,base:=0,pend:=[],cl:=true } fr.vars [] fr.defers s) afS)=Box.mk f from h)
  have h:=mk_inj h;subst h
  show aj (r _ fr.vars [] fr.defers s) afS=aj (qG C call yield rd n ops ops fr.fresh s) _
  rw [aqV h1 _ _ _ _ _ rfl];rfl
 |true=>
  have h:Option.casesOn (Jv ops (C.order fn id)) .bad (fun l=>dP (anY C rd n ops l []) fun r=>.mk fun call yield fr s=>
   aj (r { call:=call,yield:=yield,base:=s.next,pend:=[],cl:=true } fr.vars [] fr.defers { heap:=s.heap,bZ:=s.bZ,next:=qag s.next (aQ ops) }) afS)=Box.mk f:=h
  show _=aj (aj (Jv ops (C.order fn id)) fun l=>MG C call yield rd n ops s.next l true [] fr.fresh { heap:=s.heap,bZ:=s.bZ,next:=qag s.next (aQ ops) }) _
  cases hp:Jv ops (C.order fn id) with
  |none=>rw [hp] at h;cases h
  |some l=>
   rw [hp] at h
   obtain ⟨r,h1,h⟩:=bK.1 h
   have h:=mk_inj h;subst h
   show aj (r _ fr.vars [] fr.defers _) afS=aj (MG C call yield rd n ops s.next l true [] fr.fresh _) _
   rw [aor h1 _ _ _ _ _ rfl];rfl
theorem anQ {n:Nat}{x:Operand}{g:Fr→Option Value}(h:arM n x = .mk g)(fr:Fr):g fr=fr.ev n x:=by
 cases x with
 |tmp t=>
  have h:sel (ltN t n) (dP (YH (path t)) fun g=>.mk fun fr=>g fr.vars) (.mk fun fr=>fr.ev n (.tmp t))=Box.mk g:=h
  cases hb:ltN t n with
  |true=>
   rw [hb] at h
   obtain ⟨g',h1,h⟩:=bK.1 (show dP (YH (path t)) (fun g=>.mk fun (fr:Fr)=>g fr.vars)=Box.mk g from h)
   have h:=mk_inj h;subst h
   show g' fr.vars=sel (ltN t n) (fr.vars.get t) (nN t fr.loc)
   rw [hb,adb _ g' h1];rfl
  |false=>rw [hb] at h;have h:=mk_inj h;subst h;rfl
 |const v=>have h:=mk_inj h;subst h;rfl
 |global v=>have h:=mk_inj h;subst h;rfl
 |func v=>have h:=mk_inj h;subst h;rfl
theorem aeV (v:Value)(a b:Run)(fr:Fr)(s:St):afX v (a fr s) (b fr s)=yD a b fr s v:=by cases v <;> rfl
theorem anB {C:Cfg}{n:Nat}{fn:FuncId}{rd:Bool}:∀ (c:Code) {f:aw4},Qr C n fn rd c = .mk f→∀ call yield,f call yield=exec C call yield n fn rd c:=by
 intro c
 induction c with
 |skip=>intro f h call yield;have h:=mk_inj h;subst h;rfl
 |region id ops draw=>
  intro f h call yield
  funext fr s
  exact afa h call yield fr s
 |seq a b iha ihb=>
  intro f h call yield
  obtain ⟨ra,h1,h⟩:=bK.1 (show dP (Qr C n fn rd a) (fun ra=>dP (Qr C n fn rd b) fun rb=>.mk fun call yield fr s=>aj (ra call yield fr s) (ni (rb call yield)))=Box.mk f from h)
  obtain ⟨rb,h2,h⟩:=bK.1 h
  have h:=mk_inj h;subst h
  funext fr s
  show aj (ra call yield fr s) (ni (rb call yield))=aj (exec C call yield n fn rd a fr s) (ni (exec C call yield n fn rd b))
  rw [iha h1,ihb h2]
 |cond x a b iha ihb=>
  intro f h call yield
  obtain ⟨g,h0,h⟩:=bK.1 (show dP (arM n x) (fun g=>dP (Qr C n fn rd a) fun ra=>dP (Qr C n fn rd b) fun rb=>.mk fun call yield fr s=>aj (g fr) fun v=>afX v (ra call yield fr s) (rb call yield fr s))=Box.mk f from h)
  obtain ⟨ra,h1,h⟩:=bK.1 h
  obtain ⟨rb,h2,h⟩:=bK.1 h
  have h:=mk_inj h;subst h
  funext fr s
  show (aj (g fr) fun v=>afX v (ra call yield fr s) (rb call yield fr s))=aj (fr.ev n x) (yD (exec C call yield n fn rd a) (exec C call yield n fn rd b) fr s)
  rw [iha h1,ihb h2,anQ h0]
  apply aI;intro v
  exact aeV _ _ _ _ _
 |block id a iha=>
  intro f h call yield
  obtain ⟨ra,h1,h⟩:=bK.1 (show dP (Qr C n fn rd a) (fun ra=>.mk fun call yield fr s=>aj (ra call yield fr s) (y8 id))=Box.mk f from h)
  have h:=mk_inj h;subst h
  funext fr s
  show aj (ra call yield fr s) (y8 id)=aj (exec C call yield n fn rd a fr s) (y8 id)
  rw [iha h1]
 |loop a iha=>
  intro f h call yield
  obtain ⟨ra,h1,h⟩:=bK.1 (show dP (Qr C n fn rd a) (fun ra=>.mk fun call yield fr s=>sJ C fn rd a (iter (ra call yield) 100000) fr s)=Box.mk f from h)
  have h:=mk_inj h;subst h
  funext fr s
  show sJ C fn rd a (iter (ra call yield) 100000) fr s=sJ C fn rd a (iter (exec C call yield n fn rd a) 100000) fr s
  rw [iha h1]
 |scope a iha=>
  intro f h call yield
  have h:sel rd (.mk fun _ _ _ _=>none) (Qr C n fn rd a)=Box.mk f:=h
  funext fr s
  show _=sel rd none (exec C call yield n fn rd a fr s)
  cases rd with
  |true=>have h:=mk_inj h;subst h;rfl
  |false=>rw [iha h];rfl
 |_=>intro f h call yield;have h:=mk_inj h;subst h;rfl
theorem al3 (C:Cfg)(call:gX)(yield:dS)(f:FuncId)(args:List Value)(s:St):amM C call yield f args s=jZ C call yield f args s:=by
 unfold amM
 cases hj:jFn C f with
 |bad=>rfl
 |mk run=>
  show run call yield args s=jZ C call yield f args s
  have h:Option.casesOn (C.body f) .bad (fun c=>dP (Qr C (C.vars f) f false c) fun run=>.mk fun call yield args s=>aj (run call yield (qH args) s) (finish C (Qw C call yield) f))=Box.mk run:=hj
  unfold jZ
  cases hb:C.body f with
  |none=>rw [hb] at h;cases h
  |some c=>
   rw [hb] at h
   obtain ⟨ra,h1,h⟩:=bK.1 h
   have h:=mk_inj h;subst h
   show aj (ra call yield (qH args) s) _=aj (exec C call yield (C.vars f) f false c (qH args) s) _
   rw [anB c h1]
theorem amc (C:Cfg)(call:gX)(yield:dS):anl C call yield=pO C call yield:=by
 funext f args s
 unfold anl pO
 rw [al3]
theorem Gf (C:Cfg):∀ n,KF C n=runN C n:=by
 intro n
 induction n with
 |zero=>rfl
 |succ n ih=>
  show (anl C (KF C n).1 (KF C n).2,rM C (KF C n).1 (KF C n).2)=(pO C (runN C n).1 (runN C n).2,rM C (runN C n).1 (runN C n).2)
  rw [ih,amc]
end Go.Ax
namespace Go.Ax
variable [Lo]
open Go
mutual
inductive RV (π:Ren):Value→Value→Prop
 |bool (b:Bool):RV π (.bool b) (.bool b)
 |int (k:IntKind) (n:Int):RV π (.int k n) (.int k n)
 |string (s:ByteArray):RV π (.string s) (.string s)
 |nY:RV π (.pointer none) (.pointer none)
 |ptr {b o j:Nat} (hb:ak≤b) (h:π b=some ⟨j,0,aC⟩) (hj:ak≤j):RV π (.pointer (some ⟨b,o,none⟩)) (.pointer (some ⟨j,o,none⟩))
 |acK {b o:Nat} (hb:b<ak):RV π (.pointer (some ⟨b,o,none⟩)) (.pointer (some ⟨b,o,none⟩))
 |dW (n c:Nat):RV π (.slice none n c) (.slice none n c)
 |slice {b o n:Nat} {q:Loc} (hb:ak≤b) (h:π b=some q) (hj:ak≤q.blk):RV π (.slice (some ⟨b,o,none⟩) n aC) (.slice (some ⟨q.blk,q.off+o,none⟩) n q.cap)
 |FZ {b o n c j:Nat} (hb:ak≤b) (h:π b=some ⟨j,0,aC⟩) (hj:ak≤j) (hc:c<bf):RV π (.slice (some ⟨b,o,none⟩) n c) (.slice (some ⟨j,o,none⟩) n c)
 |Lc {b o n c:Nat} (hb:b<ak):RV π (.slice (some ⟨b,o,none⟩) n c) (.slice (some ⟨b,o,none⟩) n c)
 |tok (i:Nat) (k:IntKind) (n:Int):RV π (.chan (some i)) (.int k n)
 |toks (i j:Nat):RV π (.chan (some i)) (.chan (some j))
 |opq (n:Nat):RV π (.float .f64 n) (.float .f64 n)
 |alg (lo hi:Nat):RV π (.complex .f32 lo hi) (.complex .f32 lo hi)
 |rng (lo hi:Nat):RV π (.complex .f64 lo hi) (.complex .f64 lo hi)
 |uH:RV π (.map none) (.map none)
 |map {r j:Nat} (h:π r=some ⟨j,0,aC⟩) (hr:ak≤r) (hj:ak≤j):RV π (.map (some r)) (.map (some j))
 |func {f:Fn} {a a' b b':List Value} (hf:∀ l,f ≠ .yield l) (ha:RVs π a a') (hb:RVs π b b'):RV π (.func f ⟨a⟩ ⟨b⟩) (.func f ⟨a'⟩ ⟨b'⟩)
 |nilFunc:RV π .nilFunc .nilFunc
 |iface (t:TypeId) {v v':Value} (h:RV π v v'):RV π (.iface t v) (.iface t v')
 |nilIface:RV π .nilIface .nilIface
 |agg {a a':List Value} (h:RVs π a a'):RV π (.agg ⟨a⟩) (.agg ⟨a'⟩)
 |tuple {a a':List Value} (h:RVs π a a'):RV π (.tuple ⟨a⟩) (.tuple ⟨a'⟩)
inductive RVs (π:Ren):List Value→List Value→Prop
 |nil:RVs π [] []
 |cons {v v':Value} {l l':List Value} (h:RV π v v') (hl:RVs π l l'):RVs π (v::l) (v'::l')
end
def under (ρ π:Ren):Ren:=fun i=>if i<ak then none else match π i with
 |none=>none
 |some q=>if q.blk<ak then none else match ρ q.blk with
  |none=>none
  |some l=>some ⟨l.blk,l.off+q.off,capOf l q.cap⟩
theorem oh {ρ π:Ren}{i:Nat}{q l:Loc}(hi:ak≤i)(hq:π i=some q)(hj:ak≤q.blk)(hl:ρ q.blk=some l):under ρ π i=some ⟨l.blk,l.off+q.off,capOf l q.cap⟩:=by
 unfold under
 rw [if_neg (by omega),hq]
 simp only
 rw [if_neg (by omega),hl]
theorem Lm {ρ π:Ren}{i:Nat}{x:Loc}(h:under ρ π i=some x):ak≤i∧∃ q l,π i=some q∧ak≤q.blk∧ρ q.blk=some l∧x=⟨l.blk,l.off+q.off,capOf l q.cap⟩:=by
 unfold under at h
 split at h
 ·cases h
 ·split at h
  ·cases h
  ·rename_i hi q hq
   split at h
   ·cases h
   ·split at h
    ·cases h
    ·rename_i hj l hl
     cases h
     exact ⟨by omega,q,l,hq,by omega,hl,rfl⟩
theorem rJ (l:Loc):capOf l aC=l.cap:=by
 unfold capOf
 have h1:bf≤aC:=by decide
 rw [if_pos h1];omega
theorem y5 (l:Loc){c:Nat}(h:c<bf):capOf l c=c:=by
 unfold capOf
 rw [if_neg (by omega)]
theorem VR.xw {ρ:Ren}{A:Addr}{n c:Nat}{x:Value}(h:VR ρ (.slice (some A) n c) x) :
  (A.spot=none∧∃ l,ρ.at A.block=some l∧x = .slice (some ⟨l.blk,l.off+A.off,none⟩) n (capOf l c))∨(A=⟨fP,0,none⟩∧n=0∧c=aC∧∃ a c',x = .slice (some a) 0 c'):=by
 cases h with
 |slice hl=>exact .inl ⟨rfl,_,hl,rfl⟩
 |dead a c=>exact .inr ⟨rfl,rfl,rfl,a,c,rfl⟩
mutual
theorem RV.comp {ρ π:Ren}:∀ {v v' c:Value},RV π v v'→VR ρ v' c→VR (under ρ π) v c
 |_,_,_,.bool b,h=>by cases h;exact .bool b
 |_,_,_,.int k n,h=>by cases h;exact .int k n
 |_,_,_,.string s,h=>by cases h;exact .string s
 |_,_,_,.nY,h=>by cases h;exact .nY
 |_,_,_,.ptr (b:=b) (o:=o) hb hq hj,h=>by
  cases h with
  |ptr hl=>
   rename_i l
   rw [Ren.dw hj] at hl
   have:=VR.ptr (ρ:=under ρ π) (b:=b) (o:=o) (l:=⟨l.blk,l.off+0,capOf l aC⟩) (by rw [Ren.dw hb];exact oh hb hq hj hl)
   simpa using this
 |_,_,_,.acK hb,h=>by
  cases h with
  |ptr hl=>
   rw [Ren.kU hb] at hl
   exact .ptr (by rw [Ren.kU hb];exact hl)
 |_,_,_,.dW n c,h=>by cases h;exact .dW n c
 |_,_,_,.slice (b:=b) (o:=o) (n:=n) (q:=q) hb hq hj,h=>by
  rcases VR.xw h with ⟨_,l,hl,rfl⟩|⟨hA,_⟩
  ·have hl:ρ.at q.blk=some l:=hl
   rw [Ren.dw hj] at hl
   have:=VR.slice (ρ:=under ρ π) (b:=b) (o:=o) (n:=n) (c:=aC) (l:=⟨l.blk,l.off+q.off,capOf l q.cap⟩) (by rw [Ren.dw hb];exact oh hb hq hj hl)
   rw [rJ] at this
   simpa [qaw] using this
  ·exfalso
   injection hA with h4
   have e:fP=63:=rfl
   have e2:ak=64:=rfl
   omega
 |_,_,_,.FZ (b:=b) (o:=o) (n:=n) (c:=c) (j:=j) hb hq hj hc,h=>by
  rcases VR.xw h with ⟨_,l,hl,rfl⟩|⟨_,_,hA,_⟩
  ·have hl:ρ.at j=some l:=hl
   rw [Ren.dw hj] at hl
   have:=VR.slice (ρ:=under ρ π) (b:=b) (o:=o) (n:=n) (c:=c) (l:=⟨l.blk,l.off+0,capOf l aC⟩) (by rw [Ren.dw hb];exact oh hb hq hj hl)
   rw [y5 _ hc] at this ⊢
   simpa using this
  ·exfalso
   have e:aC=18446744073709551616:=rfl
   have e2:bf=9223372036854775808:=rfl
   omega
 |_,_,_,.Lc (b:=b) (o:=o) (n:=n) (c:=c) hb,h=>by
  rcases VR.xw h with ⟨_,l,hl,rfl⟩|⟨hA,rfl,rfl,a,c',rfl⟩
  ·have hl:ρ.at b=some l:=hl
   rw [Ren.kU hb] at hl
   exact .slice (by rw [Ren.kU hb];exact hl)
  ·injection hA with h4 h5
   subst h4 h5
   exact .dead _ _
 |_,_,_,.tok i k n,h=>by cases h;exact .tok i k n
 |_,_,_,.toks i j,h=>by cases h;exact .tok i _ _
 |_,_,_,.opq n,h=>by cases h;exact .opq _ _ _
 |_,_,_,.alg lo hi,h=>by cases h with|alg _ _ a n c h1 h2=>exact .alg lo hi a n c h1 h2
 |_,_,_,.rng lo hi,h=>by cases h with|rng _ _ n h1 h2=>exact .rng lo hi n h1 h2
 |_,_,_,.uH,h=>by cases h;exact .uH
 |_,_,_,.map hq hr hj,h=>by
  cases h with
  |map hl=>exact .map (oh hr hq hj hl)
 |_,_,_,.func hf ha hb,h=>by
  cases h with
  |func h1 h2 h3=>
   refine .func ?_ (RVs.comp ha h2) (RVs.comp hb h3)
   cases h1 with
   |func f=>exact .func f
   |method n=>exact .method n
   |methodOf t n=>exact .methodOf t n
   |via t p f b=>exact .via t p f b
   |yield hl=>exact absurd rfl (hf _)
 |_,_,_,.nilFunc,h=>by cases h;exact .nilFunc
 |_,_,_,.iface t hv,h=>by cases h with|iface _ h1=>exact .iface t (RV.comp hv h1)
 |_,_,_,.nilIface,h=>by cases h;exact .nilIface
 |_,_,_,.agg ha,h=>by cases h with|agg h1=>exact .agg (RVs.comp ha h1)
 |_,_,_,.tuple ha,h=>by cases h with|tuple h1=>exact .tuple (RVs.comp ha h1)
theorem RVs.comp {ρ π:Ren}:∀ {l l' c:List Value},RVs π l l'→VRs ρ l' c→VRs (under ρ π) l c
 |_,_,_,.nil,h=>by cases h;exact .nil
 |_,_,_,.cons hv hl,h=>by cases h with|cons h1 h2=>exact .cons (RV.comp hv h1) (RVs.comp hl h2)
end
theorem RVs.get {π:Ren}:∀ {l l':List Value},RVs π l l'→∀ {k:Nat} {v:Value},l[k]? = some v→∃ v',l'[k]? = some v'∧RV π v v'
 |_,_,.nil,k,v,h=>by simp at h
 |_,_,.cons hv hl,0,v,h=>by simp at h;subst h;exact ⟨_,rfl,hv⟩
 |_,_,.cons hv hl,k+1,v,h=>by simp at h;simpa using RVs.get hl h
theorem RVs.length {π:Ren}:∀ {l l':List Value},RVs π l l'→l'.length=l.length
 |_,_,.nil=>rfl
 |_,_,.cons _ hl=>by simp [RVs.length hl]
def XW (π:Ren)(i:Nat):Option Nat:=if i<ak then some i else (π i).map (·.blk)
inductive pG (P:Program) (π:Ren) (s:St) (i:Nat) (cs:List Value) (e:TypeId) (f:Nat):Prop
 |low (hi:i<ak) (hc:s.cells i=some (cs,e,f)) (hv:RVs π cs cs):pG P π s i cs e f
 |whole {j:Nat} {cs':List Value} (hi:ak≤i) (hq:π i=some ⟨j,0,aC⟩) (hj:ak≤j) (hc:s.cells j=some (cs',e,0)) (hf:f=0) (hv:RVs π cs cs'):pG P π s i cs e f
 |fam {j k n f':Nat} {cs':List Value} (hi:ak≤i) (hq:π i=some ⟨j,k*n,aC-k⟩) (hj:ak≤j) (hc:s.cells j=some (cs',e,f')) (hf:f≠0) (hf':f'≠0) (hn:size P e=some n) (hn0:0<n)
   (hk:k≤bf) (hle:k*n+cs.length≤cs'.length) (hv:RVs π cs ((cs'.drop (k*n)).take cs.length)):pG P π s i cs e f
 |known {j o c n:Nat} {cs':List Value} (hi:ak≤i) (hq:π i=some ⟨j,o,c⟩) (hj:ak≤j) (hc:s.cells j=some (cs',e,0)) (hf:f≠0) (hn:size P e=some n) (hn0:0<n) (hcap:c<bf)
   (hle:o+c*n≤cs'.length) (hle2:cs.length≤c*n) (hv:RVs π cs ((cs'.drop o).take cs.length)):pG P π s i cs e f
inductive abl (π:Ren):List MapEntry→List MapEntry→Prop
 |nil:abl π [] []
 |cons {a b:MapEntry} {l l':List MapEntry} (hk:RV π a.key b.key) (hv:RV π a.val b.val) (hb:a.born=b.born) (h:abl π l l'):abl π (a::l) (b::l')
theorem abl.comp {ρ π:Ren}{l l':List MapEntry}(h:abl π l l'):∀ {m:List MapEntry},EsR ρ l' m→EsR (under ρ π) l m:=by
 induction h with
 |nil=>intro m hm;cases hm;exact .nil
 |cons hk hv hb _ ih=>intro m hm;cases hm with|cons h1 h2 h3 h4=>exact .cons (hk.comp h1) (hv.comp h2) (hb.trans h3) (ih h4)
structure Emb (P:Program) (π:Ren) (S s:St):Prop where
 next:ak≤S.next
 dom:∀ i q,π i=some q→ak≤i→i<S.next
 hdom:∀ i r,S.heap.get i=some r→i<S.next
 ath:∀ i cs e f,S.heap.get i=some (.row cs e f)→f<S.next
 cells:∀ i cs e f,S.cells i=some (cs,e,f)→pG P π s i cs e f
 maps:∀ i es c,S.heap.get i=some (.map es c)→ak≤i∧∃ j es',π i=some ⟨j,0,aC⟩∧ak≤j∧s.heap.get j=some (.map es' c)∧abl π es es'
 loops:∀ i q,S.heap.get i≠some (.loop q)
 tags:∀ i j a b x y,S.tag i=some a→S.tag j=some b→a≠b→(ak≤i∨ak≤j)→XW π i=some x→XW π j=some y→s.tag x≠s.tag y
section
variable {P:Program} {base:Nat} {ρ ρ':Ren} {s s' S:St} {w w':World} {π:Ren}
theorem zZ {s:St}{i:Nat}{a:Nat × Nat}(h:s.tag i=some a):(∃ cs e f,s.cells i=some (cs,e,f)∧a=(if f=0 then (0,i) else (1,f)))∨(∃ es c,s.heap.get i=some (.map es c))∨∃ q,s.heap.get i=some (.loop q):=by
 unfold St.tag at h
 split at h
 ·rename_i cs e f hg
  left
  by_cases hf:f=0
  ·subst hf
   simp at h
   exact ⟨cs,e,0,aO.2 ⟨hg,.inl rfl⟩,by simp [h]⟩
  ·rw [if_neg hf] at h
   split at h
   ·rename_i l hl
    split at h
    ·rename_i hm
     cases h
     exact ⟨cs,e,f,aO.2 ⟨hg,.inr ⟨l,hl,hm⟩⟩,by rw [if_neg hf]⟩
    ·cases h
   ·cases h
 ·rename_i es c hg
  exact .inr (.inl ⟨es,c,hg⟩)
 ·rename_i q hg
  exact .inr (.inr ⟨q,hg⟩)
 ·cases h
theorem Emb.alive (he:Emb P π S s)(h:HR P base ρ s w){i:Nat}{a:Nat × Nat}(ht:S.tag i=some a) :
  ∃ x t,XW π i=some x∧s.tag x=some t∧(ak≤i↔ak≤x)∧∀ l,(under ρ π).at i=some l→∃ l',ρ.at x=some l'∧l'.blk=l.blk:=by
 have hhigh:∀ (q:Loc),ak≤i→π i=some q→ak≤q.blk→∀ l,(under ρ π).at i=some l→∃ l',ρ.at q.blk=some l'∧l'.blk=l.blk:=by
  intro q hi hq hj l hl
  rw [Ren.dw hi] at hl
  obtain ⟨_,q',l',h1,h2,h3,rfl⟩:=Lm hl
  rw [hq] at h1
  cases h1
  exact ⟨l',by rw [Ren.dw hj];exact h3,rfl⟩
 have hid:∀ (q:Loc),ak≤i→π i=some q→XW π i=some q.blk:=by
  intro q hi hq
  unfold XW
  rw [if_neg (by omega),hq]
  rfl
 rcases zZ ht with ⟨cs,e,f,hc,_⟩|⟨es,c,hm⟩|⟨q,hq⟩
 ·cases he.cells i cs e f hc with
  |low hi hc hv=>
   refine ⟨i,_,by unfold XW;rw [if_pos hi],dH hc,Iff.rfl,fun l hl=>?_⟩
   rw [Ren.kU hi] at hl
   exact ⟨l,by rw [Ren.kU hi];exact hl,rfl⟩
  |whole hi hq hj hc hf hv=>exact ⟨_,_,hid _ hi hq,dH hc,⟨fun _=>hj,fun _=>hi⟩,hhigh _ hi hq hj⟩
  |fam hi hq hj hc hf hf' hn hn0 hk hle hv=>exact ⟨_,_,hid _ hi hq,dH hc,⟨fun _=>hj,fun _=>hi⟩,hhigh _ hi hq hj⟩
  |known hi hq hj hc hf hn hn0 hcap hle hle2 hv=>exact ⟨_,_,hid _ hi hq,dH hc,⟨fun _=>hj,fun _=>hi⟩,hhigh _ hi hq hj⟩
 ·obtain ⟨hi,j,es',hq,hj,hg,_⟩:=he.maps i es c hm
  exact ⟨_,_,hid _ hi hq,qj hg,⟨fun _=>hj,fun _=>hi⟩,hhigh _ hi hq hj⟩
 ·exact absurd hq (he.loops i q)
theorem HR.ren (h:HR P base ρ s w)(he:Emb P π S s):HR P base (under ρ π) S w where
 dom:=fun i l hi=>by
  obtain ⟨h1,q,l',h2,h3,h4,rfl⟩:=Lm hi
  obtain ⟨d1,d2,d3,d4⟩:=h.dom _ _ h4
  exact ⟨h1,he.dom i q h2 h1,d3,d4⟩
 next:=he.next
 iF:=h.iF
 low:=fun i hi ht=>by
  cases ht':S.tag i with
  |none=>exact absurd ht' ht
  |some a=>
   obtain ⟨x,t,h1,h2,_,_⟩:=he.alive h ht'
   unfold XW at h1
   rw [if_pos hi] at h1
   cases h1
   exact h.low i hi (by rw [h2];simp)
 dO:=he.hdom
 fM:=he.ath
 rows:=fun i cs e f hc=>by
  cases he.cells i cs e f hc with
  |low hi hc' hv=>
   obtain ⟨l,hat,a,fz,ha,AV,hfz,h0,h1⟩:=h.rows i cs e f hc'
   refine ⟨l,by rw [Ren.kU hi] at hat ⊢;exact hat,a,fz,ha,fun j x hj=>?_,hfz,h0,h1⟩
   obtain ⟨y,hy,hxy⟩:=AV j x hj
   obtain ⟨x',hx',hxx⟩:=hv.get hj
   rw [hj] at hx'
   cases hx'
   exact ⟨y,hy,hxx.comp hxy⟩
  |@whole j cs' hi hq hj hc' hf hv=>
   obtain ⟨l,hat,a,fz,ha,AV,hfz,h0,h1⟩:=h.rows j cs' e 0 hc'
   rw [Ren.dw hj] at hat
   obtain ⟨g1,g2,g3⟩:=h0 rfl
   refine ⟨⟨l.blk,l.off+0,capOf l aC⟩,by rw [Ren.dw hi];exact oh hi hq hj hat,a,fz,ha.imp fun _ h=>⟨h.1,fun _=>h.2 (.inl rfl)⟩,fun k x hk=>?_,fun _=>hfz hj,fun _=>⟨by show l.off+0=0;omega,by rw [g2,hv.length],fun _=>g3 hj⟩,fun hne=>absurd hf hne⟩
   obtain ⟨x',hx',hxx⟩:=hv.get hk
   obtain ⟨y,hy,hxy⟩:=AV k x' hx'
   exact ⟨y,by show a[l.off+0+k]? = _;simpa using hy,hxx.comp hxy⟩
  |@fam j k n f' cs' hi hq hj hc' hf hf' hn hn0 hk hle hv=>
   obtain ⟨l,hat,a,fz,ha,AV,hfz,h0,h1⟩:=h.rows j cs' e f' hc'
   rw [Ren.dw hj] at hat
   obtain ⟨n',hn',_,g1,g2⟩:=h1 hf'
   rw [hn] at hn'
   cases hn'
   have hb1:aC=18446744073709551616:=rfl
   have hb2:bf=9223372036854775808:=rfl
   have hcap:capOf l (aC-k)=l.cap-k:=by
    unfold capOf
    rw [if_pos (by omega)]
    omega
   have hkn:k*n≤l.cap*n:=by omega
   have hkl:k≤l.cap:=Nat.le_of_mul_le_mul_right hkn hn0
   have hsub:(l.cap-k)*n=l.cap*n-k*n:=Nat.sub_mul ..
   refine ⟨⟨l.blk,l.off+k*n,capOf l (aC-k)⟩,by rw [Ren.dw hi];exact oh hi hq hj hat,a,fz,ha.imp fun _ h=>⟨h.1,fun _=>h.2 (.inr hj)⟩,fun t x ht=>?_,fun _=>hfz hj,fun h0=>absurd h0 hf,fun _=>⟨n,hn,hn0,?_,?_⟩⟩
   ·obtain ⟨x',hx',hxx⟩:=hv.get ht
    have htl:t<cs.length:=(List.getElem?_eq_some_iff.1 ht).1
    rw [qaz,if_pos htl,qav] at hx'
    obtain ⟨y,hy,hxy⟩:=AV _ x' hx'
    exact ⟨y,by show a[l.off+k*n+t]? = _;rw [qaw];exact hy,hxx.comp hxy⟩
   ·show l.off+k*n+capOf l (aC-k)*n≤a.size
    rw [hcap,hsub];omega
   ·show cs.length≤capOf l (aC-k)*n
    rw [hcap,hsub];omega
  |@known j o c n cs' hi hq hj hc' hf hn hn0 hcap hle hle2 hv=>
   obtain ⟨l,hat,a,fz,ha,AV,hfz,h0,h1⟩:=h.rows j cs' e 0 hc'
   rw [Ren.dw hj] at hat
   obtain ⟨g1,g2,g3⟩:=h0 rfl
   refine ⟨⟨l.blk,l.off+o,capOf l c⟩,by rw [Ren.dw hi];exact oh hi hq hj hat,a,fz,ha.imp fun _ h=>⟨h.1,fun _=>h.2 (.inl rfl)⟩,fun t x ht=>?_,fun _=>hfz hj,fun h0=>absurd h0 hf,fun _=>⟨n,hn,hn0,?_,?_⟩⟩
   ·obtain ⟨x',hx',hxx⟩:=hv.get ht
    have htl:t<cs.length:=(List.getElem?_eq_some_iff.1 ht).1
    rw [qaz,if_pos htl,qav] at hx'
    obtain ⟨y,hy,hxy⟩:=AV _ x' hx'
    exact ⟨y,by show a[l.off+o+t]? = _;rw [qaw];exact hy,hxx.comp hxy⟩
   ·show l.off+o+capOf l c*n≤a.size
    rw [y5 _ hcap];omega
   ·show cs.length≤capOf l c*n
    rw [y5 _ hcap];exact hle2
 maps:=fun i es c hi=>by
  obtain ⟨h1,j,es',hq,hj,hg,hes⟩:=he.maps i es c hi
  obtain ⟨l,hl,m,hm,hr⟩:=h.maps j es' c hg
  exact ⟨_,oh h1 hq hj hl,m,hm,hes.comp hr⟩
 loops:=fun i q hi=>absurd hi (he.loops i q)
 sep:=fun i j a b l l' hi hj hab hl hl' hh=>by
  obtain ⟨x,t,h1,h2,h3,h4⟩:=he.alive h hi
  obtain ⟨y,u,g1,g2,g3,g4⟩:=he.alive h hj
  obtain ⟨lx,hlx,e1⟩:=h4 l hl
  obtain ⟨ly,hly,e2⟩:=g4 l' hl'
  rw [←e1,←e2]
  refine h.sep x y t u lx ly h2 g2 ?_ hlx hly ?_
  ·intro e
   exact he.tags i j a b x y hi hj hab hh h1 g1 (by rw [h2,g2,e])
  ·rcases hh with hh|hh
   ·exact .inl (h3.1 hh)
   ·exact .inr (g3.1 hh)
theorem Emb.owned (he:Emb P π S s)(h:HR P base ρ s w){b:Nat}(ho:xO (under ρ π) S b):xO ρ s b:=by
 obtain ⟨i,l,a,h1,h2,h3,h4⟩:=ho
 obtain ⟨x,t,g1,g2,g3,g4⟩:=he.alive h h2
 obtain ⟨l',hl',e⟩:=g4 l (by rw [Ren.dw h1];exact h3)
 have hx:=g3.1 h1
 exact ⟨x,l',t,hx,g2,by rw [←Ren.dw (ρ:=ρ) hx];exact hl',by rw [e,h4]⟩
def Keeps (N:Nat)(π:Ren):Prop:=∀ i,ak≤i→i<N→π i=some ⟨i,0,aC⟩
theorem Keeps.under {N:Nat}(hk:Keeps N π)(h:HR P base ρ s w){i:Nat}(hi:i<N):under ρ π i=ρ i:=by
 by_cases hlo:i<ak
 ·unfold Ax.under
  rw [if_pos hlo]
  cases hr:ρ i with
  |none=>rfl
  |some l=>have:=(h.dom i l hr).1;omega
 ·have hq:=hk i (by omega) hi
  unfold Ax.under
  rw [if_neg hlo,hq]
  simp only
  rw [if_neg hlo]
  cases hr:ρ i with
  |none=>rfl
  |some l=>simp [rJ]
theorem Goes.XY (h:HR P base ρ s w)(hg:Goes P base ρ s w ρ' s' w')(he:Emb P π S s')(hk:Keeps s.next π)(hn:s.next≤S.next):Goes P base ρ s w (under ρ' π) S w' where
 le:=fun i l hi=>by
  have hlt:=(h.dom i l hi).2.1
  rw [hk.under hg.hr hlt]
  exact hg.le i l hi
 hr:=hg.hr.ren he
 os:=hg.os
 tape:=hg.tape
 output:=hg.output
 grow:=hg.grow
 next:=hn
 frame:=hg.frame
 own:=fun b hb=>hg.own b (he.owned hg.hr hb)
 old:=fun i hi=>by rw [hk.under hg.hr hi];exact hg.old i hi
structure PG (π:Ren) (n:Nat) (F fr:Fr):Prop where
 get:∀ t v,F.get n t=some v→∃ v',fr.get n t=some v'∧RV π v v'
 defers:F.defers=[]∧fr.defers=[]
theorem JI.ren (he:Emb P π S s)(h:HR P base ρ s w){l:List (FuncId × List Value)}{ds:List Deferred}(hd:JI ρ s w l ds)(hl:l=[]):JI (Ax.under ρ π) S w [] ds:=by
 induction hd with
 |nil=>exact .nil
 |cons ht ha hv _ ih=>cases hl
 |mark hm hlt _ ih=>exact .mark ⟨hm.1,fun ho=>hm.2.1 (he.owned h ho),hm.2.2⟩ hlt (ih hl)
theorem FrR.ren (he:Emb P π S s)(h:HR P base ρ s w){mk:Option Nat}{n nt:Nat}{F fr:Fr}{a:Act}(hf:FrR mk n nt ρ s w fr a)(hfe:PG π n F fr):FrR mk n nt (Ax.under ρ π) S w F a:=by
 refine ⟨hf.size,fun t v ht=>?_,?_,hf.wu⟩
 ·obtain ⟨v',h1,h2⟩:=hfe.get t v ht
  exact h2.comp (hf.tmps t v' h1)
 ·rw [hfe.defers.1]
  exact hf.defers.ren he h hfe.defers.2
theorem aje {B:Nat}{C:Cfg}(hK:eX C P){call:gX}{yield:dS}(hc:uU P call)(hy:pz P yield)(hQ:qJ C call){fn:FuncId}{c body:Code}(hb:C.body fn=some c)(hp:PartOf c (.loop body))
  {e:Ex} {fr fr':Fr} {s s':St} (R:Nat→Fr→St→Prop)
  (hstep:∀ k fr2 s2,R k fr2 s2→∃ k',k=k'+1∧∃ e1 fr1 s1,exec C call yield (C.vars fn) fn false body fr2 s2=some (e1,fr1,s1)∧
   ((e1 = .normal∧∃ π fr3 s3,PG π (C.vars fn) fr3 fr1∧Emb P π s3 s1∧Keeps s.next π∧s.next≤s3.next∧R k' fr3 s3)∨
    (e1 ≠ .normal∧e1=e∧∃ π,PG π (C.vars fn) fr' fr1∧Emb P π s' s1∧Keeps s.next π∧s.next≤s'.next)))
  {k:Nat} (h0:∃ π fr3 s3,PG π (C.vars fn) fr3 fr∧Emb P π s3 s∧Keeps s.next π∧s.next≤s3.next∧R k fr3 s3)
  {ρ:Ren} {a:Act} {w:World} {mk:Option Nat} {m nt:Nat} {Q:Exit→Act→World→Prop} (hok:qg nt body=true) (hnr:mk=none→GZ body=true)
  (hr:HR P B ρ s w) (hf:FrR mk (C.vars fn) nt ρ s w fr a) (hlo:∀ k,mk=some k→k≤w.heap.size)
  (hq:∀ ρ' w' a',Goes P B ρ s w ρ' s' w'→FrR mk (C.vars fn) nt ρ' s' w' fr' a'→Q (exq e) a' w'):(Code.loop body).wpIn (Fro none) m P Q a w:=by
 refine wpIn_loop_rounds k ?_
 have key:∀ (k:Nat) (fr2:Fr) (s2:St) (ρ1:Ren) (a1:Act) (w1:World),R k fr2 s2→Goes P B ρ s w ρ1 s2 w1→FrR mk (C.vars fn) nt ρ1 s2 w1 fr2 a1→Code.roundsIn (Fro none) m P body Q k a1 w1:=by
  intro k
  induction k with
  |zero=>
   intro fr2 s2 ρ1 a1 w1 hR
   obtain ⟨k',hk,_⟩:=hstep 0 fr2 s2 hR
   omega
  |succ k ih=>
   intro fr2 s2 ρ1 a1 w1 hR hg hf
   obtain ⟨k',hk,e1,fr1,s1,hex,hres⟩:=hstep (k+1) fr2 s2 hR
   have hk':k=k':=by omega
   subst hk'
   rw [roundsIn_succ]
   refine Oy hK hc hy hQ hK.mix (ro:=none) (m:=m) (n:=C.vars fn) (nt:=nt) (mk:=mk) (fn:=fn) (c0:=c) (fun _=>⟨rfl,fun b hb'=>hK.loops fn c b hb hb'⟩) body hp.loop hok hnr fr2 s2 e1 fr1 s1 ρ1 a1 w1 _ hex hg.hr hf (fun k hk=>Nat.le_trans (hlo k hk) hg.grow) ?_
   intro ρ2 w2 a2 hg2 hf2
   have axt:=hg.trans hg2
   rcases hres with ⟨rfl,π,fr3,s3,h1,h2,h3,h4,h5⟩|⟨hne,rfl,π,h1,h2,h3,h4⟩
   ·exact ih fr3 s3 _ a2 w2 h5 (Goes.XY hr axt h2 h3 h4) (FrR.ren h2 axt.hr hf2 h1)
   ·have:=hq _ w2 a2 (Goes.XY hr axt h2 h3 h4) (FrR.ren h2 axt.hr hf2 h1)
    cases e1 with
    |normal=>exact absurd rfl hne
    |exit id=>exact this
    |ret=>exact this
 obtain ⟨π,fr3,s3,h1,h2,h3,h4,h5⟩:=h0
 exact key k fr3 s3 _ a w h5 (Goes.XY hr (Goes.refl hr) h2 h3 h4) (FrR.ren h2 hr hf h1)
end
end Go.Ax
namespace Go.Ax
variable [Lo]
open Go
section
variable {P:Program} {base:Nat} {ρ ρ':Ren} {s s' s1:St} {w w':World}
noncomputable def Um (s:St)(cs:List Value)(e:TypeId):St:={ heap:=s.heap.set s.next (.row cs e s.next),bZ:=s.bZ.set s.next [s.next],next:=qak s.next }
end
end Go.Ax
namespace Go.Ax
variable [Lo]
open Go
section
variable {P:Program} {base:Nat} {ρ ρ1:Ren} {s s' S0 S1:St} {w w':World}
structure Sub (S0 s:St):Prop where
 next:S0.next=s.next
 row:∀ i r,S0.heap.get i=some r→s.heap.get i=some r
 fam:∀ f l,S0.bZ.get f=some l→∃ l',s.bZ.get f=some l'∧∀ j,j∈l→j∈l'
theorem Sub.tag (hs:Sub S0 s){i:Nat}{a:Nat × Nat}(h:S0.tag i=some a):s.tag i=some a:=by
 unfold St.tag at h ⊢
 cases hg:S0.heap.get i with
 |none=>simp [hg] at h
 |some r=>
  rw [hs.row i r hg]
  simp only [hg] at h
  cases r with
  |row cs e f=>
   simp only at h ⊢
   by_cases h0:f=0
   ·simpa [h0] using h
   ·simp only [h0,if_false] at h ⊢
    cases hf:S0.bZ.get f with
    |none=>simp [hf] at h
    |some l=>
     obtain ⟨l',h1,h2⟩:=hs.fam f l hf
     simp only [hf] at h
     split at h
     ·rename_i hm
      simpa [h1,h2 i hm] using h
     ·cases h
  |map es c=>exact h
  |loop q=>exact h
  |other=>exact h
theorem Sub.cells (hs:Sub S0 s){i:Nat}{c:List Value × TypeId × Nat}(h:S0.cells i=some c):s.cells i=some c:=by
 obtain ⟨cs,e,f⟩:=c
 obtain ⟨h1,h2⟩:=aO.1 h
 refine aO.2 ⟨hs.row i _ h1,?_⟩
 rcases h2 with h2|⟨l,hl,hm⟩
 ·exact .inl h2
 ·obtain ⟨l',h3,h4⟩:=hs.fam f l hl
  exact .inr ⟨l',h3,h4 i hm⟩
theorem HR.less (h:HR P base ρ s w)(hs:Sub S0 s):HR P base ρ S0 w where
 dom:=fun i l hi=>by rw [hs.next];exact h.dom i l hi
 next:=by rw [hs.next];exact h.next
 iF:=h.iF
 low:=fun i hi ht=>by
  cases ht':S0.tag i with
  |none=>exact absurd ht' ht
  |some a=>exact h.low i hi (by rw [hs.tag ht'];simp)
 dO:=fun i r hi=>by rw [hs.next];exact h.dO i r (hs.row i r hi)
 fM:=fun i cs e f hi=>by rw [hs.next];exact h.fM i cs e f (hs.row i _ hi)
 rows:=fun i cs e f hc=>h.rows i cs e f (hs.cells hc)
 maps:=fun i es c hi=>h.maps i es c (hs.row i _ hi)
 loops:=fun i r hi=>h.loops i r (hs.row i _ hi)
 sep:=fun i j a b l l' hi hj=>h.sep i j a b l l' (hs.tag hi) (hs.tag hj)
theorem HR.au9 (h:HR P base ρ s w){i:Nat}{a:Nat × Nat}(ht:s.tag i=some a):i<s.next:=by
 cases hg:s.heap.get i with
 |none=>unfold St.tag at ht;simp [hg] at ht
 |some r=>exact h.dO i r hg
structure Over (S0 S1 s s':St):Prop where
 next:s'.next=S1.next
 dom:∀ i r,s'.heap.get i=some r→i<S1.next
 ath:∀ i cs e f,s'.heap.get i=some (.row cs e f)→f<S1.next
 tag:∀ i a,s'.tag i=some a→(ak≤i∧S1.tag i=some a)∨(s.tag i=some a∧∀ j,ak≤j→S0.tag j≠some a)
 cells:∀ i c,s'.cells i=some c→S1.cells i=some c∨(s.cells i=some c∧∀ j,ak≤j→S0.tag j≠s.tag i)
 maps:∀ i es c,s'.heap.get i=some (.map es c)→S1.heap.get i=some (.map es c)∨(s.heap.get i=some (.map es c)∧∀ j,ak≤j→S0.tag j≠some (0,i))
 loops:∀ i q,s'.heap.get i=some (.loop q)→S1.heap.get i=some (.loop q)∨(s.heap.get i=some (.loop q)∧∀ j,ak≤j→S0.tag j≠some (0,i))
theorem Goes.over (h:HR P base ρ s w)(hs:Sub S0 s)(hg:Goes P base ρ S0 w ρ1 S1 w')(ho:Over S0 S1 s s'):Goes P base ρ s w ρ1 s' w':=by
 have hle:=hg.le
 have azI:∀ i a l,s.tag i=some a→(∀ j,ak≤j→S0.tag j≠some a)→ρ.at i=some l→w'.heap[l.blk]? = w.heap[l.blk]?:=by
  intro i a l hi hn hl
  refine hg.frame _ (h.rQ hi hl) ?_
  rintro ⟨j,q,b,hj,hb,hq,e⟩
  exact h.sep j i b a q l (hs.tag hb) hi (fun e'=>hn j hj (by rw [hb,e'])) (by rw [Ren.dw hj];exact hq) hl (.inl hj) e
 have hold:∀ i a l,s.tag i=some a→ρ1.at i=some l→ρ.at i=some l:=by
  intro i a l hi hl
  by_cases hlo:i<ak
  ·rw [Ren.kU hlo] at hl ⊢;exact hl
  ·rw [Ren.dw (by omega)] at hl ⊢
   rw [←hg.old i (by rw [hs.next];exact h.au9 hi)];exact hl
 refine ⟨hle,⟨fun i l hi=>?_,?_,hg.hr.iF,fun i hi ht=>?_,fun i r hi=>?_,fun i cs e f hi=>?_,fun i cs e f hc=>?_,fun i es c hi=>?_,fun i r hi=>?_,fun i j a b l l' hi hj hab hl hl'=>?_⟩,
  hg.os,hg.tape,hg.output,hg.grow,?_,fun b hb hn=>?_,fun b hb=>?_,fun i hi=>?_⟩
 ·rw [ho.next];exact hg.hr.dom i l hi
 ·rw [ho.next];exact hg.hr.next
 ·cases ht':s'.tag i with
  |none=>exact absurd ht' ht
  |some a=>
   rcases ho.tag i a ht' with ⟨h1,_⟩|⟨h1,_⟩
   ·omega
   ·exact h.low i hi (by rw [h1];simp)
 ·rw [ho.next];exact ho.dom i r hi
 ·rw [ho.next];exact ho.ath i cs e f hi
 ·rcases ho.cells i _ hc with h1|⟨h1,h2⟩
  ·exact hg.hr.rows i cs e f h1
  ·obtain ⟨l,hl⟩:=h.rows i cs e f h1
   exact ⟨l,hl.move hle (azI i _ l (dH h1) (fun j hj=>by rw [←dH h1];exact h2 j hj) hl.at_)⟩
 ·rcases ho.maps i es c hi with h1|⟨h1,h2⟩
  ·exact hg.hr.maps i es c h1
  ·obtain ⟨l,hl,es',h3,h4⟩:=h.maps i es c h1
   exact ⟨l,hle _ _ hl,es',by rw [azI i _ l (qj h1) h2 (by rw [Ren.dw (h.dom i l hl).1];exact hl)];exact h3,h4.mono hle⟩
 ·rcases ho.loops i r hi with h1|⟨h1,h2⟩
  ·exact hg.hr.loops i r h1
  ·obtain ⟨l,hl,q,h3,h4⟩:=h.loops i r h1
   exact ⟨l,hle _ _ hl,q,by rw [azI i _ l (kR h1) h2 (by rw [Ren.dw (h.dom i l hl).1];exact hl)];exact h3,h4.mono hle⟩
 ·rcases ho.tag i a hi with ⟨hi1,hi2⟩|⟨hi1,hi2⟩ <;> rcases ho.tag j b hj with ⟨hj1,hj2⟩|⟨hj1,hj2⟩
  ·exact hg.hr.sep i j a b l l' hi2 hj2 hab hl hl'
  ·intro hh
   have hl2:=hold j b l' hj1 hl'
   have hlt:=h.rQ hj1 hl2
   rcases hg.own l.blk ⟨i,l,a,hi1,hi2,by have q:=hl;rwa [Ren.dw hi1] at q,rfl⟩ with ⟨k,q,c,hk,hc,hq,e⟩|hge
   ·have:=h.sep k j c b q l' (hs.tag hc) hj1 (fun e'=>hj2 k hk (by rw [hc,e'])) (by rw [Ren.dw hk];exact hq) hl2 (.inl hk)
    omega
   ·omega
  ·intro hh
   have hl2:=hold i a l hi1 hl
   have hlt:=h.rQ hi1 hl2
   rcases hg.own l'.blk ⟨j,l',b,hj1,hj2,by have q:=hl';rwa [Ren.dw hj1] at q,rfl⟩ with ⟨k,q,c,hk,hc,hq,e⟩|hge
   ·have:=h.sep k i c a q l (hs.tag hc) hi1 (fun e'=>hi2 k hk (by rw [hc,e'])) (by rw [Ren.dw hk];exact hq) hl2 (.inl hk)
    omega
   ·omega
  ·exact h.sep i j a b l l' hi1 hj1 hab (hold i a l hi1 hl) (hold j b l' hj1 hl')
 ·rw [ho.next,←hs.next];exact hg.next
 ·exact hg.frame b hb (fun ⟨i,l,a,h1,h2,h3,h4⟩=>hn ⟨i,l,a,h1,hs.tag h2,h3,h4⟩)
 ·obtain ⟨i,l,a,h1,h2,h3,h4⟩:=hb
  rcases ho.tag i a h2 with ⟨_,h5⟩|⟨h5,_⟩
  ·rcases hg.own b ⟨i,l,a,h1,h5,h3,h4⟩ with ⟨j,q,c,g1,g2,g3,g4⟩|hge
   ·exact .inl ⟨j,q,c,g1,hs.tag g2,g3,g4⟩
   ·exact .inr hge
  ·left
   refine ⟨i,l,a,h1,h5,?_,h4⟩
   have:=hold i a l h5 (by rw [Ren.dw h1];exact h3)
   rwa [Ren.dw h1] at this
 ·exact hg.old i (by rw [hs.next];exact hi)
end
noncomputable section
structure Tpl where
 bits:Nat:=15
 next:Nat
 args:List Value
 pre:List (Nat × Row)
 Ac:List (Nat × List Nat)
 val:Value
 post:List (Nat × Row)
 azX:List (Nat × List Nat)
 next':Nat
def vU {α:Type}(t:Hp α):List (Nat × α)→Hp α:=fun l=>List.rec t (fun p _ ih=>ih.set p.1 p.2) l
def Tpl.over (T:Tpl)(s:St):St:={ heap:=vU s.heap T.post,bZ:=vU s.bZ T.azX,next:=T.next' }
theorem kM {β:Type}{l:List (Nat × β)}{i:Nat}{a:β}(h:fC l i=some a):(i,a)∈l:=by
 induction l with
 |nil=>cases h
 |cons p t ih=>
  have h:sel (qab p.1 i) (some p.2) (fC t i)=some a:=h
  rw [aG] at h
  split at h
  ·rename_i hb
   cases h
   rw [←qaa hb]
   exact qai
  ·exact qah _ (ih h)
theorem BU {α:Type}(t:Hp α)(l:List (Nat × α))(i:Nat):(vU t l).get i=match fC l i with
  |some a=>some a
  |none=>t.get i:=by
 induction l with
 |nil=>rfl
 |cons p l ih=>
  show (Hp.set (vU t l) p.1 p.2).get i=match sel (qab p.1 i) (some p.2) (fC l i) with
   |some a=>some a
   |none=>t.get i
  rw [Hp.jv,ih,aG]
  by_cases e:i=p.1
  ·subst e;simp
  ·have:qab p.1 i=false:=by rw [←qaB,Nat.beq_eq];exact fun h=>e h.symm
   rw [this,if_neg e];rfl
theorem yS {α:Type}{t:Hp α}{l:List (Nat × α)}{i:Nat}{a:α}(h:(vU t l).get i=some a):fC l i=some a∨(fC l i=none∧t.get i=some a):=by
 rw [BU] at h
 cases hf:fC l i with
 |none=>rw [hf] at h;exact .inr ⟨rfl,h⟩
 |some b=>rw [hf] at h;exact .inl h
section
variable {P:Program} {base:Nat} {ρ ρ1:Ren} {s s' S1:St} {w w':World}
theorem an2 {i j:Nat}(h:s.tag j=some (0,i)):j=i:=by
 unfold St.tag at h
 split at h
 ·split at h
  ·simpa using h
  ·split at h
   ·split at h <;> simp at h
   ·cases h
 ·simpa using h
 ·simpa using h
 ·cases h
theorem tag_some {j:Nat}{a:Nat × Nat}(h:s.tag j=some a):∃ r,s.heap.get j=some r:=by
 cases hg:s.heap.get j with
 |none=>unfold St.tag at h;simp [hg] at h
 |some r=>exact ⟨r,rfl⟩
def eu (P:Program)(C:Cfg)(L:List (Nat × Con)):Prop:=
 ∀ f t,fC L f=some t→∀ args s v s',mY C t s args=some (v,s')→∀ base ρ w aZ,HR P base ρ s w→VRs ρ args aZ→
  Calls P f ⟨aZ⟩ w fun e w'=>∃ c ρ',e = .returned c∧Goes P base ρ s w ρ' s' w'∧VR ρ' v c
theorem eu.to {C C':Cfg}{L:List (Nat × Con)}(h:eu P C L)(hP:C'.P=C.P):eu P C' L:=by
 intro f t hf args s v s' hv
 refine h f t hf args s v s' ?_
 cases t with
 |insert e=>
  have hv:yw C' e s args=some (v,s'):=hv
  show yw C e s args=some (v,s')
  unfold yw at hv ⊢
  simp only [hP] at hv
  exact hv
 |closed ok=>exact hv
 |fn F=>exact hv
 |pure G=>exact hv
 |tree F=>exact hv
end
end
end Go.Ax
namespace Go.Ax
open Go
noncomputable section
inductive jw where
 |raw (v:Value)
 |sl (cs:List Value) (e:TypeId) (n:Nat)
inductive fK where
 |one (c:jw)
 |agg (l:List jw)
inductive dZ where
 |flat (v:Value)
 |sl (k n:Nat)
inductive gq where
 |one (c:dZ)
 |agg (l:List dZ)
structure cO where
 val:List gq
 rows:List (List Value × TypeId)
def dZ.val (N:Nat)(c:dZ):Value:=
 match c with
 |.flat v=>v
 |.sl k n=>.slice (some ⟨qag N k,0,none⟩) n aC
def gq.val (N:Nat)(c:gq):Value:=
 match c with
 |.one c=>c.val N
 |.agg l=>FY (zO (fun c=>c.val N) l)
def cO.value (r:cO)(N:Nat):Value:=tuple (zO (fun c=>c.val N) r.val)
def fJ (s:St)(rows:List (List Value × TypeId)):St:=List.rec (fun s=>s) (fun r _ ih s=>ih (Um s r.1 r.2)) rows s
def o7 (v:Value):Bool:=
 match v with
 |.slice none _ _=>true
 |.slice (some a) n c=>a.spot.isNone&&(qab a.block fP&&(qab a.off 0&&(qab n 0&&qab c aC)))
 |.pointer none=>true
 |.nilIface=>true
 |.nilFunc=>true
 |.map none=>true
 |.chan _=>true
 |v=>lZ v
def opV (v:Value):Value:=
 match v with
 |.slice (some _) n _=>.float .f64 n
 |v=>v
def akr (v:Value):Bool:=
 match v with
 |.slice _ _ _=>true
 |.float .f64 _=>true
 |v=>lZ v
def aki:List Value→Bool:=fun l=>List.rec true (fun a _ ih=>sel (akr a) ih false) l
def ao3 (v:Value):Bool:=
 match v with
 |.slice none _ _=>true
 |.float .f64 _=>true
 |v=>lZ v
def ahL:List Value→Bool:=fun l=>List.rec true (fun a _ ih=>sel (ao3 a) ih false) l
def ao5 (P:Program)(e:TypeId):Bool:=
 match P.underlying e with
 |some (.slice _)=>true
 |_=>false
def abw (P:Program)(e:TypeId)(cs:List Value):Bool:=sel (ao5 P e) (aki cs) (flatAll cs)
def rowOf (P:Program)(e:TypeId)(cs:List Value):List Value:=sel (ao5 P e) (zO opV cs) cs
def rowFine (P:Program)(e:TypeId)(cs:List Value):Bool:=sel (ao5 P e) (ahL cs) (flatAll cs)
def TY (f o c sz len n:Nat):Bool:=sel (qab f 0) (ltN c bf&&(qae (qag o (qaj c sz)) len&&qae n c)) (JM o c sz&&(qae bf c&&qae o len))
def bU {α:Type}(b:Bool)(t:Tree α):Tree α:=.test b t .fail
def ah2 (P:Program)(s:St)(v:Value)(k:jw→Tree cO):Tree cO:=
 sel (o7 v) (k (.raw v)) (match v with
  |.slice (some a) n c=>sel (a.spot.isNone) (Option.rec .fail (fun r=>Option.rec .fail (fun sz=>bU (qae 1 sz&&(TY r.2.2 a.off c sz (aQ r.1) n&&(qab (qaj n sz) (aQ (eH a.off r.1))&&abw P r.2.1 (eH a.off r.1))))
    (k (.sl (rowOf P r.2.1 (eH a.off r.1)) r.2.1 n))) (size P r.2.1)) (s.cells a.block)) .fail
  |_=>.fail)
def ahD (P:Program)(s:St)(l:List Value)(k:List jw→Tree cO):Tree cO:=
 List.rec (fun k=>k []) (fun v _ ih k=>ah2 P s v fun c=>ih fun cs=>k (c::cs)) l k
def anm (P:Program)(s:St)(v:Value)(k:fK→Tree cO):Tree cO:=
 match v with
 |.agg ⟨l⟩=>ahD P s l fun cs=>k (.agg cs)
 |v=>ah2 P s v fun c=>k (.one c)
def akk (P:Program)(s:St)(l:List Value)(k:List fK→Tree cO):Tree cO:=
 List.rec (fun k=>k []) (fun v _ ih k=>anm P s v fun c=>ih fun cs=>k (c::cs)) l k
def Tree.map {α β:Type}(g:α→β)(t:Tree α):Tree β:=Tree.rec .fail (fun a=>.leaf (g a)) (fun b _ _ x y=>.test b x y) t
def jw.rows (c:jw):List (List Value × TypeId):=
 match c with
 |.raw _=>[]
 |.sl cs e _=>[(cs,e)]
def jw.val (k:Nat)(c:jw):Value:=
 match c with
 |.raw v=>v
 |.sl _ _ n=>.slice (some ⟨qag eU k,0,none⟩) n aC
def jw.fine (P:Program)(c:jw):Prop:=
 match c with
 |.raw v=>o7 v=true
 |.sl cs e n=>rowFine P e cs=true∧∃ sz,size P e=some sz∧0<sz∧n*sz=cs.length
def uM:List jw→List (List Value × TypeId):=fun l=>List.rec [] (fun c _ ih=>aK c.rows ih) l
def xM:List jw→Nat→List Value:=fun l=>List.rec (fun _=>[]) (fun c _ ih k=>c.val k::ih (qag k (aQ c.rows))) l
def fK.rows (c:fK):List (List Value × TypeId):=
 match c with
 |.one c=>c.rows
 |.agg l=>uM l
def fK.val (k:Nat)(c:fK):Value:=
 match c with
 |.one c=>c.val k
 |.agg l=>FY (xM l k)
def fK.fine (P:Program)(c:fK):Prop:=
 match c with
 |.one c=>c.fine P
 |.agg l=>∀ c∈l,c.fine P
def mW:List fK→List (List Value × TypeId):=fun l=>List.rec [] (fun c _ ih=>aK c.rows ih) l
def xB:List fK→Nat→List Value:=fun l=>List.rec (fun _=>[]) (fun c _ ih k=>c.val k::ih (qag k (aQ c.rows))) l
def vW (P:Program)(G:List fK→Tree cO)(s:St)(args:List Value):Tree (Value × St):=
 (akk P s args fun cs=>bU (qae (aQ (mW cs)) 31) (G cs)).map fun r=>(r.value s.next,fJ s r.rows)
def Az (rows:List (List Value × TypeId)):St:=
 (List.rec (motive:=fun _=>Nat→St→St) (fun _ s=>s) (fun r _ ih k s=>ih (qak k) { heap:=s.heap.set k (.row r.1 r.2 k),bZ:=s.bZ.set k [k],next:=s.next }) rows) eU { heap:=.s 15 0,bZ:=.s 15 0,next:=64 }
def aH (l:List fK):St:=Az (mW l)
def bG (l:List fK):List Value:=xB l 0
end
theorem o8:∀ (rows:List (List Value × TypeId)) (s:St),(fJ s rows).next=s.next+rows.length∧
  (∀ i,(fJ s rows).heap.get i=if s.next≤i∧i<s.next+rows.length then (rows[i-s.next]?).map (fun r=>Row.row r.1 r.2 i) else s.heap.get i)∧
  (∀ i,(fJ s rows).bZ.get i=if s.next≤i∧i<s.next+rows.length then some [i] else s.bZ.get i)
 |[],s=>by
  refine ⟨rfl,fun i=>?_,fun i=>?_⟩ <;>
  ·rw [if_neg (by simp only [qaC];omega)];rfl
 |r::rows,s=>by
  obtain ⟨h1,h2,h3⟩:=o8 rows (Um s r.1 r.2)
  have e:fJ s (r::rows)=fJ (Um s r.1 r.2) rows:=rfl
  have hn:(Um s r.1 r.2).next=s.next+1:=rfl
  rw [hn] at h1 h2 h3
  rw [e]
  refine ⟨by rw [h1];simp;omega,fun i=>?_,fun i=>?_⟩
  ·rw [h2 i]
   by_cases hi:s.next+1≤i∧i<s.next+1+rows.length
   ·rw [if_pos hi,if_pos (by simp;omega)]
    rw [show i-s.next=(i-(s.next+1))+1 by omega]
    rfl
   ·rw [if_neg hi]
    show (s.heap.set s.next (.row r.1 r.2 s.next)).get i=_
    rw [Hp.jv]
    by_cases e:i=s.next
    ·subst e
     rw [if_pos rfl,if_pos (by simp)]
     simp
    ·rw [if_neg e,if_neg (by simp;omega)]
  ·rw [h3 i]
   by_cases hi:s.next+1≤i∧i<s.next+1+rows.length
   ·rw [if_pos hi,if_pos (by simp;omega)]
   ·rw [if_neg hi]
    show (s.bZ.set s.next [s.next]).get i=_
    rw [Hp.jv]
    by_cases e:i=s.next
    ·subst e
     rw [if_pos rfl,if_pos (by simp)]
    ·rw [if_neg e,if_neg (by simp;omega)]
noncomputable def afu:List (List Value × TypeId)→Nat→St→St:=fun rows=>
 List.rec (motive:=fun _=>Nat→St→St) (fun _ s=>s) (fun r _ ih k s=>ih (qak k) { heap:=s.heap.set k (.row r.1 r.2 k),bZ:=s.bZ.set k [k],next:=s.next }) rows
theorem SE:∀ (rows:List (List Value × TypeId)) (k:Nat) (s:St),(afu rows k s).next=s.next∧
  (∀ i,(afu rows k s).heap.get i=if k≤i∧i<k+rows.length then (rows[i-k]?).map (fun r=>Row.row r.1 r.2 i) else s.heap.get i)∧
  (∀ i,(afu rows k s).bZ.get i=if k≤i∧i<k+rows.length then some [i] else s.bZ.get i)
 |[],k,s=>by
  refine ⟨rfl,fun i=>?_,fun i=>?_⟩ <;>
  ·rw [if_neg (by simp only [qaC];omega)];rfl
 |r::rows,k,s=>by
  obtain ⟨h1,h2,h3⟩:=SE rows (k+1) { heap:=s.heap.set k (.row r.1 r.2 k),bZ:=s.bZ.set k [k],next:=s.next }
  have e:afu (r::rows) k s=afu rows (k+1) { heap:=s.heap.set k (.row r.1 r.2 k),bZ:=s.bZ.set k [k],next:=s.next }:=rfl
  rw [e]
  refine ⟨h1,fun i=>?_,fun i=>?_⟩
  ·rw [h2 i]
   by_cases hi:k+1≤i∧i<k+1+rows.length
   ·rw [if_pos hi,if_pos (by simp;omega)]
    rw [show i-k=(i-(k+1))+1 by omega]
    rfl
   ·rw [if_neg hi,Hp.jv]
    by_cases e:i=k
    ·subst e
     rw [if_pos rfl,if_pos (by simp)]
     simp
    ·rw [if_neg e,if_neg (by simp;omega)]
  ·rw [h3 i]
   by_cases hi:k+1≤i∧i<k+1+rows.length
   ·rw [if_pos hi,if_pos (by simp;omega)]
   ·rw [if_neg hi,Hp.jv]
    by_cases e:i=k
    ·subst e
     rw [if_pos rfl,if_pos (by simp)]
    ·rw [if_neg e,if_neg (by simp;omega)]
theorem alr (rows:List (List Value × TypeId)):Az rows=afu rows eU { heap:=.s 15 0,bZ:=.s 15 0,next:=64 }:=rfl
theorem nZ (rows:List (List Value × TypeId)):(Az rows).next=64∧
  (∀ i,(Az rows).heap.get i=if eU≤i∧i<eU+rows.length then (rows[i-eU]?).map (fun r=>Row.row r.1 r.2 i) else none)∧
  (∀ i,(Az rows).bZ.get i=if eU≤i∧i<eU+rows.length then some [i] else none):=by
 obtain ⟨h1,h2,h3⟩:=SE rows eU { heap:=.s 15 0,bZ:=.s 15 0,next:=64 }
 rw [alr]
 refine ⟨h1,fun i=>?_,fun i=>?_⟩
 ·rw [h2 i];rfl
 ·rw [h3 i];rfl
theorem UY {s:St}{i:Nat}{cs:List Value}{e:TypeId}(h0:i≠0)(h1:s.heap.get i=some (.row cs e i))(h2:s.bZ.get i=some [i]):s.tag i=some (1,i)∧s.cells i=some (cs,e,i):=by
 have hc:s.cells i=some (cs,e,i):=aO.2 ⟨h1,.inr ⟨[i],h2,by simp⟩⟩
 exact ⟨by rw [dH hc,if_neg h0],hc⟩
@[reducible] noncomputable def qO (bn:List Loc):Lo:=⟨fun i=>if i<eU then ⟨i,0,0⟩ else (bn[i-eU]?).getD ⟨0,0,0⟩,fun i h=>by simp [h]⟩
structure afL (P:Program) (w:World) (r:List Value × TypeId) (l:Loc):Prop where
 arr:∃ (a:Array Value) (fz:Nat × Nat) (sz:Nat),(∃ e':TypeId,w.heap[l.blk]? = some (.cells a e' fz))∧(∀ (j:Nat) (x:Value),r.1[j]? = some x→∃ y,a[l.off+j]? = some y∧∀ (lo:Lo) (ρ:Ren),@VR lo ρ x y)∧
  size P r.2=some sz∧0<sz∧l.off+l.cap*sz≤a.size∧r.1.length≤l.cap*sz
inductive kY (P:Program) (w:World):List (List Value × TypeId)→List Loc→Prop
 |nil:kY P w [] []
 |cons {r:List Value × TypeId} {l:Loc} {rs:List (List Value × TypeId)} {ls:List Loc} (h:afL P w r l) (ht:kY P w rs ls):kY P w (r::rs) (l::ls)
theorem kY.append {P:Program}{w:World}:∀ {rs:List (List Value × TypeId)} {ls:List Loc} {rs':List (List Value × TypeId)} {ls':List Loc},kY P w rs ls→kY P w rs' ls'→kY P w (rs++rs') (ls++ls')
 |_,_,_,_,.nil,h=>h
 |_,_,_,_,.cons h ht,h'=>.cons h (kY.append ht h')
theorem kY.length {P:Program}{w:World}:∀ {rs:List (List Value × TypeId)} {ls:List Loc},kY P w rs ls→ls.length=rs.length
 |_,_,.nil=>rfl
 |_,_,.cons _ ht=>by simp [kY.length ht]
theorem kY.get {P:Program}{w:World}:∀ {rs:List (List Value × TypeId)} {ls:List Loc},kY P w rs ls→∀ {k:Nat} {r:List Value × TypeId},rs[k]? = some r→∃ l,ls[k]? = some l∧afL P w r l
 |_,_,.cons h ht,0,r,hr=>by simp at hr;subst hr;exact ⟨_,rfl,h⟩
 |_,_,.cons h ht,k+1,r,hr=>by simp at hr;simpa using kY.get ht hr
 |_,_,.nil,k,r,hr=>by simp at hr
theorem apl {P:Program}{w:World}{rows:List (List Value × TypeId)}{bn:List Loc}(h:kY P w rows bn)(hlen:rows.length≤31):@HR (qO bn) P w.heap.size (fun _=>none) (Az rows) w:=by
 obtain ⟨h1,h2,h3⟩:=nZ rows
 have e1:eU=32:=rfl
 have e2:ak=64:=rfl
 have e3:fP=63:=rfl
 have hrow:∀ i r,(Az rows).heap.get i=some r→eU≤i∧i<eU+rows.length∧∃ p l,rows[i-eU]? = some p∧r = .row p.1 p.2 i∧afL P w p l∧(@Lo.lo (qO bn) i)=l:=by
  intro i r hi
  rw [h2 i] at hi
  split at hi
  ·rename_i hh
   obtain ⟨p,hp,rfl⟩:=Option.map_eq_some_iff.1 hi
   obtain ⟨l,hl,hat⟩:=h.get hp
   refine ⟨hh.1,hh.2,p,l,hp,rfl,hat,?_⟩
   show (if i<eU then (⟨i,0,0⟩:Loc) else (bn[i-eU]?).getD ⟨0,0,0⟩)=l
   rw [if_neg (by omega),hl]
   rfl
  ·cases hi
 have hcell:∀ i cs e f,(Az rows).cells i=some (cs,e,f)→eU≤i∧i<eU+rows.length∧f=i∧∃ l,afL P w (cs,e) l∧(@Lo.lo (qO bn) i)=l:=by
  intro i cs e f hc
  obtain ⟨g1,_⟩:=aO.1 hc
  obtain ⟨a1,a2,p,l,_,g4,g5,g6⟩:=hrow i _ g1
  injection g4 with q1 q2 q3
  subst q1 q2 q3
  exact ⟨a1,a2,rfl,l,g5,g6⟩
 have hblk:∀ r l,afL P w r l→l.blk<w.heap.size:=by
  rintro r l ⟨a,fz,sz,⟨_,ha⟩,_⟩
  exact (Array.getElem?_eq_some_iff.1 ha).1
 refine @HR.mk (qO bn) P w.heap.size (fun _=>none) (Az rows) w (fun _ _ h=>by cases h) (by rw [h1];exact qat _) (qat _) (fun i hi ht=>?_) (fun i r hi=>?_) (fun i cs e f hi=>?_) (fun i cs e f hc=>?_) (fun i es c hi=>?_) (fun i r hi=>?_) (fun i j a b l l' hi hj hab hl hl' hh=>?_)
 ·cases ht':(Az rows).tag i with
  |none=>exact absurd ht' ht
  |some a=>
   obtain ⟨r,hr⟩:=tag_some ht'
   obtain ⟨a1,a2,p,l,_,_,g5,g6⟩:=hrow i _ hr
   rw [g6]
   exact ⟨hblk _ _ g5,by omega⟩
 ·obtain ⟨a1,a2,_⟩:=hrow i r hi
  rw [h1];omega
 ·obtain ⟨a1,a2,p,l,_,g4,_⟩:=hrow i _ hi
  injection g4 with _ _ q3
  rw [h1];omega
 ·obtain ⟨a1,a2,hfi,l,hrw,g6⟩:=hcell i cs e f hc
  obtain ⟨a,fz,sz,ha,hv,hsz,h0,hle,hle2⟩:=hrw
  have hf0:f≠0:=by omega
  have aBQ:@Ren.at (qO bn) (fun _=>none) i=some l:=by rw [@Ren.kU (qO bn) (fun _=>none) i (by omega),g6]
  exact ⟨l,@alc.mk (qO bn) P (fun _=>none) w i cs e f l aBQ ⟨a,fz,ha.imp fun _ h=>⟨h,fun hh=>by rcases hh with hh|hh <;> omega⟩,fun j x hj=>(hv j x hj).imp fun y hy=>⟨hy.1,hy.2 _ _⟩,fun hh=>absurd hh (by omega),fun hh=>absurd hh hf0,fun _=>⟨sz,hsz,h0,hle,hle2⟩⟩⟩
 ·obtain ⟨_,_,p,l,_,g4,_⟩:=hrow i _ hi
  cases g4
 ·obtain ⟨_,_,p,l,_,g4,_⟩:=hrow i _ hi
  cases g4
 ·obtain ⟨r,hr⟩:=tag_some hi
  obtain ⟨r',hr'⟩:=tag_some hj
  obtain ⟨a1,a2,_⟩:=hrow i _ hr
  obtain ⟨b1,b2,_⟩:=hrow j _ hr'
  omega
end Go.Ax
namespace Go.Ax
open Go
theorem aJ {α:Type}{b:Bool}{t:Tree α}{r:α}(h:(bU b t).run=some r):b=true∧t.run=some r:=by
 cases b with
 |true=>exact ⟨rfl,h⟩
 |false=>cases h
theorem Tree.map_some {α β:Type}{g:α→β}:∀ {t:Tree α} {r:β},(t.map g).run=some r→∃ a,t.run=some a∧r=g a
 |.fail,r,h=>by cases h
 |.leaf a,r,h=>by cases h;exact ⟨a,rfl,rfl⟩
 |.test b x y,r,h=>by
  have h:sel b (x.map g).run (y.map g).run=some r:=h
  cases b with
  |true=>exact Tree.map_some (t:=x) h
  |false=>exact Tree.map_some (t:=y) h
section
variable [Lo] {P:Program} {base:Nat} {ρ:Ren} {s:St} {w:World}
theorem ajI {v c:Value}(h:o7 v=true)(hv:VR ρ v c)(lo:Lo)(ρ':Ren):@VR lo ρ' v c:=by
 cases hv with
 |bool b=>exact .bool b
 |int k n=>exact .int k n
 |string s=>exact .string s
 |nY=>exact .nY
 |ptr _=>exact Bool.noConfusion (show false=true from h)
 |dW n c=>exact .dW n c
 |@slice b o n c l hl=>
  have h:(true&&(qab b fP&&(qab o 0&&(qab n 0&&qab c aC))))=true:=h
  simp only [qad] at h
  obtain ⟨_,h1,h2,h3,h4⟩:=h
  have h1:=qaa h1
  have h2:=qaa h2
  have h3:=qaa h3
  have h4:=qaa h4
  subst h1 h2 h3 h4
  exact .dead _ _
 |dead a c=>exact .dead a c
 |tok i k n=>exact .tok i k n
 |uH=>exact .uH
 |nilFunc=>exact .nilFunc
 |nilIface=>exact .nilIface
 |_=>exact Bool.noConfusion (show false=true from h)
theorem adM {pre bn post:List Loc}{l:Loc}{k:Nat}(hk:pre.length=k)(hl:k<31):@Lo.lo (qO (pre++(l::bn++post))) (eU+k)=l:=by
 show (if eU+k<eU then (⟨eU+k,0,0⟩:Loc) else ((pre++(l::bn++post))[eU+k-eU]?).getD ⟨0,0,0⟩)=l
 rw [if_neg (by omega),show eU+k-eU=k by omega,qau (by omega),hk]
 simp
theorem amn {x y:Value}(hx:akr x=true)(hv:VR ρ x y)(lo:Lo)(ρ':Ren):@VR lo ρ' (opV x) y:=by
 cases hv with
 |bool b=>exact .bool b
 |int k n=>exact .int k n
 |string s=>exact .string s
 |dW n c=>exact .dW n c
 |slice _=>exact .opq _ _ _
 |dead a c=>exact .opq _ _ _
 |opq a n c=>exact .opq _ _ _
 |_=>exact Bool.noConfusion (show false=true from hx)
theorem ZK:∀ {l:List Value},aki l=true→∀ {j:Nat} {v:Value},l[j]? = some v→akr v=true
 |[],_,j,v,hj=>by simp at hj
 |a::l,h,j,v,hj=>by
  obtain ⟨h1,h2⟩:=dG (show sel (akr a) (aki l) false=true from h)
  cases j with
  |zero=>simp at hj;subst hj;exact h1
  |succ j=>exact ZK h2 (by simpa using hj)
theorem Zw:∀ {l:List Value},aki l=true→ahL (zO opV l)=true
 |[],_=>rfl
 |a::l,h=>by
  obtain ⟨h1,h2⟩:=dG (show sel (akr a) (aki l) false=true from h)
  show sel (ao3 (opV a)) (ahL (zO opV l)) false=true
  rw [Zw h2]
  cases a with
  |slice b n c=>cases b <;> rfl
  |float k n=>cases k <;> first|rfl|exact Bool.noConfusion (show false=true from h1)
  |bool b=>rfl
  |int k n=>rfl
  |string s=>rfl
  |_=>exact Bool.noConfusion (show false=true from h1)
theorem Yf (P:Program)(e:TypeId)(cs:List Value):(rowOf P e cs).length=cs.length:=by
 unfold rowOf
 rw [aG]
 split
 ·rw [kP,List.length_map]
 ·rfl
theorem rowFine_of {P:Program}{e:TypeId}{cs:List Value}(h:abw P e cs=true):rowFine P e (rowOf P e cs)=true:=by
 unfold abw at h
 unfold rowFine rowOf
 cases hb:ao5 P e with
 |true=>rw [hb] at h;exact Zw h
 |false=>rw [hb] at h;exact h
theorem agR {P:Program}{e:TypeId}{cs:List Value}(h:abw P e cs=true){j:Nat}{x:Value}(hj:(rowOf P e cs)[j]? = some x) :
  ∃ x0,cs[j]? = some x0∧∀ y,VR ρ x0 y→∀ (lo:Lo) (ρ':Ren),@VR lo ρ' x y:=by
 unfold abw at h
 unfold rowOf at hj
 cases hb:ao5 P e with
 |true=>
  rw [hb] at h hj
  have hj:(zO opV cs)[j]? = some x:=hj
  rw [kP,List.getElem?_map] at hj
  obtain ⟨x0,hx0,rfl⟩:=Option.map_eq_some_iff.1 hj
  exact ⟨x0,hx0,fun y hy=>amn (ZK h hx0) hy⟩
 |false=>
  rw [hb] at h hj
  have hj:cs[j]? = some x:=hj
  have hf:=qp h hj
  exact ⟨x,hj,fun y hy=>by have e:=NM hf hy;intro lo ρ';rw [e];exact @H6 lo ρ' _ hf⟩
theorem Rx {v c:Value}{kk:jw→Tree cO}{r:cO}(h:(ah2 P s v kk).run=some r)(hr:HR P base ρ s w)(hv:VR ρ v c) :
  ∃ cell bn,(kk cell).run=some r∧cell.fine P∧kY P w cell.rows bn∧∀ (pre post:List Loc) (k:Nat),pre.length=k→k+bn.length≤31→∀ ρ',@VR (qO (pre++(bn++post))) ρ' (cell.val k) c:=by
 unfold ah2 at h
 cases hb:o7 v with
 |true=>
  rw [hb] at h
  exact ⟨.raw v,[],h,hb,.nil,fun pre post k _ _ ρ'=>ajI hb hv _ ρ'⟩
 |false=>
  rw [hb] at h
  rw [aP] at h
  split at h
  ·rename_i a n cp
   obtain ⟨b,o,sp⟩:=a
   cases sp with
   |some x=>cases h
   |none=>
    cases hc:s.cells b with
    |none=>
     have h:(Option.rec (motive:=fun _=>Tree cO) .fail _ (s.cells b)).run=some r:=h
     rw [hc] at h
     cases h
    |some row=>
     obtain ⟨cs,e,f⟩:=row
     have h:(Option.rec (motive:=fun _=>Tree cO) .fail (fun (r:List Value × TypeId × Nat)=>Option.rec (motive:=fun _=>Tree cO) .fail (fun sz=>bU (qae 1 sz&&(TY r.2.2 o cp sz (aQ r.1) n&&(qab (qaj n sz) (aQ (eH o r.1))&&abw P r.2.1 (eH o r.1))))
      (kk (.sl (rowOf P r.2.1 (eH o r.1)) r.2.1 n))) (size P r.2.1)) (s.cells b)).run=some r:=h
     rw [hc] at h
     cases hz:size P e with
     |none=>
      have h:(Option.rec (motive:=fun _=>Tree cO) .fail _ (size P e)).run=some r:=h
      rw [hz] at h
      cases h
     |some sz=>
      have h:(Option.rec (motive:=fun _=>Tree cO) .fail (fun sz=>bU (qae 1 sz&&(TY f o cp sz (aQ cs) n&&(qab (qaj n sz) (aQ (eH o cs))&&abw P e (eH o cs))))
       (kk (.sl (rowOf P e (eH o cs)) e n))) (size P e)).run=some r:=h
      rw [hz] at h
      obtain ⟨hg,h⟩:=aJ h
      simp only [qad] at hg
      obtain ⟨g1,g2,g3,g4⟩:=hg
      have g1:1≤sz:=qac g1
      have g3:n*sz=(eH o cs).length:=by rw [aW] at g3;exact qaa g3
      rw [iy] at g3 g4 h
      have g3':n*sz=cs.length-o:=by rw [g3];simp
      obtain ⟨l,hat,A,fz,hA,AV,_,h0,h1⟩:=hr.rows b cs e f hc
      rcases VR.xw hv with ⟨_,l',hl',rfl⟩|⟨hA',rfl,rfl,a',c',rfl⟩
      ·have hl':ρ.at b=some l':=hl'
       rw [hat] at hl'
       cases hl'
       have hfit:l.off+o+capOf l cp*sz≤A.size∧cs.length-o≤capOf l cp*sz:=by
        unfold TY at g2
        rw [aG] at g2
        split at g2
        ·rename_i hf
         have hf:f=0:=qaa hf
         simp only [qad] at g2
         obtain ⟨k1,k2,k3⟩:=g2
         have k1:=bD k1
         have k2:o+cp*sz≤aQ cs:=qac k2
         rw [aW] at k2
         have k3:=qac k3
         obtain ⟨m1,m2,_⟩:=h0 hf
         rw [y5 _ k1]
         have:n*sz≤cp*sz:=Nat.mul_le_mul_right _ k3
         omega
        ·rename_i hf
         have hf:f≠0:=fun e=>hf (by rw [e];rfl)
         simp only [qad] at g2
         obtain ⟨k1,k2,k3⟩:=g2
         have k1:o=(aC-cp)*sz:=qaa k1
         have k2:=qac k2
         have k3:=qac k3
         rw [aW] at k3
         obtain ⟨sz',hs',_,m1,m2⟩:=h1 hf
         rw [hz] at hs'
         cases hs'
         clear h0 h1 AV
         have hcap:capOf l cp=l.cap-(aC-cp):=by unfold capOf;rw [if_pos k2]
         rw [hcap]
         generalize aC-cp=k at k1
         have hkl:k*sz≤l.cap*sz:=by omega
         have hsub:(l.cap-k)*sz=l.cap*sz-k*sz:=Nat.sub_mul ..
         rw [hsub]
         omega
       refine ⟨.sl (rowOf P e (cs.drop o)) e n,[⟨l.blk,l.off+o,capOf l cp⟩],h,⟨rowFine_of g4,sz,hz,by omega,by rw [Yf];exact g3⟩,.cons ⟨A,fz,sz,hA.imp fun _ h=>h.1,fun j x hj=>?_,hz,by omega,hfit.1,by rw [Yf];simpa using hfit.2⟩ .nil,fun pre post k hk hlen ρ'=>?_⟩
       ·obtain ⟨x0,hx0,hany⟩:=agR (ρ:=ρ) g4 hj
        rw [qav] at hx0
        obtain ⟨y,hy,hxy⟩:=AV _ x0 hx0
        refine ⟨y,?_,hany y hxy⟩
        show A[l.off+o+j]? = some y
        rw [qaw]
        exact hy
       ·have hlt:k<31:=by simp at hlen;omega
        have e1:eU=32:=rfl
        have e2:ak=64:=rfl
        have key:=@VR.slice (qO (pre++([⟨l.blk,l.off+o,capOf l cp⟩]++post))) ρ' (qag eU k) 0 n aC ⟨l.blk,l.off+o,capOf l cp⟩ (by
         have e:qag eU k=eU+k:=rfl
         rw [e,@Ren.kU (qO _) _ _ (by omega)]
         exact congrArg some (adM (bn:=[]) hk hlt))
        rw [rJ] at key
        exact key
      ·injection hA' with q4 q5
       subst q4 q5
       cases hb
  ·cases h
theorem DF (c:jw)(l:List jw):uM (c::l)=c.rows++uM l:=iG _ _
theorem wU (c:fK)(l:List fK):mW (c::l)=c.rows++mW l:=iG _ _
theorem DI (c:jw)(l:List jw)(k:Nat):xM (c::l) k=c.val k::xM l (k+c.rows.length):=by
 show c.val k::xM l (qag k (aQ c.rows))=_
 rw [aW];rfl
theorem wJ (c:fK)(l:List fK)(k:Nat):xB (c::l) k=c.val k::xB l (k+c.rows.length):=by
 show c.val k::xB l (qag k (aQ c.rows))=_
 rw [aW];rfl
theorem LU (hr:HR P base ρ s w):∀ {l c:List Value} {kk:List jw→Tree cO} {r:cO},(ahD P s l kk).run=some r→VRs ρ l c→
  ∃ cells bn,(kk cells).run=some r∧(∀ x∈cells,x.fine P)∧kY P w (uM cells) bn∧∀ (pre post:List Loc) (k:Nat),pre.length=k→k+bn.length≤31→∀ ρ',@VRs (qO (pre++(bn++post))) ρ' (xM cells k) c
 |[],_,kk,r,h,.nil=>⟨[],[],h,(fun x hx=>by cases hx),.nil,fun pre post _ _ _ ρ'=>@VRs.nil (qO (pre++([]++post))) ρ'⟩
 |v::l,_,kk,r,h,.cons hv hl=>by
  have h:(ah2 P s v fun c=>ahD P s l fun cs=>kk (c::cs)).run=some r:=h
  obtain ⟨cell,bn,h1,h2,h3,h4⟩:=Rx h hr hv
  obtain ⟨cells,Gx,g1,g2,g3,g4⟩:=LU hr h1 hl
  refine ⟨cell::cells,bn++Gx,g1,fun x hx=>?_,by rw [DF];exact h3.append g3,fun pre post k hk hlen ρ'=>?_⟩
  ·rcases List.mem_cons.1 hx with rfl|hx
   ·exact h2
   ·exact g2 x hx
  ·rw [DI]
   have e1:=h3.length
   simp only [qaA] at hlen
   refine @VRs.cons (qO (pre++(bn++Gx++post))) ρ' _ _ _ _ ?_ ?_
   ·have:=h4 pre (Gx++post) k hk (by omega) ρ'
    rw [qal bn Gx post]
    exact this
   ·have:=g4 (pre++bn) post (k+cell.rows.length) (by simp;omega) (by omega) ρ'
    rw [qal pre bn (Gx++post)] at this
    rw [qal bn Gx post]
    exact this
theorem afN (hr:HR P base ρ s w){v c:Value}{kk:fK→Tree cO}{r:cO}(h:(anm P s v kk).run=some r)(hv:VR ρ v c) :
  ∃ cell bn,(kk cell).run=some r∧cell.fine P∧kY P w cell.rows bn∧∀ (pre post:List Loc) (k:Nat),pre.length=k→k+bn.length≤31→∀ ρ',@VR (qO (pre++(bn++post))) ρ' (cell.val k) c:=by
 unfold anm at h
 split at h
 ·rename_i l
  cases hv with
  |agg hl=>
   obtain ⟨cells,bn,h1,h2,h3,h4⟩:=LU hr h hl
   exact ⟨.agg cells,bn,h1,h2,h3,fun pre post k hk hlen ρ'=>@VR.agg (qO (pre++(bn++post))) ρ' _ _ (h4 pre post k hk hlen ρ')⟩
 ·obtain ⟨cell,bn,h1,h2,h3,h4⟩:=Rx h hr hv
  exact ⟨.one cell,bn,h1,h2,h3,h4⟩
theorem LW (hr:HR P base ρ s w):∀ {l c:List Value} {kk:List fK→Tree cO} {r:cO},(akk P s l kk).run=some r→VRs ρ l c→
  ∃ cells bn,(kk cells).run=some r∧(∀ x∈cells,x.fine P)∧kY P w (mW cells) bn∧∀ (pre post:List Loc) (k:Nat),pre.length=k→k+bn.length≤31→∀ ρ',@VRs (qO (pre++(bn++post))) ρ' (xB cells k) c
 |[],_,kk,r,h,.nil=>⟨[],[],h,(fun x hx=>by cases hx),.nil,fun pre post _ _ _ ρ'=>@VRs.nil (qO (pre++([]++post))) ρ'⟩
 |v::l,_,kk,r,h,.cons hv hl=>by
  have h:(anm P s v fun c=>akk P s l fun cs=>kk (c::cs)).run=some r:=h
  obtain ⟨cell,bn,h1,h2,h3,h4⟩:=afN hr h hv
  obtain ⟨cells,Gx,g1,g2,g3,g4⟩:=LW hr h1 hl
  refine ⟨cell::cells,bn++Gx,g1,fun x hx=>?_,by rw [wU];exact h3.append g3,fun pre post k hk hlen ρ'=>?_⟩
  ·rcases List.mem_cons.1 hx with rfl|hx
   ·exact h2
   ·exact g2 x hx
  ·rw [wJ]
   have e1:=h3.length
   simp only [qaA] at hlen
   refine @VRs.cons (qO (pre++(bn++Gx++post))) ρ' _ _ _ _ ?_ ?_
   ·have:=h4 pre (Gx++post) k hk (by omega) ρ'
    rw [qal bn Gx post]
    exact this
   ·have:=g4 (pre++bn) post (k+cell.rows.length) (by simp;omega) (by omega) ρ'
    rw [qal pre bn (Gx++post)] at this
    rw [qal bn Gx post]
    exact this
end
noncomputable section
def yR (v:Value):Bool:=
 match v with
 |.slice none _ _=>true
 |.pointer none=>true
 |.map none=>true
 |.nilFunc=>true
 |.nilIface=>true
 |v=>lZ v
def dZ.ok (n:Nat)(c:dZ):Bool:=
 match c with
 |.flat v=>yR v
 |.sl k _=>ltN k n
def tJ (n:Nat):List dZ→Bool:=fun l=>List.rec true (fun c _ ih=>sel (c.ok n) ih false) l
def gq.ok (n:Nat)(c:gq):Bool:=
 match c with
 |.one c=>c.ok n
 |.agg l=>tJ n l
def wE (n:Nat):List gq→Bool:=fun l=>List.rec true (fun c _ ih=>sel (c.ok n) ih false) l
def cO.ok (r:cO):Bool:=wE (aQ r.rows) r.val
def Ut (P:Program)(C:Cfg)(n:Nat)(f:FuncId)(G:List fK→Tree cO):Prop:=
 ∀ (comps:List fK) (r:cO),(∀ c∈comps,c.fine P)→(G comps).run=some r→r.ok=true∧(∀ p∈r.rows,flatAll p.1=true)∧
  ∃ v s1 π,(runN C n).1 f (bG comps) (aH comps)=some (v,s1)∧RV π (r.value 64) v∧Emb P π (fJ dJ r.rows) s1
end
structure aci where
 lo:Lo
section
variable [Lo] {P:Program} {base:Nat} {ρ:Ren} {s:St} {w w':World}
theorem al6 {lb:aci}{ρ1 ρ2:Ren}{v x:Value}(hok:yR v=true)(hv:@VR lb.lo ρ1 v x):VR ρ2 v x:=by
 cases hv with
 |bool b=>exact .bool b
 |int k n=>exact .int k n
 |string s=>exact .string s
 |nY=>exact .nY
 |dW n c=>exact .dW n c
 |uH=>exact .uH
 |nilFunc=>exact .nilFunc
 |nilIface=>exact .nilIface
 |_=>exact Bool.noConfusion (show false=true from hok)
def kS (ρ ρ1:Ren)(N:Nat):Ren:=fun i=>if i<N then ρ i else ρ1 (64+(i-N))
theorem acn {lb:aci}{ρ1:Ren}{n:Nat}{c:dZ}{x:Value}(hN:ak≤s.next)(hok:c.ok n=true)(hv:@VR lb.lo ρ1 (c.val 64) x):VR (kS ρ ρ1 s.next) (c.val s.next) x:=by
 cases c with
 |flat v=>
  have hok:yR v=true:=hok
  have hv:@VR lb.lo ρ1 v x:=hv
  exact al6 hok hv
 |sl k m=>
  have hv:@VR lb.lo ρ1 (.slice (some ⟨64+k,0,none⟩) m aC) x:=hv
  rcases @VR.xw lb.lo _ _ _ _ _ hv with ⟨_,l,hl,rfl⟩|⟨hA,_⟩
  ·have hl:@Ren.at lb.lo ρ1 (64+k)=some l:=hl
   rw [@Ren.dw lb.lo _ _ (by show 64≤64+k;omega)] at hl
   show VR (kS ρ ρ1 s.next) (.slice (some ⟨s.next+k,0,none⟩) m aC) _
   refine .slice ?_
   rw [Ren.dw (by omega)]
   unfold kS
   rw [if_neg (by omega),show s.next+k-s.next=k by omega]
   exact hl
  ·exfalso
   injection hA with h4
   have e:fP=63:=rfl
   omega
theorem Xa {lb:aci}{ρ1:Ren}{n:Nat}(hN:ak≤s.next):∀ {l:List dZ} {x:List Value},tJ n l=true→@VRs lb.lo ρ1 (zO (fun c=>c.val 64) l) x→VRs (kS ρ ρ1 s.next) (zO (fun c=>c.val s.next) l) x
 |[],x,_,h=>by cases h;exact .nil
 |c::l,x,hok,h=>by
  obtain ⟨h1,h2⟩:=dG (show sel (c.ok n) (tJ n l) false=true from hok)
  have h:@VRs lb.lo ρ1 (c.val 64::zO (fun c=>c.val 64) l) x:=h
  cases h with
  |cons g1 g2=>exact .cons (acn hN h1 g1) (Xa hN h2 g2)
theorem adk {lb:aci}{ρ1:Ren}{n:Nat}{c:gq}{x:Value}(hN:ak≤s.next)(hok:c.ok n=true)(hv:@VR lb.lo ρ1 (c.val 64) x):VR (kS ρ ρ1 s.next) (c.val s.next) x:=by
 cases c with
 |one c=>exact acn hN hok hv
 |agg l=>
  have hv:@VR lb.lo ρ1 (.agg ⟨zO (fun c=>c.val 64) l⟩) x:=hv
  cases hv with
  |agg h=>exact .agg (Xa hN hok h)
theorem Zk {lb:aci}{ρ1:Ren}{n:Nat}(hN:ak≤s.next):∀ {l:List gq} {x:List Value},wE n l=true→@VRs lb.lo ρ1 (zO (fun c=>c.val 64) l) x→VRs (kS ρ ρ1 s.next) (zO (fun c=>c.val s.next) l) x
 |[],x,_,h=>by cases h;exact .nil
 |c::l,x,hok,h=>by
  obtain ⟨h1,h2⟩:=dG (show sel (c.ok n) (wE n l) false=true from hok)
  have h:@VRs lb.lo ρ1 (c.val 64::zO (fun c=>c.val 64) l) x:=h
  cases h with
  |cons g1 g2=>exact .cons (adk hN h1 g1) (Zk hN h2 g2)
theorem asH {lb:aci}{ρ1:Ren}{r:cO}{x:Value}(hN:ak≤s.next)(hok:r.ok=true)(hv:@VR lb.lo ρ1 (r.value 64) x):VR (kS ρ ρ1 s.next) (r.value s.next) x:=by
 obtain ⟨val,rows⟩:=r
 have hok:wE (aQ rows) val=true:=hok
 have hv:@VR lb.lo ρ1 (tuple (zO (fun c=>c.val 64) val)) x:=hv
 show VR _ (tuple (zO (fun c=>c.val s.next) val)) x
 match val,hok,hv with
 |[],_,hv=>cases hv with|tuple h=>cases h;exact .tuple .nil
 |[c],hok,hv=>
  obtain ⟨h1,_⟩:=dG (show sel (c.ok (aQ rows)) (wE (aQ rows) []) false=true from hok)
  exact adk hN h1 hv
 |c::d::l,hok,hv=>
  cases hv with
  |tuple h=>exact .tuple (Zk hN hok h)
theorem ai5 (h:HR P base ρ s w){lb:aci}{S S0:St}{rows:List (List Value × TypeId)}{ρ1:Ren}(hS0:S0.next=64)(h0:@HR lb.lo P w.heap.size (fun _=>none) S w)
  (hg:@Goes lb.lo P w.heap.size (fun _=>none) S w ρ1 (fJ S0 rows) w') (hfl:∀ p∈rows,flatAll p.1=true):Goes P base ρ s w (kS ρ ρ1 s.next) (fJ s rows) w':=by
 have hbel:=@Goes.below lb.lo _ _ _ _ _ _ _ _ h0 hg
 have hhr:=@Goes.hr lb.lo _ _ _ _ _ _ _ _ hg
 obtain ⟨n1,n2,n3⟩:=o8 rows s
 obtain ⟨m1,m2,m3⟩:=o8 rows S0
 have e2:ak=64:=rfl
 have hnx:=h.next
 have hlow:∀ i,i<s.next→kS ρ ρ1 s.next i=ρ i:=fun i hi=>by unfold kS;rw [if_pos hi]
 have hhigh:∀ k,kS ρ ρ1 s.next (s.next+k)=ρ1 (64+k):=fun k=>by unfold kS;rw [if_neg (by omega),show s.next+k-s.next=k by omega]
 have hle:ρ.le (kS ρ ρ1 s.next):=fun i l hi=>by rw [hlow i (h.dom i l hi).2.1];exact hi
 have hold:∀ i r,i<s.next→(fJ s rows).heap.get i=some r→s.heap.get i=some r:=fun i r hi hr=>by rw [n2 i,if_neg (by omega)] at hr;exact hr
 have au6:∀ f,f<s.next→(fJ s rows).bZ.get f=s.bZ.get f:=fun f hf=>by rw [n3 f,if_neg (by omega)]
 have hrange:∀ i r,s.next≤i→(fJ s rows).heap.get i=some r→∃ k p,i=s.next+k∧k<rows.length∧rows[k]? = some p∧r = .row p.1 p.2 i:=by
  intro i r hi hr
  rw [n2 i] at hr
  split at hr
  ·rename_i hh
   obtain ⟨p,hp,rfl⟩:=Option.map_eq_some_iff.1 hr
   exact ⟨i-s.next,p,by omega,by omega,hp,rfl⟩
  ·have:=h.dO i r hr
   omega
 have hnew:∀ k p,rows[k]? = some p→(fJ s rows).tag (s.next+k)=some (1,s.next+k)∧(fJ S0 rows).cells (64+k)=some (p.1,p.2,64+k)∧(fJ S0 rows).tag (64+k)=some (1,64+k):=by
  intro k p hp
  have hk:=(List.getElem?_eq_some_iff.1 hp).1
  have a1:(fJ s rows).heap.get (s.next+k)=some (.row p.1 p.2 (s.next+k)):=by
   rw [n2,if_pos (by omega),show s.next+k-s.next=k by omega,hp];rfl
  have a2:(fJ s rows).bZ.get (s.next+k)=some [s.next+k]:=by rw [n3,if_pos (by omega)]
  have b1:(fJ S0 rows).heap.get (64+k)=some (.row p.1 p.2 (64+k)):=by
   rw [m2,if_pos (by omega),show 64+k-S0.next=k by omega,hp];rfl
  have b2:(fJ S0 rows).bZ.get (64+k)=some [64+k]:=by rw [m3,if_pos (by omega)]
  exact ⟨(UY (by omega) a1 a2).1,(UY (by omega) b1 b2).2,(UY (by omega) b1 b2).1⟩
 have htag:∀ i,i<s.next→(fJ s rows).tag i=s.tag i:=by
  intro i hi
  unfold St.tag
  have e:(fJ s rows).heap.get i=s.heap.get i:=by rw [n2 i,if_neg (by omega)]
  rw [e]
  cases hg:s.heap.get i with
  |none=>rfl
  |some r=>
   cases r with
   |row cs t f=>
    have:=h.fM i cs t f hg
    simp only [au6 f this]
   |_=>rfl
 have hcell:∀ i c,i<s.next→(fJ s rows).cells i=some c→s.cells i=some c:=by
  rintro i ⟨cs,t,f⟩ hi hc
  obtain ⟨g1,g2⟩:=aO.1 hc
  have g1:=hold i _ hi g1
  refine aO.2 ⟨g1,?_⟩
  rcases g2 with g2|⟨l,hl,hm⟩
  ·exact .inl g2
  ·rw [au6 f (h.fM i cs t f g1)] at hl
   exact .inr ⟨l,hl,hm⟩
 have akB:∀ i a,s.next≤i→(fJ s rows).tag i=some a→∃ k p,i=s.next+k∧rows[k]? = some p∧a=(1,i):=by
  intro i a hi ha
  obtain ⟨r,hr⟩:=tag_some ha
  obtain ⟨k,p,rfl,_,hp,_⟩:=hrange i r hi hr
  rw [(hnew k p hp).1] at ha
  exact ⟨k,p,rfl,hp,(Option.some.inj ha).symm⟩
 have hat:∀ i l,i<s.next→(kS ρ ρ1 s.next).at i=some l→ρ.at i=some l:=by
  intro i l hi hl
  by_cases hlo:i<ak
  ·rw [Ren.kU hlo] at hl ⊢;exact hl
  ·rw [Ren.dw (by omega)] at hl ⊢;rwa [hlow i hi] at hl
 have aqx:∀ i a l,s.tag i=some a→ρ.at i=some l→w'.heap[l.blk]? = w.heap[l.blk]?:=fun i a l ht hl=>hbel.block _ (h.rQ ht hl)
 have aaz:∀ k l,ρ1 (64+k)=some l→w.heap.size≤l.blk∧l.blk<w'.heap.size:=fun k l hl=>by
  obtain ⟨_,_,d3,d4⟩:=@HR.dom lb.lo _ _ _ _ _ hhr _ l hl
  exact ⟨d3,d4⟩
 refine ⟨hle,⟨fun i l hi=>?_,by omega,Nat.le_trans h.iF hbel.size,fun i hi ht=>?_,fun i r hi=>?_,fun i cs e f hi=>?_,fun i cs e f hc=>?_,fun i es c hi=>?_,fun i r hi=>?_,fun i j a b l l' hi hj hab hl hl' hh=>?_⟩,
  hbel.os,hbel.tape,hbel.output,hbel.size,by omega,fun b hlt _=>hbel.block b hlt,fun b ho=>?_,fun i hi=>hlow i hi⟩
 ·by_cases hlt:i<s.next
  ·rw [hlow i hlt] at hi
   obtain ⟨d1,d2,d3,d4⟩:=h.dom i l hi
   exact ⟨d1,by omega,d3,Nat.lt_of_lt_of_le d4 hbel.size⟩
  ·have e:i=s.next+(i-s.next):=by omega
   rw [e,hhigh] at hi
   obtain ⟨_,d2,d3,d4⟩:=@HR.dom lb.lo _ _ _ _ _ hhr _ l hi
   have:=h.iF
   exact ⟨by omega,by omega,by omega,d4⟩
 ·rw [htag i (by omega)] at ht
  exact h.low i hi ht
 ·by_cases hlt:i<s.next
  ·omega
  ·obtain ⟨k,p,rfl,hk,_⟩:=hrange i r (by omega) hi
   omega
 ·by_cases hlt:i<s.next
  ·have:=h.fM i cs e f (hold i _ hlt hi)
   omega
  ·obtain ⟨k,p,rfl,hk,_,hrw⟩:=hrange i _ (by omega) hi
   injection hrw with _ _ q
   omega
 ·by_cases hlt:i<s.next
  ·have hc':=hcell i _ hlt hc
   obtain ⟨q,hq⟩:=h.rows i cs e f hc'
   exact ⟨q,hq.move hle (aqx i _ q (dH hc') hq.at_)⟩
  ·obtain ⟨g1,_⟩:=aO.1 hc
   obtain ⟨k,p,rfl,hk,hp,hrw⟩:=hrange i _ (by omega) g1
   injection hrw with q1 q2 q3
   subst q1 q2 q3
   obtain ⟨_,hc2,_⟩:=hnew k p hp
   obtain ⟨l,aAZ,A,fz,hA,hv,hz,_,hn⟩:=@HR.rows lb.lo _ _ _ _ _ hhr _ _ _ _ hc2
   rw [@Ren.dw lb.lo _ _ (by omega)] at aAZ
   refine ⟨l,by rw [Ren.dw (by omega),hhigh];exact aAZ,A,fz,hA.imp fun _ h=>⟨h.1,fun _=>h.2 (.inr (by omega))⟩,fun j x hj=>?_,fun _=>hz (by omega),fun h0=>absurd h0 (by omega),fun _=>hn (by omega)⟩
   obtain ⟨y,hy,hxy⟩:=hv j x hj
   have hf:=qp (hfl p (qar hp)) hj
   rw [@NM lb.lo _ _ _ hf hxy] at hy
   exact ⟨x,hy,H6 _ hf⟩
 ·by_cases hlt:i<s.next
  ·have hi':=hold i _ hlt hi
   obtain ⟨q,hq,es',g1,g2⟩:=h.maps i es c hi'
   exact ⟨q,hle _ _ hq,es',by rw [aqx i _ q (qj hi') (by rw [Ren.dw (h.dom i q hq).1];exact hq)];exact g1,g2.mono hle⟩
  ·obtain ⟨k,p,rfl,hk,_,hrw⟩:=hrange i _ (by omega) hi
   cases hrw
 ·by_cases hlt:i<s.next
  ·have hi':=hold i _ hlt hi
   obtain ⟨q,hq,q',g1,g2⟩:=h.loops i r hi'
   exact ⟨q,hle _ _ hq,q',by rw [aqx i _ q (kR hi') (by rw [Ren.dw (h.dom i q hq).1];exact hq)];exact g1,g2.mono hle⟩
  ·obtain ⟨k,p,rfl,hk,_,hrw⟩:=hrange i _ (by omega) hi
   cases hrw
 ·by_cases hlt:i<s.next
  ·rw [htag i hlt] at hi
   have hl2:=hat i l hlt hl
   have hbi:=h.rQ hi hl2
   by_cases auV:j<s.next
   ·rw [htag j auV] at hj
    exact h.sep i j a b l l' hi hj hab hl2 (hat j l' auV hl') hh
   ·have e:j=s.next+(j-s.next):=by omega
    rw [Ren.dw (by omega),e,hhigh] at hl'
    have:=(aaz _ l' hl').1
    omega
  ·obtain ⟨k,p,rfl,hp,rfl⟩:=akB i a (by omega) hi
   rw [Ren.dw (by omega),hhigh] at hl
   by_cases auV:j<s.next
   ·rw [htag j auV] at hj
    have:=h.rQ hj (hat j l' auV hl')
    have:=(aaz _ l hl).1
    omega
   ·obtain ⟨k',p',rfl,hp',rfl⟩:=akB j b (by omega) hj
    rw [Ren.dw (by omega),hhigh] at hl'
    refine @HR.sep lb.lo _ _ _ _ _ hhr (64+k) (64+k') _ _ l l' (hnew k p hp).2.2 (hnew k' p' hp').2.2 ?_ (by rw [@Ren.dw lb.lo _ _ (by omega)];exact hl) (by rw [@Ren.dw lb.lo _ _ (by omega)];exact hl') (.inl (by omega))
    intro e
    apply hab
    have e:64+k=64+k':=congrArg Prod.snd e
    have:k=k':=by omega
    subst this
    rfl
 ·obtain ⟨i,l,a,g1,g2,g3,g4⟩:=ho
  by_cases hlt:i<s.next
  ·rw [htag i hlt] at g2
   rw [hlow i hlt] at g3
   exact .inl ⟨i,l,a,g1,g2,g3,g4⟩
  ·have e:i=s.next+(i-s.next):=by omega
   rw [e,hhigh] at g3
   exact .inr (g4▸(aaz _ l g3).1)
def P9 (P:Program)(f:FuncId)(G:List fK→Tree cO):Prop:=
 ∀ (comps:List fK) (r:cO),(∀ c∈comps,c.fine P)→(G comps).run=some r→∃ (C:Cfg) (n:Nat),(∀ lo:Lo,@eX lo C P)∧r.ok=true∧(∀ p∈r.rows,flatAll p.1=true)∧
  ∃ v s1 π,(runN C n).1 f (bG comps) (aH comps)=some (v,s1)∧RV π (r.value 64) v∧Emb P π (fJ dJ r.rows) s1
theorem MO {f:FuncId}{G:List fK→Tree cO}(hrun:P9 P f G){args:List Value}{v:Value}{s':St}(hv:(vW P G s args).run=some (v,s'))
  {aZ:List Value} (hr:HR P base ρ s w) (ha:VRs ρ args aZ):Calls P f ⟨aZ⟩ w fun e w'=>∃ c ρ',e = .returned c∧Goes P base ρ s w ρ' s' w'∧VR ρ' v c:=by
 obtain ⟨r,h1,h2⟩:=Tree.map_some hv
 cases h2
 obtain ⟨comps,bn,h3,h4,h5,h6⟩:=LW hr h1 ha
 obtain ⟨h7,h8⟩:=aJ h3
 have h7:(mW comps).length≤31:=by rw [aW] at h7;exact qac h7
 obtain ⟨C,n,hK,hok,hfl,v1,s1,π,hrn,hrv,aj0⟩:=hrun comps r h4 h8
 have hlen:=h5.length
 have hlow:=apl h5 h7
 have hargs:=h6 [] [] 0 rfl (by omega) (fun _=>none)
 have ayV:([]:List Loc)++(bn++[])=bn:=by simp
 rw [ayV] at hargs
 refine ((@sN (qO bn) P C (hK _) n).1 f _ _ v1 s1 hrn w.heap.size _ w aZ hlow hargs).mono ?_
 rintro e w' ⟨c,ρ1,rfl,hg,hvc⟩
 have hnx:(aH comps).next=64:=(nZ _).1
 have hn0:dJ.next=64:=rfl
 have hg2:=@Goes.XY (qO bn) P w.heap.size (fun _=>none) ρ1 (aH comps) s1 (fJ dJ r.rows) w w' π hlow hg aj0 (fun i hi hlt=>by rw [hnx] at hlt;have:ak=64:=rfl;omega) (by rw [(o8 _ _).1];omega)
 refine ⟨c,_,rfl,ai5 (lb:=⟨qO bn⟩) hr hn0 hlow hg2 hfl,?_⟩
 exact asH hr.next hok (@RV.comp (qO bn) _ _ _ _ _ hrv hvc)
theorem ae6 {C:Cfg}(hK:∀ lo:Lo,@eX lo C P){n:Nat}{f:FuncId}{G:List fK→Tree cO}(hrun:Ut P C n f G){args:List Value}{v:Value}{s':St}(hv:(vW P G s args).run=some (v,s'))
  {aZ:List Value} (hr:HR P base ρ s w) (ha:VRs ρ args aZ):Calls P f ⟨aZ⟩ w fun e w'=>∃ c ρ',e = .returned c∧Goes P base ρ s w ρ' s' w'∧VR ρ' v c:=
 MO (fun comps r hc hr=>⟨C,n,hK,hrun comps r hc hr⟩) hv hr ha
end
end Go.Ax
namespace Go.Ax
open Go
noncomputable section
section
variable {R:Type}
structure KP where
 L:Nat
 B:Option Bool:=none
 alt:FuncId→List Value→Option (Bool × Value):=fun _ _=>none
 axy:FuncId→Nat→Fr→St→Option (Bool × (Ex × Fr × St)):=fun _ _ _ _=>none
 post:FuncId→List Value→List Int:=fun _ _=>[]
 opq:Bool:=false
def KP.plain (K:KP):KP:={ L:=K.L,B:=K.B,alt:=K.alt,post:=K.post,opq:=K.opq }
def blk (b:Option Bool)(n:Nat):Nat:=Option.rec n (fun t=>Bool.rec n n t) b
theorem acy (b:Option Bool)(n:Nat):blk b n=n:=by
 cases b with
 |none=>rfl
 |some t=>cases t <;> rfl
abbrev wQ (R:Type):=FuncId→List Value→St→(Value × St→Option R)→Option R
abbrev rH (R:Type):=Nat→List Value→St→(Value × St→Option R)→Option R
abbrev FK (R:Type):=Fr→St→Option R
abbrev XK (R:Type):=Ex→Fr→St→Option R
def acr (call:wQ R)(yield:rH R)(rd:Bool)(n:Nat)(fr:Fr)(dst:Option Tmp)(k:FK R)(r:Res):Option R:=
 match r with
 |.val v s=>k (fr.put n dst v) s
 |.call f args s=>call f args s fun q=>k (fr.put n dst q.1) q.2
 |.yield l args s=>yield l args s fun q=>k (fr.put n dst q.1) q.2
 |.defer f args s=>sel rd none (k (Fr.put n { vars:=fr.vars,loc:=fr.loc,defers:=(f,args)::fr.defers } dst unit) s)
def ayq (x y:Nat):Nat:=qaD (qag x (qam 18446744073709551616 (qaD y 18446744073709551616))) 18446744073709551616
def akh (f:Value→Value→Option Bool)(n:Nat):List Value→List Value→Option Bool:=
 Nat.rec (fun _ _=>some true) (fun _ ih xs ys=>jB xs none fun x xt=>jB ys none fun y yt=>aj (f x y) fun b=>aj (ih xt yt) fun r=>some (b&&r)) n
def U2 (P:Program)(ih:EqF)(e:TypeId)(n:Nat)(xs ys:List Value)(k:Nat):Nat→Option Bool:=
 Nat.rec (fun _=>some true) (fun _ go i=>aj (vw P ih e (qaj i n) xs ys) fun b=>aj (go (qak i)) fun r=>some (b&&r)) k
def MS (P:Program)(ih:EqF)(xs ys:List Value):List Field→Option Bool:=
 List.rec (some true) (fun f _ go=>aj (vw P ih f.type f.offset xs ys) fun b=>aj go fun r=>some (b&&r))
def Vh (C:Cfg)(ih:EqF)(t:TypeId)(x y:Value):Option Bool:=
 aj (C.P.underlying t) fun d=>match d with
  |.array n e=>amX x y fun xs ys=>aj (C.P.underlying e) fun d=>aj (size C.P e) fun k=>sel (!EG d&&qab k 1) (akh (eqD C.P d) n xs ys) (U2 C.P ih e k xs ys n 0)
  |.struct fs=>guard (C.apt t) (amX x y fun xs ys=>MS C.P ih xs ys fs.toList)
  |d=>eqD C.P d x y
def azi (C:Cfg):EqF:=Nat.rec (fun _ _ _=>none) (fun _ ih=>Vh C ih) 6
def apg (v:Value):Bool:=
 match v with
 |.agg _=>true
 |_=>false
def acV (C:Cfg)(t:TypeId)(op:BinOp)(x y:Operand)(a b:Value)(k:Value→Option R):Option R:=
 sel (apg a) (guard (rO C t x y a b) (aj (azi C t a b) fun r=>match op with
  |.eql=>k (.bool r)
  |.neq=>k (.bool !r)
  |_=>none)) (aj (guard (rO C t x y a b) (binOp C t op a b)) k)
def nH (C:Cfg)(t:TypeId)(op:BinOp)(x y:Operand)(a b:Value)(k:Value→Option R):Option R:=aj (guard (rO C t x y a b) (binOp C t op a b)) k
def ayS (C:Cfg)(t:TypeId)(op:BinOp)(x y:Operand)(f:IntKind→Int→Int→Int)(a b:Value)(k:Value→Option R):Option R:=
 match a with
 |.int ka i=>match b with
  |.int kb j=>guard (gY ka kb) (guard (!eqI j 0) (k (.int ka (f ka i j))))
  |b=>nH C t op x y a b k
 |a=>nH C t op x y a b k
def aqy (i j:Int)(k:Int→Option R):Option R:=
 Int.casesOn (motive:=fun _=>Option R) i (fun _=>k (ali i j)) (fun u=>Int.casesOn (motive:=fun _=>Option R) j (fun v=>sel (qab (qaD (qak u) v) 0) (k 0) (k (qan (qam (qaD (qak u) v) 1)))) (fun _=>k (ali i j)))
def aAT (C:Cfg)(t:TypeId)(x y:Operand)(a b:Value)(k:Value→Option R):Option R:=
 match a with
 |.int ka i=>match b with
  |.int kb j=>guard (gY ka kb) (guard (!eqI j 0) (aqy i j fun z=>k (.int ka z)))
  |b=>nH C t .rem x y a b k
 |a=>nH C t .rem x y a b k
def IX (i j:Int)(g:Nat→Nat→Option R)(h:Option R):Option R:=Int.casesOn i (fun x=>Int.casesOn j (fun y=>g x y) (fun _=>h)) (fun _=>h)
def akL (x y:Nat)(k:Value→Option R):Option R:=
 sel (qae y x) (guard (qae (qam x y) 9223372036854775807) (k (.int .i64 (qaf (qam x y)))))
  (guard (qae (qam y x) 9223372036854775808) (k (.int .i64 (qan (qam (qam y x) 1)))))
def aAs (C:Cfg)(t:TypeId)(x y:Operand)(a b:Value)(k:Value→Option R):Option R:=
 match a with
 |.int ka i=>match b with
  |.int kb j=>guard (gY ka kb) (match ka with
   |.u64=>IX i j (fun x y=>k (.int .u64 (qaf (ayq x y)))) (k (.int .u64 (wrap .u64 (ahz i j))))
   |.i64=>IX i j (fun x y=>akL x y k) (k (.int .i64 (wrap .i64 (ahz i j))))
   |ka=>k (.int ka (wrap ka (ahz i j))))
  |b=>nH C t .sub x y a b k
 |a=>nH C t .sub x y a b k
def aAu (K:KP)(C:Cfg)(t:TypeId)(x y:Operand)(a b:Value)(k:Value→Option R):Option R:=
 match a with
 |.int ka i=>match b with
  |.int kb j=>guard (gY ka kb) (match ka with
   |.u64=>IX i j (fun x y=>k (.int .u64 (qaf (blk K.B (qaD (qaj x y) 18446744073709551616))))) (k (.int .u64 (wrap .u64 (anX i j))))
   |.i64=>IX i j (fun x y=>guard (qae (qaj x y) 9223372036854775807) (k (.int .i64 (qaf (qaj x y))))) (k (.int .i64 (wrap .i64 (anX i j))))
   |ka=>k (.int ka (wrap ka (anX i j))))
  |b=>nH C t .mul x y a b k
 |a=>nH C t .mul x y a b k
def aBf (K:KP)(C:Cfg)(t:TypeId)(x y:Operand)(a b:Value)(k:Value→Option R):Option R:=
 match a with
 |.int ka i=>match b with
  |.int kb j=>match ka with
   |.u64=>IX i j (fun x y=>k (.int .u64 (qaf (blk K.B (qaD (qaj x (Nat.pow 2 (sel (qae y 64) y 64))) 18446744073709551616))))) (nH C t .shl x y a b k)
   |_=>nH C t .shl x y a b k
  |b=>nH C t .shl x y a b k
 |a=>nH C t .shl x y a b k
def aA9 (C:Cfg)(t:TypeId)(x y:Operand)(a b:Value)(k:Value→Option R):Option R:=
 match a with
 |.int ka i=>match b with
  |.int kb j=>guard (gY ka kb) (match ka with
   |.i64=>IX i j (fun x y=>guard (qae (qag x y) 9223372036854775807) (k (.int .i64 (qaf (qag x y))))) (k (.int .i64 (wrap .i64 (ape i j))))
   |ka=>k (.int ka (wrap ka (ape i j))))
  |b=>nH C t .add x y a b k
 |a=>nH C t .add x y a b k
def axV (K:KP)(C:Cfg)(t:TypeId)(op:BinOp)(x y:Operand)(a b:Value)(k:Value→Option R):Option R:=
 match op with
 |.quo=>ayS C t .quo x y (fun k i j=>wrap k (axn i j)) a b k
 |.rem=>aAT C t x y a b k
 |.sub=>aAs C t x y a b k
 |.add=>aA9 C t x y a b k
 |.mul=>aAu K C t x y a b k
 |.shl=>aBf K C t x y a b k
 |.eql=>acV C t .eql x y a b k
 |.neq=>acV C t .neq x y a b k
 |op=>nH C t op x y a b k
def axH (C:Cfg)(s:St)(e:TypeId)(len i:Nat)(a:Addr)(k:Res→Option R):Option R:=
 guard (ltN i len) (aj (size C.P e) fun n=>k (.val (ptr a.block (qag a.off (qaj i n))) s))
def BR (C:Cfg)(ev:Ev)(s:St)(t:TypeId)(x i:Operand)(k:Res→Option R):Option R:=
 aj (ev x) fun x=>aj (ev i) fun i=>aj (asNat i) fun i=>match C.P.underlying t with
  |some (.slice e)=>match x with
   |.slice (some a) len _=>axH C s e len i a k
   |_=>none
  |some (.array len e)=>match x with
   |.pointer (some a)=>axH C s e len i a k
   |_=>none
  |_=>none
def aln (t:Nat)(b:Bool):List (Nat × Value)→List (Nat × Value):=fun l=>List.rec [] (fun p l ih=>sel (qab p.1 t) ((p.1,.bool b)::l) (p::ih)) l
def know (n:Nat)(t:Nat)(b:Bool)(fr:Fr):Fr:=
 sel (ltN t n) { vars:=fr.vars.set t (.bool b),loc:=fr.loc,defers:=fr.defers } { vars:=fr.vars,loc:=aln t b fr.loc,defers:=fr.defers }
def Vq (n:Nat)(x:Operand)(b:Bool)(fr:Fr):Fr:=
 match x with
 |.tmp t=>know n t b fr
 |_=>fr
def arG (C:Cfg)(n:Nat)(fr:Fr)(s:St)(c a b:Operand)(k:Fr→Res→Option R):Option R:=
 aj (fr.ev n c) fun v=>match v with
  |.bool t=>sel t (aj (AZ C (fr.ev n) s a) (k (Vq n c true fr))) (aj (AZ C (fr.ev n) s b) (k (Vq n c false fr)))
  |_=>none
def alq (n:Nat)(l:List Value)(k:List Value→Option R):Option R:=guard (qae n (aQ l)) (k (aA n l))
def zi (vs:List Value)(o:Nat)(cs:List Value):List Value:=aK (aA o cs) (aK vs (eH (qag o (aQ vs)) cs))
def ace (vs:List Value)(o:Nat)(cs:List Value)(k:List Value→Option R):Option R:=guard (qae (qag o (aQ vs)) (aQ cs)) (k (zi vs o cs))
def ad1 (s:St)(sz n:Nat)(v:Value)(k:List Value→Option R):Option R:=
 match v with
 |.slice (some a) _ _=>sel (qab a.block fP) (guard (qab n 0) (k [])) (aj (s.cells a.block) fun c=>alq (qaj n sz) (eH a.off c.1) k)
 |.slice none _ _=>guard (qab n 0) (k [])
 |.string b=>guard (qab sz 1) (k (qY (aA n b.data.toList)))
 |_=>none
def qm (s:St)(b o:Nat)(vs:List Value)(k:St→Option R):Option R:=
 guard (qae ak b&&rV vs) (aj (s.cells b) fun c=>ace vs o c.1 fun cs=>k (putRow s b cs c.2.1 c.2.2))
def aqg (cs:List Value)(o:Nat):Int:=
 match nth cs o with
 |some (.int _ z)=>z
 |_=>0
def ay (cs:List Value)(o:Nat):Nat:=
 match nth cs o with
 |some (.int _ (.ofNat z))=>z
 |_=>0
def aoy (z:Int):Bool:=
 match z with
 |.ofNat _=>true
 |.negSucc _=>false
def akf (cs:List Value)(o:Nat):Bool:=
 match nth cs o with
 |some (.bool z)=>z
 |_=>false
def aqd (cs:List Value)(o:Nat):ByteArray:=
 match nth cs o with
 |some (.string z)=>z
 |_=>⟨⟨[]⟩⟩
def aqB (cs:List Value)(o:Nat)(z:Value):Value:=Option.casesOn (nth cs o) z fun v=>v
def RF (z:Value)(cs:List Value)(o:Nat):Value:=
 match z with
 |.int k _=>sel (qR k) (.int k (qaf (ay cs o))) (.int k (aqg cs o))
 |.bool _=>.bool (akf cs o)
 |.string _=>.string (aqd cs o)
 |z=>aqB cs o z
def iD (z:Value)(v:Option Value):Bool:=
 match z with
 |.int k _=>match v with
  |some (.int j n)=>gY k j&&sel (qR k) (aoy n) true
  |_=>false
 |.bool _=>match v with
  |some (.bool _)=>true
  |_=>false
 |.string _=>match v with
  |some (.string _)=>true
  |_=>false
 |_=>v.isSome
def Aa (zs:List Value)(cs:List Value):Nat→List Value:=List.rec (fun _=>[]) (fun z _ ih o=>RF z cs o::ih (qak o)) zs
def TU (zs:List Value)(cs:List Value):Nat→Bool:=List.rec (fun _=>true) (fun z _ ih o=>sel (iD z (nth cs o)) (ih (qak o)) false) zs
def aas (P:Program)(t:TypeId)(o:Nat)(cs:List Value)(k:Value→Option R):Option R:=
 aj (isAgg P t) fun g=>sel g
  (aj (size P t) fun n=>aj (zero P t) fun zs=>guard (qab (aQ zs) n) (guard (TU zs cs o) (k (FY (Aa zs cs o)))))
  (aj (zero P t) fun zs=>jB zs none fun z _=>guard (iD z (nth cs o)) (k (RF z cs o)))
def atI (P:Program)(t:TypeId):Bool:=
 match P.underlying t with
 |some (.slice _)=>true
 |_=>false
def anq (cs:List Value)(o:Nat):Nat:=
 match nth cs o with
 |some (.float _ n)=>n
 |_=>0
def asR (v:Option Value):Bool:=
 match v with
 |some (.float k _)=>KD k
 |_=>false
def abv (P:Program)(t:TypeId)(o:Nat)(cs:List Value)(k:Value→Option R):Option R:=
 aj (isAgg P t) fun g=>sel g none (guard (asR (nth cs o)) (k (.float .f64 (anq cs o))))
def aso (q:Bool)(C:Cfg)(ev:Ev)(s:St)(t:TypeId)(a:Operand)(k:Res→Option R):Option R:=
 aj (ev a) fun v=>match v with
  |.pointer (some a)=>aj (s.cells a.block) fun c=>sel (q&&atI C.P t) (abv C.P t a.off c.1 fun v=>k (.val v s)) (aas C.P t a.off c.1 fun v=>k (.val v s))
  |_=>none
def aiM (C:Cfg)(ev:Ev)(s:St)(t:TypeId)(a x:Operand)(k:Res→Option R):Option R:=
 aj (ev a) fun v=>match v with
  |.pointer (some a)=>aj (ev x) fun v=>aj (size C.P t) fun n=>guard (qab (aQ (cellsOf v)) n) (qm s a.block a.off (cellsOf v) fun s=>k (.val unit s))
  |_=>none
def DZ (s:St)(elem:TypeId)(base:Option Addr)(len cap sz:Nat)(a:Value)(k:Value × St→Option R):Option R:=
 sel (ltN cap bf||base.isNone) (guard (qae len cap) (k (a,s)))
  (Option.casesOn base none fun p=>sel (qab p.block fP) (guard (qab len 0) (k (a,s))) <| aj (s.cells p.block) fun c=>
   guard (qab c.2.1 elem&&JM p.off cap sz&&qae 1 sz && !qab c.2.2 0&&qae (qag p.off (qaj len sz)) (aQ c.1)) (k (a,s)))
def PZ (s:St)(p:Addr)(len cap need e:Nat)(new:List Value)(k:Value × St→Option R):Option R:=
 qm s p.block e new fun s=>k (.slice (some p) need cap,s)
def H8 (P:Program)(s:St)(p:Addr)(len cap need e sz:Nat)(new:List Value)(c:List Value × TypeId × Nat)(k:Value × St→Option R):Option R:=
 guard (Ae P c.2.1 need) <| alq (qaj len sz) (eH p.off c.1) fun old=>
  sel (ltN cap bf)
   (guard (ltN cap need) (k (grow s c.2.1 (aK old new) need)))
   (guard (qab e (aQ c.1)&&qae ak p.block&&rV new) (k (branch s p.block (aK old new) c.2.1 c.2.2 need)))
def LV (P:Program)(s:St)(elem:TypeId)(p:Addr)(len cap n sz:Nat)(new:List Value)(k:Value × St→Option R):Option R:=
 aj (s.cells p.block) fun c=>
  guard (qab c.2.1 elem&&qae 1 sz&&(ltN cap bf||(JM p.off cap sz && !qab c.2.2 0))) <| sel (qae (qag len n) cap&&qae (qag (qag p.off (qaj len sz)) (qaj n sz)) (aQ c.1))
   (PZ s p len cap (qag len n) (qag p.off (qaj len sz)) new k)
   (H8 P s p len cap (qag len n) (qag p.off (qaj len sz)) sz new c k)
def Y8 (P:Program)(s:St)(elem:TypeId)(base:Option Addr)(len cap n sz:Nat)(new:List Value)(a:Value)(k:Value × St→Option R):Option R:=
 sel (qab n 0) (DZ s elem base len cap sz a k) (Option.casesOn base (guard (qab len 0&&qab cap 0&&Ae P elem n) (k (grow s elem new n))) fun p=>LV P s elem p len cap n sz new k)
def abe (P:Program)(s:St)(sT:TypeId)(T2:Option TypeId)(a b:Value)(k:Value × St→Option R):Option R:=
 guard (Qn P T2) <| match P.underlying sT with
 |some (.slice elem)=>match a with
  |.slice base len cap=>aj (lenOf b) fun n=>aj (size P elem) fun sz=>ad1 s sz n b fun new=>Y8 P s elem base len cap n sz new a k
  |_=>none
 |_=>none
def asT (P:Program)(s:St)(t:TypeId)(d x:Value)(k:Res→Option R):Option R:=
 match P.underlying t with
 |some (.slice e)=>match d with
  |.slice base dLen _=>aj (lenOf x) fun sl=>aj (size P e) fun sz=>ad1 s sz (sel (qae sl dLen) sl dLen) x fun new=>
    sel (qab (sel (qae sl dLen) sl dLen) 0) (k (.val (i64 0) s))
     (Option.casesOn base none fun a=>qm s a.block a.off new fun s=>k (.val (i64 (sel (qae sl dLen) sl dLen)) s))
  |_=>none
 |_=>none
def TS (s:St)(a:Addr)(e:TypeId)(cap l h m n:Nat)(k:Value × St→Option R):Option R:=
 aj (s.cells a.block) fun c=>
  guard (qab c.2.1 e&&JM a.off cap n&&qae 1 n && !qab c.2.2 0&&qae cap aC&&(ltN m bf||qae bf (qam m l))&&qae (qag a.off (qaj (sel (qae bf m) h m) n)) (aQ c.1))
   (sel (ltN m bf||ltN l h||ltN (qag a.off (qaj l n)) (aQ c.1)||qab l 0)
    (sel (qab m l) (k (.slice (some a) (qam h l) (qam m l),s)) (k (.slice (some ⟨a.block,qag a.off (qaj l n),none⟩) (qam h l) (qam m l),s)))
    (k (bY,s)))
def MI (s:St)(a:Option Addr)(e:TypeId)(cap l h m n:Nat)(k:Value × St→Option R):Option R:=
 guard (qae l h&&qae h m&&qae m cap)
  (Option.casesOn a (k (.slice none (qam h l) (qam m l),s))
   fun a=>sel (qab a.block fP) (guard (qab h 0&&qab cap aC&&(qab m 0||qab m aC)) (k (bY,s))) (sel (qae bf cap) (TS s a e cap l h m n k)
    (k (.slice (some (sel (qab m l) a ⟨a.block,qag a.off (qaj l n),none⟩)) (qam h l) (qam m l),s))))
def axI (ev:Ev)(x:Option Operand)(k:Option Value→Option R):Option R:=Option.casesOn x (k none) fun x=>aj (ev x) fun v=>k (some v)
def aax (C:Cfg)(ev:Ev)(s:St)(t:TypeId)(x:Operand)(lo hi mx:Option Operand)(k:Res→Option R):Option R:=
 aj (ev x) fun x=>axI ev lo fun lo=>axI ev hi fun hi=>axI ev mx fun mx=>match x with
  |.slice a len cap=>match C.P.underlying t with
   |some (.slice e)=>aj (size C.P e) fun n=>bounds lo hi mx len cap fun l h m=>guard (mx.isNone||(hi.isSome&&ltN m bf)) (MI s a e cap l h m n fun q=>k (.val q.1 q.2))
   |_=>none
  |x=>aj (aj (Le C.P s t x lo hi mx) H9) k
def aa6 (mx:Bool)(s:St)(x y:Value)(k:Res→Option R):Option R:=
 match x with
 |.int ka a=>match y with
  |.int _ b=>sel (sel mx (ltI a b) (ltI b a)) (k (.val (.int ka b) s)) (k (.val (.int ka a) s))
  |_=>none
 |_=>none
theorem RH (mx:Bool)(s:St)(x y:Value)(k:Res→Option R):aa6 mx s x y k=aj (Ew mx s x y) k:=by
 cases x with
 |int ka a=>cases y with
  |int kb b=>
   show sel (sel mx (ltI a b) (ltI b a)) _ _=aj (ret (.int ka (sel (sel mx (ltI a b) (ltI b a)) b a)) s) k
   cases (sel mx (ltI a b) (ltI b a)) <;> rfl
  |_=>rfl
 |_=>rfl
def aaq (C:Cfg)(ev:Ev)(s:St)(c:Call)(k:Res→Option R):Option R:=
 match c.callee with
 |.builtin b=>aj (evs ev c.args.toList) fun args=>match args with
  |[x,y]=>match b with
   |.append=>aj (nth c.argTypes.toList 0) fun t=>abe C.P s t (nth c.argTypes.toList 1) x y fun q=>k (.val q.1 q.2)
   |.copy=>aj (nth c.argTypes.toList 0) fun t=>asT C.P s t x y k
   |.min=>aa6 false s x y k
   |.max=>aa6 true s x y k
   |b=>aj (builtin C s b (nth c.argTypes.toList 0) (nth c.argTypes.toList 1) [x,y]) k
  |args=>aj (builtin C s b (nth c.argTypes.toList 0) (nth c.argTypes.toList 1) args) k
 |_=>aj (Bq C ev s c) k
def gI:List Value→Bool:=fun l=>List.rec true (fun v _ ih=>sel (byteOf v).isSome ih false) l
def wz:List Value→List UInt8:=fun l=>List.rec [] (fun v _ ih=>Option.rec 0 (fun b=>b) (byteOf v)::ih) l
def azO (C:Cfg)(s:St)(src:TypeId)(n:Nat)(v:Value)(k:Res→Option R):Option R:=
 match C.P.underlying src with
 |some (.slice e)=>guard (isBytes C.P e) (ad1 s 1 n v fun cs=>guard (gI cs) (k (.val (.string ⟨⟨wz cs⟩⟩) s)))
 |_=>none
def ar0 (P:Program)(t:TypeId):Bool:=
 match P.underlying t with
 |some (.int .i64)=>true
 |_=>false
def Uy (C:Cfg)(ev:Ev)(s:St)(src dst:TypeId)(x:Operand)(z:Int)(k:Res→Option R):Option R:=
 sel (ar0 C.P dst&&(C.P.underlying src).isSome) (Int.casesOn z (fun n=>sel (qae 9223372036854775808 n) (aj (jY C ev s src dst x) k) (k (.val (.int .i64 (qaf n)) s))) (fun _=>aj (jY C ev s src dst x) k)) (aj (jY C ev s src dst x) k)
def Vw (C:Cfg)(ev:Ev)(s:St)(src dst:TypeId)(x:Operand)(k:Res→Option R):Option R:=
 aj (ev x) fun v=>match v with
  |.slice (some a) n c=>sel (isStr C.P dst) (azO C s src n (.slice (some a) n c) k) (aj (jY C ev s src dst x) k)
  |.int kd z=>Uy C ev s src dst x z k
  |_=>aj (jY C ev s src dst x) k
def Ci (C:Cfg)(ev:Ev)(t:TypeId)(l c:Operand)(k:List Value→TypeId→Nat→Nat→Option R):Option R:=
 match C.P.underlying t with
 |some (.slice e)=>aj (ev l) fun l=>aj (asNat l) fun l=>aj (ev c) fun c=>aj (asNat c) fun c=>aj (C.P.info? e) fun i=>aj (zero C.P e) fun z=>
   guard (qab (aQ z) i.size&&qae 1 i.size&&qae l c&&qae c 100000&&qae (qaj i.bytes c) 281474976710656) (k (repeatL c z) e l c)
 |_=>none
def Io (C:Cfg)(ev:Ev)(s:St)(t:TypeId)(l c:Operand)(k:Res→Option R):Option R:=
 Ci C ev t l c fun cs e l c=>s.new (.row cs e 0) fun id s=>k (.val (.slice (some ⟨id,0,none⟩) l c) s)
def axB (C:Cfg)(ev:Ev)(o:Op)(k:Row × (Nat→Value)→Option R):Option R:=
 match o with
 |.makeSlice t l c=>Ci C ev t l c fun cs e l c=>k (.row cs e 0,fun id=>.slice (some ⟨id,0,none⟩) l c)
 |o=>aj (aOp C ev o) k
def opK (K:KP)(C:Cfg)(ev:Ev)(s:St)(o:Op)(k:Res→Option R):Option R:=
 match o with
 |.binOp op t x y _=>aj (ev x) fun a=>aj (ev y) fun b=>axV K C t op x y a b fun v=>k (.val v s)
 |.indexAddr t x i=>BR C ev s t x i k
 |.load t a=>aso K.opq C ev s t a k
 |.store t a x=>aiM C ev s t a x k
 |.slice t x lo hi mx=>aax C ev s t x lo hi mx k
 |.call c=>aaq C ev s c k
 |.convert src dst x=>Vw C ev s src dst x k
 |.makeSlice t l c=>Io C ev s t l c k
 |o=>aj (execOp C ev s o) k
def aqW (K:KP)(C:Cfg)(n:Nat)(fr:Fr)(s:St)(o:Op)(k:Fr→Res→Option R):Option R:=
 match o with
 |.pick c a b=>arG C n fr s c a b k
 |o=>opK K C (fr.ev n) s o (k fr)
def aed (n:Nat)(all:List Oper)(g:Option (Nat × Bool))(fr:Fr)(run skip:Fr→Option R):Option R:=
 Option.casesOn g (run fr) fun g=>aj (nth all g.1) fun o=>aj o.dst fun d=>aj (fr.ev n (.tmp d)) fun v=>match v with
  |.bool c=>sel c (sel g.2 (run (know n d true fr)) (skip (know n d true fr))) (sel g.2 (skip (know n d false fr)) (run (know n d false fr)))
  |_=>skip fr
def agX (K:KP)(C:Cfg)(call:wQ R)(yield:rH R)(rd:Bool)(n:Nat)(all:List Oper)(o:Oper)(k:FK R)(fr:Fr)(s:St):Option R:=
 aed n all o.guard fr (fun fr=>aqW K C n fr s o.op fun fr r=>acr call yield rd n fr o.dst k r) (fun fr=>k (fr.put n o.dst unit) s)
def axo (K:KP)(C:Cfg)(call:wQ R)(yield:rH R)(rd:Bool)(n:Nat)(all:List Oper)(ops:List Oper)(k:FK R):FK R:=
 List.rec k (fun o _ ih=>agX K C call yield rd n all o ih) ops
abbrev aek (R:Type):=Bool→List aan→Fr→St→Option R
def aah (C:Cfg)(call:wQ R)(yield:rH R)(rd:Bool)(n:Nat)(base:Nat)(a:Info)(rest:List Info)(k:aek R)(cl:Bool)(pend:List aan)(fr:Fr)(r:Res):Option R:=
 sel (cl&&(nC a.op.op&&vJ C r)) (acr call yield rd n fr a.op.dst (fun fr s=>guard (lg s base rest) (k true pend fr s)) r)
  (acr call yield rd n fr a.op.dst (fun fr s=>guard (vN C n s a.mask pend&&lg s base rest) (k false pend fr s)) r)
def aA7 (k:Value→Option R)(r:Res):Option R:=
 match r with
 |.val v _=>k v
 |_=>none
def Ul (K:KP)(C:Cfg)(call:wQ R)(yield:rH R)(rd:Bool)(n:Nat)(all:List Oper)(base:Nat)(a:Info)(rest:List Info)(k:aek R)(cl:Bool)(pend:List aan)(fr:Fr)(s:St):Option R:=
 aed n all a.op.guard fr (fun fr=>
  (Gz a.cls
   (aqW K C n fr s a.op.op fun fr=>aA7 fun v=>k cl pend (fr.put n a.op.dst v) s)
   fun c1=>Gz c1
    (aqW K C n fr s a.op.op fun fr=>aA7 fun v=>guard (lH s v) (k cl ({ i:=a.i,op:=a.op.op,fr:=fr,v:=v }::pend) (fr.put n a.op.dst v) s))
    fun c2=>Gz c2
     (axB C (fr.ev n) a.op.op fun q=>k false pend (fr.put n a.op.dst (q.2 (qag base a.i))) { heap:=s.heap.set (qag base a.i) q.1,bZ:=s.bZ,next:=s.next })
     fun _=>opK K C (fr.ev n) s a.op.op (aah C call yield rd n base a rest k cl pend fr)))
  (fun fr=>k cl pend (fr.put n a.op.dst unit) s)
def akH (K:KP)(C:Cfg)(call:wQ R)(yield:rH R)(rd:Bool)(n:Nat)(all:List Oper)(base:Nat)(l:List Info)(k:FK R):aek R:=
 List.rec (fun _ _ fr s=>k fr s) (fun a rest ih=>Ul K C call yield rd n all base a rest ih) l
def am9 (K:KP)(C:Cfg)(call:wQ R)(yield:rH R)(rd:Bool)(n:Nat)(all:List Oper)(order:List Nat)(k:FK R)(fr:Fr)(s:St):Option R:=
 aj (Jv all order) fun l=>akH K C call yield rd n all s.next l k true [] fr { heap:=s.heap,bZ:=s.bZ,next:=qag s.next (aQ all) }
def amK (b:FK R)(k:XK R)(ex:Ex)(fr:Fr)(s:St):Option R:=
 match ex with
 |.normal=>b fr s
 |ex=>k ex fr s
def aiz (f:XK R→FK R)(k:XK R):Nat→FK R:=fun n=>Nat.rec (fun _ _=>none) (fun _ ih=>f (amK ih k)) n
def aps (id:Nat)(k:XK R)(ex:Ex)(fr:Fr)(s:St):Option R:=
 match ex with
 |.exit id'=>sel (qab id id') (k .normal fr s) (k ex fr s)
 |ex=>k ex fr s
def auw (n:Nat)(x:Operand)(a b:FK R)(fr:Fr)(s:St)(v:Value):Option R:=
 match v with
 |.bool c=>sel c (a (Vq n x true fr) s) (b (Vq n x false fr) s)
 |_=>none
def OI (k:XK R)(r:Ex × Fr × St):Option R:=k r.1 r.2.1 r.2.2
def IW (C:Cfg)(call:wQ R)(fr:Fr)(l:Nat)(f:Value)(s:St)(k:XK R):Option R:=
 aj (invoke C s f [.func (.yield l) #[] #[]]) fun r=>match r with
  |.call g args s=>call g args s fun q=>aj (getLoop q.2 l) fun r=>aj (IJ fr q.2 l r) (OI k)
  |_=>none
def ajC (C:Cfg)(call:wQ R)(n:Nat)(fn:FuncId)(inRound:Bool)(f:Operand)(params:Array Tmp)(assign body:Code)(k:XK R)(fr:Fr)(s:St):Option R:=
 sel inRound none <| aj (fr.ev n f) fun f=>s.new .other fun _ s=>
  s.new (.loop (.loop { state:=.ready,pending:=none,fn:=fn,vars:=fr.vars,params:=params.toList,assign:=assign,body:=body,n:=n })) fun l s=>IW C call fr l f s k
def air (C:Cfg)(fn:FuncId)(body:Code)(it:FK R)(k:XK R)(fr:Fr)(s:St):Option R:=
 Option.casesOn (C.MQ fn (jR body)) (it fr s) fun F=>(F fr s).runK (OI k) (it fr s)
def arT (K:KP)(C:Cfg)(fn:FuncId)(rd:Bool)(body:Code)(it:FK R)(k:XK R)(fr:Fr)(s:St):Option R:=
 sel rd (it fr s) (Option.casesOn (K.axy fn (jR body) fr s) (air C fn body it k fr s) fun p=>guard p.1 (OI k p.2))
def jO (K:KP)(C:Cfg)(call:wQ R)(yield:rH R)(n:Nat)(fn:FuncId)(inRound:Bool)(c:Code):XK R→FK R:=
 Code.rec (motive:=fun _=>XK R→FK R)
  (fun k fr s=>k .normal fr s)
  (fun id ops draw k fr s=>sel draw (am9 K C call yield inRound n ops.toList (C.order fn id) (k .normal) fr.fresh s) (axo K C call yield inRound n ops.toList ops.toList (k .normal) fr.fresh s))
  (fun _ _ a b k=>a (amK (b k) k))
  (fun c _ _ a b k fr s=>aj (fr.ev n c) (auw n c (a k) (b k) fr s))
  (fun id _ a k=>a (aps id k))
  (fun body a k=>arT K C fn inRound body (aiz a k K.L) k)
  (fun f params assign body _ _ k fr s=>ajC C call n fn inRound f params assign body k fr s)
  (fun id k fr s=>k (.exit id) fr s)
  (fun _ a k fr s=>sel inRound none (a k fr s))
  (fun _ k fr s=>k .normal fr s)
  (fun _ _ _ _=>none)
  (fun k fr s=>k .ret fr s)
  (fun _ _ _ _=>none) c
def aiI (C:Cfg)(dcall:gX)(f:FuncId)(k:Value × St→Option R)(ex:Ex)(fr:Fr)(s:St):Option R:=
 match ex with
 |.exit _=>none
 |_=>aj (unwind dcall fr.defers s) fun s=>aj (results C.P (C.vars f) fr s (C.results f)) fun vs=>k (tuple vs,s)
def ahp (K:KP)(C:Cfg)(call:gX)(yield:dS)(iM:wQ R)(dR:rH R):wQ R:=fun f args s k=>
 aj (C.body f) fun c=>jO K C iM dR (C.vars f) f false c (aiI C (Qw C call yield) f k) (qH args) s
def aAy (C:Cfg)(t:Con)(s:St)(args:List Value)(z:Option R)(k:Value × St→Option R):Option R:=
 match t with
 |.tree F=>(F s args).runK k z
 |t=>Option.casesOn (mY C t s args) z k
def akn (K:KP)(C:Cfg)(call:gX)(yield:dS)(iM:wQ R)(dR:rH R):wQ R:=fun f args s k=>
 Option.casesOn (K.alt f args)
  (Option.casesOn (C.insert f) (ahp K C call yield iM dR f args s k) fun t=>aAy C t s args (ahp K C call yield iM dR f args s k) k)
  fun p=>guard p.1 (k (p.2,s))
def au0 (l:List Int)(k:Value × St→Option R)(q:Value × St):Option R:=
 match q.1 with
 |.int kd z=>jB l (k q) fun _ _=>List.rec none (fun c _ ih=>sel (eqI z c) (k (.int kd c,q.2)) ih) l
 |_=>k q
def atO (K:KP)(C:Cfg)(call:gX)(yield:dS)(iM:wQ R)(dR:rH R):wQ R:=fun f args s k=>akn K C call yield iM dR f args s (au0 (K.post f args) k)
def atv (K:KP)(C:Cfg)(iM:wQ R)(dR:rH R)(l:Nat)(r0:Ee)(k:Value × St→Option R)(ex:Ex)(fr:Fr)(s:St):Option R:=
 match ex with
 |.normal=>aj (getLoop s l) fun r=>match r.state with
  |.ready=>jO K.plain C iM dR r0.n r0.fn true r0.body (fun ex fr s=>aj (endRound l (ex,fr,s)) k) fr (uK s l r .busy r.pending)
  |_=>none
 |_=>none
def H7 (K:KP)(C:Cfg)(iM:wQ R)(dR:rH R):rH R:=fun l args s k=>
 aj (getLoop s l) fun r=>aj (Lp r.params args r.vars) fun vars=>
  jO K.plain C iM dR r.n r.fn true r.assign (atv K C iM dR l r k) { vars:=vars,loc:=[],defers:=[] } s
def runK (K:KP)(C:Cfg)(n:Nat):wQ R × rH R:=
 Nat.rec (fun _ _ _ _=>none,fun _ _ _ _=>none) (fun m ih=>(atO (Gz m K.plain fun _=>K) C (runN C m).1 (runN C m).2 ih.1 ih.2,H7 K C ih.1 ih.2)) n
def Imp (x y:Option R):Prop:=∀ r,x=some r→y=some r
theorem aU (x:Option R):Imp x x:=fun _ h=>h
theorem kH {x y:Option R}(h:x=y):Imp x y:=fun _ hx=>h▸hx
theorem imp_trans {x y z:Option R}(h:Imp x y)(g:Imp y z):Imp x z:=fun r hr=>g r (h r hr)
theorem oI (y:Option R):Imp none y:=fun _ h=>by cases h
theorem dM {α:Type}(x:Option α){k l:α→Option R}(h:∀ a,Imp (k a) (l a)):Imp (aj x k) (aj x l):=by
 cases x with
 |none=>exact aU _
 |some a=>exact h a
theorem XZ (b:Bool){x y:Option R}(h:b=true→Imp x y):Imp (guard b x) (guard b y):=by
 cases b with
 |false=>exact aU _
 |true=>exact h rfl
theorem F6 {α:Type}(k:α→Option R)(y:Option α):∀ t:Tree α,Imp (t.vS k) (Ax.aj (Option.casesOn t.run y some) k)
 |.fail=>oI _
 |.leaf a=>fun _ h=>h
 |.test b t u=>by
  show Imp (sel b (t.vS k) (u.vS k)) (Ax.aj (Option.casesOn (sel b t.run u.run) y some) k)
  cases b with
  |true=>exact F6 k y t
  |false=>exact F6 k y u
theorem Wp {α:Type}(k:α→Option R){z:Option R}{y:Option α}(hz:Imp z (Ax.aj y k))(t:Tree α):Imp (t.runK k z) (Ax.aj (Option.casesOn t.run y some) k):=by
 cases t with
 |fail=>exact hz
 |leaf a=>exact fun _ h=>h
 |test b t u=>
  show Imp (sel b (t.vS k) (u.vS k)) (Ax.aj (Option.casesOn (sel b t.run u.run) y some) k)
  cases b with
  |true=>exact F6 k y t
  |false=>exact F6 k y u
theorem agI:∀ (n:Nat) (l:List Value),takeN n l=guard (qae n (aQ l)) (some (aA n l))
 |0,l=>rfl
 |n+1,[]=>rfl
 |n+1,a::l=>by
  show aj (takeN n l) (fun r=>some (a::r))=guard (qae n (aQ l)) (some (a::aA n l))
  rw [agI n l]
  cases qae n (aQ l) <;> rfl
theorem aew (n:Nat)(l:List Value)(k:List Value→Option R):alq n l k=Ax.aj (takeN n l) k:=by
 unfold alq
 rw [agI,cZ]
 rfl
theorem ak6:∀ (vs cs:List Value),aaG vs cs=Ax.guard (qae (aQ vs) (aQ cs)) (some (aK vs (eH (aQ vs) cs)))
 |[],cs=>rfl
 |v::vs,[]=>rfl
 |v::vs,c::cs=>by
  show Ax.aj (aaG vs cs) (fun r=>some (v::r))=Ax.guard (qae (aQ vs) (aQ cs)) (some (v::aK vs (eH (aQ vs) cs)))
  rw [ak6 vs cs]
  cases qae (aQ vs) (aQ cs) <;> rfl
theorem aeE (vs:List Value):∀ (o:Nat) (cs:List Value),splice vs o cs=Ax.guard (qae (qag o (aQ vs)) (aQ cs)) (some (zi vs o cs))
 |0,cs=>by
  show aaG vs cs=_
  rw [ak6]
  unfold zi
  rw [show qag 0 (aQ vs)=aQ vs from Nat.zero_add _]
  rfl
 |o+1,[]=>by
  show none=Ax.guard (qae (qag (o+1) (aQ vs)) 0) _
  rw [show qag (o+1) (aQ vs)=qak (o+aQ vs) from Nat.succ_add _ _]
  rfl
 |o+1,c::cs=>by
  show Ax.aj (splice vs o cs) (fun r=>some (c::r))=_
  rw [aeE vs o cs]
  unfold zi
  rw [show qag (o+1) (aQ vs)=qak (qag o (aQ vs)) from Nat.succ_add _ _]
  show Ax.aj (Ax.guard (qae (qag o (aQ vs)) (aQ cs)) _) _=Ax.guard (qae (qag o (aQ vs)) (aQ cs)) _
  cases qae (qag o (aQ vs)) (aQ cs) <;> rfl
theorem agk (vs:List Value)(o:Nat)(cs:List Value)(k:List Value→Option R):ace vs o cs k=Ax.aj (splice vs o cs) k:=by
 unfold ace
 rw [aeE,cZ]
 rfl
theorem NH (s:St)(sz n:Nat)(v:Value)(k:List Value→Option R):ad1 s sz n v k=Ax.aj (firstCells s sz n v) k:=by
 cases v with
 |slice a l c=>cases a with
  |none=>
   show Ax.guard (qab n 0) (k [])=Ax.aj (Ax.guard (qab n 0) (some [])) k
   rw [cZ];rfl
  |some a=>
   show Ax.sel _ _ _=Ax.aj (Ax.sel _ _ _) k
   cases qab a.block fP with
   |true=>
    show Ax.guard (qab n 0) (k [])=Ax.aj (Ax.guard (qab n 0) (some [])) k
    rw [cZ];rfl
   |false=>
    show Ax.aj (s.cells a.block) _=Ax.aj (Ax.aj (s.cells a.block) _) k
    rw [aF]
    exact aI _ fun c=>aew _ _ k
 |string b=>
  show Ax.guard (qab sz 1) _=Ax.aj (Ax.guard (qab sz 1) _) k
  rw [cZ];rfl
 |_=>rfl
theorem wY (s:St)(b o:Nat)(vs:List Value)(k:St→Option R):qm s b o vs k=Ax.aj (storeCells s b o vs) k:=by
 unfold qm storeCells
 rw [cZ,aF]
 congr 1
 refine aI _ fun c=>?_
 rw [agk,aF]
 rfl
theorem Xk {z:Value}{cs:List Value}{o:Nat}(h:iD z (nth cs o)=true):nth cs o=some (RF z cs o):=by
 cases z with
 |int k z=>
  show _=some (Ax.sel (qR k) (Value.int k (qaf (ay cs o))) (Value.int k (aqg cs o)))
  unfold aqg ay
  generalize nth cs o=v at h
  match v,h with
  |some (.int j y),h=>
   have h:(gY k j&&Ax.sel (qR k) (aoy y) true)=true:=h
   simp only [qad] at h
   have:=mM h.1
   subst this
   have h2:=h.2
   cases hw:qR k with
   |false=>rfl
   |true=>
    rw [hw,aN] at h2
    cases y with
    |ofNat n=>rfl
    |negSucc n=>cases h2
 |bool z=>
  show _=some (Value.bool (akf cs o))
  unfold akf
  generalize nth cs o=v at h
  match v,h with
  |some (.bool y),h=>rfl
 |string z=>
  show _=some (Value.string (aqd cs o))
  unfold aqd
  generalize nth cs o=v at h
  match v,h with
  |some (.string y),h=>rfl
 |_=>
  show _=some (aqB cs o _)
  unfold aqB
  cases hn:nth cs o with
  |none=>rw [hn] at h;cases h
  |some v=>rfl
theorem Xy:∀ (o:Nat) (cs:List Value),nth cs o=jB (eH o cs) none (fun a _=>some a)
 |0,[]=>rfl
 |0,a::cs=>rfl
 |o+1,[]=>rfl
 |o+1,a::cs=>Xy o cs
theorem Ob:∀ (o:Nat) (cs:List Value),eH (o+1) cs=jB (eH o cs) [] (fun _ t=>t)
 |0,[]=>rfl
 |0,a::cs=>rfl
 |o+1,[]=>rfl
 |o+1,a::cs=>Ob o cs
theorem Js (cs:List Value):∀ (zs:List Value) (o:Nat),TU zs cs o=true→takeN (aQ zs) (eH o cs)=some (Aa zs cs o)
 |[],o,_=>rfl
 |z::zs,o,h=>by
  change Ax.sel (iD z (nth cs o)) (TU zs cs (o+1)) false=true at h
  obtain ⟨h1,h2⟩:=dG h
  have h3:=Xk h1
  have h4:=Js cs zs (o+1) h2
  rw [Xy] at h3
  rw [Ob] at h4
  show takeN (qak (aQ zs)) (eH o cs)=some (RF z cs o::Aa zs cs (o+1))
  cases hd:eH o cs with
  |nil=>rw [hd] at h3;cases h3
  |cons a t=>
   rw [hd] at h3 h4
   have h3:some a=some (RF z cs o):=h3
   have h4:takeN (aQ zs) t=some (Aa zs cs (o+1)):=h4
   show Ax.aj (takeN (aQ zs) t) (fun r=>some (a::r))=_
   rw [h4,Option.some.inj h3]
   rfl
theorem abJ (P:Program)(t:TypeId)(o:Nat)(cs:List Value)(k:Value→Option R):Imp (aas P t o cs k) (Ax.aj (Jb P t o cs) k):=by
 unfold aas Jb
 rw [aF]
 refine dM _ fun g=>?_
 cases g with
 |true=>
  show Imp (Ax.aj (size P t) _) (Ax.aj (Ax.aj (size P t) _) k)
  rw [aF]
  refine dM _ fun n=>?_
  cases hz:zero P t with
  |none=>exact oI _
  |some zs=>
   show Imp (Ax.guard (qab (aQ zs) n) (Ax.guard (TU zs cs o) (k (FY (Aa zs cs o))))) _
   intro r hr
   obtain ⟨h1,hr1⟩:=au.1 hr
   obtain ⟨h2,hr2⟩:=au.1 hr1
   have h3:aQ zs=n:=qaa h1
   rw [←h3,Js cs zs o h2]
   exact hr2
 |false=>
  cases hz:zero P t with
  |none=>exact oI _
  |some zs=>cases zs with
   |nil=>exact oI _
   |cons z zs=>
    intro r hr
    obtain ⟨h1,hr⟩:=au.1 (show Ax.guard (iD z (nth cs o)) (k (RF z cs o))=some r from hr)
    show Ax.aj (nth cs o) k=some r
    rw [Xk h1]
    exact hr
theorem abq (P:Program)(t:TypeId)(o:Nat)(cs:List Value)(k:Value→Option R):Imp (abv P t o cs k) (Ax.aj (Jb P t o cs) k):=by
 unfold abv Jb
 rw [aF]
 refine dM _ fun g=>?_
 cases g with
 |true=>exact oI _
 |false=>
  intro r hr
  obtain ⟨h1,hr⟩:=au.1 (show Ax.guard (asR (nth cs o)) (k (.float .f64 (anq cs o)))=some r from hr)
  show Ax.aj (nth cs o) k=some r
  have e:nth cs o=some (.float .f64 (anq cs o)):=by
   unfold anq
   unfold asR at h1
   cases hc:nth cs o with
   |none=>rw [hc] at h1;cases h1
   |some v=>
    rw [hc] at h1
    cases v with
    |float kd n=>cases kd <;> first|rfl|cases h1
    |_=>cases h1
  rw [e]
  exact hr
theorem ahx (q:Bool)(C:Cfg)(ev:Ev)(s:St)(t:TypeId)(a:Operand)(k:Res→Option R):Imp (aso q C ev s t a k) (Ax.aj (aaw C ev s t a) k):=by
 unfold aso aaw xg
 rw [aF]
 refine dM _ fun v=>?_
 cases v with
 |pointer p=>cases p with
  |none=>exact aU _
  |some a=>
   show Imp _ (Ax.aj (Ax.aj (load C.P s t a.block a.off) fun v=>ret v s) k)
   unfold load
   rw [aF,aF]
   refine dM _ fun c=>?_
   cases (q&&atI C.P t) with
   |true=>
    rw [aN]
    exact imp_trans (abq C.P t a.off c.1 _) (kH rfl)
   |false=>
    rw [aP]
    exact imp_trans (abJ C.P t a.off c.1 _) (kH rfl)
 |_=>exact aU _
theorem aiY (C:Cfg)(ev:Ev)(s:St)(t:TypeId)(a x:Operand)(k:Res→Option R):aiM C ev s t a x k=Ax.aj (JU C ev s t a x) k:=by
 unfold aiM JU xg
 rw [aF]
 refine aI _ fun v=>?_
 cases v with
 |pointer p=>cases p with
  |none=>rfl
  |some a=>
   show Ax.aj (ev x) _=Ax.aj (Ax.aj (ev x) _) k
   rw [aF]
   refine aI _ fun v=>?_
   unfold store
   rw [aF,aF]
   refine aI _ fun n=>?_
   rw [cZ]
   congr 1
   rw [wY]
   rfl
 |_=>rfl
theorem Qv (s:St)(elem:TypeId)(base:Option Addr)(len cap sz:Nat)(a:Value)(k:Value × St→Option R):DZ s elem base len cap sz a k=Ax.aj (xK s elem base len cap sz a) k:=by
 unfold DZ xK
 cases (ltN cap bf||base.isNone) with
 |true=>
  show Ax.guard _ _=Ax.aj (Ax.guard _ _) k
  rw [cZ];rfl
 |false=>cases base with
  |none=>rfl
  |some p=>
   rw [aP,aP]
   show Ax.sel (qab p.block fP) _ _=Ax.aj (Ax.sel (qab p.block fP) _ _) k
   cases qab p.block fP with
   |true=>
    rw [aN,aN,cZ];rfl
   |false=>
    rw [aP,aP,aF]
    refine aI _ fun c=>?_
    rw [cZ];rfl
theorem WX (s:St)(p:Addr)(len cap need e:Nat)(new:List Value)(k:Value × St→Option R):PZ s p len cap need e new k=Ax.aj (Lr s p len cap need e new) k:=by
 unfold PZ Lr
 rw [wY,aF]
 rfl
theorem U5 (P:Program)(s:St)(p:Addr)(len cap need e sz:Nat)(new:List Value)(c:List Value × TypeId × Nat)(k:Value × St→Option R):H8 P s p len cap need e sz new c k=Ax.aj (Fz P s p len cap need e sz new c) k:=by
 unfold H8 Fz
 rw [cZ]
 congr 1
 rw [adD,aew,aF]
 refine aI _ fun old=>?_
 cases ltN cap bf with
 |true=>
  rw [aN,aN,cZ];rfl
 |false=>
  rw [aP,aP,cZ];rfl
theorem Y5 (P:Program)(s:St)(elem:TypeId)(p:Addr)(len cap n sz:Nat)(new:List Value)(k:Value × St→Option R):LV P s elem p len cap n sz new k=Ax.aj (Gy P s elem p len cap n sz new) k:=by
 unfold LV Gy
 rw [aF]
 refine aI _ fun c=>?_
 rw [cZ]
 congr 1
 cases (qae (qag len n) cap&&qae (qag (qag p.off (qaj len sz)) (qaj n sz)) (aQ c.1)) with
 |true=>
  rw [aN,aN]
  exact WX _ _ _ _ _ _ _ _
 |false=>
  rw [aP,aP]
  exact U5 _ _ _ _ _ _ _ _ _ _ _
theorem afj (P:Program)(s:St)(sT:TypeId)(T2:Option TypeId)(a b:Value)(k:Value × St→Option R):abe P s sT T2 a b k=Ax.aj (append P s sT T2 a b) k:=by
 unfold abe append
 rw [cZ]
 congr 1
 cases P.underlying sT with
 |none=>rfl
 |some d=>cases d with
  |slice elem=>cases a with
   |slice base len cap=>
    show Ax.aj (lenOf b) _=Ax.aj (Ax.aj (lenOf b) _) k
    rw [aF]
    refine aI _ fun n=>?_
    rw [aF]
    refine aI _ fun sz=>?_
    rw [NH,aF]
    refine aI _ fun new=>?_
    unfold Y8 SK
    cases qab n 0 with
    |true=>exact Qv s elem base len cap sz _ k
    |false=>cases base with
     |none=>
      show Ax.guard _ _=Ax.aj (Ax.guard _ _) k
      rw [cZ];rfl
     |some p=>exact Y5 P s elem p len cap n sz new k
   |_=>rfl
  |_=>rfl
theorem alD (P:Program)(s:St)(t:TypeId)(d x:Value)(k:Res→Option R):asT P s t d x k=Ax.aj (ahK P s t d x) k:=by
 unfold asT ahK
 cases P.underlying t with
 |none=>rfl
 |some dd=>cases dd with
  |slice e=>cases d with
   |slice base dLen c=>
    show Ax.aj (lenOf x) _=Ax.aj (Ax.aj (lenOf x) _) k
    rw [aF]
    refine aI _ fun sl=>?_
    rw [aF]
    refine aI _ fun sz=>?_
    rw [NH,aF]
    refine aI _ fun new=>?_
    cases qab (Ax.sel (qae sl dLen) sl dLen) 0 with
    |true=>rfl
    |false=>cases base with
     |none=>rfl
     |some a=>
      rw [aP,aP]
      show qm s a.block a.off new _=Ax.aj (Ax.aj (storeCells s a.block a.off new) _) k
      rw [wY,aF]
      rfl
   |_=>rfl
  |_=>rfl
theorem Zl (s:St)(a:Option Addr)(e:TypeId)(cap l h m n:Nat)(k:Value × St→Option R):MI s a e cap l h m n k=Ax.aj (wF s a e cap l h m n) k:=by
 unfold MI wF
 rw [cZ]
 congr 1
 cases a with
 |none=>rfl
 |some a=>
  show Ax.sel _ _ _=Ax.aj (Ax.sel _ _ _) k
  cases qab a.block fP with
  |true=>
   show Ax.guard _ _=Ax.aj (Ax.guard _ _) k
   rw [cZ];rfl
  |false=>
   show Ax.sel _ _ _=Ax.aj (Ax.sel _ _ _) k
   cases qae bf cap with
   |false=>rfl
   |true=>
    show TS _ _ _ _ _ _ _ _ _=Ax.aj (xu _ _ _ _ _ _ _ _) k
    unfold TS xu
    rw [aF]
    refine aI _ fun c=>?_
    rw [cZ]
    congr 1
    cases (ltN m bf||ltN l h||ltN (qag a.off (qaj l n)) (aQ c.1)||qab l 0) <;> cases qab m l <;> rfl
theorem abD (ev:Ev)(x:Option Operand)(k0:Option Value→Option Res)(k:Option Value→Option R)(g:Res→Option R)(h:∀ v,k v=Ax.aj (k0 v) g):axI ev x k=Ax.aj (YT ev x k0) g:=by
 cases x with
 |none=>exact h none
 |some x=>
  show Ax.aj (ev x) _=Ax.aj (Ax.aj (ev x) _) g
  rw [aF]
  exact aI _ fun v=>h (some v)
theorem ZM {β γ:Type}(lo hi mx:Option Value)(len cap:Nat)(k:Nat→Nat→Nat→Option β)(g:β→Option γ):Ax.aj (bounds lo hi mx len cap k) g=bounds lo hi mx len cap fun l h m=>Ax.aj (k l h m) g:=by
 unfold bounds
 rw [aF]
 refine aI _ fun l=>?_
 rw [aF]
 refine aI _ fun h=>?_
 rw [aF]
theorem afg (C:Cfg)(ev:Ev)(s:St)(t:TypeId)(x:Operand)(lo hi mx:Option Operand)(k:Res→Option R):aax C ev s t x lo hi mx k=Ax.aj (Kw C ev s t x lo hi mx) k:=by
 unfold aax Kw
 rw [aF]
 refine aI _ fun x=>?_
 refine abD ev lo _ _ k fun lo=>?_
 refine abD ev hi _ _ k fun hi=>?_
 refine abD ev mx _ _ k fun mx=>?_
 cases x with
 |slice a len cap=>
  show _=Ax.aj (Ax.aj (uz C.P s t a len cap lo hi mx) H9) k
  unfold uz
  cases C.P.underlying t with
  |none=>rfl
  |some d=>cases d with
   |slice e=>
    show Ax.aj (size C.P e) _=Ax.aj (Ax.aj (Ax.aj (size C.P e) _) H9) k
    rw [aF,aF]
    refine aI _ fun n=>?_
    rw [ZM]
    congr 1
    funext l h m
    rw [cZ,Zl]
    rfl
   |_=>rfl
 |_=>rfl
theorem af2 (C:Cfg)(ev:Ev)(s:St)(c:Call)(k:Res→Option R):aaq C ev s c k=Ax.aj (Bq C ev s c) k:=by
 unfold aaq
 split
 ·rename_i b hb
  unfold Bq
  rw [hb,aF]
  refine aI _ fun args=>?_
  match args with
  |[]=>rfl
  |[x]=>rfl
  |[x,y]=>
   cases b with
   |append=>
    show Ax.aj _ _=Ax.aj (Ax.aj _ _) k
    rw [aF]
    refine aI _ fun t=>?_
    rw [afj,aF]
    rfl
   |copy=>
    show Ax.aj _ _=Ax.aj (Ax.aj _ _) k
    rw [aF]
    exact aI _ fun t=>alD C.P s t x y k
   |min=>exact RH false s x y k
   |max=>exact RH true s x y k
   |_=>rfl
  |x::y::z::l=>rfl
 ·rfl
theorem Ig {iM:wQ R}{dR:rH R}{call:gX}{yield:dS}(hc:∀ f args s k,Imp (iM f args s k) (Ax.aj (call f args s) k))(hy:∀ f args s k,Imp (dR f args s k) (Ax.aj (yield f args s) k))
  (rd:Bool) (n:Nat) (fr:Fr) (dst:Option Tmp) {k:FK R} {k0:Fr→St→Option (Fr × St)} {g:Fr × St→Option R} (hk:∀ fr s,Imp (k fr s) (Ax.aj (k0 fr s) g)) (r:Res) :
  Imp (acr iM dR rd n fr dst k r) (Ax.aj (qI call yield rd n fr dst k0 r) g):=by
 cases r with
 |val v s=>exact hk _ _
 |call f args s=>
  show Imp (iM f args s _) (Ax.aj (Ax.aj (call f args s) _) g)
  rw [aF]
  exact imp_trans (hc f args s _) (dM _ fun q=>hk _ _)
 |yield f args s=>
  show Imp (dR f args s _) (Ax.aj (Ax.aj (yield f args s) _) g)
  rw [aF]
  exact imp_trans (hy f args s _) (dM _ fun q=>hk _ _)
 |defer f args s=>
  cases rd with
  |true=>exact aU _
  |false=>exact hk _ _
theorem wrap_u64 (z:Int):IntKind.wrap .u64 z=z%18446744073709551616:=by
 show (let m:=z%(2 ^ 64:Int);if IntKind.signed .u64&&m≥(2 ^ 63:Int) then m-(2 ^ 64:Int) else m)=_
 simp [IntKind.signed]
theorem akE (x y:Nat):wrap .u64 (ahz (qaf x) (qaf y))=qaf (ayq x y):=by
 rw [wrap_eq,wrap_u64,aaZ]
 show ((x:Int)-(y:Int))%18446744073709551616=(((x+(18446744073709551616-y%18446744073709551616))%18446744073709551616:Nat):Int)
 omega
theorem aaC (b r:Bool)(x:Option Bool)(h:x=some r):Ax.sel b x (some false)=some (b&&r):=by
 cases b with
 |true=>exact h
 |false=>rfl
theorem Za (f:Value→Value→Option Bool):∀ (n:Nat) (xs ys:List Value) (r:Bool),akh f n xs ys=some r→af6 f n xs ys=some r
 |0,_,_,_,h=>h
 |n+1,[],_,_,h=>by cases h
 |n+1,x::xs,[],_,h=>by cases h
 |n+1,x::xs,y::ys,r,h=>by
  obtain ⟨b,hb,h⟩:=ah.1 (show Ax.aj (f x y) (fun b=>Ax.aj (akh f n xs ys) fun r=>some (b&&r))=some r from h)
  obtain ⟨r',hr,h⟩:=ah.1 h
  cases h
  show Ax.aj (f x y) (fun b=>Ax.sel b (af6 f n xs ys) (some false))=_
  rw [hb]
  exact aaC b r' _ (Za f n xs ys r' hr)
theorem Zm {P:Program}{ih ih':EqF}(h:∀ t x y r,ih' t x y=some r→ih t x y=some r){t:TypeId}{o:Nat}{xs ys:List Value}{r:Bool}(hr:vw P ih' t o xs ys=some r):vw P ih t o xs ys=some r:=by
 unfold vw at *
 obtain ⟨x,hx,hr⟩:=ah.1 hr
 obtain ⟨y,hy,hr⟩:=ah.1 hr
 rw [hx]
 show Ax.aj (part P t ys o) _=_
 rw [hy]
 exact h _ _ _ _ hr
theorem OX {P:Program}{ih ih':EqF}(h:∀ t x y r,ih' t x y=some r→ih t x y=some r)(e:TypeId)(n:Nat)(xs ys:List Value):∀ (k i:Nat) (r:Bool),U2 P ih' e n xs ys k i=some r→DW P ih e n xs ys k i=some r
 |0,_,_,hr=>hr
 |k+1,i,r,hr=>by
  obtain ⟨b,hb,hr⟩:=ah.1 (show Ax.aj (vw P ih' e (qaj i n) xs ys) (fun b=>Ax.aj (U2 P ih' e n xs ys k (qak i)) fun r=>some (b&&r))=some r from hr)
  obtain ⟨r',hr',hr⟩:=ah.1 hr
  cases hr
  show Ax.aj (vw P ih e (qaj i n) xs ys) (fun b=>Ax.sel b (DW P ih e n xs ys k (qak i)) (some false))=_
  rw [Zm h hb]
  exact aaC b r' _ (OX h e n xs ys k (i+1) r' hr')
theorem J3 {P:Program}{ih ih':EqF}(h:∀ t x y r,ih' t x y=some r→ih t x y=some r)(xs ys:List Value):∀ (fs:List Field) (r:Bool),MS P ih' xs ys fs=some r→eqFields P ih xs ys fs=some r
 |[],_,hr=>hr
 |f::fs,r,hr=>by
  obtain ⟨b,hb,hr⟩:=ah.1 (show Ax.aj (vw P ih' f.type f.offset xs ys) (fun b=>Ax.aj (MS P ih' xs ys fs) fun r=>some (b&&r))=some r from hr)
  obtain ⟨r',hr',hr⟩:=ah.1 hr
  cases hr
  show Ax.aj (vw P ih f.type f.offset xs ys) (fun b=>Ax.sel b (eqFields P ih xs ys fs) (some false))=_
  rw [Zm h hb]
  exact aaC b r' _ (J3 h xs ys fs r' hr')
theorem akV {x y:Value}{k k':List Value→List Value→Option Bool}(h:∀ xs ys r,k' xs ys=some r→k xs ys=some r){r:Bool}(hr:amX x y k'=some r):amX x y k=some r:=by
 unfold amX at *
 split at hr
 ·split at hr
  ·exact h _ _ _ hr
  ·cases hr
 ·cases hr
theorem aeZ (C:Cfg){ih ih':EqF}(h:∀ t x y r,ih' t x y=some r→ih t x y=some r)(t:TypeId)(x y:Value)(r:Bool)(hr:Vh C ih' t x y=some r):zJ C ih t x y=some r:=by
 unfold Vh at hr
 unfold zJ
 obtain ⟨d,hd,hr⟩:=ah.1 hr
 rw [hd]
 cases d with
 |array n e=>
  refine akV (fun xs ys r hr=>?_) hr
  obtain ⟨d,hd,hr⟩:=ah.1 hr
  obtain ⟨k,hk,hr⟩:=ah.1 hr
  show Ax.aj (C.P.underlying e) _=_
  rw [hd]
  show Ax.aj (size C.P e) _=_
  rw [hk]
  show Ax.sel (!EG d&&qab k 1) _ _=_
  cases hb:(!EG d&&qab k 1) with
  |true=>rw [hb] at hr;exact Za _ _ _ _ _ hr
  |false=>rw [hb] at hr;exact OX h _ _ _ _ _ _ _ hr
 |struct fs=>
  obtain ⟨hg,hr⟩:=au.1 hr
  show Ax.guard (C.apt t) _=_
  rw [hg]
  exact akV (fun xs ys r hr=>J3 h xs ys _ r hr) hr
 |_=>exact hr
theorem acD (C:Cfg):∀ (n:Nat) (t:TypeId) (x y:Value) (r:Bool),(Nat.rec (fun _ _ _=>none) (fun _ ih=>Vh C ih) n:EqF) t x y=some r→(Nat.rec (fun _ _ _=>none) (fun _ ih=>zJ C ih) n:EqF) t x y=some r
 |0,_,_,_,_,h=>by cases h
 |n+1,t,x,y,r,h=>aeZ C (acD C n) t x y r h
theorem QI (C:Cfg)(t:TypeId)(op:BinOp)(x y:Operand)(a b:Value)(k:Value→Option R)(hop:op = .eql∨op = .neq) :
  Imp (acV C t op x y a b k) (Ax.aj (Ax.guard (rO C t x y a b) (binOp C t op a b)) k):=by
 unfold acV
 cases ha:apg a with
 |false=>exact aU _
 |true=>
  rw [aN]
  intro r hr
  obtain ⟨hn,hr1⟩:=au.1 hr
  obtain ⟨q,hq,hr2⟩:=ah.1 hr1
  rw [hn]
  have hE:alk C t a b=some q:=acD C 6 t a b q hq
  cases a with
  |agg cs=>
   have hT:eqT C t (.agg cs) b=some q:=hE
   rcases hop with rfl|rfl
   ·show Ax.aj (Ax.aj (eqT C t (.agg cs) b) fun b=>some (.bool b)) k=_
    rw [hT];exact hr2
   ·show Ax.aj (Ax.aj (eqT C t (.agg cs) b) fun b=>some (.bool !b)) k=_
    rw [hT];exact hr2
  |_=>cases ha
theorem DX (n:Nat)(h:qae n 9223372036854775807=true):wrap .i64 (qaf n)=qaf n:=by
 have h:=qac h
 show Ax.sel (qae 9223372036854775808 n) (IntKind.wrap .i64 (qaf n)) (qaf n)=_
 have:qae 9223372036854775808 n=false:=by rw [←qaB];intro e;have:=qac e;omega
 rw [this];rfl
theorem an0 (n:Nat)(h:n<9223372036854775808):wrap .i64 (qan n)=qan n:=by
 rw [wrap_eq]
 have hb:(2:Int) ^ IntKind.i64.bits=18446744073709551616:=by decide
 have hs:IntKind.i64.signed=true:=rfl
 have hb2:(2:Int) ^ (IntKind.i64.bits-1)=9223372036854775808:=by decide
 have e:(qan n) = -((n:Int)+1):=Int.negSucc_eq n
 simp only [IntKind.wrap,e,hb,hb2,hs]
 simp
 split <;> omega
theorem agq (x y:Nat)(k:Value→Option R):Imp (akL x y k) (k (.int .i64 (wrap .i64 (ahz (qaf x) (qaf y))))):=by
 show Imp _ (k (.int .i64 (wrap .i64 (Ax.sel (qae y x) (qaf (qam x y)) (qan (qam (qam y x) 1))))))
 unfold akL
 cases hb:qae y x with
 |true=>
  rw [aN,aN]
  intro r hr
  obtain ⟨h1,hr⟩:=au.1 hr
  rw [DX _ h1]
  exact hr
 |false=>
  rw [aP,aP]
  intro r hr
  obtain ⟨h1,hr⟩:=au.1 hr
  have h1:y-x≤9223372036854775808:=qac h1
  rw [an0 _ (by show y-x-1<_;omega)]
  exact hr
theorem amf (C:Cfg)(t:TypeId)(x y:Operand)(a b:Value)(k:Value→Option R):Imp (aA9 C t x y a b k) (Ax.aj (Ax.guard (rO C t x y a b) (binOp C t .add a b)) k):=by
 cases a with
 |int ka i=>cases b with
  |int kb j=>
   show Imp (Ax.guard (gY ka kb) _) (Ax.aj (Ax.guard (gY ka kb) (some (.int ka (wrap ka (ape i j))))) k)
   cases gY ka kb with
   |false=>exact oI _
   |true=>
    show Imp _ (k (.int ka (wrap ka (ape i j))))
    cases ka with
    |i64=>
     cases i with
     |ofNat p=>cases j with
      |ofNat q=>
       intro r hr
       obtain ⟨h1,hr⟩:=au.1 (show Ax.guard (qae (qag p q) 9223372036854775807) (k (.int .i64 (qaf (qag p q))))=some r from hr)
       show k (.int .i64 (wrap .i64 (qaf (qag p q))))=some r
       rw [DX _ h1]
       exact hr
      |negSucc q=>exact aU _
     |negSucc p=>exact aU _
    |_=>exact aU _
  |_=>exact aU _
 |_=>exact aU _
theorem alJ (K:KP)(C:Cfg)(t:TypeId)(x y:Operand)(a b:Value)(k:Value→Option R):Imp (aAu K C t x y a b k) (Ax.aj (Ax.guard (rO C t x y a b) (binOp C t .mul a b)) k):=by
 cases a with
 |int ka i=>cases b with
  |int kb j=>
   show Imp (Ax.guard (gY ka kb) _) (Ax.aj (Ax.guard (gY ka kb) (some (.int ka (wrap ka (anX i j))))) k)
   cases gY ka kb with
   |false=>exact oI _
   |true=>
    show Imp _ (k (.int ka (wrap ka (anX i j))))
    cases ka with
    |u64=>
     cases i with
     |ofNat p=>cases j with
      |ofNat q=>
       show Imp (k (.int .u64 (qaf (blk K.B _)))) _
       rw [acy]
       exact aU _
      |negSucc q=>exact aU _
     |negSucc p=>exact aU _
    |i64=>
     cases i with
     |ofNat p=>cases j with
      |ofNat q=>
       intro r hr
       obtain ⟨h1,hr⟩:=au.1 (show Ax.guard (qae (qaj p q) 9223372036854775807) (k (.int .i64 (qaf (qaj p q))))=some r from hr)
       show k (.int .i64 (wrap .i64 (qaf (qaj p q))))=some r
       rw [DX _ h1]
       exact hr
      |negSucc q=>exact aU _
     |negSucc p=>exact aU _
    |_=>exact aU _
  |_=>exact aU _
 |_=>exact aU _
theorem aqj (K:KP)(C:Cfg)(t:TypeId)(x y:Operand)(a b:Value)(k:Value→Option R):aBf K C t x y a b k=aj (guard (rO C t x y a b) (binOp C t .shl a b)) k:=by
 cases a with
 |int ka i=>cases b with
  |int kb j=>cases ka with
   |u64=>cases i with
    |ofNat p=>cases j with
     |ofNat q=>
      show k (.int .u64 (qaf (blk K.B _)))=_
      rw [acy]
      rfl
     |negSucc q=>rfl
    |negSucc p=>rfl
   |_=>rfl
  |_=>rfl
 |_=>rfl
theorem anh (i j:Int)(k:Int→Option R):aqy i j k=k (ali i j):=by
 cases i with
 |ofNat u=>rfl
 |negSucc u=>cases j with
  |negSucc v=>rfl
  |ofNat v=>
   show Ax.sel (qab ((u+1)%v) 0) (k 0) (k (qan (qam ((u+1)%v) 1)))=k (Int.tmod (qan u) (qaf v))
   have e:Int.tmod (qan u) (qaf v) = -(qaf ((u+1)%v)):=rfl
   rw [e]
   cases (u+1)%v with
   |zero=>rfl
   |succ r=>rfl
theorem asN (C:Cfg)(t:TypeId)(x y:Operand)(a b:Value)(k:Value→Option R):aAT C t x y a b k=ayS C t .rem x y (fun _ i j=>ali i j) a b k:=by
 cases a with
 |int ka i=>cases b with
  |int kb j=>
   show Ax.guard (gY ka kb) (Ax.guard (!eqI j 0) (aqy i j fun z=>k (.int ka z)))=Ax.guard (gY ka kb) (Ax.guard (!eqI j 0) (k (.int ka (ali i j))))
   rw [anh]
  |_=>rfl
 |_=>rfl
theorem am2 (K:KP)(C:Cfg)(t:TypeId)(op:BinOp)(x y:Operand)(a b:Value)(k:Value→Option R) :
  Imp (axV K C t op x y a b k) (Ax.aj (Ax.guard (rO C t x y a b) (binOp C t op a b)) k):=by
 have hd:∀ (op:BinOp) (f:IntKind→Int→Int→Int),(∀ ka i kb j,aj (guard (rO C t x y (.int ka i) (.int kb j)) (binOp C t op (.int ka i) (.int kb j))) k=guard (gY ka kb) (guard (!eqI j 0) (k (.int ka (f ka i j)))))→
   ayS C t op x y f a b k=aj (guard (rO C t x y a b) (binOp C t op a b)) k:=fun op f h=>by
  cases a with
  |int ka i=>cases b with
   |int kb j=>exact (h ka i kb j).symm
   |_=>rfl
  |_=>rfl
 cases op with
 |mul=>exact alJ K C t x y a b k
 |add=>exact amf C t x y a b k
 |shl=>exact kH (aqj K C t x y a b k)
 |eql=>exact QI C t .eql x y a b k (.inl rfl)
 |neq=>exact QI C t .neq x y a b k (.inr rfl)
 |quo=>
  refine kH (hd .quo _ fun ka i kb j=>by
  show aj (guard (gY ka kb) (guard (!eqI j 0) (some (.int ka (wrap ka (axn i j)))))) k=_
  cases gY ka kb <;> cases eqI j 0 <;> rfl)
 |rem=>
  refine kH ((asN C t x y a b k).trans <| hd .rem _ fun ka i kb j=>by
  show aj (guard (gY ka kb) (guard (!eqI j 0) (some (.int ka (ali i j))))) k=_
  cases gY ka kb <;> cases eqI j 0 <;> rfl)
 |sub=>
  show Imp (aAs C t x y a b k) (Ax.aj (Ax.guard (rO C t x y a b) (binOp C t .sub a b)) k)
  cases a with
  |int ka i=>cases b with
   |int kb j=>
    show Imp (Ax.guard (gY ka kb) _) (Ax.aj (Ax.guard (gY ka kb) (some (.int ka (wrap ka (ahz i j))))) k)
    cases gY ka kb with
    |false=>exact oI _
    |true=>
     show Imp _ (k (.int ka (wrap ka (ahz i j))))
     cases ka with
     |u64=>
      cases i with
      |ofNat p=>cases j with
       |ofNat q=>
        show Imp (k (.int .u64 (qaf (ayq p q)))) _
        rw [akE]
        exact aU _
       |negSucc q=>exact aU _
      |negSucc p=>exact aU _
     |i64=>
      cases i with
      |ofNat p=>cases j with
       |ofNat q=>exact agq p q k
       |negSucc q=>exact aU _
      |negSucc p=>exact aU _
     |_=>exact aU _
   |_=>exact aU _
  |_=>exact aU _
 |_=>exact aU _
theorem aeO (K:KP)(C:Cfg)(ev:Ev)(s:St)(op:BinOp)(t:TypeId)(x y:Operand)(k:Res→Option R):Imp (Ax.aj (ev x) fun a=>Ax.aj (ev y) fun b=>axV K C t op x y a b fun v=>k (.val v s)) (Ax.aj (ap6 C ev s op t x y) k):=by
 unfold ap6
 rw [aF]
 refine dM _ fun a=>?_
 rw [aF]
 refine dM _ fun b=>?_
 refine imp_trans (am2 K C t op x y a b _) (kH ?_)
 cases rO C t x y a b with
 |false=>rfl
 |true=>
  show aj (binOp C t op a b) _=aj (aj (binOp C t op a b) fun v=>ret v s) k
  rw [aF]
  rfl
theorem Vd (C:Cfg)(ev:Ev)(s:St)(t:TypeId)(x i:Operand)(k:Res→Option R):BR C ev s t x i k=Ax.aj (kN C ev s t x i) k:=by
 show BR C ev s t x i k=aj (kN C ev s t x i) k
 unfold BR kN
 rw [aF]
 refine aI _ fun a=>?_
 rw [aF]
 refine aI _ fun b=>?_
 rw [aF]
 refine aI _ fun j=>?_
 have hi:∀ e len p,axH C s e len j p k=aj (Em C s e len j p) k:=fun e len p=>by
  unfold axH Em
  rw [cZ,aF]
  rfl
 cases C.P.underlying t with
 |none=>rfl
 |some d=>cases d with
  |slice e=>cases a with
   |slice p len cap=>cases p with
    |none=>rfl
    |some p=>exact hi e len p
   |_=>rfl
  |array len e=>cases a with
   |pointer p=>cases p with
    |none=>rfl
    |some p=>exact hi e len p
   |_=>rfl
  |_=>rfl
theorem Yr:∀ l:List Value,bytesOf l=Ax.guard (gI l) (some (wz l))
 |[]=>rfl
 |v::l=>by
  show Ax.aj (byteOf v) (fun b=>Ax.aj (bytesOf l) fun r=>some (b::r))=Ax.guard (Ax.sel (byteOf v).isSome (gI l) false) (some (Option.rec 0 (fun b=>b) (byteOf v)::wz l))
  rw [Yr l]
  cases byteOf v with
  |none=>rfl
  |some b=>show Ax.aj (Ax.guard (gI l) (some (wz l))) _=Ax.guard (gI l) _;cases gI l <;> rfl
theorem XJ (C:Cfg)(ev:Ev)(s:St)(src dst:TypeId)(x:Operand)(k:Res→Option R):Imp (Vw C ev s src dst x k) (Ax.aj (jY C ev s src dst x) k):=by
 unfold Vw
 cases hv:ev x with
 |none=>exact oI _
 |some v=>
  show Imp (match v with
   |.slice (some a) n c=>sel (isStr C.P dst) (azO C s src n (.slice (some a) n c) k) (Ax.aj (jY C ev s src dst x) k)
   |.int kd z=>Uy C ev s src dst x z k
   |_=>Ax.aj (jY C ev s src dst x) k) _
  split
  ·rename_i a n c
   cases hs:isStr C.P dst with
   |false=>exact aU _
   |true=>
    rw [aN]
    intro r hr
    unfold azO at hr
    split at hr
    ·rename_i e he
     obtain ⟨hb,hr⟩:=au.1 hr
     rw [NH] at hr
     obtain ⟨cs,hcs,hr⟩:=ah.1 hr
     obtain ⟨hok,hr⟩:=au.1 hr
     have hd:C.P.underlying dst=some .string:=by
      unfold isStr at hs
      split at hs
      ·assumption
      ·cases hs
     have hbs:bytesOf cs=some (wz cs):=by rw [Yr,hok];rfl
     have hconv:convert C.P s src dst (.slice (some a) n c)=some (.string ⟨⟨wz cs⟩⟩,s):=by
      unfold convert
      rw [he,hd]
      show Ax.guard (isBytes C.P e) (toStr s n (.slice (some a) n c))=_
      rw [hb]
      show Ax.aj (firstCells s 1 n (.slice (some a) n c)) (fun l=>Ax.aj (bytesOf l) fun l=>some (Value.string ⟨⟨l⟩⟩,s))=_
      rw [hcs]
      show Ax.aj (bytesOf cs) _=_
      rw [hbs]
      rfl
     unfold jY
     rw [hv]
     show Ax.aj (Ax.aj (convert C.P s src dst (.slice (some a) n c)) H9) k=some r
     rw [hconv]
     exact hr
    ·cases hr
  ·rename_i kd z
   unfold Uy
   cases hg:(ar0 C.P dst&&(C.P.underlying src).isSome) with
   |false=>exact aU _
   |true=>
    rw [aN]
    cases z with
    |negSucc n=>exact aU _
    |ofNat n=>
     show Imp (Ax.sel (qae 9223372036854775808 n) _ _) _
     cases hb:qae 9223372036854775808 n with
     |true=>exact aU _
     |false=>
      rw [aP]
      simp only [qad] at hg
      obtain ⟨hg1,hg2⟩:=hg
      have hd:C.P.underlying dst=some (.int .i64):=by
       unfold ar0 at hg1
       split at hg1
       ·assumption
       ·cases hg1
      have hconv:convert C.P s src dst (.int kd (qaf n))=some (.int .i64 (qaf n),s):=by
       unfold convert
       rw [hg2,hd]
       show some (Value.int .i64 (Ax.sel (qae 9223372036854775808 n) (IntKind.wrap .i64 (qaf n)) (qaf n)),s)=_
       rw [hb]
       rfl
      unfold jY
      rw [hv]
      intro r hr
      show Ax.aj (Ax.aj (convert C.P s src dst (.int kd (qaf n))) H9) k=some r
      rw [hconv]
      exact hr
  ·exact aU _
theorem Ue (C:Cfg)(ev:Ev)(s:St)(t:TypeId)(l c:Operand)(k:Res→Option R):Io C ev s t l c k=Ax.aj (nR C ev s t l c) k:=by
 unfold Io Ci nR
 cases C.P.underlying t with
 |none=>rfl
 |some d=>cases d <;> first|rfl|(simp only [aF,cZ];rfl)
theorem asI (C:Cfg)(ev:Ev)(o:Op)(k:Row × (Nat→Value)→Option R):axB C ev o k=Ax.aj (aOp C ev o) k:=by
 cases o with
 |makeSlice t l c=>
  simp only [axB,Ci,aOp]
  cases C.P.underlying t with
  |none=>rfl
  |some d=>cases d <;> first|rfl|(simp only [aF,cZ];rfl)
 |_=>rfl
theorem ah4 (K:KP)(C:Cfg)(ev:Ev)(s:St)(o:Op)(k:Res→Option R):Imp (opK K C ev s o k) (Ax.aj (execOp C ev s o) k):=by
 cases o with
 |load t a=>exact ahx K.opq C ev s t a k
 |store t a x=>exact kH (aiY C ev s t a x k)
 |slice t x lo hi mx=>exact kH (afg C ev s t x lo hi mx k)
 |call c=>exact kH (af2 C ev s c k)
 |binOp op t x y p=>exact aeO K C ev s op t x y k
 |indexAddr t x i=>exact kH (Vd C ev s t x i k)
 |convert src dst x=>exact XJ C ev s src dst x k
 |makeSlice t l c=>exact kH (Ue C ev s t l c k)
 |_=>exact aU _
theorem L6 {α:Type}{a:α}:∀ (p:Path) (t:Tr α),Tr.agC p t=some a→Tr.agy a p t=t
 |[],.e,h=>by cases h
 |[],.n v x y,h=>by
  have h:v=some a:=h
  rw [h];rfl
 |b::p,.e,h=>by cases h
 |false::p,.n v x y,h=>by
  show Tr.n v (Tr.agy a p x) y=_
  rw [L6 p x h]
 |true::p,.n v x y,h=>by
  show Tr.n v x (Tr.agy a p y)=_
  rw [L6 p y h]
theorem Sz {t:Nat}{b:Bool}:∀ {l:List (Nat × Value)},nN t l=some (.bool b)→aln t b l=l
 |[],h=>by cases h
 |p::l,h=>by
  change Ax.sel (qab p.1 t) (some p.2) (nN t l)=some (.bool b) at h
  show Ax.sel (qab p.1 t) ((p.1,.bool b)::l) (p::aln t b l)=p::l
  cases hb:qab p.1 t with
  |true=>
   rw [hb] at h
   have h:some p.2=some (Value.bool b):=h
   rw [aN,←Option.some.inj h]
  |false=>
   rw [hb] at h
   rw [aP,Sz h]
theorem PU {n t:Nat}{b:Bool}{fr:Fr}(h:fr.ev n (.tmp t)=some (.bool b)):know n t b fr=fr:=by
 obtain ⟨vars,loc,ds⟩:=fr
 change Ax.sel (ltN t n) (vars.get t) (nN t loc)=some (.bool b) at h
 unfold know
 cases hb:ltN t n with
 |true=>
  rw [hb] at h
  have h:Tr.agC (path t) vars=some (.bool b):=h
  show Fr.mk (Tr.agy (.bool b) (path t) vars) loc ds=_
  rw [L6 _ _ h]
 |false=>
  rw [hb] at h
  show Fr.mk vars (aln t b loc) ds=_
  rw [Sz h]
theorem Cm {n:Nat}{x:Operand}{b:Bool}{fr:Fr}(h:fr.ev n x=some (.bool b)):Vq n x b fr=fr:=by
 cases x with
 |tmp t=>exact PU h
 |_=>rfl
theorem Un (K:KP)(C:Cfg)(n:Nat)(fr:Fr)(s:St)(o:Op)(k:Fr→Res→Option R):Imp (aqW K C n fr s o k) (Ax.aj (execOp C (fr.ev n) s o) (k fr)):=by
 have h0:=ah4 K C (fr.ev n) s o (k fr)
 cases o with
 |pick c a b=>
  show Imp (arG C n fr s c a b k) (Ax.aj (abb C (fr.ev n) s c a b) (k fr))
  unfold arG abb
  rw [aF]
  cases hv:fr.ev n c with
  |none=>exact aU _
  |some v=>cases v with
   |bool t=>cases t with
    |true=>
     show Imp (Ax.aj (AZ C (fr.ev n) s a) (k (Vq n c true fr))) _
     rw [Cm hv]
     exact aU _
    |false=>
     show Imp (Ax.aj (AZ C (fr.ev n) s b) (k (Vq n c false fr))) _
     rw [Cm hv]
     exact aU _
   |_=>exact aU _
 |_=>exact h0
theorem Sl (n:Nat)(all:List Oper)(g:Option (Nat × Bool))(fr:Fr){run skip:Fr→Option R}{y:Bool→Option R}(h1:Imp (run fr) (y true))(h2:Imp (skip fr) (y false)) :
  Imp (aed n all g fr run skip) (Ax.aj (jW n all fr g) y):=by
 cases g with
 |none=>exact h1
 |some g=>
  unfold aed jW
  show Imp (Ax.aj (nth all g.1) _) (Ax.aj (Ax.aj (nth all g.1) _) y)
  rw [aF]
  refine dM _ fun o=>?_
  rw [aF]
  refine dM _ fun d=>?_
  rw [aF]
  cases hv:fr.ev n (.tmp d) with
  |none=>exact aU _
  |some v=>cases v with
   |bool c=>
    obtain ⟨j,b⟩:=g
    cases c with
    |true=>
     show Imp (Ax.sel b (run (know n d true fr)) (skip (know n d true fr))) (y (true == b))
     rw [PU hv]
     cases b with
     |true=>exact h1
     |false=>exact h2
    |false=>
     show Imp (Ax.sel b (skip (know n d false fr)) (run (know n d false fr))) (y (false == b))
     rw [PU hv]
     cases b with
     |true=>exact h2
     |false=>exact h1
   |_=>exact h2
section
variable {iM:wQ R} {dR:rH R} {call:gX} {yield:dS}
theorem aeJ (hc:∀ f args s k,Imp (iM f args s k) (Ax.aj (call f args s) k))(hy:∀ f args s k,Imp (dR f args s k) (Ax.aj (yield f args s) k))
  (K:KP) (C:Cfg) (rd:Bool) (n:Nat) (all:List Oper) (o:Oper) {k:FK R} {k0:aaP} {g:Fr × St→Option R} (hk:∀ fr s,Imp (k fr s) (Ax.aj (k0 fr s) g)) (fr:Fr) (s:St) :
  Imp (agX K C iM dR rd n all o k fr s) (Ax.aj (an1 C call yield rd n all o k0 fr s) g):=by
 unfold agX an1
 rw [aF]
 refine Sl n all o.guard fr ?_ (hk _ _)
 show Imp (aqW K C n fr s o.op _) (Ax.aj (Ax.aj (execOp C (fr.ev n) s o.op) _) g)
 rw [aF]
 exact imp_trans (Un K C n fr s o.op _) (dM _ fun r=>Ig hc hy rd n fr o.dst hk r)
theorem adw (hc:∀ f args s k,Imp (iM f args s k) (Ax.aj (call f args s) k))(hy:∀ f args s k,Imp (dR f args s k) (Ax.aj (yield f args s) k))
  (K:KP) (C:Cfg) (rd:Bool) (n:Nat) (all:List Oper) (k:FK R):∀ (ops:List Oper) (fr:Fr) (s:St),
  Imp (axo K C iM dR rd n all ops k fr s) (Ax.aj (qG C call yield rd n all ops fr s) fun q=>k q.1 q.2)
 |[],fr,s=>aU _
 |o::ops,fr,s=>aeJ hc hy K C rd n all o (k:=axo K C iM dR rd n all ops k) (k0:=qG C call yield rd n all ops) (adw hc hy K C rd n all k ops) fr s
theorem WJ (hc:∀ f args s k,Imp (iM f args s k) (Ax.aj (call f args s) k))(hy:∀ f args s k,Imp (dR f args s k) (Ax.aj (yield f args s) k))
  (K:KP) (C:Cfg) (rd:Bool) (n:Nat) (all:List Oper) (base:Nat) (a:Info) (rest:List Info) {k:aek R} {k0:abh} {g:Fr × St→Option R} (hk:∀ cl p fr s,Imp (k cl p fr s) (Ax.aj (k0 cl p fr s) g))
  (cl:Bool) (pend:List aan) (fr:Fr) (s:St):Imp (Ul K C iM dR rd n all base a rest k cl pend fr s) (Ax.aj (Es C call yield rd n all base a rest k0 cl pend fr s) g):=by
 unfold Ul Es
 rw [aF]
 refine Sl n all a.op.guard fr ?_ (hk _ _ _ _)
 show Imp (Gz a.cls _ _) (Ax.aj (Gz a.cls _ _) g)
 match a.cls with
 |0=>
  show Imp (aqW K C n fr s a.op.op _) (Ax.aj (Ax.aj (execOp C (fr.ev n) s a.op.op) _) g)
  rw [aF]
  refine imp_trans (Un K C n fr s a.op.op _) (dM _ fun r=>?_)
  cases r with
  |val v s'=>exact hk _ _ _ _
  |_=>exact aU _
 |1=>
  show Imp (aqW K C n fr s a.op.op _) (Ax.aj (Ax.aj (execOp C (fr.ev n) s a.op.op) _) g)
  rw [aF]
  refine imp_trans (Un K C n fr s a.op.op _) (dM _ fun r=>?_)
  cases r with
  |val v s'=>
   show Imp (Ax.guard (lH s v) _) (Ax.aj (Ax.guard (lH s v) _) g)
   cases lH s v with
   |false=>exact aU _
   |true=>exact hk _ _ _ _
  |_=>exact aU _
 |2=>
  show Imp (axB C (fr.ev n) a.op.op fun q=>k false pend (fr.put n a.op.dst (q.2 (qag base a.i))) { heap:=s.heap.set (qag base a.i) q.1,bZ:=s.bZ,next:=s.next }) (Ax.aj (Ax.aj (aOp C (fr.ev n) a.op.op) _) g)
  rw [aF,asI]
  exact dM _ fun q=>hk _ _ _ _
 |m+3=>
  show Imp (opK K C (fr.ev n) s a.op.op _) (Ax.aj (Ax.aj (execOp C (fr.ev n) s a.op.op) _) g)
  rw [aF]
  refine imp_trans (ah4 K C _ s _ _) (dM _ fun r=>?_)
  unfold aah yP
  cases (cl&&(nC a.op.op&&vJ C r)) with
  |true=>
   rw [aN,aN]
   refine Ig hc hy rd n fr a.op.dst (fun fr s=>?_) r
   rw [cZ]
   exact XZ _ fun _=>hk _ _ _ _
  |false=>
   rw [aP,aP]
   refine Ig hc hy rd n fr a.op.dst (fun fr s=>?_) r
   rw [cZ]
   exact XZ _ fun _=>hk _ _ _ _
theorem QV (hc:∀ f args s k,Imp (iM f args s k) (Ax.aj (call f args s) k))(hy:∀ f args s k,Imp (dR f args s k) (Ax.aj (yield f args s) k))
  (K:KP) (C:Cfg) (rd:Bool) (n:Nat) (all:List Oper) (base:Nat) (k:FK R):∀ (l:List Info) (cl:Bool) (pend:List aan) (fr:Fr) (s:St),
  Imp (akH K C iM dR rd n all base l k cl pend fr s) (Ax.aj (MG C call yield rd n all base l cl pend fr s) fun q=>k q.1 q.2)
 |[],cl,pend,fr,s=>aU _
 |a::rest,cl,pend,fr,s=>WJ hc hy K C rd n all base a rest (k:=akH K C iM dR rd n all base rest k) (k0:=MG C call yield rd n all base rest) (QV hc hy K C rd n all base k rest) cl pend fr s
theorem ahH (hc:∀ f args s k,Imp (iM f args s k) (Ax.aj (call f args s) k))(hy:∀ f args s k,Imp (dR f args s k) (Ax.aj (yield f args s) k))
  (K:KP) (C:Cfg) (rd:Bool) (n:Nat) (all:List Oper) (order:List Nat) (k:FK R) (fr:Fr) (s:St) :
  Imp (am9 K C iM dR rd n all order k fr s) (Ax.aj (uj C call yield rd n all order fr s) fun q=>k q.1 q.2):=by
 unfold am9 uj
 rw [aF]
 exact dM _ fun l=>QV hc hy K C rd n all s.next k l true [] fr _
theorem Xw {f:XK R→FK R}{f0:Run}(hf:∀ k fr s,Imp (f k fr s) (Ax.aj (f0 fr s) (OI k)))(k:XK R):∀ (n m:Nat),n≤m→∀ (fr:Fr) (s:St),Imp (aiz f k n fr s) (Ax.aj (iter f0 m fr s) (OI k))
 |0,_,_,fr,s=>oI _
 |n+1,0,h,fr,s=>absurd h (Nat.not_succ_le_zero n)
 |n+1,m+1,h,fr,s=>by
  show Imp (f (amK (aiz f k n) k) fr s) (Ax.aj (Ax.aj (f0 fr s) (ni (iter f0 m))) (OI k))
  rw [aF]
  refine imp_trans (hf _ fr s) (dM _ fun r=>?_)
  obtain ⟨ex,fr',s'⟩:=r
  cases ex with
  |normal=>exact Xw hf k n m (Nat.le_of_succ_le_succ h) fr' s'
  |exit id=>exact aU _
  |ret=>exact aU _
theorem lC (hc:∀ f args s k,Imp (iM f args s k) (Ax.aj (call f args s) k))(hy:∀ f args s k,Imp (dR f args s k) (Ax.aj (yield f args s) k))
  {K:KP} (hL:K.L≤100000) (C:Cfg) (n:Nat) (fn:FuncId) (rd:Bool) {c0:Code} (hLA:∀ body fr s r,rd=false→PartOf c0 (.loop body)→K.axy fn (jR body) fr s=some (true,r)→exec C call yield n fn rd (.loop body) fr s=some r):∀ (c:Code) (hs:PartOf c0 c) (k:XK R) (fr:Fr) (s:St),
  Imp (jO K C iM dR n fn rd c k fr s) (Ax.aj (exec C call yield n fn rd c fr s) (OI k))
 |.skip,hs,k,fr,s=>aU _
 |.region id ops draw,hs,k,fr,s=>by
  show Imp (Ax.sel draw (am9 K C iM dR rd n ops.toList (C.order fn id) (k .normal) fr.fresh s) (axo K C iM dR rd n ops.toList ops.toList (k .normal) fr.fresh s))
   (Ax.aj (Ax.aj (Ax.sel draw (uj C call yield rd n ops.toList (C.order fn id) fr.fresh s) (qG C call yield rd n ops.toList ops.toList fr.fresh s)) fun r=>some (.normal,r)) (OI k))
  rw [aF]
  cases draw with
  |true=>exact ahH hc hy K C rd n _ _ _ _ _
  |false=>exact adw hc hy K C rd n _ _ _ _ _
 |.seq a b,hs,k,fr,s=>by
  show Imp (jO K C iM dR n fn rd a (amK (jO K C iM dR n fn rd b k) k) fr s) (Ax.aj (Ax.aj (exec C call yield n fn rd a fr s) (ni (exec C call yield n fn rd b))) (OI k))
  rw [aF]
  refine imp_trans (lC hc hy hL C n fn rd hLA a (.azC hs) _ fr s) (dM _ fun r=>?_)
  obtain ⟨ex,fr',s'⟩:=r
  cases ex with
  |normal=>exact lC hc hy hL C n fn rd hLA b (.azD hs) k fr' s'
  |exit id=>exact aU _
  |ret=>exact aU _
 |.cond c a b,hs,k,fr,s=>by
  show Imp (Ax.aj (fr.ev n c) (auw n c (jO K C iM dR n fn rd a k) (jO K C iM dR n fn rd b k) fr s)) (Ax.aj (Ax.aj (fr.ev n c) (yD (exec C call yield n fn rd a) (exec C call yield n fn rd b) fr s)) (OI k))
  rw [aF]
  cases hv:fr.ev n c with
  |none=>exact aU _
  |some v=>cases v with
   |bool t=>cases t with
    |true=>
     show Imp (jO K C iM dR n fn rd a k (Vq n c true fr) s) _
     rw [Cm hv]
     exact lC hc hy hL C n fn rd hLA a (.aq0 hs) k fr s
    |false=>
     show Imp (jO K C iM dR n fn rd b k (Vq n c false fr) s) _
     rw [Cm hv]
     exact lC hc hy hL C n fn rd hLA b (.ap7 hs) k fr s
   |_=>exact aU _
 |.block id a,hs,k,fr,s=>by
  show Imp (jO K C iM dR n fn rd a (aps id k) fr s) (Ax.aj (Ax.aj (exec C call yield n fn rd a fr s) (y8 id)) (OI k))
  rw [aF]
  refine imp_trans (lC hc hy hL C n fn rd hLA a (.block hs) _ fr s) (dM _ fun r=>?_)
  obtain ⟨ex,fr',s'⟩:=r
  cases ex with
  |normal=>exact aU _
  |exit id'=>
   show Imp (Ax.sel (qab id id') _ _) (Ax.aj (Ax.sel (qab id id') _ _) (OI k))
   cases qab id id' <;> exact aU _
  |ret=>exact aU _
 |.loop a,hs,k,fr,s=>by
  have hit:=Xw (fun k fr s=>lC hc hy hL C n fn rd hLA a (.loop hs) k fr s) k K.L 100000 hL fr s
  show Imp (arT K C fn rd a (aiz (jO K C iM dR n fn rd a) k K.L) k fr s) (Ax.aj (exec C call yield n fn rd (.loop a) fr s) (OI k))
  unfold arT
  cases hrd:rd with
  |true=>
   rw [hrd] at hit
   show Imp _ (Ax.aj (sJ C fn true a (iter (exec C call yield n fn true a) 100000) fr s) (OI k))
   unfold sJ
   rw [aN,aN]
   exact hit
  |false=>
   rw [aP]
   cases hl:K.axy fn (jR a) fr s with
   |none=>
    rw [hrd] at hit
    show Imp (air C fn a (aiz (jO K C iM dR n fn false a) k K.L) k fr s) (Ax.aj (sJ C fn false a (iter (exec C call yield n fn false a) 100000) fr s) (OI k))
    unfold air sJ
    rw [aP]
    cases C.MQ fn (jR a) with
    |none=>exact hit
    |some F=>exact Wp (OI k) hit (F fr s)
   |some p=>
    obtain ⟨b,r⟩:=p
    intro q hq
    obtain ⟨h1,h2⟩:=au.1 (show Ax.guard b (OI k r)=some q from hq)
    subst h1
    have h3:=hLA a fr s r hrd hs hl
    rw [hrd] at h3
    rw [h3]
    exact h2
 |.rangeFunc f ps asv b,hs,k,fr,s=>by
  show Imp (ajC C iM n fn rd f ps asv b k fr s) (Ax.aj (rangeFunc C call n fn rd f ps asv b fr s) (OI k))
  unfold ajC rangeFunc
  cases rd with
  |true=>exact aU _
  |false=>
   show Imp (Ax.aj (fr.ev n f) _) (Ax.aj (Ax.aj (fr.ev n f) _) (OI k))
   rw [aF]
   refine dM _ fun v=>?_
   show Imp (IW C iM fr _ v _ k) (Ax.aj (rangeCall C call fr _ v _) (OI k))
   unfold IW rangeCall
   rw [aF]
   refine dM _ fun r=>?_
   cases r with
   |call g args s=>
    show Imp (iM g args s _) (Ax.aj (Ax.aj (call g args s) _) (OI k))
    rw [aF]
    refine imp_trans (hc g args s _) (dM _ fun q=>?_)
    rw [aF]
    exact aU _
   |_=>exact aU _
 |.exit id,hs,k,fr,s=>aU _
 |.scope a,hs,k,fr,s=>by
  show Imp (Ax.sel rd none (jO K C iM dR n fn rd a k fr s)) (Ax.aj (Ax.sel rd none (exec C call yield n fn rd a fr s)) (OI k))
  have h:=lC hc hy hL C n fn rd hLA a (.scope hs) k fr s
  cases rd with
  |true=>exact aU _
  |false=>exact h
 |.label l,hs,k,fr,s=>aU _
 |.goto l,hs,k,fr,s=>aU _
 |.ret,hs,k,fr,s=>aU _
 |.refuse w,hs,k,fr,s=>aU _
theorem ae2 (C:Cfg)(dcall:gX)(f:FuncId)(k:Value × St→Option R)(r:Ex × Fr × St):OI (aiI C dcall f k) r=Ax.aj (finish C dcall f r) k:=by
 obtain ⟨ex,fr,s⟩:=r
 have h:(Ax.aj (unwind dcall fr.defers s) fun s=>Ax.aj (results C.P (C.vars f) fr s (C.results f)) fun vs=>k (tuple vs,s)) =
   Ax.aj (Ax.aj (unwind dcall fr.defers s) fun s=>Ax.aj (results C.P (C.vars f) fr s (C.results f)) fun vs=>some (tuple vs,s)) k:=by
  rw [aF]
  refine aI _ fun s=>?_
  rw [aF]
  rfl
 cases ex with
 |exit id=>rfl
 |normal=>exact h
 |ret=>exact h
def Qj (K:KP)(C:Cfg):Prop:=∀ f args c v,K.alt f args=some (c,v)→c=true→∃ t,C.insert f=some t∧∀ s,mY C t s args=some (v,s)
theorem bF {L:Nat}{B:Option Bool}{la:FuncId→Nat→Fr→St→Option (Bool × (Ex × Fr × St))}{po:FuncId→List Value→List Int}{oq:Bool}{C:Cfg}:Qj ⟨L,B,fun _ _=>none,la,po,oq⟩ C:=fun _ _ _ _ h=>by cases h
def ZI (K:KP)(C:Cfg)(call:gX)(yield:dS):Prop:=∀ fn c body fr s r,C.body fn=some c→PartOf c (.loop body)→K.axy fn (jR body) fr s=some (true,r)→exec C call yield (C.vars fn) fn false (.loop body) fr s=some r
theorem agu {K:KP}{C:Cfg}{call:gX}{yield:dS}:ZI K.plain C call yield:=fun _ _ _ _ _ _ _ _ h=>by cases h
theorem Z9 (hc:∀ f args s k,Imp (iM f args s k) (Ax.aj (call f args s) k))(hy:∀ f args s k,Imp (dR f args s k) (Ax.aj (yield f args s) k))
  {K:KP} (hL:K.L≤100000) (C:Cfg) (hLA:ZI K C call yield) (f:FuncId) (args:List Value) (s:St) (k:Value × St→Option R):Imp (ahp K C call yield iM dR f args s k) (Ax.aj (jZ C call yield f args s) k):=by
 unfold ahp jZ
 rw [aF]
 cases hb:C.body f with
 |none=>exact aU _
 |some c=>
 show Imp (jO K C iM dR (C.vars f) f false c _ _ s) (Ax.aj (Ax.aj (exec C call yield (C.vars f) f false c (qH args) s) _) k)
 rw [aF]
 exact imp_trans (lC hc hy hL C _ _ _ (fun body fr s r _ hs h=>hLA f c body fr s r hb hs h) c (.refl c) _ _ _) (dM _ fun r=>kH (ae2 C _ f k r))
theorem agi (hc:∀ f args s k,Imp (iM f args s k) (Ax.aj (call f args s) k))(hy:∀ f args s k,Imp (dR f args s k) (Ax.aj (yield f args s) k))
  {K:KP} (hL:K.L≤100000) (C:Cfg) (hA:Qj K C) (hLA:ZI K C call yield) (f:FuncId) (args:List Value) (s:St) (k:Value × St→Option R):Imp (akn K C call yield iM dR f args s k) (Ax.aj (pO C call yield f args s) k):=by
 unfold akn pO
 cases ha:K.alt f args with
 |some p=>
  obtain ⟨c,v⟩:=p
  intro r hr
  obtain ⟨h1,h2⟩:=au.1 (show Ax.guard c (k (v,s))=some r from hr)
  obtain ⟨t,ht,hrun⟩:=hA f args c v ha h1
  rw [ht]
  show Ax.aj (Option.casesOn (mY C t s args) (jZ C call yield f args s) some) k=some r
  rw [hrun s]
  exact h2
 |none=>
  cases C.insert f with
  |none=>exact Z9 hc hy hL C hLA f args s k
  |some t=>
   show Imp (aAy C t s args _ k) (Ax.aj (Option.casesOn (mY C t s args) _ _) k)
   have hb:=Z9 hc hy hL C hLA f args s k
   have hone:Imp (Option.casesOn (mY C t s args) (ahp K C call yield iM dR f args s k) k) (Ax.aj (Option.casesOn (mY C t s args) (jZ C call yield f args s) some) k):=by
    cases mY C t s args with
    |none=>exact hb
    |some r=>exact aU _
   cases t with
   |tree F=>exact Wp k hb (F s args)
   |insert t=>exact hone
   |closed t=>exact hone
   |fn t=>exact hone
   |pure t=>exact hone
theorem ahg (l:List Int)(k:Value × St→Option R)(q:Value × St):Imp (au0 l k q) (k q):=by
 obtain ⟨v,s⟩:=q
 cases v with
 |int kd z=>
  have key:∀ l:List Int,Imp (List.rec (motive:=fun _=>Option R) none (fun c _ ih=>sel (eqI z c) (k (.int kd c,s)) ih) l) (k (.int kd z,s)):=by
   intro l
   induction l with
   |nil=>exact oI _
   |cons c l ih=>
    show Imp (sel (eqI z c) (k (.int kd c,s)) (List.rec (motive:=fun _=>Option R) none (fun c _ ih=>sel (eqI z c) (k (.int kd c,s)) ih) l)) _
    cases hb:eqI z c with
    |true=>
     rw [aN]
     have:z=c:=by rw [jm] at hb;simpa using hb
     subst this
     exact aU _
    |false=>rw [aP];exact ih
  cases l with
  |nil=>exact aU _
  |cons c l=>exact key (c::l)
 |_=>exact aU _
theorem WW (hc:∀ f args s k,Imp (iM f args s k) (Ax.aj (call f args s) k))(hy:∀ f args s k,Imp (dR f args s k) (Ax.aj (yield f args s) k))
  {K:KP} (hL:K.L≤100000) (C:Cfg) (hA:Qj K C) (hLA:ZI K C call yield) (f:FuncId) (args:List Value) (s:St) (k:Value × St→Option R):Imp (atO K C call yield iM dR f args s k) (Ax.aj (pO C call yield f args s) k):=
 imp_trans (agi hc hy hL C hA hLA f args s _) (dM _ fun q=>ahg _ k q)
theorem Dp (hc:∀ f args s k,Imp (iM f args s k) (Ax.aj (call f args s) k))(hy:∀ f args s k,Imp (dR f args s k) (Ax.aj (yield f args s) k))
  {K:KP} (hL:K.L≤100000) (C:Cfg) (l:Nat) (args:List Value) (s:St) (k:Value × St→Option R):Imp (H7 K C iM dR l args s k) (Ax.aj (rM C call yield l args s) k):=by
 unfold H7 rM
 rw [aF]
 refine dM _ fun r=>?_
 rw [aF]
 refine dM _ fun vars=>?_
 rw [aF]
 refine imp_trans (lC (K:=K.plain) hc hy hL C _ _ _ (fun _ _ _ _ _ _ h=>by cases h) _ (.refl _) _ _ _) (dM _ fun q=>?_)
 obtain ⟨ex,fr,s'⟩:=q
 cases ex with
 |normal=>
  show Imp (Ax.aj (getLoop s' l) _) (Ax.aj (Ax.aj (getLoop s' l) _) k)
  rw [aF]
  refine dM _ fun r'=>?_
  cases h:r'.state with
  |ready=>
   simp only
   rw [aF]
   exact imp_trans (lC (K:=K.plain) hc hy hL C _ _ _ (fun _ _ _ _ _ _ h=>by cases h) _ (.refl _) _ _ _) (aU _)
  |_=>exact aU _
 |exit id=>exact aU _
 |ret=>exact aU _
end
def zT (K:KP)(C:Cfg):Prop:=∀ m,ZI K C (runN C (m+1)).1 (runN C (m+1)).2
theorem aT {L:Nat}{B:Option Bool}{alt:FuncId→List Value→Option (Bool × Value)}{po:FuncId→List Value→List Int}{oq:Bool}{C:Cfg}:zT ⟨L,B,alt,fun _ _ _ _=>none,po,oq⟩ C:=fun _ _ _ _ _ _ _ _ _ h=>by cases h
theorem lK {K:KP}(hL:K.L≤100000)(C:Cfg)(hA:Qj K C)(hLo:zT K C):∀ (n:Nat),(∀ f args s (k:Value × St→Option R),Imp ((runK K C n).1 f args s k) (Ax.aj ((runN C n).1 f args s) k))∧(∀ l args s (k:Value × St→Option R),Imp ((runK K C n).2 l args s k) (Ax.aj ((runN C n).2 l args s) k))
 |0=>⟨fun _ _ _ _=>aU _,fun _ _ _ _=>aU _⟩
 |1=>⟨fun f args s k=>WW (K:=K.plain) (lK hL C hA hLo 0).1 (lK hL C hA hLo 0).2 hL C hA agu f args s k,fun l args s k=>Dp (lK hL C hA hLo 0).1 (lK hL C hA hLo 0).2 hL C l args s k⟩
 |n+2=>⟨fun f args s k=>WW (lK hL C hA hLo (n+1)).1 (lK hL C hA hLo (n+1)).2 hL C hA (hLo n) f args s k,fun l args s k=>Dp (lK hL C hA hLo (n+1)).1 (lK hL C hA hLo (n+1)).2 hL C l args s k⟩
theorem agd {K:KP}(hL:K.L≤100000){C:Cfg}(hA:Qj K C)(hLo:zT K C){n:Nat}{f:FuncId}{args:List Value}{s:St}{v:Value}(h:(runK K C n).1 f args s (fun q=>some q.1)=some v):∃ s',(runN C n).1 f args s=some (v,s'):=by
 have:=(lK hL C hA hLo n).1 f args s (fun q=>some q.1) v h
 obtain ⟨⟨v',s'⟩,h1,h2⟩:=ah.1 this
 cases h2
 exact ⟨s',h1⟩
end
end
end Go.Ax
namespace Go.Ax
variable [Lo]
open Go
noncomputable section
theorem kW (a:Int):eqI a a=true:=by rw [jm];simp
theorem eu.nil {P:Program}{C:Cfg}:eu P C []:=fun f t h=>by cases h
end
end Go.Ax
namespace Go.Ax
open Go
noncomputable section
theorem BL {α:Type}(l r:List α):aK l r=l++r:=by
 induction l with
 |nil=>rfl
 |cons a l ih=>show a::aK l r=_;rw [ih];rfl
def oM (c:Code):List Code:=
 Code.rec (motive:=fun _=>List Code) [] (fun _ _ _=>[]) (fun _ _ a b=>aK a b) (fun _ _ _ a b=>aK a b) (fun _ _ a=>a) (fun b a=>b::a) (fun _ _ _ _ _ _=>[]) (fun _=>[]) (fun _ a=>a) (fun _=>[]) (fun _=>[]) [] (fun _=>[]) c
theorem XC {c d:Code}(h:PartOf c d):∀ b,b∈oM d→b∈oM c:=by
 induction h with
 |refl=>exact fun b h=>h
 |@azC a b _ ih=>exact fun x hx=>ih x (by show x∈aK (oM a) (oM b);rw [BL];exact qas _ hx)
 |@azD a b _ ih=>exact fun x hx=>ih x (by show x∈aK (oM a) (oM b);rw [BL];exact qaq _ hx)
 |@aq0 x a b _ ih=>exact fun y hy=>ih y (by show y∈aK (oM a) (oM b);rw [BL];exact qas _ hy)
 |@ap7 x a b _ ih=>exact fun y hy=>ih y (by show y∈aK (oM a) (oM b);rw [BL];exact qaq _ hy)
 |@block id a _ ih=>exact fun y hy=>ih y hy
 |@loop a _ ih=>exact fun y hy=>ih y (qah _ hy)
 |@scope a _ ih=>exact fun y hy=>ih y hy
theorem amw {c b:Code}(h:PartOf c (.loop b)):b∈oM c:=XC h b qai
def anx {α:Type}(p:Nat→α→Prop)(t:Hp α):Prop:=Hp.rec (fun _ _=>True) (fun k v=>p k v) (fun _ _ _ x y=>x∧y) t
theorem uG {α:Type}{p:Nat→α→Prop}:∀ {t:Hp α} {k:Nat} {v:α},anx p t→t.get k=some v→p k v
 |.s _ _,k,v,_,h=>by rw [Hp.zL] at h;cases h
 |.l j u,k,v,hp,h=>by
  rw [Hp.Vz] at h
  split at h
  ·rename_i e;cases h;subst e;exact hp
  ·cases h
 |.n m x y,k,v,hp,h=>by
  rw [Hp.U7] at h
  have hp:anx p x∧anx p y:=hp
  split at h
  ·exact uG hp.2 h
  ·exact uG hp.1 h
def afy {α:Type}(t:Hp α):List Nat:=Hp.rec (fun _ _=>[]) (fun k _=>[k]) (fun _ _ _ x y=>aK x y) t
theorem BH {α:Type}:∀ {t:Hp α} {k:Nat} {v:α},t.get k=some v→k∈afy t
 |.s _ _,k,v,h=>by rw [Hp.zL] at h;cases h
 |.l j u,k,v,h=>by
  rw [Hp.Vz] at h
  split at h
  ·rename_i e;subst e;exact qai
  ·cases h
 |.n m x y,k,v,h=>by
  rw [Hp.U7] at h
  show k∈aK (afy x) (afy y)
  rw [iG]
  split at h
  ·exact qaq _ (BH h)
  ·exact qas _ (BH h)
def ald (s:St)(i:Nat):Option (Nat × Nat):=aj (s.heap.get i) fun r=>match r with
 |.row _ _ f=>sel (qab f 0) (some (0,i)) (aj (s.bZ.get f) fun l=>sel (yT i l) (some (1,f)) none)
 |.map _ _=>some (0,i)
 |.loop _=>some (0,i)
 |.other=>none
theorem TL (s:St)(i:Nat):ald s i=s.tag i:=by
 unfold ald St.tag
 cases hg:s.heap.get i with
 |none=>rfl
 |some r=>
  cases r with
  |row cs e f=>
   show sel (qab f 0) (some (0,i)) (aj (s.bZ.get f) fun l=>sel (yT i l) (some (1,f)) none)=if f=0 then some (0,i) else _
   rw [aG]
   by_cases hf:f=0
   ·subst hf;simp
   ·have hb:¬qab f 0=true:=fun e=>hf (qaa e)
    rw [if_neg hb,if_neg hf]
    cases s.bZ.get f with
    |none=>rfl
    |some l=>
     show sel (yT i l) (some (1,f)) none=if i∈l then some (1,f) else none
     rw [aG,Cb]
     simp
  |map es c=>rfl
  |loop q=>rfl
  |other=>rfl
def agJ (a b:Option (Nat × Nat)):Bool:=Option.rec (Option.rec true (fun _=>false) b) (fun x=>Option.rec false (fun y=>qab x.1 y.1&&qab x.2 y.2) b) a
theorem aeo {a b:Option (Nat × Nat)}:agJ a b=true↔a=b:=by
 cases a with
 |none=>cases b with
  |none=>exact ⟨fun _=>rfl,fun _=>rfl⟩
  |some y=>exact ⟨(fun h=>by cases h),(fun h=>by cases h)⟩
 |some x=>cases b with
  |none=>exact ⟨(fun h=>by cases h),(fun h=>by cases h)⟩
  |some y=>
   show (qab x.1 y.1&&qab x.2 y.2)=true↔_
   obtain ⟨x1,x2⟩:=x
   obtain ⟨y1,y2⟩:=y
   simp only [qad,Nat.beq_eq,Option.some.injEq,Prod.mk.injEq]
def abZ (L:List (Nat × Loc)):Ren:=fun i=>fC L i
def idB (π:Ren)(i:Nat):Nat:=sel (ltN i ak) i (Option.rec 0 (fun q:Loc=>q.blk) (π i))
def SY (π:Ren)(S s:St)(i:Nat):List Nat→Bool:=fun l=>List.rec true (fun j _ ih=>sel (agJ (ald S i) (ald S j)||((ltN i ak&&ltN j ak) || !agJ (ald s (idB π i)) (ald s (idB π j)))) ih false) l
def G7 (π:Ren)(S s:St)(ids:List Nat):List Nat→Bool:=fun l=>List.rec true (fun i _ ih=>sel (SY π S s i ids) ih false) l
theorem PI {π:Ren}{S s:St}{i j:Nat}:∀ {l:List Nat},SY π S s i l=true→j∈l→(S.tag i=S.tag j∨(i<ak∧j<ak)∨s.tag (idB π i)≠s.tag (idB π j))
 |[],_,h=>by cases h
 |k::l,h,hj=>by
  obtain ⟨h1,h2⟩:=dG (show sel (agJ (ald S i) (ald S k)||((ltN i ak&&ltN k ak) || !agJ (ald s (idB π i)) (ald s (idB π k)))) (SY π S s i l) false=true from h)
  rcases List.mem_cons.1 hj with rfl|hj
  ·simp only [qay,qad,qao] at h1
   rcases h1 with h1|⟨h1,h3⟩|h1
   ·rw [aeo,TL,TL] at h1;exact .inl h1
   ·exact .inr (.inl ⟨bD h1,bD h3⟩)
   ·refine .inr (.inr fun e=>?_)
    rw [←TL,←TL] at e
    rw [aeo.2 e] at h1
    cases h1
  ·exact PI h2 hj
theorem Ed {π:Ren}{S s:St}{i j:Nat}{ids:List Nat}:∀ {l:List Nat},G7 π S s ids l=true→i∈l→j∈ids→(S.tag i=S.tag j∨(i<ak∧j<ak)∨s.tag (idB π i)≠s.tag (idB π j))
 |[],_,h,_=>by cases h
 |k::l,h,hi,hj=>by
  obtain ⟨h1,h2⟩:=dG (show sel (SY π S s k ids) (G7 π S s ids l) false=true from h)
  rcases List.mem_cons.1 hi with rfl|hi
  ·exact PI h1 hj
  ·exact Ed h2 hi hj
def avi (P:Program)(π:Ren)(S s:St)(i:Nat)(r:Row):Prop:=
 i<S.next∧match r with
 |.row cs e f=>f<S.next∧pG P π s i cs e f
 |.map es c=>ak≤i∧∃ j es',π i=some ⟨j,0,aC⟩∧ak≤j∧s.heap.get j=some (.map es' c)∧abl π es es'
 |.loop _=>False
 |.other=>True
def VH (n:Nat)(L:List (Nat × Loc)):Bool:=List.rec true (fun p _ ih=>sel (ltN p.1 n) ih false) L
theorem J7 {n:Nat}:∀ {L:List (Nat × Loc)} {i:Nat} {q:Loc},VH n L=true→abZ L i=some q→i<n
 |[],i,q,_,h=>by cases h
 |p::L,i,q,hb,h=>by
  obtain ⟨h1,h2⟩:=dG (show sel (ltN p.1 n) (VH n L) false=true from hb)
  have h:sel (qab p.1 i) (some p.2) (abZ L i)=some q:=h
  rw [aG] at h
  split at h
  ·rename_i e
   rw [←qaa e]
   exact bD h1
  ·exact J7 h2 h
theorem Emb.of {P:Program}{L:List (Nat × Loc)}{S s:St}(hn:qae ak S.next=true)(hb:VH S.next L=true)(hrows:anx (avi P (abZ L) S s) S.heap)(ht:G7 (abZ L) S s (afy S.heap) (afy S.heap)=true):Emb P (abZ L) S s where
 next:=qac hn
 dom:=fun i q hq _=>J7 hb hq
 hdom:=fun i r hg=>(uG hrows hg).1
 ath:=fun i cs e f hg=>(uG hrows hg).2.1
 cells:=fun i cs e f hc=>(uG hrows (aO.1 hc).1).2.2
 maps:=fun i es c hg=>(uG hrows hg).2
 loops:=fun i q hg=>(uG hrows hg).2
 tags:=fun i j a b x y hi hj hab hh hx hy=>by
  obtain ⟨r,hr⟩:=tag_some hi
  obtain ⟨r',hr'⟩:=tag_some hj
  have hid:∀ k z,XW (abZ L) k=some z→idB (abZ L) k=z:=by
   intro k z hk
   unfold XW at hk
   unfold idB
   rw [aG,oN]
   by_cases hlo:k<ak
   ·rw [if_pos hlo] at hk
    cases hk
    simp [hlo]
   ·rw [if_neg hlo] at hk
    obtain ⟨q,hq,rfl⟩:=Option.map_eq_some_iff.1 hk
    simp [hlo,hq]
  rcases Ed ht (BH hr) (BH hr') with h|h|h
  ·rw [hi,hj] at h
   exact absurd (Option.some.inj h) hab
  ·omega
  ·rw [hid i x hx,hid j y hy] at h
   exact h
def azq (L:List (Nat × Value)):Tr Value:=List.rec .e (fun p _ ih=>ih.set p.1 p.2) L
def aAS (L:List (Nat × Value)):Fr:={ vars:=azq L,loc:=[],defers:=[] }
theorem ac7:∀ {L:List (Nat × Value)} {t:Nat} {v:Value},(azq L).get t=some v→(t,v)∈L
 |[],t,v,h=>by
  have h:(Tr.e:Tr Value).get t=some v:=h
  rw [Tr.avu] at h
  cases h
 |p::L,t,v,h=>by
  have h:((azq L).set p.1 p.2).get t=some v:=h
  rw [Tr.jv] at h
  split at h
  ·rename_i e;cases h;subst e;exact qai
  ·exact qah _ (ac7 h)
theorem PG.of {π:Ren}{n:Nat}{L:List (Nat × Value)}{fr:Fr}(h:∀ p∈L,∃ v',fr.get n p.1=some v'∧RV π p.2 v')(hd:fr.defers=[]):PG π n (aAS L) fr where
 get:=fun t v ht=>by
  unfold Fr.get at ht
  rw [aG] at ht
  split at ht
  ·exact h (t,v) (ac7 ht)
  ·cases ht
 defers:=⟨rfl,hd⟩
theorem RVs.flat {π:Ren}:∀ {l:List Value},flatAll l=true→RVs π l l
 |[],_=>.nil
 |v::l,h=>by
  obtain ⟨h1,h2⟩:=dG (show sel (lZ v) (flatAll l) false=true from h)
  refine .cons ?_ (RVs.flat h2)
  cases v <;> first|exact .bool _|exact .int _ _|exact .string _|(exact Bool.noConfusion (show false=true from h1))
abbrev PW:=Fr→St→Tree (Ex × Fr × St)
def TR (L:List (Nat × Nat × PW)):FuncId→Nat→Option PW:=fun f i=>List.rec none (fun p _ ih=>sel (qab p.1 f&&qab p.2.1 i) (some p.2.2) ih) L
theorem Rl {f i:Nat}{F:PW}:∀ {L:List (Nat × Nat × PW)},TR L f i=some F→(f,i,F)∈L
 |[],h=>by cases h
 |p::L,h=>by
  have h:sel (qab p.1 f&&qab p.2.1 i) (some p.2.2) (TR L f i)=some F:=h
  rw [aG] at h
  split at h
  ·rename_i hb
   simp only [qad] at hb
   cases h
   rw [←qaa hb.1,←qaa hb.2]
   exact qai
  ·exact qah _ (Rl h)
end
section
variable [Lo] {P:Program}
def KY (P:Program)(C:Cfg)(fn:FuncId)(body:Code)(F:PW):Prop:=
 ∀ (fr:Fr) (s:St) (e:Ex) (fr':Fr) (s':St),(F fr s).run=some (e,fr',s')→
  ∀ (B:Nat) (ρ:Ren) (a:Act) (w:World) (mk:Option Nat) (m nt:Nat) (Q:Exit→Act→World→Prop),qg nt body=true→(mk=none→GZ body=true)→
   HR P B ρ s w→FrR mk (C.vars fn) nt ρ s w fr a→(∀ k,mk=some k→k≤w.heap.size)→
   (∀ ρ' w' a',Goes P B ρ s w ρ' s' w'→FrR mk (C.vars fn) nt ρ' s' w' fr' a'→Q (exq e) a' w')→(Code.loop body).wpIn (Fro none) m P Q a w
theorem Tf {C:Cfg}{L:List (Nat × Nat × PW)}(hL:C.MQ=TR L)(h:∀ q∈L,∀ c body,C.body q.1=some c→PartOf c (.loop body)→jR body=q.2.1→KY P C q.1 body q.2.2) :
  ∀ fn c body,C.body fn=some c→PartOf c (.loop body)→uX P C fn body:=by
 intro fn c body hc hp F hF
 rw [hL] at hF
 exact h _ (Rl hF) c body hc hp rfl
def Steps (P:Program)(C:Cfg)(m:Nat)(fn:FuncId)(body:Code)(N:Nat)(e:Ex)(fr':Fr)(s':St)(R:Nat→Fr→St→Prop):Prop:=
 ∀ k fr2 s2,R k fr2 s2→∃ k',k=k'+1∧∃ e1 fr1 s1,exec C (runN C m).1 (runN C m).2 (C.vars fn) fn false body fr2 s2=some (e1,fr1,s1)∧
   ((e1 = .normal∧∃ π fr3 s3,PG π (C.vars fn) fr3 fr1∧Emb P π s3 s1∧Keeps N π∧N≤s3.next∧R k' fr3 s3)∨
    (e1 ≠ .normal∧e1=e∧∃ π,PG π (C.vars fn) fr' fr1∧Emb P π s' s1∧Keeps N π∧N≤s'.next))
theorem abI {C0 C:Cfg}(hK:eX C0 P)(hb:C.body=C0.body)(hv:C.vars=C0.vars){m:Nat}{fn:FuncId}{c body:Code}{F:PW}(hc:C.body fn=some c)(hp:PartOf c (.loop body))
  (h:∀ fr s e fr' s',(F fr s).run=some (e,fr',s')→∃ R k,Steps P C0 m fn body s.next e fr' s' R∧∃ π fr3 s3,PG π (C0.vars fn) fr3 fr∧Emb P π s3 s∧Keeps s.next π∧s.next≤s3.next∧R k fr3 s3):KY P C fn body F:=by
 intro fr s e fr' s' hF B ρ a w mk m' nt Q hok hnr hr hf hlo hq
 obtain ⟨R,k,hstep,h0⟩:=h fr s e fr' s' hF
 rw [hb] at hc
 rw [hv] at hf hq
 exact aje hK (sN hK m).1 (sN hK m).2 (GN m) hc hp R hstep h0 hok hnr hr hf hlo hq
theorem eu.vW {C C0:Cfg}(hK:∀ lo:Lo,@eX lo C0 P){n:Nat}{f0:FuncId}{G:List fK→Tree cO}(hrun:Ut P C0 n f0 G){L:List (Nat × Con)}(hL:eu P C L):eu P C ((f0,.tree (vW P G))::L):=by
 intro f t h args s v s' hv base ρ w aZ hr ha
 have h':sel (qab f0 f) (some (Con.tree (Ax.vW P G))) (fC L f)=some t:=h
 rw [aG] at h'
 split at h'
 ·rename_i hb
  cases h'
  have hf:f0=f:=qaa hb
  subst hf
  exact ae6 hK hrun hv hr ha
 ·exact hL f t h' args s v s' hv base ρ w aZ hr ha
theorem eu.alL {C:Cfg}{f0:FuncId}{G:List fK→Tree cO}(hrun:P9 P f0 G){L:List (Nat × Con)}(hL:eu P C L):eu P C ((f0,.tree (Ax.vW P G))::L):=by
 intro f t h args s v s' hv base ρ w aZ hr ha
 have h':sel (qab f0 f) (some (Con.tree (Ax.vW P G))) (fC L f)=some t:=h
 rw [aG] at h'
 split at h'
 ·rename_i hb
  cases h'
  have hf:f0=f:=qaa hb
  subst hf
  exact MO hrun hv hr ha
 ·exact hL f t h' args s v s' hv base ρ w aZ hr ha
end
end Go.Ax
namespace Go.Ax
open Go
noncomputable section
structure Seen where
 rows:List (List Value × TypeId)
 blks:List Loc
 bZ:List Nat
 count:Nat
def agD (f b:Nat):Nat:=sel (qab f 0) (qaj 2 b) (qak (qaj 2 f))
def VO (f c sz len:Nat):Bool:=sel (qab f 0) (ltN c bf&&qab (qaj c sz) len) (qab c aC)
section
variable {R:Type}
def Ny (P:Program)(s:St)(v:Value)(o:Seen)(k:dZ→Seen→Option R):Option R:=
 sel (yR v) (k (.flat v) o) (match v with
  |.slice (some a) n c=>guard (a.spot.isNone&&(qab a.off 0&&qae ak a.block)) (aj (s.cells a.block) fun r=>
    guard (!yT (agD r.2.2 a.block) o.bZ) (aj (size P r.2.1) fun sz=>guard (qae 1 sz&&VO r.2.2 c sz (aQ r.1))
     (k (.sl o.count n) ⟨aK o.rows [(r.1,r.2.1)],aK o.blks [⟨a.block,0,c⟩],agD r.2.2 a.block::o.bZ,qak o.count⟩)))
  |_=>none)
def UZ (P:Program)(s:St)(l:List Value):Seen→(List dZ→Seen→Option R)→Option R:=
 List.rec (fun o k=>k [] o) (fun v _ ih o k=>Ny P s v o fun c o=>ih o fun cs o=>k (c::cs) o) l
def SI (P:Program)(s:St)(v:Value)(o:Seen)(k:gq→Seen→Option R):Option R:=
 match v with
 |.agg ⟨l⟩=>UZ P s l o fun cs o=>k (.agg cs) o
 |v=>Ny P s v o fun c o=>k (.one c) o
def TI (P:Program)(s:St)(l:List Value):Seen→(List gq→Seen→Option R)→Option R:=
 List.rec (fun o k=>k [] o) (fun v _ ih o k=>SI P s v o fun c o=>ih o fun cs o=>k (c::cs) o) l
def OG (v:Value):List Value:=
 match v with
 |.tuple ⟨l⟩=>l
 |v=>[v]
def acM (v:Value):Bool:=
 match v with
 |.tuple ⟨l⟩=>!qab (aQ l) 1
 |_=>true
end
def bP (P:Program)(q:Value × St):Option cO:=guard (acM q.1) (TI P q.2 (OG q.1) ⟨[],[],[],0⟩ fun cs o=>some ⟨cs,o.rows⟩)
def oJ (bl:List Loc):Ren:=fun i=>if i<64 then none else bl[i-64]?
structure Kq (P:Program) (s:St) (o:Seen):Prop where
 len:o.blks.length=o.rows.length∧o.count=o.rows.length
 at_:∀ (k:Nat) (q:Loc),o.blks[k]? = some q→ak≤q.blk∧q.off=0∧∃ (p:List Value × TypeId) (f sz:Nat),o.rows[k]? = some p∧s.cells q.blk=some (p.1,p.2,f)∧agD f q.blk∈o.bZ∧size P p.2=some sz∧0<sz∧VO f q.cap sz p.1.length=true
 inj:∀ (k l:Nat) (q u:Loc) (f g:Nat) (cs ds:List Value) (e d:TypeId),o.blks[k]? = some q→o.blks[l]? = some u→s.cells q.blk=some (cs,e,f)→s.cells u.blk=some (ds,d,g)→agD f q.blk=agD g u.blk→k=l
def Seen.le (o o':Seen):Prop:=(∃ t,o'.rows=o.rows++t)∧∃ t,o'.blks=o.blks++t
theorem Seen.le_refl (o:Seen):o.le o:=⟨⟨[],by simp⟩,⟨[],by simp⟩⟩
theorem Seen.le_trans {a b c:Seen}(h:a.le b)(g:b.le c):a.le c:=by
 obtain ⟨⟨t,h1⟩,u,h2⟩:=h
 obtain ⟨⟨t',g1⟩,u',g2⟩:=g
 exact ⟨⟨t++t',by rw [g1,h1];simp⟩,⟨u++u',by rw [g2,h2];simp⟩⟩
theorem Seen.apT {o o':Seen}(h:o.le o'){k:Nat}{b:Loc}(hb:o.blks[k]? = some b):o'.blks[k]? = some b:=by
 obtain ⟨_,u,h2⟩:=h
 rw [h2,qap (List.getElem?_eq_some_iff.1 hb).1]
 exact hb
theorem alN {π:Ren}{v:Value}(h:yR v=true):RV π v v:=by
 unfold yR at h
 split at h
 ·exact .dW _ _
 ·exact .nY
 ·exact .uH
 ·exact .nilFunc
 ·exact .nilIface
 ·cases v <;> first|exact .bool _|exact .int _ _|exact .string _|(exact Bool.noConfusion (show false=true from h))
section
variable {R:Type} {P:Program} {s:St}
theorem JW {v:Value}{o:Seen}{k:dZ→Seen→Option R}{r:R}(h:Ny P s v o k=some r)(ho:Kq P s o) :
  ∃ c o',k c o'=some r∧Kq P s o'∧o.le o'∧c.ok o'.count=true∧∀ bl:List Loc,(∀ (k:Nat) (b:Loc),o'.blks[k]? = some b→bl[k]? = some b)→RV (oJ bl) (c.val 64) v:=by
 unfold Ny at h
 cases hf:yR v with
 |true=>
  rw [hf,aN] at h
  exact ⟨.flat v,o,h,ho,o.le_refl,hf,fun _ _=>alN hf⟩
 |false=>
  rw [hf,aP] at h
  split at h
  ·rename_i a n c
   obtain ⟨b,off,sp⟩:=a
   obtain ⟨hg,h1⟩:=au.1 h
   clear h
   obtain ⟨⟨cs,e,f⟩,hc,h2⟩:=ah.1 h1
   clear h1
   obtain ⟨hg2,h3⟩:=au.1 h2
   clear h2
   obtain ⟨sz,hsz,h4⟩:=ah.1 h3
   clear h3
   obtain ⟨hs0,h⟩:=au.1 h4
   clear h4
   simp only [qad,qao] at hg hg2 hs0
   obtain ⟨g1,g2,g4⟩:=hg
   obtain ⟨hs0,hcap⟩:=hs0
   have g2:off=0:=qaa g2
   have g4:ak≤b:=qac g4
   have g1:sp=none:=by cases sp with
    |none=>rfl
    |some x=>cases g1
   have hfn:agD f b ∉ o.bZ:=by
    have g6:yT (agD f b) o.bZ=false:=hg2
    rw [Cb] at g6
    simpa using g6
   have hs0:1≤sz:=qac hs0
   have hcap:VO f c sz cs.length=true:=by rw [←aW];exact hcap
   subst g1 g2
   have hc:s.cells b=some (cs,e,f):=hc
   simp only [iG] at h
   have hnew:∀ (k:Nat) (q:Loc),(o.blks++[⟨b,0,c⟩])[k]? = some q→(k<o.blks.length∧o.blks[k]? = some q)∨(k=o.blks.length∧q=⟨b,0,c⟩):=by
    intro k q hk
    by_cases hlt:k<o.blks.length
    ·rw [qap hlt] at hk;exact .inl ⟨hlt,hk⟩
    ·rw [qau (by omega)] at hk
     have hk0:k-o.blks.length=0:=by
      have:=(List.getElem?_eq_some_iff.1 hk).1
      simp at this
      exact this
     rw [hk0] at hk
     exact .inr ⟨by omega,by simpa using hk.symm⟩
   have hold:∀ (k:Nat) (q:Loc) (cs':List Value) (e':TypeId) (f':Nat),o.blks[k]? = some q→s.cells q.blk=some (cs',e',f')→agD f' q.blk∈o.bZ:=by
    intro k q cs' e' f' hk hcb
    obtain ⟨_,_,p,f2,_,_,h3,h5,_⟩:=ho.at_ k q hk
    rw [hcb] at h3
    cases h3
    exact h5
   refine ⟨_,_,h,⟨⟨by simp [ho.len.1],by simp [ho.len.2]⟩,fun k q hk=>?_,fun k l q u f' g' cs' ds' e' d' hk hl hcb hcc hfg=>?_⟩,⟨⟨_,rfl⟩,⟨_,rfl⟩⟩,?_,fun bl hbl=>?_⟩
   ·rcases hnew k q hk with ⟨hlt,hk'⟩|⟨hk',rfl⟩
    ·obtain ⟨h1,h1',p,f2,sz2,h2,h3,h5,h6,h7,h8⟩:=ho.at_ k q hk'
     exact ⟨h1,h1',p,f2,sz2,by rw [qap (by rw [←ho.len.1];exact hlt)];exact h2,h3,qah _ h5,h6,h7,h8⟩
    ·have hkk:k=o.rows.length:=by have:=ho.len.1;omega
     exact ⟨g4,rfl,(cs,e),f,sz,by rw [hkk];simp,hc,qai,hsz,by omega,hcap⟩
   ·rcases hnew k q hk with ⟨_,hk'⟩|⟨hk',rfl⟩ <;> rcases hnew l u hl with ⟨_,hl'⟩|⟨hl',rfl⟩
    ·exact ho.inj k l q u f' g' cs' ds' e' d' hk' hl' hcb hcc hfg
    ·have hcc:s.cells b=some (ds',d',g'):=hcc
     rw [hc] at hcc
     cases hcc
     have:=hold k q cs' e' f' hk' hcb
     rw [hfg] at this
     exact absurd this hfn
    ·have hcb:s.cells b=some (cs',e',f'):=hcb
     rw [hc] at hcb
     cases hcb
     have:=hold l u ds' d' g' hl' hcc
     rw [←hfg] at this
     exact absurd this hfn
    ·omega
   ·show ltN o.count (qak o.count)=true
    rw [oN];simp
   ·have hb:=hbl o.count ⟨b,0,c⟩ (by
     show (o.blks++[(⟨b,0,c⟩:Loc)])[o.count]? = some ⟨b,0,c⟩
     rw [ho.len.2,←ho.len.1]
     simp)
    have hq:oJ bl (64+o.count)=some ⟨b,0,c⟩:=by
     unfold oJ
     rw [if_neg (by omega),show 64+o.count-64=o.count by omega,hb]
    have:=RV.slice (π:=oJ bl) (b:=64+o.count) (o:=0) (n:=n) (q:=⟨b,0,c⟩) (by show 64≤_;omega) hq g4
    exact this
  ·cases h
theorem dZ.PV {n m:Nat}(h:n≤m){c:dZ}(hc:c.ok n=true):c.ok m=true:=by
 cases c with
 |flat v=>exact hc
 |sl k l=>
  have hc:ltN k n=true:=hc
  show ltN k m=true
  rw [oN] at *
  simp at *
  omega
theorem Gv:∀ {l:List Value} {o:Seen} {k:List dZ→Seen→Option R} {r:R},UZ P s l o k=some r→Kq P s o→
  ∃ cs o',k cs o'=some r∧Kq P s o'∧o.le o'∧o.count≤o'.count∧tJ o'.count cs=true∧∀ bl:List Loc,(∀ (k:Nat) (b:Loc),o'.blks[k]? = some b→bl[k]? = some b)→RVs (oJ bl) (zO (fun c=>c.val 64) cs) l
 |[],o,k,r,h,ho=>⟨[],o,h,ho,o.le_refl,qat _,rfl,fun _ _=>.nil⟩
 |v::l,o,k,r,h,ho=>by
  have h:(Ny P s v o fun c o=>UZ P s l o fun cs o=>k (c::cs) o)=some r:=h
  obtain ⟨c,o1,h1,h2,h3,h4,h5⟩:=JW h ho
  obtain ⟨cs,o2,g1,g2,g3,g4,g5,g6⟩:=Gv h1 h2
  have hcnt:o.count≤o1.count:=by
   obtain ⟨⟨t,e⟩,_⟩:=h3
   rw [ho.len.2,h2.len.2,e];simp
  refine ⟨c::cs,o2,g1,g2,Seen.le_trans h3 g3,by omega,?_,fun bl hbl=>.cons (h5 bl fun k b hk=>hbl k b (Seen.apT g3 hk)) (g6 bl hbl)⟩
  show sel (c.ok o2.count) (tJ o2.count cs) false=true
  rw [dZ.PV g4 h4]
  exact g5
theorem Fj {n m:Nat}(h:n≤m):∀ {l:List dZ},tJ n l=true→tJ m l=true
 |[],_=>rfl
 |c::l,hl=>by
  obtain ⟨h1,h2⟩:=dG (show sel (c.ok n) (tJ n l) false=true from hl)
  show sel (c.ok m) (tJ m l) false=true
  rw [dZ.PV h h1]
  exact Fj h h2
theorem gq.PV {n m:Nat}(h:n≤m){c:gq}(hc:c.ok n=true):c.ok m=true:=by
 cases c with
 |one c=>exact dZ.PV h (c:=c) hc
 |agg l=>exact Fj h (l:=l) hc
theorem Zd {v:Value}{o:Seen}{k:gq→Seen→Option R}{r:R}(h:SI P s v o k=some r)(ho:Kq P s o) :
  ∃ c o',k c o'=some r∧Kq P s o'∧o.le o'∧o.count≤o'.count∧c.ok o'.count=true∧∀ bl:List Loc,(∀ (k:Nat) (b:Loc),o'.blks[k]? = some b→bl[k]? = some b)→RV (oJ bl) (c.val 64) v:=by
 unfold SI at h
 split at h
 ·rename_i l
  obtain ⟨cs,o',h1,h2,h3,h4,h5,h6⟩:=Gv h ho
  exact ⟨.agg cs,o',h1,h2,h3,h4,h5,fun bl hbl=>.agg (h6 bl hbl)⟩
 ·obtain ⟨c,o',h1,h2,h3,h4,h5⟩:=JW h ho
  refine ⟨.one c,o',h1,h2,h3,?_,h4,h5⟩
  obtain ⟨⟨t,e⟩,_⟩:=h3
  rw [ho.len.2,h2.len.2,e];simp
theorem EY:∀ {l:List Value} {o:Seen} {k:List gq→Seen→Option R} {r:R},TI P s l o k=some r→Kq P s o→
  ∃ cs o',k cs o'=some r∧Kq P s o'∧o.le o'∧o.count≤o'.count∧wE o'.count cs=true∧∀ bl:List Loc,(∀ (k:Nat) (b:Loc),o'.blks[k]? = some b→bl[k]? = some b)→RVs (oJ bl) (zO (fun c=>c.val 64) cs) l
 |[],o,k,r,h,ho=>⟨[],o,h,ho,o.le_refl,qat _,rfl,fun _ _=>.nil⟩
 |v::l,o,k,r,h,ho=>by
  have h:(SI P s v o fun c o=>TI P s l o fun cs o=>k (c::cs) o)=some r:=h
  obtain ⟨c,o1,h1,h2,h3,h4,h4',h5⟩:=Zd h ho
  obtain ⟨cs,o2,g1,g2,g3,g4,g5,g6⟩:=EY h1 h2
  refine ⟨c::cs,o2,g1,g2,Seen.le_trans h3 g3,by omega,?_,fun bl hbl=>.cons (h5 bl fun k b hk=>hbl k b (Seen.apT g3 hk)) (g6 bl hbl)⟩
  show sel (c.ok o2.count) (wE o2.count cs) false=true
  rw [gq.PV g4 h4']
  exact g5
end
theorem Fv {v:Value}(h:acM v=true):tuple (OG v)=v:=by
 unfold OG
 split
 ·rename_i l
  match l,h with
  |[],_=>rfl
  |[a],h=>cases h
  |a::b::l,_=>rfl
 ·rfl
theorem RVs.tuple' {π:Ren}:∀ {l l':List Value},RVs π l l'→RV π (tuple l) (tuple l')
 |_,_,.nil=>.tuple .nil
 |_,_,.cons h .nil=>h
 |_,_,.cons h (.cons g t)=>.tuple (.cons h (.cons g t))
theorem YM {P:Program}{v:Value}{s1:St}{r:cO}(h:bP P (v,s1)=some r)(hfl:∀ p∈r.rows,flatAll p.1=true) :
  r.ok=true∧∃ π,RV π (r.value 64) v∧Emb P π (fJ dJ r.rows) s1:=by
 unfold bP at h
 obtain ⟨h1,h⟩:=au.1 h
 obtain ⟨cs,o,h2,ho,hle,_,hok,hv⟩:=EY h ⟨⟨rfl,rfl⟩,(fun k b hk=>by simp at hk),fun k l q u f g cs ds e d hk=>by simp at hk⟩
 cases h2
 have hv:=hv o.blks fun _ _ h=>h
 have hlen:=ho.len
 obtain ⟨n1,n2,n3⟩:=o8 o.rows dJ
 have e64:dJ.next=64:=rfl
 have e2:ak=64:=rfl
 rw [e64] at n1 n2 n3
 have aBm:∀ i q,oJ o.blks i=some q→64≤i∧o.blks[i-64]? = some q:=by
  intro i q hq
  unfold oJ at hq
  split at hq
  ·cases hq
  ·exact ⟨by omega,hq⟩
 have hnone:∀ i,dJ.heap.get i=none:=fun i=>Hp.zL ..
 have hrow:∀ i rw',(fJ dJ o.rows).heap.get i=some rw'→64≤i∧i<64+o.rows.length∧∃ p,o.rows[i-64]? = some p∧rw' = .row p.1 p.2 i:=by
  intro i rw' hi
  rw [n2 i] at hi
  split at hi
  ·rename_i hh
   obtain ⟨p,hp,rfl⟩:=Option.map_eq_some_iff.1 hi
   exact ⟨hh.1,hh.2,p,hp,rfl⟩
  ·rw [hnone] at hi;cases hi
 refine ⟨?_,oJ o.blks,?_,⟨?_,?_,?_,?_,?_,?_,?_,?_⟩⟩
 ·show wE (aQ o.rows) cs=true
  rw [aW,←hlen.2]
  exact hok
 ·show RV _ (tuple (zO (fun c=>c.val 64) cs)) v
  have:=RVs.tuple' hv
  rw [Fv h1] at this
  exact this
 ·rw [n1];omega
 ·intro i q hq _
  obtain ⟨h3,hb⟩:=aBm i q hq
  have:=(List.getElem?_eq_some_iff.1 hb).1
  rw [n1];omega
 ·intro i r hg
  obtain ⟨h3,h4,_⟩:=hrow i r hg
  rw [n1];omega
 ·intro i c e f hg
  obtain ⟨h3,h4,p,_,h5⟩:=hrow i _ hg
  injection h5 with _ _ q
  rw [n1];omega
 ·intro i c e f hc
  obtain ⟨h3,h4,p,hp,h5⟩:=hrow i _ (aO.1 hc).1
  injection h5 with q1 q2 q3
  subst q1 q2
  have hlt:i-64<o.blks.length:=by omega
  obtain ⟨q,hb⟩:∃ q,o.blks[i-64]? = some q:=⟨_,List.getElem?_eq_getElem hlt⟩
  obtain ⟨hb64,hoff,p',f',sz,hp',hcb,_,hsz,hs0,hcap⟩:=ho.at_ _ q hb
  rw [hp] at hp'
  cases hp'
  obtain ⟨qb,qo,qc⟩:=q
  have hoff:qo=0:=hoff
  subst hoff
  have hfp:=hfl p (qar hp)
  have hpi:oJ o.blks i=some ⟨qb,0,qc⟩:=by
   unfold oJ
   rw [if_neg (by omega),hb]
  have hv0:RVs (oJ o.blks) p.1 ((p.1.drop 0).take p.1.length):=by
   simp only [List.drop_zero,List.take_length]
   exact RVs.flat hfp
  unfold VO at hcap
  rw [aG] at hcap
  split at hcap
  ·rename_i hf0
   have hf0:f'=0:=qaa hf0
   subst hf0
   simp only [qad] at hcap
   have k1:=bD hcap.1
   have k2:qc*sz=p.1.length:=qaa hcap.2
   exact pG.known (j:=qb) (o:=0) (c:=qc) (n:=sz) (by omega) hpi hb64 hcb (by omega) hsz hs0 k1 (by omega) (by omega) hv0
  ·rename_i hf0
   have hf0:f'≠0:=fun e=>hf0 (by rw [e];rfl)
   have k2:qc=aC:=qaa hcap
   subst k2
   refine pG.fam (j:=qb) (k:=0) (n:=sz) (by omega) ?_ hb64 hcb (by omega) hf0 hsz hs0 (Nat.zero_le _) (by simp) ?_
   ·rw [hpi];simp
   ·simpa using hv0
 ·intro i es c hg
  obtain ⟨_,_,p,_,h5⟩:=hrow i _ hg
  cases h5
 ·intro i q hg
  obtain ⟨_,_,p,_,h5⟩:=hrow i _ hg
  cases h5
 ·intro i j a b x y hi hj hab hh hx hy e
  obtain ⟨r,hr⟩:=tag_some hi
  obtain ⟨r',hr'⟩:=tag_some hj
  obtain ⟨i1,i2,p,hp,_⟩:=hrow i _ hr
  obtain ⟨j1,j2,p',hp',_⟩:=hrow j _ hr'
  have hblk:∀ k z,64≤k→k<64+o.rows.length→XW (oJ o.blks) k=some z→∃ q,o.blks[k-64]? = some q∧q.blk=z:=by
   intro k z h1 h2 hk
   unfold XW at hk
   rw [if_neg (by omega)] at hk
   obtain ⟨q,hq,rfl⟩:=Option.map_eq_some_iff.1 hk
   exact ⟨q,(aBm k q hq).2,rfl⟩
  obtain ⟨qx,hbx,rfl⟩:=hblk i x i1 i2 hx
  obtain ⟨qy,hby,rfl⟩:=hblk j y j1 j2 hy
  obtain ⟨_,_,p1,f1,_,_,c1,_⟩:=ho.at_ _ qx hbx
  obtain ⟨_,_,p2,f2,_,_,c2,_⟩:=ho.at_ _ qy hby
  rw [dH c1,dH c2] at e
  have e:agD f1 qx.blk=agD f2 qy.blk:=by
   have ht:∀ f b:Nat,agD f b=if f=0 then 2*b else 2*f+1:=by
    intro f b
    unfold agD
    rw [aG]
    by_cases hf:f=0
    ·subst hf;rfl
    ·rw [if_neg (fun e=>hf (qaa e)),if_neg hf];rfl
   rw [ht,ht]
   by_cases h1:f1=0 <;> by_cases h2:f2=0 <;> simp [h1,h2] at e ⊢ <;> omega
  have:=ho.inj _ _ _ _ _ _ _ _ _ _ hbx hby c1 c2 e
  have hij:j=i:=by omega
  rw [hij,hi] at hj
  exact hab (Option.some.inj hj)
def vF (P:Program)(C:Cfg)(n:Nat)(f:FuncId)(G:List fK→Tree cO):Prop:=
 ∀ (comps:List fK) (r:cO),(∀ c∈comps,c.fine P)→(G comps).run=some r→(∀ p∈r.rows,flatAll p.1=true)∧aj ((runN C n).1 f (bG comps) (aH comps)) (bP P)=some r
theorem vF.gives {P:Program}{C:Cfg}{n:Nat}{f:FuncId}{G:List fK→Tree cO}(h:vF P C n f G):Ut P C n f G:=by
 intro comps r hf hr
 obtain ⟨h1,h2⟩:=h comps r hf hr
 obtain ⟨⟨v,s1⟩,h3,h4⟩:=ah.1 h2
 obtain ⟨h5,π,h6,h7⟩:=YM h4 h1
 exact ⟨h5,h1,v,s1,π,h3,h6,h7⟩
def TA (P:Program)(f:FuncId)(G:List fK→Tree cO):Prop:=
 ∀ (comps:List fK) (r:cO),(∀ c∈comps,c.fine P)→(G comps).run=some r→∃ (C:Cfg) (n:Nat),(∀ lo:Lo,@eX lo C P)∧(∀ p∈r.rows,flatAll p.1=true)∧aj ((runN C n).1 f (bG comps) (aH comps)) (bP P)=some r
theorem TA.gives {P:Program}{f:FuncId}{G:List fK→Tree cO}(h:TA P f G):P9 P f G:=by
 intro comps r hf hr
 obtain ⟨C,n,hK,h1,h2⟩:=h comps r hf hr
 obtain ⟨⟨v,s1⟩,h3,h4⟩:=ah.1 h2
 obtain ⟨h5,π,h6,h7⟩:=YM h4 h1
 exact ⟨C,n,hK,h5,h1,v,s1,π,h3,h6,h7⟩
theorem bV {K:KP}(hL:K.L≤100000){P:Program}{C:Cfg}(hA:Qj K C)(hLo:zT K C){n:Nat}{f:FuncId}{args:List Value}{s:St}{r:cO}(h:(runK K C n).1 f args s (bP P)=some r) :
  aj ((runN C n).1 f args s) (bP P)=some r:=(lK hL C hA hLo n).1 f args s (bP P) r h
end
end Go.Ax
namespace Go.Ax
open Go
noncomputable section
structure bg where
 vals:List Value
 rows:List (Nat × Row)
inductive Src where
 |var (k c:Nat)
 |row (j c:Nat)
 |old (i c:Nat)
structure Fnd where
 src:Src
 fam:Bool
 spine:Bool
structure bM where
 N:Nat
 need:List Nat
 low:List Nat
 keep:List (Nat × Bool × Bool)
 new:List Fnd
section
variable {R:Type}
def uQ {α:Type}(x:Option α)(k:α→Tree R):Tree R:=Option.rec .fail k x
def getAll (n:Nat)(fr:Fr):List Nat→Option (List Value):=fun l=>List.rec (some []) (fun t _ ih=>aj (fr.get n t) fun v=>aj ih fun vs=>some (v::vs)) l
def cellOf (v:Value)(c:Nat):Option Value:=
 match v with
 |.agg ⟨l⟩=>nth l c
 |v=>some v
def avT (fam:Bool)(v:Value):Option Loc:=
 match v with
 |.slice (some a) _ c=>guard a.spot.isNone (sel fam (some ⟨a.block,a.off,c⟩) (some ⟨a.block,0,aC⟩))
 |.pointer (some a)=>guard a.spot.isNone (some ⟨a.block,0,aC⟩)
 |_=>none
def apM (s:St)(vs:List Value)(bn:List Loc)(x:Src):Option Value:=
 match x with
 |.var k c=>aj (nth vs k) fun v=>cellOf v c
 |.row j c=>aj (nth bn j) fun q=>aj (s.cells q.blk) fun r=>nth r.1 c
 |.old i c=>aj (s.cells i) fun r=>nth r.1 c
def CO (N:Nat)(s:St)(vs:List Value):List Fnd→List Loc→Option (List Loc):=fun l=>
 List.rec (fun acc=>some acc) (fun f _ ih acc=>aj (apM s vs acc f.src) fun v=>aj (avT f.fam v) fun q=>guard (qae N q.blk) (ih (aK acc [q]))) l
def jI (N:Nat)(bn:List Loc):Ren:=fun i=>sel (ltN i ak) none (sel (ltN i N) (some ⟨i,0,aC⟩) (nth bn (qam i N)))
def atg (b:Nat):List Loc→Nat→Option (Nat × Loc):=fun l=>List.rec (fun _=>none) (fun q _ ih k=>sel (qab q.blk b) (some (k,q)) (ih (qak k))) l
def ad8 (f:Fn):Bool:=
 match f with
 |.yield _=>true
 |_=>false
def adQ (a:Array Value):Bool:=jB a.toList true fun _ _=>false
def aX (N:Nat)(v:Value):Bool:=
 match v with
 |.slice none _ _=>true
 |.slice (some a) _ c=>a.spot.isNone&&(ltN a.block ak||(ltN a.block N&&(qab c aC||ltN c bf)))
 |.pointer none=>true
 |.pointer (some a)=>a.spot.isNone&&ltN a.block N
 |.map none=>true
 |.nilFunc=>true
 |.nilIface=>true
 |.float .f64 _=>true
 |.func f a b=>!ad8 f&&(adQ a&&adQ b)
 |v=>lZ v
def apO (v:Value):Bool:=
 match v with
 |.agg ⟨l⟩=>List.rec true (fun v _ ih=>sel (aX ak v) ih false) l
 |v=>aX ak v
def tC (v:Value):Bool:=
 match v with
 |.iface _ v=>apO v
 |v=>aX ak v
def ady:List Value→Bool:=fun l=>List.rec true (fun v _ ih=>sel (tC v) ih false) l
def mg (N:Nat):List Value→Bool:=fun l=>List.rec true (fun v _ ih=>sel (aX N v) ih false) l
def V7 (bn:List Loc)(N:Nat)(v:Value)(k:Value→Tree R):Tree R:=
 match v with
 |.slice (some a) n c=>sel a.spot.isNone (uQ (atg a.block bn N) fun p=>
   sel (qab p.2.cap c) (bU (qab p.2.off a.off) (k (.slice (some ⟨p.1,0,none⟩) n aC)))
    (bU (qab p.2.off 0&&(qab p.2.cap aC&&ltN c bf)) (k (.slice (some ⟨p.1,a.off,none⟩) n c)))) .fail
 |.pointer (some a)=>sel a.spot.isNone (uQ (atg a.block bn N) fun p=>bU (qab p.2.off 0&&qab p.2.cap aC) (k (.pointer (some ⟨p.1,a.off,none⟩)))) .fail
 |_=>.fail
def BM (N:Nat)(bn:List Loc)(v:Value)(k:Value→Tree R):Tree R:=.test (aX N v) (k v) (V7 bn N v k)
def acC (N:Nat)(bn:List Loc)(l:List Value):(List Value→Tree R)→Tree R:=List.rec (fun k=>k []) (fun v _ ih k=>BM N bn v fun v=>ih fun vs=>k (v::vs)) l
def acE (N:Nat)(bn:List Loc)(v:Value)(k:Value→Tree R):Tree R:=
 match v with
 |.agg ⟨l⟩=>acC N bn l fun l=>k (.agg ⟨l⟩)
 |.iface t v=>BM N bn v fun v=>k (.iface t v)
 |v=>BM N bn v k
def abr (N:Nat)(bn:List Loc)(l:List Value):(List Value→Tree R)→Tree R:=List.rec (fun k=>k []) (fun v _ ih k=>acE N bn v fun v=>ih fun vs=>k (v::vs)) l
def CU (N:Nat)(bn:List Loc)(spine:Bool)(l:List Value)(k:List Value→Tree R):Tree R:=sel spine (acC N bn l k) (bU (mg N l) (k l))
def aiH (N:Nat)(s:St)(i:Nat)(k:Row→Tree R):Tree R:=uQ (s.cells i) fun c=>bU (ady c.1) (sel (ltN i ak&&ltN c.2.2 N) (k (.row c.1 c.2.1 c.2.2)) .fail)
def aaL (N:Nat)(s:St)(l:List Nat):(List (Nat × Row)→Tree R)→Tree R:=List.rec (fun k=>k []) (fun i _ ih k=>aiH N s i fun r=>ih fun rs=>k ((i,r)::rs)) l
def Hz (sz:Nat)(q:Loc)(f len:Nat):Bool:=
 !qab f 0&&(qae 1 sz&&(qab q.off (qaj (qam aC q.cap) sz)&&(qae (qam aC q.cap) bf&&(qae q.cap aC&&sel (qab q.off 0) true (qae q.off len)))))
def X4 (P:Program)(N:Nat)(s:St)(bn:List Loc)(i:Nat)(q:Loc)(fam spine:Bool)(k:Row→Tree R):Tree R:=
 uQ (s.cells q.blk) fun c=>sel fam
  (uQ (size P c.2.1) fun sz=>bU (Hz sz q c.2.2 (aQ c.1)) (CU N bn spine (eH q.off c.1) fun cs=>k (.row cs c.2.1 i)))
  (sel (qab c.2.2 0&&(qab q.off 0&&qab q.cap aC)) (CU N bn spine c.1 fun cs=>k (.row cs c.2.1 0)) .fail)
def UQ (P:Program)(N:Nat)(s:St)(bn:List Loc)(l:List (Nat × Bool × Bool)):(List (Nat × Row)→Tree R)→Tree R:=
 List.rec (fun k=>k []) (fun p _ ih k=>sel (qae ak p.1&&ltN p.1 N) (X4 P N s bn p.1 ⟨p.1,0,aC⟩ p.2.1 p.2.2 fun r=>ih fun rs=>k ((p.1,r)::rs)) .fail) l
def aa7 (P:Program)(N:Nat)(s:St)(bn:List Loc)(l:List Fnd):Nat→(List (Nat × Row)→Tree R)→Tree R:=
 List.rec (fun _ k=>k []) (fun f _ ih j k=>uQ (nth bn j) fun q=>X4 P N s bn (qag N j) q f.fam f.spine fun r=>ih (qak j) fun rs=>k ((qag N j,r)::rs)) l
end
def atl:List (Nat × Row)→Hp Row:=fun l=>List.rec (.s 15 0) (fun p _ ih=>ih.set p.1 p.2) l
def kZ (r:Row):Nat:=
 match r with
 |.row _ _ f=>f
 |_=>0
def awN:List (Nat × Row)→Hp (List Nat):=fun l=>List.rec (.s 15 0) (fun p _ ih=>sel (qab (kZ p.2) 0) ih (ih.set (kZ p.2) [p.1])) l
def azL:List Nat→List Value→List (Nat × Value):=fun l=>List.rec (fun _=>[]) (fun t _ ih vs=>jB vs [] fun v vs=>(t,v)::ih vs) l
def CX (need:List Nat)(o:bg):Fr:=aAS (azL need o.vals)
def lQ (next:Nat)(o:bg):St:={ heap:=atl o.rows,bZ:=awN o.rows,next:=next }
def bM.next (sp:bM):Nat:=qag sp.N (aQ sp.new)
def vk (l:List (Nat × Row)):List Nat:=zO (fun p=>p.1) l
def aa0 (P:Program)(n:Nat)(sp:bM)(fr:Fr)(s:St):Tree bg:=
 jB fr.defers (sel (qae ak sp.N) (uQ (getAll n fr sp.need) fun vs=>uQ (CO sp.N s vs sp.new []) fun bn=>
  aaL sp.N s sp.low fun lr=>UQ P sp.N s bn sp.keep fun kr=>aa7 P sp.N s bn sp.new 0 fun nr=>abr sp.N bn vs fun vals=>
   (fun rows=>sel (qab (aQ bn) (aQ sp.new)&&G7 (jI sp.N bn) (lQ sp.next ⟨vals,rows⟩) s (vk rows) (vk rows)) (.leaf ⟨vals,rows⟩) .fail) (aK lr (aK kr nr))) .fail) fun _ _=>.fail
end
theorem fO {α R:Type}{x:Option α}{k:α→Tree R}{r:R}(h:(uQ x k).run=some r):∃ a,x=some a∧(k a).run=some r:=by
 cases x with
 |none=>cases h
 |some a=>exact ⟨a,rfl,h⟩
theorem dV {R:Type}{b:Bool}{t:Tree R}{r:R}(h:(sel b t .fail).run=some r):b=true∧t.run=some r:=by
 cases b with
 |true=>exact ⟨rfl,h⟩
 |false=>cases h
section
variable {R:Type} {P:Program} {N:Nat} {bn:List Loc} {s:St}
theorem qM:Keeps N (jI N bn):=by
 intro i h1 h2
 unfold jI
 rw [aG,aG,oN,oN]
 simp [show ¬i<ak by omega,h2]
theorem uS (hN:ak≤N){j:Nat}{q:Loc}(h:nth bn j=some q):jI N bn (N+j)=some q:=by
 unfold jI
 rw [aG,aG,oN,oN]
 have e:qam (N+j) N=j:=by show N+j-N=j;omega
 simp [show ¬N+j<ak by omega,show ¬N+j<N by omega,h]
theorem Rn {i:Nat}{q:Loc}(h:jI N bn i=some q):ak≤i∧(i<N∨i-N<bn.length):=by
 unfold jI at h
 rw [aG,aG,oN,oN] at h
 simp only [decide_eq_true_eq] at h
 split at h
 ·cases h
 ·split at h
  ·exact ⟨by omega,.inl (by assumption)⟩
  ·rw [jk] at h
   have h:bn[i-N]? = some q:=h
   exact ⟨by omega,.inr (List.getElem?_eq_some_iff.1 h).1⟩
theorem Ah {b:Nat}:∀ {l:List Loc} {k j:Nat} {q:Loc},atg b l k=some (j,q)→k≤j∧nth l (j-k)=some q∧q.blk=b
 |[],k,j,q,h=>by cases h
 |p::l,k,j,q,h=>by
  have h:sel (qab p.blk b) (some (k,p)) (atg b l (k+1))=some (j,q):=h
  rw [aG] at h
  split at h
  ·rename_i e
   cases h
   exact ⟨qat _,by rw [Nat.sub_self];rfl,qaa e⟩
  ·obtain ⟨h1,h2,h3⟩:=Ah h
   refine ⟨by omega,?_,h3⟩
   rw [show j-k=(j-(k+1))+1 by omega]
   exact h2
theorem Xl {π:Ren}{f:Fn}{a b:Array Value}(h1:ad8 f=false)(h2:adQ a=true)(h3:adQ b=true):RV π (.func f a b) (.func f a b):=by
 obtain ⟨a⟩:=a
 obtain ⟨b⟩:=b
 have ha:a=[]:=by
  cases a with
  |nil=>rfl
  |cons x l=>cases h2
 have hb:b=[]:=by
  cases b with
  |nil=>rfl
  |cons x l=>cases h3
 subst ha hb
 refine .func ?_ .nil .nil
 intro l e
 rw [e] at h1
 cases h1
theorem abg (hN:ak≤N){v:Value}(h:aX N v=true):RV (jI N bn) v v:=by
 unfold aX at h
 split at h
 ·exact .dW _ _
 ·rename_i a n c
  obtain ⟨b,o,sp⟩:=a
  simp only [qad,qay] at h
  obtain ⟨h1,h2⟩:=h
  cases sp with
  |some x=>cases h1
  |none=>
   by_cases hb:b<ak
   ·exact .Lc hb
   ·rcases h2 with h2|⟨h2,h3⟩
    ·exact absurd (bD h2) hb
    ·have hk:=qM (N:=N) (bn:=bn) b (by omega) (bD h2)
     rcases h3 with h3|h3
     ·have h3:c=aC:=qaa h3
      subst h3
      have:=RV.slice (π:=jI N bn) (b:=b) (o:=o) (n:=n) (by omega) hk (by show ak≤b;omega)
      simpa using this
     ·exact .FZ (by omega) hk (by omega) (bD h3)
 ·exact .nY
 ·rename_i a
  obtain ⟨b,o,sp⟩:=a
  simp only [qad] at h
  obtain ⟨h1,h2⟩:=h
  cases sp with
  |some x=>cases h1
  |none=>
   by_cases hb:b<ak
   ·exact .acK hb
   ·exact .ptr (by omega) (qM b (by omega) (bD h2)) (by omega)
 ·exact .uH
 ·exact .nilFunc
 ·exact .nilIface
 ·exact .opq _
 ·rename_i f a b
  simp only [qad,qao] at h
  obtain ⟨h1,h2,h3⟩:=h
  exact Xl h1 h2 h3
 ·cases v <;> first|exact .bool _|exact .int _ _|exact .string _|(exact Bool.noConfusion (show false=true from h))
theorem QX (hN:ak≤N):∀ {l:List Value},mg N l=true→RVs (jI N bn) l l
 |[],_=>.nil
 |v::l,h=>by
  obtain ⟨h1,h2⟩:=dG (show sel (aX N v) (mg N l) false=true from h)
  exact .cons (abg hN h1) (QX hN h2)
theorem Ld {v:Value}(h:aX ak v=true){π:Ren}:RV π v v:=by
 unfold aX at h
 split at h
 ·exact .dW _ _
 ·rename_i a n c
  obtain ⟨b,o,sp⟩:=a
  simp only [qad,qay] at h
  obtain ⟨h1,h2⟩:=h
  cases sp with
  |some x=>cases h1
  |none=>
   have hb:b<ak:=by
    rcases h2 with h2|⟨h2,_⟩ <;> exact bD h2
   exact .Lc hb
 ·exact .nY
 ·rename_i a
  obtain ⟨b,o,sp⟩:=a
  simp only [qad] at h
  obtain ⟨h1,h2⟩:=h
  cases sp with
  |some x=>cases h1
  |none=>exact .acK (bD h2)
 ·exact .uH
 ·exact .nilFunc
 ·exact .nilIface
 ·exact .opq _
 ·rename_i f a b
  simp only [qad,qao] at h
  obtain ⟨h1,h2,h3⟩:=h
  exact Xl h1 h2 h3
 ·cases v <;> first|exact .bool _|exact .int _ _|exact .string _|(exact Bool.noConfusion (show false=true from h))
theorem yU {π:Ren}:∀ {l:List Value},mg ak l=true→RVs π l l
 |[],_=>.nil
 |v::l,h=>by
  obtain ⟨h1,h2⟩:=dG (show sel (aX ak v) (mg ak l) false=true from h)
  exact .cons (Ld h1) (yU h2)
theorem awx {v:Value}(h:tC v=true){π:Ren}:RV π v v:=by
 unfold tC at h
 split at h
 ·rename_i t w
  refine .iface t ?_
  unfold apO at h
  split at h
  ·exact .agg (yU h)
  ·exact Ld h
 ·exact Ld h
theorem PS {π:Ren}:∀ {l:List Value},ady l=true→RVs π l l
 |[],_=>.nil
 |v::l,h=>by
  obtain ⟨h1,h2⟩:=dG (show sel (tC v) (ady l) false=true from h)
  exact .cons (awx h1) (PS h2)
theorem Yx (hN:ak≤N)(hbl:∀ j q,nth bn j=some q→N≤q.blk){v:Value}{k:Value→Tree R}{r:R}(h:(V7 bn N v k).run=some r):∃ v0,(k v0).run=some r∧RV (jI N bn) v0 v:=by
 unfold V7 at h
 split at h
 ·rename_i a n c
  obtain ⟨b,o,sp⟩:=a
  obtain ⟨hs,h⟩:=dV h
  obtain ⟨⟨j,q⟩,hp,h⟩:=fO h
  have hs:sp=none:=by
   cases sp with
   |none=>rfl
   |some x=>cases hs
  subst hs
  obtain ⟨h1,h2,h3⟩:=Ah hp
  have h3:q.blk=b:=h3
  have hq:=uS hN h2
  rw [show N+(j-N)=j by omega] at hq
  have hqb:=hbl _ _ h2
  obtain ⟨qb,qo,qc⟩:=q
  have h3:qb=b:=h3
  subst h3
  have hqb:N≤qb:=hqb
  have h:(sel (qab qc c) (bU (qab qo o) (k (.slice (some ⟨j,0,none⟩) n aC))) (bU (qab qo 0&&(qab qc aC&&ltN c bf)) (k (.slice (some ⟨j,o,none⟩) n c)))).run=some r:=h
  rw [aG] at h
  split at h
  ·rename_i hc
   have hc:qc=c:=qaa hc
   obtain ⟨ho,h9⟩:=aJ h
   have ho:qo=o:=qaa ho
   clear h
   subst hc ho
   refine ⟨_,h9,?_⟩
   have:=RV.slice (π:=jI N bn) (b:=j) (o:=0) (n:=n) (by omega) hq (by show ak≤qb;omega)
   simpa using this
  ·obtain ⟨hg,h9⟩:=aJ h
   clear h
   simp only [qad] at hg
   obtain ⟨g1,g2,g3⟩:=hg
   have g1:qo=0:=qaa g1
   have g2:qc=aC:=qaa g2
   subst g1 g2
   exact ⟨_,h9,.FZ (by omega) hq (by omega) (bD g3)⟩
 ·rename_i a
  obtain ⟨b,o,sp⟩:=a
  obtain ⟨hs,h⟩:=dV h
  obtain ⟨⟨j,q⟩,hp,h⟩:=fO h
  have hs:sp=none:=by
   cases sp with
   |none=>rfl
   |some x=>cases hs
  subst hs
  obtain ⟨h1,h2,h3⟩:=Ah hp
  have hq:=uS hN h2
  rw [show N+(j-N)=j by omega] at hq
  have hqb:=hbl _ _ h2
  obtain ⟨qb,qo,qc⟩:=q
  have h3:qb=b:=h3
  subst h3
  have hqb:N≤qb:=hqb
  obtain ⟨hg,h9⟩:=aJ (show (bU (qab qo 0&&qab qc aC) (k (.pointer (some ⟨j,o,none⟩)))).run=some r from h)
  clear h
  simp only [qad] at hg
  have g1:qo=0:=qaa hg.1
  have g2:qc=aC:=qaa hg.2
  subst g1 g2
  exact ⟨_,h9,.ptr (by omega) hq (by omega)⟩
 ·cases h
theorem y7 (hN:ak≤N)(hbl:∀ j q,nth bn j=some q→N≤q.blk){v:Value}{k:Value→Tree R}{r:R}(h:(BM N bn v k).run=some r):∃ v0,(k v0).run=some r∧RV (jI N bn) v0 v:=by
 unfold BM at h
 have h:(sel (aX N v) (k v).run (V7 bn N v k).run)=some r:=h
 rw [aG] at h
 split at h
 ·rename_i hh
  exact ⟨v,h,abg hN hh⟩
 ·exact Yx hN hbl h
theorem EJ (hN:ak≤N)(hbl:∀ j q,nth bn j=some q→N≤q.blk):∀ {l:List Value} {k:List Value→Tree R} {r:R},(acC N bn l k).run=some r→∃ l0,(k l0).run=some r∧RVs (jI N bn) l0 l
 |[],k,r,h=>⟨[],h,.nil⟩
 |v::l,k,r,h=>by
  have h:(BM N bn v fun v=>acC N bn l fun vs=>k (v::vs)).run=some r:=h
  obtain ⟨v0,h1,h2⟩:=y7 hN hbl h
  obtain ⟨l0,h3,h4⟩:=EJ hN hbl h1
  exact ⟨v0::l0,h3,.cons h2 h4⟩
theorem abX (hN:ak≤N)(hbl:∀ j q,nth bn j=some q→N≤q.blk){v:Value}{k:Value→Tree R}{r:R}(h:(acE N bn v k).run=some r):∃ v0,(k v0).run=some r∧RV (jI N bn) v0 v:=by
 unfold acE at h
 split at h
 ·obtain ⟨l0,h1,h2⟩:=EJ hN hbl h
  exact ⟨_,h1,.agg h2⟩
 ·obtain ⟨v0,h1,h2⟩:=y7 hN hbl h
  exact ⟨_,h1,.iface _ h2⟩
 ·exact y7 hN hbl h
theorem I8 (hN:ak≤N)(hbl:∀ j q,nth bn j=some q→N≤q.blk):∀ {l:List Value} {k:List Value→Tree R} {r:R},(abr N bn l k).run=some r→∃ l0,(k l0).run=some r∧RVs (jI N bn) l0 l
 |[],k,r,h=>⟨[],h,.nil⟩
 |v::l,k,r,h=>by
  have h:(acE N bn v fun v=>abr N bn l fun vs=>k (v::vs)).run=some r:=h
  obtain ⟨v0,h1,h2⟩:=abX hN hbl h
  obtain ⟨l0,h3,h4⟩:=I8 hN hbl h1
  exact ⟨v0::l0,h3,.cons h2 h4⟩
theorem Gj (hN:ak≤N)(hbl:∀ j q,nth bn j=some q→N≤q.blk){spine:Bool}{l:List Value}{k:List Value→Tree R}{r:R}(h:(CU N bn spine l k).run=some r):∃ l0,(k l0).run=some r∧RVs (jI N bn) l0 l:=by
 unfold CU at h
 cases spine with
 |true=>exact EJ hN hbl h
 |false=>
  obtain ⟨hg,h⟩:=aJ (show (bU (mg N l) (k l)).run=some r from h)
  exact ⟨l,h,QX hN hg⟩
def FD (P:Program)(π:Ren)(next:Nat)(s:St)(p:Nat × Row):Prop:=
 p.1<next∧∃ cs e f,p.2 = .row cs e f∧f<next∧pG P π s p.1 cs e f
theorem aa3 {π:Ren}{next:Nat}(hn:N≤next)(hN:ak≤N){i:Nat}{k:Row→Tree R}{r:R}(h:(aiH N s i k).run=some r):∃ row,(k row).run=some r∧FD P π next s (i,row):=by
 obtain ⟨⟨cs,e,f⟩,hc,h⟩:=fO h
 obtain ⟨hg,h⟩:=aJ h
 obtain ⟨hg2,h⟩:=dV h
 simp only [qad] at hg2
 have g1:=bD hg2.1
 have g2:f<N:=bD hg2.2
 exact ⟨_,h,by show i<next;omega,cs,e,f,rfl,by omega,.low g1 hc (PS hg)⟩
theorem I5 {π:Ren}{next:Nat}(hn:N≤next)(hN:ak≤N):∀ {l:List Nat} {k:List (Nat × Row)→Tree R} {r:R},(aaL N s l k).run=some r→∃ rows,(k rows).run=some r∧∀ p∈rows,FD P π next s p
 |[],k,r,h=>⟨[],h,fun p hp=>by cases hp⟩
 |i::l,k,r,h=>by
  have h:(aiH N s i fun r=>aaL N s l fun rs=>k ((i,r)::rs)).run=some r:=h
  obtain ⟨row,h1,h2⟩:=aa3 (P:=P) (π:=π) hn hN h
  obtain ⟨rows,h3,h4⟩:=I5 hn hN h1
  refine ⟨(i,row)::rows,h3,fun p hp=>?_⟩
  rcases List.mem_cons.1 hp with rfl|hp
  ·exact h2
  ·exact h4 p hp
theorem OJ {next:Nat}(hN:ak≤N)(hbl:∀ j q,nth bn j=some q→N≤q.blk){i:Nat}{q:Loc}(hi:ak≤i)(hlt:i<next)(hq:jI N bn i=some q)(hqb:ak≤q.blk)
  {fam spine:Bool} {k:Row→Tree R} {r:R} (h:(X4 P N s bn i q fam spine k).run=some r):∃ row,(k row).run=some r∧FD P (jI N bn) next s (i,row):=by
 obtain ⟨⟨cs,e,f⟩,hc,h⟩:=fO h
 have aBO:ak=64:=rfl
 cases fam with
 |true=>
  obtain ⟨sz,hsz,h⟩:=fO (show (uQ (size P e) fun sz=>bU (Hz sz q f (aQ cs)) (CU N bn spine (eH q.off cs) fun cs=>k (.row cs e i))).run=some r from h)
  obtain ⟨hg,h⟩:=aJ h
  obtain ⟨l0,h1,h2⟩:=Gj hN hbl h
  unfold Hz at hg
  simp only [qad,qao] at hg
  obtain ⟨g1,g2,g3,g4,g5,g6⟩:=hg
  have g1:f≠0:=fun e=>by rw [e] at g1;cases g1
  have g2:1≤sz:=qac g2
  have g3:q.off=(aC-q.cap)*sz:=qaa g3
  have g4:aC-q.cap≤bf:=qac g4
  have g5:q.cap≤aC:=qac g5
  have g6:q.off≤cs.length:=by
   rw [aG,aW] at g6
   split at g6
   ·rename_i h0
    have:q.off=0:=qaa h0
    omega
   ·exact qac g6
  rw [iy] at h2
  have hlen:l0.length=cs.length-q.off:=by have:=h2.length;simp at this;omega
  refine ⟨_,h1,hlt,l0,e,i,rfl,hlt,?_⟩
  obtain ⟨qb,qo,qc⟩:=q
  simp only at g3 g4 g5 g6 h2 hlen hq hqb hc
  have hcap:aC-(aC-qc)=qc:=by omega
  refine pG.fam (j:=qb) (k:=aC-qc) (n:=sz) hi ?_ hqb hc (by show i≠0;omega) g1 hsz (by omega) g4 (by rw [←g3];omega) ?_
  ·rw [hq,←g3,hcap]
  ·rw [←g3,List.take_of_length_le (by simp;omega)]
   exact h2
 |false=>
  obtain ⟨hg,h⟩:=dV (show (sel (qab f 0&&(qab q.off 0&&qab q.cap aC)) (CU N bn spine cs fun cs=>k (.row cs e 0)) .fail).run=some r from h)
  obtain ⟨l0,h1,h2⟩:=Gj hN hbl h
  simp only [qad] at hg
  have g1:f=0:=qaa hg.1
  have g2:q.off=0:=qaa hg.2.1
  have g3:q.cap=aC:=qaa hg.2.2
  subst g1
  obtain ⟨qb,qo,qc⟩:=q
  simp only at g2 g3 hq hqb hc
  subst g2 g3
  exact ⟨_,h1,hlt,l0,e,0,rfl,by omega,.whole hi hq hqb hc rfl h2⟩
theorem EU {next:Nat}(hN:ak≤N)(hn:N≤next)(hbl:∀ j q,nth bn j=some q→N≤q.blk):∀ {l:List (Nat × Bool × Bool)} {k:List (Nat × Row)→Tree R} {r:R},(UQ P N s bn l k).run=some r→∃ rows,(k rows).run=some r∧∀ p∈rows,FD P (jI N bn) next s p
 |[],k,r,h=>⟨[],h,fun p hp=>by cases hp⟩
 |q::l,k,r,h=>by
  obtain ⟨hg,h⟩:=dV (show (sel (qae ak q.1&&ltN q.1 N) (X4 P N s bn q.1 ⟨q.1,0,aC⟩ q.2.1 q.2.2 fun r=>UQ P N s bn l fun rs=>k ((q.1,r)::rs)) .fail).run=some r from h)
  simp only [qad] at hg
  have g1:ak≤q.1:=qac hg.1
  have g2:=bD hg.2
  obtain ⟨row,h1,h2⟩:=OJ (next:=next) hN hbl g1 (by omega) (qM q.1 g1 g2) g1 h
  obtain ⟨rows,h3,h4⟩:=EU hN hn hbl h1
  refine ⟨(q.1,row)::rows,h3,fun p hp=>?_⟩
  rcases List.mem_cons.1 hp with rfl|hp
  ·exact h2
  ·exact h4 p hp
theorem Jd {next:Nat}(hN:ak≤N)(hbl:∀ j q,nth bn j=some q→N≤q.blk)(hnx:N+bn.length≤next):∀ {l:List Fnd} {j:Nat} {k:List (Nat × Row)→Tree R} {r:R},(aa7 P N s bn l j k).run=some r→∃ rows,(k rows).run=some r∧∀ p∈rows,FD P (jI N bn) next s p
 |[],j,k,r,h=>⟨[],h,fun p hp=>by cases hp⟩
 |f::l,j,k,r,h=>by
  obtain ⟨q,hq,h⟩:=fO (show (uQ (nth bn j) fun q=>X4 P N s bn (N+j) q f.fam f.spine fun r=>aa7 P N s bn l (j+1) fun rs=>k ((N+j,r)::rs)).run=some r from h)
  have hj:j<bn.length:=by rw [jk] at hq;exact (List.getElem?_eq_some_iff.1 hq).1
  have hb:=hbl j q hq
  obtain ⟨row,h1,h2⟩:=OJ (next:=next) hN hbl (i:=N+j) (by omega) (by omega) (uS hN hq) (by omega) h
  obtain ⟨rows,h3,h4⟩:=Jd hN hbl hnx h1
  refine ⟨(N+j,row)::rows,h3,fun p hp=>?_⟩
  rcases List.mem_cons.1 hp with rfl|hp
  ·exact h2
  ·exact h4 p hp
theorem Am:∀ {l:List Fnd} {acc bn:List Loc} {vs:List Value},CO N s vs l acc=some bn→(∀ q∈acc,N≤q.blk)→∀ q∈bn,N≤q.blk
 |[],acc,bn,vs,h,ha=>by cases h;exact ha
 |f::l,acc,bn,vs,h,ha=>by
  have h:(aj (apM s vs acc f.src) fun v=>aj (avT f.fam v) fun q=>guard (qae N q.blk) (CO N s vs l (aK acc [q])))=some bn:=h
  obtain ⟨v,_,h⟩:=ah.1 h
  obtain ⟨q,_,h⟩:=ah.1 h
  obtain ⟨hg,h⟩:=au.1 h
  refine Am h fun p hp=>?_
  rw [iG] at hp
  rcases List.mem_append.1 hp with hp|hp
  ·exact ha p hp
  ·obtain rfl:p=q:=by simpa using hp
   exact qac hg
theorem NU {n:Nat}{fr:Fr}:∀ {l:List Nat} {vs:List Value},getAll n fr l=some vs→∀ {vals:List Value} {π:Ren},RVs π vals vs→∀ p∈azL l vals,∃ v',fr.get n p.1=some v'∧RV π p.2 v'
 |[],vs,h,vals,π,hv,p,hp=>by cases hp
 |t::l,vs,h,vals,π,hv,p,hp=>by
  obtain ⟨v,h1,h⟩:=ah.1 (show (aj (fr.get n t) fun v=>aj (getAll n fr l) fun vs=>some (v::vs))=some vs from h)
  obtain ⟨vs',h2,h⟩:=ah.1 h
  cases h
  cases hv with
  |cons g1 g2=>
   rename_i v0 l0
   have hp:p∈(t,v0)::azL l l0:=hp
   rcases List.mem_cons.1 hp with rfl|hp
   ·exact ⟨v,h1,g1⟩
   ·exact NU h2 g2 p hp
theorem TP:∀ {l:List (Nat × Row)} {i:Nat} {r:Row},(atl l).get i=some r→(i,r)∈l
 |[],i,r,h=>by
  have h:(Hp.s 15 0:Hp Row).get i=some r:=h
  rw [Hp.zL] at h
  cases h
 |p::l,i,r,h=>by
  have h:((atl l).set p.1 p.2).get i=some r:=h
  rw [Hp.jv] at h
  split at h
  ·rename_i e;cases h;subst e;exact qai
  ·exact qah _ (TP h)
theorem Emb.of2 {π:Ren}{S:St}{rows:List (Nat × Row)}(hn:ak≤S.next)(hheap:S.heap=atl rows)(hdom:∀ i q,π i=some q→i<S.next)(hrows:∀ p∈rows,FD P π S.next s p)
  (ht:G7 π S s (vk rows) (vk rows)=true):Emb P π S s:=by
 have hrow:∀ i r,S.heap.get i=some r→FD P π S.next s (i,r):=fun i r hg=>by
  rw [hheap] at hg
  exact hrows _ (TP hg)
 have hmem:∀ i r,S.heap.get i=some r→i∈vk rows:=fun i r hg=>by
  rw [hheap] at hg
  unfold vk
  rw [kP]
  exact List.mem_map.2 ⟨_,TP hg,rfl⟩
 refine ⟨hn,fun i q hq _=>hdom i q hq,fun i r hg=>(hrow i r hg).1,fun i cs e f hg=>?_,fun i cs e f hc=>?_,fun i es c hg=>?_,fun i q hg=>?_,fun i j a b x y hi hj hab hh hx hy=>?_⟩
 ·obtain ⟨_,cs',e',f',h1,h2,_⟩:=hrow i _ hg
  cases h1
  exact h2
 ·obtain ⟨_,cs',e',f',h1,_,h2⟩:=hrow i _ (aO.1 hc).1
  cases h1
  exact h2
 ·obtain ⟨_,cs',e',f',h1,_⟩:=hrow i _ hg
  cases h1
 ·obtain ⟨_,cs',e',f',h1,_⟩:=hrow i _ hg
  cases h1
 ·obtain ⟨r,hr⟩:=tag_some hi
  obtain ⟨r',hr'⟩:=tag_some hj
  have hid:∀ k z,XW π k=some z→idB π k=z:=by
   intro k z hk
   unfold XW at hk
   unfold idB
   rw [aG,oN]
   by_cases hlo:k<ak
   ·rw [if_pos hlo] at hk
    cases hk
    simp [hlo]
   ·rw [if_neg hlo] at hk
    obtain ⟨q,hq,rfl⟩:=Option.map_eq_some_iff.1 hk
    simp [hlo,hq]
  rcases Ed ht (hmem i r hr) (hmem j r' hr') with h|h|h
  ·rw [hi,hj] at h
   exact absurd (Option.some.inj h) hab
  ·omega
  ·rw [hid i x hx,hid j y hy] at h
   exact h
theorem Ie {n:Nat}{sp:bM}{fr:Fr}{o:bg}(h:(aa0 P n sp fr s).run=some o) :
  ∃ π,PG π n (CX sp.need o) fr∧Emb P π (lQ sp.next o) s∧Keeps sp.N π∧sp.N≤(lQ sp.next o).next:=by
 obtain ⟨vars,loc,ds⟩:=fr
 unfold aa0 at h
 cases ds with
 |cons d ds=>cases h
 |nil=>
  obtain ⟨hN,h⟩:=dV (R:=bg) h
  have hN:ak≤sp.N:=qac hN
  obtain ⟨vs,hvs,h⟩:=fO h
  obtain ⟨bn,agl,h⟩:=fO h
  have hbl:∀ j q,nth bn j=some q→sp.N≤q.blk:=fun j q hj=>by
   rw [jk] at hj
   exact Am agl (fun q hq=>by cases hq) q (qar hj)
  have hnx:sp.N≤sp.next:=by unfold bM.next;exact qax _ _
  obtain ⟨lr,h1,hl1⟩:=I5 (P:=P) (π:=jI sp.N bn) (next:=sp.N+bn.length) (qax _ _) hN h
  obtain ⟨kr,h2,hl2⟩:=EU (next:=sp.N+bn.length) hN (qax _ _) hbl h1
  obtain ⟨nr,h3,hl3⟩:=Jd (next:=sp.N+bn.length) hN hbl (qat _) h2
  obtain ⟨vals,h4,hv⟩:=I8 hN hbl h3
  obtain ⟨hg,h5⟩:=dV h4
  simp only [qad] at hg
  have hlen:bn.length=aQ sp.new:=by rw [←aW];exact qaa hg.1
  cases h5
  have alO:sp.next=sp.N+bn.length:=by unfold bM.next;rw [hlen];rfl
  refine ⟨jI sp.N bn,PG.of (NU hvs hv) rfl,Emb.of2 (rows:=aK lr (aK kr nr)) ?_ rfl (fun i q hq=>?_) (fun p hp=>?_) hg.2,qM,hnx⟩
  ·show ak≤sp.next;omega
  ·show i<sp.next
   have:=Rn hq
   omega
  ·show FD P (jI sp.N bn) sp.next s p
   rw [alO]
   simp only [iG] at hp
   rcases List.mem_append.1 hp with hp|hp
   ·exact hl1 p hp
   ·rcases List.mem_append.1 hp with hp|hp
    ·exact hl2 p hp
    ·exact hl3 p hp
end
noncomputable section
variable [Lo] {P:Program}
def gJ (P:Program)(n:Nat)(sp sp':bM):XK (Ex × bg):=fun ex fr s=>
 match ex with
 |.normal=>(aa0 P n sp fr s).vS fun o=>some (.normal,o)
 |ex=>(aa0 P n sp' fr s).vS fun o=>some (ex,o)
theorem Tree.Gt {α β:Type}{k:α→Option β}:∀ {t:Tree α} {r:β},t.vS k=some r→∃ a,t.run=some a∧k a=some r
 |.fail,r,h=>by cases h
 |.leaf a,r,h=>⟨a,rfl,h⟩
 |.test b x y,r,h=>by
  have h:sel b (x.vS k) (y.vS k)=some r:=h
  cases b with
  |true=>exact Tree.Gt (t:=x) h
  |false=>exact Tree.Gt (t:=y) h
structure rC (P:Program) (C:Cfg) (K:KP) (m:Nat) (fn:FuncId) (body:Code) (N:Nat) (R:Nat→bM→bg→Prop) (e:Ex) (spe:bM) (O:bg):Prop where
 step:∀ k sp x,R k sp x→∃ k',k=k'+1∧∃ sp1 q,sp1.N=N∧jO K.plain C (runK K C m).1 (runK K C m).2 (C.vars fn) fn false body (gJ P (C.vars fn) sp1 spe) (CX sp.need x) (lQ sp.next x)=some q∧
  ((q.1 = .normal∧R k' sp1 q.2)∨(q.1 ≠ .normal∧q=(e,O)))
def wP (P:Program)(n:Nat)(sp:bM)(G:bg→Tree (Ex × bM × bg)):PW:=fun fr s=>
 sel (qab s.next sp.N) (Tree.rec (motive:=fun _=>Tree (Ex × Fr × St)) .fail (fun o=>(G o).map fun q=>(q.1,CX q.2.1.need q.2.2,lQ q.2.1.next q.2.2)) (fun b _ _ x y=>.test b x y) (aa0 P n sp fr s)) .fail
theorem X3 {n:Nat}{sp:bM}{G:bg→Tree (Ex × bM × bg)}{fr fr':Fr}{s s':St}{e:Ex}(h:(wP P n sp G fr s).run=some (e,fr',s')) :
  s.next=sp.N∧∃ o spe O,(aa0 P n sp fr s).run=some o∧(G o).run=some (e,spe,O)∧fr'=CX spe.need O∧s'=lQ spe.next O:=by
 unfold wP at h
 obtain ⟨h1,h⟩:=dV h
 refine ⟨qaa h1,?_⟩
 generalize aa0 P n sp fr s=t at h
 induction t with
 |fail=>cases h
 |leaf o=>
  obtain ⟨⟨e',spe,O⟩,h2,h3⟩:=Tree.map_some (show ((G o).map fun q=>(q.1,CX q.2.1.need q.2.2,lQ q.2.1.next q.2.2)).run=some (e,fr',s') from h)
  cases h3
  exact ⟨o,spe,O,rfl,h2,rfl,rfl⟩
 |test b x y hx hy=>
  cases b with
  |true=>
   obtain ⟨o,spe,O,g⟩:=hx h
   exact ⟨o,spe,O,g⟩
  |false=>
   obtain ⟨o,spe,O,g⟩:=hy h
   exact ⟨o,spe,O,g⟩
theorem abB {K:KP}(hL:K.L≤100000){C0 C:Cfg}(hA:Qj K C0)(hLo:zT K C0)(hK:eX C0 P)(hb:C.body=C0.body)(hv:C.vars=C0.vars){m:Nat}{fn:FuncId}{c body:Code}(hc:C.body fn=some c)(hp:PartOf c (.loop body))
  {n:Nat} (hn:C0.vars fn=n) {sp:bM} {G:bg→Tree (Ex × bM × bg)} (h:∀ o e spe O,(G o).run=some (e,spe,O)→spe.N=sp.N∧∃ R k,R k sp o∧rC P C0 K m fn body sp.N R e spe O):KY P C fn body (wP P n sp G):=by
 subst hn
 refine abI (m:=m) hK hb hv hc hp fun fr s e fr' s' hF=>?_
 obtain ⟨hs,o,spe,O,h1,h2,rfl,rfl⟩:=X3 hF
 obtain ⟨hse,R,k,hR,hI⟩:=h o e spe O h2
 refine ⟨fun k fr s=>∃ sp1 x,sp1.N=sp.N∧R k sp1 x∧fr=CX sp1.need x∧s=lQ sp1.next x,k,?_,?_⟩
 ·rintro k _ _ ⟨sp0,x,hN0,hx,rfl,rfl⟩
  obtain ⟨k',hk,sp1,q,hN1,hq,hres⟩:=hI.step k sp0 x hx
  refine ⟨k',hk,?_⟩
  have h3:=lC (K:=K.plain) (lK hL C0 hA hLo m).1 (lK hL C0 hA hLo m).2 hL C0 (C0.vars fn) fn false (c0:=body) (fun _ _ _ _ _ _ h=>by cases h) body (.refl body) (gJ P (C0.vars fn) sp1 spe) (CX sp0.need x) (lQ sp0.next x) q hq
  obtain ⟨⟨e1,fr1,s1⟩,h4,h5⟩:=ah.1 h3
  refine ⟨e1,fr1,s1,h4,?_⟩
  have h5:gJ P (C0.vars fn) sp1 spe e1 fr1 s1=some q:=h5
  unfold gJ at h5
  split at h5
  ·obtain ⟨o1,h6,h7⟩:=Tree.Gt h5
   cases h7
   obtain ⟨π,g1,g2,g3,g4⟩:=Ie h6
   rw [hN1] at g3 g4
   rcases hres with ⟨_,hr⟩|⟨hne,_⟩
   ·exact .inl ⟨rfl,π,_,_,g1,g2,hs▸g3,hs▸g4,sp1,o1,hN1,hr,rfl,rfl⟩
   ·exact absurd rfl hne
  ·rename_i hne
   obtain ⟨o1,h6,h7⟩:=Tree.Gt h5
   cases h7
   obtain ⟨π,g1,g2,g3,g4⟩:=Ie h6
   rcases hres with ⟨he,_⟩|⟨hne',he⟩
   ·exact absurd he hne
   ·cases he
    rw [hse] at g3 g4
    exact .inr ⟨hne',rfl,π,g1,g2,hs▸g3,hs▸g4⟩
 ·obtain ⟨π,g1,g2,g3,g4⟩:=Ie h1
  exact ⟨π,_,_,g1,g2,hs▸g3,hs▸g4,sp,o,rfl,hR,rfl,rfl⟩
def RI (id:Nat)(l:List Code):List Code:=List.rec [] (fun b _ ih=>sel (qab (jR b) id) (b::ih) ih) l
def vG (C:Cfg)(f id:Nat):List Code:=Option.rec [] (fun c=>RI id (oM c)) (C.body f)
def fU (C:Cfg)(f id:Nat):Code:=jB (vG C f id) .skip fun b _=>b
theorem Ir {id:Nat}{b:Code}:∀ {l:List Code},b∈l→jR b=id→b∈RI id l
 |a::l,hb,hi=>by
  show b∈sel (qab (jR a) id) (a::RI id l) (RI id l)
  rcases List.mem_cons.1 hb with rfl|hb
  ·rw [hi]
   have:qab id id=true:=by simp
   rw [this]
   exact qai
  ·rw [aG]
   split
   ·exact qah _ (Ir hb hi)
   ·exact Ir hb hi
theorem akw {C:Cfg}{f id:Nat}{c body:Code}(h1:qab (aQ (vG C f id)) 1=true)(hc:C.body f=some c)(hp:PartOf c (.loop body))(hi:jR body=id):body=fU C f id:=by
 have hm:=Ir (amw hp) hi
 have e:vG C f id=RI id (oM c):=by unfold vG;rw [hc]
 unfold fU
 rw [e] at h1 ⊢
 generalize RI id (oM c)=l at hm h1
 have h1:aQ l=1:=qaa h1
 rw [aW] at h1
 obtain ⟨a,rfl⟩:=List.length_eq_one_iff.1 h1
 have:body=a:=by simpa using hm
 exact this
theorem nP {K:KP}(hL:K.L≤100000){C0 C:Cfg}(hA:Qj K C0)(hLo:zT K C0)(hK:eX C0 P)(hb:C.body=C0.body)(hv:C.vars=C0.vars){m:Nat}{fn id:Nat}(h1:qab (aQ (vG C0 fn id)) 1=true)
  {n:Nat} (hn:C0.vars fn=n) {sp:bM} {G:bg→Tree (Ex × bM × bg)} (h:∀ o e spe O,(G o).run=some (e,spe,O)→spe.N=sp.N∧∃ R k,R k sp o∧rC P C0 K m fn (fU C0 fn id) sp.N R e spe O) :
  ∀ c body,C.body fn=some c→PartOf c (.loop body)→jR body=id→KY P C fn body (wP P n sp G):=by
 intro c body hc hp hi
 have e:=akw h1 (by rw [←hb];exact hc) hp hi
 refine abB (m:=m) hL hA hLo hK hb hv hc hp hn (sp:=sp) fun o e' spe O hG=>?_
 rw [e]
 exact h o e' spe O hG
end
end Go.Ax
namespace Go.Ax
open Go
noncomputable section
variable {R:Type}
def Ey (kd:IntKind)(v:Value)(k:Nat→Tree R):Tree R:=
 match v with
 |.int j z=>sel (gY kd j) (Int.casesOn (motive:=fun _=>Tree R) z k (fun _=>.fail)) .fail
 |_=>.fail
def asJ (kd:IntKind)(v:Value)(k:Int→Tree R):Tree R:=
 match v with
 |.int j z=>sel (gY kd j) (k z) .fail
 |_=>.fail
def pSl (b c:Nat)(v:Value)(k:Nat→Tree R):Tree R:=
 match v with
 |.slice (some a) n c'=>sel (a.spot.isNone&&(qab a.block b&&(qab a.off 0&&qab c' c))) (k n) .fail
 |_=>.fail
def awS (v:Value)(k:Tree R):Tree R:=
 match v with
 |.slice none n c=>sel (qab n 0&&qab c 0) k .fail
 |_=>.fail
def CV (i e f:Nat)(p:Nat × Row)(k:List Value→Tree R):Tree R:=
 match p.2 with
 |.row cs e' f'=>sel (qab p.1 i&&(qab e' e&&qab f' f)) (k cs) .fail
 |_=>.fail
def zq {α:Type}(l:List α)(k:Tree R):Tree R:=jB l k fun _ _=>.fail
def dh {α:Type}(l:List α)(k:α→List α→Tree R):Tree R:=jB l .fail k
theorem dK {kd:IntKind}{v:Value}{k:Nat→Tree R}{r:R}(h:(Ey kd v k).run=some r):∃ n:Nat,v = .int kd (qaf n)∧(k n).run=some r:=by
 unfold Ey at h
 split at h
 ·rename_i j z
  obtain ⟨h1,h9⟩:=dV h
  clear h
  have h1:=mM h1
  subst h1
  cases z with
  |ofNat n=>exact ⟨n,rfl,h9⟩
  |negSucc n=>cases h9
 ·cases h
theorem BA {kd:IntKind}{v:Value}{k:Int→Tree R}{r:R}(h:(asJ kd v k).run=some r):∃ n:Int,v = .int kd n∧(k n).run=some r:=by
 unfold asJ at h
 split at h
 ·rename_i j z
  obtain ⟨h1,h9⟩:=dV h
  clear h
  have h1:=mM h1
  subst h1
  exact ⟨z,rfl,h9⟩
 ·cases h
theorem jQ {b c:Nat}{v:Value}{k:Nat→Tree R}{r:R}(h:(pSl b c v k).run=some r):∃ n:Nat,v = .slice (some ⟨b,0,none⟩) n c∧(k n).run=some r:=by
 unfold pSl at h
 split at h
 ·rename_i a n c'
  obtain ⟨b',o,sp⟩:=a
  obtain ⟨h1,h9⟩:=dV h
  clear h
  simp only [qad] at h1
  obtain ⟨h1,h2,h3,h4⟩:=h1
  have h2:b'=b:=qaa h2
  have h3:o=0:=qaa h3
  have h4:c'=c:=qaa h4
  subst h2 h3 h4
  cases sp with
  |some x=>cases h1
  |none=>exact ⟨n,rfl,h9⟩
 ·cases h
theorem Oq {v:Value}{k:Tree R}{r:R}(h:(awS v k).run=some r):v = .slice none 0 0∧k.run=some r:=by
 unfold awS at h
 split at h
 ·rename_i n c
  obtain ⟨h1,h9⟩:=dV h
  clear h
  simp only [qad] at h1
  have h2:n=0:=qaa h1.1
  have h3:c=0:=qaa h1.2
  subst h2 h3
  exact ⟨rfl,h9⟩
 ·cases h
theorem dF {i e f:Nat}{p:Nat × Row}{k:List Value→Tree R}{r:R}(h:(CV i e f p k).run=some r):∃ cs,p=(i,.row cs e f)∧(k cs).run=some r:=by
 obtain ⟨j,row⟩:=p
 unfold CV at h
 split at h
 ·rename_i cs e' f' hrow
  obtain ⟨h1,h9⟩:=dV h
  clear h
  simp only [qad] at h1
  have h2:j=i:=qaa h1.1
  have h3:e'=e:=qaa h1.2.1
  have h4:f'=f:=qaa h1.2.2
  have hrow:row=_:=hrow
  subst h2 h3 h4 hrow
  exact ⟨cs,rfl,h9⟩
 ·cases h
theorem bW {α:Type}{l:List α}{k:Tree R}{r:R}(h:(zq l k).run=some r):l=[]∧k.run=some r:=by
 cases l with
 |nil=>exact ⟨rfl,h⟩
 |cons a l=>cases h
theorem aB {α:Type}{l:List α}{k:α→List α→Tree R}{r:R}(h:(dh l k).run=some r):∃ a t,l=a::t∧(k a t).run=some r:=by
 cases l with
 |nil=>cases h
 |cons a l=>exact ⟨a,l,rfl,h⟩
end
end Go.Ax
