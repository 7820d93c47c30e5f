import Derived.Test.YtaplfdajjdbomaaGreatDoorDb
open Nat renaming eq_of_beq_eq_true→qaa,beq→qab,le_of_ble_eq_true→qad,ble→qae,add→qag,mul→qaj,succ→qak,sub→qam,lt_of_lt_of_le→qat,le_refl→qau,add_assoc→qay,le_add_right→qaz,mod→qaE
open Bool renaming and_eq_true→qac,not_eq_true'→qao,or_eq_true→qaw,not_eq_true→qaC
open Int renaming ofNat→qaf,negSucc→qan
open List renaming mem_cons_of_mem→qah,mem_cons_self→qai,append_assoc→qal,getElem?_append_left→qap,mem_append_right→qaq,mem_of_getElem?→qar,mem_append_left→qas,getElem?_append_right→qav,getElem?_drop→qax,getElem?_take→qaA,length_append→qaB,length_nil→qaD
set_option linter.unusedSectionVars false
set_option linter.unusedVariables false
set_option maxRecDepth 1000000
namespace Go.Ax
open Go
theorem arj (fr:Fr){ds:Dfs}(h:fr.defers=ds):F fr.vars fr.loc ds=fr:=by subst h;rfl
def Q9 (n:Nat)(dst:Option Tmp)(ks:List Nat)(r:JK)(K:JE→aaI):Prop:=
 ∀ e vars loc ds s,keys loc=Si n dst ks→r e vars loc ds s=K e (F vars loc ds) s
theorem rZ {n:Nat}{dst:Option Tmp}{ks:List Nat}{put:JP}(hp:aoz n dst = .mk put){r:JK}{K:JE→aaI}(hr:Q9 n dst ks r K)(e:JE)(v:Value)(vars:Tr Value)(loc:FN)(ds:Dfs)(s:St)(hk:keys loc=ks) :
  put r e v vars loc ds s=K e (Fr.put n (F vars loc ds) dst v) s:=by
 rw [apG hp,hr e _ _ ds s (by rw [Ro,hk])]
 rw [show F (Fr.put n (F vars loc ds) dst v).vars (Fr.put n (F vars loc ds) dst v).loc ds=Fr.put n (F vars loc ds) dst v from arj _ (put_defers n vars loc ds dst v)]
theorem anz {C:Cfg}{rd:Bool}{n:Nat}{ks:List Nat}{o:Oper}{r:JK}{K:JE→aaI}(hr:Q9 n o.dst ks r K)(e:JE)(vars:Tr Value)(loc:FN)(ds:Dfs)(s:St)(hk:keys loc=ks) :
  aeK C rd n o r e vars loc ds s=aj (execOp C (Fr.ev n (F vars loc ds)) s o.op) (pX e.call e.yield rd n (F vars loc ds) o.dst (K e)):=by
 apply aH
 intro q
 have hg:∀ ds' v s',(fun (fr:Fr) s=>r e fr.vars fr.loc fr.defers s) (Fr.put n (F vars loc ds') o.dst v) s'=K e (Fr.put n (F vars loc ds') o.dst v) s':=by
  intro ds' v s'
  have h:=hr e (Fr.put n (F vars loc ds') o.dst v).vars (Fr.put n (F vars loc ds') o.dst v).loc (Fr.put n (F vars loc ds') o.dst v).defers s' (by rw [Ro,hk])
  exact h
 cases q with
 |val v s=>exact hg ds v s
 |call f args s=>exact aH _ fun q=>hg ds q.1 q.2
 |yield l args s=>exact aH _ fun q=>hg ds q.1 q.2
 |defer f args s=>
  show sel rd none _=sel rd none _
  cases rd with
  |true=>rfl
  |false=>exact hg _ unit s
theorem akr {α:Type}(l:List α):aI l []=l:=by rw [gW,List.append_nil]
theorem amT {C:Cfg}{rd:Bool}{n:Nat}{ks:List Nat}{o:Oper}{put:JP}(hp:aoz n o.dst = .mk put){r:JK}{K:JE→aaI}(hr:Q9 n o.dst ks r K){f:JK}(h:jOp C rd n ks o put r = .mk f)
  (e:JE) (vars:Tr Value) (loc:FN) (ds:Dfs) (s:St) (hk:keys loc=ks) :
  f e vars loc ds s=aj (execOp C (Fr.ev n (F vars loc ds)) s o.op) (pX e.call e.yield rd n (F vars loc ds) o.dst (K e)):=by
 have gen:Box.mk (aeK C rd n o r) = .mk f→f e vars loc ds s=aj (execOp C (Fr.ev n (F vars loc ds)) s o.op) (pX e.call e.yield rd n (F vars loc ds) o.dst (K e)):=by
  intro h;have h:=mk_inj h;subst h;exact anz hr e vars loc ds s hk
 have val:Box.rec (motive:=fun _=>Box JK) (fun v=>.mk fun e vars loc ds s=>aj (v vars loc s) fun x=>put r e x vars loc ds s) (.mk (aeK C rd n o r)) (ani C n ks o.op) = .mk f→f e vars loc ds s=aj (execOp C (Fr.ev n (F vars loc ds)) s o.op) (pX e.call e.yield rd n (F vars loc ds) o.dst (K e)):=by
  intro h
  cases hv:ani C n ks o.op with
  |bad=>rw [hv] at h;exact gen h
  |mk v=>
   rw [hv] at h
   have h:=mk_inj h;subst h
   rw [←ajI hv vars loc ds s hk]
   show (aj (v vars loc s) fun x=>put r e x vars loc ds s)=aj (aj (v vars loc s) fun v=>ret v s) _
   rw [aC]
   apply aH;intro x
   exact rZ hp hr e x vars loc ds s hk
 unfold jOp at h
 cases ho:o.op <;> rw [ho] at h <;> rw [←ho] <;> try exact val (by rw [ho];exact h)
 all_goals dsimp only at h
 case alloc t=>
  cases hz:zero C.P t with
  |none=>rw [hz] at h;exact gen h
  |some z=>
   rw [hz] at h
   have h:=mk_inj h;subst h
   rw [ho]
   show (iZ s.next fun b=>put r e (ptr b 0) vars loc ds { heap:=s.heap.set b (.row z t 0),bQ:=s.bQ,next:=qak b })=aj (aj (zero C.P t) fun z=>s.new (.row z t 0) fun id s=>ret (ptr id 0) s) _
   rw [hz,oI]
   exact rZ hp hr e _ vars loc ds _ hk
 case box t x=>
  obtain ⟨g,h1,h⟩:=bK.1 h
  have h:=mk_inj h;subst h
  rw [ho]
  show (aj (g vars loc) fun v=>iZ s.next fun b=>put r e (ptr b 0) vars loc ds { heap:=s.heap.set b (.row (cellsOf v) t 0),bQ:=s.bQ,next:=qak b })=aj (aj (Fr.ev n (F vars loc ds) x) fun v=>s.new (.row (cellsOf v) t 0) fun id s=>ret (ptr id 0) s) _
  rw [jO h1 vars loc ds hk,aC]
  apply aH;intro v
  rw [oI]
  exact rZ hp hr e _ vars loc ds _ hk
 case store t a x=>
  obtain ⟨ga,h1,h⟩:=bK.1 h
  obtain ⟨gx,h2,h⟩:=bK.1 h
  cases hz:size C.P t with
  |none=>rw [hz] at h;exact gen h
  |some m=>
   rw [hz] at h
   have h:=mk_inj h;subst h
   rw [ho]
   show (aj (ga vars loc) fun v=>ajZ v fun a=>aj (gx vars loc) fun v=>guard (qab (aQ (cellsOf v)) m) (aj (storeCells s a.block a.off (cellsOf v)) fun s=>put r e unit vars loc ds s))=aj (I4 C (Fr.ev n (F vars loc ds)) s t a x) _
   show _=aj (aj (Fr.ev n (F vars loc ds) a) fun v=>_) _
   rw [jO h1 vars loc ds hk,jO h2 vars loc ds hk,aC]
   apply aH;intro v
   cases v <;> try rfl
   rename_i p
   cases p with
   |none=>rfl
   |some p=>
    show (aj (Fr.ev n (F vars loc ds) x) fun v=>guard (qab (aQ (cellsOf v)) m) (aj (storeCells s p.block p.off (cellsOf v)) fun s=>put r e unit vars loc ds s))=aj (aj (Fr.ev n (F vars loc ds) x) fun v=>aj (aj (size C.P t) fun n=>guard (qab (aQ (cellsOf v)) n) (storeCells s p.block p.off (cellsOf v))) fun s=>ret unit s) _
    rw [aC]
    apply aH;intro v
    rw [aC,hz]
    show _=aj (guard _ _) _
    rw [bW]
    cases qab (aQ (cellsOf v)) m with
    |false=>rfl
    |true=>
     apply aH;intro s'
     exact rZ hp hr e unit vars loc ds s' hk
 case call c=>
  cases hc:c.callee with
  |builtin b=>simp only [hc] at h;exact gen h
  |invoke a b=>simp only [hc] at h;exact gen h
  |value x=>
   simp only [hc] at h
   cases x with
   |tmp t=>exact gen h
   |const t=>exact gen h
   |global t=>exact gen h
   |func g=>
    have h:Option.casesOn (C.ext g) (sel (C.body g).isSome (dK (UN n ks c.args.toList) fun gs=>.mk fun e vars loc ds s=>aj (gs vars loc) fun args=>aj (e.call g args s) fun q=>put r e q.1 vars loc ds q.2) (.mk (aeK C rd n o r))) (fun _=>.mk (aeK C rd n o r))=Box.mk f:=h
    cases he:C.ext g with
    |some x=>rw [he] at h;exact gen h
    |none=>
     rw [he] at h
     have h:sel (C.body g).isSome (dK (UN n ks c.args.toList) fun gs=>.mk fun e vars loc ds s=>aj (gs vars loc) fun args=>aj (e.call g args s) fun q=>put r e q.1 vars loc ds q.2) (.mk (aeK C rd n o r))=Box.mk f:=h
     cases hb:(C.body g).isSome with
     |false=>rw [hb] at h;exact gen h
     |true=>
      rw [hb] at h
      obtain ⟨gs,h1,h⟩:=bK.1 h
      have h:=mk_inj h;subst h
      rw [ho]
      show (aj (gs vars loc) fun args=>aj (e.call g args s) fun q=>put r e q.1 vars loc ds q.2)=aj (zN C (Fr.ev n (F vars loc ds)) s c) _
      unfold zN
      rw [hc,UA h1 vars loc ds hk,aC]
      apply aH;intro args
      show _=aj (wK C s g (aI [] (aI args []))) _
      rw [akr]
      show _=aj (Option.casesOn (C.ext g) (guard (C.body g).isSome (some (.call g args s))) fun e=>aj (UK C s e args) Hy) _
      rw [he,hb]
      show _=aj (e.call g args s) fun q=>K e (Fr.put n (F vars loc ds) o.dst q.1) q.2
      apply aH;intro q
      exact rZ hp hr e q.1 vars loc ds q.2 hk
theorem Xa {n:Nat}{all:List Oper}{ks:List Nat}{dst:Option Tmp}{g:Option (Nat × Bool)}{put:JP}(hp:aoz n dst = .mk put){f r:JK}{K:JE→aaI}(hr:Q9 n dst ks r K)
  (e:JE) (vars:Tr Value) (loc:FN) (ds:Dfs) (s:St) (hk:keys loc=ks) :
  ahP n all g put f r e vars loc ds s=aj (jK n all (F vars loc ds) g) fun b=>sel b (f e vars loc ds s) (K e (Fr.put n (F vars loc ds) dst unit) s):=by
 cases g with
 |none=>rfl
 |some g=>
  apply aH;intro b
  rw [rZ hp hr e unit vars loc ds s hk]
theorem aos {C:Cfg}{rd:Bool}{n:Nat}{all:List Oper}{ks:List Nat}{o:Oper}{r:JK}{K:JE→aaI}(hr:Q9 n o.dst ks r K){f:JK}(h:auW C rd n all ks o r = .mk f)
  (e:JE) (vars:Tr Value) (loc:FN) (ds:Dfs) (s:St) (hk:keys loc=ks) :
  f e vars loc ds s=akg C e.call e.yield rd n all o (K e) (F vars loc ds) s:=by
 obtain ⟨put,hp,h⟩:=bK.1 h
 obtain ⟨f',h1,h⟩:=bK.1 h
 have h:=mk_inj h;subst h
 rw [Xa hp hr e vars loc ds s hk]
 apply aH;intro b
 rw [amT hp hr h1 e vars loc ds s hk]
theorem anY {C:Cfg}{rd:Bool}{n:Nat}{all:List Oper}:∀ {ops:List Oper} {ks:List Nat} {f:JK},aus C rd n all ops ks = .mk f→
  ∀ e vars loc ds s,keys loc=ks→f e vars loc ds s=pO C e.call e.yield rd n all ops (F vars loc ds) s:=by
 intro ops
 induction ops with
 |nil=>intro ks f h e vars loc ds s hk;have h:=mk_inj h;subst h;rfl
 |cons o ops ih=>
  intro ks f h e vars loc ds s hk
  obtain ⟨r,h1,h⟩:=bK.1 (show dK (aus C rd n all ops (Si n o.dst ks)) (fun r=>auW C rd n all ks o r) = .mk f from h)
  exact aos (K:=fun e=>pO C e.call e.yield rd n all ops) (fun e vars loc ds s hk=>ih h1 e vars loc ds s hk) h e vars loc ds s hk
abbrev avU {β:Type}(k:Value→Option β)(r:Res):Option β:=
 match r with
 |.val v _=>k v
 |_=>none
theorem af0 {C:Cfg}{n:Nat}{ks:List Nat}{o:Op}{v:JV}(h:bor (ani C n ks o) (.mk (Zj C n o)) = .mk v)(vars:Tr Value)(loc:FN)(ds:Dfs)(s:St)(hk:keys loc=ks){β:Type}(k:Value→Option β) :
  aj (v vars loc s) k=aj (execOp C (Fr.ev n (F vars loc ds)) s o) (avU k):=by
 cases hv:ani C n ks o with
 |mk w=>
  rw [hv] at h
  have h:=mk_inj h;subst h
  rw [←ajI hv vars loc ds s hk]
  cases w vars loc s <;> rfl
 |bad=>
  rw [hv] at h
  have h:=mk_inj h;subst h
  show aj (aj (execOp C (Fr.ev n (F vars loc ds)) s o) _) k=_
  rw [aC]
  apply aH;intro r
  cases r <;> rfl
def aq3 (n:Nat)(dst:Option Tmp)(ks:List Nat)(r:JK)(K:JE→aaJ):Prop:=
 ∀ e vars loc ds s,keys loc=Si n dst ks→r e vars loc ds s=K e e.cl e.pend (F vars loc ds) s
def Same (K:JE→aaJ):Prop:=(∀ e l,K (uT e l)=K e)∧∀ e b,K (y9 e b)=K e
theorem Fa {call:gq}{yield:dP}{rd:Bool}{n:Nat}{ks:List Nat}{dst:Option Tmp}{k l:aaI}(h:∀ vars loc ds s,keys loc=Si n dst ks→k (F vars loc ds) s=l (F vars loc ds) s)
  (vars:Tr Value) (loc:FN) (ds:Dfs) (hk:keys loc=ks) (q:Res):pX call yield rd n (F vars loc ds) dst k q=pX call yield rd n (F vars loc ds) dst l q:=by
 have hg:∀ ds' v s',k (Fr.put n (F vars loc ds') dst v) s'=l (Fr.put n (F vars loc ds') dst v) s':=by
  intro ds' v s'
  exact h (Fr.put n (F vars loc ds') dst v).vars (Fr.put n (F vars loc ds') dst v).loc (Fr.put n (F vars loc ds') dst v).defers s' (by rw [Ro,hk])
 cases q with
 |val v s=>exact hg ds v s
 |call f args s=>exact aH _ fun q=>hg ds q.1 q.2
 |yield l args s=>exact aH _ fun q=>hg ds q.1 q.2
 |defer f args s=>
  show sel rd none _=sel rd none _
  cases rd with
  |true=>rfl
  |false=>exact hg _ unit s
theorem ao2 {C:Cfg}{n:Nat}{fr:Fr}{s:St}{o:Op}{q:Res}(hb:(l9 o&&BJ C o)=false)(hx:execOp C (Fr.ev n fr) s o=some q):(l9 o&&tK C q)=false:=by
 cases hq:l9 o with
 |false=>rfl
 |true=>
  rw [hq,Bool.true_and] at hb
  rw [Bool.true_and]
  unfold l9 at hq
  split at hq
  ·rename_i c
   split at hq
   ·rename_i x hcx
    unfold BJ at hb
    simp only [hcx] at hb
    cases x with
    |func f=>
     have hb:Option.casesOn (C.insert f) false (fun t=>match t with|.pure _=>true|_=>false)=false:=hb
     change zN C (Fr.ev n fr) s c=some q at hx
     unfold zN at hx
     obtain ⟨xs,_,hx⟩:=ah.1 hx
     rw [hcx] at hx
     have hx:wK C s f (aI [] (aI xs []))=some q:=hx
     unfold wK at hx
     cases he:C.ext f with
     |none=>
      rw [he] at hx
      obtain ⟨_,hx⟩:=au.1 hx
      cases hx
      show Option.casesOn (C.insert f) false (fun t=>J7 t _)=false
      cases hi:C.insert f with
      |none=>rfl
      |some t=>
       rw [hi] at hb
       cases t <;> first|rfl|(exact Bool.noConfusion hb)
     |some e=>
      rw [he] at hx
      obtain ⟨_,_,hx⟩:=ah.1 hx
      cases hx
      rfl
    |_=>exact Bool.noConfusion hb
   ·cases hq
  ·cases hq
theorem ah5 {C:Cfg}{rd:Bool}{n:Nat}{ks:List Nat}{a:Info}{rest:List Info}{all:List Oper}{put:JP}(hp:aoz n a.op.dst = .mk put){r:JK}{K:JE→aaJ}(hs:Same K)(hr:aq3 n a.op.dst ks r K){f:JK}(h:aeS C rd n ks a rest put r = .mk f)
  (e:JE) (vars:Tr Value) (loc:FN) (ds:Dfs) (s:St) (hk:keys loc=ks) :
  (aj (jK n all (F vars loc ds) a.op.guard) fun b=>sel b (f e vars loc ds s) (K e e.cl e.pend (Fr.put n (F vars loc ds) a.op.dst unit) s))=Ed C e.call e.yield rd n all e.base a rest (K e) e.cl e.pend (F vars loc ds) s:=by
 have hr':Q9 n a.op.dst ks r (fun e=>K e e.cl e.pend):=hr
 unfold aeS at h
 unfold Ed
 apply aH;intro b
 cases b with
 |false=>rfl
 |true=>
  show f e vars loc ds s=EO a.cls _ _
  generalize a.cls=c at h ⊢
  match c with
  |0=>
   obtain ⟨v,h1,h⟩:=bK.1 h
   have h:=mk_inj h;subst h
   show (aj (v vars loc s) fun x=>put r e x vars loc ds s)=_
   rw [af0 h1 vars loc ds s hk]
   apply aH;intro q
   cases q <;> try rfl
   exact rZ hp hr' e _ vars loc ds s hk
  |1=>
   obtain ⟨v,h1,h⟩:=bK.1 h
   have h:=mk_inj h;subst h
   show (aj (v vars loc s) fun x=>guard (kL s x) (put r (uT e ({ i:=a.i,op:=a.op.op,fr:={ vars:=vars,loc:=loc,defers:=ds },v:=x }::e.pend)) x vars loc ds s))=_
   rw [af0 h1 vars loc ds s hk]
   apply aH;intro q
   cases q <;> try rfl
   rename_i x s'
   show guard (kL s x) _=guard (kL s x) _
   rw [rZ hp hr' _ x vars loc ds s hk,hs.1]
   rfl
  |2=>
   have h:=mk_inj h;subst h
   apply aH;intro q
   rw [oI,rZ hp hr' (y9 e false) _ vars loc ds _ hk,hs.2]
   rfl
  |k+3=>
   show _=aj (execOp C (Fr.ev n (F vars loc ds)) s a.op.op) (yE C e.call e.yield rd n e.base a rest (K e) e.cl e.pend (F vars loc ds))
   cases hb:(l9 a.op.op&&BJ C a.op.op) with
   |true=>
    have h:(sel (l9 a.op.op&&BJ C a.op.op) (.mk (apI C rd n a rest r)) (jOp C rd n ks a.op put fun e vars loc ds s=>guard (tH C n s a.mask e.pend&&kM s e.base rest) (r (y9 e false) vars loc ds s)):Box JK) = .mk f:=h
    rw [hb,aN] at h
    have h:=mk_inj h;subst h
    apply aH;intro q
    have hcl:∀ cl (g:St→Bool),∀ vars loc ds s,keys loc=Si n a.op.dst ks→guard (g s) (r (y9 (uT e e.pend) cl) vars loc ds s)=guard (g s) (K e cl e.pend (F vars loc ds) s):=by
     intro cl g vars loc ds s hk
     rw [hr (y9 (uT e e.pend) cl) vars loc ds s hk,hs.2,hs.1]
     rfl
    unfold yE
    rw [Fa (k:=fun fr s=>guard (kM s e.base rest) (r (y9 (uT e e.pend) true) fr.vars fr.loc fr.defers s)) (l:=fun fr s=>guard (kM s e.base rest) (K e true e.pend fr s)) (hcl true fun s=>kM s e.base rest) vars loc ds hk q,
     Fa (k:=fun fr s=>guard (tH C n s a.mask e.pend&&kM s e.base rest) (r (y9 (uT e e.pend) false) fr.vars fr.loc fr.defers s)) (l:=fun fr s=>guard (tH C n s a.mask e.pend&&kM s e.base rest) (K e false e.pend fr s)) (hcl false fun s=>tH C n s a.mask e.pend&&kM s e.base rest) vars loc ds hk q]
   |false=>
    have h:(sel (l9 a.op.op&&BJ C a.op.op) (.mk (apI C rd n a rest r)) (jOp C rd n ks a.op put fun e vars loc ds s=>guard (tH C n s a.mask e.pend&&kM s e.base rest) (r (y9 e false) vars loc ds s)):Box JK) = .mk f:=h
    rw [hb,aO] at h
    rw [amT hp (K:=fun e fr s=>guard (tH C n s a.mask e.pend&&kM s e.base rest) (K e false e.pend fr s)) (fun e vars loc ds s hk=>by
     show guard _ _=guard _ _
     rw [hr (y9 e false) vars loc ds s hk,hs.2]
     rfl) h e vars loc ds s hk]
    cases hx:execOp C (Fr.ev n (F vars loc ds)) s a.op.op with
    |none=>rfl
    |some q=>
     rw [show ∀ (f:Res→Option (Fr × St)),aj (some q) f=f q from fun _=>rfl,show ∀ (f:Res→Option (Fr × St)),aj (some q) f=f q from fun _=>rfl]
     unfold yE
     rw [ao2 hb hx,Bool.and_false,aO]
theorem ami {C:Cfg}{rd:Bool}{n:Nat}{all:List Oper}:∀ {l:List Info} {ks:List Nat} {f:JK},ak6 C rd n all l ks = .mk f→
  ∀ e vars loc ds s,keys loc=ks→f e vars loc ds s=Oy C e.call e.yield rd n all e.base l e.cl e.pend (F vars loc ds) s:=by
 intro l
 induction l with
 |nil=>intro ks f h e vars loc ds s hk;have h:=mk_inj h;subst h;rfl
 |cons a rest ih=>
  intro ks f h e vars loc ds s hk
  obtain ⟨r,h1,h⟩:=bK.1 (show dK (ak6 C rd n all rest (Si n a.op.dst ks)) (fun r=>acG C rd n all ks a rest r) = .mk f from h)
  obtain ⟨put,hp,h⟩:=bK.1 h
  obtain ⟨f',h2,h⟩:=bK.1 h
  have h:=mk_inj h;subst h
  have hr:aq3 n a.op.dst ks r (fun e=>Oy C e.call e.yield rd n all e.base rest):=fun e vars loc ds s hk=>ih h1 e vars loc ds s hk
  rw [Xa hp (K:=fun e=>Oy C e.call e.yield rd n all e.base rest e.cl e.pend) hr e vars loc ds s hk]
  exact ah5 hp ⟨fun e l=>rfl,fun e b=>rfl⟩ hr h2 e vars loc ds s hk
theorem aev {C:Cfg}{n:Nat}{fn:FuncId}{rd:Bool}{id:Nat}{ops:List Oper}{draw:Bool}{f:arJ}(h:ajq C n fn rd id ops draw = .mk f)(call:gq)(yield:dP)(fr:Fr)(s:St) :
  f call yield fr s=aj (sel draw (su C call yield rd n ops (C.order fn id) fr.fresh s) (pO C call yield rd n ops ops fr.fresh s)) fun r=>some (.normal,r):=by
 cases draw with
 |false=>
  obtain ⟨r,h1,h⟩:=bK.1 (show dK (aus C rd n ops ops []) (fun r=>.mk fun call yield fr s=>aj (r { call:=call,yield:=yield,base:=0,pend:=[],cl:=true } fr.vars [] fr.defers s) adi)=Box.mk f from h)
  have h:=mk_inj h;subst h
  show aj (r _ fr.vars [] fr.defers s) adi=aj (pO C call yield rd n ops ops fr.fresh s) _
  rw [anY h1 _ _ _ _ _ rfl];rfl
 |true=>
  have h:Option.casesOn (IU ops (C.order fn id)) .bad (fun l=>dK (ak6 C rd n ops l []) fun r=>.mk fun call yield fr s=>
   aj (r { call:=call,yield:=yield,base:=s.next,pend:=[],cl:=true } fr.vars [] fr.defers { heap:=s.heap,bQ:=s.bQ,next:=qag s.next (aQ ops) }) adi)=Box.mk f:=h
  show _=aj (aj (IU ops (C.order fn id)) fun l=>Oy C call yield rd n ops s.next l true [] fr.fresh { heap:=s.heap,bQ:=s.bQ,next:=qag s.next (aQ ops) }) _
  cases hp:IU ops (C.order fn id) with
  |none=>rw [hp] at h;cases h
  |some l=>
   rw [hp] at h
   obtain ⟨r,h1,h⟩:=bK.1 h
   have h:=mk_inj h;subst h
   show aj (r _ fr.vars [] fr.defers _) adi=aj (Oy C call yield rd n ops s.next l true [] fr.fresh _) _
   rw [ami h1 _ _ _ _ _ rfl];rfl
theorem alG {n:Nat}{x:Operand}{g:Fr→Option Value}(h:aoE n x = .mk g)(fr:Fr):g fr=fr.ev n x:=by
 cases x with
 |tmp t=>
  have h:sel (ltN t n) (dK (Wl (path t)) fun g=>.mk fun fr=>g fr.vars) (.mk fun fr=>fr.ev n (.tmp t))=Box.mk g:=h
  cases hb:ltN t n with
  |true=>
   rw [hb] at h
   obtain ⟨g',h1,h⟩:=bK.1 (show dK (Wl (path t)) (fun g=>.mk fun (fr:Fr)=>g fr.vars)=Box.mk g from h)
   have h:=mk_inj h;subst h
   show g' fr.vars=sel (ltN t n) (fr.vars.get t) (mg t fr.loc)
   rw [hb,acD _ g' h1];rfl
  |false=>rw [hb] at h;have h:=mk_inj h;subst h;rfl
 |const v=>have h:=mk_inj h;subst h;rfl
 |global v=>have h:=mk_inj h;subst h;rfl
 |func v=>have h:=mk_inj h;subst h;rfl
theorem aei (v:Value)(a b:Run)(fr:Fr)(s:St):adT v (a fr s) (b fr s)=yU a b fr s v:=by cases v <;> rfl
theorem akN {C:Cfg}{n:Nat}{fn:FuncId}{rd:Bool}:∀ (c:Code) {f:arJ},Pj C n fn rd c = .mk f→∀ call yield,f call yield=exec C call yield n fn rd c:=by
 intro c
 induction c with
 |skip=>intro f h call yield;have h:=mk_inj h;subst h;rfl
 |region id ops draw=>
  intro f h call yield
  funext fr s
  exact aev h call yield fr s
 |seq a b iha ihb=>
  intro f h call yield
  obtain ⟨ra,h1,h⟩:=bK.1 (show dK (Pj C n fn rd a) (fun ra=>dK (Pj C n fn rd b) fun rb=>.mk fun call yield fr s=>aj (ra call yield fr s) (lW (rb call yield)))=Box.mk f from h)
  obtain ⟨rb,h2,h⟩:=bK.1 h
  have h:=mk_inj h;subst h
  funext fr s
  show aj (ra call yield fr s) (lW (rb call yield))=aj (exec C call yield n fn rd a fr s) (lW (exec C call yield n fn rd b))
  rw [iha h1,ihb h2]
 |cond x a b iha ihb=>
  intro f h call yield
  obtain ⟨g,h0,h⟩:=bK.1 (show dK (aoE n x) (fun g=>dK (Pj C n fn rd a) fun ra=>dK (Pj C n fn rd b) fun rb=>.mk fun call yield fr s=>aj (g fr) fun v=>adT v (ra call yield fr s) (rb call yield fr s))=Box.mk f from h)
  obtain ⟨ra,h1,h⟩:=bK.1 h
  obtain ⟨rb,h2,h⟩:=bK.1 h
  have h:=mk_inj h;subst h
  funext fr s
  show (aj (g fr) fun v=>adT v (ra call yield fr s) (rb call yield fr s))=aj (fr.ev n x) (yU (exec C call yield n fn rd a) (exec C call yield n fn rd b) fr s)
  rw [iha h1,ihb h2,alG h0]
  apply aH;intro v
  exact aei _ _ _ _ _
 |block id a iha=>
  intro f h call yield
  obtain ⟨ra,h1,h⟩:=bK.1 (show dK (Pj C n fn rd a) (fun ra=>.mk fun call yield fr s=>aj (ra call yield fr s) (xR id))=Box.mk f from h)
  have h:=mk_inj h;subst h
  funext fr s
  show aj (ra call yield fr s) (xR id)=aj (exec C call yield n fn rd a fr s) (xR id)
  rw [iha h1]
 |loop a iha=>
  intro f h call yield
  obtain ⟨ra,h1,h⟩:=bK.1 (show dK (Pj C n fn rd a) (fun ra=>.mk fun call yield fr s=>rM C fn rd a (iter (ra call yield) 100000) fr s)=Box.mk f from h)
  have h:=mk_inj h;subst h
  funext fr s
  show rM C fn rd a (iter (ra call yield) 100000) fr s=rM C fn rd a (iter (exec C call yield n fn rd a) 100000) fr s
  rw [iha h1]
 |scope a iha=>
  intro f h call yield
  have h:sel rd (.mk fun _ _ _ _=>none) (Pj C n fn rd a)=Box.mk f:=h
  funext fr s
  show _=sel rd none (exec C call yield n fn rd a fr s)
  cases rd with
  |true=>have h:=mk_inj h;subst h;rfl
  |false=>rw [iha h];rfl
 |_=>intro f h call yield;have h:=mk_inj h;subst h;rfl
theorem akh (C:Cfg)(call:gq)(yield:dP)(f:FuncId)(args:List Value)(s:St):al8 C call yield f args s=jP C call yield f args s:=by
 unfold al8
 cases hj:jFn C f with
 |bad=>rfl
 |mk run=>
  show run call yield args s=jP C call yield f args s
  have h:Option.casesOn (C.body f) .bad (fun c=>dK (Pj C (C.vars f) f false c) fun run=>.mk fun call yield args s=>aj (run call yield (pW args) s) (finish C (PW C call yield) f))=Box.mk run:=hj
  unfold jP
  cases hb:C.body f with
  |none=>rw [hb] at h;cases h
  |some c=>
   rw [hb] at h
   obtain ⟨ra,h1,h⟩:=bK.1 h
   have h:=mk_inj h;subst h
   show aj (ra call yield (pW args) s) _=aj (exec C call yield (C.vars f) f false c (pW args) s) _
   rw [akN c h1]
theorem aj9 (C:Cfg)(call:gq)(yield:dP):amh C call yield=oM C call yield:=by
 funext f args s
 unfold amh oM
 rw [akh]
theorem BD (C:Cfg):∀ n,um C n=runN C n:=by
 intro n
 induction n with
 |zero=>rfl
 |succ n ih=>
  show (amh C (um C n).1 (um C n).2,qN C (um C n).1 (um C n).2)=(oM C (runN C n).1 (runN C n).2,qN C (runN C n).1 (runN C n).2)
  rw [ih,aj9]
end Go.Ax
namespace Go.Ax
variable [Lo]
open Go
mutual
inductive RV (π:Ren):Value→Value→Prop
 |bool (b:Bool):RV π (.bool b) (.bool b)
 |int (k:IntKind) (n:Int):RV π (.int k n) (.int k n)
 |string (s:ByteArray):RV π (.string s) (.string s)
 |nC:RV π (.pointer none) (.pointer none)
 |ptr {b o j:Nat} (hb:ak≤b) (h:π b=some ⟨j,0,aF⟩) (hj:ak≤j):RV π (.pointer (some ⟨b,o,none⟩)) (.pointer (some ⟨j,o,none⟩))
 |acT {b o:Nat} (hb:b<ak):RV π (.pointer (some ⟨b,o,none⟩)) (.pointer (some ⟨b,o,none⟩))
 |dU (n c:Nat):RV π (.slice none n c) (.slice none n c)
 |slice {b o n:Nat} {q:Loc} (hb:ak≤b) (h:π b=some q) (hj:ak≤q.blk):RV π (.slice (some ⟨b,o,none⟩) n aF) (.slice (some ⟨q.blk,q.off+o,none⟩) n q.cap)
 |EP {b o n c j:Nat} (hb:ak≤b) (h:π b=some ⟨j,0,aF⟩) (hj:ak≤j) (hc:c<bf):RV π (.slice (some ⟨b,o,none⟩) n c) (.slice (some ⟨j,o,none⟩) n c)
 |Kt {b o n c:Nat} (hb:b<ak):RV π (.slice (some ⟨b,o,none⟩) n c) (.slice (some ⟨b,o,none⟩) n c)
 |tok (i:Nat) (k:IntKind) (n:Int):RV π (.chan (some i)) (.int k n)
 |toks (i j:Nat):RV π (.chan (some i)) (.chan (some j))
 |opq (n:Nat):RV π (.float .f64 n) (.float .f64 n)
 |ajU (lo hi:Nat):RV π (.complex .f32 lo hi) (.complex .f32 lo hi)
 |rng (lo hi:Nat):RV π (.complex .f64 lo hi) (.complex .f64 lo hi)
 |ug:RV π (.map none) (.map none)
 |map {r j:Nat} (h:π r=some ⟨j,0,aF⟩) (hr:ak≤r) (hj:ak≤j):RV π (.map (some r)) (.map (some j))
 |func {f:Fn} {a a' b b':List Value} (hf:∀ l,f ≠ .yield l) (ha:RVs π a a') (hb:RVs π b b'):RV π (.func f ⟨a⟩ ⟨b⟩) (.func f ⟨a'⟩ ⟨b'⟩)
 |nilFunc:RV π .nilFunc .nilFunc
 |iface (t:TypeId) {v v':Value} (h:RV π v v'):RV π (.iface t v) (.iface t v')
 |nilIface:RV π .nilIface .nilIface
 |agg {a a':List Value} (h:RVs π a a'):RV π (.agg ⟨a⟩) (.agg ⟨a'⟩)
 |tuple {a a':List Value} (h:RVs π a a'):RV π (.tuple ⟨a⟩) (.tuple ⟨a'⟩)
inductive RVs (π:Ren):List Value→List Value→Prop
 |nil:RVs π [] []
 |cons {v v':Value} {l l':List Value} (h:RV π v v') (hl:RVs π l l'):RVs π (v::l) (v'::l')
end
def under (ρ π:Ren):Ren:=fun i=>if i<ak then none else match π i with
 |none=>none
 |some q=>if q.blk<ak then none else match ρ q.blk with
  |none=>none
  |some l=>some ⟨l.blk,l.off+q.off,capOf l q.cap⟩
theorem mM {ρ π:Ren}{i:Nat}{q l:Loc}(hi:ak≤i)(hq:π i=some q)(hj:ak≤q.blk)(hl:ρ q.blk=some l):under ρ π i=some ⟨l.blk,l.off+q.off,capOf l q.cap⟩:=by
 unfold under
 rw [if_neg (by omega),hq]
 simp only
 rw [if_neg (by omega),hl]
theorem Ky {ρ π:Ren}{i:Nat}{x:Loc}(h:under ρ π i=some x):ak≤i∧∃ q l,π i=some q∧ak≤q.blk∧ρ q.blk=some l∧x=⟨l.blk,l.off+q.off,capOf l q.cap⟩:=by
 unfold under at h
 split at h
 ·cases h
 ·split at h
  ·cases h
  ·rename_i hi q hq
   split at h
   ·cases h
   ·split at h
    ·cases h
    ·rename_i hj l hl
     cases h
     exact ⟨by omega,q,l,hq,by omega,hl,rfl⟩
theorem rD (l:Loc):capOf l aF=l.cap:=by
 unfold capOf
 have h1:bf≤aF:=by decide
 rw [if_pos h1];omega
theorem yN (l:Loc){c:Nat}(h:c<bf):capOf l c=c:=by
 unfold capOf
 rw [if_neg (by omega)]
theorem VR.wP {ρ:Ren}{A:Addr}{n c:Nat}{x:Value}(h:VR ρ (.slice (some A) n c) x) :
  (A.spot=none∧∃ l,ρ.at A.block=some l∧x = .slice (some ⟨l.blk,l.off+A.off,none⟩) n (capOf l c))∨(A=⟨fF,0,none⟩∧n=0∧c=aF∧∃ a c',x = .slice (some a) 0 c'):=by
 cases h with
 |slice hl=>exact .inl ⟨rfl,_,hl,rfl⟩
 |dead a c=>exact .inr ⟨rfl,rfl,rfl,a,c,rfl⟩
mutual
theorem RV.comp {ρ π:Ren}:∀ {v v' c:Value},RV π v v'→VR ρ v' c→VR (under ρ π) v c
 |_,_,_,.bool b,h=>by cases h;exact .bool b
 |_,_,_,.int k n,h=>by cases h;exact .int k n
 |_,_,_,.string s,h=>by cases h;exact .string s
 |_,_,_,.nC,h=>by cases h;exact .nC
 |_,_,_,.ptr (b:=b) (o:=o) hb hq hj,h=>by
  cases h with
  |ptr hl=>
   rename_i l
   rw [Ren.cu hj] at hl
   have:=VR.ptr (ρ:=under ρ π) (b:=b) (o:=o) (l:=⟨l.blk,l.off+0,capOf l aF⟩) (by rw [Ren.cu hb];exact mM hb hq hj hl)
   simpa using this
 |_,_,_,.acT hb,h=>by
  cases h with
  |ptr hl=>
   rw [Ren.kD hb] at hl
   exact .ptr (by rw [Ren.kD hb];exact hl)
 |_,_,_,.dU n c,h=>by cases h;exact .dU n c
 |_,_,_,.slice (b:=b) (o:=o) (n:=n) (q:=q) hb hq hj,h=>by
  rcases VR.wP h with ⟨_,l,hl,rfl⟩|⟨hA,_⟩
  ·have hl:ρ.at q.blk=some l:=hl
   rw [Ren.cu hj] at hl
   have:=VR.slice (ρ:=under ρ π) (b:=b) (o:=o) (n:=n) (c:=aF) (l:=⟨l.blk,l.off+q.off,capOf l q.cap⟩) (by rw [Ren.cu hb];exact mM hb hq hj hl)
   rw [rD] at this
   simpa [qay] using this
  ·exfalso
   injection hA with h4
   have e:fF=63:=rfl
   have e2:ak=64:=rfl
   omega
 |_,_,_,.EP (b:=b) (o:=o) (n:=n) (c:=c) (j:=j) hb hq hj hc,h=>by
  rcases VR.wP h with ⟨_,l,hl,rfl⟩|⟨_,_,hA,_⟩
  ·have hl:ρ.at j=some l:=hl
   rw [Ren.cu hj] at hl
   have:=VR.slice (ρ:=under ρ π) (b:=b) (o:=o) (n:=n) (c:=c) (l:=⟨l.blk,l.off+0,capOf l aF⟩) (by rw [Ren.cu hb];exact mM hb hq hj hl)
   rw [yN _ hc] at this ⊢
   simpa using this
  ·exfalso
   have e:aF=18446744073709551616:=rfl
   have e2:bf=9223372036854775808:=rfl
   omega
 |_,_,_,.Kt (b:=b) (o:=o) (n:=n) (c:=c) hb,h=>by
  rcases VR.wP h with ⟨_,l,hl,rfl⟩|⟨hA,rfl,rfl,a,c',rfl⟩
  ·have hl:ρ.at b=some l:=hl
   rw [Ren.kD hb] at hl
   exact .slice (by rw [Ren.kD hb];exact hl)
  ·injection hA with h4 h5
   subst h4 h5
   exact .dead _ _
 |_,_,_,.tok i k n,h=>by cases h;exact .tok i k n
 |_,_,_,.toks i j,h=>by cases h;exact .tok i _ _
 |_,_,_,.opq n,h=>by cases h;exact .opq _ _ _
 |_,_,_,.ajU lo hi,h=>by cases h with|ajU _ _ a n c h1 h2=>exact .ajU lo hi a n c h1 h2
 |_,_,_,.rng lo hi,h=>by cases h with|rng _ _ n h1 h2=>exact .rng lo hi n h1 h2
 |_,_,_,.ug,h=>by cases h;exact .ug
 |_,_,_,.map hq hr hj,h=>by
  cases h with
  |map hl=>exact .map (mM hr hq hj hl)
 |_,_,_,.func hf ha hb,h=>by
  cases h with
  |func h1 h2 h3=>
   refine .func ?_ (RVs.comp ha h2) (RVs.comp hb h3)
   cases h1 with
   |func f=>exact .func f
   |method n=>exact .method n
   |methodOf t n=>exact .methodOf t n
   |via t p f b=>exact .via t p f b
   |yield hl=>exact absurd rfl (hf _)
 |_,_,_,.nilFunc,h=>by cases h;exact .nilFunc
 |_,_,_,.iface t hv,h=>by cases h with|iface _ h1=>exact .iface t (RV.comp hv h1)
 |_,_,_,.nilIface,h=>by cases h;exact .nilIface
 |_,_,_,.agg ha,h=>by cases h with|agg h1=>exact .agg (RVs.comp ha h1)
 |_,_,_,.tuple ha,h=>by cases h with|tuple h1=>exact .tuple (RVs.comp ha h1)
theorem RVs.comp {ρ π:Ren}:∀ {l l' c:List Value},RVs π l l'→VRs ρ l' c→VRs (under ρ π) l c
 |_,_,_,.nil,h=>by cases h;exact .nil
 |_,_,_,.cons hv hl,h=>by cases h with|cons h1 h2=>exact .cons (RV.comp hv h1) (RVs.comp hl h2)
end
theorem RVs.get {π:Ren}:∀ {l l':List Value},RVs π l l'→∀ {k:Nat} {v:Value},l[k]? = some v→∃ v',l'[k]? = some v'∧RV π v v'
 |_,_,.nil,k,v,h=>by simp at h
 |_,_,.cons hv hl,0,v,h=>by simp at h;subst h;exact ⟨_,rfl,hv⟩
 |_,_,.cons hv hl,k+1,v,h=>by simp at h;simpa using RVs.get hl h
theorem RVs.length {π:Ren}:∀ {l l':List Value},RVs π l l'→l'.length=l.length
 |_,_,.nil=>rfl
 |_,_,.cons _ hl=>by simp [RVs.length hl]
def Ve (π:Ren)(i:Nat):Option Nat:=if i<ak then some i else (π i).map (·.blk)
inductive oh (P:Program) (π:Ren) (s:St) (i:Nat) (cs:List Value) (e:TypeId) (f:Nat):Prop
 |low (hi:i<ak) (hc:s.cells i=some (cs,e,f)) (hv:RVs π cs cs):oh P π s i cs e f
 |whole {j:Nat} {cs':List Value} (hi:ak≤i) (hq:π i=some ⟨j,0,aF⟩) (hj:ak≤j) (hc:s.cells j=some (cs',e,0)) (hf:f=0) (hv:RVs π cs cs'):oh P π s i cs e f
 |fam {j k n f':Nat} {cs':List Value} (hi:ak≤i) (hq:π i=some ⟨j,k*n,aF-k⟩) (hj:ak≤j) (hc:s.cells j=some (cs',e,f')) (hf:f≠0) (hf':f'≠0) (hn:size P e=some n) (hn0:0<n)
   (hk:k≤bf) (hle:k*n+cs.length≤cs'.length) (hv:RVs π cs ((cs'.drop (k*n)).take cs.length)):oh P π s i cs e f
 |known {j o c n:Nat} {cs':List Value} (hi:ak≤i) (hq:π i=some ⟨j,o,c⟩) (hj:ak≤j) (hc:s.cells j=some (cs',e,0)) (hf:f≠0) (hn:size P e=some n) (hn0:0<n) (hcap:c<bf)
   (hle:o+c*n≤cs'.length) (hle2:cs.length≤c*n) (hv:RVs π cs ((cs'.drop o).take cs.length)):oh P π s i cs e f
inductive ZQ (π:Ren):List MapEntry→List MapEntry→Prop
 |nil:ZQ π [] []
 |cons {a b:MapEntry} {l l':List MapEntry} (hk:RV π a.key b.key) (hv:RV π a.val b.val) (hb:a.born=b.born) (h:ZQ π l l'):ZQ π (a::l) (b::l')
theorem ZQ.comp {ρ π:Ren}{l l':List MapEntry}(h:ZQ π l l'):∀ {m:List MapEntry},EsR ρ l' m→EsR (under ρ π) l m:=by
 induction h with
 |nil=>intro m hm;cases hm;exact .nil
 |cons hk hv hb _ ih=>intro m hm;cases hm with|cons h1 h2 h3 h4=>exact .cons (hk.comp h1) (hv.comp h2) (hb.trans h3) (ih h4)
structure Emb (P:Program) (π:Ren) (S s:St):Prop where
 next:ak≤S.next
 dom:∀ i q,π i=some q→ak≤i→i<S.next
 hdom:∀ i r,S.heap.get i=some r→i<S.next
 aor:∀ i cs e f,S.heap.get i=some (.row cs e f)→f<S.next
 cells:∀ i cs e f,S.cells i=some (cs,e,f)→oh P π s i cs e f
 maps:∀ i es c,S.heap.get i=some (.map es c)→ak≤i∧∃ j es',π i=some ⟨j,0,aF⟩∧ak≤j∧s.heap.get j=some (.map es' c)∧ZQ π es es'
 loops:∀ i q,S.heap.get i≠some (.loop q)
 tags:∀ i j a b x y,S.tag i=some a→S.tag j=some b→a≠b→(ak≤i∨ak≤j)→Ve π i=some x→Ve π j=some y→s.tag x≠s.tag y
section
variable {P:Program} {base:Nat} {ρ ρ':Ren} {s s' S:St} {w w':World} {π:Ren}
theorem Au {s:St}{i:Nat}{a:Nat × Nat}(h:s.tag i=some a):(∃ cs e f,s.cells i=some (cs,e,f)∧a=(if f=0 then (0,i) else (1,f)))∨(∃ es c,s.heap.get i=some (.map es c))∨∃ q,s.heap.get i=some (.loop q):=by
 unfold St.tag at h
 split at h
 ·rename_i cs e f hg
  left
  by_cases hf:f=0
  ·subst hf
   simp at h
   exact ⟨cs,e,0,aK.2 ⟨hg,.inl rfl⟩,by simp [h]⟩
  ·rw [if_neg hf] at h
   split at h
   ·rename_i l hl
    split at h
    ·rename_i hm
     cases h
     exact ⟨cs,e,f,aK.2 ⟨hg,.inr ⟨l,hl,hm⟩⟩,by rw [if_neg hf]⟩
    ·cases h
   ·cases h
 ·rename_i es c hg
  exact .inr (.inl ⟨es,c,hg⟩)
 ·rename_i q hg
  exact .inr (.inr ⟨q,hg⟩)
 ·cases h
theorem Emb.alive (he:Emb P π S s)(h:HR P base ρ s w){i:Nat}{a:Nat × Nat}(ht:S.tag i=some a) :
  ∃ x t,Ve π i=some x∧s.tag x=some t∧(ak≤i↔ak≤x)∧∀ l,(under ρ π).at i=some l→∃ l',ρ.at x=some l'∧l'.blk=l.blk:=by
 have hhigh:∀ (q:Loc),ak≤i→π i=some q→ak≤q.blk→∀ l,(under ρ π).at i=some l→∃ l',ρ.at q.blk=some l'∧l'.blk=l.blk:=by
  intro q hi hq hj l hl
  rw [Ren.cu hi] at hl
  obtain ⟨_,q',l',h1,h2,h3,rfl⟩:=Ky hl
  rw [hq] at h1
  cases h1
  exact ⟨l',by rw [Ren.cu hj];exact h3,rfl⟩
 have hid:∀ (q:Loc),ak≤i→π i=some q→Ve π i=some q.blk:=by
  intro q hi hq
  unfold Ve
  rw [if_neg (by omega),hq]
  rfl
 rcases Au ht with ⟨cs,e,f,hc,_⟩|⟨es,c,hm⟩|⟨q,hq⟩
 ·cases he.cells i cs e f hc with
  |low hi hc hv=>
   refine ⟨i,_,by unfold Ve;rw [if_pos hi],cZ hc,Iff.rfl,fun l hl=>?_⟩
   rw [Ren.kD hi] at hl
   exact ⟨l,by rw [Ren.kD hi];exact hl,rfl⟩
  |whole hi hq hj hc hf hv=>exact ⟨_,_,hid _ hi hq,cZ hc,⟨fun _=>hj,fun _=>hi⟩,hhigh _ hi hq hj⟩
  |fam hi hq hj hc hf hf' hn hn0 hk hle hv=>exact ⟨_,_,hid _ hi hq,cZ hc,⟨fun _=>hj,fun _=>hi⟩,hhigh _ hi hq hj⟩
  |known hi hq hj hc hf hn hn0 hcap hle hle2 hv=>exact ⟨_,_,hid _ hi hq,cZ hc,⟨fun _=>hj,fun _=>hi⟩,hhigh _ hi hq hj⟩
 ·obtain ⟨hi,j,es',hq,hj,hg,_⟩:=he.maps i es c hm
  exact ⟨_,_,hid _ hi hq,l7 hg,⟨fun _=>hj,fun _=>hi⟩,hhigh _ hi hq hj⟩
 ·exact absurd hq (he.loops i q)
theorem HR.ren (h:HR P base ρ s w)(he:Emb P π S s):HR P base (under ρ π) S w where
 dom:=fun i l hi=>by
  obtain ⟨h1,q,l',h2,h3,h4,rfl⟩:=Ky hi
  obtain ⟨d1,d2,d3,d4⟩:=h.dom _ _ h4
  exact ⟨h1,he.dom i q h2 h1,d3,d4⟩
 next:=he.next
 gB:=h.gB
 low:=fun i hi ht=>by
  cases ht':S.tag i with
  |none=>exact absurd ht' ht
  |some a=>
   obtain ⟨x,t,h1,h2,_,_⟩:=he.alive h ht'
   unfold Ve at h1
   rw [if_pos hi] at h1
   cases h1
   exact h.low i hi (by rw [h2];simp)
 dF:=he.hdom
 eP:=he.aor
 rows:=fun i cs e f hc=>by
  cases he.cells i cs e f hc with
  |low hi hc' hv=>
   obtain ⟨l,hat,a,fz,ha,zS,hfz,h0,h1⟩:=h.rows i cs e f hc'
   refine ⟨l,by rw [Ren.kD hi] at hat ⊢;exact hat,a,fz,ha,fun j x hj=>?_,hfz,h0,h1⟩
   obtain ⟨y,hy,hxy⟩:=zS j x hj
   obtain ⟨x',hx',hxx⟩:=hv.get hj
   rw [hj] at hx'
   cases hx'
   exact ⟨y,hy,hxx.comp hxy⟩
  |@whole j cs' hi hq hj hc' hf hv=>
   obtain ⟨l,hat,a,fz,ha,zS,hfz,h0,h1⟩:=h.rows j cs' e 0 hc'
   rw [Ren.cu hj] at hat
   obtain ⟨g1,g2,g3⟩:=h0 rfl
   refine ⟨⟨l.blk,l.off+0,capOf l aF⟩,by rw [Ren.cu hi];exact mM hi hq hj hat,a,fz,ha.imp fun _ h=>⟨h.1,fun _=>h.2 (.inl rfl)⟩,fun k x hk=>?_,fun _=>hfz hj,fun _=>⟨by show l.off+0=0;omega,by rw [g2,hv.length],fun _=>g3 hj⟩,fun hne=>absurd hf hne⟩
   obtain ⟨x',hx',hxx⟩:=hv.get hk
   obtain ⟨y,hy,hxy⟩:=zS k x' hx'
   exact ⟨y,by show a[l.off+0+k]? = _;simpa using hy,hxx.comp hxy⟩
  |@fam j k n f' cs' hi hq hj hc' hf hf' hn hn0 hk hle hv=>
   obtain ⟨l,hat,a,fz,ha,zS,hfz,h0,h1⟩:=h.rows j cs' e f' hc'
   rw [Ren.cu hj] at hat
   obtain ⟨n',hn',_,g1,g2⟩:=h1 hf'
   rw [hn] at hn'
   cases hn'
   have hb1:aF=18446744073709551616:=rfl
   have hb2:bf=9223372036854775808:=rfl
   have hcap:capOf l (aF-k)=l.cap-k:=by
    unfold capOf
    rw [if_pos (by omega)]
    omega
   have hkn:k*n≤l.cap*n:=by omega
   have hkl:k≤l.cap:=Nat.le_of_mul_le_mul_right hkn hn0
   have hsub:(l.cap-k)*n=l.cap*n-k*n:=Nat.sub_mul ..
   refine ⟨⟨l.blk,l.off+k*n,capOf l (aF-k)⟩,by rw [Ren.cu hi];exact mM hi hq hj hat,a,fz,ha.imp fun _ h=>⟨h.1,fun _=>h.2 (.inr hj)⟩,fun t x ht=>?_,fun _=>hfz hj,fun h0=>absurd h0 hf,fun _=>⟨n,hn,hn0,?_,?_⟩⟩
   ·obtain ⟨x',hx',hxx⟩:=hv.get ht
    have htl:t<cs.length:=(List.getElem?_eq_some_iff.1 ht).1
    rw [qaA,if_pos htl,qax] at hx'
    obtain ⟨y,hy,hxy⟩:=zS _ x' hx'
    exact ⟨y,by show a[l.off+k*n+t]? = _;rw [qay];exact hy,hxx.comp hxy⟩
   ·show l.off+k*n+capOf l (aF-k)*n≤a.size
    rw [hcap,hsub];omega
   ·show cs.length≤capOf l (aF-k)*n
    rw [hcap,hsub];omega
  |@known j o c n cs' hi hq hj hc' hf hn hn0 hcap hle hle2 hv=>
   obtain ⟨l,hat,a,fz,ha,zS,hfz,h0,h1⟩:=h.rows j cs' e 0 hc'
   rw [Ren.cu hj] at hat
   obtain ⟨g1,g2,g3⟩:=h0 rfl
   refine ⟨⟨l.blk,l.off+o,capOf l c⟩,by rw [Ren.cu hi];exact mM hi hq hj hat,a,fz,ha.imp fun _ h=>⟨h.1,fun _=>h.2 (.inl rfl)⟩,fun t x ht=>?_,fun _=>hfz hj,fun h0=>absurd h0 hf,fun _=>⟨n,hn,hn0,?_,?_⟩⟩
   ·obtain ⟨x',hx',hxx⟩:=hv.get ht
    have htl:t<cs.length:=(List.getElem?_eq_some_iff.1 ht).1
    rw [qaA,if_pos htl,qax] at hx'
    obtain ⟨y,hy,hxy⟩:=zS _ x' hx'
    exact ⟨y,by show a[l.off+o+t]? = _;rw [qay];exact hy,hxx.comp hxy⟩
   ·show l.off+o+capOf l c*n≤a.size
    rw [yN _ hcap];omega
   ·show cs.length≤capOf l c*n
    rw [yN _ hcap];exact hle2
 maps:=fun i es c hi=>by
  obtain ⟨h1,j,es',hq,hj,hg,hes⟩:=he.maps i es c hi
  obtain ⟨l,hl,m,hm,hr⟩:=h.maps j es' c hg
  exact ⟨_,mM h1 hq hj hl,m,hm,hes.comp hr⟩
 loops:=fun i q hi=>absurd hi (he.loops i q)
 sep:=fun i j a b l l' hi hj hab hl hl' hh=>by
  obtain ⟨x,t,h1,h2,h3,h4⟩:=he.alive h hi
  obtain ⟨y,u,g1,g2,g3,g4⟩:=he.alive h hj
  obtain ⟨lx,hlx,e1⟩:=h4 l hl
  obtain ⟨ly,hly,e2⟩:=g4 l' hl'
  rw [←e1,←e2]
  refine h.sep x y t u lx ly h2 g2 ?_ hlx hly ?_
  ·intro e
   exact he.tags i j a b x y hi hj hab hh h1 g1 (by rw [h2,g2,e])
  ·rcases hh with hh|hh
   ·exact .inl (h3.1 hh)
   ·exact .inr (g3.1 hh)
theorem Emb.owned (he:Emb P π S s)(h:HR P base ρ s w){b:Nat}(ho:xk (under ρ π) S b):xk ρ s b:=by
 obtain ⟨i,l,a,h1,h2,h3,h4⟩:=ho
 obtain ⟨x,t,g1,g2,g3,g4⟩:=he.alive h h2
 obtain ⟨l',hl',e⟩:=g4 l (by rw [Ren.cu h1];exact h3)
 have hx:=g3.1 h1
 exact ⟨x,l',t,hx,g2,by rw [←Ren.cu (ρ:=ρ) hx];exact hl',by rw [e,h4]⟩
def Keeps (N:Nat)(π:Ren):Prop:=∀ i,ak≤i→i<N→π i=some ⟨i,0,aF⟩
theorem Keeps.under {N:Nat}(hk:Keeps N π)(h:HR P base ρ s w){i:Nat}(hi:i<N):under ρ π i=ρ i:=by
 by_cases hlo:i<ak
 ·unfold Ax.under
  rw [if_pos hlo]
  cases hr:ρ i with
  |none=>rfl
  |some l=>have:=(h.dom i l hr).1;omega
 ·have hq:=hk i (by omega) hi
  unfold Ax.under
  rw [if_neg hlo,hq]
  simp only
  rw [if_neg hlo]
  cases hr:ρ i with
  |none=>rfl
  |some l=>simp [rD]
theorem Goes.X9 (h:HR P base ρ s w)(hg:Goes P base ρ s w ρ' s' w')(he:Emb P π S s')(hk:Keeps s.next π)(hn:s.next≤S.next):Goes P base ρ s w (under ρ' π) S w' where
 le:=fun i l hi=>by
  have hlt:=(h.dom i l hi).2.1
  rw [hk.under hg.hr hlt]
  exact hg.le i l hi
 hr:=hg.hr.ren he
 os:=hg.os
 tape:=hg.tape
 output:=hg.output
 grow:=hg.grow
 next:=hn
 frame:=hg.frame
 own:=fun b hb=>hg.own b (he.owned hg.hr hb)
 old:=fun i hi=>by rw [hk.under hg.hr hi];exact hg.old i hi
structure KG (π:Ren) (n:Nat) (F fr:Fr):Prop where
 get:∀ t v,F.get n t=some v→∃ v',fr.get n t=some v'∧RV π v v'
 defers:F.defers=[]∧fr.defers=[]
theorem JF.ren (he:Emb P π S s)(h:HR P base ρ s w){l:List (FuncId × List Value)}{ds:List Deferred}(hd:JF ρ s w l ds)(hl:l=[]):JF (Ax.under ρ π) S w [] ds:=by
 induction hd with
 |nil=>exact .nil
 |cons ht ha hv _ ih=>cases hl
 |mark hm hlt _ ih=>exact .mark ⟨hm.1,fun ho=>hm.2.1 (he.owned h ho),hm.2.2⟩ hlt (ih hl)
theorem FrR.ren (he:Emb P π S s)(h:HR P base ρ s w){mk:Option Nat}{n nt:Nat}{F fr:Fr}{a:Act}(hf:FrR mk n nt ρ s w fr a)(hfe:KG π n F fr):FrR mk n nt (Ax.under ρ π) S w F a:=by
 refine ⟨hf.size,fun t v ht=>?_,?_,hf.vI⟩
 ·obtain ⟨v',h1,h2⟩:=hfe.get t v ht
  exact h2.comp (hf.tmps t v' h1)
 ·rw [hfe.defers.1]
  exact hf.defers.ren he h hfe.defers.2
theorem afH {B:Nat}{C:Cfg}(hK:dS C P){call:gq}{yield:dP}(hc:tq P call)(hy:nX P yield)(hQ:pI C call){fn:FuncId}{c body:Code}(hb:C.body fn=some c)(hp:PartOf c (.loop body))
  {e:Ex} {fr fr':Fr} {s s':St} (R:Nat→Fr→St→Prop)
  (hstep:∀ k fr2 s2,R k fr2 s2→∃ k',k=k'+1∧∃ e1 fr1 s1,exec C call yield (C.vars fn) fn false body fr2 s2=some (e1,fr1,s1)∧
   ((e1 = .normal∧∃ π fr3 s3,KG π (C.vars fn) fr3 fr1∧Emb P π s3 s1∧Keeps s.next π∧s.next≤s3.next∧R k' fr3 s3)∨
    (e1 ≠ .normal∧e1=e∧∃ π,KG π (C.vars fn) fr' fr1∧Emb P π s' s1∧Keeps s.next π∧s.next≤s'.next)))
  {k:Nat} (h0:∃ π fr3 s3,KG π (C.vars fn) fr3 fr∧Emb P π s3 s∧Keeps s.next π∧s.next≤s3.next∧R k fr3 s3)
  {ρ:Ren} {a:Act} {w:World} {mk:Option Nat} {m nt:Nat} {Q:Exit→Act→World→Prop} (hok:oW nt body=true) (hnr:mk=none→Ie body=true)
  (hr:HR P B ρ s w) (hf:FrR mk (C.vars fn) nt ρ s w fr a) (hlo:∀ k,mk=some k→k≤w.heap.size)
  (hq:∀ ρ' w' a',Goes P B ρ s w ρ' s' w'→FrR mk (C.vars fn) nt ρ' s' w' fr' a'→Q (exq e) a' w'):(Code.loop body).wpIn (Fro none) m P Q a w:=by
 refine wpIn_loop_rounds k ?_
 have key:∀ (k:Nat) (fr2:Fr) (s2:St) (ρ1:Ren) (a1:Act) (w1:World),R k fr2 s2→Goes P B ρ s w ρ1 s2 w1→FrR mk (C.vars fn) nt ρ1 s2 w1 fr2 a1→Code.roundsIn (Fro none) m P body Q k a1 w1:=by
  intro k
  induction k with
  |zero=>
   intro fr2 s2 ρ1 a1 w1 hR
   obtain ⟨k',hk,_⟩:=hstep 0 fr2 s2 hR
   omega
  |succ k ih=>
   intro fr2 s2 ρ1 a1 w1 hR hg hf
   obtain ⟨k',hk,e1,fr1,s1,hex,hres⟩:=hstep (k+1) fr2 s2 hR
   have hk':k=k':=by omega
   subst hk'
   rw [roundsIn_succ]
   refine Ll hK hc hy hQ hK.mix (ro:=none) (m:=m) (n:=C.vars fn) (nt:=nt) (mk:=mk) (fn:=fn) (c0:=c) (fun _=>⟨rfl,fun b hb'=>hK.loops fn c b hb hb'⟩) body hp.loop hok hnr fr2 s2 e1 fr1 s1 ρ1 a1 w1 _ hex hg.hr hf (fun k hk=>Nat.le_trans (hlo k hk) hg.grow) ?_
   intro ρ2 w2 a2 hg2 hf2
   have aur:=hg.trans hg2
   rcases hres with ⟨rfl,π,fr3,s3,h1,h2,h3,h4,h5⟩|⟨hne,rfl,π,h1,h2,h3,h4⟩
   ·exact ih fr3 s3 _ a2 w2 h5 (Goes.X9 hr aur h2 h3 h4) (FrR.ren h2 aur.hr hf2 h1)
   ·have:=hq _ w2 a2 (Goes.X9 hr aur h2 h3 h4) (FrR.ren h2 aur.hr hf2 h1)
    cases e1 with
    |normal=>exact absurd rfl hne
    |exit id=>exact this
    |ret=>exact this
 obtain ⟨π,fr3,s3,h1,h2,h3,h4,h5⟩:=h0
 exact key k fr3 s3 _ a w h5 (Goes.X9 hr (Goes.refl hr) h2 h3 h4) (FrR.ren h2 hr hf h1)
end
end Go.Ax
namespace Go.Ax
variable [Lo]
open Go
section
variable {P:Program} {base:Nat} {ρ ρ':Ren} {s s' s1:St} {w w':World}
noncomputable def SH (s:St)(cs:List Value)(e:TypeId):St:={ heap:=s.heap.set s.next (.row cs e s.next),bQ:=s.bQ.set s.next [s.next],next:=qak s.next }
end
end Go.Ax
namespace Go.Ax
variable [Lo]
open Go
section
variable {P:Program} {base:Nat} {ρ ρ1:Ren} {s s' S0 S1:St} {w w':World}
structure Sub (S0 s:St):Prop where
 next:S0.next=s.next
 row:∀ i r,S0.heap.get i=some r→s.heap.get i=some r
 fam:∀ f l,S0.bQ.get f=some l→∃ l',s.bQ.get f=some l'∧∀ j,j∈l→j∈l'
theorem Sub.tag (hs:Sub S0 s){i:Nat}{a:Nat × Nat}(h:S0.tag i=some a):s.tag i=some a:=by
 unfold St.tag at h ⊢
 cases hg:S0.heap.get i with
 |none=>simp [hg] at h
 |some r=>
  rw [hs.row i r hg]
  simp only [hg] at h
  cases r with
  |row cs e f=>
   simp only at h ⊢
   by_cases h0:f=0
   ·simpa [h0] using h
   ·simp only [h0,if_false] at h ⊢
    cases hf:S0.bQ.get f with
    |none=>simp [hf] at h
    |some l=>
     obtain ⟨l',h1,h2⟩:=hs.fam f l hf
     simp only [hf] at h
     split at h
     ·rename_i hm
      simpa [h1,h2 i hm] using h
     ·cases h
  |map es c=>exact h
  |loop q=>exact h
  |other=>exact h
theorem Sub.cells (hs:Sub S0 s){i:Nat}{c:List Value × TypeId × Nat}(h:S0.cells i=some c):s.cells i=some c:=by
 obtain ⟨cs,e,f⟩:=c
 obtain ⟨h1,h2⟩:=aK.1 h
 refine aK.2 ⟨hs.row i _ h1,?_⟩
 rcases h2 with h2|⟨l,hl,hm⟩
 ·exact .inl h2
 ·obtain ⟨l',h3,h4⟩:=hs.fam f l hl
  exact .inr ⟨l',h3,h4 i hm⟩
theorem HR.less (h:HR P base ρ s w)(hs:Sub S0 s):HR P base ρ S0 w where
 dom:=fun i l hi=>by rw [hs.next];exact h.dom i l hi
 next:=by rw [hs.next];exact h.next
 gB:=h.gB
 low:=fun i hi ht=>by
  cases ht':S0.tag i with
  |none=>exact absurd ht' ht
  |some a=>exact h.low i hi (by rw [hs.tag ht'];simp)
 dF:=fun i r hi=>by rw [hs.next];exact h.dF i r (hs.row i r hi)
 eP:=fun i cs e f hi=>by rw [hs.next];exact h.eP i cs e f (hs.row i _ hi)
 rows:=fun i cs e f hc=>h.rows i cs e f (hs.cells hc)
 maps:=fun i es c hi=>h.maps i es c (hs.row i _ hi)
 loops:=fun i r hi=>h.loops i r (hs.row i _ hi)
 sep:=fun i j a b l l' hi hj=>h.sep i j a b l l' (hs.tag hi) (hs.tag hj)
theorem HR.atS (h:HR P base ρ s w){i:Nat}{a:Nat × Nat}(ht:s.tag i=some a):i<s.next:=by
 cases hg:s.heap.get i with
 |none=>unfold St.tag at ht;simp [hg] at ht
 |some r=>exact h.dF i r hg
structure Over (S0 S1 s s':St):Prop where
 next:s'.next=S1.next
 dom:∀ i r,s'.heap.get i=some r→i<S1.next
 aor:∀ i cs e f,s'.heap.get i=some (.row cs e f)→f<S1.next
 tag:∀ i a,s'.tag i=some a→(ak≤i∧S1.tag i=some a)∨(s.tag i=some a∧∀ j,ak≤j→S0.tag j≠some a)
 cells:∀ i c,s'.cells i=some c→S1.cells i=some c∨(s.cells i=some c∧∀ j,ak≤j→S0.tag j≠s.tag i)
 maps:∀ i es c,s'.heap.get i=some (.map es c)→S1.heap.get i=some (.map es c)∨(s.heap.get i=some (.map es c)∧∀ j,ak≤j→S0.tag j≠some (0,i))
 loops:∀ i q,s'.heap.get i=some (.loop q)→S1.heap.get i=some (.loop q)∨(s.heap.get i=some (.loop q)∧∀ j,ak≤j→S0.tag j≠some (0,i))
theorem Goes.over (h:HR P base ρ s w)(hs:Sub S0 s)(hg:Goes P base ρ S0 w ρ1 S1 w')(ho:Over S0 S1 s s'):Goes P base ρ s w ρ1 s' w':=by
 have hle:=hg.le
 have awn:∀ i a l,s.tag i=some a→(∀ j,ak≤j→S0.tag j≠some a)→ρ.at i=some l→w'.heap[l.blk]? = w.heap[l.blk]?:=by
  intro i a l hi hn hl
  refine hg.frame _ (h.qY hi hl) ?_
  rintro ⟨j,q,b,hj,hb,hq,e⟩
  exact h.sep j i b a q l (hs.tag hb) hi (fun e'=>hn j hj (by rw [hb,e'])) (by rw [Ren.cu hj];exact hq) hl (.inl hj) e
 have hold:∀ i a l,s.tag i=some a→ρ1.at i=some l→ρ.at i=some l:=by
  intro i a l hi hl
  by_cases hlo:i<ak
  ·rw [Ren.kD hlo] at hl ⊢;exact hl
  ·rw [Ren.cu (by omega)] at hl ⊢
   rw [←hg.old i (by rw [hs.next];exact h.atS hi)];exact hl
 refine ⟨hle,⟨fun i l hi=>?_,?_,hg.hr.gB,fun i hi ht=>?_,fun i r hi=>?_,fun i cs e f hi=>?_,fun i cs e f hc=>?_,fun i es c hi=>?_,fun i r hi=>?_,fun i j a b l l' hi hj hab hl hl'=>?_⟩,
  hg.os,hg.tape,hg.output,hg.grow,?_,fun b hb hn=>?_,fun b hb=>?_,fun i hi=>?_⟩
 ·rw [ho.next];exact hg.hr.dom i l hi
 ·rw [ho.next];exact hg.hr.next
 ·cases ht':s'.tag i with
  |none=>exact absurd ht' ht
  |some a=>
   rcases ho.tag i a ht' with ⟨h1,_⟩|⟨h1,_⟩
   ·omega
   ·exact h.low i hi (by rw [h1];simp)
 ·rw [ho.next];exact ho.dom i r hi
 ·rw [ho.next];exact ho.aor i cs e f hi
 ·rcases ho.cells i _ hc with h1|⟨h1,h2⟩
  ·exact hg.hr.rows i cs e f h1
  ·obtain ⟨l,hl⟩:=h.rows i cs e f h1
   exact ⟨l,hl.move hle (awn i _ l (cZ h1) (fun j hj=>by rw [←cZ h1];exact h2 j hj) hl.at_)⟩
 ·rcases ho.maps i es c hi with h1|⟨h1,h2⟩
  ·exact hg.hr.maps i es c h1
  ·obtain ⟨l,hl,es',h3,h4⟩:=h.maps i es c h1
   exact ⟨l,hle _ _ hl,es',by rw [awn i _ l (l7 h1) h2 (by rw [Ren.cu (h.dom i l hl).1];exact hl)];exact h3,h4.mono hle⟩
 ·rcases ho.loops i r hi with h1|⟨h1,h2⟩
  ·exact hg.hr.loops i r h1
  ·obtain ⟨l,hl,q,h3,h4⟩:=h.loops i r h1
   exact ⟨l,hle _ _ hl,q,by rw [awn i _ l (jD h1) h2 (by rw [Ren.cu (h.dom i l hl).1];exact hl)];exact h3,h4.mono hle⟩
 ·rcases ho.tag i a hi with ⟨hi1,hi2⟩|⟨hi1,hi2⟩ <;> rcases ho.tag j b hj with ⟨hj1,hj2⟩|⟨hj1,hj2⟩
  ·exact hg.hr.sep i j a b l l' hi2 hj2 hab hl hl'
  ·intro hh
   have hl2:=hold j b l' hj1 hl'
   have hlt:=h.qY hj1 hl2
   rcases hg.own l.blk ⟨i,l,a,hi1,hi2,by have q:=hl;rwa [Ren.cu hi1] at q,rfl⟩ with ⟨k,q,c,hk,hc,hq,e⟩|hge
   ·have:=h.sep k j c b q l' (hs.tag hc) hj1 (fun e'=>hj2 k hk (by rw [hc,e'])) (by rw [Ren.cu hk];exact hq) hl2 (.inl hk)
    omega
   ·omega
  ·intro hh
   have hl2:=hold i a l hi1 hl
   have hlt:=h.qY hi1 hl2
   rcases hg.own l'.blk ⟨j,l',b,hj1,hj2,by have q:=hl';rwa [Ren.cu hj1] at q,rfl⟩ with ⟨k,q,c,hk,hc,hq,e⟩|hge
   ·have:=h.sep k i c a q l (hs.tag hc) hi1 (fun e'=>hi2 k hk (by rw [hc,e'])) (by rw [Ren.cu hk];exact hq) hl2 (.inl hk)
    omega
   ·omega
  ·exact h.sep i j a b l l' hi1 hj1 hab (hold i a l hi1 hl) (hold j b l' hj1 hl')
 ·rw [ho.next,←hs.next];exact hg.next
 ·exact hg.frame b hb (fun ⟨i,l,a,h1,h2,h3,h4⟩=>hn ⟨i,l,a,h1,hs.tag h2,h3,h4⟩)
 ·obtain ⟨i,l,a,h1,h2,h3,h4⟩:=hb
  rcases ho.tag i a h2 with ⟨_,h5⟩|⟨h5,_⟩
  ·rcases hg.own b ⟨i,l,a,h1,h5,h3,h4⟩ with ⟨j,q,c,g1,g2,g3,g4⟩|hge
   ·exact .inl ⟨j,q,c,g1,hs.tag g2,g3,g4⟩
   ·exact .inr hge
  ·left
   refine ⟨i,l,a,h1,h5,?_,h4⟩
   have:=hold i a l h5 (by rw [Ren.cu h1];exact h3)
   rwa [Ren.cu h1] at this
 ·exact hg.old i (by rw [hs.next];exact hi)
end
noncomputable section
structure Tpl where
 bits:Nat:=15
 next:Nat
 args:List Value
 pre:List (Nat × Row)
 uq:List (Nat × List Nat)
 val:Value
 post:List (Nat × Row)
 Ci:List (Nat × List Nat)
 next':Nat
def rW {α:Type}(t:Hp α):List (Nat × α)→Hp α:=fun l=>List.rec t (fun p _ ih=>ih.set p.1 p.2) l
abbrev Low:=List (Nat × List Value)
def alC (b:Nat)(t:Nat→TypeId):Low→Hp Row:=fun L=>List.rec (.s b 0) (fun x _ h=>sel (qae ak x.1) h (Hp.set h x.1 (.row x.2 (t x.1) 0))) L
def Tpl.start (T:Tpl)(g0:Low)(t:Nat→TypeId):St:={ heap:=rW (alC T.bits t g0) T.pre,bQ:=rW (.s T.bits 0) T.uq,next:=T.next }
def Tpl.over (T:Tpl)(s:St):St:={ heap:=rW s.heap T.post,bQ:=rW s.bQ T.Ci,next:=T.next' }
def Nb (a b:MapEntry):Bool:=Ad 4 a.key b.key&&(Ad 4 a.val b.val&&qab a.born b.born)
def ab8:List MapEntry→List MapEntry→Bool:=fun l=>
 List.rec (fun r=>jg r true (fun _ _=>false)) (fun a _ ih r=>jg r false (fun b t=>sel (Nb a b) (ih t) false)) l
def sameRow (a b:Row):Bool:=
 match a with
 |.row cs e f=>match b with
  |.row ds e' f'=>qab e e'&&(qab f f'&&zl (Ad 4) cs ds)
  |_=>false
 |.map es c=>match b with
  |.map fs d=>qab c d&&ab8 es fs
  |_=>false
 |_=>false
def Ak (h:Hp Row):List (Nat × Row)→Bool:=fun l=>List.rec true (fun p _ ih=>sel (Option.casesOn (h.get p.1) false fun r=>sameRow p.2 r) ih false) l
def allIn (b:List Nat):List Nat→Bool:=fun a=>List.rec true (fun x _ ih=>sel (vZ x b) ih false) a
def AU (h:Hp (List Nat)):List (Nat × List Nat)→Bool:=fun l=>List.rec true (fun p _ ih=>sel (Option.casesOn (h.get p.1) false fun b=>allIn b p.2) ih false) l
def keyed {α:Type}(l:List (Nat × α))(i:Nat):Bool:=(dQ l i).isSome
def aj3 {α:Type}(l:List (Nat × α)):List Nat→Bool:=fun a=>List.rec true (fun x _ ih=>sel (keyed l x) ih false) a
def ama (r:Row):Nat:=
 match r with
 |.row _ _ f=>f
 |_=>0
def aqj (T:Tpl):List (Nat × Row)→Bool:=fun l=>List.rec true (fun p _ ih=>sel (qae ak p.1&&keyed T.post p.1) ih false) l
def alr (T:Tpl):List (Nat × Row)→Bool:=fun l=>List.rec true (fun p _ ih=>sel (qae ak p.1&&(qab (ama p.2) 0||keyed T.Ci (ama p.2))) ih false) l
def alW (T:Tpl):List (Nat × List Nat)→Bool:=fun l=>List.rec true (fun p _ ih=>sel (keyed T.Ci p.1) ih false) l
def ahQ (T:Tpl):List (Nat × List Nat)→Bool:=fun l=>List.rec true (fun p _ ih=>sel (aj3 T.post p.2) ih false) l
def Tpl.fine (T:Tpl):Bool:=aqj T T.pre&&(alr T T.post&&(alW T T.uq&&ahQ T T.Ci))
def rowIs (cs:List Value)(r:Row):Bool:=
 match r with
 |.row cs' _ f=>qab f 0&&zl (Ad 4) cs cs'
 |_=>false
def aoC (g0:Low)(s:St):Bool:=List.rec true (fun x _ ih=>sel (Option.casesOn (s.heap.get x.1) false fun r=>rowIs x.2 r) ih false) g0
def auG (g0:Low)(T:Tpl)(s:St)(args:List Value):Option (Value × St):=
 guard (qab s.next T.next&&(zl (Ad 4) T.args args&&(aoC g0 s&&(Ak s.heap T.pre&&AU s.bQ T.uq)))) (some (T.val,T.over s))
def OB (g0:Low)(l:List Tpl)(s:St)(args:List Value):Option (Value × St):=List.rec none (fun T _ ih=>Option.casesOn (auG g0 T s args) ih some) l
def Lj (T:Tpl)(r:Option (Value × St)):Bool:=Option.casesOn r false fun q=>Ad 4 T.val q.1&&(qab q.2.next T.next'&&(Ak q.2.heap T.post&&AU q.2.bQ T.Ci))
theorem fO {β:Type}{l:List (Nat × β)}{i:Nat}{a:β}(h:dQ l i=some a):(i,a)∈l:=by
 induction l with
 |nil=>cases h
 |cons p t ih=>
  have h:sel (qab p.1 i) (some p.2) (dQ t i)=some a:=h
  rw [aG] at h
  split at h
  ·rename_i hb
   cases h
   rw [←qaa hb]
   exact qai
  ·exact qah _ (ih h)
theorem BH {α:Type}(t:Hp α)(l:List (Nat × α))(i:Nat):(rW t l).get i=match dQ l i with
  |some a=>some a
  |none=>t.get i:=by
 induction l with
 |nil=>rfl
 |cons p l ih=>
  show (Hp.set (rW t l) p.1 p.2).get i=match sel (qab p.1 i) (some p.2) (dQ l i) with
   |some a=>some a
   |none=>t.get i
  rw [Hp.iR,ih,aG]
  by_cases e:i=p.1
  ·subst e;simp
  ·have:qab p.1 i=false:=by rw [←qaC,Nat.beq_eq];exact fun h=>e h.symm
   rw [this,if_neg e];rfl
theorem ji {α:Type}{t:Hp α}{l:List (Nat × α)}{i:Nat}{a:α}(h:(rW t l).get i=some a):dQ l i=some a∨(dQ l i=none∧t.get i=some a):=by
 rw [BH] at h
 cases hf:dQ l i with
 |none=>rw [hf] at h;exact .inr ⟨rfl,h⟩
 |some b=>rw [hf] at h;exact .inl h
theorem Yq:∀ {l r:List MapEntry},ab8 l r=true→l=r
 |[],[],_=>rfl
 |[],_::_,h=>by cases h
 |_::_,[],h=>by cases h
 |a::l,b::r,h=>by
  change sel (Nb a b) (ab8 l r) false=true at h
  rw [aG] at h
  split at h
  ·rename_i hh
   unfold Nb at hh
   simp only [qac] at hh
   have h1:=oJ 4 hh.1
   have h2:=oJ 4 hh.2.1
   have h3:=qaa hh.2.2
   rw [Yq h]
   congr 1
   cases a;cases b
   simp only at h1 h2 h3
   subst h1 h2 h3
   rfl
  ·cases h
theorem aef {a b:Row}(h:sameRow a b=true):a=b:=by
 cases a with
 |row cs e f=>cases b with
  |row ds e' f'=>
   have h:(qab e e'&&(qab f f'&&zl (Ad 4) cs ds))=true:=h
   simp only [qac] at h
   rw [qaa h.1,qaa h.2.1,qh (fun a b=>oJ 4) h.2.2]
  |_=>cases h
 |map es c=>cases b with
  |map fs d=>
   have h:(qab c d&&ab8 es fs)=true:=h
   simp only [qac] at h
   rw [qaa h.1,Yq h.2]
  |_=>cases h
 |_=>cases h
theorem Ox {h:Hp Row}{l:List (Nat × Row)}(hl:Ak h l=true){p:Nat × Row}(hp:p∈l):h.get p.1=some p.2:=by
 induction l with
 |nil=>cases hp
 |cons q t ih=>
  have hl:sel (Option.casesOn (h.get q.1) false fun r=>sameRow q.2 r) (Ak h t) false=true:=hl
  rw [aG] at hl
  split at hl
  ·rename_i hq
   rcases List.mem_cons.1 hp with rfl|hp
   ·cases hg:h.get p.1 with
    |none=>rw [hg] at hq;cases hq
    |some r=>
     rw [hg] at hq
     rw [aef (show sameRow p.2 r=true from hq)]
   ·exact ih hl hp
  ·cases hl
theorem ah9 {b l:List Nat}(h:allIn b l=true){j:Nat}(hj:j∈l):j∈b:=by
 induction l with
 |nil=>cases hj
 |cons a t ih=>
  have h:sel (vZ a b) (allIn b t) false=true:=h
  rw [aG] at h
  split at h
  ·rename_i ha
   rcases List.mem_cons.1 hj with rfl|hj
   ·rw [xQ] at ha;simpa using ha
   ·exact ih h hj
  ·cases h
theorem NU {h:Hp (List Nat)}{l:List (Nat × List Nat)}(hl:AU h l=true){p:Nat × List Nat}(hp:p∈l):∃ b,h.get p.1=some b∧∀ j,j∈p.2→j∈b:=by
 induction l with
 |nil=>cases hp
 |cons q t ih=>
  have hl:sel (Option.casesOn (h.get q.1) false fun b=>allIn b q.2) (AU h t) false=true:=hl
  rw [aG] at hl
  split at hl
  ·rename_i hq
   rcases List.mem_cons.1 hp with rfl|hp
   ·cases hg:h.get p.1 with
    |none=>rw [hg] at hq;cases hq
    |some b=>
     rw [hg] at hq
     exact ⟨b,rfl,fun j hj=>ah9 hq hj⟩
   ·exact ih hl hp
  ·cases hl
theorem Ot {α:Type}{q:α→Bool}{l:List α}(h:(List.rec true (fun p _ ih=>sel (q p) ih false) l:Bool)=true){p:α}(hp:p∈l):q p=true:=by
 induction l with
 |nil=>cases hp
 |cons a t ih=>
  have h:sel (q a) (List.rec true (fun p _ ih=>sel (q p) ih false) t) false=true:=h
  rw [aG] at h
  split at h
  ·rename_i ha
   rcases List.mem_cons.1 hp with rfl|hp
   ·exact ha
   ·exact ih h hp
  ·cases h
theorem Bl {α:Type}{l:List (Nat × α)}{i:Nat}(h:keyed l i=true):∃ a,dQ l i=some a:=Option.isSome_iff_exists.1 h
section
variable {P:Program} {base:Nat} {ρ ρ1:Ren} {s s' S1:St} {w w':World}
theorem FC {b:Nat}{t:Nat→TypeId}:∀ {L:Low} {i:Nat} {r:Row},(alC b t L).get i=some r→i<ak∧∃ x∈L,x.1=i∧r = .row x.2 (t i) 0
 |[],i,r,h=>by
  have h:(Hp.s b 0:Hp Row).get i=some r:=h
  rw [Hp.vX] at h
  cases h
 |x::L,i,r,h=>by
  have h:(sel (qae ak x.1) (alC b t L) (Hp.set (alC b t L) x.1 (.row x.2 (t x.1) 0))).get i=some r:=h
  rw [aG] at h
  split at h
  ·obtain ⟨h1,y,hy,h2,h3⟩:=FC h
   exact ⟨h1,y,qah _ hy,h2,h3⟩
  ·rename_i hb
   rw [Hp.iR] at h
   split at h
   ·rename_i e
    cases h
    subst e
    refine ⟨?_,x,qai,rfl,rfl⟩
    have:¬ak≤x.1:=fun hle=>hb (Nat.ble_eq_true_of_le hle)
    omega
   ·obtain ⟨h1,y,hy,h2,h3⟩:=FC h
    exact ⟨h1,y,qah _ hy,h2,h3⟩
def GR (s:St)(i:Nat):TypeId:=
 match s.heap.get i with
 |some (.row _ e _)=>e
 |_=>0
theorem Qv:∀ {g0:Low},aoC g0 s=true→∀ x∈g0,s.heap.get x.1=some (.row x.2 (GR s x.1) 0)
 |[],_,x,hx=>by cases hx
 |y::g0,h,x,hx=>by
  have h:sel (Option.casesOn (s.heap.get y.1) false fun r=>rowIs y.2 r) (aoC g0 s) false=true:=h
  rw [aG] at h
  split at h
  ·rename_i hy
   rcases List.mem_cons.1 hx with rfl|hx
   ·cases hg:s.heap.get x.1 with
    |none=>rw [hg] at hy;cases hy
    |some r=>
     rw [hg] at hy
     cases r with
     |row cs t f=>
      have hy:(qab f 0&&zl (Ad 4) x.2 cs)=true:=hy
      simp only [qac] at hy
      have e:GR s x.1=t:=by unfold GR;rw [hg]
      rw [e,qaa hy.1,qh (fun a b=>oJ 4) hy.2]
     |_=>cases hy
   ·exact Qv h x hx
  ·cases h
theorem Tpl.sub {g0:Low}{T:Tpl}{t:Nat→TypeId}(h1:s.next=T.next)(h2:∀ x∈g0,s.heap.get x.1=some (.row x.2 (t x.1) 0))(h3:Ak s.heap T.pre=true)(h4:AU s.bQ T.uq=true):Sub (T.start g0 t) s where
 next:=h1.symm
 row:=fun i r hi=>by
  rcases ji hi with hf|⟨_,hg⟩
  ·exact Ox h3 (fO hf)
  ·obtain ⟨_,x,hx,rfl,rfl⟩:=FC hg
   exact h2 x hx
 fam:=fun f l hf=>by
  rcases ji hf with hf|⟨_,hg⟩
  ·exact NU h4 (fO hf)
  ·rw [Hp.vX] at hg;cases hg
theorem ac1 {i j:Nat}(h:s.tag j=some (0,i)):j=i:=by
 unfold St.tag at h
 split at h
 ·split at h
  ·simpa using h
  ·split at h
   ·split at h <;> simp at h
   ·cases h
 ·simpa using h
 ·simpa using h
 ·cases h
theorem tag_some {j:Nat}{a:Nat × Nat}(h:s.tag j=some a):∃ r,s.heap.get j=some r:=by
 cases hg:s.heap.get j with
 |none=>unfold St.tag at h;simp [hg] at h
 |some r=>exact ⟨r,rfl⟩
theorem anx {j f:Nat}(h:s.tag j=some (1,f)):∃ l,s.bQ.get f=some l:=by
 unfold St.tag at h
 split at h
 ·split at h
  ·simp at h
  ·split at h
   ·rename_i l hl
    split at h
    ·simp at h;subst h;exact ⟨l,hl⟩
    ·cases h
   ·cases h
 ·simp at h
 ·simp at h
 ·cases h
theorem Tpl.look {g0:Low}{T:Tpl}{t:Nat→TypeId}(hf:T.fine=true)(hr:Ak S1.heap T.post=true)(hq:AU S1.bQ T.Ci=true){i:Nat}{r:Row}(hi:(T.over s).heap.get i=some r) :
  (ak≤i∧S1.heap.get i=some r∧∀ f,ama r=f→f≠0→∀ l,(T.over s).bQ.get f=some l→i∈l→∃ b,S1.bQ.get f=some b∧i∈b)∨
  (s.heap.get i=some r∧(∀ j,ak≤j→(T.start g0 t).tag j≠some (0,i))∧
   ∀ f,ama r=f→f≠0→∀ l,(T.over s).bQ.get f=some l→i∈l→(∃ b,s.bQ.get f=some b∧i∈b)∧∀ j,ak≤j→(T.start g0 t).tag j≠some (1,f)):=by
 unfold Tpl.fine at hf
 simp only [qac] at hf
 obtain ⟨f1,f2,f3,f4⟩:=hf
 rcases ji hi with hp|⟨hn,hg⟩
 ·left
  have hm:=fO hp
  have hx:=Ot f2 hm
  simp only [qac,qaw] at hx
  refine ⟨qad hx.1,Ox hr hm,?_⟩
  rintro f rfl h0 l hl hil
  rcases hx.2 with hz|hk
  ·exact absurd (qaa hz) h0
  ·obtain ⟨l1,hl1⟩:=Bl hk
   rcases ji hl with hl'|⟨hl',_⟩
   ·obtain ⟨b,hb,hs⟩:=NU hq (fO hl')
    exact ⟨b,hb,hs i hil⟩
   ·rw [hl1] at hl';cases hl'
 ·right
  refine ⟨hg,?_,?_⟩
  ·intro j hj hjt
   have e:=ac1 hjt
   subst e
   obtain ⟨q,hq'⟩:=tag_some hjt
   rcases ji hq' with hp|⟨_,hz⟩
   ·have hx:=Ot f1 (fO hp)
    simp only [qac] at hx
    obtain ⟨a,ha⟩:=Bl hx.2
    rw [hn] at ha;cases ha
   ·obtain ⟨hlt,_⟩:=FC hz
    omega
  ·rintro f rfl h0 l hl hil
   rcases ji hl with hl'|⟨hl',hl2⟩
   ·have hx:=Ot f4 (fO hl')
    have:=Ot (q:=fun x=>keyed T.post x) hx hil
    obtain ⟨a,ha⟩:=Bl this
    rw [hn] at ha;cases ha
   ·refine ⟨⟨l,hl2,hil⟩,?_⟩
    intro j hj hjt
    obtain ⟨l1,hl1⟩:=anx hjt
    rcases ji hl1 with hp|⟨_,hz⟩
    ·have hx:=Ot f3 (fO hp)
     obtain ⟨a,ha⟩:=Bl hx
     rw [hl'] at ha;cases ha
    ·rw [Hp.vX] at hz;cases hz
theorem Tpl.aoW {g0:Low}{T:Tpl}{t:Nat→TypeId}(hf:T.fine=true)(hr:Ak S1.heap T.post=true)(hq:AU S1.bQ T.Ci=true)(hn:S1.next=T.next')
  (hd:∀ i r,S1.heap.get i=some r→i<S1.next) (hfd:∀ i cs e f,S1.heap.get i=some (.row cs e f)→f<S1.next)
  (hd0:∀ i r,s.heap.get i=some r→i<S1.next) (hfd0:∀ i cs e f,s.heap.get i=some (.row cs e f)→f<S1.next):Over (T.start g0 t) S1 s (T.over s) where
 next:=hn.symm
 dom:=fun i r hi=>by
  rcases Tpl.look (g0:=g0) (t:=t) hf hr hq hi with ⟨_,h,_⟩|⟨h,_⟩
  ·exact hd i r h
  ·exact hd0 i r h
 aor:=fun i cs e f hi=>by
  rcases Tpl.look (g0:=g0) (t:=t) hf hr hq hi with ⟨_,h,_⟩|⟨h,_⟩
  ·exact hfd i cs e f h
  ·exact hfd0 i cs e f h
 tag:=fun i a hi=>by
  obtain ⟨r,hr'⟩:=tag_some hi
  have hlook:=Tpl.look (g0:=g0) (t:=t) hf hr hq hr'
  unfold St.tag at hi
  rw [hr'] at hi
  cases r with
  |row cs e f=>
   simp only at hi
   by_cases h0:f=0
   ·simp only [h0,if_true] at hi
    cases hi
    rcases hlook with ⟨h1,h2,_⟩|⟨h1,h2,_⟩
    ·exact .inl ⟨h1,by unfold St.tag;rw [h2];simp [h0]⟩
    ·exact .inr ⟨by unfold St.tag;rw [h1];simp [h0],h2⟩
   ·simp only [h0,if_false] at hi
    split at hi
    ·rename_i l hl
     split at hi
     ·rename_i hm
      cases hi
      rcases hlook with ⟨h1,h2,h3⟩|⟨h1,h2,h3⟩
      ·obtain ⟨b,hb,hib⟩:=h3 f rfl h0 l hl hm
       exact .inl ⟨h1,by unfold St.tag;rw [h2];simp [h0,hb,hib]⟩
      ·obtain ⟨⟨b,hb,hib⟩,h4⟩:=h3 f rfl h0 l hl hm
       exact .inr ⟨by unfold St.tag;rw [h1];simp [h0,hb,hib],h4⟩
     ·cases hi
    ·cases hi
  |map es c=>
   cases hi
   rcases hlook with ⟨h1,h2,_⟩|⟨h1,h2,_⟩
   ·exact .inl ⟨h1,l7 h2⟩
   ·exact .inr ⟨l7 h1,h2⟩
  |loop q=>
   cases hi
   rcases hlook with ⟨h1,h2,_⟩|⟨h1,h2,_⟩
   ·exact .inl ⟨h1,jD h2⟩
   ·exact .inr ⟨jD h1,h2⟩
  |other=>cases hi
 cells:=fun i c hc=>by
  obtain ⟨cs,e,f⟩:=c
  obtain ⟨h1,h2⟩:=aK.1 hc
  rcases Tpl.look (g0:=g0) (t:=t) hf hr hq h1 with ⟨_,g1,g2⟩|⟨g1,g2,g3⟩
  ·left
   refine aK.2 ⟨g1,?_⟩
   rcases h2 with h2|⟨l,hl,hm⟩
   ·exact .inl h2
   ·by_cases h0:f=0
    ·exact .inl h0
    ·exact .inr (g2 f rfl h0 l hl hm)
  ·right
   by_cases h0:f=0
   ·have hc':s.cells i=some (cs,e,f):=aK.2 ⟨g1,.inl h0⟩
    refine ⟨hc',fun j hj=>?_⟩
    rw [cZ hc',if_pos h0]
    exact g2 j hj
   ·rcases h2 with h2|⟨l,hl,hm⟩
    ·exact absurd h2 h0
    ·obtain ⟨h3,h4⟩:=g3 f rfl h0 l hl hm
     have hc':s.cells i=some (cs,e,f):=aK.2 ⟨g1,.inr h3⟩
     refine ⟨hc',fun j hj=>?_⟩
     rw [cZ hc',if_neg h0]
     exact h4 j hj
 maps:=fun i es c hi=>by
  rcases Tpl.look (g0:=g0) (t:=t) hf hr hq hi with ⟨_,h,_⟩|⟨h,h2,_⟩
  ·exact .inl h
  ·exact .inr ⟨h,h2⟩
 loops:=fun i q hi=>by
  rcases Tpl.look (g0:=g0) (t:=t) hf hr hq hi with ⟨_,h,_⟩|⟨h,h2,_⟩
  ·exact .inl h
  ·exact .inr ⟨h,h2⟩
theorem agC {C:Cfg}(hK:dS C P){n:Nat}{f:FuncId}{g0:Low}{T:Tpl}(hf:T.fine=true)(hrun:∀ t,Lj T ((um C n).1 f T.args (T.start g0 t))=true)
  {args:List Value} {v:Value} (hv:auG g0 T s args=some (v,s')) {aW:List Value} (hr:HR P base ρ s w) (ha:VRs ρ args aW) :
  Calls P f ⟨aW⟩ w fun e w'=>∃ c ρ',e = .returned c∧Goes P base ρ s w ρ' s' w'∧VR ρ' v c:=by
 obtain ⟨hg,hv⟩:=au.1 hv
 simp only [qac] at hg
 obtain ⟨h1,h2,h3,h4,h5⟩:=hg
 have hargs:=qh (fun a b=>oJ 4) h2
 have ht:=Qv h3
 have hs:=Tpl.sub (t:=GR s) (qaa h1) ht h4 h5
 have hrt:=hrun (GR s)
 rw [BD] at hrt
 unfold Lj at hrt
 cases hrr:(runN C n).1 f T.args (T.start g0 (GR s)) with
 |none=>rw [hrr] at hrt;cases hrt
 |some q=>
  obtain ⟨v1,S1⟩:=q
  rw [hrr] at hrt
  have hrt:(Ad 4 T.val v1&&(qab S1.next T.next'&&(Ak S1.heap T.post&&AU S1.bQ T.Ci)))=true:=hrt
  simp only [qac] at hrt
  obtain ⟨g1,g2,g3,g4⟩:=hrt
  have e1:=oJ 4 g1
  cases hv
  subst hargs
  rw [←e1] at hrr
  refine ((pJ hK n).1 f T.args _ _ S1 hrr base ρ w aW (hr.less hs) ha).mono ?_
  rintro e w' ⟨c,ρ',rfl,hgo,hvc⟩
  have hnx:s.next≤S1.next:=by rw [←hs.next];exact hgo.next
  exact ⟨c,ρ',rfl,Goes.over hr hs hgo (Tpl.aoW hf g3 g4 (qaa g2) hgo.hr.dF hgo.hr.eP
   (fun i r hi=>qat (hr.dF i r hi) hnx) (fun i cs e f hi=>qat (hr.eP i cs e f hi) hnx)),hvc⟩
def og (P:Program)(g0:Low)(f:FuncId)(T:Tpl):Prop:=T.fine=true∧∃ C n,dS C P∧∀ t,Lj T ((um C n).1 f T.args (T.start g0 t))=true
theorem P9 {f:FuncId}{g0:Low}:∀ {l:List Tpl},(∀ T,T∈l→og P g0 f T)→
  ∀ {args:List Value} {v:Value},OB g0 l s args=some (v,s')→∀ {aW:List Value},HR P base ρ s w→VRs ρ args aW→
  Calls P f ⟨aW⟩ w fun e w'=>∃ c ρ',e = .returned c∧Goes P base ρ s w ρ' s' w'∧VR ρ' v c
 |[],_,_,_,h,_,_,_=>by cases h
 |T::l,hl,args,v,h,aW,hr,ha=>by
  have h:Option.casesOn (auG g0 T s args) (OB g0 l s args) some=some (v,s'):=h
  cases ht:auG g0 T s args with
  |none=>rw [ht] at h;exact P9 (fun T' h'=>hl T' (qah _ h')) h hr ha
  |some q=>
   rw [ht] at h
   have h:some q=some (v,s'):=h
   cases h
   obtain ⟨h1,C,n,hK,h2⟩:=hl T qai
   exact agC hK h1 h2 ht hr ha
def dI (P:Program)(C:Cfg)(L:List (Nat × Con)):Prop:=
 ∀ f t,dQ L f=some t→∀ args s v s',lJ C t s args=some (v,s')→∀ base ρ w aW,HR P base ρ s w→VRs ρ args aW→
  Calls P f ⟨aW⟩ w fun e w'=>∃ c ρ',e = .returned c∧Goes P base ρ s w ρ' s' w'∧VR ρ' v c
theorem dI.tpl {C:Cfg}{L:List (Nat × Con)}{f0:FuncId}{g0:Low}{l:List Tpl}(hl:∀ T,T∈l→og P g0 f0 T)(hL:dI P C L):dI P C ((f0,.fn (OB g0 l))::L):=by
 intro f t h args s v s' hv base ρ w aW hr ha
 have h':sel (qab f0 f) (some (Con.fn (OB g0 l))) (dQ L f)=some t:=h
 rw [aG] at h'
 split at h'
 ·rename_i hb
  cases h'
  have hf:f0=f:=qaa hb
  subst hf
  exact P9 hl hv hr ha
 ·exact hL f t h' args s v s' hv base ρ w aW hr ha
theorem dI.to {C C':Cfg}{L:List (Nat × Con)}(h:dI P C L)(hP:C'.P=C.P):dI P C' L:=by
 intro f t hf args s v s' hv
 refine h f t hf args s v s' ?_
 cases t with
 |insert e=>
  have hv:xI C' e s args=some (v,s'):=hv
  show xI C e s args=some (v,s')
  unfold xI at hv ⊢
  simp only [hP] at hv
  exact hv
 |closed ok=>exact hv
 |fn F=>exact hv
 |pure G=>exact hv
 |tree F=>exact hv
theorem yu {f:FuncId}{g0:Low}:∀ T,T∈([]:List Tpl)→og P g0 f T:=fun _ h=>absurd h List.not_mem_nil
theorem jf {f:FuncId}{g0:Low}{T:Tpl}{l:List Tpl}(h:og P g0 f T)(hl:∀ T,T∈l→og P g0 f T):∀ T',T'∈T::l→og P g0 f T':=fun T' h'=>by
 rcases List.mem_cons.1 h' with e|e
 ·exact e▸h
 ·exact hl T' e
end
end
end Go.Ax
namespace Go.Ax
open Go
noncomputable section
inductive je where
 |raw (v:Value)
 |sl (cs:List Value) (e:TypeId) (n:Nat)
inductive fM where
 |one (c:je)
 |agg (l:List je)
inductive gX where
 |flat (v:Value)
 |sl (k n:Nat)
inductive jk where
 |one (c:gX)
 |agg (l:List gX)
structure cO where
 val:List jk
 rows:List (List Value × TypeId)
def gX.val (N:Nat)(c:gX):Value:=
 match c with
 |.flat v=>v
 |.sl k n=>.slice (some ⟨qag N k,0,none⟩) n aF
def jk.val (N:Nat)(c:jk):Value:=
 match c with
 |.one c=>c.val N
 |.agg l=>FM (zq (fun c=>c.val N) l)
def cO.value (r:cO)(N:Nat):Value:=tuple (zq (fun c=>c.val N) r.val)
def fC (s:St)(rows:List (List Value × TypeId)):St:=List.rec (fun s=>s) (fun r _ ih s=>ih (SH s r.1 r.2)) rows s
def oU (v:Value):Bool:=
 match v with
 |.slice none _ _=>true
 |.slice (some a) n c=>a.spot.isNone&&(qab a.block fF&&(qab a.off 0&&(qab n 0&&qab c aF)))
 |.pointer none=>true
 |.nilIface=>true
 |.nilFunc=>true
 |.map none=>true
 |.chan _=>true
 |v=>kV v
def opV (v:Value):Value:=
 match v with
 |.slice (some _) n _=>.float .f64 n
 |v=>v
def ahh (v:Value):Bool:=
 match v with
 |.slice _ _ _=>true
 |.float .f64 _=>true
 |v=>kV v
def ajJ:List Value→Bool:=fun l=>List.rec true (fun a _ ih=>sel (ahh a) ih false) l
def anq (v:Value):Bool:=
 match v with
 |.slice none _ _=>true
 |.float .f64 _=>true
 |v=>kV v
def agV:List Value→Bool:=fun l=>List.rec true (fun a _ ih=>sel (anq a) ih false) l
def am5 (P:Program)(e:TypeId):Bool:=
 match P.underlying e with
 |some (.slice _)=>true
 |_=>false
def Zy (P:Program)(e:TypeId)(cs:List Value):Bool:=sel (am5 P e) (ajJ cs) (flatAll cs)
def rowOf (P:Program)(e:TypeId)(cs:List Value):List Value:=sel (am5 P e) (zq opV cs) cs
def rowFine (P:Program)(e:TypeId)(cs:List Value):Bool:=sel (am5 P e) (agV cs) (flatAll cs)
def Ui (f o c sz len n:Nat):Bool:=sel (qab f 0) (ltN c bf&&(qae (qag o (qaj c sz)) len&&qae n c)) (Jc o c sz&&(qae bf c&&qae o len))
def bY {α:Type}(b:Bool)(t:Tree α):Tree α:=.test b t .fail
def aiU (P:Program)(s:St)(v:Value)(k:je→Tree cO):Tree cO:=
 sel (oU v) (k (.raw v)) (match v with
  |.slice (some a) n c=>sel (a.spot.isNone) (Option.rec .fail (fun r=>Option.rec .fail (fun sz=>bY (qae 1 sz&&(Ui r.2.2 a.off c sz (aQ r.1) n&&(qab (qaj n sz) (aQ (bJ a.off r.1))&&Zy P r.2.1 (bJ a.off r.1))))
    (k (.sl (rowOf P r.2.1 (bJ a.off r.1)) r.2.1 n))) (size P r.2.1)) (s.cells a.block)) .fail
  |_=>.fail)
def afo (P:Program)(s:St)(l:List Value)(k:List je→Tree cO):Tree cO:=
 List.rec (fun k=>k []) (fun v _ ih k=>aiU P s v fun c=>ih fun cs=>k (c::cs)) l k
def alA (P:Program)(s:St)(v:Value)(k:fM→Tree cO):Tree cO:=
 match v with
 |.agg ⟨l⟩=>afo P s l fun cs=>k (.agg cs)
 |v=>aiU P s v fun c=>k (.one c)
def af9 (P:Program)(s:St)(l:List Value)(k:List fM→Tree cO):Tree cO:=
 List.rec (fun k=>k []) (fun v _ ih k=>alA P s v fun c=>ih fun cs=>k (c::cs)) l k
def Tree.map {α β:Type}(g:α→β)(t:Tree α):Tree β:=Tree.rec .fail (fun a=>.leaf (g a)) (fun b _ _ x y=>.test b x y) t
def je.rows (c:je):List (List Value × TypeId):=
 match c with
 |.raw _=>[]
 |.sl cs e _=>[(cs,e)]
def je.val (k:Nat)(c:je):Value:=
 match c with
 |.raw v=>v
 |.sl _ _ n=>.slice (some ⟨qag dW k,0,none⟩) n aF
def je.fine (P:Program)(c:je):Prop:=
 match c with
 |.raw v=>oU v=true
 |.sl cs e n=>rowFine P e cs=true∧∃ sz,size P e=some sz∧0<sz∧n*sz=cs.length
def uo:List je→List (List Value × TypeId):=fun l=>List.rec [] (fun c _ ih=>aI c.rows ih) l
def wW:List je→Nat→List Value:=fun l=>List.rec (fun _=>[]) (fun c _ ih k=>c.val k::ih (qag k (aQ c.rows))) l
def fM.rows (c:fM):List (List Value × TypeId):=
 match c with
 |.one c=>c.rows
 |.agg l=>uo l
def fM.val (k:Nat)(c:fM):Value:=
 match c with
 |.one c=>c.val k
 |.agg l=>FM (wW l k)
def fM.fine (P:Program)(c:fM):Prop:=
 match c with
 |.one c=>c.fine P
 |.agg l=>∀ c∈l,c.fine P
def lH:List fM→List (List Value × TypeId):=fun l=>List.rec [] (fun c _ ih=>aI c.rows ih) l
def wY:List fM→Nat→List Value:=fun l=>List.rec (fun _=>[]) (fun c _ ih k=>c.val k::ih (qag k (aQ c.rows))) l
def zo (P:Program)(G:List fM→Tree cO)(s:St)(args:List Value):Tree (Value × St):=
 (af9 P s args fun cs=>bY (qae (aQ (lH cs)) 31) (G cs)).map fun r=>(r.value s.next,fC s r.rows)
def zI (rows:List (List Value × TypeId)):St:=
 (List.rec (motive:=fun _=>Nat→St→St) (fun _ s=>s) (fun r _ ih k s=>ih (qak k) { heap:=s.heap.set k (.row r.1 r.2 k),bQ:=s.bQ.set k [k],next:=s.next }) rows) dW { heap:=.s 15 0,bQ:=.s 15 0,next:=64 }
def aP (l:List fM):St:=zI (lH l)
def bH (l:List fM):List Value:=wY l 0
end
theorem oC:∀ (rows:List (List Value × TypeId)) (s:St),(fC s rows).next=s.next+rows.length∧
  (∀ i,(fC s rows).heap.get i=if s.next≤i∧i<s.next+rows.length then (rows[i-s.next]?).map (fun r=>Row.row r.1 r.2 i) else s.heap.get i)∧
  (∀ i,(fC s rows).bQ.get i=if s.next≤i∧i<s.next+rows.length then some [i] else s.bQ.get i)
 |[],s=>by
  refine ⟨rfl,fun i=>?_,fun i=>?_⟩ <;>
  ·rw [if_neg (by simp only [qaD];omega)];rfl
 |r::rows,s=>by
  obtain ⟨h1,h2,h3⟩:=oC rows (SH s r.1 r.2)
  have e:fC s (r::rows)=fC (SH s r.1 r.2) rows:=rfl
  have hn:(SH s r.1 r.2).next=s.next+1:=rfl
  rw [hn] at h1 h2 h3
  rw [e]
  refine ⟨by rw [h1];simp;omega,fun i=>?_,fun i=>?_⟩
  ·rw [h2 i]
   by_cases hi:s.next+1≤i∧i<s.next+1+rows.length
   ·rw [if_pos hi,if_pos (by simp;omega)]
    rw [show i-s.next=(i-(s.next+1))+1 by omega]
    rfl
   ·rw [if_neg hi]
    show (s.heap.set s.next (.row r.1 r.2 s.next)).get i=_
    rw [Hp.iR]
    by_cases e:i=s.next
    ·subst e
     rw [if_pos rfl,if_pos (by simp)]
     simp
    ·rw [if_neg e,if_neg (by simp;omega)]
  ·rw [h3 i]
   by_cases hi:s.next+1≤i∧i<s.next+1+rows.length
   ·rw [if_pos hi,if_pos (by simp;omega)]
   ·rw [if_neg hi]
    show (s.bQ.set s.next [s.next]).get i=_
    rw [Hp.iR]
    by_cases e:i=s.next
    ·subst e
     rw [if_pos rfl,if_pos (by simp)]
    ·rw [if_neg e,if_neg (by simp;omega)]
noncomputable def adL:List (List Value × TypeId)→Nat→St→St:=fun rows=>
 List.rec (motive:=fun _=>Nat→St→St) (fun _ s=>s) (fun r _ ih k s=>ih (qak k) { heap:=s.heap.set k (.row r.1 r.2 k),bQ:=s.bQ.set k [k],next:=s.next }) rows
theorem QV:∀ (rows:List (List Value × TypeId)) (k:Nat) (s:St),(adL rows k s).next=s.next∧
  (∀ i,(adL rows k s).heap.get i=if k≤i∧i<k+rows.length then (rows[i-k]?).map (fun r=>Row.row r.1 r.2 i) else s.heap.get i)∧
  (∀ i,(adL rows k s).bQ.get i=if k≤i∧i<k+rows.length then some [i] else s.bQ.get i)
 |[],k,s=>by
  refine ⟨rfl,fun i=>?_,fun i=>?_⟩ <;>
  ·rw [if_neg (by simp only [qaD];omega)];rfl
 |r::rows,k,s=>by
  obtain ⟨h1,h2,h3⟩:=QV rows (k+1) { heap:=s.heap.set k (.row r.1 r.2 k),bQ:=s.bQ.set k [k],next:=s.next }
  have e:adL (r::rows) k s=adL rows (k+1) { heap:=s.heap.set k (.row r.1 r.2 k),bQ:=s.bQ.set k [k],next:=s.next }:=rfl
  rw [e]
  refine ⟨h1,fun i=>?_,fun i=>?_⟩
  ·rw [h2 i]
   by_cases hi:k+1≤i∧i<k+1+rows.length
   ·rw [if_pos hi,if_pos (by simp;omega)]
    rw [show i-k=(i-(k+1))+1 by omega]
    rfl
   ·rw [if_neg hi,Hp.iR]
    by_cases e:i=k
    ·subst e
     rw [if_pos rfl,if_pos (by simp)]
     simp
    ·rw [if_neg e,if_neg (by simp;omega)]
  ·rw [h3 i]
   by_cases hi:k+1≤i∧i<k+1+rows.length
   ·rw [if_pos hi,if_pos (by simp;omega)]
   ·rw [if_neg hi,Hp.iR]
    by_cases e:i=k
    ·subst e
     rw [if_pos rfl,if_pos (by simp)]
    ·rw [if_neg e,if_neg (by simp;omega)]
theorem akW (rows:List (List Value × TypeId)):zI rows=adL rows dW { heap:=.s 15 0,bQ:=.s 15 0,next:=64 }:=rfl
theorem mY (rows:List (List Value × TypeId)):(zI rows).next=64∧
  (∀ i,(zI rows).heap.get i=if dW≤i∧i<dW+rows.length then (rows[i-dW]?).map (fun r=>Row.row r.1 r.2 i) else none)∧
  (∀ i,(zI rows).bQ.get i=if dW≤i∧i<dW+rows.length then some [i] else none):=by
 obtain ⟨h1,h2,h3⟩:=QV rows dW { heap:=.s 15 0,bQ:=.s 15 0,next:=64 }
 rw [akW]
 refine ⟨h1,fun i=>?_,fun i=>?_⟩
 ·rw [h2 i];rfl
 ·rw [h3 i];rfl
theorem UC {s:St}{i:Nat}{cs:List Value}{e:TypeId}(h0:i≠0)(h1:s.heap.get i=some (.row cs e i))(h2:s.bQ.get i=some [i]):s.tag i=some (1,i)∧s.cells i=some (cs,e,i):=by
 have hc:s.cells i=some (cs,e,i):=aK.2 ⟨h1,.inr ⟨[i],h2,by simp⟩⟩
 exact ⟨by rw [cZ hc,if_neg h0],hc⟩
@[reducible] noncomputable def qm (bn:List Loc):Lo:=⟨fun i=>if i<dW then ⟨i,0,0⟩ else (bn[i-dW]?).getD ⟨0,0,0⟩,fun i h=>by simp [h]⟩
structure aes (P:Program) (w:World) (r:List Value × TypeId) (l:Loc):Prop where
 arr:∃ (a:Array Value) (fz:Nat × Nat) (sz:Nat),(∃ e':TypeId,w.heap[l.blk]? = some (.cells a e' fz))∧(∀ (j:Nat) (x:Value),r.1[j]? = some x→∃ y,a[l.off+j]? = some y∧∀ (lo:Lo) (ρ:Ren),@VR lo ρ x y)∧
  size P r.2=some sz∧0<sz∧l.off+l.cap*sz≤a.size∧r.1.length≤l.cap*sz
inductive kC (P:Program) (w:World):List (List Value × TypeId)→List Loc→Prop
 |nil:kC P w [] []
 |cons {r:List Value × TypeId} {l:Loc} {rs:List (List Value × TypeId)} {ls:List Loc} (h:aes P w r l) (ht:kC P w rs ls):kC P w (r::rs) (l::ls)
theorem kC.append {P:Program}{w:World}:∀ {rs:List (List Value × TypeId)} {ls:List Loc} {rs':List (List Value × TypeId)} {ls':List Loc},kC P w rs ls→kC P w rs' ls'→kC P w (rs++rs') (ls++ls')
 |_,_,_,_,.nil,h=>h
 |_,_,_,_,.cons h ht,h'=>.cons h (kC.append ht h')
theorem kC.length {P:Program}{w:World}:∀ {rs:List (List Value × TypeId)} {ls:List Loc},kC P w rs ls→ls.length=rs.length
 |_,_,.nil=>rfl
 |_,_,.cons _ ht=>by simp [kC.length ht]
theorem kC.get {P:Program}{w:World}:∀ {rs:List (List Value × TypeId)} {ls:List Loc},kC P w rs ls→∀ {k:Nat} {r:List Value × TypeId},rs[k]? = some r→∃ l,ls[k]? = some l∧aes P w r l
 |_,_,.cons h ht,0,r,hr=>by simp at hr;subst hr;exact ⟨_,rfl,h⟩
 |_,_,.cons h ht,k+1,r,hr=>by simp at hr;simpa using kC.get ht hr
 |_,_,.nil,k,r,hr=>by simp at hr
theorem amZ {P:Program}{w:World}{rows:List (List Value × TypeId)}{bn:List Loc}(h:kC P w rows bn)(hlen:rows.length≤31):@HR (qm bn) P w.heap.size (fun _=>none) (zI rows) w:=by
 obtain ⟨h1,h2,h3⟩:=mY rows
 have e1:dW=32:=rfl
 have e2:ak=64:=rfl
 have e3:fF=63:=rfl
 have hrow:∀ i r,(zI rows).heap.get i=some r→dW≤i∧i<dW+rows.length∧∃ p l,rows[i-dW]? = some p∧r = .row p.1 p.2 i∧aes P w p l∧(@Lo.lo (qm bn) i)=l:=by
  intro i r hi
  rw [h2 i] at hi
  split at hi
  ·rename_i hh
   obtain ⟨p,hp,rfl⟩:=Option.map_eq_some_iff.1 hi
   obtain ⟨l,hl,hat⟩:=h.get hp
   refine ⟨hh.1,hh.2,p,l,hp,rfl,hat,?_⟩
   show (if i<dW then (⟨i,0,0⟩:Loc) else (bn[i-dW]?).getD ⟨0,0,0⟩)=l
   rw [if_neg (by omega),hl]
   rfl
  ·cases hi
 have hcell:∀ i cs e f,(zI rows).cells i=some (cs,e,f)→dW≤i∧i<dW+rows.length∧f=i∧∃ l,aes P w (cs,e) l∧(@Lo.lo (qm bn) i)=l:=by
  intro i cs e f hc
  obtain ⟨g1,_⟩:=aK.1 hc
  obtain ⟨a1,a2,p,l,_,g4,g5,g6⟩:=hrow i _ g1
  injection g4 with q1 q2 q3
  subst q1 q2 q3
  exact ⟨a1,a2,rfl,l,g5,g6⟩
 have hblk:∀ r l,aes P w r l→l.blk<w.heap.size:=by
  rintro r l ⟨a,fz,sz,⟨_,ha⟩,_⟩
  exact (Array.getElem?_eq_some_iff.1 ha).1
 refine @HR.mk (qm bn) P w.heap.size (fun _=>none) (zI rows) w (fun _ _ h=>by cases h) (by rw [h1];exact qau _) (qau _) (fun i hi ht=>?_) (fun i r hi=>?_) (fun i cs e f hi=>?_) (fun i cs e f hc=>?_) (fun i es c hi=>?_) (fun i r hi=>?_) (fun i j a b l l' hi hj hab hl hl' hh=>?_)
 ·cases ht':(zI rows).tag i with
  |none=>exact absurd ht' ht
  |some a=>
   obtain ⟨r,hr⟩:=tag_some ht'
   obtain ⟨a1,a2,p,l,_,_,g5,g6⟩:=hrow i _ hr
   rw [g6]
   exact ⟨hblk _ _ g5,by omega⟩
 ·obtain ⟨a1,a2,_⟩:=hrow i r hi
  rw [h1];omega
 ·obtain ⟨a1,a2,p,l,_,g4,_⟩:=hrow i _ hi
  injection g4 with _ _ q3
  rw [h1];omega
 ·obtain ⟨a1,a2,hfi,l,hrw,g6⟩:=hcell i cs e f hc
  obtain ⟨a,fz,sz,ha,hv,hsz,h0,hle,hle2⟩:=hrw
  have hf0:f≠0:=by omega
  have ayO:@Ren.at (qm bn) (fun _=>none) i=some l:=by rw [@Ren.kD (qm bn) (fun _=>none) i (by omega),g6]
  exact ⟨l,@ajP.mk (qm bn) P (fun _=>none) w i cs e f l ayO ⟨a,fz,ha.imp fun _ h=>⟨h,fun hh=>by rcases hh with hh|hh <;> omega⟩,fun j x hj=>(hv j x hj).imp fun y hy=>⟨hy.1,hy.2 _ _⟩,fun hh=>absurd hh (by omega),fun hh=>absurd hh hf0,fun _=>⟨sz,hsz,h0,hle,hle2⟩⟩⟩
 ·obtain ⟨_,_,p,l,_,g4,_⟩:=hrow i _ hi
  cases g4
 ·obtain ⟨_,_,p,l,_,g4,_⟩:=hrow i _ hi
  cases g4
 ·obtain ⟨r,hr⟩:=tag_some hi
  obtain ⟨r',hr'⟩:=tag_some hj
  obtain ⟨a1,a2,_⟩:=hrow i _ hr
  obtain ⟨b1,b2,_⟩:=hrow j _ hr'
  omega
end Go.Ax
namespace Go.Ax
open Go
theorem aJ {α:Type}{b:Bool}{t:Tree α}{r:α}(h:(bY b t).run=some r):b=true∧t.run=some r:=by
 cases b with
 |true=>exact ⟨rfl,h⟩
 |false=>cases h
theorem Tree.map_some {α β:Type}{g:α→β}:∀ {t:Tree α} {r:β},(t.map g).run=some r→∃ a,t.run=some a∧r=g a
 |.fail,r,h=>by cases h
 |.leaf a,r,h=>by cases h;exact ⟨a,rfl,rfl⟩
 |.test b x y,r,h=>by
  have h:sel b (x.map g).run (y.map g).run=some r:=h
  cases b with
  |true=>exact Tree.map_some (t:=x) h
  |false=>exact Tree.map_some (t:=y) h
section
variable [Lo] {P:Program} {base:Nat} {ρ:Ren} {s:St} {w:World}
theorem aiH {v c:Value}(h:oU v=true)(hv:VR ρ v c)(lo:Lo)(ρ':Ren):@VR lo ρ' v c:=by
 cases hv with
 |bool b=>exact .bool b
 |int k n=>exact .int k n
 |string s=>exact .string s
 |nC=>exact .nC
 |ptr _=>exact Bool.noConfusion (show false=true from h)
 |dU n c=>exact .dU n c
 |@slice b o n c l hl=>
  have h:(true&&(qab b fF&&(qab o 0&&(qab n 0&&qab c aF))))=true:=h
  simp only [qac] at h
  obtain ⟨_,h1,h2,h3,h4⟩:=h
  have h1:=qaa h1
  have h2:=qaa h2
  have h3:=qaa h3
  have h4:=qaa h4
  subst h1 h2 h3 h4
  exact .dead _ _
 |dead a c=>exact .dead a c
 |tok i k n=>exact .tok i k n
 |ug=>exact .ug
 |nilFunc=>exact .nilFunc
 |nilIface=>exact .nilIface
 |_=>exact Bool.noConfusion (show false=true from h)
theorem ac2 {pre bn post:List Loc}{l:Loc}{k:Nat}(hk:pre.length=k)(hl:k<31):@Lo.lo (qm (pre++(l::bn++post))) (dW+k)=l:=by
 show (if dW+k<dW then (⟨dW+k,0,0⟩:Loc) else ((pre++(l::bn++post))[dW+k-dW]?).getD ⟨0,0,0⟩)=l
 rw [if_neg (by omega),show dW+k-dW=k by omega,qav (by omega),hk]
 simp
theorem aj0 {x y:Value}(hx:ahh x=true)(hv:VR ρ x y)(lo:Lo)(ρ':Ren):@VR lo ρ' (opV x) y:=by
 cases hv with
 |bool b=>exact .bool b
 |int k n=>exact .int k n
 |string s=>exact .string s
 |dU n c=>exact .dU n c
 |slice _=>exact .opq _ _ _
 |dead a c=>exact .opq _ _ _
 |opq a n c=>exact .opq _ _ _
 |_=>exact Bool.noConfusion (show false=true from hx)
theorem Yy:∀ {l:List Value},ajJ l=true→∀ {j:Nat} {v:Value},l[j]? = some v→ahh v=true
 |[],_,j,v,hj=>by simp at hj
 |a::l,h,j,v,hj=>by
  obtain ⟨h1,h2⟩:=dn (show sel (ahh a) (ajJ l) false=true from h)
  cases j with
  |zero=>simp at hj;subst hj;exact h1
  |succ j=>exact Yy h2 (by simpa using hj)
theorem Yc:∀ {l:List Value},ajJ l=true→agV (zq opV l)=true
 |[],_=>rfl
 |a::l,h=>by
  obtain ⟨h1,h2⟩:=dn (show sel (ahh a) (ajJ l) false=true from h)
  show sel (anq (opV a)) (agV (zq opV l)) false=true
  rw [Yc h2]
  cases a with
  |slice b n c=>cases b <;> rfl
  |float k n=>cases k <;> first|rfl|exact Bool.noConfusion (show false=true from h1)
  |bool b=>rfl
  |int k n=>rfl
  |string s=>rfl
  |_=>exact Bool.noConfusion (show false=true from h1)
theorem XA (P:Program)(e:TypeId)(cs:List Value):(rowOf P e cs).length=cs.length:=by
 unfold rowOf
 rw [aG]
 split
 ·rw [jV,List.length_map]
 ·rfl
theorem rowFine_of {P:Program}{e:TypeId}{cs:List Value}(h:Zy P e cs=true):rowFine P e (rowOf P e cs)=true:=by
 unfold Zy at h
 unfold rowFine rowOf
 cases hb:am5 P e with
 |true=>rw [hb] at h;exact Yc h
 |false=>rw [hb] at h;exact h
theorem ajF {P:Program}{e:TypeId}{cs:List Value}(h:Zy P e cs=true){j:Nat}{x:Value}(hj:(rowOf P e cs)[j]? = some x) :
  ∃ x0,cs[j]? = some x0∧∀ y,VR ρ x0 y→∀ (lo:Lo) (ρ':Ren),@VR lo ρ' x y:=by
 unfold Zy at h
 unfold rowOf at hj
 cases hb:am5 P e with
 |true=>
  rw [hb] at h hj
  have hj:(zq opV cs)[j]? = some x:=hj
  rw [jV,List.getElem?_map] at hj
  obtain ⟨x0,hx0,rfl⟩:=Option.map_eq_some_iff.1 hj
  exact ⟨x0,hx0,fun y hy=>aj0 (Yy h hx0) hy⟩
 |false=>
  rw [hb] at h hj
  have hj:cs[j]? = some x:=hj
  have hf:=pU h hj
  exact ⟨x,hj,fun y hy=>by have e:=KT hf hy;intro lo ρ';rw [e];exact @Ho lo ρ' _ hf⟩
theorem P6 {v c:Value}{kk:je→Tree cO}{r:cO}(h:(aiU P s v kk).run=some r)(hr:HR P base ρ s w)(hv:VR ρ v c) :
  ∃ cell bn,(kk cell).run=some r∧cell.fine P∧kC P w cell.rows bn∧∀ (pre post:List Loc) (k:Nat),pre.length=k→k+bn.length≤31→∀ ρ',@VR (qm (pre++(bn++post))) ρ' (cell.val k) c:=by
 unfold aiU at h
 cases hb:oU v with
 |true=>
  rw [hb] at h
  exact ⟨.raw v,[],h,hb,.nil,fun pre post k _ _ ρ'=>aiH hb hv _ ρ'⟩
 |false=>
  rw [hb] at h
  rw [aO] at h
  split at h
  ·rename_i a n cp
   obtain ⟨b,o,sp⟩:=a
   cases sp with
   |some x=>cases h
   |none=>
    cases hc:s.cells b with
    |none=>
     have h:(Option.rec (motive:=fun _=>Tree cO) .fail _ (s.cells b)).run=some r:=h
     rw [hc] at h
     cases h
    |some row=>
     obtain ⟨cs,e,f⟩:=row
     have h:(Option.rec (motive:=fun _=>Tree cO) .fail (fun (r:List Value × TypeId × Nat)=>Option.rec (motive:=fun _=>Tree cO) .fail (fun sz=>bY (qae 1 sz&&(Ui r.2.2 o cp sz (aQ r.1) n&&(qab (qaj n sz) (aQ (bJ o r.1))&&Zy P r.2.1 (bJ o r.1))))
      (kk (.sl (rowOf P r.2.1 (bJ o r.1)) r.2.1 n))) (size P r.2.1)) (s.cells b)).run=some r:=h
     rw [hc] at h
     cases hz:size P e with
     |none=>
      have h:(Option.rec (motive:=fun _=>Tree cO) .fail _ (size P e)).run=some r:=h
      rw [hz] at h
      cases h
     |some sz=>
      have h:(Option.rec (motive:=fun _=>Tree cO) .fail (fun sz=>bY (qae 1 sz&&(Ui f o cp sz (aQ cs) n&&(qab (qaj n sz) (aQ (bJ o cs))&&Zy P e (bJ o cs))))
       (kk (.sl (rowOf P e (bJ o cs)) e n))) (size P e)).run=some r:=h
      rw [hz] at h
      obtain ⟨hg,h⟩:=aJ h
      simp only [qac] at hg
      obtain ⟨g1,g2,g3,g4⟩:=hg
      have g1:1≤sz:=qad g1
      have g3:n*sz=(bJ o cs).length:=by rw [aU] at g3;exact qaa g3
      rw [gu] at g3 g4 h
      have g3':n*sz=cs.length-o:=by rw [g3];simp
      obtain ⟨l,hat,A,fz,hA,zS,_,h0,h1⟩:=hr.rows b cs e f hc
      rcases VR.wP hv with ⟨_,l',hl',rfl⟩|⟨hA',rfl,rfl,a',c',rfl⟩
      ·have hl':ρ.at b=some l':=hl'
       rw [hat] at hl'
       cases hl'
       have hfit:l.off+o+capOf l cp*sz≤A.size∧cs.length-o≤capOf l cp*sz:=by
        unfold Ui at g2
        rw [aG] at g2
        split at g2
        ·rename_i hf
         have hf:f=0:=qaa hf
         simp only [qac] at g2
         obtain ⟨k1,k2,k3⟩:=g2
         have k1:=bF k1
         have k2:o+cp*sz≤aQ cs:=qad k2
         rw [aU] at k2
         have k3:=qad k3
         obtain ⟨m1,m2,_⟩:=h0 hf
         rw [yN _ k1]
         have:n*sz≤cp*sz:=Nat.mul_le_mul_right _ k3
         omega
        ·rename_i hf
         have hf:f≠0:=fun e=>hf (by rw [e];rfl)
         simp only [qac] at g2
         obtain ⟨k1,k2,k3⟩:=g2
         have k1:o=(aF-cp)*sz:=qaa k1
         have k2:=qad k2
         have k3:=qad k3
         rw [aU] at k3
         obtain ⟨sz',hs',_,m1,m2⟩:=h1 hf
         rw [hz] at hs'
         cases hs'
         clear h0 h1 zS
         have hcap:capOf l cp=l.cap-(aF-cp):=by unfold capOf;rw [if_pos k2]
         rw [hcap]
         generalize aF-cp=k at k1
         have hkl:k*sz≤l.cap*sz:=by omega
         have hsub:(l.cap-k)*sz=l.cap*sz-k*sz:=Nat.sub_mul ..
         rw [hsub]
         omega
       refine ⟨.sl (rowOf P e (cs.drop o)) e n,[⟨l.blk,l.off+o,capOf l cp⟩],h,⟨rowFine_of g4,sz,hz,by omega,by rw [XA];exact g3⟩,.cons ⟨A,fz,sz,hA.imp fun _ h=>h.1,fun j x hj=>?_,hz,by omega,hfit.1,by rw [XA];simpa using hfit.2⟩ .nil,fun pre post k hk hlen ρ'=>?_⟩
       ·obtain ⟨x0,hx0,hany⟩:=ajF (ρ:=ρ) g4 hj
        rw [qax] at hx0
        obtain ⟨y,hy,hxy⟩:=zS _ x0 hx0
        refine ⟨y,?_,hany y hxy⟩
        show A[l.off+o+j]? = some y
        rw [qay]
        exact hy
       ·have hlt:k<31:=by simp at hlen;omega
        have e1:dW=32:=rfl
        have e2:ak=64:=rfl
        have key:=@VR.slice (qm (pre++([⟨l.blk,l.off+o,capOf l cp⟩]++post))) ρ' (qag dW k) 0 n aF ⟨l.blk,l.off+o,capOf l cp⟩ (by
         have e:qag dW k=dW+k:=rfl
         rw [e,@Ren.kD (qm _) _ _ (by omega)]
         exact congrArg some (ac2 (bn:=[]) hk hlt))
        rw [rD] at key
        exact key
      ·injection hA' with q4 q5
       subst q4 q5
       cases hb
  ·cases h
theorem Dj (c:je)(l:List je):uo (c::l)=c.rows++uo l:=gW _ _
theorem wJ (c:fM)(l:List fM):lH (c::l)=c.rows++lH l:=gW _ _
theorem CJ (c:je)(l:List je)(k:Nat):wW (c::l) k=c.val k::wW l (k+c.rows.length):=by
 show c.val k::wW l (qag k (aQ c.rows))=_
 rw [aU];rfl
theorem wM (c:fM)(l:List fM)(k:Nat):wY (c::l) k=c.val k::wY l (k+c.rows.length):=by
 show c.val k::wY l (qag k (aQ c.rows))=_
 rw [aU];rfl
theorem Nw (hr:HR P base ρ s w):∀ {l c:List Value} {kk:List je→Tree cO} {r:cO},(afo P s l kk).run=some r→VRs ρ l c→
  ∃ cells bn,(kk cells).run=some r∧(∀ x∈cells,x.fine P)∧kC P w (uo cells) bn∧∀ (pre post:List Loc) (k:Nat),pre.length=k→k+bn.length≤31→∀ ρ',@VRs (qm (pre++(bn++post))) ρ' (wW cells k) c
 |[],_,kk,r,h,.nil=>⟨[],[],h,(fun x hx=>by cases hx),.nil,fun pre post _ _ _ ρ'=>@VRs.nil (qm (pre++([]++post))) ρ'⟩
 |v::l,_,kk,r,h,.cons hv hl=>by
  have h:(aiU P s v fun c=>afo P s l fun cs=>kk (c::cs)).run=some r:=h
  obtain ⟨cell,bn,h1,h2,h3,h4⟩:=P6 h hr hv
  obtain ⟨cells,Gm,g1,g2,g3,g4⟩:=Nw hr h1 hl
  refine ⟨cell::cells,bn++Gm,g1,fun x hx=>?_,by rw [Dj];exact h3.append g3,fun pre post k hk hlen ρ'=>?_⟩
  ·rcases List.mem_cons.1 hx with rfl|hx
   ·exact h2
   ·exact g2 x hx
  ·rw [CJ]
   have e1:=h3.length
   simp only [qaB] at hlen
   refine @VRs.cons (qm (pre++(bn++Gm++post))) ρ' _ _ _ _ ?_ ?_
   ·have:=h4 pre (Gm++post) k hk (by omega) ρ'
    rw [qal bn Gm post]
    exact this
   ·have:=g4 (pre++bn) post (k+cell.rows.length) (by simp;omega) (by omega) ρ'
    rw [qal pre bn (Gm++post)] at this
    rw [qal bn Gm post]
    exact this
theorem ac9 (hr:HR P base ρ s w){v c:Value}{kk:fM→Tree cO}{r:cO}(h:(alA P s v kk).run=some r)(hv:VR ρ v c) :
  ∃ cell bn,(kk cell).run=some r∧cell.fine P∧kC P w cell.rows bn∧∀ (pre post:List Loc) (k:Nat),pre.length=k→k+bn.length≤31→∀ ρ',@VR (qm (pre++(bn++post))) ρ' (cell.val k) c:=by
 unfold alA at h
 split at h
 ·rename_i l
  cases hv with
  |agg hl=>
   obtain ⟨cells,bn,h1,h2,h3,h4⟩:=Nw hr h hl
   exact ⟨.agg cells,bn,h1,h2,h3,fun pre post k hk hlen ρ'=>@VR.agg (qm (pre++(bn++post))) ρ' _ _ (h4 pre post k hk hlen ρ')⟩
 ·obtain ⟨cell,bn,h1,h2,h3,h4⟩:=P6 h hr hv
  exact ⟨.one cell,bn,h1,h2,h3,h4⟩
theorem Nc (hr:HR P base ρ s w):∀ {l c:List Value} {kk:List fM→Tree cO} {r:cO},(af9 P s l kk).run=some r→VRs ρ l c→
  ∃ cells bn,(kk cells).run=some r∧(∀ x∈cells,x.fine P)∧kC P w (lH cells) bn∧∀ (pre post:List Loc) (k:Nat),pre.length=k→k+bn.length≤31→∀ ρ',@VRs (qm (pre++(bn++post))) ρ' (wY cells k) c
 |[],_,kk,r,h,.nil=>⟨[],[],h,(fun x hx=>by cases hx),.nil,fun pre post _ _ _ ρ'=>@VRs.nil (qm (pre++([]++post))) ρ'⟩
 |v::l,_,kk,r,h,.cons hv hl=>by
  have h:(alA P s v fun c=>af9 P s l fun cs=>kk (c::cs)).run=some r:=h
  obtain ⟨cell,bn,h1,h2,h3,h4⟩:=ac9 hr h hv
  obtain ⟨cells,Gm,g1,g2,g3,g4⟩:=Nc hr h1 hl
  refine ⟨cell::cells,bn++Gm,g1,fun x hx=>?_,by rw [wJ];exact h3.append g3,fun pre post k hk hlen ρ'=>?_⟩
  ·rcases List.mem_cons.1 hx with rfl|hx
   ·exact h2
   ·exact g2 x hx
  ·rw [wM]
   have e1:=h3.length
   simp only [qaB] at hlen
   refine @VRs.cons (qm (pre++(bn++Gm++post))) ρ' _ _ _ _ ?_ ?_
   ·have:=h4 pre (Gm++post) k hk (by omega) ρ'
    rw [qal bn Gm post]
    exact this
   ·have:=g4 (pre++bn) post (k+cell.rows.length) (by simp;omega) (by omega) ρ'
    rw [qal pre bn (Gm++post)] at this
    rw [qal bn Gm post]
    exact this
end
noncomputable section
def yF (v:Value):Bool:=
 match v with
 |.slice none _ _=>true
 |.pointer none=>true
 |.map none=>true
 |.nilFunc=>true
 |.nilIface=>true
 |v=>kV v
def gX.ok (n:Nat)(c:gX):Bool:=
 match c with
 |.flat v=>yF v
 |.sl k _=>ltN k n
def sH (n:Nat):List gX→Bool:=fun l=>List.rec true (fun c _ ih=>sel (c.ok n) ih false) l
def jk.ok (n:Nat)(c:jk):Bool:=
 match c with
 |.one c=>c.ok n
 |.agg l=>sH n l
def uZ (n:Nat):List jk→Bool:=fun l=>List.rec true (fun c _ ih=>sel (c.ok n) ih false) l
def cO.ok (r:cO):Bool:=uZ (aQ r.rows) r.val
def UM (P:Program)(C:Cfg)(n:Nat)(f:FuncId)(G:List fM→Tree cO):Prop:=
 ∀ (comps:List fM) (r:cO),(∀ c∈comps,c.fine P)→(G comps).run=some r→r.ok=true∧(∀ p∈r.rows,flatAll p.1=true)∧
  ∃ v s1 π,(runN C n).1 f (bH comps) (aP comps)=some (v,s1)∧RV π (r.value 64) v∧Emb P π (fC dD r.rows) s1
end
structure ZM where
 lo:Lo
section
variable [Lo] {P:Program} {base:Nat} {ρ:Ren} {s:St} {w w':World}
theorem alK {lb:ZM}{ρ1 ρ2:Ren}{v x:Value}(hok:yF v=true)(hv:@VR lb.lo ρ1 v x):VR ρ2 v x:=by
 cases hv with
 |bool b=>exact .bool b
 |int k n=>exact .int k n
 |string s=>exact .string s
 |nC=>exact .nC
 |dU n c=>exact .dU n c
 |ug=>exact .ug
 |nilFunc=>exact .nilFunc
 |nilIface=>exact .nilIface
 |_=>exact Bool.noConfusion (show false=true from hok)
def ku (ρ ρ1:Ren)(N:Nat):Ren:=fun i=>if i<N then ρ i else ρ1 (64+(i-N))
theorem ac3 {lb:ZM}{ρ1:Ren}{n:Nat}{c:gX}{x:Value}(hN:ak≤s.next)(hok:c.ok n=true)(hv:@VR lb.lo ρ1 (c.val 64) x):VR (ku ρ ρ1 s.next) (c.val s.next) x:=by
 cases c with
 |flat v=>
  have hok:yF v=true:=hok
  have hv:@VR lb.lo ρ1 v x:=hv
  exact alK hok hv
 |sl k m=>
  have hv:@VR lb.lo ρ1 (.slice (some ⟨64+k,0,none⟩) m aF) x:=hv
  rcases @VR.wP lb.lo _ _ _ _ _ hv with ⟨_,l,hl,rfl⟩|⟨hA,_⟩
  ·have hl:@Ren.at lb.lo ρ1 (64+k)=some l:=hl
   rw [@Ren.cu lb.lo _ _ (by show 64≤64+k;omega)] at hl
   show VR (ku ρ ρ1 s.next) (.slice (some ⟨s.next+k,0,none⟩) m aF) _
   refine .slice ?_
   rw [Ren.cu (by omega)]
   unfold ku
   rw [if_neg (by omega),show s.next+k-s.next=k by omega]
   exact hl
  ·exfalso
   injection hA with h4
   have e:fF=63:=rfl
   omega
theorem WX {lb:ZM}{ρ1:Ren}{n:Nat}(hN:ak≤s.next):∀ {l:List gX} {x:List Value},sH n l=true→@VRs lb.lo ρ1 (zq (fun c=>c.val 64) l) x→VRs (ku ρ ρ1 s.next) (zq (fun c=>c.val s.next) l) x
 |[],x,_,h=>by cases h;exact .nil
 |c::l,x,hok,h=>by
  obtain ⟨h1,h2⟩:=dn (show sel (c.ok n) (sH n l) false=true from hok)
  have h:@VRs lb.lo ρ1 (c.val 64::zq (fun c=>c.val 64) l) x:=h
  cases h with
  |cons g1 g2=>exact .cons (ac3 hN h1 g1) (WX hN h2 g2)
theorem aco {lb:ZM}{ρ1:Ren}{n:Nat}{c:jk}{x:Value}(hN:ak≤s.next)(hok:c.ok n=true)(hv:@VR lb.lo ρ1 (c.val 64) x):VR (ku ρ ρ1 s.next) (c.val s.next) x:=by
 cases c with
 |one c=>exact ac3 hN hok hv
 |agg l=>
  have hv:@VR lb.lo ρ1 (.agg ⟨zq (fun c=>c.val 64) l⟩) x:=hv
  cases hv with
  |agg h=>exact .agg (WX hN hok h)
theorem X4 {lb:ZM}{ρ1:Ren}{n:Nat}(hN:ak≤s.next):∀ {l:List jk} {x:List Value},uZ n l=true→@VRs lb.lo ρ1 (zq (fun c=>c.val 64) l) x→VRs (ku ρ ρ1 s.next) (zq (fun c=>c.val s.next) l) x
 |[],x,_,h=>by cases h;exact .nil
 |c::l,x,hok,h=>by
  obtain ⟨h1,h2⟩:=dn (show sel (c.ok n) (uZ n l) false=true from hok)
  have h:@VRs lb.lo ρ1 (c.val 64::zq (fun c=>c.val 64) l) x:=h
  cases h with
  |cons g1 g2=>exact .cons (aco hN h1 g1) (X4 hN h2 g2)
theorem aqt {lb:ZM}{ρ1:Ren}{r:cO}{x:Value}(hN:ak≤s.next)(hok:r.ok=true)(hv:@VR lb.lo ρ1 (r.value 64) x):VR (ku ρ ρ1 s.next) (r.value s.next) x:=by
 obtain ⟨val,rows⟩:=r
 have hok:uZ (aQ rows) val=true:=hok
 have hv:@VR lb.lo ρ1 (tuple (zq (fun c=>c.val 64) val)) x:=hv
 show VR _ (tuple (zq (fun c=>c.val s.next) val)) x
 match val,hok,hv with
 |[],_,hv=>cases hv with|tuple h=>cases h;exact .tuple .nil
 |[c],hok,hv=>
  obtain ⟨h1,_⟩:=dn (show sel (c.ok (aQ rows)) (uZ (aQ rows) []) false=true from hok)
  exact aco hN h1 hv
 |c::d::l,hok,hv=>
  cases hv with
  |tuple h=>exact .tuple (X4 hN hok h)
theorem aje (h:HR P base ρ s w){lb:ZM}{S S0:St}{rows:List (List Value × TypeId)}{ρ1:Ren}(hS0:S0.next=64)(h0:@HR lb.lo P w.heap.size (fun _=>none) S w)
  (hg:@Goes lb.lo P w.heap.size (fun _=>none) S w ρ1 (fC S0 rows) w') (hfl:∀ p∈rows,flatAll p.1=true):Goes P base ρ s w (ku ρ ρ1 s.next) (fC s rows) w':=by
 have hbel:=@Goes.below lb.lo _ _ _ _ _ _ _ _ h0 hg
 have hhr:=@Goes.hr lb.lo _ _ _ _ _ _ _ _ hg
 obtain ⟨n1,n2,n3⟩:=oC rows s
 obtain ⟨m1,m2,m3⟩:=oC rows S0
 have e2:ak=64:=rfl
 have hnx:=h.next
 have hlow:∀ i,i<s.next→ku ρ ρ1 s.next i=ρ i:=fun i hi=>by unfold ku;rw [if_pos hi]
 have hhigh:∀ k,ku ρ ρ1 s.next (s.next+k)=ρ1 (64+k):=fun k=>by unfold ku;rw [if_neg (by omega),show s.next+k-s.next=k by omega]
 have hle:ρ.le (ku ρ ρ1 s.next):=fun i l hi=>by rw [hlow i (h.dom i l hi).2.1];exact hi
 have hold:∀ i r,i<s.next→(fC s rows).heap.get i=some r→s.heap.get i=some r:=fun i r hi hr=>by rw [n2 i,if_neg (by omega)] at hr;exact hr
 have ar6:∀ f,f<s.next→(fC s rows).bQ.get f=s.bQ.get f:=fun f hf=>by rw [n3 f,if_neg (by omega)]
 have hrange:∀ i r,s.next≤i→(fC s rows).heap.get i=some r→∃ k p,i=s.next+k∧k<rows.length∧rows[k]? = some p∧r = .row p.1 p.2 i:=by
  intro i r hi hr
  rw [n2 i] at hr
  split at hr
  ·rename_i hh
   obtain ⟨p,hp,rfl⟩:=Option.map_eq_some_iff.1 hr
   exact ⟨i-s.next,p,by omega,by omega,hp,rfl⟩
  ·have:=h.dF i r hr
   omega
 have hnew:∀ k p,rows[k]? = some p→(fC s rows).tag (s.next+k)=some (1,s.next+k)∧(fC S0 rows).cells (64+k)=some (p.1,p.2,64+k)∧(fC S0 rows).tag (64+k)=some (1,64+k):=by
  intro k p hp
  have hk:=(List.getElem?_eq_some_iff.1 hp).1
  have a1:(fC s rows).heap.get (s.next+k)=some (.row p.1 p.2 (s.next+k)):=by
   rw [n2,if_pos (by omega),show s.next+k-s.next=k by omega,hp];rfl
  have a2:(fC s rows).bQ.get (s.next+k)=some [s.next+k]:=by rw [n3,if_pos (by omega)]
  have b1:(fC S0 rows).heap.get (64+k)=some (.row p.1 p.2 (64+k)):=by
   rw [m2,if_pos (by omega),show 64+k-S0.next=k by omega,hp];rfl
  have b2:(fC S0 rows).bQ.get (64+k)=some [64+k]:=by rw [m3,if_pos (by omega)]
  exact ⟨(UC (by omega) a1 a2).1,(UC (by omega) b1 b2).2,(UC (by omega) b1 b2).1⟩
 have htag:∀ i,i<s.next→(fC s rows).tag i=s.tag i:=by
  intro i hi
  unfold St.tag
  have e:(fC s rows).heap.get i=s.heap.get i:=by rw [n2 i,if_neg (by omega)]
  rw [e]
  cases hg:s.heap.get i with
  |none=>rfl
  |some r=>
   cases r with
   |row cs t f=>
    have:=h.eP i cs t f hg
    simp only [ar6 f this]
   |_=>rfl
 have hcell:∀ i c,i<s.next→(fC s rows).cells i=some c→s.cells i=some c:=by
  rintro i ⟨cs,t,f⟩ hi hc
  obtain ⟨g1,g2⟩:=aK.1 hc
  have g1:=hold i _ hi g1
  refine aK.2 ⟨g1,?_⟩
  rcases g2 with g2|⟨l,hl,hm⟩
  ·exact .inl g2
  ·rw [ar6 f (h.eP i cs t f g1)] at hl
   exact .inr ⟨l,hl,hm⟩
 have agN:∀ i a,s.next≤i→(fC s rows).tag i=some a→∃ k p,i=s.next+k∧rows[k]? = some p∧a=(1,i):=by
  intro i a hi ha
  obtain ⟨r,hr⟩:=tag_some ha
  obtain ⟨k,p,rfl,_,hp,_⟩:=hrange i r hi hr
  rw [(hnew k p hp).1] at ha
  exact ⟨k,p,rfl,hp,(Option.some.inj ha).symm⟩
 have hat:∀ i l,i<s.next→(ku ρ ρ1 s.next).at i=some l→ρ.at i=some l:=by
  intro i l hi hl
  by_cases hlo:i<ak
  ·rw [Ren.kD hlo] at hl ⊢;exact hl
  ·rw [Ren.cu (by omega)] at hl ⊢;rwa [hlow i hi] at hl
 have aqa:∀ i a l,s.tag i=some a→ρ.at i=some l→w'.heap[l.blk]? = w.heap[l.blk]?:=fun i a l ht hl=>hbel.block _ (h.qY ht hl)
 have YG:∀ k l,ρ1 (64+k)=some l→w.heap.size≤l.blk∧l.blk<w'.heap.size:=fun k l hl=>by
  obtain ⟨_,_,d3,d4⟩:=@HR.dom lb.lo _ _ _ _ _ hhr _ l hl
  exact ⟨d3,d4⟩
 refine ⟨hle,⟨fun i l hi=>?_,by omega,Nat.le_trans h.gB hbel.size,fun i hi ht=>?_,fun i r hi=>?_,fun i cs e f hi=>?_,fun i cs e f hc=>?_,fun i es c hi=>?_,fun i r hi=>?_,fun i j a b l l' hi hj hab hl hl' hh=>?_⟩,
  hbel.os,hbel.tape,hbel.output,hbel.size,by omega,fun b hlt _=>hbel.block b hlt,fun b ho=>?_,fun i hi=>hlow i hi⟩
 ·by_cases hlt:i<s.next
  ·rw [hlow i hlt] at hi
   obtain ⟨d1,d2,d3,d4⟩:=h.dom i l hi
   exact ⟨d1,by omega,d3,qat d4 hbel.size⟩
  ·have e:i=s.next+(i-s.next):=by omega
   rw [e,hhigh] at hi
   obtain ⟨_,d2,d3,d4⟩:=@HR.dom lb.lo _ _ _ _ _ hhr _ l hi
   have:=h.gB
   exact ⟨by omega,by omega,by omega,d4⟩
 ·rw [htag i (by omega)] at ht
  exact h.low i hi ht
 ·by_cases hlt:i<s.next
  ·omega
  ·obtain ⟨k,p,rfl,hk,_⟩:=hrange i r (by omega) hi
   omega
 ·by_cases hlt:i<s.next
  ·have:=h.eP i cs e f (hold i _ hlt hi)
   omega
  ·obtain ⟨k,p,rfl,hk,_,hrw⟩:=hrange i _ (by omega) hi
   injection hrw with _ _ q
   omega
 ·by_cases hlt:i<s.next
  ·have hc':=hcell i _ hlt hc
   obtain ⟨q,hq⟩:=h.rows i cs e f hc'
   exact ⟨q,hq.move hle (aqa i _ q (cZ hc') hq.at_)⟩
  ·obtain ⟨g1,_⟩:=aK.1 hc
   obtain ⟨k,p,rfl,hk,hp,hrw⟩:=hrange i _ (by omega) g1
   injection hrw with q1 q2 q3
   subst q1 q2 q3
   obtain ⟨_,hc2,_⟩:=hnew k p hp
   obtain ⟨l,ax6,A,fz,hA,hv,hz,_,hn⟩:=@HR.rows lb.lo _ _ _ _ _ hhr _ _ _ _ hc2
   rw [@Ren.cu lb.lo _ _ (by omega)] at ax6
   refine ⟨l,by rw [Ren.cu (by omega),hhigh];exact ax6,A,fz,hA.imp fun _ h=>⟨h.1,fun _=>h.2 (.inr (by omega))⟩,fun j x hj=>?_,fun _=>hz (by omega),fun h0=>absurd h0 (by omega),fun _=>hn (by omega)⟩
   obtain ⟨y,hy,hxy⟩:=hv j x hj
   have hf:=pU (hfl p (qar hp)) hj
   rw [@KT lb.lo _ _ _ hf hxy] at hy
   exact ⟨x,hy,Ho _ hf⟩
 ·by_cases hlt:i<s.next
  ·have hi':=hold i _ hlt hi
   obtain ⟨q,hq,es',g1,g2⟩:=h.maps i es c hi'
   exact ⟨q,hle _ _ hq,es',by rw [aqa i _ q (l7 hi') (by rw [Ren.cu (h.dom i q hq).1];exact hq)];exact g1,g2.mono hle⟩
  ·obtain ⟨k,p,rfl,hk,_,hrw⟩:=hrange i _ (by omega) hi
   cases hrw
 ·by_cases hlt:i<s.next
  ·have hi':=hold i _ hlt hi
   obtain ⟨q,hq,q',g1,g2⟩:=h.loops i r hi'
   exact ⟨q,hle _ _ hq,q',by rw [aqa i _ q (jD hi') (by rw [Ren.cu (h.dom i q hq).1];exact hq)];exact g1,g2.mono hle⟩
  ·obtain ⟨k,p,rfl,hk,_,hrw⟩:=hrange i _ (by omega) hi
   cases hrw
 ·by_cases hlt:i<s.next
  ·rw [htag i hlt] at hi
   have hl2:=hat i l hlt hl
   have hbi:=h.qY hi hl2
   by_cases asy:j<s.next
   ·rw [htag j asy] at hj
    exact h.sep i j a b l l' hi hj hab hl2 (hat j l' asy hl') hh
   ·have e:j=s.next+(j-s.next):=by omega
    rw [Ren.cu (by omega),e,hhigh] at hl'
    have:=(YG _ l' hl').1
    omega
  ·obtain ⟨k,p,rfl,hp,rfl⟩:=agN i a (by omega) hi
   rw [Ren.cu (by omega),hhigh] at hl
   by_cases asy:j<s.next
   ·rw [htag j asy] at hj
    have:=h.qY hj (hat j l' asy hl')
    have:=(YG _ l hl).1
    omega
   ·obtain ⟨k',p',rfl,hp',rfl⟩:=agN j b (by omega) hj
    rw [Ren.cu (by omega),hhigh] at hl'
    refine @HR.sep lb.lo _ _ _ _ _ hhr (64+k) (64+k') _ _ l l' (hnew k p hp).2.2 (hnew k' p' hp').2.2 ?_ (by rw [@Ren.cu lb.lo _ _ (by omega)];exact hl) (by rw [@Ren.cu lb.lo _ _ (by omega)];exact hl') (.inl (by omega))
    intro e
    apply hab
    have e:64+k=64+k':=congrArg Prod.snd e
    have:k=k':=by omega
    subst this
    rfl
 ·obtain ⟨i,l,a,g1,g2,g3,g4⟩:=ho
  by_cases hlt:i<s.next
  ·rw [htag i hlt] at g2
   rw [hlow i hlt] at g3
   exact .inl ⟨i,l,a,g1,g2,g3,g4⟩
  ·have e:i=s.next+(i-s.next):=by omega
   rw [e,hhigh] at g3
   exact .inr (g4▸(YG _ l g3).1)
def Np (P:Program)(f:FuncId)(G:List fM→Tree cO):Prop:=
 ∀ (comps:List fM) (r:cO),(∀ c∈comps,c.fine P)→(G comps).run=some r→∃ (C:Cfg) (n:Nat),(∀ lo:Lo,@dS lo C P)∧r.ok=true∧(∀ p∈r.rows,flatAll p.1=true)∧
  ∃ v s1 π,(runN C n).1 f (bH comps) (aP comps)=some (v,s1)∧RV π (r.value 64) v∧Emb P π (fC dD r.rows) s1
theorem KF {f:FuncId}{G:List fM→Tree cO}(hrun:Np P f G){args:List Value}{v:Value}{s':St}(hv:(zo P G s args).run=some (v,s'))
  {aW:List Value} (hr:HR P base ρ s w) (ha:VRs ρ args aW):Calls P f ⟨aW⟩ w fun e w'=>∃ c ρ',e = .returned c∧Goes P base ρ s w ρ' s' w'∧VR ρ' v c:=by
 obtain ⟨r,h1,h2⟩:=Tree.map_some hv
 cases h2
 obtain ⟨comps,bn,h3,h4,h5,h6⟩:=Nc hr h1 ha
 obtain ⟨h7,h8⟩:=aJ h3
 have h7:(lH comps).length≤31:=by rw [aU] at h7;exact qad h7
 obtain ⟨C,n,hK,hok,hfl,v1,s1,π,hrn,hrv,ajC⟩:=hrun comps r h4 h8
 have hlen:=h5.length
 have hlow:=amZ h5 h7
 have hargs:=h6 [] [] 0 rfl (by omega) (fun _=>none)
 have awZ:([]:List Loc)++(bn++[])=bn:=by simp
 rw [awZ] at hargs
 refine ((@pJ (qm bn) P C (hK _) n).1 f _ _ v1 s1 hrn w.heap.size _ w aW hlow hargs).mono ?_
 rintro e w' ⟨c,ρ1,rfl,hg,hvc⟩
 have hnx:(aP comps).next=64:=(mY _).1
 have hn0:dD.next=64:=rfl
 have hg2:=@Goes.X9 (qm bn) P w.heap.size (fun _=>none) ρ1 (aP comps) s1 (fC dD r.rows) w w' π hlow hg ajC (fun i hi hlt=>by rw [hnx] at hlt;have:ak=64:=rfl;omega) (by rw [(oC _ _).1];omega)
 refine ⟨c,_,rfl,aje (lb:=⟨qm bn⟩) hr hn0 hlow hg2 hfl,?_⟩
 exact aqt hr.next hok (@RV.comp (qm bn) _ _ _ _ _ hrv hvc)
theorem adQ {C:Cfg}(hK:∀ lo:Lo,@dS lo C P){n:Nat}{f:FuncId}{G:List fM→Tree cO}(hrun:UM P C n f G){args:List Value}{v:Value}{s':St}(hv:(zo P G s args).run=some (v,s'))
  {aW:List Value} (hr:HR P base ρ s w) (ha:VRs ρ args aW):Calls P f ⟨aW⟩ w fun e w'=>∃ c ρ',e = .returned c∧Goes P base ρ s w ρ' s' w'∧VR ρ' v c:=
 KF (fun comps r hc hr=>⟨C,n,hK,hrun comps r hc hr⟩) hv hr ha
end
end Go.Ax
namespace Go.Ax
open Go
noncomputable section
section
variable {R:Type}
structure KP where
 L:Nat
 B:Option Bool:=none
 alt:FuncId→List Value→Option (Bool × Value):=fun _ _=>none
 aqC:FuncId→Nat→Fr→St→Option (Bool × (Ex × Fr × St)):=fun _ _ _ _=>none
 post:FuncId→List Value→List Int:=fun _ _=>[]
 opq:Bool:=false
def KP.plain (K:KP):KP:={ L:=K.L,B:=K.B,alt:=K.alt,post:=K.post,opq:=K.opq }
def blk (b:Option Bool)(n:Nat):Nat:=Option.rec n (fun t=>Bool.rec n n t) b
theorem acY (b:Option Bool)(n:Nat):blk b n=n:=by
 cases b with
 |none=>rfl
 |some t=>cases t <;> rfl
abbrev vO (R:Type):=FuncId→List Value→St→(Value × St→Option R)→Option R
abbrev qP (R:Type):=Nat→List Value→St→(Value × St→Option R)→Option R
abbrev FK (R:Type):=Fr→St→Option R
abbrev XK (R:Type):=Ex→Fr→St→Option R
def abh (call:vO R)(yield:qP R)(rd:Bool)(n:Nat)(fr:Fr)(dst:Option Tmp)(k:FK R)(r:Res):Option R:=
 match r with
 |.val v s=>k (fr.put n dst v) s
 |.call f args s=>call f args s fun q=>k (fr.put n dst q.1) q.2
 |.yield l args s=>yield l args s fun q=>k (fr.put n dst q.1) q.2
 |.defer f args s=>sel rd none (k (Fr.put n { vars:=fr.vars,loc:=fr.loc,defers:=(f,args)::fr.defers } dst unit) s)
def avC (x y:Nat):Nat:=qaE (qag x (qam 18446744073709551616 (qaE y 18446744073709551616))) 18446744073709551616
def aiR (f:Value→Value→Option Bool)(n:Nat):List Value→List Value→Option Bool:=
 Nat.rec (fun _ _=>some true) (fun _ ih xs ys=>jg xs none fun x xt=>jg ys none fun y yt=>aj (f x y) fun b=>aj (ih xt yt) fun r=>some (b&&r)) n
def Uz (P:Program)(ih:EqF)(e:TypeId)(n:Nat)(xs ys:List Value)(k:Nat):Nat→Option Bool:=
 Nat.rec (fun _=>some true) (fun _ go i=>aj (uD P ih e (qaj i n) xs ys) fun b=>aj (go (qak i)) fun r=>some (b&&r)) k
def KR (P:Program)(ih:EqF)(xs ys:List Value):List Field→Option Bool:=
 List.rec (some true) (fun f _ go=>aj (uD P ih f.type f.offset xs ys) fun b=>aj go fun r=>some (b&&r))
def TD (C:Cfg)(ih:EqF)(t:TypeId)(x y:Value):Option Bool:=
 aj (C.P.underlying t) fun d=>match d with
  |.array n e=>akT x y fun xs ys=>aj (C.P.underlying e) fun d=>aj (size C.P e) fun k=>sel (!DR d&&qab k 1) (aiR (eqD C.P d) n xs ys) (Uz C.P ih e k xs ys n 0)
  |.struct fs=>guard (C.am6 t) (akT x y fun xs ys=>KR C.P ih xs ys fs.toList)
  |d=>eqD C.P d x y
def axn (C:Cfg):EqF:=Nat.rec (fun _ _ _=>none) (fun _ ih=>TD C ih) 6
def amz (v:Value):Bool:=
 match v with
 |.agg _=>true
 |_=>false
def acP (C:Cfg)(t:TypeId)(op:BinOp)(x y:Operand)(a b:Value)(k:Value→Option R):Option R:=
 sel (amz a) (guard (qZ C t x y a b) (aj (axn C t a b) fun r=>match op with
  |.eql=>k (.bool r)
  |.neq=>k (.bool !r)
  |_=>none)) (aj (guard (qZ C t x y a b) (binOp C t op a b)) k)
def mG (C:Cfg)(t:TypeId)(op:BinOp)(x y:Operand)(a b:Value)(k:Value→Option R):Option R:=aj (guard (qZ C t x y a b) (binOp C t op a b)) k
def awk (C:Cfg)(t:TypeId)(op:BinOp)(x y:Operand)(f:IntKind→Int→Int→Int)(a b:Value)(k:Value→Option R):Option R:=
 match a with
 |.int ka i=>match b with
  |.int kb j=>guard (iy ka kb) (guard (!eqI j 0) (k (.int ka (f ka i j))))
  |b=>mG C t op x y a b k
 |a=>mG C t op x y a b k
def ant (i j:Int)(k:Int→Option R):Option R:=
 Int.casesOn (motive:=fun _=>Option R) i (fun _=>k (ajS i j)) (fun u=>Int.casesOn (motive:=fun _=>Option R) j (fun v=>sel (qab (qaE (qak u) v) 0) (k 0) (k (qan (qam (qaE (qak u) v) 1)))) (fun _=>k (ajS i j)))
def axP (C:Cfg)(t:TypeId)(x y:Operand)(a b:Value)(k:Value→Option R):Option R:=
 match a with
 |.int ka i=>match b with
  |.int kb j=>guard (iy ka kb) (guard (!eqI j 0) (ant i j fun z=>k (.int ka z)))
  |b=>mG C t .rem x y a b k
 |a=>mG C t .rem x y a b k
def Gs (i j:Int)(g:Nat→Nat→Option R)(h:Option R):Option R:=Int.casesOn i (fun x=>Int.casesOn j (fun y=>g x y) (fun _=>h)) (fun _=>h)
def ahq (x y:Nat)(k:Value→Option R):Option R:=
 sel (qae y x) (guard (qae (qam x y) 9223372036854775807) (k (.int .i64 (qaf (qam x y)))))
  (guard (qae (qam y x) 9223372036854775808) (k (.int .i64 (qan (qam (qam y x) 1)))))
def axX (C:Cfg)(t:TypeId)(x y:Operand)(a b:Value)(k:Value→Option R):Option R:=
 match a with
 |.int ka i=>match b with
  |.int kb j=>guard (iy ka kb) (match ka with
   |.u64=>Gs i j (fun x y=>k (.int .u64 (qaf (avC x y)))) (k (.int .u64 (wrap .u64 (aiu i j))))
   |.i64=>Gs i j (fun x y=>ahq x y k) (k (.int .i64 (wrap .i64 (aiu i j))))
   |ka=>k (.int ka (wrap ka (aiu i j))))
  |b=>mG C t .sub x y a b k
 |a=>mG C t .sub x y a b k
def axV (K:KP)(C:Cfg)(t:TypeId)(x y:Operand)(a b:Value)(k:Value→Option R):Option R:=
 match a with
 |.int ka i=>match b with
  |.int kb j=>guard (iy ka kb) (match ka with
   |.u64=>Gs i j (fun x y=>k (.int .u64 (qaf (blk K.B (qaE (qaj x y) 18446744073709551616))))) (k (.int .u64 (wrap .u64 (alu i j))))
   |.i64=>Gs i j (fun x y=>guard (qae (qaj x y) 9223372036854775807) (k (.int .i64 (qaf (qaj x y))))) (k (.int .i64 (wrap .i64 (alu i j))))
   |ka=>k (.int ka (wrap ka (alu i j))))
  |b=>mG C t .mul x y a b k
 |a=>mG C t .mul x y a b k
def axw (K:KP)(C:Cfg)(t:TypeId)(x y:Operand)(a b:Value)(k:Value→Option R):Option R:=
 match a with
 |.int ka i=>match b with
  |.int kb j=>match ka with
   |.u64=>Gs i j (fun x y=>k (.int .u64 (qaf (blk K.B (qaE (qaj x (Nat.pow 2 (sel (qae y 64) y 64))) 18446744073709551616))))) (mG C t .shl x y a b k)
   |_=>mG C t .shl x y a b k
  |b=>mG C t .shl x y a b k
 |a=>mG C t .shl x y a b k
def aya (C:Cfg)(t:TypeId)(x y:Operand)(a b:Value)(k:Value→Option R):Option R:=
 match a with
 |.int ka i=>match b with
  |.int kb j=>guard (iy ka kb) (match ka with
   |.i64=>Gs i j (fun x y=>guard (qae (qag x y) 9223372036854775807) (k (.int .i64 (qaf (qag x y))))) (k (.int .i64 (wrap .i64 (am0 i j))))
   |ka=>k (.int ka (wrap ka (am0 i j))))
  |b=>mG C t .add x y a b k
 |a=>mG C t .add x y a b k
def aw6 (K:KP)(C:Cfg)(t:TypeId)(op:BinOp)(x y:Operand)(a b:Value)(k:Value→Option R):Option R:=
 match op with
 |.quo=>awk C t .quo x y (fun k i j=>wrap k (auD i j)) a b k
 |.rem=>axP C t x y a b k
 |.sub=>axX C t x y a b k
 |.add=>aya C t x y a b k
 |.mul=>axV K C t x y a b k
 |.shl=>axw K C t x y a b k
 |.eql=>acP C t .eql x y a b k
 |.neq=>acP C t .neq x y a b k
 |op=>mG C t op x y a b k
def auk (C:Cfg)(s:St)(e:TypeId)(len i:Nat)(a:Addr)(k:Res→Option R):Option R:=
 guard (ltN i len) (aj (size C.P e) fun n=>k (.val (ptr a.block (qag a.off (qaj i n))) s))
def BX (C:Cfg)(ev:Ev)(s:St)(t:TypeId)(x i:Operand)(k:Res→Option R):Option R:=
 aj (ev x) fun x=>aj (ev i) fun i=>aj (asNat i) fun i=>match C.P.underlying t with
  |some (.slice e)=>match x with
   |.slice (some a) len _=>auk C s e len i a k
   |_=>none
  |some (.array len e)=>match x with
   |.pointer (some a)=>auk C s e len i a k
   |_=>none
  |_=>none
def akC (t:Nat)(b:Bool):List (Nat × Value)→List (Nat × Value):=fun l=>List.rec [] (fun p l ih=>sel (qab p.1 t) ((p.1,.bool b)::l) (p::ih)) l
def know (n:Nat)(t:Nat)(b:Bool)(fr:Fr):Fr:=
 sel (ltN t n) { vars:=fr.vars.set t (.bool b),loc:=fr.loc,defers:=fr.defers } { vars:=fr.vars,loc:=akC t b fr.loc,defers:=fr.defers }
def SS (n:Nat)(x:Operand)(b:Bool)(fr:Fr):Fr:=
 match x with
 |.tmp t=>know n t b fr
 |_=>fr
def anJ (C:Cfg)(n:Nat)(fr:Fr)(s:St)(c a b:Operand)(k:Fr→Res→Option R):Option R:=
 aj (fr.ev n c) fun v=>match v with
  |.bool t=>sel t (aj (zT C (fr.ev n) s a) (k (SS n c true fr))) (aj (zT C (fr.ev n) s b) (k (SS n c false fr)))
  |_=>none
def alo (n:Nat)(l:List Value)(k:List Value→Option R):Option R:=guard (qae n (aQ l)) (k (aA n l))
def xU (vs:List Value)(o:Nat)(cs:List Value):List Value:=aI (aA o cs) (aI vs (bJ (qag o (aQ vs)) cs))
def aan (vs:List Value)(o:Nat)(cs:List Value)(k:List Value→Option R):Option R:=guard (qae (qag o (aQ vs)) (aQ cs)) (k (xU vs o cs))
def abQ (s:St)(sz n:Nat)(v:Value)(k:List Value→Option R):Option R:=
 match v with
 |.slice (some a) _ _=>sel (qab a.block fF) (guard (qab n 0) (k [])) (aj (s.cells a.block) fun c=>alo (qaj n sz) (bJ a.off c.1) k)
 |.slice none _ _=>guard (qab n 0) (k [])
 |.string b=>guard (qab sz 1) (k (qH (aA n b.data.toList)))
 |_=>none
def o7 (s:St)(b o:Nat)(vs:List Value)(k:St→Option R):Option R:=
 guard (qae ak b&&qO vs) (aj (s.cells b) fun c=>aan vs o c.1 fun cs=>k (putRow s b cs c.2.1 c.2.2))
def apu (cs:List Value)(o:Nat):Int:=
 match nth cs o with
 |some (.int _ z)=>z
 |_=>0
def ay (cs:List Value)(o:Nat):Nat:=
 match nth cs o with
 |some (.int _ (.ofNat z))=>z
 |_=>0
def amN (z:Int):Bool:=
 match z with
 |.ofNat _=>true
 |.negSucc _=>false
def aeZ (cs:List Value)(o:Nat):Bool:=
 match nth cs o with
 |some (.bool z)=>z
 |_=>false
def aod (cs:List Value)(o:Nat):ByteArray:=
 match nth cs o with
 |some (.string z)=>z
 |_=>⟨⟨[]⟩⟩
def anI (cs:List Value)(o:Nat)(z:Value):Value:=Option.casesOn (nth cs o) z fun v=>v
def Qp (z:Value)(cs:List Value)(o:Nat):Value:=
 match z with
 |.int k _=>sel (qw k) (.int k (qaf (ay cs o))) (.int k (apu cs o))
 |.bool _=>.bool (aeZ cs o)
 |.string _=>.string (aod cs o)
 |z=>anI cs o z
def gI (z:Value)(v:Option Value):Bool:=
 match z with
 |.int k _=>match v with
  |some (.int j n)=>iy k j&&sel (qw k) (amN n) true
  |_=>false
 |.bool _=>match v with
  |some (.bool _)=>true
  |_=>false
 |.string _=>match v with
  |some (.string _)=>true
  |_=>false
 |_=>v.isSome
def AL (zs:List Value)(cs:List Value):Nat→List Value:=List.rec (fun _=>[]) (fun z _ ih o=>Qp z cs o::ih (qak o)) zs
def Sm (zs:List Value)(cs:List Value):Nat→Bool:=List.rec (fun _=>true) (fun z _ ih o=>sel (gI z (nth cs o)) (ih (qak o)) false) zs
def Y7 (P:Program)(t:TypeId)(o:Nat)(cs:List Value)(k:Value→Option R):Option R:=
 aj (isAgg P t) fun g=>sel g
  (aj (size P t) fun n=>aj (zero P t) fun zs=>guard (qab (aQ zs) n) (guard (Sm zs cs o) (k (FM (AL zs cs o)))))
  (aj (zero P t) fun zs=>jg zs none fun z _=>guard (gI z (nth cs o)) (k (Qp z cs o)))
def atn (P:Program)(t:TypeId):Bool:=
 match P.underlying t with
 |some (.slice _)=>true
 |_=>false
def alY (cs:List Value)(o:Nat):Nat:=
 match nth cs o with
 |some (.float _ n)=>n
 |_=>0
def anG (v:Option Value):Bool:=
 match v with
 |some (.float k _)=>JU k
 |_=>false
def ZG (P:Program)(t:TypeId)(o:Nat)(cs:List Value)(k:Value→Option R):Option R:=
 aj (isAgg P t) fun g=>sel g none (guard (anG (nth cs o)) (k (.float .f64 (alY cs o))))
def anD (q:Bool)(C:Cfg)(ev:Ev)(s:St)(t:TypeId)(a:Operand)(k:Res→Option R):Option R:=
 aj (ev a) fun v=>match v with
  |.pointer (some a)=>aj (s.cells a.block) fun c=>sel (q&&atn C.P t) (ZG C.P t a.off c.1 fun v=>k (.val v s)) (Y7 C.P t a.off c.1 fun v=>k (.val v s))
  |_=>none
def agW (C:Cfg)(ev:Ev)(s:St)(t:TypeId)(a x:Operand)(k:Res→Option R):Option R:=
 aj (ev a) fun v=>match v with
  |.pointer (some a)=>aj (ev x) fun v=>aj (size C.P t) fun n=>guard (qab (aQ (cellsOf v)) n) (o7 s a.block a.off (cellsOf v) fun s=>k (.val unit s))
  |_=>none
def Ey (s:St)(elem:TypeId)(base:Option Addr)(len cap sz:Nat)(a:Value)(k:Value × St→Option R):Option R:=
 sel (ltN cap bf||base.isNone) (guard (qae len cap) (k (a,s)))
  (Option.casesOn base none fun p=>sel (qab p.block fF) (guard (qab len 0) (k (a,s))) <| aj (s.cells p.block) fun c=>
   guard (qab c.2.1 elem&&Jc p.off cap sz&&qae 1 sz && !qab c.2.2 0&&qae (qag p.off (qaj len sz)) (aQ c.1)) (k (a,s)))
def NV (s:St)(p:Addr)(len cap need e:Nat)(new:List Value)(k:Value × St→Option R):Option R:=
 o7 s p.block e new fun s=>k (.slice (some p) need cap,s)
def G9 (P:Program)(s:St)(p:Addr)(len cap need e sz:Nat)(new:List Value)(c:List Value × TypeId × Nat)(k:Value × St→Option R):Option R:=
 guard (zX P c.2.1 need) <| alo (qaj len sz) (bJ p.off c.1) fun old=>
  sel (ltN cap bf)
   (guard (ltN cap need) (k (grow s c.2.1 (aI old new) need)))
   (guard (qab e (aQ c.1)&&qae ak p.block&&qO new) (k (branch s p.block (aI old new) c.2.1 c.2.2 need)))
def Ov (P:Program)(s:St)(elem:TypeId)(p:Addr)(len cap n sz:Nat)(new:List Value)(k:Value × St→Option R):Option R:=
 aj (s.cells p.block) fun c=>
  guard (qab c.2.1 elem&&qae 1 sz&&(ltN cap bf||(Jc p.off cap sz && !qab c.2.2 0))) <| sel (qae (qag len n) cap&&qae (qag (qag p.off (qaj len sz)) (qaj n sz)) (aQ c.1))
   (NV s p len cap (qag len n) (qag p.off (qaj len sz)) new k)
   (G9 P s p len cap (qag len n) (qag p.off (qaj len sz)) sz new c k)
def Xc (P:Program)(s:St)(elem:TypeId)(base:Option Addr)(len cap n sz:Nat)(new:List Value)(a:Value)(k:Value × St→Option R):Option R:=
 sel (qab n 0) (Ey s elem base len cap sz a k) (Option.casesOn base (guard (qab len 0&&qab cap 0&&zX P elem n) (k (grow s elem new n))) fun p=>Ov P s elem p len cap n sz new k)
def aai (P:Program)(s:St)(sT:TypeId)(T2:Option TypeId)(a b:Value)(k:Value × St→Option R):Option R:=
 guard (OW P T2) <| match P.underlying sT with
 |some (.slice elem)=>match a with
  |.slice base len cap=>aj (lenOf b) fun n=>aj (size P elem) fun sz=>abQ s sz n b fun new=>Xc P s elem base len cap n sz new a k
  |_=>none
 |_=>none
def apN (P:Program)(s:St)(t:TypeId)(d x:Value)(k:Res→Option R):Option R:=
 match P.underlying t with
 |some (.slice e)=>match d with
  |.slice base dLen _=>aj (lenOf x) fun sl=>aj (size P e) fun sz=>abQ s sz (sel (qae sl dLen) sl dLen) x fun new=>
    sel (qab (sel (qae sl dLen) sl dLen) 0) (k (.val (i64 0) s))
     (Option.casesOn base none fun a=>o7 s a.block a.off new fun s=>k (.val (i64 (sel (qae sl dLen) sl dLen)) s))
  |_=>none
 |_=>none
def TB (s:St)(a:Addr)(e:TypeId)(cap l h m n:Nat)(k:Value × St→Option R):Option R:=
 aj (s.cells a.block) fun c=>
  guard (qab c.2.1 e&&Jc a.off cap n&&qae 1 n && !qab c.2.2 0&&qae cap aF&&(ltN m bf||qae bf (qam m l))&&qae (qag a.off (qaj (sel (qae bf m) h m) n)) (aQ c.1))
   (sel (ltN m bf||ltN l h||ltN (qag a.off (qaj l n)) (aQ c.1)||qab l 0)
    (sel (qab m l) (k (.slice (some a) (qam h l) (qam m l),s)) (k (.slice (some ⟨a.block,qag a.off (qaj l n),none⟩) (qam h l) (qam m l),s)))
    (k (dB,s)))
def LW (s:St)(a:Option Addr)(e:TypeId)(cap l h m n:Nat)(k:Value × St→Option R):Option R:=
 guard (qae l h&&qae h m&&qae m cap)
  (Option.casesOn a (k (.slice none (qam h l) (qam m l),s))
   fun a=>sel (qab a.block fF) (guard (qab h 0&&qab cap aF&&(qab m 0||qab m aF)) (k (dB,s))) (sel (qae bf cap) (TB s a e cap l h m n k)
    (k (.slice (some (sel (qab m l) a ⟨a.block,qag a.off (qaj l n),none⟩)) (qam h l) (qam m l),s))))
def aum (ev:Ev)(x:Option Operand)(k:Option Value→Option R):Option R:=Option.casesOn x (k none) fun x=>aj (ev x) fun v=>k (some v)
def aaM (C:Cfg)(ev:Ev)(s:St)(t:TypeId)(x:Operand)(lo hi mx:Option Operand)(k:Res→Option R):Option R:=
 aj (ev x) fun x=>aum ev lo fun lo=>aum ev hi fun hi=>aum ev mx fun mx=>match x with
  |.slice a len cap=>match C.P.underlying t with
   |some (.slice e)=>aj (size C.P e) fun n=>bounds lo hi mx len cap fun l h m=>guard (mx.isNone||(hi.isSome&&ltN m bf)) (LW s a e cap l h m n fun q=>k (.val q.1 q.2))
   |_=>none
  |x=>aj (aj (J8 C.P s t x lo hi mx) Hy) k
def aay (mx:Bool)(s:St)(x y:Value)(k:Res→Option R):Option R:=
 match x with
 |.int ka a=>match y with
  |.int _ b=>sel (sel mx (ltI a b) (ltI b a)) (k (.val (.int ka b) s)) (k (.val (.int ka a) s))
  |_=>none
 |_=>none
theorem PD (mx:Bool)(s:St)(x y:Value)(k:Res→Option R):aay mx s x y k=aj (En mx s x y) k:=by
 cases x with
 |int ka a=>cases y with
  |int kb b=>
   show sel (sel mx (ltI a b) (ltI b a)) _ _=aj (ret (.int ka (sel (sel mx (ltI a b) (ltI b a)) b a)) s) k
   cases (sel mx (ltI a b) (ltI b a)) <;> rfl
  |_=>rfl
 |_=>rfl
def Zb (C:Cfg)(ev:Ev)(s:St)(c:Call)(k:Res→Option R):Option R:=
 match c.callee with
 |.builtin b=>aj (evs ev c.args.toList) fun args=>match args with
  |[x,y]=>match b with
   |.append=>aj (nth c.argTypes.toList 0) fun t=>aai C.P s t (nth c.argTypes.toList 1) x y fun q=>k (.val q.1 q.2)
   |.copy=>aj (nth c.argTypes.toList 0) fun t=>apN C.P s t x y k
   |.min=>aay false s x y k
   |.max=>aay true s x y k
   |b=>aj (builtin C s b (nth c.argTypes.toList 0) (nth c.argTypes.toList 1) [x,y]) k
  |args=>aj (builtin C s b (nth c.argTypes.toList 0) (nth c.argTypes.toList 1) args) k
 |_=>aj (zN C ev s c) k
def fZ:List Value→Bool:=fun l=>List.rec true (fun v _ ih=>sel (byteOf v).isSome ih false) l
def vk:List Value→List UInt8:=fun l=>List.rec [] (fun v _ ih=>Option.rec 0 (fun b=>b) (byteOf v)::ih) l
def av1 (C:Cfg)(s:St)(src:TypeId)(n:Nat)(v:Value)(k:Res→Option R):Option R:=
 match C.P.underlying src with
 |some (.slice e)=>guard (isBytes C.P e) (abQ s 1 n v fun cs=>guard (fZ cs) (k (.val (.string ⟨⟨vk cs⟩⟩) s)))
 |_=>none
def apl (P:Program)(t:TypeId):Bool:=
 match P.underlying t with
 |some (.int .i64)=>true
 |_=>false
def Um (C:Cfg)(ev:Ev)(s:St)(src dst:TypeId)(x:Operand)(z:Int)(k:Res→Option R):Option R:=
 sel (apl C.P dst&&(C.P.underlying src).isSome) (Int.casesOn z (fun n=>sel (qae 9223372036854775808 n) (aj (jM C ev s src dst x) k) (k (.val (.int .i64 (qaf n)) s))) (fun _=>aj (jM C ev s src dst x) k)) (aj (jM C ev s src dst x) k)
def U1 (C:Cfg)(ev:Ev)(s:St)(src dst:TypeId)(x:Operand)(k:Res→Option R):Option R:=
 aj (ev x) fun v=>match v with
  |.slice (some a) n c=>sel (isStr C.P dst) (av1 C s src n (.slice (some a) n c) k) (aj (jM C ev s src dst x) k)
  |.int kd z=>Um C ev s src dst x z k
  |_=>aj (jM C ev s src dst x) k
def BN (C:Cfg)(ev:Ev)(t:TypeId)(l c:Operand)(k:List Value→TypeId→Nat→Nat→Option R):Option R:=
 match C.P.underlying t with
 |some (.slice e)=>aj (ev l) fun l=>aj (asNat l) fun l=>aj (ev c) fun c=>aj (asNat c) fun c=>aj (C.P.info? e) fun i=>aj (zero C.P e) fun z=>
   guard (qab (aQ z) i.size&&qae 1 i.size&&qae l c&&qae c 100000&&qae (qaj i.bytes c) 281474976710656) (k (repeatL c z) e l c)
 |_=>none
def Hf (C:Cfg)(ev:Ev)(s:St)(t:TypeId)(l c:Operand)(k:Res→Option R):Option R:=
 BN C ev t l c fun cs e l c=>s.new (.row cs e 0) fun id s=>k (.val (.slice (some ⟨id,0,none⟩) l c) s)
def auC (C:Cfg)(ev:Ev)(o:Op)(k:Row × (Nat→Value)→Option R):Option R:=
 match o with
 |.makeSlice t l c=>BN C ev t l c fun cs e l c=>k (.row cs e 0,fun id=>.slice (some ⟨id,0,none⟩) l c)
 |o=>aj (aOp C ev o) k
def opK (K:KP)(C:Cfg)(ev:Ev)(s:St)(o:Op)(k:Res→Option R):Option R:=
 match o with
 |.binOp op t x y _=>aj (ev x) fun a=>aj (ev y) fun b=>aw6 K C t op x y a b fun v=>k (.val v s)
 |.indexAddr t x i=>BX C ev s t x i k
 |.load t a=>anD K.opq C ev s t a k
 |.store t a x=>agW C ev s t a x k
 |.slice t x lo hi mx=>aaM C ev s t x lo hi mx k
 |.call c=>Zb C ev s c k
 |.convert src dst x=>U1 C ev s src dst x k
 |.makeSlice t l c=>Hf C ev s t l c k
 |o=>aj (execOp C ev s o) k
def anM (K:KP)(C:Cfg)(n:Nat)(fr:Fr)(s:St)(o:Op)(k:Fr→Res→Option R):Option R:=
 match o with
 |.pick c a b=>anJ C n fr s c a b k
 |o=>opK K C (fr.ev n) s o (k fr)
def aa1 (n:Nat)(all:List Oper)(g:Option (Nat × Bool))(fr:Fr)(run skip:Fr→Option R):Option R:=
 Option.casesOn g (run fr) fun g=>aj (nth all g.1) fun o=>aj o.dst fun d=>aj (fr.ev n (.tmp d)) fun v=>match v with
  |.bool c=>sel c (sel g.2 (run (know n d true fr)) (skip (know n d true fr))) (sel g.2 (skip (know n d false fr)) (run (know n d false fr)))
  |_=>skip fr
def ajf (K:KP)(C:Cfg)(call:vO R)(yield:qP R)(rd:Bool)(n:Nat)(all:List Oper)(o:Oper)(k:FK R)(fr:Fr)(s:St):Option R:=
 aa1 n all o.guard fr (fun fr=>anM K C n fr s o.op fun fr r=>abh call yield rd n fr o.dst k r) (fun fr=>k (fr.put n o.dst unit) s)
def aup (K:KP)(C:Cfg)(call:vO R)(yield:qP R)(rd:Bool)(n:Nat)(all:List Oper)(ops:List Oper)(k:FK R):FK R:=
 List.rec k (fun o _ ih=>ajf K C call yield rd n all o ih) ops
abbrev acL (R:Type):=Bool→List YF→Fr→St→Option R
def VQ (C:Cfg)(call:vO R)(yield:qP R)(rd:Bool)(n:Nat)(base:Nat)(a:Info)(rest:List Info)(k:acL R)(cl:Bool)(pend:List YF)(fr:Fr)(r:Res):Option R:=
 sel (cl&&(l9 a.op.op&&tK C r)) (abh call yield rd n fr a.op.dst (fun fr s=>guard (kM s base rest) (k true pend fr s)) r)
  (abh call yield rd n fr a.op.dst (fun fr s=>guard (tH C n s a.mask pend&&kM s base rest) (k false pend fr s)) r)
def ax9 (k:Value→Option R)(r:Res):Option R:=
 match r with
 |.val v _=>k v
 |_=>none
def TI (K:KP)(C:Cfg)(call:vO R)(yield:qP R)(rd:Bool)(n:Nat)(all:List Oper)(base:Nat)(a:Info)(rest:List Info)(k:acL R)(cl:Bool)(pend:List YF)(fr:Fr)(s:St):Option R:=
 aa1 n all a.op.guard fr (fun fr=>
  (EO a.cls
   (anM K C n fr s a.op.op fun fr=>ax9 fun v=>k cl pend (fr.put n a.op.dst v) s)
   fun c1=>EO c1
    (anM K C n fr s a.op.op fun fr=>ax9 fun v=>guard (kL s v) (k cl ({ i:=a.i,op:=a.op.op,fr:=fr,v:=v }::pend) (fr.put n a.op.dst v) s))
    fun c2=>EO c2
     (auC C (fr.ev n) a.op.op fun q=>k false pend (fr.put n a.op.dst (q.2 (qag base a.i))) { heap:=s.heap.set (qag base a.i) q.1,bQ:=s.bQ,next:=s.next })
     fun _=>opK K C (fr.ev n) s a.op.op (VQ C call yield rd n base a rest k cl pend fr)))
  (fun fr=>k cl pend (fr.put n a.op.dst unit) s)
def ahm (K:KP)(C:Cfg)(call:vO R)(yield:qP R)(rd:Bool)(n:Nat)(all:List Oper)(base:Nat)(l:List Info)(k:FK R):acL R:=
 List.rec (fun _ _ fr s=>k fr s) (fun a rest ih=>TI K C call yield rd n all base a rest ih) l
def akB (K:KP)(C:Cfg)(call:vO R)(yield:qP R)(rd:Bool)(n:Nat)(all:List Oper)(order:List Nat)(k:FK R)(fr:Fr)(s:St):Option R:=
 aj (IU all order) fun l=>ahm K C call yield rd n all s.next l k true [] fr { heap:=s.heap,bQ:=s.bQ,next:=qag s.next (aQ all) }
def ak8 (b:FK R)(k:XK R)(ex:Ex)(fr:Fr)(s:St):Option R:=
 match ex with
 |.normal=>b fr s
 |ex=>k ex fr s
def ahj (f:XK R→FK R)(k:XK R):Nat→FK R:=fun n=>Nat.rec (fun _ _=>none) (fun _ ih=>f (ak8 ih k)) n
def anl (id:Nat)(k:XK R)(ex:Ex)(fr:Fr)(s:St):Option R:=
 match ex with
 |.exit id'=>sel (qab id id') (k .normal fr s) (k ex fr s)
 |ex=>k ex fr s
def atK (n:Nat)(x:Operand)(a b:FK R)(fr:Fr)(s:St)(v:Value):Option R:=
 match v with
 |.bool c=>sel c (a (SS n x true fr) s) (b (SS n x false fr) s)
 |_=>none
def MQ (k:XK R)(r:Ex × Fr × St):Option R:=k r.1 r.2.1 r.2.2
def Ih (C:Cfg)(call:vO R)(fr:Fr)(l:Nat)(f:Value)(s:St)(k:XK R):Option R:=
 aj (invoke C s f [.func (.yield l) #[] #[]]) fun r=>match r with
  |.call g args s=>call g args s fun q=>aj (getLoop q.2 l) fun r=>aj (Iq fr q.2 l r) (MQ k)
  |_=>none
def ahB (C:Cfg)(call:vO R)(n:Nat)(fn:FuncId)(inRound:Bool)(f:Operand)(params:Array Tmp)(assign body:Code)(k:XK R)(fr:Fr)(s:St):Option R:=
 sel inRound none <| aj (fr.ev n f) fun f=>s.new .other fun _ s=>
  s.new (.loop (.loop { state:=.ready,pending:=none,fn:=fn,vars:=fr.vars,params:=params.toList,assign:=assign,body:=body,n:=n })) fun l s=>Ih C call fr l f s k
def aiL (C:Cfg)(fn:FuncId)(body:Code)(it:FK R)(k:XK R)(fr:Fr)(s:St):Option R:=
 Option.casesOn (C.Le fn (iG body)) (it fr s) fun F=>(F fr s).runK (MQ k) (it fr s)
def apC (K:KP)(C:Cfg)(fn:FuncId)(rd:Bool)(body:Code)(it:FK R)(k:XK R)(fr:Fr)(s:St):Option R:=
 sel rd (it fr s) (Option.casesOn (K.aqC fn (iG body) fr s) (aiL C fn body it k fr s) fun p=>guard p.1 (MQ k p.2))
def jC (K:KP)(C:Cfg)(call:vO R)(yield:qP R)(n:Nat)(fn:FuncId)(inRound:Bool)(c:Code):XK R→FK R:=
 Code.rec (motive:=fun _=>XK R→FK R)
  (fun k fr s=>k .normal fr s)
  (fun id ops draw k fr s=>sel draw (akB K C call yield inRound n ops.toList (C.order fn id) (k .normal) fr.fresh s) (aup K C call yield inRound n ops.toList ops.toList (k .normal) fr.fresh s))
  (fun _ _ a b k=>a (ak8 (b k) k))
  (fun c _ _ a b k fr s=>aj (fr.ev n c) (atK n c (a k) (b k) fr s))
  (fun id _ a k=>a (anl id k))
  (fun body a k=>apC K C fn inRound body (ahj a k K.L) k)
  (fun f params assign body _ _ k fr s=>ahB C call n fn inRound f params assign body k fr s)
  (fun id k fr s=>k (.exit id) fr s)
  (fun _ a k fr s=>sel inRound none (a k fr s))
  (fun _ k fr s=>k .normal fr s)
  (fun _ _ _ _=>none)
  (fun k fr s=>k .ret fr s)
  (fun _ _ _ _=>none) c
def ahX (C:Cfg)(dcall:gq)(f:FuncId)(k:Value × St→Option R)(ex:Ex)(fr:Fr)(s:St):Option R:=
 match ex with
 |.exit _=>none
 |_=>aj (unwind dcall fr.defers s) fun s=>aj (results C.P (C.vars f) fr s (C.results f)) fun vs=>k (tuple vs,s)
def ajB (K:KP)(C:Cfg)(call:gq)(yield:dP)(iE:vO R)(dN:qP R):vO R:=fun f args s k=>
 aj (C.body f) fun c=>jC K C iE dN (C.vars f) f false c (ahX C (PW C call yield) f k) (pW args) s
def axR (C:Cfg)(t:Con)(s:St)(args:List Value)(z:Option R)(k:Value × St→Option R):Option R:=
 match t with
 |.tree F=>(F s args).runK k z
 |t=>Option.casesOn (lJ C t s args) z k
def ajK (K:KP)(C:Cfg)(call:gq)(yield:dP)(iE:vO R)(dN:qP R):vO R:=fun f args s k=>
 Option.casesOn (K.alt f args)
  (Option.casesOn (C.insert f) (ajB K C call yield iE dN f args s k) fun t=>axR C t s args (ajB K C call yield iE dN f args s k) k)
  fun p=>guard p.1 (k (p.2,s))
def asf (l:List Int)(k:Value × St→Option R)(q:Value × St):Option R:=
 match q.1 with
 |.int kd z=>jg l (k q) fun _ _=>List.rec none (fun c _ ih=>sel (eqI z c) (k (.int kd c,q.2)) ih) l
 |_=>k q
def arz (K:KP)(C:Cfg)(call:gq)(yield:dP)(iE:vO R)(dN:qP R):vO R:=fun f args s k=>ajK K C call yield iE dN f args s (asf (K.post f args) k)
def as9 (K:KP)(C:Cfg)(iE:vO R)(dN:qP R)(l:Nat)(r0:DC)(k:Value × St→Option R)(ex:Ex)(fr:Fr)(s:St):Option R:=
 match ex with
 |.normal=>aj (getLoop s l) fun r=>match r.state with
  |.ready=>jC K.plain C iE dN r0.n r0.fn true r0.body (fun ex fr s=>aj (endRound l (ex,fr,s)) k) fr (uf s l r .busy r.pending)
  |_=>none
 |_=>none
def Ip (K:KP)(C:Cfg)(iE:vO R)(dN:qP R):qP R:=fun l args s k=>
 aj (getLoop s l) fun r=>aj (J3 r.params args r.vars) fun vars=>
  jC K.plain C iE dN r.n r.fn true r.assign (as9 K C iE dN l r k) { vars:=vars,loc:=[],defers:=[] } s
def runK (K:KP)(C:Cfg)(n:Nat):vO R × qP R:=
 Nat.rec (fun _ _ _ _=>none,fun _ _ _ _=>none) (fun m ih=>(arz (EO m K.plain fun _=>K) C (runN C m).1 (runN C m).2 ih.1 ih.2,Ip K C ih.1 ih.2)) n
def Imp (x y:Option R):Prop:=∀ r,x=some r→y=some r
theorem aT (x:Option R):Imp x x:=fun _ h=>h
theorem jS {x y:Option R}(h:x=y):Imp x y:=fun _ hx=>h▸hx
theorem imp_trans {x y z:Option R}(h:Imp x y)(g:Imp y z):Imp x z:=fun r hr=>g r (h r hr)
theorem oz (y:Option R):Imp none y:=fun _ h=>by cases h
theorem dH {α:Type}(x:Option α){k l:α→Option R}(h:∀ a,Imp (k a) (l a)):Imp (aj x k) (aj x l):=by
 cases x with
 |none=>exact aT _
 |some a=>exact h a
theorem VH (b:Bool){x y:Option R}(h:b=true→Imp x y):Imp (guard b x) (guard b y):=by
 cases b with
 |false=>exact aT _
 |true=>exact h rfl
theorem FD {α:Type}(k:α→Option R)(y:Option α):∀ t:Tree α,Imp (t.uV k) (Ax.aj (Option.casesOn t.run y some) k)
 |.fail=>oz _
 |.leaf a=>fun _ h=>h
 |.test b t u=>by
  show Imp (sel b (t.uV k) (u.uV k)) (Ax.aj (Option.casesOn (sel b t.run u.run) y some) k)
  cases b with
  |true=>exact FD k y t
  |false=>exact FD k y u
theorem V6 {α:Type}(k:α→Option R){z:Option R}{y:Option α}(hz:Imp z (Ax.aj y k))(t:Tree α):Imp (t.runK k z) (Ax.aj (Option.casesOn t.run y some) k):=by
 cases t with
 |fail=>exact hz
 |leaf a=>exact fun _ h=>h
 |test b t u=>
  show Imp (sel b (t.uV k) (u.uV k)) (Ax.aj (Option.casesOn (sel b t.run u.run) y some) k)
  cases b with
  |true=>exact FD k y t
  |false=>exact FD k y u
theorem afu:∀ (n:Nat) (l:List Value),takeN n l=guard (qae n (aQ l)) (some (aA n l))
 |0,l=>rfl
 |n+1,[]=>rfl
 |n+1,a::l=>by
  show aj (takeN n l) (fun r=>some (a::r))=guard (qae n (aQ l)) (some (a::aA n l))
  rw [afu n l]
  cases qae n (aQ l) <;> rfl
theorem abT (n:Nat)(l:List Value)(k:List Value→Option R):alo n l k=Ax.aj (takeN n l) k:=by
 unfold alo
 rw [afu,bW]
 rfl
theorem ahw:∀ (vs cs:List Value),ZR vs cs=Ax.guard (qae (aQ vs) (aQ cs)) (some (aI vs (bJ (aQ vs) cs)))
 |[],cs=>rfl
 |v::vs,[]=>rfl
 |v::vs,c::cs=>by
  show Ax.aj (ZR vs cs) (fun r=>some (v::r))=Ax.guard (qae (aQ vs) (aQ cs)) (some (v::aI vs (bJ (aQ vs) cs)))
  rw [ahw vs cs]
  cases qae (aQ vs) (aQ cs) <;> rfl
theorem aaZ (vs:List Value):∀ (o:Nat) (cs:List Value),splice vs o cs=Ax.guard (qae (qag o (aQ vs)) (aQ cs)) (some (xU vs o cs))
 |0,cs=>by
  show ZR vs cs=_
  rw [ahw]
  unfold xU
  rw [show qag 0 (aQ vs)=aQ vs from Nat.zero_add _]
  rfl
 |o+1,[]=>by
  show none=Ax.guard (qae (qag (o+1) (aQ vs)) 0) _
  rw [show qag (o+1) (aQ vs)=qak (o+aQ vs) from Nat.succ_add _ _]
  rfl
 |o+1,c::cs=>by
  show Ax.aj (splice vs o cs) (fun r=>some (c::r))=_
  rw [aaZ vs o cs]
  unfold xU
  rw [show qag (o+1) (aQ vs)=qak (qag o (aQ vs)) from Nat.succ_add _ _]
  show Ax.aj (Ax.guard (qae (qag o (aQ vs)) (aQ cs)) _) _=Ax.guard (qae (qag o (aQ vs)) (aQ cs)) _
  cases qae (qag o (aQ vs)) (aQ cs) <;> rfl
theorem aeb (vs:List Value)(o:Nat)(cs:List Value)(k:List Value→Option R):aan vs o cs k=Ax.aj (splice vs o cs) k:=by
 unfold aan
 rw [aaZ,bW]
 rfl
theorem OD (s:St)(sz n:Nat)(v:Value)(k:List Value→Option R):abQ s sz n v k=Ax.aj (firstCells s sz n v) k:=by
 cases v with
 |slice a l c=>cases a with
  |none=>
   show Ax.guard (qab n 0) (k [])=Ax.aj (Ax.guard (qab n 0) (some [])) k
   rw [bW];rfl
  |some a=>
   show Ax.sel _ _ _=Ax.aj (Ax.sel _ _ _) k
   cases qab a.block fF with
   |true=>
    show Ax.guard (qab n 0) (k [])=Ax.aj (Ax.guard (qab n 0) (some [])) k
    rw [bW];rfl
   |false=>
    show Ax.aj (s.cells a.block) _=Ax.aj (Ax.aj (s.cells a.block) _) k
    rw [aC]
    exact aH _ fun c=>abT _ _ k
 |string b=>
  show Ax.guard (qab sz 1) _=Ax.aj (Ax.guard (qab sz 1) _) k
  rw [bW];rfl
 |_=>rfl
theorem vK (s:St)(b o:Nat)(vs:List Value)(k:St→Option R):o7 s b o vs k=Ax.aj (storeCells s b o vs) k:=by
 unfold o7 storeCells
 rw [bW,aC]
 congr 1
 refine aH _ fun c=>?_
 rw [aeb,aC]
 rfl
theorem VG {z:Value}{cs:List Value}{o:Nat}(h:gI z (nth cs o)=true):nth cs o=some (Qp z cs o):=by
 cases z with
 |int k z=>
  show _=some (Ax.sel (qw k) (Value.int k (qaf (ay cs o))) (Value.int k (apu cs o)))
  unfold apu ay
  generalize nth cs o=v at h
  match v,h with
  |some (.int j y),h=>
   have h:(iy k j&&Ax.sel (qw k) (amN y) true)=true:=h
   simp only [qac] at h
   have:=lQ h.1
   subst this
   have h2:=h.2
   cases hw:qw k with
   |false=>rfl
   |true=>
    rw [hw,aN] at h2
    cases y with
    |ofNat n=>rfl
    |negSucc n=>cases h2
 |bool z=>
  show _=some (Value.bool (aeZ cs o))
  unfold aeZ
  generalize nth cs o=v at h
  match v,h with
  |some (.bool y),h=>rfl
 |string z=>
  show _=some (Value.string (aod cs o))
  unfold aod
  generalize nth cs o=v at h
  match v,h with
  |some (.string y),h=>rfl
 |_=>
  show _=some (anI cs o _)
  unfold anI
  cases hn:nth cs o with
  |none=>rw [hn] at h;cases h
  |some v=>rfl
theorem Xv:∀ (o:Nat) (cs:List Value),nth cs o=jg (bJ o cs) none (fun a _=>some a)
 |0,[]=>rfl
 |0,a::cs=>rfl
 |o+1,[]=>rfl
 |o+1,a::cs=>Xv o cs
theorem OE:∀ (o:Nat) (cs:List Value),bJ (o+1) cs=jg (bJ o cs) [] (fun _ t=>t)
 |0,[]=>rfl
 |0,a::cs=>rfl
 |o+1,[]=>rfl
 |o+1,a::cs=>OE o cs
theorem IW (cs:List Value):∀ (zs:List Value) (o:Nat),Sm zs cs o=true→takeN (aQ zs) (bJ o cs)=some (AL zs cs o)
 |[],o,_=>rfl
 |z::zs,o,h=>by
  change Ax.sel (gI z (nth cs o)) (Sm zs cs (o+1)) false=true at h
  obtain ⟨h1,h2⟩:=dn h
  have h3:=VG h1
  have h4:=IW cs zs (o+1) h2
  rw [Xv] at h3
  rw [OE] at h4
  show takeN (qak (aQ zs)) (bJ o cs)=some (Qp z cs o::AL zs cs (o+1))
  cases hd:bJ o cs with
  |nil=>rw [hd] at h3;cases h3
  |cons a t=>
   rw [hd] at h3 h4
   have h3:some a=some (Qp z cs o):=h3
   have h4:takeN (aQ zs) t=some (AL zs cs (o+1)):=h4
   show Ax.aj (takeN (aQ zs) t) (fun r=>some (a::r))=_
   rw [h4,Option.some.inj h3]
   rfl
theorem YR (P:Program)(t:TypeId)(o:Nat)(cs:List Value)(k:Value→Option R):Imp (Y7 P t o cs k) (Ax.aj (Iz P t o cs) k):=by
 unfold Y7 Iz
 rw [aC]
 refine dH _ fun g=>?_
 cases g with
 |true=>
  show Imp (Ax.aj (size P t) _) (Ax.aj (Ax.aj (size P t) _) k)
  rw [aC]
  refine dH _ fun n=>?_
  cases hz:zero P t with
  |none=>exact oz _
  |some zs=>
   show Imp (Ax.guard (qab (aQ zs) n) (Ax.guard (Sm zs cs o) (k (FM (AL zs cs o))))) _
   intro r hr
   obtain ⟨h1,hr1⟩:=au.1 hr
   obtain ⟨h2,hr2⟩:=au.1 hr1
   have h3:aQ zs=n:=qaa h1
   rw [←h3,IW cs zs o h2]
   exact hr2
 |false=>
  cases hz:zero P t with
  |none=>exact oz _
  |some zs=>cases zs with
   |nil=>exact oz _
   |cons z zs=>
    intro r hr
    obtain ⟨h1,hr⟩:=au.1 (show Ax.guard (gI z (nth cs o)) (k (Qp z cs o))=some r from hr)
    show Ax.aj (nth cs o) k=some r
    rw [VG h1]
    exact hr
theorem ZE (P:Program)(t:TypeId)(o:Nat)(cs:List Value)(k:Value→Option R):Imp (ZG P t o cs k) (Ax.aj (Iz P t o cs) k):=by
 unfold ZG Iz
 rw [aC]
 refine dH _ fun g=>?_
 cases g with
 |true=>exact oz _
 |false=>
  intro r hr
  obtain ⟨h1,hr⟩:=au.1 (show Ax.guard (anG (nth cs o)) (k (.float .f64 (alY cs o)))=some r from hr)
  show Ax.aj (nth cs o) k=some r
  have e:nth cs o=some (.float .f64 (alY cs o)):=by
   unfold alY
   unfold anG at h1
   cases hc:nth cs o with
   |none=>rw [hc] at h1;cases h1
   |some v=>
    rw [hc] at h1
    cases v with
    |float kd n=>cases kd <;> first|rfl|cases h1
    |_=>cases h1
  rw [e]
  exact hr
theorem ahc (q:Bool)(C:Cfg)(ev:Ev)(s:St)(t:TypeId)(a:Operand)(k:Res→Option R):Imp (anD q C ev s t a k) (Ax.aj (ZB C ev s t a) k):=by
 unfold anD ZB wE
 rw [aC]
 refine dH _ fun v=>?_
 cases v with
 |pointer p=>cases p with
  |none=>exact aT _
  |some a=>
   show Imp _ (Ax.aj (Ax.aj (load C.P s t a.block a.off) fun v=>ret v s) k)
   unfold load
   rw [aC,aC]
   refine dH _ fun c=>?_
   cases (q&&atn C.P t) with
   |true=>
    rw [aN]
    exact imp_trans (ZE C.P t a.off c.1 _) (jS rfl)
   |false=>
    rw [aO]
    exact imp_trans (YR C.P t a.off c.1 _) (jS rfl)
 |_=>exact aT _
theorem aiv (C:Cfg)(ev:Ev)(s:St)(t:TypeId)(a x:Operand)(k:Res→Option R):agW C ev s t a x k=Ax.aj (I4 C ev s t a x) k:=by
 unfold agW I4 wE
 rw [aC]
 refine aH _ fun v=>?_
 cases v with
 |pointer p=>cases p with
  |none=>rfl
  |some a=>
   show Ax.aj (ev x) _=Ax.aj (Ax.aj (ev x) _) k
   rw [aC]
   refine aH _ fun v=>?_
   unfold store
   rw [aC,aC]
   refine aH _ fun n=>?_
   rw [bW]
   congr 1
   rw [vK]
   rfl
 |_=>rfl
theorem Ph (s:St)(elem:TypeId)(base:Option Addr)(len cap sz:Nat)(a:Value)(k:Value × St→Option R):Ey s elem base len cap sz a k=Ax.aj (xJ s elem base len cap sz a) k:=by
 unfold Ey xJ
 cases (ltN cap bf||base.isNone) with
 |true=>
  show Ax.guard _ _=Ax.aj (Ax.guard _ _) k
  rw [bW];rfl
 |false=>cases base with
  |none=>rfl
  |some p=>
   rw [aO,aO]
   show Ax.sel (qab p.block fF) _ _=Ax.aj (Ax.sel (qab p.block fF) _ _) k
   cases qab p.block fF with
   |true=>
    rw [aN,aN,bW];rfl
   |false=>
    rw [aO,aO,aC]
    refine aH _ fun c=>?_
    rw [bW];rfl
theorem Xg (s:St)(p:Addr)(len cap need e:Nat)(new:List Value)(k:Value × St→Option R):NV s p len cap need e new k=Ax.aj (JZ s p len cap need e new) k:=by
 unfold NV JZ
 rw [vK,aC]
 rfl
theorem Rq (P:Program)(s:St)(p:Addr)(len cap need e sz:Nat)(new:List Value)(c:List Value × TypeId × Nat)(k:Value × St→Option R):G9 P s p len cap need e sz new c k=Ax.aj (EK P s p len cap need e sz new c) k:=by
 unfold G9 EK
 rw [bW]
 congr 1
 rw [aa2,abT,aC]
 refine aH _ fun old=>?_
 cases ltN cap bf with
 |true=>
  rw [aN,aN,bW];rfl
 |false=>
  rw [aO,aO,bW];rfl
theorem Vt (P:Program)(s:St)(elem:TypeId)(p:Addr)(len cap n sz:Nat)(new:List Value)(k:Value × St→Option R):Ov P s elem p len cap n sz new k=Ax.aj (FX P s elem p len cap n sz new) k:=by
 unfold Ov FX
 rw [aC]
 refine aH _ fun c=>?_
 rw [bW]
 congr 1
 cases (qae (qag len n) cap&&qae (qag (qag p.off (qaj len sz)) (qaj n sz)) (aQ c.1)) with
 |true=>
  rw [aN,aN]
  exact Xg _ _ _ _ _ _ _ _
 |false=>
  rw [aO,aO]
  exact Rq _ _ _ _ _ _ _ _ _ _ _
theorem adx (P:Program)(s:St)(sT:TypeId)(T2:Option TypeId)(a b:Value)(k:Value × St→Option R):aai P s sT T2 a b k=Ax.aj (append P s sT T2 a b) k:=by
 unfold aai append
 rw [bW]
 congr 1
 cases P.underlying sT with
 |none=>rfl
 |some d=>cases d with
  |slice elem=>cases a with
   |slice base len cap=>
    show Ax.aj (lenOf b) _=Ax.aj (Ax.aj (lenOf b) _) k
    rw [aC]
    refine aH _ fun n=>?_
    rw [aC]
    refine aH _ fun sz=>?_
    rw [OD,aC]
    refine aH _ fun new=>?_
    unfold Xc Ug
    cases qab n 0 with
    |true=>exact Ph s elem base len cap sz _ k
    |false=>cases base with
     |none=>
      show Ax.guard _ _=Ax.aj (Ax.guard _ _) k
      rw [bW];rfl
     |some p=>exact Vt P s elem p len cap n sz new k
   |_=>rfl
  |_=>rfl
theorem akJ (P:Program)(s:St)(t:TypeId)(d x:Value)(k:Res→Option R):apN P s t d x k=Ax.aj (ahk P s t d x) k:=by
 unfold apN ahk
 cases P.underlying t with
 |none=>rfl
 |some dd=>cases dd with
  |slice e=>cases d with
   |slice base dLen c=>
    show Ax.aj (lenOf x) _=Ax.aj (Ax.aj (lenOf x) _) k
    rw [aC]
    refine aH _ fun sl=>?_
    rw [aC]
    refine aH _ fun sz=>?_
    rw [OD,aC]
    refine aH _ fun new=>?_
    cases qab (Ax.sel (qae sl dLen) sl dLen) 0 with
    |true=>rfl
    |false=>cases base with
     |none=>rfl
     |some a=>
      rw [aO,aO]
      show o7 s a.block a.off new _=Ax.aj (Ax.aj (storeCells s a.block a.off new) _) k
      rw [vK,aC]
      rfl
   |_=>rfl
  |_=>rfl
theorem Yp (s:St)(a:Option Addr)(e:TypeId)(cap l h m n:Nat)(k:Value × St→Option R):LW s a e cap l h m n k=Ax.aj (vF s a e cap l h m n) k:=by
 unfold LW vF
 rw [bW]
 congr 1
 cases a with
 |none=>rfl
 |some a=>
  show Ax.sel _ _ _=Ax.aj (Ax.sel _ _ _) k
  cases qab a.block fF with
  |true=>
   show Ax.guard _ _=Ax.aj (Ax.guard _ _) k
   rw [bW];rfl
  |false=>
   show Ax.sel _ _ _=Ax.aj (Ax.sel _ _ _) k
   cases qae bf cap with
   |false=>rfl
   |true=>
    show TB _ _ _ _ _ _ _ _ _=Ax.aj (wC _ _ _ _ _ _ _ _) k
    unfold TB wC
    rw [aC]
    refine aH _ fun c=>?_
    rw [bW]
    congr 1
    cases (ltN m bf||ltN l h||ltN (qag a.off (qaj l n)) (aQ c.1)||qab l 0) <;> cases qab m l <;> rfl
theorem Zu (ev:Ev)(x:Option Operand)(k0:Option Value→Option Res)(k:Option Value→Option R)(g:Res→Option R)(h:∀ v,k v=Ax.aj (k0 v) g):aum ev x k=Ax.aj (WU ev x k0) g:=by
 cases x with
 |none=>exact h none
 |some x=>
  show Ax.aj (ev x) _=Ax.aj (Ax.aj (ev x) _) g
  rw [aC]
  exact aH _ fun v=>h (some v)
theorem Xd {β γ:Type}(lo hi mx:Option Value)(len cap:Nat)(k:Nat→Nat→Nat→Option β)(g:β→Option γ):Ax.aj (bounds lo hi mx len cap k) g=bounds lo hi mx len cap fun l h m=>Ax.aj (k l h m) g:=by
 unfold bounds
 rw [aC]
 refine aH _ fun l=>?_
 rw [aC]
 refine aH _ fun h=>?_
 rw [aC]
theorem adG (C:Cfg)(ev:Ev)(s:St)(t:TypeId)(x:Operand)(lo hi mx:Option Operand)(k:Res→Option R):aaM C ev s t x lo hi mx k=Ax.aj (Iu C ev s t x lo hi mx) k:=by
 unfold aaM Iu
 rw [aC]
 refine aH _ fun x=>?_
 refine Zu ev lo _ _ k fun lo=>?_
 refine Zu ev hi _ _ k fun hi=>?_
 refine Zu ev mx _ _ k fun mx=>?_
 cases x with
 |slice a len cap=>
  show _=Ax.aj (Ax.aj (sO C.P s t a len cap lo hi mx) Hy) k
  unfold sO
  cases C.P.underlying t with
  |none=>rfl
  |some d=>cases d with
   |slice e=>
    show Ax.aj (size C.P e) _=Ax.aj (Ax.aj (Ax.aj (size C.P e) _) Hy) k
    rw [aC,aC]
    refine aH _ fun n=>?_
    rw [Xd]
    congr 1
    funext l h m
    rw [bW,Yp]
    rfl
   |_=>rfl
 |_=>rfl
theorem aeF (C:Cfg)(ev:Ev)(s:St)(c:Call)(k:Res→Option R):Zb C ev s c k=Ax.aj (zN C ev s c) k:=by
 unfold Zb
 split
 ·rename_i b hb
  unfold zN
  rw [hb,aC]
  refine aH _ fun args=>?_
  match args with
  |[]=>rfl
  |[x]=>rfl
  |[x,y]=>
   cases b with
   |append=>
    show Ax.aj _ _=Ax.aj (Ax.aj _ _) k
    rw [aC]
    refine aH _ fun t=>?_
    rw [adx,aC]
    rfl
   |copy=>
    show Ax.aj _ _=Ax.aj (Ax.aj _ _) k
    rw [aC]
    exact aH _ fun t=>akJ C.P s t x y k
   |min=>exact PD false s x y k
   |max=>exact PD true s x y k
   |_=>rfl
  |x::y::z::l=>rfl
 ·rfl
theorem Hw {iE:vO R}{dN:qP R}{call:gq}{yield:dP}(hc:∀ f args s k,Imp (iE f args s k) (Ax.aj (call f args s) k))(hy:∀ f args s k,Imp (dN f args s k) (Ax.aj (yield f args s) k))
  (rd:Bool) (n:Nat) (fr:Fr) (dst:Option Tmp) {k:FK R} {k0:Fr→St→Option (Fr × St)} {g:Fr × St→Option R} (hk:∀ fr s,Imp (k fr s) (Ax.aj (k0 fr s) g)) (r:Res) :
  Imp (abh iE dN rd n fr dst k r) (Ax.aj (pX call yield rd n fr dst k0 r) g):=by
 cases r with
 |val v s=>exact hk _ _
 |call f args s=>
  show Imp (iE f args s _) (Ax.aj (Ax.aj (call f args s) _) g)
  rw [aC]
  exact imp_trans (hc f args s _) (dH _ fun q=>hk _ _)
 |yield f args s=>
  show Imp (dN f args s _) (Ax.aj (Ax.aj (yield f args s) _) g)
  rw [aC]
  exact imp_trans (hy f args s _) (dH _ fun q=>hk _ _)
 |defer f args s=>
  cases rd with
  |true=>exact aT _
  |false=>exact hk _ _
theorem wrap_u64 (z:Int):IntKind.wrap .u64 z=z%18446744073709551616:=by
 show (let m:=z%(2 ^ 64:Int);if IntKind.signed .u64&&m≥(2 ^ 63:Int) then m-(2 ^ 64:Int) else m)=_
 simp [IntKind.signed]
theorem ahN (x y:Nat):wrap .u64 (aiu (qaf x) (qaf y))=qaf (avC x y):=by
 rw [wrap_eq,wrap_u64,YI]
 show ((x:Int)-(y:Int))%18446744073709551616=(((x+(18446744073709551616-y%18446744073709551616))%18446744073709551616:Nat):Int)
 omega
theorem aaF (b r:Bool)(x:Option Bool)(h:x=some r):Ax.sel b x (some false)=some (b&&r):=by
 cases b with
 |true=>exact h
 |false=>rfl
theorem XT (f:Value→Value→Option Bool):∀ (n:Nat) (xs ys:List Value) (r:Bool),aiR f n xs ys=some r→adv f n xs ys=some r
 |0,_,_,_,h=>h
 |n+1,[],_,_,h=>by cases h
 |n+1,x::xs,[],_,h=>by cases h
 |n+1,x::xs,y::ys,r,h=>by
  obtain ⟨b,hb,h⟩:=ah.1 (show Ax.aj (f x y) (fun b=>Ax.aj (aiR f n xs ys) fun r=>some (b&&r))=some r from h)
  obtain ⟨r',hr,h⟩:=ah.1 h
  cases h
  show Ax.aj (f x y) (fun b=>Ax.sel b (adv f n xs ys) (some false))=_
  rw [hb]
  exact aaF b r' _ (XT f n xs ys r' hr)
theorem WR {P:Program}{ih ih':EqF}(h:∀ t x y r,ih' t x y=some r→ih t x y=some r){t:TypeId}{o:Nat}{xs ys:List Value}{r:Bool}(hr:uD P ih' t o xs ys=some r):uD P ih t o xs ys=some r:=by
 unfold uD at *
 obtain ⟨x,hx,hr⟩:=ah.1 hr
 obtain ⟨y,hy,hr⟩:=ah.1 hr
 rw [hx]
 show Ax.aj (part P t ys o) _=_
 rw [hy]
 exact h _ _ _ _ hr
theorem Na {P:Program}{ih ih':EqF}(h:∀ t x y r,ih' t x y=some r→ih t x y=some r)(e:TypeId)(n:Nat)(xs ys:List Value):∀ (k i:Nat) (r:Bool),Uz P ih' e n xs ys k i=some r→D8 P ih e n xs ys k i=some r
 |0,_,_,hr=>hr
 |k+1,i,r,hr=>by
  obtain ⟨b,hb,hr⟩:=ah.1 (show Ax.aj (uD P ih' e (qaj i n) xs ys) (fun b=>Ax.aj (Uz P ih' e n xs ys k (qak i)) fun r=>some (b&&r))=some r from hr)
  obtain ⟨r',hr',hr⟩:=ah.1 hr
  cases hr
  show Ax.aj (uD P ih e (qaj i n) xs ys) (fun b=>Ax.sel b (D8 P ih e n xs ys k (qak i)) (some false))=_
  rw [WR h hb]
  exact aaF b r' _ (Na h e n xs ys k (i+1) r' hr')
theorem Jw {P:Program}{ih ih':EqF}(h:∀ t x y r,ih' t x y=some r→ih t x y=some r)(xs ys:List Value):∀ (fs:List Field) (r:Bool),KR P ih' xs ys fs=some r→eqFields P ih xs ys fs=some r
 |[],_,hr=>hr
 |f::fs,r,hr=>by
  obtain ⟨b,hb,hr⟩:=ah.1 (show Ax.aj (uD P ih' f.type f.offset xs ys) (fun b=>Ax.aj (KR P ih' xs ys fs) fun r=>some (b&&r))=some r from hr)
  obtain ⟨r',hr',hr⟩:=ah.1 hr
  cases hr
  show Ax.aj (uD P ih f.type f.offset xs ys) (fun b=>Ax.sel b (eqFields P ih xs ys fs) (some false))=_
  rw [WR h hb]
  exact aaF b r' _ (Jw h xs ys fs r' hr')
theorem agB {x y:Value}{k k':List Value→List Value→Option Bool}(h:∀ xs ys r,k' xs ys=some r→k xs ys=some r){r:Bool}(hr:akT x y k'=some r):akT x y k=some r:=by
 unfold akT at *
 split at hr
 ·split at hr
  ·exact h _ _ _ hr
  ·cases hr
 ·cases hr
theorem adB (C:Cfg){ih ih':EqF}(h:∀ t x y r,ih' t x y=some r→ih t x y=some r)(t:TypeId)(x y:Value)(r:Bool)(hr:TD C ih' t x y=some r):y7 C ih t x y=some r:=by
 unfold TD at hr
 unfold y7
 obtain ⟨d,hd,hr⟩:=ah.1 hr
 rw [hd]
 cases d with
 |array n e=>
  refine agB (fun xs ys r hr=>?_) hr
  obtain ⟨d,hd,hr⟩:=ah.1 hr
  obtain ⟨k,hk,hr⟩:=ah.1 hr
  show Ax.aj (C.P.underlying e) _=_
  rw [hd]
  show Ax.aj (size C.P e) _=_
  rw [hk]
  show Ax.sel (!DR d&&qab k 1) _ _=_
  cases hb:(!DR d&&qab k 1) with
  |true=>rw [hb] at hr;exact XT _ _ _ _ _ hr
  |false=>rw [hb] at hr;exact Na h _ _ _ _ _ _ _ hr
 |struct fs=>
  obtain ⟨hg,hr⟩:=au.1 hr
  show Ax.guard (C.am6 t) _=_
  rw [hg]
  exact agB (fun xs ys r hr=>Jw h xs ys _ r hr) hr
 |_=>exact hr
theorem acE (C:Cfg):∀ (n:Nat) (t:TypeId) (x y:Value) (r:Bool),(Nat.rec (fun _ _ _=>none) (fun _ ih=>TD C ih) n:EqF) t x y=some r→(Nat.rec (fun _ _ _=>none) (fun _ ih=>y7 C ih) n:EqF) t x y=some r
 |0,_,_,_,_,h=>by cases h
 |n+1,t,x,y,r,h=>adB C (acE C n) t x y r h
theorem QA (C:Cfg)(t:TypeId)(op:BinOp)(x y:Operand)(a b:Value)(k:Value→Option R)(hop:op = .eql∨op = .neq) :
  Imp (acP C t op x y a b k) (Ax.aj (Ax.guard (qZ C t x y a b) (binOp C t op a b)) k):=by
 unfold acP
 cases ha:amz a with
 |false=>exact aT _
 |true=>
  rw [aN]
  intro r hr
  obtain ⟨hn,hr1⟩:=au.1 hr
  obtain ⟨q,hq,hr2⟩:=ah.1 hr1
  rw [hn]
  have hE:ajQ C t a b=some q:=acE C 6 t a b q hq
  cases a with
  |agg cs=>
   have hT:eqT C t (.agg cs) b=some q:=hE
   rcases hop with rfl|rfl
   ·show Ax.aj (Ax.aj (eqT C t (.agg cs) b) fun b=>some (.bool b)) k=_
    rw [hT];exact hr2
   ·show Ax.aj (Ax.aj (eqT C t (.agg cs) b) fun b=>some (.bool !b)) k=_
    rw [hT];exact hr2
  |_=>cases ha
theorem DZ (n:Nat)(h:qae n 9223372036854775807=true):wrap .i64 (qaf n)=qaf n:=by
 have h:=qad h
 show Ax.sel (qae 9223372036854775808 n) (IntKind.wrap .i64 (qaf n)) (qaf n)=_
 have:qae 9223372036854775808 n=false:=by rw [←qaC];intro e;have:=qad e;omega
 rw [this];rfl
theorem akV (n:Nat)(h:n<9223372036854775808):wrap .i64 (qan n)=qan n:=by
 rw [wrap_eq]
 have hb:(2:Int) ^ IntKind.i64.bits=18446744073709551616:=by decide
 have hs:IntKind.i64.signed=true:=rfl
 have hb2:(2:Int) ^ (IntKind.i64.bits-1)=9223372036854775808:=by decide
 have e:(qan n) = -((n:Int)+1):=Int.negSucc_eq n
 simp only [IntKind.wrap,e,hb,hb2,hs]
 simp
 split <;> omega
theorem adV (x y:Nat)(k:Value→Option R):Imp (ahq x y k) (k (.int .i64 (wrap .i64 (aiu (qaf x) (qaf y))))):=by
 show Imp _ (k (.int .i64 (wrap .i64 (Ax.sel (qae y x) (qaf (qam x y)) (qan (qam (qam y x) 1))))))
 unfold ahq
 cases hb:qae y x with
 |true=>
  rw [aN,aN]
  intro r hr
  obtain ⟨h1,hr⟩:=au.1 hr
  rw [DZ _ h1]
  exact hr
 |false=>
  rw [aO,aO]
  intro r hr
  obtain ⟨h1,hr⟩:=au.1 hr
  have h1:y-x≤9223372036854775808:=qad h1
  rw [akV _ (by show y-x-1<_;omega)]
  exact hr
theorem akP (C:Cfg)(t:TypeId)(x y:Operand)(a b:Value)(k:Value→Option R):Imp (aya C t x y a b k) (Ax.aj (Ax.guard (qZ C t x y a b) (binOp C t .add a b)) k):=by
 cases a with
 |int ka i=>cases b with
  |int kb j=>
   show Imp (Ax.guard (iy ka kb) _) (Ax.aj (Ax.guard (iy ka kb) (some (.int ka (wrap ka (am0 i j))))) k)
   cases iy ka kb with
   |false=>exact oz _
   |true=>
    show Imp _ (k (.int ka (wrap ka (am0 i j))))
    cases ka with
    |i64=>
     cases i with
     |ofNat p=>cases j with
      |ofNat q=>
       intro r hr
       obtain ⟨h1,hr⟩:=au.1 (show Ax.guard (qae (qag p q) 9223372036854775807) (k (.int .i64 (qaf (qag p q))))=some r from hr)
       show k (.int .i64 (wrap .i64 (qaf (qag p q))))=some r
       rw [DZ _ h1]
       exact hr
      |negSucc q=>exact aT _
     |negSucc p=>exact aT _
    |_=>exact aT _
  |_=>exact aT _
 |_=>exact aT _
theorem alI (K:KP)(C:Cfg)(t:TypeId)(x y:Operand)(a b:Value)(k:Value→Option R):Imp (axV K C t x y a b k) (Ax.aj (Ax.guard (qZ C t x y a b) (binOp C t .mul a b)) k):=by
 cases a with
 |int ka i=>cases b with
  |int kb j=>
   show Imp (Ax.guard (iy ka kb) _) (Ax.aj (Ax.guard (iy ka kb) (some (.int ka (wrap ka (alu i j))))) k)
   cases iy ka kb with
   |false=>exact oz _
   |true=>
    show Imp _ (k (.int ka (wrap ka (alu i j))))
    cases ka with
    |u64=>
     cases i with
     |ofNat p=>cases j with
      |ofNat q=>
       show Imp (k (.int .u64 (qaf (blk K.B _)))) _
       rw [acY]
       exact aT _
      |negSucc q=>exact aT _
     |negSucc p=>exact aT _
    |i64=>
     cases i with
     |ofNat p=>cases j with
      |ofNat q=>
       intro r hr
       obtain ⟨h1,hr⟩:=au.1 (show Ax.guard (qae (qaj p q) 9223372036854775807) (k (.int .i64 (qaf (qaj p q))))=some r from hr)
       show k (.int .i64 (wrap .i64 (qaf (qaj p q))))=some r
       rw [DZ _ h1]
       exact hr
      |negSucc q=>exact aT _
     |negSucc p=>exact aT _
    |_=>exact aT _
  |_=>exact aT _
 |_=>exact aT _
theorem anB (K:KP)(C:Cfg)(t:TypeId)(x y:Operand)(a b:Value)(k:Value→Option R):axw K C t x y a b k=aj (guard (qZ C t x y a b) (binOp C t .shl a b)) k:=by
 cases a with
 |int ka i=>cases b with
  |int kb j=>cases ka with
   |u64=>cases i with
    |ofNat p=>cases j with
     |ofNat q=>
      show k (.int .u64 (qaf (blk K.B _)))=_
      rw [acY]
      rfl
     |negSucc q=>rfl
    |negSucc p=>rfl
   |_=>rfl
  |_=>rfl
 |_=>rfl
theorem amq (i j:Int)(k:Int→Option R):ant i j k=k (ajS i j):=by
 cases i with
 |ofNat u=>rfl
 |negSucc u=>cases j with
  |negSucc v=>rfl
  |ofNat v=>
   show Ax.sel (qab ((u+1)%v) 0) (k 0) (k (qan (qam ((u+1)%v) 1)))=k (Int.tmod (qan u) (qaf v))
   have e:Int.tmod (qan u) (qaf v) = -(qaf ((u+1)%v)):=rfl
   rw [e]
   cases (u+1)%v with
   |zero=>rfl
   |succ r=>rfl
theorem aqn (C:Cfg)(t:TypeId)(x y:Operand)(a b:Value)(k:Value→Option R):axP C t x y a b k=awk C t .rem x y (fun _ i j=>ajS i j) a b k:=by
 cases a with
 |int ka i=>cases b with
  |int kb j=>
   show Ax.guard (iy ka kb) (Ax.guard (!eqI j 0) (ant i j fun z=>k (.int ka z)))=Ax.guard (iy ka kb) (Ax.guard (!eqI j 0) (k (.int ka (ajS i j))))
   rw [amq]
  |_=>rfl
 |_=>rfl
theorem al0 (K:KP)(C:Cfg)(t:TypeId)(op:BinOp)(x y:Operand)(a b:Value)(k:Value→Option R) :
  Imp (aw6 K C t op x y a b k) (Ax.aj (Ax.guard (qZ C t x y a b) (binOp C t op a b)) k):=by
 have hd:∀ (op:BinOp) (f:IntKind→Int→Int→Int),(∀ ka i kb j,aj (guard (qZ C t x y (.int ka i) (.int kb j)) (binOp C t op (.int ka i) (.int kb j))) k=guard (iy ka kb) (guard (!eqI j 0) (k (.int ka (f ka i j)))))→
   awk C t op x y f a b k=aj (guard (qZ C t x y a b) (binOp C t op a b)) k:=fun op f h=>by
  cases a with
  |int ka i=>cases b with
   |int kb j=>exact (h ka i kb j).symm
   |_=>rfl
  |_=>rfl
 cases op with
 |mul=>exact alI K C t x y a b k
 |add=>exact akP C t x y a b k
 |shl=>exact jS (anB K C t x y a b k)
 |eql=>exact QA C t .eql x y a b k (.inl rfl)
 |neq=>exact QA C t .neq x y a b k (.inr rfl)
 |quo=>
  refine jS (hd .quo _ fun ka i kb j=>by
  show aj (guard (iy ka kb) (guard (!eqI j 0) (some (.int ka (wrap ka (auD i j)))))) k=_
  cases iy ka kb <;> cases eqI j 0 <;> rfl)
 |rem=>
  refine jS ((aqn C t x y a b k).trans <| hd .rem _ fun ka i kb j=>by
  show aj (guard (iy ka kb) (guard (!eqI j 0) (some (.int ka (ajS i j))))) k=_
  cases iy ka kb <;> cases eqI j 0 <;> rfl)
 |sub=>
  show Imp (axX C t x y a b k) (Ax.aj (Ax.guard (qZ C t x y a b) (binOp C t .sub a b)) k)
  cases a with
  |int ka i=>cases b with
   |int kb j=>
    show Imp (Ax.guard (iy ka kb) _) (Ax.aj (Ax.guard (iy ka kb) (some (.int ka (wrap ka (aiu i j))))) k)
    cases iy ka kb with
    |false=>exact oz _
    |true=>
     show Imp _ (k (.int ka (wrap ka (aiu i j))))
     cases ka with
     |u64=>
      cases i with
      |ofNat p=>cases j with
       |ofNat q=>
        show Imp (k (.int .u64 (qaf (avC p q)))) _
        rw [ahN]
        exact aT _
       |negSucc q=>exact aT _
      |negSucc p=>exact aT _
     |i64=>
      cases i with
      |ofNat p=>cases j with
       |ofNat q=>exact adV p q k
       |negSucc q=>exact aT _
      |negSucc p=>exact aT _
     |_=>exact aT _
   |_=>exact aT _
  |_=>exact aT _
 |_=>exact aT _
theorem aex (K:KP)(C:Cfg)(ev:Ev)(s:St)(op:BinOp)(t:TypeId)(x y:Operand)(k:Res→Option R):Imp (Ax.aj (ev x) fun a=>Ax.aj (ev y) fun b=>aw6 K C t op x y a b fun v=>k (.val v s)) (Ax.aj (an5 C ev s op t x y) k):=by
 unfold an5
 rw [aC]
 refine dH _ fun a=>?_
 rw [aC]
 refine dH _ fun b=>?_
 refine imp_trans (al0 K C t op x y a b _) (jS ?_)
 cases qZ C t x y a b with
 |false=>rfl
 |true=>
  show aj (binOp C t op a b) _=aj (aj (binOp C t op a b) fun v=>ret v s) k
  rw [aC]
  rfl
theorem RS (C:Cfg)(ev:Ev)(s:St)(t:TypeId)(x i:Operand)(k:Res→Option R):BX C ev s t x i k=Ax.aj (jU C ev s t x i) k:=by
 show BX C ev s t x i k=aj (jU C ev s t x i) k
 unfold BX jU
 rw [aC]
 refine aH _ fun a=>?_
 rw [aC]
 refine aH _ fun b=>?_
 rw [aC]
 refine aH _ fun j=>?_
 have hi:∀ e len p,auk C s e len j p k=aj (Ec C s e len j p) k:=fun e len p=>by
  unfold auk Ec
  rw [bW,aC]
  rfl
 cases C.P.underlying t with
 |none=>rfl
 |some d=>cases d with
  |slice e=>cases a with
   |slice p len cap=>cases p with
    |none=>rfl
    |some p=>exact hi e len p
   |_=>rfl
  |array len e=>cases a with
   |pointer p=>cases p with
    |none=>rfl
    |some p=>exact hi e len p
   |_=>rfl
  |_=>rfl
theorem Xx:∀ l:List Value,bytesOf l=Ax.guard (fZ l) (some (vk l))
 |[]=>rfl
 |v::l=>by
  show Ax.aj (byteOf v) (fun b=>Ax.aj (bytesOf l) fun r=>some (b::r))=Ax.guard (Ax.sel (byteOf v).isSome (fZ l) false) (some (Option.rec 0 (fun b=>b) (byteOf v)::vk l))
  rw [Xx l]
  cases byteOf v with
  |none=>rfl
  |some b=>show Ax.aj (Ax.guard (fZ l) (some (vk l))) _=Ax.guard (fZ l) _;cases fZ l <;> rfl
theorem VB (C:Cfg)(ev:Ev)(s:St)(src dst:TypeId)(x:Operand)(k:Res→Option R):Imp (U1 C ev s src dst x k) (Ax.aj (jM C ev s src dst x) k):=by
 unfold U1
 cases hv:ev x with
 |none=>exact oz _
 |some v=>
  show Imp (match v with
   |.slice (some a) n c=>sel (isStr C.P dst) (av1 C s src n (.slice (some a) n c) k) (Ax.aj (jM C ev s src dst x) k)
   |.int kd z=>Um C ev s src dst x z k
   |_=>Ax.aj (jM C ev s src dst x) k) _
  split
  ·rename_i a n c
   cases hs:isStr C.P dst with
   |false=>exact aT _
   |true=>
    rw [aN]
    intro r hr
    unfold av1 at hr
    split at hr
    ·rename_i e he
     obtain ⟨hb,hr⟩:=au.1 hr
     rw [OD] at hr
     obtain ⟨cs,hcs,hr⟩:=ah.1 hr
     obtain ⟨hok,hr⟩:=au.1 hr
     have hd:C.P.underlying dst=some .string:=by
      unfold isStr at hs
      split at hs
      ·assumption
      ·cases hs
     have hbs:bytesOf cs=some (vk cs):=by rw [Xx,hok];rfl
     have hconv:convert C.P s src dst (.slice (some a) n c)=some (.string ⟨⟨vk cs⟩⟩,s):=by
      unfold convert
      rw [he,hd]
      show Ax.guard (isBytes C.P e) (toStr s n (.slice (some a) n c))=_
      rw [hb]
      show Ax.aj (firstCells s 1 n (.slice (some a) n c)) (fun l=>Ax.aj (bytesOf l) fun l=>some (Value.string ⟨⟨l⟩⟩,s))=_
      rw [hcs]
      show Ax.aj (bytesOf cs) _=_
      rw [hbs]
      rfl
     unfold jM
     rw [hv]
     show Ax.aj (Ax.aj (convert C.P s src dst (.slice (some a) n c)) Hy) k=some r
     rw [hconv]
     exact hr
    ·cases hr
  ·rename_i kd z
   unfold Um
   cases hg:(apl C.P dst&&(C.P.underlying src).isSome) with
   |false=>exact aT _
   |true=>
    rw [aN]
    cases z with
    |negSucc n=>exact aT _
    |ofNat n=>
     show Imp (Ax.sel (qae 9223372036854775808 n) _ _) _
     cases hb:qae 9223372036854775808 n with
     |true=>exact aT _
     |false=>
      rw [aO]
      simp only [qac] at hg
      obtain ⟨hg1,hg2⟩:=hg
      have hd:C.P.underlying dst=some (.int .i64):=by
       unfold apl at hg1
       split at hg1
       ·assumption
       ·cases hg1
      have hconv:convert C.P s src dst (.int kd (qaf n))=some (.int .i64 (qaf n),s):=by
       unfold convert
       rw [hg2,hd]
       show some (Value.int .i64 (Ax.sel (qae 9223372036854775808 n) (IntKind.wrap .i64 (qaf n)) (qaf n)),s)=_
       rw [hb]
       rfl
      unfold jM
      rw [hv]
      intro r hr
      show Ax.aj (Ax.aj (convert C.P s src dst (.int kd (qaf n))) Hy) k=some r
      rw [hconv]
      exact hr
  ·exact aT _
theorem UR (C:Cfg)(ev:Ev)(s:St)(t:TypeId)(l c:Operand)(k:Res→Option R):Hf C ev s t l c k=Ax.aj (ny C ev s t l c) k:=by
 unfold Hf BN ny
 cases C.P.underlying t with
 |none=>rfl
 |some d=>cases d <;> first|rfl|(simp only [aC,bW];rfl)
theorem aqi (C:Cfg)(ev:Ev)(o:Op)(k:Row × (Nat→Value)→Option R):auC C ev o k=Ax.aj (aOp C ev o) k:=by
 cases o with
 |makeSlice t l c=>
  simp only [auC,BN,aOp]
  cases C.P.underlying t with
  |none=>rfl
  |some d=>cases d <;> first|rfl|(simp only [aC,bW];rfl)
 |_=>rfl
theorem ai4 (K:KP)(C:Cfg)(ev:Ev)(s:St)(o:Op)(k:Res→Option R):Imp (opK K C ev s o k) (Ax.aj (execOp C ev s o) k):=by
 cases o with
 |load t a=>exact ahc K.opq C ev s t a k
 |store t a x=>exact jS (aiv C ev s t a x k)
 |slice t x lo hi mx=>exact jS (adG C ev s t x lo hi mx k)
 |call c=>exact jS (aeF C ev s c k)
 |binOp op t x y p=>exact aex K C ev s op t x y k
 |indexAddr t x i=>exact jS (RS C ev s t x i k)
 |convert src dst x=>exact VB C ev s src dst x k
 |makeSlice t l c=>exact jS (UR C ev s t l c k)
 |_=>exact aT _
theorem N7 {α:Type}{a:α}:∀ (p:Path) (t:Tr α),Tr.aeH p t=some a→Tr.aeJ a p t=t
 |[],.e,h=>by cases h
 |[],.n v x y,h=>by
  have h:v=some a:=h
  rw [h];rfl
 |b::p,.e,h=>by cases h
 |false::p,.n v x y,h=>by
  show Tr.n v (Tr.aeJ a p x) y=_
  rw [N7 p x h]
 |true::p,.n v x y,h=>by
  show Tr.n v x (Tr.aeJ a p y)=_
  rw [N7 p y h]
theorem Pz {t:Nat}{b:Bool}:∀ {l:List (Nat × Value)},mg t l=some (.bool b)→akC t b l=l
 |[],h=>by cases h
 |p::l,h=>by
  change Ax.sel (qab p.1 t) (some p.2) (mg t l)=some (.bool b) at h
  show Ax.sel (qab p.1 t) ((p.1,.bool b)::l) (p::akC t b l)=p::l
  cases hb:qab p.1 t with
  |true=>
   rw [hb] at h
   have h:some p.2=some (Value.bool b):=h
   rw [aN,←Option.some.inj h]
  |false=>
   rw [hb] at h
   rw [aO,Pz h]
theorem MR {n t:Nat}{b:Bool}{fr:Fr}(h:fr.ev n (.tmp t)=some (.bool b)):know n t b fr=fr:=by
 obtain ⟨vars,loc,ds⟩:=fr
 change Ax.sel (ltN t n) (vars.get t) (mg t loc)=some (.bool b) at h
 unfold know
 cases hb:ltN t n with
 |true=>
  rw [hb] at h
  have h:Tr.aeH (path t) vars=some (.bool b):=h
  show Fr.mk (Tr.aeJ (.bool b) (path t) vars) loc ds=_
  rw [N7 _ _ h]
 |false=>
  rw [hb] at h
  show Fr.mk vars (akC t b loc) ds=_
  rw [Pz h]
theorem BM {n:Nat}{x:Operand}{b:Bool}{fr:Fr}(h:fr.ev n x=some (.bool b)):SS n x b fr=fr:=by
 cases x with
 |tmp t=>exact MR h
 |_=>rfl
theorem Ry (K:KP)(C:Cfg)(n:Nat)(fr:Fr)(s:St)(o:Op)(k:Fr→Res→Option R):Imp (anM K C n fr s o k) (Ax.aj (execOp C (fr.ev n) s o) (k fr)):=by
 have h0:=ai4 K C (fr.ev n) s o (k fr)
 cases o with
 |pick c a b=>
  show Imp (anJ C n fr s c a b k) (Ax.aj (ZU C (fr.ev n) s c a b) (k fr))
  unfold anJ ZU
  rw [aC]
  cases hv:fr.ev n c with
  |none=>exact aT _
  |some v=>cases v with
   |bool t=>cases t with
    |true=>
     show Imp (Ax.aj (zT C (fr.ev n) s a) (k (SS n c true fr))) _
     rw [BM hv]
     exact aT _
    |false=>
     show Imp (Ax.aj (zT C (fr.ev n) s b) (k (SS n c false fr))) _
     rw [BM hv]
     exact aT _
   |_=>exact aT _
 |_=>exact h0
theorem QZ (n:Nat)(all:List Oper)(g:Option (Nat × Bool))(fr:Fr){run skip:Fr→Option R}{y:Bool→Option R}(h1:Imp (run fr) (y true))(h2:Imp (skip fr) (y false)) :
  Imp (aa1 n all g fr run skip) (Ax.aj (jK n all fr g) y):=by
 cases g with
 |none=>exact h1
 |some g=>
  unfold aa1 jK
  show Imp (Ax.aj (nth all g.1) _) (Ax.aj (Ax.aj (nth all g.1) _) y)
  rw [aC]
  refine dH _ fun o=>?_
  rw [aC]
  refine dH _ fun d=>?_
  rw [aC]
  cases hv:fr.ev n (.tmp d) with
  |none=>exact aT _
  |some v=>cases v with
   |bool c=>
    obtain ⟨j,b⟩:=g
    cases c with
    |true=>
     show Imp (Ax.sel b (run (know n d true fr)) (skip (know n d true fr))) (y (true == b))
     rw [MR hv]
     cases b with
     |true=>exact h1
     |false=>exact h2
    |false=>
     show Imp (Ax.sel b (skip (know n d false fr)) (run (know n d false fr))) (y (false == b))
     rw [MR hv]
     cases b with
     |true=>exact h2
     |false=>exact h1
   |_=>exact h2
section
variable {iE:vO R} {dN:qP R} {call:gq} {yield:dP}
theorem aed (hc:∀ f args s k,Imp (iE f args s k) (Ax.aj (call f args s) k))(hy:∀ f args s k,Imp (dN f args s k) (Ax.aj (yield f args s) k))
  (K:KP) (C:Cfg) (rd:Bool) (n:Nat) (all:List Oper) (o:Oper) {k:FK R} {k0:aaI} {g:Fr × St→Option R} (hk:∀ fr s,Imp (k fr s) (Ax.aj (k0 fr s) g)) (fr:Fr) (s:St) :
  Imp (ajf K C iE dN rd n all o k fr s) (Ax.aj (akg C call yield rd n all o k0 fr s) g):=by
 unfold ajf akg
 rw [aC]
 refine QZ n all o.guard fr ?_ (hk _ _)
 show Imp (anM K C n fr s o.op _) (Ax.aj (Ax.aj (execOp C (fr.ev n) s o.op) _) g)
 rw [aC]
 exact imp_trans (Ry K C n fr s o.op _) (dH _ fun r=>Hw hc hy rd n fr o.dst hk r)
theorem abg (hc:∀ f args s k,Imp (iE f args s k) (Ax.aj (call f args s) k))(hy:∀ f args s k,Imp (dN f args s k) (Ax.aj (yield f args s) k))
  (K:KP) (C:Cfg) (rd:Bool) (n:Nat) (all:List Oper) (k:FK R):∀ (ops:List Oper) (fr:Fr) (s:St),
  Imp (aup K C iE dN rd n all ops k fr s) (Ax.aj (pO C call yield rd n all ops fr s) fun q=>k q.1 q.2)
 |[],fr,s=>aT _
 |o::ops,fr,s=>aed hc hy K C rd n all o (k:=aup K C iE dN rd n all ops k) (k0:=pO C call yield rd n all ops) (abg hc hy K C rd n all k ops) fr s
theorem Yw (hc:∀ f args s k,Imp (iE f args s k) (Ax.aj (call f args s) k))(hy:∀ f args s k,Imp (dN f args s k) (Ax.aj (yield f args s) k))
  (K:KP) (C:Cfg) (rd:Bool) (n:Nat) (all:List Oper) (base:Nat) (a:Info) (rest:List Info) {k:acL R} {k0:aaJ} {g:Fr × St→Option R} (hk:∀ cl p fr s,Imp (k cl p fr s) (Ax.aj (k0 cl p fr s) g))
  (cl:Bool) (pend:List YF) (fr:Fr) (s:St):Imp (TI K C iE dN rd n all base a rest k cl pend fr s) (Ax.aj (Ed C call yield rd n all base a rest k0 cl pend fr s) g):=by
 unfold TI Ed
 rw [aC]
 refine QZ n all a.op.guard fr ?_ (hk _ _ _ _)
 show Imp (EO a.cls _ _) (Ax.aj (EO a.cls _ _) g)
 match a.cls with
 |0=>
  show Imp (anM K C n fr s a.op.op _) (Ax.aj (Ax.aj (execOp C (fr.ev n) s a.op.op) _) g)
  rw [aC]
  refine imp_trans (Ry K C n fr s a.op.op _) (dH _ fun r=>?_)
  cases r with
  |val v s'=>exact hk _ _ _ _
  |_=>exact aT _
 |1=>
  show Imp (anM K C n fr s a.op.op _) (Ax.aj (Ax.aj (execOp C (fr.ev n) s a.op.op) _) g)
  rw [aC]
  refine imp_trans (Ry K C n fr s a.op.op _) (dH _ fun r=>?_)
  cases r with
  |val v s'=>
   show Imp (Ax.guard (kL s v) _) (Ax.aj (Ax.guard (kL s v) _) g)
   cases kL s v with
   |false=>exact aT _
   |true=>exact hk _ _ _ _
  |_=>exact aT _
 |2=>
  show Imp (auC C (fr.ev n) a.op.op fun q=>k false pend (fr.put n a.op.dst (q.2 (qag base a.i))) { heap:=s.heap.set (qag base a.i) q.1,bQ:=s.bQ,next:=s.next }) (Ax.aj (Ax.aj (aOp C (fr.ev n) a.op.op) _) g)
  rw [aC,aqi]
  exact dH _ fun q=>hk _ _ _ _
 |m+3=>
  show Imp (opK K C (fr.ev n) s a.op.op _) (Ax.aj (Ax.aj (execOp C (fr.ev n) s a.op.op) _) g)
  rw [aC]
  refine imp_trans (ai4 K C _ s _ _) (dH _ fun r=>?_)
  unfold VQ yE
  cases (cl&&(l9 a.op.op&&tK C r)) with
  |true=>
   rw [aN,aN]
   refine Hw hc hy rd n fr a.op.dst (fun fr s=>?_) r
   rw [bW]
   exact VH _ fun _=>hk _ _ _ _
  |false=>
   rw [aO,aO]
   refine Hw hc hy rd n fr a.op.dst (fun fr s=>?_) r
   rw [bW]
   exact VH _ fun _=>hk _ _ _ _
theorem Qg (hc:∀ f args s k,Imp (iE f args s k) (Ax.aj (call f args s) k))(hy:∀ f args s k,Imp (dN f args s k) (Ax.aj (yield f args s) k))
  (K:KP) (C:Cfg) (rd:Bool) (n:Nat) (all:List Oper) (base:Nat) (k:FK R):∀ (l:List Info) (cl:Bool) (pend:List YF) (fr:Fr) (s:St),
  Imp (ahm K C iE dN rd n all base l k cl pend fr s) (Ax.aj (Oy C call yield rd n all base l cl pend fr s) fun q=>k q.1 q.2)
 |[],cl,pend,fr,s=>aT _
 |a::rest,cl,pend,fr,s=>Yw hc hy K C rd n all base a rest (k:=ahm K C iE dN rd n all base rest k) (k0:=Oy C call yield rd n all base rest) (Qg hc hy K C rd n all base k rest) cl pend fr s
theorem ag2 (hc:∀ f args s k,Imp (iE f args s k) (Ax.aj (call f args s) k))(hy:∀ f args s k,Imp (dN f args s k) (Ax.aj (yield f args s) k))
  (K:KP) (C:Cfg) (rd:Bool) (n:Nat) (all:List Oper) (order:List Nat) (k:FK R) (fr:Fr) (s:St) :
  Imp (akB K C iE dN rd n all order k fr s) (Ax.aj (su C call yield rd n all order fr s) fun q=>k q.1 q.2):=by
 unfold akB su
 rw [aC]
 exact dH _ fun l=>Qg hc hy K C rd n all s.next k l true [] fr _
theorem Yt {f:XK R→FK R}{f0:Run}(hf:∀ k fr s,Imp (f k fr s) (Ax.aj (f0 fr s) (MQ k)))(k:XK R):∀ (n m:Nat),n≤m→∀ (fr:Fr) (s:St),Imp (ahj f k n fr s) (Ax.aj (iter f0 m fr s) (MQ k))
 |0,_,_,fr,s=>oz _
 |n+1,0,h,fr,s=>absurd h (Nat.not_succ_le_zero n)
 |n+1,m+1,h,fr,s=>by
  show Imp (f (ak8 (ahj f k n) k) fr s) (Ax.aj (Ax.aj (f0 fr s) (lW (iter f0 m))) (MQ k))
  rw [aC]
  refine imp_trans (hf _ fr s) (dH _ fun r=>?_)
  obtain ⟨ex,fr',s'⟩:=r
  cases ex with
  |normal=>exact Yt hf k n m (Nat.le_of_succ_le_succ h) fr' s'
  |exit id=>exact aT _
  |ret=>exact aT _
theorem kK (hc:∀ f args s k,Imp (iE f args s k) (Ax.aj (call f args s) k))(hy:∀ f args s k,Imp (dN f args s k) (Ax.aj (yield f args s) k))
  {K:KP} (hL:K.L≤100000) (C:Cfg) (n:Nat) (fn:FuncId) (rd:Bool) {c0:Code} (hLA:∀ body fr s r,rd=false→PartOf c0 (.loop body)→K.aqC fn (iG body) fr s=some (true,r)→exec C call yield n fn rd (.loop body) fr s=some r):∀ (c:Code) (hs:PartOf c0 c) (k:XK R) (fr:Fr) (s:St),
  Imp (jC K C iE dN n fn rd c k fr s) (Ax.aj (exec C call yield n fn rd c fr s) (MQ k))
 |.skip,hs,k,fr,s=>aT _
 |.region id ops draw,hs,k,fr,s=>by
  show Imp (Ax.sel draw (akB K C iE dN rd n ops.toList (C.order fn id) (k .normal) fr.fresh s) (aup K C iE dN rd n ops.toList ops.toList (k .normal) fr.fresh s))
   (Ax.aj (Ax.aj (Ax.sel draw (su C call yield rd n ops.toList (C.order fn id) fr.fresh s) (pO C call yield rd n ops.toList ops.toList fr.fresh s)) fun r=>some (.normal,r)) (MQ k))
  rw [aC]
  cases draw with
  |true=>exact ag2 hc hy K C rd n _ _ _ _ _
  |false=>exact abg hc hy K C rd n _ _ _ _ _
 |.seq a b,hs,k,fr,s=>by
  show Imp (jC K C iE dN n fn rd a (ak8 (jC K C iE dN n fn rd b k) k) fr s) (Ax.aj (Ax.aj (exec C call yield n fn rd a fr s) (lW (exec C call yield n fn rd b))) (MQ k))
  rw [aC]
  refine imp_trans (kK hc hy hL C n fn rd hLA a (.avb hs) _ fr s) (dH _ fun r=>?_)
  obtain ⟨ex,fr',s'⟩:=r
  cases ex with
  |normal=>exact kK hc hy hL C n fn rd hLA b (.av2 hs) k fr' s'
  |exit id=>exact aT _
  |ret=>exact aT _
 |.cond c a b,hs,k,fr,s=>by
  show Imp (Ax.aj (fr.ev n c) (atK n c (jC K C iE dN n fn rd a k) (jC K C iE dN n fn rd b k) fr s)) (Ax.aj (Ax.aj (fr.ev n c) (yU (exec C call yield n fn rd a) (exec C call yield n fn rd b) fr s)) (MQ k))
  rw [aC]
  cases hv:fr.ev n c with
  |none=>exact aT _
  |some v=>cases v with
   |bool t=>cases t with
    |true=>
     show Imp (jC K C iE dN n fn rd a k (SS n c true fr) s) _
     rw [BM hv]
     exact kK hc hy hL C n fn rd hLA a (.an3 hs) k fr s
    |false=>
     show Imp (jC K C iE dN n fn rd b k (SS n c false fr) s) _
     rw [BM hv]
     exact kK hc hy hL C n fn rd hLA b (.anH hs) k fr s
   |_=>exact aT _
 |.block id a,hs,k,fr,s=>by
  show Imp (jC K C iE dN n fn rd a (anl id k) fr s) (Ax.aj (Ax.aj (exec C call yield n fn rd a fr s) (xR id)) (MQ k))
  rw [aC]
  refine imp_trans (kK hc hy hL C n fn rd hLA a (.block hs) _ fr s) (dH _ fun r=>?_)
  obtain ⟨ex,fr',s'⟩:=r
  cases ex with
  |normal=>exact aT _
  |exit id'=>
   show Imp (Ax.sel (qab id id') _ _) (Ax.aj (Ax.sel (qab id id') _ _) (MQ k))
   cases qab id id' <;> exact aT _
  |ret=>exact aT _
 |.loop a,hs,k,fr,s=>by
  have hit:=Yt (fun k fr s=>kK hc hy hL C n fn rd hLA a (.loop hs) k fr s) k K.L 100000 hL fr s
  show Imp (apC K C fn rd a (ahj (jC K C iE dN n fn rd a) k K.L) k fr s) (Ax.aj (exec C call yield n fn rd (.loop a) fr s) (MQ k))
  unfold apC
  cases hrd:rd with
  |true=>
   rw [hrd] at hit
   show Imp _ (Ax.aj (rM C fn true a (iter (exec C call yield n fn true a) 100000) fr s) (MQ k))
   unfold rM
   rw [aN,aN]
   exact hit
  |false=>
   rw [aO]
   cases hl:K.aqC fn (iG a) fr s with
   |none=>
    rw [hrd] at hit
    show Imp (aiL C fn a (ahj (jC K C iE dN n fn false a) k K.L) k fr s) (Ax.aj (rM C fn false a (iter (exec C call yield n fn false a) 100000) fr s) (MQ k))
    unfold aiL rM
    rw [aO]
    cases C.Le fn (iG a) with
    |none=>exact hit
    |some F=>exact V6 (MQ k) hit (F fr s)
   |some p=>
    obtain ⟨b,r⟩:=p
    intro q hq
    obtain ⟨h1,h2⟩:=au.1 (show Ax.guard b (MQ k r)=some q from hq)
    subst h1
    have h3:=hLA a fr s r hrd hs hl
    rw [hrd] at h3
    rw [h3]
    exact h2
 |.rangeFunc f ps asv b,hs,k,fr,s=>by
  show Imp (ahB C iE n fn rd f ps asv b k fr s) (Ax.aj (rangeFunc C call n fn rd f ps asv b fr s) (MQ k))
  unfold ahB rangeFunc
  cases rd with
  |true=>exact aT _
  |false=>
   show Imp (Ax.aj (fr.ev n f) _) (Ax.aj (Ax.aj (fr.ev n f) _) (MQ k))
   rw [aC]
   refine dH _ fun v=>?_
   show Imp (Ih C iE fr _ v _ k) (Ax.aj (rangeCall C call fr _ v _) (MQ k))
   unfold Ih rangeCall
   rw [aC]
   refine dH _ fun r=>?_
   cases r with
   |call g args s=>
    show Imp (iE g args s _) (Ax.aj (Ax.aj (call g args s) _) (MQ k))
    rw [aC]
    refine imp_trans (hc g args s _) (dH _ fun q=>?_)
    rw [aC]
    exact aT _
   |_=>exact aT _
 |.exit id,hs,k,fr,s=>aT _
 |.scope a,hs,k,fr,s=>by
  show Imp (Ax.sel rd none (jC K C iE dN n fn rd a k fr s)) (Ax.aj (Ax.sel rd none (exec C call yield n fn rd a fr s)) (MQ k))
  have h:=kK hc hy hL C n fn rd hLA a (.scope hs) k fr s
  cases rd with
  |true=>exact aT _
  |false=>exact h
 |.label l,hs,k,fr,s=>aT _
 |.goto l,hs,k,fr,s=>aT _
 |.ret,hs,k,fr,s=>aT _
 |.refuse w,hs,k,fr,s=>aT _
theorem adl (C:Cfg)(dcall:gq)(f:FuncId)(k:Value × St→Option R)(r:Ex × Fr × St):MQ (ahX C dcall f k) r=Ax.aj (finish C dcall f r) k:=by
 obtain ⟨ex,fr,s⟩:=r
 have h:(Ax.aj (unwind dcall fr.defers s) fun s=>Ax.aj (results C.P (C.vars f) fr s (C.results f)) fun vs=>k (tuple vs,s)) =
   Ax.aj (Ax.aj (unwind dcall fr.defers s) fun s=>Ax.aj (results C.P (C.vars f) fr s (C.results f)) fun vs=>some (tuple vs,s)) k:=by
  rw [aC]
  refine aH _ fun s=>?_
  rw [aC]
  rfl
 cases ex with
 |exit id=>rfl
 |normal=>exact h
 |ret=>exact h
def O9 (K:KP)(C:Cfg):Prop:=∀ f args c v,K.alt f args=some (c,v)→c=true→∃ t,C.insert f=some t∧∀ s,lJ C t s args=some (v,s)
theorem bI {L:Nat}{B:Option Bool}{la:FuncId→Nat→Fr→St→Option (Bool × (Ex × Fr × St))}{po:FuncId→List Value→List Int}{oq:Bool}{C:Cfg}:O9 ⟨L,B,fun _ _=>none,la,po,oq⟩ C:=fun _ _ _ _ h=>by cases h
def WQ (K:KP)(C:Cfg)(call:gq)(yield:dP):Prop:=∀ fn c body fr s r,C.body fn=some c→PartOf c (.loop body)→K.aqC fn (iG body) fr s=some (true,r)→exec C call yield (C.vars fn) fn false (.loop body) fr s=some r
theorem adZ {K:KP}{C:Cfg}{call:gq}{yield:dP}:WQ K.plain C call yield:=fun _ _ _ _ _ _ _ _ h=>by cases h
theorem WO (hc:∀ f args s k,Imp (iE f args s k) (Ax.aj (call f args s) k))(hy:∀ f args s k,Imp (dN f args s k) (Ax.aj (yield f args s) k))
  {K:KP} (hL:K.L≤100000) (C:Cfg) (hLA:WQ K C call yield) (f:FuncId) (args:List Value) (s:St) (k:Value × St→Option R):Imp (ajB K C call yield iE dN f args s k) (Ax.aj (jP C call yield f args s) k):=by
 unfold ajB jP
 rw [aC]
 cases hb:C.body f with
 |none=>exact aT _
 |some c=>
 show Imp (jC K C iE dN (C.vars f) f false c _ _ s) (Ax.aj (Ax.aj (exec C call yield (C.vars f) f false c (pW args) s) _) k)
 rw [aC]
 exact imp_trans (kK hc hy hL C _ _ _ (fun body fr s r _ hs h=>hLA f c body fr s r hb hs h) c (.refl c) _ _ _) (dH _ fun r=>jS (adl C _ f k r))
theorem adS (hc:∀ f args s k,Imp (iE f args s k) (Ax.aj (call f args s) k))(hy:∀ f args s k,Imp (dN f args s k) (Ax.aj (yield f args s) k))
  {K:KP} (hL:K.L≤100000) (C:Cfg) (hA:O9 K C) (hLA:WQ K C call yield) (f:FuncId) (args:List Value) (s:St) (k:Value × St→Option R):Imp (ajK K C call yield iE dN f args s k) (Ax.aj (oM C call yield f args s) k):=by
 unfold ajK oM
 cases ha:K.alt f args with
 |some p=>
  obtain ⟨c,v⟩:=p
  intro r hr
  obtain ⟨h1,h2⟩:=au.1 (show Ax.guard c (k (v,s))=some r from hr)
  obtain ⟨t,ht,hrun⟩:=hA f args c v ha h1
  rw [ht]
  show Ax.aj (Option.casesOn (lJ C t s args) (jP C call yield f args s) some) k=some r
  rw [hrun s]
  exact h2
 |none=>
  cases C.insert f with
  |none=>exact WO hc hy hL C hLA f args s k
  |some t=>
   show Imp (axR C t s args _ k) (Ax.aj (Option.casesOn (lJ C t s args) _ _) k)
   have hb:=WO hc hy hL C hLA f args s k
   have hone:Imp (Option.casesOn (lJ C t s args) (ajB K C call yield iE dN f args s k) k) (Ax.aj (Option.casesOn (lJ C t s args) (jP C call yield f args s) some) k):=by
    cases lJ C t s args with
    |none=>exact hb
    |some r=>exact aT _
   cases t with
   |tree F=>exact V6 k hb (F s args)
   |insert t=>exact hone
   |closed t=>exact hone
   |fn t=>exact hone
   |pure t=>exact hone
theorem afF (l:List Int)(k:Value × St→Option R)(q:Value × St):Imp (asf l k q) (k q):=by
 obtain ⟨v,s⟩:=q
 cases v with
 |int kd z=>
  have key:∀ l:List Int,Imp (List.rec (motive:=fun _=>Option R) none (fun c _ ih=>sel (eqI z c) (k (.int kd c,s)) ih) l) (k (.int kd z,s)):=by
   intro l
   induction l with
   |nil=>exact oz _
   |cons c l ih=>
    show Imp (sel (eqI z c) (k (.int kd c,s)) (List.rec (motive:=fun _=>Option R) none (fun c _ ih=>sel (eqI z c) (k (.int kd c,s)) ih) l)) _
    cases hb:eqI z c with
    |true=>
     rw [aN]
     have:z=c:=by rw [iM] at hb;simpa using hb
     subst this
     exact aT _
    |false=>rw [aO];exact ih
  cases l with
  |nil=>exact aT _
  |cons c l=>exact key (c::l)
 |_=>exact aT _
theorem Xz (hc:∀ f args s k,Imp (iE f args s k) (Ax.aj (call f args s) k))(hy:∀ f args s k,Imp (dN f args s k) (Ax.aj (yield f args s) k))
  {K:KP} (hL:K.L≤100000) (C:Cfg) (hA:O9 K C) (hLA:WQ K C call yield) (f:FuncId) (args:List Value) (s:St) (k:Value × St→Option R):Imp (arz K C call yield iE dN f args s k) (Ax.aj (oM C call yield f args s) k):=
 imp_trans (adS hc hy hL C hA hLA f args s _) (dH _ fun q=>afF _ k q)
theorem Dl (hc:∀ f args s k,Imp (iE f args s k) (Ax.aj (call f args s) k))(hy:∀ f args s k,Imp (dN f args s k) (Ax.aj (yield f args s) k))
  {K:KP} (hL:K.L≤100000) (C:Cfg) (l:Nat) (args:List Value) (s:St) (k:Value × St→Option R):Imp (Ip K C iE dN l args s k) (Ax.aj (qN C call yield l args s) k):=by
 unfold Ip qN
 rw [aC]
 refine dH _ fun r=>?_
 rw [aC]
 refine dH _ fun vars=>?_
 rw [aC]
 refine imp_trans (kK (K:=K.plain) hc hy hL C _ _ _ (fun _ _ _ _ _ _ h=>by cases h) _ (.refl _) _ _ _) (dH _ fun q=>?_)
 obtain ⟨ex,fr,s'⟩:=q
 cases ex with
 |normal=>
  show Imp (Ax.aj (getLoop s' l) _) (Ax.aj (Ax.aj (getLoop s' l) _) k)
  rw [aC]
  refine dH _ fun r'=>?_
  cases h:r'.state with
  |ready=>
   simp only
   rw [aC]
   exact imp_trans (kK (K:=K.plain) hc hy hL C _ _ _ (fun _ _ _ _ _ _ h=>by cases h) _ (.refl _) _ _ _) (aT _)
  |_=>exact aT _
 |exit id=>exact aT _
 |ret=>exact aT _
end
def uG (K:KP)(C:Cfg):Prop:=∀ m,WQ K C (runN C (m+1)).1 (runN C (m+1)).2
theorem aY {L:Nat}{B:Option Bool}{alt:FuncId→List Value→Option (Bool × Value)}{po:FuncId→List Value→List Int}{oq:Bool}{C:Cfg}:uG ⟨L,B,alt,fun _ _ _ _=>none,po,oq⟩ C:=fun _ _ _ _ _ _ _ _ _ h=>by cases h
theorem kS {K:KP}(hL:K.L≤100000)(C:Cfg)(hA:O9 K C)(hLo:uG K C):∀ (n:Nat),(∀ f args s (k:Value × St→Option R),Imp ((runK K C n).1 f args s k) (Ax.aj ((runN C n).1 f args s) k))∧(∀ l args s (k:Value × St→Option R),Imp ((runK K C n).2 l args s k) (Ax.aj ((runN C n).2 l args s) k))
 |0=>⟨fun _ _ _ _=>aT _,fun _ _ _ _=>aT _⟩
 |1=>⟨fun f args s k=>Xz (K:=K.plain) (kS hL C hA hLo 0).1 (kS hL C hA hLo 0).2 hL C hA adZ f args s k,fun l args s k=>Dl (kS hL C hA hLo 0).1 (kS hL C hA hLo 0).2 hL C l args s k⟩
 |n+2=>⟨fun f args s k=>Xz (kS hL C hA hLo (n+1)).1 (kS hL C hA hLo (n+1)).2 hL C hA (hLo n) f args s k,fun l args s k=>Dl (kS hL C hA hLo (n+1)).1 (kS hL C hA hLo (n+1)).2 hL C l args s k⟩
theorem aeo {K:KP}(hL:K.L≤100000){C:Cfg}(hA:O9 K C)(hLo:uG K C){n:Nat}{f:FuncId}{args:List Value}{s:St}{v:Value}(h:(runK K C n).1 f args s (fun q=>some q.1)=some v):∃ s',(runN C n).1 f args s=some (v,s'):=by
 have:=(kS hL C hA hLo n).1 f args s (fun q=>some q.1) v h
 obtain ⟨⟨v',s'⟩,h1,h2⟩:=ah.1 this
 cases h2
 exact ⟨s',h1⟩
end
end
end Go.Ax
namespace Go.Ax
variable [Lo]
open Go
noncomputable section
theorem dI.pure {P:Program}{C C0:Cfg}{L:List (Nat × Con)}(hK:dS C0 P){n:Nat}{f0:FuncId}{G:List Value→Option Value}
  (hrun:∀ args v,vM args=true→G args=some v→∃ s1,(runN C0 n).1 f0 args dD=some (v,s1)) (hL:dI P C L):dI P C ((f0,.pure G)::L):=by
 intro f t h args s v s' hv base ρ w aW hr ha
 have h':sel (qab f0 f) (some (Con.pure G)) (dQ L f)=some t:=h
 rw [aG] at h'
 split at h'
 ·rename_i hb
  cases h'
  have hf:f0=f:=qaa hb
  subst hf
  exact iH hK hrun hv hr ha
 ·exact hL f t h' args s v s' hv base ρ w aW hr ha
theorem BL (a:Int):eqI a a=true:=by rw [iM];simp
theorem dI.nil {P:Program}{C:Cfg}:dI P C []:=fun f t h=>by cases h
end
end Go.Ax
namespace Go.Ax
open Go
noncomputable section
theorem BF {α:Type}(l r:List α):aI l r=l++r:=by
 induction l with
 |nil=>rfl
 |cons a l ih=>show a::aI l r=_;rw [ih];rfl
def mD (c:Code):List Code:=
 Code.rec (motive:=fun _=>List Code) [] (fun _ _ _=>[]) (fun _ _ a b=>aI a b) (fun _ _ _ a b=>aI a b) (fun _ _ a=>a) (fun b a=>b::a) (fun _ _ _ _ _ _=>[]) (fun _=>[]) (fun _ a=>a) (fun _=>[]) (fun _=>[]) [] (fun _=>[]) c
theorem Vz {c d:Code}(h:PartOf c d):∀ b,b∈mD d→b∈mD c:=by
 induction h with
 |refl=>exact fun b h=>h
 |@avb a b _ ih=>exact fun x hx=>ih x (by show x∈aI (mD a) (mD b);rw [BF];exact qas _ hx)
 |@av2 a b _ ih=>exact fun x hx=>ih x (by show x∈aI (mD a) (mD b);rw [BF];exact qaq _ hx)
 |@an3 x a b _ ih=>exact fun y hy=>ih y (by show y∈aI (mD a) (mD b);rw [BF];exact qas _ hy)
 |@anH x a b _ ih=>exact fun y hy=>ih y (by show y∈aI (mD a) (mD b);rw [BF];exact qaq _ hy)
 |@block id a _ ih=>exact fun y hy=>ih y hy
 |@loop a _ ih=>exact fun y hy=>ih y (qah _ hy)
 |@scope a _ ih=>exact fun y hy=>ih y hy
theorem abd {c b:Code}(h:PartOf c (.loop b)):b∈mD c:=Vz h b qai
def aky (fn id:Nat)(F:Fr→St→Option (Bool × (Ex × Fr × St)))(r:FuncId→Nat→Fr→St→Option (Bool × (Ex × Fr × St))):FuncId→Nat→Fr→St→Option (Bool × (Ex × Fr × St)):=
 fun f i fr s=>sel (qab f fn&&qab i id) (F fr s) (r f i fr s)
theorem uG.cons {K:KP}{C:Cfg}{fn id:Nat}{F:Fr→St→Option (Bool × (Ex × Fr × St))}{r:FuncId→Nat→Fr→St→Option (Bool × (Ex × Fr × St))}{B:Code}
  (hu:∀ c,C.body fn=some c→∀ b,b∈mD c→iG b=id→b=B)
  (hF:∀ m fr s q,F fr s=some (true,q)→exec C (runN C (m+1)).1 (runN C (m+1)).2 (C.vars fn) fn false (.loop B) fr s=some q)
  (hr:uG { K with aqC:=r } C):uG { K with aqC:=aky fn id F r } C:=by
 intro m f c body fr s q hc hp hl
 have hl0:sel (qab f fn&&qab (iG body) id) (F fr s) (r f (iG body) fr s)=some (true,q):=hl
 cases hb:(qab f fn&&qab (iG body) id) with
 |true=>
  rw [hb] at hl0
  simp only [qac] at hb
  have h1:f=fn:=qaa hb.1
  have h2:iG body=id:=qaa hb.2
  subst h1
  have h3:=hu c hc body (abd hp) h2
  subst h3
  exact hF m fr s q hl0
 |false=>
  rw [hb] at hl0
  exact hr m f c body fr s q hc hp hl0
def amg {α:Type}(p:Nat→α→Prop)(t:Hp α):Prop:=Hp.rec (fun _ _=>True) (fun k v=>p k v) (fun _ _ _ x y=>x∧y) t
theorem tZ {α:Type}{p:Nat→α→Prop}:∀ {t:Hp α} {k:Nat} {v:α},amg p t→t.get k=some v→p k v
 |.s _ _,k,v,_,h=>by rw [Hp.vX] at h;cases h
 |.l j u,k,v,hp,h=>by
  rw [Hp.S9] at h
  split at h
  ·rename_i e;cases h;subst e;exact hp
  ·cases h
 |.n m x y,k,v,hp,h=>by
  rw [Hp.Ub] at h
  have hp:amg p x∧amg p y:=hp
  split at h
  ·exact tZ hp.2 h
  ·exact tZ hp.1 h
def adH {α:Type}(t:Hp α):List Nat:=Hp.rec (fun _ _=>[]) (fun k _=>[k]) (fun _ _ _ x y=>aI x y) t
theorem zD {α:Type}:∀ {t:Hp α} {k:Nat} {v:α},t.get k=some v→k∈adH t
 |.s _ _,k,v,h=>by rw [Hp.vX] at h;cases h
 |.l j u,k,v,h=>by
  rw [Hp.S9] at h
  split at h
  ·rename_i e;subst e;exact qai
  ·cases h
 |.n m x y,k,v,h=>by
  rw [Hp.Ub] at h
  show k∈aI (adH x) (adH y)
  rw [gW]
  split at h
  ·exact qaq _ (zD h)
  ·exact qas _ (zD h)
def ajR (s:St)(i:Nat):Option (Nat × Nat):=aj (s.heap.get i) fun r=>match r with
 |.row _ _ f=>sel (qab f 0) (some (0,i)) (aj (s.bQ.get f) fun l=>sel (vZ i l) (some (1,f)) none)
 |.map _ _=>some (0,i)
 |.loop _=>some (0,i)
 |.other=>none
theorem Ud (s:St)(i:Nat):ajR s i=s.tag i:=by
 unfold ajR St.tag
 cases hg:s.heap.get i with
 |none=>rfl
 |some r=>
  cases r with
  |row cs e f=>
   show sel (qab f 0) (some (0,i)) (aj (s.bQ.get f) fun l=>sel (vZ i l) (some (1,f)) none)=if f=0 then some (0,i) else _
   rw [aG]
   by_cases hf:f=0
   ·subst hf;simp
   ·have hb:¬qab f 0=true:=fun e=>hf (qaa e)
    rw [if_neg hb,if_neg hf]
    cases s.bQ.get f with
    |none=>rfl
    |some l=>
     show sel (vZ i l) (some (1,f)) none=if i∈l then some (1,f) else none
     rw [aG,xQ]
     simp
  |map es c=>rfl
  |loop q=>rfl
  |other=>rfl
def af7 (a b:Option (Nat × Nat)):Bool:=Option.rec (Option.rec true (fun _=>false) b) (fun x=>Option.rec false (fun y=>qab x.1 y.1&&qab x.2 y.2) b) a
theorem acB {a b:Option (Nat × Nat)}:af7 a b=true↔a=b:=by
 cases a with
 |none=>cases b with
  |none=>exact ⟨fun _=>rfl,fun _=>rfl⟩
  |some y=>exact ⟨(fun h=>by cases h),(fun h=>by cases h)⟩
 |some x=>cases b with
  |none=>exact ⟨(fun h=>by cases h),(fun h=>by cases h)⟩
  |some y=>
   show (qab x.1 y.1&&qab x.2 y.2)=true↔_
   obtain ⟨x1,x2⟩:=x
   obtain ⟨y1,y2⟩:=y
   simp only [qac,Nat.beq_eq,Option.some.injEq,Prod.mk.injEq]
def YS (L:List (Nat × Loc)):Ren:=fun i=>dQ L i
def idB (π:Ren)(i:Nat):Nat:=sel (ltN i ak) i (Option.rec 0 (fun q:Loc=>q.blk) (π i))
def Rk (π:Ren)(S s:St)(i:Nat):List Nat→Bool:=fun l=>List.rec true (fun j _ ih=>sel (af7 (ajR S i) (ajR S j)||((ltN i ak&&ltN j ak) || !af7 (ajR s (idB π i)) (ajR s (idB π j)))) ih false) l
def G6 (π:Ren)(S s:St)(ids:List Nat):List Nat→Bool:=fun l=>List.rec true (fun i _ ih=>sel (Rk π S s i ids) ih false) l
theorem MS {π:Ren}{S s:St}{i j:Nat}:∀ {l:List Nat},Rk π S s i l=true→j∈l→(S.tag i=S.tag j∨(i<ak∧j<ak)∨s.tag (idB π i)≠s.tag (idB π j))
 |[],_,h=>by cases h
 |k::l,h,hj=>by
  obtain ⟨h1,h2⟩:=dn (show sel (af7 (ajR S i) (ajR S k)||((ltN i ak&&ltN k ak) || !af7 (ajR s (idB π i)) (ajR s (idB π k)))) (Rk π S s i l) false=true from h)
  rcases List.mem_cons.1 hj with rfl|hj
  ·simp only [qaw,qac,qao] at h1
   rcases h1 with h1|⟨h1,h3⟩|h1
   ·rw [acB,Ud,Ud] at h1;exact .inl h1
   ·exact .inr (.inl ⟨bF h1,bF h3⟩)
   ·refine .inr (.inr fun e=>?_)
    rw [←Ud,←Ud] at e
    rw [acB.2 e] at h1
    cases h1
  ·exact MS h2 hj
theorem DY {π:Ren}{S s:St}{i j:Nat}{ids:List Nat}:∀ {l:List Nat},G6 π S s ids l=true→i∈l→j∈ids→(S.tag i=S.tag j∨(i<ak∧j<ak)∨s.tag (idB π i)≠s.tag (idB π j))
 |[],_,h,_=>by cases h
 |k::l,h,hi,hj=>by
  obtain ⟨h1,h2⟩:=dn (show sel (Rk π S s k ids) (G6 π S s ids l) false=true from h)
  rcases List.mem_cons.1 hi with rfl|hi
  ·exact MS h1 hj
  ·exact DY h2 hi hj
def arB (P:Program)(π:Ren)(S s:St)(i:Nat)(r:Row):Prop:=
 i<S.next∧match r with
 |.row cs e f=>f<S.next∧oh P π s i cs e f
 |.map es c=>ak≤i∧∃ j es',π i=some ⟨j,0,aF⟩∧ak≤j∧s.heap.get j=some (.map es' c)∧ZQ π es es'
 |.loop _=>False
 |.other=>True
def Uj (n:Nat)(L:List (Nat × Loc)):Bool:=List.rec true (fun p _ ih=>sel (ltN p.1 n) ih false) L
theorem Jy {n:Nat}:∀ {L:List (Nat × Loc)} {i:Nat} {q:Loc},Uj n L=true→YS L i=some q→i<n
 |[],i,q,_,h=>by cases h
 |p::L,i,q,hb,h=>by
  obtain ⟨h1,h2⟩:=dn (show sel (ltN p.1 n) (Uj n L) false=true from hb)
  have h:sel (qab p.1 i) (some p.2) (YS L i)=some q:=h
  rw [aG] at h
  split at h
  ·rename_i e
   rw [←qaa e]
   exact bF h1
  ·exact Jy h2 h
theorem Emb.of {P:Program}{L:List (Nat × Loc)}{S s:St}(hn:qae ak S.next=true)(hb:Uj S.next L=true)(hrows:amg (arB P (YS L) S s) S.heap)(ht:G6 (YS L) S s (adH S.heap) (adH S.heap)=true):Emb P (YS L) S s where
 next:=qad hn
 dom:=fun i q hq _=>Jy hb hq
 hdom:=fun i r hg=>(tZ hrows hg).1
 aor:=fun i cs e f hg=>(tZ hrows hg).2.1
 cells:=fun i cs e f hc=>(tZ hrows (aK.1 hc).1).2.2
 maps:=fun i es c hg=>(tZ hrows hg).2
 loops:=fun i q hg=>(tZ hrows hg).2
 tags:=fun i j a b x y hi hj hab hh hx hy=>by
  obtain ⟨r,hr⟩:=tag_some hi
  obtain ⟨r',hr'⟩:=tag_some hj
  have hid:∀ k z,Ve (YS L) k=some z→idB (YS L) k=z:=by
   intro k z hk
   unfold Ve at hk
   unfold idB
   rw [aG,oH]
   by_cases hlo:k<ak
   ·rw [if_pos hlo] at hk
    cases hk
    simp [hlo]
   ·rw [if_neg hlo] at hk
    obtain ⟨q,hq,rfl⟩:=Option.map_eq_some_iff.1 hk
    simp [hlo,hq]
  rcases DY ht (zD hr) (zD hr') with h|h|h
  ·rw [hi,hj] at h
   exact absurd (Option.some.inj h) hab
  ·omega
  ·rw [hid i x hx,hid j y hy] at h
   exact h
def avc (L:List (Nat × Value)):Tr Value:=List.rec .e (fun p _ ih=>ih.set p.1 p.2) L
def axy (L:List (Nat × Value)):Fr:={ vars:=avc L,loc:=[],defers:=[] }
theorem ab5:∀ {L:List (Nat × Value)} {t:Nat} {v:Value},(avc L).get t=some v→(t,v)∈L
 |[],t,v,h=>by
  have h:(Tr.e:Tr Value).get t=some v:=h
  rw [Tr.asG] at h
  cases h
 |p::L,t,v,h=>by
  have h:((avc L).set p.1 p.2).get t=some v:=h
  rw [Tr.iR] at h
  split at h
  ·rename_i e;cases h;subst e;exact qai
  ·exact qah _ (ab5 h)
theorem KG.of {π:Ren}{n:Nat}{L:List (Nat × Value)}{fr:Fr}(h:∀ p∈L,∃ v',fr.get n p.1=some v'∧RV π p.2 v')(hd:fr.defers=[]):KG π n (axy L) fr where
 get:=fun t v ht=>by
  unfold Fr.get at ht
  rw [aG] at ht
  split at ht
  ·exact h (t,v) (ab5 ht)
  ·cases ht
 defers:=⟨rfl,hd⟩
theorem RVs.flat {π:Ren}:∀ {l:List Value},flatAll l=true→RVs π l l
 |[],_=>.nil
 |v::l,h=>by
  obtain ⟨h1,h2⟩:=dn (show sel (kV v) (flatAll l) false=true from h)
  refine .cons ?_ (RVs.flat h2)
  cases v <;> first|exact .bool _|exact .int _ _|exact .string _|(exact Bool.noConfusion (show false=true from h1))
structure Sk where
 tr:Tr Unit
 hp:Hp Unit
 fm:Hp Unit
 next:Nat
abbrev L8:=Fr→St→Tree (Ex × Fr × St)
def Ru (L:List (Nat × Nat × L8)):FuncId→Nat→Option L8:=fun f i=>List.rec none (fun p _ ih=>sel (qab p.1 f&&qab p.2.1 i) (some p.2.2) ih) L
theorem Pq {f i:Nat}{F:L8}:∀ {L:List (Nat × Nat × L8)},Ru L f i=some F→(f,i,F)∈L
 |[],h=>by cases h
 |p::L,h=>by
  have h:sel (qab p.1 f&&qab p.2.1 i) (some p.2.2) (Ru L f i)=some F:=h
  rw [aG] at h
  split at h
  ·rename_i hb
   simp only [qac] at hb
   cases h
   rw [←qaa hb.1,←qaa hb.2]
   exact qai
  ·exact qah _ (Pq h)
end
section
variable [Lo] {P:Program}
def J5 (P:Program)(C:Cfg)(fn:FuncId)(body:Code)(F:L8):Prop:=
 ∀ (fr:Fr) (s:St) (e:Ex) (fr':Fr) (s':St),(F fr s).run=some (e,fr',s')→
  ∀ (B:Nat) (ρ:Ren) (a:Act) (w:World) (mk:Option Nat) (m nt:Nat) (Q:Exit→Act→World→Prop),oW nt body=true→(mk=none→Ie body=true)→
   HR P B ρ s w→FrR mk (C.vars fn) nt ρ s w fr a→(∀ k,mk=some k→k≤w.heap.size)→
   (∀ ρ' w' a',Goes P B ρ s w ρ' s' w'→FrR mk (C.vars fn) nt ρ' s' w' fr' a'→Q (exq e) a' w')→(Code.loop body).wpIn (Fro none) m P Q a w
theorem TF {C:Cfg}{L:List (Nat × Nat × L8)}(hL:C.Le=Ru L)(h:∀ q∈L,∀ c body,C.body q.1=some c→PartOf c (.loop body)→iG body=q.2.1→J5 P C q.1 body q.2.2) :
  ∀ fn c body,C.body fn=some c→PartOf c (.loop body)→uJ P C fn body:=by
 intro fn c body hc hp F hF
 rw [hL] at hF
 exact h _ (Pq hF) c body hc hp rfl
def Steps (P:Program)(C:Cfg)(m:Nat)(fn:FuncId)(body:Code)(N:Nat)(e:Ex)(fr':Fr)(s':St)(R:Nat→Fr→St→Prop):Prop:=
 ∀ k fr2 s2,R k fr2 s2→∃ k',k=k'+1∧∃ e1 fr1 s1,exec C (runN C m).1 (runN C m).2 (C.vars fn) fn false body fr2 s2=some (e1,fr1,s1)∧
   ((e1 = .normal∧∃ π fr3 s3,KG π (C.vars fn) fr3 fr1∧Emb P π s3 s1∧Keeps N π∧N≤s3.next∧R k' fr3 s3)∨
    (e1 ≠ .normal∧e1=e∧∃ π,KG π (C.vars fn) fr' fr1∧Emb P π s' s1∧Keeps N π∧N≤s'.next))
theorem YX {C0 C:Cfg}(hK:dS C0 P)(hb:C.body=C0.body)(hv:C.vars=C0.vars){m:Nat}{fn:FuncId}{c body:Code}{F:L8}(hc:C.body fn=some c)(hp:PartOf c (.loop body))
  (h:∀ fr s e fr' s',(F fr s).run=some (e,fr',s')→∃ R k,Steps P C0 m fn body s.next e fr' s' R∧∃ π fr3 s3,KG π (C0.vars fn) fr3 fr∧Emb P π s3 s∧Keeps s.next π∧s.next≤s3.next∧R k fr3 s3):J5 P C fn body F:=by
 intro fr s e fr' s' hF B ρ a w mk m' nt Q hok hnr hr hf hlo hq
 obtain ⟨R,k,hstep,h0⟩:=h fr s e fr' s' hF
 rw [hb] at hc
 rw [hv] at hf hq
 exact afH hK (pJ hK m).1 (pJ hK m).2 (Gz m) hc hp R hstep h0 hok hnr hr hf hlo hq
theorem dI.zo {C C0:Cfg}(hK:∀ lo:Lo,@dS lo C0 P){n:Nat}{f0:FuncId}{G:List fM→Tree cO}(hrun:UM P C0 n f0 G){L:List (Nat × Con)}(hL:dI P C L):dI P C ((f0,.tree (zo P G))::L):=by
 intro f t h args s v s' hv base ρ w aW hr ha
 have h':sel (qab f0 f) (some (Con.tree (Ax.zo P G))) (dQ L f)=some t:=h
 rw [aG] at h'
 split at h'
 ·rename_i hb
  cases h'
  have hf:f0=f:=qaa hb
  subst hf
  exact adQ hK hrun hv hr ha
 ·exact hL f t h' args s v s' hv base ρ w aW hr ha
theorem dI.ase {C:Cfg}{f0:FuncId}{G:List fM→Tree cO}(hrun:Np P f0 G){L:List (Nat × Con)}(hL:dI P C L):dI P C ((f0,.tree (Ax.zo P G))::L):=by
 intro f t h args s v s' hv base ρ w aW hr ha
 have h':sel (qab f0 f) (some (Con.tree (Ax.zo P G))) (dQ L f)=some t:=h
 rw [aG] at h'
 split at h'
 ·rename_i hb
  cases h'
  have hf:f0=f:=qaa hb
  subst hf
  exact KF hrun hv hr ha
 ·exact hL f t h' args s v s' hv base ρ w aW hr ha
end
end Go.Ax
namespace Go.Ax
open Go
noncomputable section
structure Seen where
 rows:List (List Value × TypeId)
 blks:List Loc
 bQ:List Nat
 count:Nat
def aeL (f b:Nat):Nat:=sel (qab f 0) (qaj 2 b) (qak (qaj 2 f))
def RD (f c sz len:Nat):Bool:=sel (qab f 0) (ltN c bf&&qab (qaj c sz) len) (qab c aF)
section
variable {R:Type}
def MN (P:Program)(s:St)(v:Value)(o:Seen)(k:gX→Seen→Option R):Option R:=
 sel (yF v) (k (.flat v) o) (match v with
  |.slice (some a) n c=>guard (a.spot.isNone&&(qab a.off 0&&qae ak a.block)) (aj (s.cells a.block) fun r=>
    guard (!vZ (aeL r.2.2 a.block) o.bQ) (aj (size P r.2.1) fun sz=>guard (qae 1 sz&&RD r.2.2 c sz (aQ r.1))
     (k (.sl o.count n) ⟨aI o.rows [(r.1,r.2.1)],aI o.blks [⟨a.block,0,c⟩],aeL r.2.2 a.block::o.bQ,qak o.count⟩)))
  |_=>none)
def UW (P:Program)(s:St)(l:List Value):Seen→(List gX→Seen→Option R)→Option R:=
 List.rec (fun o k=>k [] o) (fun v _ ih o k=>MN P s v o fun c o=>ih o fun cs o=>k (c::cs) o) l
def RU (P:Program)(s:St)(v:Value)(o:Seen)(k:jk→Seen→Option R):Option R:=
 match v with
 |.agg ⟨l⟩=>UW P s l o fun cs o=>k (.agg cs) o
 |v=>MN P s v o fun c o=>k (.one c) o
def SB (P:Program)(s:St)(l:List Value):Seen→(List jk→Seen→Option R)→Option R:=
 List.rec (fun o k=>k [] o) (fun v _ ih o k=>RU P s v o fun c o=>ih o fun cs o=>k (c::cs) o) l
def NY (v:Value):List Value:=
 match v with
 |.tuple ⟨l⟩=>l
 |v=>[v]
def abK (v:Value):Bool:=
 match v with
 |.tuple ⟨l⟩=>!qab (aQ l) 1
 |_=>true
end
def dJ (P:Program)(q:Value × St):Option cO:=guard (abK q.1) (SB P q.2 (NY q.1) ⟨[],[],[],0⟩ fun cs o=>some ⟨cs,o.rows⟩)
def oD (bl:List Loc):Ren:=fun i=>if i<64 then none else bl[i-64]?
structure IJ (P:Program) (s:St) (o:Seen):Prop where
 len:o.blks.length=o.rows.length∧o.count=o.rows.length
 at_:∀ (k:Nat) (q:Loc),o.blks[k]? = some q→ak≤q.blk∧q.off=0∧∃ (p:List Value × TypeId) (f sz:Nat),o.rows[k]? = some p∧s.cells q.blk=some (p.1,p.2,f)∧aeL f q.blk∈o.bQ∧size P p.2=some sz∧0<sz∧RD f q.cap sz p.1.length=true
 inj:∀ (k l:Nat) (q u:Loc) (f g:Nat) (cs ds:List Value) (e d:TypeId),o.blks[k]? = some q→o.blks[l]? = some u→s.cells q.blk=some (cs,e,f)→s.cells u.blk=some (ds,d,g)→aeL f q.blk=aeL g u.blk→k=l
def Seen.le (o o':Seen):Prop:=(∃ t,o'.rows=o.rows++t)∧∃ t,o'.blks=o.blks++t
theorem Seen.le_refl (o:Seen):o.le o:=⟨⟨[],by simp⟩,⟨[],by simp⟩⟩
theorem Seen.le_trans {a b c:Seen}(h:a.le b)(g:b.le c):a.le c:=by
 obtain ⟨⟨t,h1⟩,u,h2⟩:=h
 obtain ⟨⟨t',g1⟩,u',g2⟩:=g
 exact ⟨⟨t++t',by rw [g1,h1];simp⟩,⟨u++u',by rw [g2,h2];simp⟩⟩
theorem Seen.amu {o o':Seen}(h:o.le o'){k:Nat}{b:Loc}(hb:o.blks[k]? = some b):o'.blks[k]? = some b:=by
 obtain ⟨_,u,h2⟩:=h
 rw [h2,qap (List.getElem?_eq_some_iff.1 hb).1]
 exact hb
theorem al7 {π:Ren}{v:Value}(h:yF v=true):RV π v v:=by
 unfold yF at h
 split at h
 ·exact .dU _ _
 ·exact .nC
 ·exact .ug
 ·exact .nilFunc
 ·exact .nilIface
 ·cases v <;> first|exact .bool _|exact .int _ _|exact .string _|(exact Bool.noConfusion (show false=true from h))
section
variable {R:Type} {P:Program} {s:St}
theorem Jj {v:Value}{o:Seen}{k:gX→Seen→Option R}{r:R}(h:MN P s v o k=some r)(ho:IJ P s o) :
  ∃ c o',k c o'=some r∧IJ P s o'∧o.le o'∧c.ok o'.count=true∧∀ bl:List Loc,(∀ (k:Nat) (b:Loc),o'.blks[k]? = some b→bl[k]? = some b)→RV (oD bl) (c.val 64) v:=by
 unfold MN at h
 cases hf:yF v with
 |true=>
  rw [hf,aN] at h
  exact ⟨.flat v,o,h,ho,o.le_refl,hf,fun _ _=>al7 hf⟩
 |false=>
  rw [hf,aO] at h
  split at h
  ·rename_i a n c
   obtain ⟨b,off,sp⟩:=a
   obtain ⟨hg,h1⟩:=au.1 h
   clear h
   obtain ⟨⟨cs,e,f⟩,hc,h2⟩:=ah.1 h1
   clear h1
   obtain ⟨hg2,h3⟩:=au.1 h2
   clear h2
   obtain ⟨sz,hsz,h4⟩:=ah.1 h3
   clear h3
   obtain ⟨hs0,h⟩:=au.1 h4
   clear h4
   simp only [qac,qao] at hg hg2 hs0
   obtain ⟨g1,g2,g4⟩:=hg
   obtain ⟨hs0,hcap⟩:=hs0
   have g2:off=0:=qaa g2
   have g4:ak≤b:=qad g4
   have g1:sp=none:=by cases sp with
    |none=>rfl
    |some x=>cases g1
   have hfn:aeL f b ∉ o.bQ:=by
    have g6:vZ (aeL f b) o.bQ=false:=hg2
    rw [xQ] at g6
    simpa using g6
   have hs0:1≤sz:=qad hs0
   have hcap:RD f c sz cs.length=true:=by rw [←aU];exact hcap
   subst g1 g2
   have hc:s.cells b=some (cs,e,f):=hc
   simp only [gW] at h
   have hnew:∀ (k:Nat) (q:Loc),(o.blks++[⟨b,0,c⟩])[k]? = some q→(k<o.blks.length∧o.blks[k]? = some q)∨(k=o.blks.length∧q=⟨b,0,c⟩):=by
    intro k q hk
    by_cases hlt:k<o.blks.length
    ·rw [qap hlt] at hk;exact .inl ⟨hlt,hk⟩
    ·rw [qav (by omega)] at hk
     have hk0:k-o.blks.length=0:=by
      have:=(List.getElem?_eq_some_iff.1 hk).1
      simp at this
      exact this
     rw [hk0] at hk
     exact .inr ⟨by omega,by simpa using hk.symm⟩
   have hold:∀ (k:Nat) (q:Loc) (cs':List Value) (e':TypeId) (f':Nat),o.blks[k]? = some q→s.cells q.blk=some (cs',e',f')→aeL f' q.blk∈o.bQ:=by
    intro k q cs' e' f' hk hcb
    obtain ⟨_,_,p,f2,_,_,h3,h5,_⟩:=ho.at_ k q hk
    rw [hcb] at h3
    cases h3
    exact h5
   refine ⟨_,_,h,⟨⟨by simp [ho.len.1],by simp [ho.len.2]⟩,fun k q hk=>?_,fun k l q u f' g' cs' ds' e' d' hk hl hcb hcc hfg=>?_⟩,⟨⟨_,rfl⟩,⟨_,rfl⟩⟩,?_,fun bl hbl=>?_⟩
   ·rcases hnew k q hk with ⟨hlt,hk'⟩|⟨hk',rfl⟩
    ·obtain ⟨h1,h1',p,f2,sz2,h2,h3,h5,h6,h7,h8⟩:=ho.at_ k q hk'
     exact ⟨h1,h1',p,f2,sz2,by rw [qap (by rw [←ho.len.1];exact hlt)];exact h2,h3,qah _ h5,h6,h7,h8⟩
    ·have hkk:k=o.rows.length:=by have:=ho.len.1;omega
     exact ⟨g4,rfl,(cs,e),f,sz,by rw [hkk];simp,hc,qai,hsz,by omega,hcap⟩
   ·rcases hnew k q hk with ⟨_,hk'⟩|⟨hk',rfl⟩ <;> rcases hnew l u hl with ⟨_,hl'⟩|⟨hl',rfl⟩
    ·exact ho.inj k l q u f' g' cs' ds' e' d' hk' hl' hcb hcc hfg
    ·have hcc:s.cells b=some (ds',d',g'):=hcc
     rw [hc] at hcc
     cases hcc
     have:=hold k q cs' e' f' hk' hcb
     rw [hfg] at this
     exact absurd this hfn
    ·have hcb:s.cells b=some (cs',e',f'):=hcb
     rw [hc] at hcb
     cases hcb
     have:=hold l u ds' d' g' hl' hcc
     rw [←hfg] at this
     exact absurd this hfn
    ·omega
   ·show ltN o.count (qak o.count)=true
    rw [oH];simp
   ·have hb:=hbl o.count ⟨b,0,c⟩ (by
     show (o.blks++[(⟨b,0,c⟩:Loc)])[o.count]? = some ⟨b,0,c⟩
     rw [ho.len.2,←ho.len.1]
     simp)
    have hq:oD bl (64+o.count)=some ⟨b,0,c⟩:=by
     unfold oD
     rw [if_neg (by omega),show 64+o.count-64=o.count by omega,hb]
    have:=RV.slice (π:=oD bl) (b:=64+o.count) (o:=0) (n:=n) (q:=⟨b,0,c⟩) (by show 64≤_;omega) hq g4
    exact this
  ·cases h
theorem gX.OQ {n m:Nat}(h:n≤m){c:gX}(hc:c.ok n=true):c.ok m=true:=by
 cases c with
 |flat v=>exact hc
 |sl k l=>
  have hc:ltN k n=true:=hc
  show ltN k m=true
  rw [oH] at *
  simp at *
  omega
theorem EW:∀ {l:List Value} {o:Seen} {k:List gX→Seen→Option R} {r:R},UW P s l o k=some r→IJ P s o→
  ∃ cs o',k cs o'=some r∧IJ P s o'∧o.le o'∧o.count≤o'.count∧sH o'.count cs=true∧∀ bl:List Loc,(∀ (k:Nat) (b:Loc),o'.blks[k]? = some b→bl[k]? = some b)→RVs (oD bl) (zq (fun c=>c.val 64) cs) l
 |[],o,k,r,h,ho=>⟨[],o,h,ho,o.le_refl,qau _,rfl,fun _ _=>.nil⟩
 |v::l,o,k,r,h,ho=>by
  have h:(MN P s v o fun c o=>UW P s l o fun cs o=>k (c::cs) o)=some r:=h
  obtain ⟨c,o1,h1,h2,h3,h4,h5⟩:=Jj h ho
  obtain ⟨cs,o2,g1,g2,g3,g4,g5,g6⟩:=EW h1 h2
  have hcnt:o.count≤o1.count:=by
   obtain ⟨⟨t,e⟩,_⟩:=h3
   rw [ho.len.2,h2.len.2,e];simp
  refine ⟨c::cs,o2,g1,g2,Seen.le_trans h3 g3,by omega,?_,fun bl hbl=>.cons (h5 bl fun k b hk=>hbl k b (Seen.amu g3 hk)) (g6 bl hbl)⟩
  show sel (c.ok o2.count) (sH o2.count cs) false=true
  rw [gX.OQ g4 h4]
  exact g5
theorem F5 {n m:Nat}(h:n≤m):∀ {l:List gX},sH n l=true→sH m l=true
 |[],_=>rfl
 |c::l,hl=>by
  obtain ⟨h1,h2⟩:=dn (show sel (c.ok n) (sH n l) false=true from hl)
  show sel (c.ok m) (sH m l) false=true
  rw [gX.OQ h h1]
  exact F5 h h2
theorem jk.OQ {n m:Nat}(h:n≤m){c:jk}(hc:c.ok n=true):c.ok m=true:=by
 cases c with
 |one c=>exact gX.OQ h (c:=c) hc
 |agg l=>exact F5 h (l:=l) hc
theorem WW {v:Value}{o:Seen}{k:jk→Seen→Option R}{r:R}(h:RU P s v o k=some r)(ho:IJ P s o) :
  ∃ c o',k c o'=some r∧IJ P s o'∧o.le o'∧o.count≤o'.count∧c.ok o'.count=true∧∀ bl:List Loc,(∀ (k:Nat) (b:Loc),o'.blks[k]? = some b→bl[k]? = some b)→RV (oD bl) (c.val 64) v:=by
 unfold RU at h
 split at h
 ·rename_i l
  obtain ⟨cs,o',h1,h2,h3,h4,h5,h6⟩:=EW h ho
  exact ⟨.agg cs,o',h1,h2,h3,h4,h5,fun bl hbl=>.agg (h6 bl hbl)⟩
 ·obtain ⟨c,o',h1,h2,h3,h4,h5⟩:=Jj h ho
  refine ⟨.one c,o',h1,h2,h3,?_,h4,h5⟩
  obtain ⟨⟨t,e⟩,_⟩:=h3
  rw [ho.len.2,h2.len.2,e];simp
theorem Fj:∀ {l:List Value} {o:Seen} {k:List jk→Seen→Option R} {r:R},SB P s l o k=some r→IJ P s o→
  ∃ cs o',k cs o'=some r∧IJ P s o'∧o.le o'∧o.count≤o'.count∧uZ o'.count cs=true∧∀ bl:List Loc,(∀ (k:Nat) (b:Loc),o'.blks[k]? = some b→bl[k]? = some b)→RVs (oD bl) (zq (fun c=>c.val 64) cs) l
 |[],o,k,r,h,ho=>⟨[],o,h,ho,o.le_refl,qau _,rfl,fun _ _=>.nil⟩
 |v::l,o,k,r,h,ho=>by
  have h:(RU P s v o fun c o=>SB P s l o fun cs o=>k (c::cs) o)=some r:=h
  obtain ⟨c,o1,h1,h2,h3,h4,h4',h5⟩:=WW h ho
  obtain ⟨cs,o2,g1,g2,g3,g4,g5,g6⟩:=Fj h1 h2
  refine ⟨c::cs,o2,g1,g2,Seen.le_trans h3 g3,by omega,?_,fun bl hbl=>.cons (h5 bl fun k b hk=>hbl k b (Seen.amu g3 hk)) (g6 bl hbl)⟩
  show sel (c.ok o2.count) (uZ o2.count cs) false=true
  rw [jk.OQ g4 h4']
  exact g5
end
theorem Fq {v:Value}(h:abK v=true):tuple (NY v)=v:=by
 unfold NY
 split
 ·rename_i l
  match l,h with
  |[],_=>rfl
  |[a],h=>cases h
  |a::b::l,_=>rfl
 ·rfl
theorem RVs.tuple' {π:Ren}:∀ {l l':List Value},RVs π l l'→RV π (tuple l) (tuple l')
 |_,_,.nil=>.tuple .nil
 |_,_,.cons h .nil=>h
 |_,_,.cons h (.cons g t)=>.tuple (.cons h (.cons g t))
theorem YC {P:Program}{v:Value}{s1:St}{r:cO}(h:dJ P (v,s1)=some r)(hfl:∀ p∈r.rows,flatAll p.1=true) :
  r.ok=true∧∃ π,RV π (r.value 64) v∧Emb P π (fC dD r.rows) s1:=by
 unfold dJ at h
 obtain ⟨h1,h⟩:=au.1 h
 obtain ⟨cs,o,h2,ho,hle,_,hok,hv⟩:=Fj h ⟨⟨rfl,rfl⟩,(fun k b hk=>by simp at hk),fun k l q u f g cs ds e d hk=>by simp at hk⟩
 cases h2
 have hv:=hv o.blks fun _ _ h=>h
 have hlen:=ho.len
 obtain ⟨n1,n2,n3⟩:=oC o.rows dD
 have e64:dD.next=64:=rfl
 have e2:ak=64:=rfl
 rw [e64] at n1 n2 n3
 have axG:∀ i q,oD o.blks i=some q→64≤i∧o.blks[i-64]? = some q:=by
  intro i q hq
  unfold oD at hq
  split at hq
  ·cases hq
  ·exact ⟨by omega,hq⟩
 have hnone:∀ i,dD.heap.get i=none:=fun i=>Hp.vX ..
 have hrow:∀ i rw',(fC dD o.rows).heap.get i=some rw'→64≤i∧i<64+o.rows.length∧∃ p,o.rows[i-64]? = some p∧rw' = .row p.1 p.2 i:=by
  intro i rw' hi
  rw [n2 i] at hi
  split at hi
  ·rename_i hh
   obtain ⟨p,hp,rfl⟩:=Option.map_eq_some_iff.1 hi
   exact ⟨hh.1,hh.2,p,hp,rfl⟩
  ·rw [hnone] at hi;cases hi
 refine ⟨?_,oD o.blks,?_,⟨?_,?_,?_,?_,?_,?_,?_,?_⟩⟩
 ·show uZ (aQ o.rows) cs=true
  rw [aU,←hlen.2]
  exact hok
 ·show RV _ (tuple (zq (fun c=>c.val 64) cs)) v
  have:=RVs.tuple' hv
  rw [Fq h1] at this
  exact this
 ·rw [n1];omega
 ·intro i q hq _
  obtain ⟨h3,hb⟩:=axG i q hq
  have:=(List.getElem?_eq_some_iff.1 hb).1
  rw [n1];omega
 ·intro i r hg
  obtain ⟨h3,h4,_⟩:=hrow i r hg
  rw [n1];omega
 ·intro i c e f hg
  obtain ⟨h3,h4,p,_,h5⟩:=hrow i _ hg
  injection h5 with _ _ q
  rw [n1];omega
 ·intro i c e f hc
  obtain ⟨h3,h4,p,hp,h5⟩:=hrow i _ (aK.1 hc).1
  injection h5 with q1 q2 q3
  subst q1 q2
  have hlt:i-64<o.blks.length:=by omega
  obtain ⟨q,hb⟩:∃ q,o.blks[i-64]? = some q:=⟨_,List.getElem?_eq_getElem hlt⟩
  obtain ⟨hb64,hoff,p',f',sz,hp',hcb,_,hsz,hs0,hcap⟩:=ho.at_ _ q hb
  rw [hp] at hp'
  cases hp'
  obtain ⟨qb,qo,qc⟩:=q
  have hoff:qo=0:=hoff
  subst hoff
  have hfp:=hfl p (qar hp)
  have hpi:oD o.blks i=some ⟨qb,0,qc⟩:=by
   unfold oD
   rw [if_neg (by omega),hb]
  have hv0:RVs (oD o.blks) p.1 ((p.1.drop 0).take p.1.length):=by
   simp only [List.drop_zero,List.take_length]
   exact RVs.flat hfp
  unfold RD at hcap
  rw [aG] at hcap
  split at hcap
  ·rename_i hf0
   have hf0:f'=0:=qaa hf0
   subst hf0
   simp only [qac] at hcap
   have k1:=bF hcap.1
   have k2:qc*sz=p.1.length:=qaa hcap.2
   exact oh.known (j:=qb) (o:=0) (c:=qc) (n:=sz) (by omega) hpi hb64 hcb (by omega) hsz hs0 k1 (by omega) (by omega) hv0
  ·rename_i hf0
   have hf0:f'≠0:=fun e=>hf0 (by rw [e];rfl)
   have k2:qc=aF:=qaa hcap
   subst k2
   refine oh.fam (j:=qb) (k:=0) (n:=sz) (by omega) ?_ hb64 hcb (by omega) hf0 hsz hs0 (Nat.zero_le _) (by simp) ?_
   ·rw [hpi];simp
   ·simpa using hv0
 ·intro i es c hg
  obtain ⟨_,_,p,_,h5⟩:=hrow i _ hg
  cases h5
 ·intro i q hg
  obtain ⟨_,_,p,_,h5⟩:=hrow i _ hg
  cases h5
 ·intro i j a b x y hi hj hab hh hx hy e
  obtain ⟨r,hr⟩:=tag_some hi
  obtain ⟨r',hr'⟩:=tag_some hj
  obtain ⟨i1,i2,p,hp,_⟩:=hrow i _ hr
  obtain ⟨j1,j2,p',hp',_⟩:=hrow j _ hr'
  have hblk:∀ k z,64≤k→k<64+o.rows.length→Ve (oD o.blks) k=some z→∃ q,o.blks[k-64]? = some q∧q.blk=z:=by
   intro k z h1 h2 hk
   unfold Ve at hk
   rw [if_neg (by omega)] at hk
   obtain ⟨q,hq,rfl⟩:=Option.map_eq_some_iff.1 hk
   exact ⟨q,(axG k q hq).2,rfl⟩
  obtain ⟨qx,hbx,rfl⟩:=hblk i x i1 i2 hx
  obtain ⟨qy,hby,rfl⟩:=hblk j y j1 j2 hy
  obtain ⟨_,_,p1,f1,_,_,c1,_⟩:=ho.at_ _ qx hbx
  obtain ⟨_,_,p2,f2,_,_,c2,_⟩:=ho.at_ _ qy hby
  rw [cZ c1,cZ c2] at e
  have e:aeL f1 qx.blk=aeL f2 qy.blk:=by
   have ht:∀ f b:Nat,aeL f b=if f=0 then 2*b else 2*f+1:=by
    intro f b
    unfold aeL
    rw [aG]
    by_cases hf:f=0
    ·subst hf;rfl
    ·rw [if_neg (fun e=>hf (qaa e)),if_neg hf];rfl
   rw [ht,ht]
   by_cases h1:f1=0 <;> by_cases h2:f2=0 <;> simp [h1,h2] at e ⊢ <;> omega
  have:=ho.inj _ _ _ _ _ _ _ _ _ _ hbx hby c1 c2 e
  have hij:j=i:=by omega
  rw [hij,hi] at hj
  exact hab (Option.some.inj hj)
def y8 (P:Program)(C:Cfg)(n:Nat)(f:FuncId)(G:List fM→Tree cO):Prop:=
 ∀ (comps:List fM) (r:cO),(∀ c∈comps,c.fine P)→(G comps).run=some r→(∀ p∈r.rows,flatAll p.1=true)∧aj ((runN C n).1 f (bH comps) (aP comps)) (dJ P)=some r
theorem y8.gives {P:Program}{C:Cfg}{n:Nat}{f:FuncId}{G:List fM→Tree cO}(h:y8 P C n f G):UM P C n f G:=by
 intro comps r hf hr
 obtain ⟨h1,h2⟩:=h comps r hf hr
 obtain ⟨⟨v,s1⟩,h3,h4⟩:=ah.1 h2
 obtain ⟨h5,π,h6,h7⟩:=YC h4 h1
 exact ⟨h5,h1,v,s1,π,h3,h6,h7⟩
def aag (P:Program)(f:FuncId)(G:List fM→Tree cO):Prop:=
 ∀ (comps:List fM) (r:cO),(∀ c∈comps,c.fine P)→(G comps).run=some r→∃ (C:Cfg) (n:Nat),(∀ lo:Lo,@dS lo C P)∧(∀ p∈r.rows,flatAll p.1=true)∧aj ((runN C n).1 f (bH comps) (aP comps)) (dJ P)=some r
theorem aag.gives {P:Program}{f:FuncId}{G:List fM→Tree cO}(h:aag P f G):Np P f G:=by
 intro comps r hf hr
 obtain ⟨C,n,hK,h1,h2⟩:=h comps r hf hr
 obtain ⟨⟨v,s1⟩,h3,h4⟩:=ah.1 h2
 obtain ⟨h5,π,h6,h7⟩:=YC h4 h1
 exact ⟨C,n,hK,h5,h1,v,s1,π,h3,h6,h7⟩
theorem bT {K:KP}(hL:K.L≤100000){P:Program}{C:Cfg}(hA:O9 K C)(hLo:uG K C){n:Nat}{f:FuncId}{args:List Value}{s:St}{r:cO}(h:(runK K C n).1 f args s (dJ P)=some r) :
  aj ((runN C n).1 f args s) (dJ P)=some r:=(kS hL C hA hLo n).1 f args s (dJ P) r h
end
end Go.Ax
namespace Go.Ax
open Go
noncomputable section
structure bg where
 vals:List Value
 rows:List (Nat × Row)
inductive Src where
 |var (k c:Nat)
 |row (j c:Nat)
 |old (i c:Nat)
structure Fnd where
 src:Src
 fam:Bool
 spine:Bool
structure bM where
 N:Nat
 need:List Nat
 low:List Nat
 keep:List (Nat × Bool × Bool)
 new:List Fnd
section
variable {R:Type}
def uI {α:Type}(x:Option α)(k:α→Tree R):Tree R:=Option.rec .fail k x
def getAll (n:Nat)(fr:Fr):List Nat→Option (List Value):=fun l=>List.rec (some []) (fun t _ ih=>aj (fr.get n t) fun v=>aj ih fun vs=>some (v::vs)) l
def cellOf (v:Value)(c:Nat):Option Value:=
 match v with
 |.agg ⟨l⟩=>nth l c
 |v=>some v
def ar7 (fam:Bool)(v:Value):Option Loc:=
 match v with
 |.slice (some a) _ c=>guard a.spot.isNone (sel fam (some ⟨a.block,a.off,c⟩) (some ⟨a.block,0,aF⟩))
 |.pointer (some a)=>guard a.spot.isNone (some ⟨a.block,0,aF⟩)
 |_=>none
def amQ (s:St)(vs:List Value)(bn:List Loc)(x:Src):Option Value:=
 match x with
 |.var k c=>aj (nth vs k) fun v=>cellOf v c
 |.row j c=>aj (nth bn j) fun q=>aj (s.cells q.blk) fun r=>nth r.1 c
 |.old i c=>aj (s.cells i) fun r=>nth r.1 c
def Cb (N:Nat)(s:St)(vs:List Value):List Fnd→List Loc→Option (List Loc):=fun l=>
 List.rec (fun acc=>some acc) (fun f _ ih acc=>aj (amQ s vs acc f.src) fun v=>aj (ar7 f.fam v) fun q=>guard (qae N q.blk) (ih (aI acc [q]))) l
def jA (N:Nat)(bn:List Loc):Ren:=fun i=>sel (ltN i ak) none (sel (ltN i N) (some ⟨i,0,aF⟩) (nth bn (qam i N)))
def aqF (b:Nat):List Loc→Nat→Option (Nat × Loc):=fun l=>List.rec (fun _=>none) (fun q _ ih k=>sel (qab q.blk b) (some (k,q)) (ih (qak k))) l
def abm (f:Fn):Bool:=
 match f with
 |.yield _=>true
 |_=>false
def abw (a:Array Value):Bool:=jg a.toList true fun _ _=>false
def aX (N:Nat)(v:Value):Bool:=
 match v with
 |.slice none _ _=>true
 |.slice (some a) _ c=>a.spot.isNone&&(ltN a.block ak||(ltN a.block N&&(qab c aF||ltN c bf)))
 |.pointer none=>true
 |.pointer (some a)=>a.spot.isNone&&ltN a.block N
 |.map none=>true
 |.nilFunc=>true
 |.nilIface=>true
 |.float .f64 _=>true
 |.func f a b=>!abm f&&(abw a&&abw b)
 |v=>kV v
def amv (v:Value):Bool:=
 match v with
 |.agg ⟨l⟩=>List.rec true (fun v _ ih=>sel (aX ak v) ih false) l
 |v=>aX ak v
def tC (v:Value):Bool:=
 match v with
 |.iface _ v=>amv v
 |v=>aX ak v
def acR:List Value→Bool:=fun l=>List.rec true (fun v _ ih=>sel (tC v) ih false) l
def lq (N:Nat):List Value→Bool:=fun l=>List.rec true (fun v _ ih=>sel (aX N v) ih false) l
def Uy (bn:List Loc)(N:Nat)(v:Value)(k:Value→Tree R):Tree R:=
 match v with
 |.slice (some a) n c=>sel a.spot.isNone (uI (aqF a.block bn N) fun p=>
   sel (qab p.2.cap c) (bY (qab p.2.off a.off) (k (.slice (some ⟨p.1,0,none⟩) n aF)))
    (bY (qab p.2.off 0&&(qab p.2.cap aF&&ltN c bf)) (k (.slice (some ⟨p.1,a.off,none⟩) n c)))) .fail
 |.pointer (some a)=>sel a.spot.isNone (uI (aqF a.block bn N) fun p=>bY (qab p.2.off 0&&qab p.2.cap aF) (k (.pointer (some ⟨p.1,a.off,none⟩)))) .fail
 |_=>.fail
def Bv (N:Nat)(bn:List Loc)(v:Value)(k:Value→Tree R):Tree R:=.test (aX N v) (k v) (Uy bn N v k)
def acF (N:Nat)(bn:List Loc)(l:List Value):(List Value→Tree R)→Tree R:=List.rec (fun k=>k []) (fun v _ ih k=>Bv N bn v fun v=>ih fun vs=>k (v::vs)) l
def abr (N:Nat)(bn:List Loc)(v:Value)(k:Value→Tree R):Tree R:=
 match v with
 |.agg ⟨l⟩=>acF N bn l fun l=>k (.agg ⟨l⟩)
 |.iface t v=>Bv N bn v fun v=>k (.iface t v)
 |v=>Bv N bn v k
def aaD (N:Nat)(bn:List Loc)(l:List Value):(List Value→Tree R)→Tree R:=List.rec (fun k=>k []) (fun v _ ih k=>abr N bn v fun v=>ih fun vs=>k (v::vs)) l
def Bh (N:Nat)(bn:List Loc)(spine:Bool)(l:List Value)(k:List Value→Tree R):Tree R:=sel spine (acF N bn l k) (bY (lq N l) (k l))
def ah8 (N:Nat)(s:St)(i:Nat)(k:Row→Tree R):Tree R:=uI (s.cells i) fun c=>bY (acR c.1) (sel (ltN i ak&&ltN c.2.2 N) (k (.row c.1 c.2.1 c.2.2)) .fail)
def aas (N:Nat)(s:St)(l:List Nat):(List (Nat × Row)→Tree R)→Tree R:=List.rec (fun k=>k []) (fun i _ ih k=>ah8 N s i fun r=>ih fun rs=>k ((i,r)::rs)) l
def Gv (sz:Nat)(q:Loc)(f len:Nat):Bool:=
 !qab f 0&&(qae 1 sz&&(qab q.off (qaj (qam aF q.cap) sz)&&(qae (qam aF q.cap) bf&&(qae q.cap aF&&sel (qab q.off 0) true (qae q.off len)))))
def U7 (P:Program)(N:Nat)(s:St)(bn:List Loc)(i:Nat)(q:Loc)(fam spine:Bool)(k:Row→Tree R):Tree R:=
 uI (s.cells q.blk) fun c=>sel fam
  (uI (size P c.2.1) fun sz=>bY (Gv sz q c.2.2 (aQ c.1)) (Bh N bn spine (bJ q.off c.1) fun cs=>k (.row cs c.2.1 i)))
  (sel (qab c.2.2 0&&(qab q.off 0&&qab q.cap aF)) (Bh N bn spine c.1 fun cs=>k (.row cs c.2.1 0)) .fail)
def U2 (P:Program)(N:Nat)(s:St)(bn:List Loc)(l:List (Nat × Bool × Bool)):(List (Nat × Row)→Tree R)→Tree R:=
 List.rec (fun k=>k []) (fun p _ ih k=>sel (qae ak p.1&&ltN p.1 N) (U7 P N s bn p.1 ⟨p.1,0,aF⟩ p.2.1 p.2.2 fun r=>ih fun rs=>k ((p.1,r)::rs)) .fail) l
def ZK (P:Program)(N:Nat)(s:St)(bn:List Loc)(l:List Fnd):Nat→(List (Nat × Row)→Tree R)→Tree R:=
 List.rec (fun _ k=>k []) (fun f _ ih j k=>uI (nth bn j) fun q=>U7 P N s bn (qag N j) q f.fam f.spine fun r=>ih (qak j) fun rs=>k ((qag N j,r)::rs)) l
end
def aqH:List (Nat × Row)→Hp Row:=fun l=>List.rec (.s 15 0) (fun p _ ih=>ih.set p.1 p.2) l
def kH (r:Row):Nat:=
 match r with
 |.row _ _ f=>f
 |_=>0
def as6:List (Nat × Row)→Hp (List Nat):=fun l=>List.rec (.s 15 0) (fun p _ ih=>sel (qab (kH p.2) 0) ih (ih.set (kH p.2) [p.1])) l
def axi:List Nat→List Value→List (Nat × Value):=fun l=>List.rec (fun _=>[]) (fun t _ ih vs=>jg vs [] fun v vs=>(t,v)::ih vs) l
def Cc (need:List Nat)(o:bg):Fr:=axy (axi need o.vals)
def lF (next:Nat)(o:bg):St:={ heap:=aqH o.rows,bQ:=as6 o.rows,next:=next }
def bM.next (sp:bM):Nat:=qag sp.N (aQ sp.new)
def uy (l:List (Nat × Row)):List Nat:=zq (fun p=>p.1) l
def aam (P:Program)(n:Nat)(sp:bM)(fr:Fr)(s:St):Tree bg:=
 jg fr.defers (sel (qae ak sp.N) (uI (getAll n fr sp.need) fun vs=>uI (Cb sp.N s vs sp.new []) fun bn=>
  aas sp.N s sp.low fun lr=>U2 P sp.N s bn sp.keep fun kr=>ZK P sp.N s bn sp.new 0 fun nr=>aaD sp.N bn vs fun vals=>
   (fun rows=>sel (qab (aQ bn) (aQ sp.new)&&G6 (jA sp.N bn) (lF sp.next ⟨vals,rows⟩) s (uy rows) (uy rows)) (.leaf ⟨vals,rows⟩) .fail) (aI lr (aI kr nr))) .fail) fun _ _=>.fail
end
theorem fD {α R:Type}{x:Option α}{k:α→Tree R}{r:R}(h:(uI x k).run=some r):∃ a,x=some a∧(k a).run=some r:=by
 cases x with
 |none=>cases h
 |some a=>exact ⟨a,rfl,h⟩
theorem dR {R:Type}{b:Bool}{t:Tree R}{r:R}(h:(sel b t .fail).run=some r):b=true∧t.run=some r:=by
 cases b with
 |true=>exact ⟨rfl,h⟩
 |false=>cases h
section
variable {R:Type} {P:Program} {N:Nat} {bn:List Loc} {s:St}
theorem pV:Keeps N (jA N bn):=by
 intro i h1 h2
 unfold jA
 rw [aG,aG,oH,oH]
 simp [show ¬i<ak by omega,h2]
theorem tJ (hN:ak≤N){j:Nat}{q:Loc}(h:nth bn j=some q):jA N bn (N+j)=some q:=by
 unfold jA
 rw [aG,aG,oH,oH]
 have e:qam (N+j) N=j:=by show N+j-N=j;omega
 simp [show ¬N+j<ak by omega,show ¬N+j<N by omega,h]
theorem Qo {i:Nat}{q:Loc}(h:jA N bn i=some q):ak≤i∧(i<N∨i-N<bn.length):=by
 unfold jA at h
 rw [aG,aG,oH,oH] at h
 simp only [decide_eq_true_eq] at h
 split at h
 ·cases h
 ·split at h
  ·exact ⟨by omega,.inl (by assumption)⟩
  ·rw [jc] at h
   have h:bn[i-N]? = some q:=h
   exact ⟨by omega,.inr (List.getElem?_eq_some_iff.1 h).1⟩
theorem zU {b:Nat}:∀ {l:List Loc} {k j:Nat} {q:Loc},aqF b l k=some (j,q)→k≤j∧nth l (j-k)=some q∧q.blk=b
 |[],k,j,q,h=>by cases h
 |p::l,k,j,q,h=>by
  have h:sel (qab p.blk b) (some (k,p)) (aqF b l (k+1))=some (j,q):=h
  rw [aG] at h
  split at h
  ·rename_i e
   cases h
   exact ⟨qau _,by rw [Nat.sub_self];rfl,qaa e⟩
  ·obtain ⟨h1,h2,h3⟩:=zU h
   refine ⟨by omega,?_,h3⟩
   rw [show j-k=(j-(k+1))+1 by omega]
   exact h2
theorem XW {π:Ren}{f:Fn}{a b:Array Value}(h1:abm f=false)(h2:abw a=true)(h3:abw b=true):RV π (.func f a b) (.func f a b):=by
 obtain ⟨a⟩:=a
 obtain ⟨b⟩:=b
 have ha:a=[]:=by
  cases a with
  |nil=>rfl
  |cons x l=>cases h2
 have hb:b=[]:=by
  cases b with
  |nil=>rfl
  |cons x l=>cases h3
 subst ha hb
 refine .func ?_ .nil .nil
 intro l e
 rw [e] at h1
 cases h1
theorem ZP (hN:ak≤N){v:Value}(h:aX N v=true):RV (jA N bn) v v:=by
 unfold aX at h
 split at h
 ·exact .dU _ _
 ·rename_i a n c
  obtain ⟨b,o,sp⟩:=a
  simp only [qac,qaw] at h
  obtain ⟨h1,h2⟩:=h
  cases sp with
  |some x=>cases h1
  |none=>
   by_cases hb:b<ak
   ·exact .Kt hb
   ·rcases h2 with h2|⟨h2,h3⟩
    ·exact absurd (bF h2) hb
    ·have hk:=pV (N:=N) (bn:=bn) b (by omega) (bF h2)
     rcases h3 with h3|h3
     ·have h3:c=aF:=qaa h3
      subst h3
      have:=RV.slice (π:=jA N bn) (b:=b) (o:=o) (n:=n) (by omega) hk (by show ak≤b;omega)
      simpa using this
     ·exact .EP (by omega) hk (by omega) (bF h3)
 ·exact .nC
 ·rename_i a
  obtain ⟨b,o,sp⟩:=a
  simp only [qac] at h
  obtain ⟨h1,h2⟩:=h
  cases sp with
  |some x=>cases h1
  |none=>
   by_cases hb:b<ak
   ·exact .acT hb
   ·exact .ptr (by omega) (pV b (by omega) (bF h2)) (by omega)
 ·exact .ug
 ·exact .nilFunc
 ·exact .nilIface
 ·exact .opq _
 ·rename_i f a b
  simp only [qac,qao] at h
  obtain ⟨h1,h2,h3⟩:=h
  exact XW h1 h2 h3
 ·cases v <;> first|exact .bool _|exact .int _ _|exact .string _|(exact Bool.noConfusion (show false=true from h))
theorem Q7 (hN:ak≤N):∀ {l:List Value},lq N l=true→RVs (jA N bn) l l
 |[],_=>.nil
 |v::l,h=>by
  obtain ⟨h1,h2⟩:=dn (show sel (aX N v) (lq N l) false=true from h)
  exact .cons (ZP hN h1) (Q7 hN h2)
theorem J9 {v:Value}(h:aX ak v=true){π:Ren}:RV π v v:=by
 unfold aX at h
 split at h
 ·exact .dU _ _
 ·rename_i a n c
  obtain ⟨b,o,sp⟩:=a
  simp only [qac,qaw] at h
  obtain ⟨h1,h2⟩:=h
  cases sp with
  |some x=>cases h1
  |none=>
   have hb:b<ak:=by
    rcases h2 with h2|⟨h2,_⟩ <;> exact bF h2
   exact .Kt hb
 ·exact .nC
 ·rename_i a
  obtain ⟨b,o,sp⟩:=a
  simp only [qac] at h
  obtain ⟨h1,h2⟩:=h
  cases sp with
  |some x=>cases h1
  |none=>exact .acT (bF h2)
 ·exact .ug
 ·exact .nilFunc
 ·exact .nilIface
 ·exact .opq _
 ·rename_i f a b
  simp only [qac,qao] at h
  obtain ⟨h1,h2,h3⟩:=h
  exact XW h1 h2 h3
 ·cases v <;> first|exact .bool _|exact .int _ _|exact .string _|(exact Bool.noConfusion (show false=true from h))
theorem yC {π:Ren}:∀ {l:List Value},lq ak l=true→RVs π l l
 |[],_=>.nil
 |v::l,h=>by
  obtain ⟨h1,h2⟩:=dn (show sel (aX ak v) (lq ak l) false=true from h)
  exact .cons (J9 h1) (yC h2)
theorem ar5 {v:Value}(h:tC v=true){π:Ren}:RV π v v:=by
 unfold tC at h
 split at h
 ·rename_i t w
  refine .iface t ?_
  unfold amv at h
  split at h
  ·exact .agg (yC h)
  ·exact J9 h
 ·exact J9 h
theorem MB {π:Ren}:∀ {l:List Value},acR l=true→RVs π l l
 |[],_=>.nil
 |v::l,h=>by
  obtain ⟨h1,h2⟩:=dn (show sel (tC v) (acR l) false=true from h)
  exact .cons (ar5 h1) (MB h2)
theorem Vr (hN:ak≤N)(hbl:∀ j q,nth bn j=some q→N≤q.blk){v:Value}{k:Value→Tree R}{r:R}(h:(Uy bn N v k).run=some r):∃ v0,(k v0).run=some r∧RV (jA N bn) v0 v:=by
 unfold Uy at h
 split at h
 ·rename_i a n c
  obtain ⟨b,o,sp⟩:=a
  obtain ⟨hs,h⟩:=dR h
  obtain ⟨⟨j,q⟩,hp,h⟩:=fD h
  have hs:sp=none:=by
   cases sp with
   |none=>rfl
   |some x=>cases hs
  subst hs
  obtain ⟨h1,h2,h3⟩:=zU hp
  have h3:q.blk=b:=h3
  have hq:=tJ hN h2
  rw [show N+(j-N)=j by omega] at hq
  have hqb:=hbl _ _ h2
  obtain ⟨qb,qo,qc⟩:=q
  have h3:qb=b:=h3
  subst h3
  have hqb:N≤qb:=hqb
  have h:(sel (qab qc c) (bY (qab qo o) (k (.slice (some ⟨j,0,none⟩) n aF))) (bY (qab qo 0&&(qab qc aF&&ltN c bf)) (k (.slice (some ⟨j,o,none⟩) n c)))).run=some r:=h
  rw [aG] at h
  split at h
  ·rename_i hc
   have hc:qc=c:=qaa hc
   obtain ⟨ho,h9⟩:=aJ h
   have ho:qo=o:=qaa ho
   clear h
   subst hc ho
   refine ⟨_,h9,?_⟩
   have:=RV.slice (π:=jA N bn) (b:=j) (o:=0) (n:=n) (by omega) hq (by show ak≤qb;omega)
   simpa using this
  ·obtain ⟨hg,h9⟩:=aJ h
   clear h
   simp only [qac] at hg
   obtain ⟨g1,g2,g3⟩:=hg
   have g1:qo=0:=qaa g1
   have g2:qc=aF:=qaa g2
   subst g1 g2
   exact ⟨_,h9,.EP (by omega) hq (by omega) (bF g3)⟩
 ·rename_i a
  obtain ⟨b,o,sp⟩:=a
  obtain ⟨hs,h⟩:=dR h
  obtain ⟨⟨j,q⟩,hp,h⟩:=fD h
  have hs:sp=none:=by
   cases sp with
   |none=>rfl
   |some x=>cases hs
  subst hs
  obtain ⟨h1,h2,h3⟩:=zU hp
  have hq:=tJ hN h2
  rw [show N+(j-N)=j by omega] at hq
  have hqb:=hbl _ _ h2
  obtain ⟨qb,qo,qc⟩:=q
  have h3:qb=b:=h3
  subst h3
  have hqb:N≤qb:=hqb
  obtain ⟨hg,h9⟩:=aJ (show (bY (qab qo 0&&qab qc aF) (k (.pointer (some ⟨j,o,none⟩)))).run=some r from h)
  clear h
  simp only [qac] at hg
  have g1:qo=0:=qaa hg.1
  have g2:qc=aF:=qaa hg.2
  subst g1 g2
  exact ⟨_,h9,.ptr (by omega) hq (by omega)⟩
 ·cases h
theorem yD (hN:ak≤N)(hbl:∀ j q,nth bn j=some q→N≤q.blk){v:Value}{k:Value→Tree R}{r:R}(h:(Bv N bn v k).run=some r):∃ v0,(k v0).run=some r∧RV (jA N bn) v0 v:=by
 unfold Bv at h
 have h:(sel (aX N v) (k v).run (Uy bn N v k).run)=some r:=h
 rw [aG] at h
 split at h
 ·rename_i hh
  exact ⟨v,h,ZP hN hh⟩
 ·exact Vr hN hbl h
theorem DV (hN:ak≤N)(hbl:∀ j q,nth bn j=some q→N≤q.blk):∀ {l:List Value} {k:List Value→Tree R} {r:R},(acF N bn l k).run=some r→∃ l0,(k l0).run=some r∧RVs (jA N bn) l0 l
 |[],k,r,h=>⟨[],h,.nil⟩
 |v::l,k,r,h=>by
  have h:(Bv N bn v fun v=>acF N bn l fun vs=>k (v::vs)).run=some r:=h
  obtain ⟨v0,h1,h2⟩:=yD hN hbl h
  obtain ⟨l0,h3,h4⟩:=DV hN hbl h1
  exact ⟨v0::l0,h3,.cons h2 h4⟩
theorem aaz (hN:ak≤N)(hbl:∀ j q,nth bn j=some q→N≤q.blk){v:Value}{k:Value→Tree R}{r:R}(h:(abr N bn v k).run=some r):∃ v0,(k v0).run=some r∧RV (jA N bn) v0 v:=by
 unfold abr at h
 split at h
 ·obtain ⟨l0,h1,h2⟩:=DV hN hbl h
  exact ⟨_,h1,.agg h2⟩
 ·obtain ⟨v0,h1,h2⟩:=yD hN hbl h
  exact ⟨_,h1,.iface _ h2⟩
 ·exact yD hN hbl h
theorem Jk (hN:ak≤N)(hbl:∀ j q,nth bn j=some q→N≤q.blk):∀ {l:List Value} {k:List Value→Tree R} {r:R},(aaD N bn l k).run=some r→∃ l0,(k l0).run=some r∧RVs (jA N bn) l0 l
 |[],k,r,h=>⟨[],h,.nil⟩
 |v::l,k,r,h=>by
  have h:(abr N bn v fun v=>aaD N bn l fun vs=>k (v::vs)).run=some r:=h
  obtain ⟨v0,h1,h2⟩:=aaz hN hbl h
  obtain ⟨l0,h3,h4⟩:=Jk hN hbl h1
  exact ⟨v0::l0,h3,.cons h2 h4⟩
theorem Gg (hN:ak≤N)(hbl:∀ j q,nth bn j=some q→N≤q.blk){spine:Bool}{l:List Value}{k:List Value→Tree R}{r:R}(h:(Bh N bn spine l k).run=some r):∃ l0,(k l0).run=some r∧RVs (jA N bn) l0 l:=by
 unfold Bh at h
 cases spine with
 |true=>exact DV hN hbl h
 |false=>
  obtain ⟨hg,h⟩:=aJ (show (bY (lq N l) (k l)).run=some r from h)
  exact ⟨l,h,Q7 hN hg⟩
def Fh (P:Program)(π:Ren)(next:Nat)(s:St)(p:Nat × Row):Prop:=
 p.1<next∧∃ cs e f,p.2 = .row cs e f∧f<next∧oh P π s p.1 cs e f
theorem aaL {π:Ren}{next:Nat}(hn:N≤next)(hN:ak≤N){i:Nat}{k:Row→Tree R}{r:R}(h:(ah8 N s i k).run=some r):∃ row,(k row).run=some r∧Fh P π next s (i,row):=by
 obtain ⟨⟨cs,e,f⟩,hc,h⟩:=fD h
 obtain ⟨hg,h⟩:=aJ h
 obtain ⟨hg2,h⟩:=dR h
 simp only [qac] at hg2
 have g1:=bF hg2.1
 have g2:f<N:=bF hg2.2
 exact ⟨_,h,by show i<next;omega,cs,e,f,rfl,by omega,.low g1 hc (MB hg)⟩
theorem Js {π:Ren}{next:Nat}(hn:N≤next)(hN:ak≤N):∀ {l:List Nat} {k:List (Nat × Row)→Tree R} {r:R},(aas N s l k).run=some r→∃ rows,(k rows).run=some r∧∀ p∈rows,Fh P π next s p
 |[],k,r,h=>⟨[],h,fun p hp=>by cases hp⟩
 |i::l,k,r,h=>by
  have h:(ah8 N s i fun r=>aas N s l fun rs=>k ((i,r)::rs)).run=some r:=h
  obtain ⟨row,h1,h2⟩:=aaL (P:=P) (π:=π) hn hN h
  obtain ⟨rows,h3,h4⟩:=Js hn hN h1
  refine ⟨(i,row)::rows,h3,fun p hp=>?_⟩
  rcases List.mem_cons.1 hp with rfl|hp
  ·exact h2
  ·exact h4 p hp
theorem KX {next:Nat}(hN:ak≤N)(hbl:∀ j q,nth bn j=some q→N≤q.blk){i:Nat}{q:Loc}(hi:ak≤i)(hlt:i<next)(hq:jA N bn i=some q)(hqb:ak≤q.blk)
  {fam spine:Bool} {k:Row→Tree R} {r:R} (h:(U7 P N s bn i q fam spine k).run=some r):∃ row,(k row).run=some r∧Fh P (jA N bn) next s (i,row):=by
 obtain ⟨⟨cs,e,f⟩,hc,h⟩:=fD h
 have ayu:ak=64:=rfl
 cases fam with
 |true=>
  obtain ⟨sz,hsz,h⟩:=fD (show (uI (size P e) fun sz=>bY (Gv sz q f (aQ cs)) (Bh N bn spine (bJ q.off cs) fun cs=>k (.row cs e i))).run=some r from h)
  obtain ⟨hg,h⟩:=aJ h
  obtain ⟨l0,h1,h2⟩:=Gg hN hbl h
  unfold Gv at hg
  simp only [qac,qao] at hg
  obtain ⟨g1,g2,g3,g4,g5,g6⟩:=hg
  have g1:f≠0:=fun e=>by rw [e] at g1;cases g1
  have g2:1≤sz:=qad g2
  have g3:q.off=(aF-q.cap)*sz:=qaa g3
  have g4:aF-q.cap≤bf:=qad g4
  have g5:q.cap≤aF:=qad g5
  have g6:q.off≤cs.length:=by
   rw [aG,aU] at g6
   split at g6
   ·rename_i h0
    have:q.off=0:=qaa h0
    omega
   ·exact qad g6
  rw [gu] at h2
  have hlen:l0.length=cs.length-q.off:=by have:=h2.length;simp at this;omega
  refine ⟨_,h1,hlt,l0,e,i,rfl,hlt,?_⟩
  obtain ⟨qb,qo,qc⟩:=q
  simp only at g3 g4 g5 g6 h2 hlen hq hqb hc
  have hcap:aF-(aF-qc)=qc:=by omega
  refine oh.fam (j:=qb) (k:=aF-qc) (n:=sz) hi ?_ hqb hc (by show i≠0;omega) g1 hsz (by omega) g4 (by rw [←g3];omega) ?_
  ·rw [hq,←g3,hcap]
  ·rw [←g3,List.take_of_length_le (by simp;omega)]
   exact h2
 |false=>
  obtain ⟨hg,h⟩:=dR (show (sel (qab f 0&&(qab q.off 0&&qab q.cap aF)) (Bh N bn spine cs fun cs=>k (.row cs e 0)) .fail).run=some r from h)
  obtain ⟨l0,h1,h2⟩:=Gg hN hbl h
  simp only [qac] at hg
  have g1:f=0:=qaa hg.1
  have g2:q.off=0:=qaa hg.2.1
  have g3:q.cap=aF:=qaa hg.2.2
  subst g1
  obtain ⟨qb,qo,qc⟩:=q
  simp only at g2 g3 hq hqb hc
  subst g2 g3
  exact ⟨_,h1,hlt,l0,e,0,rfl,by omega,.whole hi hq hqb hc rfl h2⟩
theorem E8 {next:Nat}(hN:ak≤N)(hn:N≤next)(hbl:∀ j q,nth bn j=some q→N≤q.blk):∀ {l:List (Nat × Bool × Bool)} {k:List (Nat × Row)→Tree R} {r:R},(U2 P N s bn l k).run=some r→∃ rows,(k rows).run=some r∧∀ p∈rows,Fh P (jA N bn) next s p
 |[],k,r,h=>⟨[],h,fun p hp=>by cases hp⟩
 |q::l,k,r,h=>by
  obtain ⟨hg,h⟩:=dR (show (sel (qae ak q.1&&ltN q.1 N) (U7 P N s bn q.1 ⟨q.1,0,aF⟩ q.2.1 q.2.2 fun r=>U2 P N s bn l fun rs=>k ((q.1,r)::rs)) .fail).run=some r from h)
  simp only [qac] at hg
  have g1:ak≤q.1:=qad hg.1
  have g2:=bF hg.2
  obtain ⟨row,h1,h2⟩:=KX (next:=next) hN hbl g1 (by omega) (pV q.1 g1 g2) g1 h
  obtain ⟨rows,h3,h4⟩:=E8 hN hn hbl h1
  refine ⟨(q.1,row)::rows,h3,fun p hp=>?_⟩
  rcases List.mem_cons.1 hp with rfl|hp
  ·exact h2
  ·exact h4 p hp
theorem Ja {next:Nat}(hN:ak≤N)(hbl:∀ j q,nth bn j=some q→N≤q.blk)(hnx:N+bn.length≤next):∀ {l:List Fnd} {j:Nat} {k:List (Nat × Row)→Tree R} {r:R},(ZK P N s bn l j k).run=some r→∃ rows,(k rows).run=some r∧∀ p∈rows,Fh P (jA N bn) next s p
 |[],j,k,r,h=>⟨[],h,fun p hp=>by cases hp⟩
 |f::l,j,k,r,h=>by
  obtain ⟨q,hq,h⟩:=fD (show (uI (nth bn j) fun q=>U7 P N s bn (N+j) q f.fam f.spine fun r=>ZK P N s bn l (j+1) fun rs=>k ((N+j,r)::rs)).run=some r from h)
  have hj:j<bn.length:=by rw [jc] at hq;exact (List.getElem?_eq_some_iff.1 hq).1
  have hb:=hbl j q hq
  obtain ⟨row,h1,h2⟩:=KX (next:=next) hN hbl (i:=N+j) (by omega) (by omega) (tJ hN hq) (by omega) h
  obtain ⟨rows,h3,h4⟩:=Ja hN hbl hnx h1
  refine ⟨(N+j,row)::rows,h3,fun p hp=>?_⟩
  rcases List.mem_cons.1 hp with rfl|hp
  ·exact h2
  ·exact h4 p hp
theorem AB:∀ {l:List Fnd} {acc bn:List Loc} {vs:List Value},Cb N s vs l acc=some bn→(∀ q∈acc,N≤q.blk)→∀ q∈bn,N≤q.blk
 |[],acc,bn,vs,h,ha=>by cases h;exact ha
 |f::l,acc,bn,vs,h,ha=>by
  have h:(aj (amQ s vs acc f.src) fun v=>aj (ar7 f.fam v) fun q=>guard (qae N q.blk) (Cb N s vs l (aI acc [q])))=some bn:=h
  obtain ⟨v,_,h⟩:=ah.1 h
  obtain ⟨q,_,h⟩:=ah.1 h
  obtain ⟨hg,h⟩:=au.1 h
  refine AB h fun p hp=>?_
  rw [gW] at hp
  rcases List.mem_append.1 hp with hp|hp
  ·exact ha p hp
  ·obtain rfl:p=q:=by simpa using hp
   exact qad hg
theorem Nj {n:Nat}{fr:Fr}:∀ {l:List Nat} {vs:List Value},getAll n fr l=some vs→∀ {vals:List Value} {π:Ren},RVs π vals vs→∀ p∈axi l vals,∃ v',fr.get n p.1=some v'∧RV π p.2 v'
 |[],vs,h,vals,π,hv,p,hp=>by cases hp
 |t::l,vs,h,vals,π,hv,p,hp=>by
  obtain ⟨v,h1,h⟩:=ah.1 (show (aj (fr.get n t) fun v=>aj (getAll n fr l) fun vs=>some (v::vs))=some vs from h)
  obtain ⟨vs',h2,h⟩:=ah.1 h
  cases h
  cases hv with
  |cons g1 g2=>
   rename_i v0 l0
   have hp:p∈(t,v0)::axi l l0:=hp
   rcases List.mem_cons.1 hp with rfl|hp
   ·exact ⟨v,h1,g1⟩
   ·exact Nj h2 g2 p hp
theorem Ut:∀ {l:List (Nat × Row)} {i:Nat} {r:Row},(aqH l).get i=some r→(i,r)∈l
 |[],i,r,h=>by
  have h:(Hp.s 15 0:Hp Row).get i=some r:=h
  rw [Hp.vX] at h
  cases h
 |p::l,i,r,h=>by
  have h:((aqH l).set p.1 p.2).get i=some r:=h
  rw [Hp.iR] at h
  split at h
  ·rename_i e;cases h;subst e;exact qai
  ·exact qah _ (Ut h)
theorem Emb.of2 {π:Ren}{S:St}{rows:List (Nat × Row)}(hn:ak≤S.next)(hheap:S.heap=aqH rows)(hdom:∀ i q,π i=some q→i<S.next)(hrows:∀ p∈rows,Fh P π S.next s p)
  (ht:G6 π S s (uy rows) (uy rows)=true):Emb P π S s:=by
 have hrow:∀ i r,S.heap.get i=some r→Fh P π S.next s (i,r):=fun i r hg=>by
  rw [hheap] at hg
  exact hrows _ (Ut hg)
 have hmem:∀ i r,S.heap.get i=some r→i∈uy rows:=fun i r hg=>by
  rw [hheap] at hg
  unfold uy
  rw [jV]
  exact List.mem_map.2 ⟨_,Ut hg,rfl⟩
 refine ⟨hn,fun i q hq _=>hdom i q hq,fun i r hg=>(hrow i r hg).1,fun i cs e f hg=>?_,fun i cs e f hc=>?_,fun i es c hg=>?_,fun i q hg=>?_,fun i j a b x y hi hj hab hh hx hy=>?_⟩
 ·obtain ⟨_,cs',e',f',h1,h2,_⟩:=hrow i _ hg
  cases h1
  exact h2
 ·obtain ⟨_,cs',e',f',h1,_,h2⟩:=hrow i _ (aK.1 hc).1
  cases h1
  exact h2
 ·obtain ⟨_,cs',e',f',h1,_⟩:=hrow i _ hg
  cases h1
 ·obtain ⟨_,cs',e',f',h1,_⟩:=hrow i _ hg
  cases h1
 ·obtain ⟨r,hr⟩:=tag_some hi
  obtain ⟨r',hr'⟩:=tag_some hj
  have hid:∀ k z,Ve π k=some z→idB π k=z:=by
   intro k z hk
   unfold Ve at hk
   unfold idB
   rw [aG,oH]
   by_cases hlo:k<ak
   ·rw [if_pos hlo] at hk
    cases hk
    simp [hlo]
   ·rw [if_neg hlo] at hk
    obtain ⟨q,hq,rfl⟩:=Option.map_eq_some_iff.1 hk
    simp [hlo,hq]
  rcases DY ht (hmem i r hr) (hmem j r' hr') with h|h|h
  ·rw [hi,hj] at h
   exact absurd (Option.some.inj h) hab
  ·omega
  ·rw [hid i x hx,hid j y hy] at h
   exact h
theorem Gx {n:Nat}{sp:bM}{fr:Fr}{o:bg}(h:(aam P n sp fr s).run=some o) :
  ∃ π,KG π n (Cc sp.need o) fr∧Emb P π (lF sp.next o) s∧Keeps sp.N π∧sp.N≤(lF sp.next o).next:=by
 obtain ⟨vars,loc,ds⟩:=fr
 unfold aam at h
 cases ds with
 |cons d ds=>cases h
 |nil=>
  obtain ⟨hN,h⟩:=dR (R:=bg) h
  have hN:ak≤sp.N:=qad hN
  obtain ⟨vs,hvs,h⟩:=fD h
  obtain ⟨bn,aey,h⟩:=fD h
  have hbl:∀ j q,nth bn j=some q→sp.N≤q.blk:=fun j q hj=>by
   rw [jc] at hj
   exact AB aey (fun q hq=>by cases hq) q (qar hj)
  have hnx:sp.N≤sp.next:=by unfold bM.next;exact qaz _ _
  obtain ⟨lr,h1,hl1⟩:=Js (P:=P) (π:=jA sp.N bn) (next:=sp.N+bn.length) (qaz _ _) hN h
  obtain ⟨kr,h2,hl2⟩:=E8 (next:=sp.N+bn.length) hN (qaz _ _) hbl h1
  obtain ⟨nr,h3,hl3⟩:=Ja (next:=sp.N+bn.length) hN hbl (qau _) h2
  obtain ⟨vals,h4,hv⟩:=Jk hN hbl h3
  obtain ⟨hg,h5⟩:=dR h4
  simp only [qac] at hg
  have hlen:bn.length=aQ sp.new:=by rw [←aU];exact qaa hg.1
  cases h5
  have alz:sp.next=sp.N+bn.length:=by unfold bM.next;rw [hlen];rfl
  refine ⟨jA sp.N bn,KG.of (Nj hvs hv) rfl,Emb.of2 (rows:=aI lr (aI kr nr)) ?_ rfl (fun i q hq=>?_) (fun p hp=>?_) hg.2,pV,hnx⟩
  ·show ak≤sp.next;omega
  ·show i<sp.next
   have:=Qo hq
   omega
  ·show Fh P (jA sp.N bn) sp.next s p
   rw [alz]
   simp only [gW] at hp
   rcases List.mem_append.1 hp with hp|hp
   ·exact hl1 p hp
   ·rcases List.mem_append.1 hp with hp|hp
    ·exact hl2 p hp
    ·exact hl3 p hp
end
noncomputable section
variable [Lo] {P:Program}
def fV (P:Program)(n:Nat)(sp sp':bM):XK (Ex × bg):=fun ex fr s=>
 match ex with
 |.normal=>(aam P n sp fr s).uV fun o=>some (.normal,o)
 |ex=>(aam P n sp' fr s).uV fun o=>some (ex,o)
theorem Tree.Fv {α β:Type}{k:α→Option β}:∀ {t:Tree α} {r:β},t.uV k=some r→∃ a,t.run=some a∧k a=some r
 |.fail,r,h=>by cases h
 |.leaf a,r,h=>⟨a,rfl,h⟩
 |.test b x y,r,h=>by
  have h:sel b (x.uV k) (y.uV k)=some r:=h
  cases b with
  |true=>exact Tree.Fv (t:=x) h
  |false=>exact Tree.Fv (t:=y) h
structure qW (P:Program) (C:Cfg) (K:KP) (m:Nat) (fn:FuncId) (body:Code) (N:Nat) (R:Nat→bM→bg→Prop) (e:Ex) (spe:bM) (O:bg):Prop where
 step:∀ k sp x,R k sp x→∃ k',k=k'+1∧∃ sp1 q,sp1.N=N∧jC K.plain C (runK K C m).1 (runK K C m).2 (C.vars fn) fn false body (fV P (C.vars fn) sp1 spe) (Cc sp.need x) (lF sp.next x)=some q∧
  ((q.1 = .normal∧R k' sp1 q.2)∨(q.1 ≠ .normal∧q=(e,O)))
def wG (P:Program)(n:Nat)(sp:bM)(G:bg→Tree (Ex × bM × bg)):L8:=fun fr s=>
 sel (qab s.next sp.N) (Tree.rec (motive:=fun _=>Tree (Ex × Fr × St)) .fail (fun o=>(G o).map fun q=>(q.1,Cc q.2.1.need q.2.2,lF q.2.1.next q.2.2)) (fun b _ _ x y=>.test b x y) (aam P n sp fr s)) .fail
theorem VD {n:Nat}{sp:bM}{G:bg→Tree (Ex × bM × bg)}{fr fr':Fr}{s s':St}{e:Ex}(h:(wG P n sp G fr s).run=some (e,fr',s')) :
  s.next=sp.N∧∃ o spe O,(aam P n sp fr s).run=some o∧(G o).run=some (e,spe,O)∧fr'=Cc spe.need O∧s'=lF spe.next O:=by
 unfold wG at h
 obtain ⟨h1,h⟩:=dR h
 refine ⟨qaa h1,?_⟩
 generalize aam P n sp fr s=t at h
 induction t with
 |fail=>cases h
 |leaf o=>
  obtain ⟨⟨e',spe,O⟩,h2,h3⟩:=Tree.map_some (show ((G o).map fun q=>(q.1,Cc q.2.1.need q.2.2,lF q.2.1.next q.2.2)).run=some (e,fr',s') from h)
  cases h3
  exact ⟨o,spe,O,rfl,h2,rfl,rfl⟩
 |test b x y hx hy=>
  cases b with
  |true=>
   obtain ⟨o,spe,O,g⟩:=hx h
   exact ⟨o,spe,O,g⟩
  |false=>
   obtain ⟨o,spe,O,g⟩:=hy h
   exact ⟨o,spe,O,g⟩
theorem aaN {K:KP}(hL:K.L≤100000){C0 C:Cfg}(hA:O9 K C0)(hLo:uG K C0)(hK:dS C0 P)(hb:C.body=C0.body)(hv:C.vars=C0.vars){m:Nat}{fn:FuncId}{c body:Code}(hc:C.body fn=some c)(hp:PartOf c (.loop body))
  {n:Nat} (hn:C0.vars fn=n) {sp:bM} {G:bg→Tree (Ex × bM × bg)} (h:∀ o e spe O,(G o).run=some (e,spe,O)→spe.N=sp.N∧∃ R k,R k sp o∧qW P C0 K m fn body sp.N R e spe O):J5 P C fn body (wG P n sp G):=by
 subst hn
 refine YX (m:=m) hK hb hv hc hp fun fr s e fr' s' hF=>?_
 obtain ⟨hs,o,spe,O,h1,h2,rfl,rfl⟩:=VD hF
 obtain ⟨hse,R,k,hR,hI⟩:=h o e spe O h2
 refine ⟨fun k fr s=>∃ sp1 x,sp1.N=sp.N∧R k sp1 x∧fr=Cc sp1.need x∧s=lF sp1.next x,k,?_,?_⟩
 ·rintro k _ _ ⟨sp0,x,hN0,hx,rfl,rfl⟩
  obtain ⟨k',hk,sp1,q,hN1,hq,hres⟩:=hI.step k sp0 x hx
  refine ⟨k',hk,?_⟩
  have h3:=kK (K:=K.plain) (kS hL C0 hA hLo m).1 (kS hL C0 hA hLo m).2 hL C0 (C0.vars fn) fn false (c0:=body) (fun _ _ _ _ _ _ h=>by cases h) body (.refl body) (fV P (C0.vars fn) sp1 spe) (Cc sp0.need x) (lF sp0.next x) q hq
  obtain ⟨⟨e1,fr1,s1⟩,h4,h5⟩:=ah.1 h3
  refine ⟨e1,fr1,s1,h4,?_⟩
  have h5:fV P (C0.vars fn) sp1 spe e1 fr1 s1=some q:=h5
  unfold fV at h5
  split at h5
  ·obtain ⟨o1,h6,h7⟩:=Tree.Fv h5
   cases h7
   obtain ⟨π,g1,g2,g3,g4⟩:=Gx h6
   rw [hN1] at g3 g4
   rcases hres with ⟨_,hr⟩|⟨hne,_⟩
   ·exact .inl ⟨rfl,π,_,_,g1,g2,hs▸g3,hs▸g4,sp1,o1,hN1,hr,rfl,rfl⟩
   ·exact absurd rfl hne
  ·rename_i hne
   obtain ⟨o1,h6,h7⟩:=Tree.Fv h5
   cases h7
   obtain ⟨π,g1,g2,g3,g4⟩:=Gx h6
   rcases hres with ⟨he,_⟩|⟨hne',he⟩
   ·exact absurd he hne
   ·cases he
    rw [hse] at g3 g4
    exact .inr ⟨hne',rfl,π,g1,g2,hs▸g3,hs▸g4⟩
 ·obtain ⟨π,g1,g2,g3,g4⟩:=Gx h1
  exact ⟨π,_,_,g1,g2,hs▸g3,hs▸g4,sp,o,rfl,hR,rfl,rfl⟩
def Qq (id:Nat)(l:List Code):List Code:=List.rec [] (fun b _ ih=>sel (qab (iG b) id) (b::ih) ih) l
def tN (C:Cfg)(f id:Nat):List Code:=Option.rec [] (fun c=>Qq id (mD c)) (C.body f)
def fH (C:Cfg)(f id:Nat):Code:=jg (tN C f id) .skip fun b _=>b
theorem G7 {id:Nat}{b:Code}:∀ {l:List Code},b∈l→iG b=id→b∈Qq id l
 |a::l,hb,hi=>by
  show b∈sel (qab (iG a) id) (a::Qq id l) (Qq id l)
  rcases List.mem_cons.1 hb with rfl|hb
  ·rw [hi]
   have:qab id id=true:=by simp
   rw [this]
   exact qai
  ·rw [aG]
   split
   ·exact qah _ (G7 hb hi)
   ·exact G7 hb hi
theorem aiW {C:Cfg}{f id:Nat}{c body:Code}(h1:qab (aQ (tN C f id)) 1=true)(hc:C.body f=some c)(hp:PartOf c (.loop body))(hi:iG body=id):body=fH C f id:=by
 have hm:=G7 (abd hp) hi
 have e:tN C f id=Qq id (mD c):=by unfold tN;rw [hc]
 unfold fH
 rw [e] at h1 ⊢
 generalize Qq id (mD c)=l at hm h1
 have h1:aQ l=1:=qaa h1
 rw [aU] at h1
 obtain ⟨a,rfl⟩:=List.length_eq_one_iff.1 h1
 have:body=a:=by simpa using hm
 exact this
theorem mX {K:KP}(hL:K.L≤100000){C0 C:Cfg}(hA:O9 K C0)(hLo:uG K C0)(hK:dS C0 P)(hb:C.body=C0.body)(hv:C.vars=C0.vars){m:Nat}{fn id:Nat}(h1:qab (aQ (tN C0 fn id)) 1=true)
  {n:Nat} (hn:C0.vars fn=n) {sp:bM} {G:bg→Tree (Ex × bM × bg)} (h:∀ o e spe O,(G o).run=some (e,spe,O)→spe.N=sp.N∧∃ R k,R k sp o∧qW P C0 K m fn (fH C0 fn id) sp.N R e spe O) :
  ∀ c body,C.body fn=some c→PartOf c (.loop body)→iG body=id→J5 P C fn body (wG P n sp G):=by
 intro c body hc hp hi
 have e:=aiW h1 (by rw [←hb];exact hc) hp hi
 refine aaN (m:=m) hL hA hLo hK hb hv hc hp hn (sp:=sp) fun o e' spe O hG=>?_
 rw [e]
 exact h o e' spe O hG
end
end Go.Ax
namespace Go.Ax
open Go
noncomputable section
variable {R:Type}
def DJ (kd:IntKind)(v:Value)(k:Nat→Tree R):Tree R:=
 match v with
 |.int j z=>sel (iy kd j) (Int.casesOn (motive:=fun _=>Tree R) z k (fun _=>.fail)) .fail
 |_=>.fail
def aoq (kd:IntKind)(v:Value)(k:Int→Tree R):Tree R:=
 match v with
 |.int j z=>sel (iy kd j) (k z) .fail
 |_=>.fail
def pSl (b c:Nat)(v:Value)(k:Nat→Tree R):Tree R:=
 match v with
 |.slice (some a) n c'=>sel (a.spot.isNone&&(qab a.block b&&(qab a.off 0&&qab c' c))) (k n) .fail
 |_=>.fail
def asP (v:Value)(k:Tree R):Tree R:=
 match v with
 |.slice none n c=>sel (qab n 0&&qab c 0) k .fail
 |_=>.fail
def Cm (i e f:Nat)(p:Nat × Row)(k:List Value→Tree R):Tree R:=
 match p.2 with
 |.row cs e' f'=>sel (qab p.1 i&&(qab e' e&&qab f' f)) (k cs) .fail
 |_=>.fail
def zn {α:Type}(l:List α)(k:Tree R):Tree R:=jg l k fun _ _=>.fail
def bZ {α:Type}(l:List α)(k:α→List α→Tree R):Tree R:=jg l .fail k
theorem dG {kd:IntKind}{v:Value}{k:Nat→Tree R}{r:R}(h:(DJ kd v k).run=some r):∃ n:Nat,v = .int kd (qaf n)∧(k n).run=some r:=by
 unfold DJ at h
 split at h
 ·rename_i j z
  obtain ⟨h1,h9⟩:=dR h
  clear h
  have h1:=lQ h1
  subst h1
  cases z with
  |ofNat n=>exact ⟨n,rfl,h9⟩
  |negSucc n=>cases h9
 ·cases h
theorem AQ {kd:IntKind}{v:Value}{k:Int→Tree R}{r:R}(h:(aoq kd v k).run=some r):∃ n:Int,v = .int kd n∧(k n).run=some r:=by
 unfold aoq at h
 split at h
 ·rename_i j z
  obtain ⟨h1,h9⟩:=dR h
  clear h
  have h1:=lQ h1
  subst h1
  exact ⟨z,rfl,h9⟩
 ·cases h
theorem jQ {b c:Nat}{v:Value}{k:Nat→Tree R}{r:R}(h:(pSl b c v k).run=some r):∃ n:Nat,v = .slice (some ⟨b,0,none⟩) n c∧(k n).run=some r:=by
 unfold pSl at h
 split at h
 ·rename_i a n c'
  obtain ⟨b',o,sp⟩:=a
  obtain ⟨h1,h9⟩:=dR h
  clear h
  simp only [qac] at h1
  obtain ⟨h1,h2,h3,h4⟩:=h1
  have h2:b'=b:=qaa h2
  have h3:o=0:=qaa h3
  have h4:c'=c:=qaa h4
  subst h2 h3 h4
  cases sp with
  |some x=>cases h1
  |none=>exact ⟨n,rfl,h9⟩
 ·cases h
theorem Nk {v:Value}{k:Tree R}{r:R}(h:(asP v k).run=some r):v = .slice none 0 0∧k.run=some r:=by
 unfold asP at h
 split at h
 ·rename_i n c
  obtain ⟨h1,h9⟩:=dR h
  clear h
  simp only [qac] at h1
  have h2:n=0:=qaa h1.1
  have h3:c=0:=qaa h1.2
  subst h2 h3
  exact ⟨rfl,h9⟩
 ·cases h
theorem dA {i e f:Nat}{p:Nat × Row}{k:List Value→Tree R}{r:R}(h:(Cm i e f p k).run=some r):∃ cs,p=(i,.row cs e f)∧(k cs).run=some r:=by
 obtain ⟨j,row⟩:=p
 unfold Cm at h
 split at h
 ·rename_i cs e' f' hrow
  obtain ⟨h1,h9⟩:=dR h
  clear h
  simp only [qac] at h1
  have h2:j=i:=qaa h1.1
  have h3:e'=e:=qaa h1.2.1
  have h4:f'=f:=qaa h1.2.2
  have hrow:row=_:=hrow
  subst h2 h3 h4 hrow
  exact ⟨cs,rfl,h9⟩
 ·cases h
theorem bV {α:Type}{l:List α}{k:Tree R}{r:R}(h:(zn l k).run=some r):l=[]∧k.run=some r:=by
 cases l with
 |nil=>exact ⟨rfl,h⟩
 |cons a l=>cases h
theorem aB {α:Type}{l:List α}{k:α→List α→Tree R}{r:R}(h:(bZ l k).run=some r):∃ a t,l=a::t∧(k a t).run=some r:=by
 cases l with
 |nil=>cases h
 |cons a l=>exact ⟨a,l,rfl,h⟩
end
end Go.Ax
