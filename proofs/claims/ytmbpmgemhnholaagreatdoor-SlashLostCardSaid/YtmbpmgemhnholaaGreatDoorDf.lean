import Derived.Test.YtmbpmgemhnholaaGreatDoorDe
import Derived.Laws.Externs
import Derived.Shelf.Spec.BitsCarry
namespace Go.Ax
open Go

theorem ev_defers (n : Nat) (vars : Tr Value) (loc : Loc') (ds ds' : Dfs) : Fr.ev n (F vars loc ds) = Fr.ev n (F vars loc ds') := rfl

theorem fr_eta (fr : Fr) {ds : Dfs} (h : fr.defers = ds) : F fr.vars fr.loc ds = fr := by subst h; rfl

/-- what follows is rightly made -/
def NextOk (n : Nat) (dst : Option Tmp) (ks : List Nat) (r : JK) (K : JE → OpsK) : Prop :=
  ∀ e vars loc ds s, keys loc = jPush n dst ks → r e vars loc ds s = K e (F vars loc ds) s

theorem put_next {n : Nat} {dst : Option Tmp} {ks : List Nat} {put : JP} (hp : jPut n dst = .mk put) {r : JK} {K : JE → OpsK} (hr : NextOk n dst ks r K) (e : JE) (v : Value) (vars : Tr Value) (loc : Loc') (ds : Dfs) (s : St) (hk : keys loc = ks) :
    put r e v vars loc ds s = K e (Fr.put n (F vars loc ds) dst v) s := by
  rw [jPut_ok hp, hr e _ _ ds s (by rw [put_keys, hk])]
  rw [show F (Fr.put n (F vars loc ds) dst v).vars (Fr.put n (F vars loc ds) dst v).loc ds = Fr.put n (F vars loc ds) dst v from fr_eta _ (put_defers n vars loc ds dst v)]

theorem jGen_ok {C : Cfg} {rd : Bool} {n : Nat} {ks : List Nat} {o : Oper} {r : JK} {K : JE → OpsK} (hr : NextOk n o.dst ks r K) (e : JE) (vars : Tr Value) (loc : Loc') (ds : Dfs) (s : St) (hk : keys loc = ks) :
    jGen C rd n o r e vars loc ds s = obind (execOp C (Fr.ev n (F vars loc ds)) s o.op) (afterOp e.call e.yield rd n (F vars loc ds) o.dst (K e)) := by
  apply obind_congr
  intro q
  have hg : ∀ ds' v s', (fun (fr : Fr) s => r e fr.vars fr.loc fr.defers s) (Fr.put n (F vars loc ds') o.dst v) s' = K e (Fr.put n (F vars loc ds') o.dst v) s' := by
    intro ds' v s'
    have h := hr e (Fr.put n (F vars loc ds') o.dst v).vars (Fr.put n (F vars loc ds') o.dst v).loc (Fr.put n (F vars loc ds') o.dst v).defers s' (by rw [put_keys, hk])
    exact h
  cases q with
  | val v s => exact hg ds v s
  | call f args s => exact obind_congr _ fun q => hg ds q.1 q.2
  | yield l args s => exact obind_congr _ fun q => hg ds q.1 q.2
  | defer f args s =>
    show sel rd none _ = sel rd none _
    cases rd with
    | true => rfl
    | false => exact hg _ unit s

theorem appL_nil {α : Type} (l : List α) : appL l [] = l := by rw [appL_eq, List.append_nil]

theorem jOp_ok {C : Cfg} {rd : Bool} {n : Nat} {ks : List Nat} {o : Oper} {put : JP} (hp : jPut n o.dst = .mk put) {r : JK} {K : JE → OpsK} (hr : NextOk n o.dst ks r K) {f : JK} (h : jOp C rd n ks o put r = .mk f)
    (e : JE) (vars : Tr Value) (loc : Loc') (ds : Dfs) (s : St) (hk : keys loc = ks) :
    f e vars loc ds s = obind (execOp C (Fr.ev n (F vars loc ds)) s o.op) (afterOp e.call e.yield rd n (F vars loc ds) o.dst (K e)) := by
  have gen : Box.mk (jGen C rd n o r) = .mk f → f e vars loc ds s = obind (execOp C (Fr.ev n (F vars loc ds)) s o.op) (afterOp e.call e.yield rd n (F vars loc ds) o.dst (K e)) := by
    intro h; have h := mk_inj h; subst h; exact jGen_ok hr e vars loc ds s hk
  have val : Box.rec (motive := fun _ => Box JK) (fun v => .mk fun e vars loc ds s => obind (v vars loc s) fun x => put r e x vars loc ds s) (.mk (jGen C rd n o r)) (jVal C n ks o.op) = .mk f → f e vars loc ds s = obind (execOp C (Fr.ev n (F vars loc ds)) s o.op) (afterOp e.call e.yield rd n (F vars loc ds) o.dst (K e)) := by
    intro h
    cases hv : jVal C n ks o.op with
    | bad => rw [hv] at h; exact gen h
    | mk v =>
      rw [hv] at h
      have h := mk_inj h; subst h
      rw [← jVal_ok hv vars loc ds s hk]
      show (obind (v vars loc s) fun x => put r e x vars loc ds s) = obind (obind (v vars loc s) fun v => ret v s) _
      rw [obind_assoc]
      apply obind_congr; intro x
      exact put_next hp hr e x vars loc ds s hk
  unfold jOp at h
  cases ho : o.op <;> rw [ho] at h <;> rw [← ho] <;> try exact val (by rw [ho]; exact h)
  all_goals dsimp only at h
  case alloc t =>
    cases hz : zero C.P t with
    | none => rw [hz] at h; exact gen h
    | some z =>
      rw [hz] at h
      have h := mk_inj h; subst h
      rw [ho]
      show (forceN s.next fun b => put r e (ptr b 0) vars loc ds { heap := s.heap.set b (.row z t 0), fams := s.fams, next := Nat.succ b }) = obind (obind (zero C.P t) fun z => s.new (.row z t 0) fun id s => ret (ptr id 0) s) _
      rw [hz, forceN_eq]
      exact put_next hp hr e _ vars loc ds _ hk
  case box t x =>
    obtain ⟨g, h1, h⟩ := bbind_mk.1 h
    have h := mk_inj h; subst h
    rw [ho]
    show (obind (g vars loc) fun v => forceN s.next fun b => put r e (ptr b 0) vars loc ds { heap := s.heap.set b (.row (cellsOf v) t 0), fams := s.fams, next := Nat.succ b }) = obind (obind (Fr.ev n (F vars loc ds) x) fun v => s.new (.row (cellsOf v) t 0) fun id s => ret (ptr id 0) s) _
    rw [jGet_ok h1 vars loc ds hk, obind_assoc]
    apply obind_congr; intro v
    rw [forceN_eq]
    exact put_next hp hr e _ vars loc ds _ hk
  case store t a x =>
    obtain ⟨ga, h1, h⟩ := bbind_mk.1 h
    obtain ⟨gx, h2, h⟩ := bbind_mk.1 h
    cases hz : size C.P t with
    | none => rw [hz] at h; exact gen h
    | some m =>
      rw [hz] at h
      have h := mk_inj h; subst h
      rw [ho]
      show (obind (ga vars loc) fun v => ptrK v fun a => obind (gx vars loc) fun v => guard (Nat.beq (lenL (cellsOf v)) m) (obind (storeCells s a.block a.off (cellsOf v)) fun s => put r e unit vars loc ds s)) = obind (oStore C (Fr.ev n (F vars loc ds)) s t a x) _
      show _ = obind (obind (Fr.ev n (F vars loc ds) a) fun v => _) _
      rw [jGet_ok h1 vars loc ds hk, jGet_ok h2 vars loc ds hk, obind_assoc]
      apply obind_congr; intro v
      cases v <;> try rfl
      rename_i p
      cases p with
      | none => rfl
      | some p =>
        show (obind (Fr.ev n (F vars loc ds) x) fun v => guard (Nat.beq (lenL (cellsOf v)) m) (obind (storeCells s p.block p.off (cellsOf v)) fun s => put r e unit vars loc ds s)) = obind (obind (Fr.ev n (F vars loc ds) x) fun v => obind (obind (size C.P t) fun n => guard (Nat.beq (lenL (cellsOf v)) n) (storeCells s p.block p.off (cellsOf v))) fun s => ret unit s) _
        rw [obind_assoc]
        apply obind_congr; intro v
        rw [obind_assoc, hz]
        show _ = obind (guard _ _) _
        rw [guard_obind]
        cases Nat.beq (lenL (cellsOf v)) m with
        | false => rfl
        | true =>
          apply obind_congr; intro s'
          exact put_next hp hr e unit vars loc ds s' hk
  case call c =>
    cases hc : c.callee with
    | builtin b => simp only [hc] at h; exact gen h
    | invoke a b => simp only [hc] at h; exact gen h
    | value x =>
      simp only [hc] at h
      cases x with
      | tmp t => exact gen h
      | const t => exact gen h
      | global t => exact gen h
      | func g =>
        have h : Option.casesOn (C.ext g) (sel (C.body g).isSome (bbind (jGets n ks c.args.toList) fun gs => .mk fun e vars loc ds s => obind (gs vars loc) fun args => obind (e.call g args s) fun q => put r e q.1 vars loc ds q.2) (.mk (jGen C rd n o r))) (fun _ => .mk (jGen C rd n o r)) = Box.mk f := h
        cases he : C.ext g with
        | some x => rw [he] at h; exact gen h
        | none =>
          rw [he] at h
          have h : sel (C.body g).isSome (bbind (jGets n ks c.args.toList) fun gs => .mk fun e vars loc ds s => obind (gs vars loc) fun args => obind (e.call g args s) fun q => put r e q.1 vars loc ds q.2) (.mk (jGen C rd n o r)) = Box.mk f := h
          cases hb : (C.body g).isSome with
          | false => rw [hb] at h; exact gen h
          | true =>
            rw [hb] at h
            obtain ⟨gs, h1, h⟩ := bbind_mk.1 h
            have h := mk_inj h; subst h
            rw [ho]
            show (obind (gs vars loc) fun args => obind (e.call g args s) fun q => put r e q.1 vars loc ds q.2) = obind (oCall C (Fr.ev n (F vars loc ds)) s c) _
            unfold oCall
            rw [hc, jGets_ok h1 vars loc ds hk, obind_assoc]
            apply obind_congr; intro args
            show _ = obind (callAny C s g (appL [] (appL args []))) _
            rw [appL_nil]
            show _ = obind (Option.casesOn (C.ext g) (guard (C.body g).isSome (some (.call g args s))) fun e => obind (callExt C s e args) toRes) _
            rw [he, hb]
            show _ = obind (e.call g args s) fun q => K e (Fr.put n (F vars loc ds) o.dst q.1) q.2
            apply obind_congr; intro q
            exact put_next hp hr e q.1 vars loc ds q.2 hk

theorem jGuard_ok {n : Nat} {all : List Oper} {ks : List Nat} {dst : Option Tmp} {g : Option (Nat × Bool)} {put : JP} (hp : jPut n dst = .mk put) {f r : JK} {K : JE → OpsK} (hr : NextOk n dst ks r K)
    (e : JE) (vars : Tr Value) (loc : Loc') (ds : Dfs) (s : St) (hk : keys loc = ks) :
    jGuard n all g put f r e vars loc ds s = obind (guardOk n all (F vars loc ds) g) fun b => sel b (f e vars loc ds s) (K e (Fr.put n (F vars loc ds) dst unit) s) := by
  cases g with
  | none => rfl
  | some g =>
    apply obind_congr; intro b
    rw [put_next hp hr e unit vars loc ds s hk]

theorem jOne_ok {C : Cfg} {rd : Bool} {n : Nat} {all : List Oper} {ks : List Nat} {o : Oper} {r : JK} {K : JE → OpsK} (hr : NextOk n o.dst ks r K) {f : JK} (h : jOne C rd n all ks o r = .mk f)
    (e : JE) (vars : Tr Value) (loc : Loc') (ds : Dfs) (s : St) (hk : keys loc = ks) :
    f e vars loc ds s = oneOp C e.call e.yield rd n all o (K e) (F vars loc ds) s := by
  obtain ⟨put, hp, h⟩ := bbind_mk.1 h
  obtain ⟨f', h1, h⟩ := bbind_mk.1 h
  have h := mk_inj h; subst h
  rw [jGuard_ok hp hr e vars loc ds s hk]
  apply obind_congr; intro b
  rw [jOp_ok hp hr h1 e vars loc ds s hk]

theorem jOps_ok {C : Cfg} {rd : Bool} {n : Nat} {all : List Oper} : ∀ {ops : List Oper} {ks : List Nat} {f : JK}, jOps C rd n all ops ks = .mk f →
    ∀ e vars loc ds s, keys loc = ks → f e vars loc ds s = execOps C e.call e.yield rd n all ops (F vars loc ds) s := by
  intro ops
  induction ops with
  | nil => intro ks f h e vars loc ds s hk; have h := mk_inj h; subst h; rfl
  | cons o ops ih =>
    intro ks f h e vars loc ds s hk
    obtain ⟨r, h1, h⟩ := bbind_mk.1 (show bbind (jOps C rd n all ops (jPush n o.dst ks)) (fun r => jOne C rd n all ks o r) = .mk f from h)
    exact jOne_ok (K := fun e => execOps C e.call e.yield rd n all ops) (fun e vars loc ds s hk => ih h1 e vars loc ds s hk) h e vars loc ds s hk

/-! regions whose order is drawn -/
abbrev pureK {β : Type} (k : Value → Option β) (r : Res) : Option β :=
  match r with
  | .val v _ => k v
  | _ => none

theorem jVal_or {C : Cfg} {n : Nat} {ks : List Nat} {o : Op} {v : JV} (h : bor (jVal C n ks o) (.mk (jValGen C n o)) = .mk v) (vars : Tr Value) (loc : Loc') (ds : Dfs) (s : St) (hk : keys loc = ks) {β : Type} (k : Value → Option β) :
    obind (v vars loc s) k = obind (execOp C (Fr.ev n (F vars loc ds)) s o) (pureK k) := by
  cases hv : jVal C n ks o with
  | mk w =>
    rw [hv] at h
    have h := mk_inj h; subst h
    rw [← jVal_ok hv vars loc ds s hk]
    cases w vars loc s <;> rfl
  | bad =>
    rw [hv] at h
    have h := mk_inj h; subst h
    show obind (obind (execOp C (Fr.ev n (F vars loc ds)) s o) _) k = _
    rw [obind_assoc]
    apply obind_congr; intro r
    cases r <;> rfl

def NextD (n : Nat) (dst : Option Tmp) (ks : List Nat) (r : JK) (K : JE → DrawK) : Prop :=
  ∀ e vars loc ds s, keys loc = jPush n dst ks → r e vars loc ds s = K e e.cl e.pend (F vars loc ds) s

/-- what follows asks for nothing but the calls, the base and what is pending -/
def Same (K : JE → DrawK) : Prop := (∀ e l, K (withPend e l) = K e) ∧ ∀ e b, K (withCl e b) = K e

theorem afterOp_congr {call : CallT} {yield : YieldT} {rd : Bool} {n : Nat} {ks : List Nat} {dst : Option Tmp} {k l : OpsK} (h : ∀ vars loc ds s, keys loc = jPush n dst ks → k (F vars loc ds) s = l (F vars loc ds) s)
    (vars : Tr Value) (loc : Loc') (ds : Dfs) (hk : keys loc = ks) (q : Res) : afterOp call yield rd n (F vars loc ds) dst k q = afterOp call yield rd n (F vars loc ds) dst l q := by
  have hg : ∀ ds' v s', k (Fr.put n (F vars loc ds') dst v) s' = l (Fr.put n (F vars loc ds') dst v) s' := by
    intro ds' v s'
    exact h (Fr.put n (F vars loc ds') dst v).vars (Fr.put n (F vars loc ds') dst v).loc (Fr.put n (F vars loc ds') dst v).defers s' (by rw [put_keys, hk])
  cases q with
  | val v s => exact hg ds v s
  | call f args s => exact obind_congr _ fun q => hg ds q.1 q.2
  | yield l args s => exact obind_congr _ fun q => hg ds q.1 q.2
  | defer f args s =>
    show sel rd none _ = sel rd none _
    cases rd with
    | true => rfl
    | false => exact hg _ unit s

theorem noQuiet {C : Cfg} {n : Nat} {fr : Fr} {s : St} {o : Op} {q : Res} (hb : (quietOp o && mayQuiet C o) = false) (hx : execOp C (Fr.ev n fr) s o = some q) : (quietOp o && quietCall C q) = false := by
  cases hq : quietOp o with
  | false => rfl
  | true =>
    rw [hq, Bool.true_and] at hb
    rw [Bool.true_and]
    unfold quietOp at hq
    split at hq
    · rename_i c
      split at hq
      · rename_i x hcx
        unfold mayQuiet at hb
        simp only [hcx] at hb
        cases x with
        | func f =>
          have hb : Option.casesOn (C.insert f) false (fun t => match t with | .pure _ => true | _ => false) = false := hb
          change oCall C (Fr.ev n fr) s c = some q at hx
          unfold oCall at hx
          obtain ⟨xs, _, hx⟩ := obind_some.1 hx
          rw [hcx] at hx
          have hx : callAny C s f (appL [] (appL xs [])) = some q := hx
          unfold callAny at hx
          cases he : C.ext f with
          | none =>
            rw [he] at hx
            obtain ⟨_, hx⟩ := guard_some.1 hx
            cases hx
            show Option.casesOn (C.insert f) false (fun t => conQuiet t _) = false
            cases hi : C.insert f with
            | none => rfl
            | some t =>
              rw [hi] at hb
              cases t <;> first | rfl | (exact Bool.noConfusion hb)
          | some e =>
            rw [he] at hx
            obtain ⟨_, _, hx⟩ := obind_some.1 hx
            cases hx
            rfl
        | _ => exact Bool.noConfusion hb
      · cases hq
    · cases hq

theorem jDraw1_ok {C : Cfg} {rd : Bool} {n : Nat} {ks : List Nat} {a : Info} {rest : List Info} {all : List Oper} {put : JP} (hp : jPut n a.op.dst = .mk put) {r : JK} {K : JE → DrawK} (hs : Same K) (hr : NextD n a.op.dst ks r K) {f : JK} (h : jDraw1 C rd n ks a rest put r = .mk f)
    (e : JE) (vars : Tr Value) (loc : Loc') (ds : Dfs) (s : St) (hk : keys loc = ks) :
    (obind (guardOk n all (F vars loc ds) a.op.guard) fun b => sel b (f e vars loc ds s) (K e e.cl e.pend (Fr.put n (F vars loc ds) a.op.dst unit) s)) = drawOne C e.call e.yield rd n all e.base a rest (K e) e.cl e.pend (F vars loc ds) s := by
  have hr' : NextOk n a.op.dst ks r (fun e => K e e.cl e.pend) := hr
  unfold jDraw1 at h
  unfold drawOne
  apply obind_congr; intro b
  cases b with
  | false => rfl
  | true =>
    show f e vars loc ds s = ncase a.cls _ _
    generalize a.cls = c at h ⊢
    match c with
    | 0 =>
      obtain ⟨v, h1, h⟩ := bbind_mk.1 h
      have h := mk_inj h; subst h
      show (obind (v vars loc s) fun x => put r e x vars loc ds s) = _
      rw [jVal_or h1 vars loc ds s hk]
      apply obind_congr; intro q
      cases q <;> try rfl
      exact put_next hp hr' e _ vars loc ds s hk
    | 1 =>
      obtain ⟨v, h1, h⟩ := bbind_mk.1 h
      have h := mk_inj h; subst h
      show (obind (v vars loc s) fun x => guard (quietV s x) (put r (withPend e ({ i := a.i, op := a.op.op, fr := { vars := vars, loc := loc, defers := ds }, v := x } :: e.pend)) x vars loc ds s)) = _
      rw [jVal_or h1 vars loc ds s hk]
      apply obind_congr; intro q
      cases q <;> try rfl
      rename_i x s'
      show guard (quietV s x) _ = guard (quietV s x) _
      rw [put_next hp hr' _ x vars loc ds s hk, hs.1]
      rfl
    | 2 =>
      have h := mk_inj h; subst h
      apply obind_congr; intro q
      rw [forceN_eq, put_next hp hr' (withCl e false) _ vars loc ds _ hk, hs.2]
      rfl
    | k + 3 =>
      show _ = obind (execOp C (Fr.ev n (F vars loc ds)) s a.op.op) (drawLoud C e.call e.yield rd n e.base a rest (K e) e.cl e.pend (F vars loc ds))
      cases hb : (quietOp a.op.op && mayQuiet C a.op.op) with
      | true =>
        have h : (sel (quietOp a.op.op && mayQuiet C a.op.op) (.mk (jLoud C rd n a rest r)) (jOp C rd n ks a.op put fun e vars loc ds s => guard (lookAll C n s a.mask e.pend && freeIds s e.base rest) (r (withCl e false) vars loc ds s)) : Box JK) = .mk f := h
        rw [hb, sel_true] at h
        have h := mk_inj h; subst h
        apply obind_congr; intro q
        have hcl : ∀ cl (g : St → Bool), ∀ vars loc ds s, keys loc = jPush n a.op.dst ks → guard (g s) (r (withCl (withPend e e.pend) cl) vars loc ds s) = guard (g s) (K e cl e.pend (F vars loc ds) s) := by
          intro cl g vars loc ds s hk
          rw [hr (withCl (withPend e e.pend) cl) vars loc ds s hk, hs.2, hs.1]
          rfl
        unfold drawLoud
        rw [afterOp_congr (k := fun fr s => guard (freeIds s e.base rest) (r (withCl (withPend e e.pend) true) fr.vars fr.loc fr.defers s)) (l := fun fr s => guard (freeIds s e.base rest) (K e true e.pend fr s)) (hcl true fun s => freeIds s e.base rest) vars loc ds hk q,
          afterOp_congr (k := fun fr s => guard (lookAll C n s a.mask e.pend && freeIds s e.base rest) (r (withCl (withPend e e.pend) false) fr.vars fr.loc fr.defers s)) (l := fun fr s => guard (lookAll C n s a.mask e.pend && freeIds s e.base rest) (K e false e.pend fr s)) (hcl false fun s => lookAll C n s a.mask e.pend && freeIds s e.base rest) vars loc ds hk q]
      | false =>
        have h : (sel (quietOp a.op.op && mayQuiet C a.op.op) (.mk (jLoud C rd n a rest r)) (jOp C rd n ks a.op put fun e vars loc ds s => guard (lookAll C n s a.mask e.pend && freeIds s e.base rest) (r (withCl e false) vars loc ds s)) : Box JK) = .mk f := h
        rw [hb, sel_false] at h
        rw [jOp_ok hp (K := fun e fr s => guard (lookAll C n s a.mask e.pend && freeIds s e.base rest) (K e false e.pend fr s)) (fun e vars loc ds s hk => by
          show guard _ _ = guard _ _
          rw [hr (withCl e false) vars loc ds s hk, hs.2]
          rfl) h e vars loc ds s hk]
        cases hx : execOp C (Fr.ev n (F vars loc ds)) s a.op.op with
        | none => rfl
        | some q =>
          rw [show ∀ (f : Res → Option (Fr × St)), obind (some q) f = f q from fun _ => rfl, show ∀ (f : Res → Option (Fr × St)), obind (some q) f = f q from fun _ => rfl]
          unfold drawLoud
          rw [noQuiet hb hx, Bool.and_false, sel_false]

theorem jDraw_ok {C : Cfg} {rd : Bool} {n : Nat} {all : List Oper} : ∀ {l : List Info} {ks : List Nat} {f : JK}, jDraw C rd n all l ks = .mk f →
    ∀ e vars loc ds s, keys loc = ks → f e vars loc ds s = drawL C e.call e.yield rd n all e.base l e.cl e.pend (F vars loc ds) s := by
  intro l
  induction l with
  | nil => intro ks f h e vars loc ds s hk; have h := mk_inj h; subst h; rfl
  | cons a rest ih =>
    intro ks f h e vars loc ds s hk
    obtain ⟨r, h1, h⟩ := bbind_mk.1 (show bbind (jDraw C rd n all rest (jPush n a.op.dst ks)) (fun r => jDrawOne C rd n all ks a rest r) = .mk f from h)
    obtain ⟨put, hp, h⟩ := bbind_mk.1 h
    obtain ⟨f', h2, h⟩ := bbind_mk.1 h
    have h := mk_inj h; subst h
    have hr : NextD n a.op.dst ks r (fun e => drawL C e.call e.yield rd n all e.base rest) := fun e vars loc ds s hk => ih h1 e vars loc ds s hk
    rw [jGuard_ok hp (K := fun e => drawL C e.call e.yield rd n all e.base rest e.cl e.pend) hr e vars loc ds s hk]
    exact jDraw1_ok hp ⟨fun e l => rfl, fun e b => rfl⟩ hr h2 e vars loc ds s hk
end Go.Ax

namespace Go.Ax
open Go

theorem jRegion_ok {C : Cfg} {n : Nat} {fn : FuncId} {rd : Bool} {id : Nat} {ops : List Oper} {draw : Bool} {f : JRun} (h : jRegion C n fn rd id ops draw = .mk f) (call : CallT) (yield : YieldT) (fr : Fr) (s : St) :
    f call yield fr s = obind (sel draw (execDraw C call yield rd n ops (C.order fn id) fr.fresh s) (execOps C call yield rd n ops ops fr.fresh s)) fun r => some (.normal, r) := by
  cases draw with
  | false =>
    obtain ⟨r, h1, h⟩ := bbind_mk.1 (show bbind (jOps C rd n ops ops []) (fun r => .mk fun call yield fr s => obind (r { call := call, yield := yield, base := 0, pend := [], cl := true } fr.vars [] fr.defers s) toOut) = Box.mk f from h)
    have h := mk_inj h; subst h
    show obind (r _ fr.vars [] fr.defers s) toOut = obind (execOps C call yield rd n ops ops fr.fresh s) _
    rw [jOps_ok h1 _ _ _ _ _ rfl]; rfl
  | true =>
    have h : Option.casesOn (planOf ops (C.order fn id)) .bad (fun l => bbind (jDraw C rd n ops l []) fun r => .mk fun call yield fr s =>
      obind (r { call := call, yield := yield, base := s.next, pend := [], cl := true } fr.vars [] fr.defers { heap := s.heap, fams := s.fams, next := Nat.add s.next (lenL ops) }) toOut) = Box.mk f := h
    show _ = obind (obind (planOf ops (C.order fn id)) fun l => drawL C call yield rd n ops s.next l true [] fr.fresh { heap := s.heap, fams := s.fams, next := Nat.add s.next (lenL ops) }) _
    cases hp : planOf ops (C.order fn id) with
    | none => rw [hp] at h; cases h
    | some l =>
      rw [hp] at h
      obtain ⟨r, h1, h⟩ := bbind_mk.1 h
      have h := mk_inj h; subst h
      show obind (r _ fr.vars [] fr.defers _) toOut = obind (drawL C call yield rd n ops s.next l true [] fr.fresh _) _
      rw [jDraw_ok h1 _ _ _ _ _ rfl]; rfl

theorem jCond_ok {n : Nat} {x : Operand} {g : Fr → Option Value} (h : jCond n x = .mk g) (fr : Fr) : g fr = fr.ev n x := by
  cases x with
  | tmp t =>
    have h : sel (ltN t n) (bbind (jGetP (path t)) fun g => .mk fun fr => g fr.vars) (.mk fun fr => fr.ev n (.tmp t)) = Box.mk g := h
    cases hb : ltN t n with
    | true =>
      rw [hb] at h
      obtain ⟨g', h1, h⟩ := bbind_mk.1 (show bbind (jGetP (path t)) (fun g => .mk fun (fr : Fr) => g fr.vars) = Box.mk g from h)
      have h := mk_inj h; subst h
      show g' fr.vars = sel (ltN t n) (fr.vars.get t) (findLoc t fr.loc)
      rw [hb, jGetP_ok _ g' h1]; rfl
    | false => rw [hb] at h; have h := mk_inj h; subst h; rfl
  | const v => have h := mk_inj h; subst h; rfl
  | global v => have h := mk_inj h; subst h; rfl
  | func v => have h := mk_inj h; subst h; rfl

theorem boolK_cond (v : Value) (a b : Run) (fr : Fr) (s : St) : boolK v (a fr s) (b fr s) = condRun a b fr s v := by cases v <;> rfl

theorem jCode_ok {C : Cfg} {n : Nat} {fn : FuncId} {rd : Bool} : ∀ (c : Code) {f : JRun}, jCode C n fn rd c = .mk f → ∀ call yield, f call yield = exec C call yield n fn rd c := by
  intro c
  induction c with
  | skip => intro f h call yield; have h := mk_inj h; subst h; rfl
  | region id ops draw =>
    intro f h call yield
    funext fr s
    exact jRegion_ok h call yield fr s
  | seq a b iha ihb =>
    intro f h call yield
    obtain ⟨ra, h1, h⟩ := bbind_mk.1 (show bbind (jCode C n fn rd a) (fun ra => bbind (jCode C n fn rd b) fun rb => .mk fun call yield fr s => obind (ra call yield fr s) (iterNext (rb call yield))) = Box.mk f from h)
    obtain ⟨rb, h2, h⟩ := bbind_mk.1 h
    have h := mk_inj h; subst h
    funext fr s
    show obind (ra call yield fr s) (iterNext (rb call yield)) = obind (exec C call yield n fn rd a fr s) (iterNext (exec C call yield n fn rd b))
    rw [iha h1, ihb h2]
  | cond x a b iha ihb =>
    intro f h call yield
    obtain ⟨g, h0, h⟩ := bbind_mk.1 (show bbind (jCond n x) (fun g => bbind (jCode C n fn rd a) fun ra => bbind (jCode C n fn rd b) fun rb => .mk fun call yield fr s => obind (g fr) fun v => boolK v (ra call yield fr s) (rb call yield fr s)) = Box.mk f from h)
    obtain ⟨ra, h1, h⟩ := bbind_mk.1 h
    obtain ⟨rb, h2, h⟩ := bbind_mk.1 h
    have h := mk_inj h; subst h
    funext fr s
    show (obind (g fr) fun v => boolK v (ra call yield fr s) (rb call yield fr s)) = obind (fr.ev n x) (condRun (exec C call yield n fn rd a) (exec C call yield n fn rd b) fr s)
    rw [iha h1, ihb h2, jCond_ok h0]
    apply obind_congr; intro v
    exact boolK_cond _ _ _ _ _
  | block id a iha =>
    intro f h call yield
    obtain ⟨ra, h1, h⟩ := bbind_mk.1 (show bbind (jCode C n fn rd a) (fun ra => .mk fun call yield fr s => obind (ra call yield fr s) (blockEnd id)) = Box.mk f from h)
    have h := mk_inj h; subst h
    funext fr s
    show obind (ra call yield fr s) (blockEnd id) = obind (exec C call yield n fn rd a fr s) (blockEnd id)
    rw [iha h1]
  | loop a iha =>
    intro f h call yield
    obtain ⟨ra, h1, h⟩ := bbind_mk.1 (show bbind (jCode C n fn rd a) (fun ra => .mk fun call yield fr s => iter (ra call yield) 100000 fr s) = Box.mk f from h)
    have h := mk_inj h; subst h
    funext fr s
    show iter (ra call yield) 100000 fr s = iter (exec C call yield n fn rd a) 100000 fr s
    rw [iha h1]
  | scope a iha =>
    intro f h call yield
    have h : sel rd (.mk fun _ _ _ _ => none) (jCode C n fn rd a) = Box.mk f := h
    funext fr s
    show _ = sel rd none (exec C call yield n fn rd a fr s)
    cases rd with
    | true => have h := mk_inj h; subst h; rfl
    | false => rw [iha h]; rfl
  | _ => intro f h call yield; have h := mk_inj h; subst h; rfl

theorem jBody_eq (C : Cfg) (call : CallT) (yield : YieldT) (f : FuncId) (args : List Value) (s : St) : jBody C call yield f args s = callBody C call yield f args s := by
  unfold jBody
  cases hj : jFn C f with
  | bad => rfl
  | mk run =>
    show run call yield args s = callBody C call yield f args s
    have h : Option.casesOn (C.body f) .bad (fun c => bbind (jCode C (C.vars f) f false c) fun run => .mk fun call yield args s => obind (run call yield (startFr args) s) (finish C (callDR C call yield) f)) = Box.mk run := hj
    unfold callBody
    cases hb : C.body f with
    | none => rw [hb] at h; cases h
    | some c =>
      rw [hb] at h
      obtain ⟨ra, h1, h⟩ := bbind_mk.1 h
      have h := mk_inj h; subst h
      show obind (ra call yield (startFr args) s) _ = obind (exec C call yield (C.vars f) f false c (startFr args) s) _
      rw [jCode_ok c h1]

theorem jStep_eq (C : Cfg) (call : CallT) (yield : YieldT) : jStep C call yield = callStep C call yield := by
  funext f args s
  unfold jStep callStep
  rw [jBody_eq]

theorem jRunN_eq (C : Cfg) : ∀ n, jRunN C n = runN C n := by
  intro n
  induction n with
  | zero => rfl
  | succ n ih =>
    show (jStep C (jRunN C n).1 (jRunN C n).2, yieldStep C (jRunN C n).1 (jRunN C n).2) = (callStep C (runN C n).1 (runN C n).2, yieldStep C (runN C n).1 (runN C n).2)
    rw [ih, jStep_eq]
end Go.Ax

set_option linter.unusedVariables false
namespace Go.Ax
open Go
noncomputable section

/-! The executor with what comes behind handed on: a test that can not be decided stands ahead of all that hangs on it. -/
section
variable {R : Type}
/-- loops' rounds at most; what bars the kernel's way into a product -/
structure KP where
  L : Nat
  B : Option Bool := none
  /-- what a call comes to, where a test holds -/
  alt : FuncId → List Value → Option (Bool × Value) := fun _ _ => none
  /-- what a loop comes to (the function, the first region of its round), where a test holds -/
  lalt : FuncId → Nat → Fr → St → Option (Bool × (Ex × Fr × St)) := fun _ _ _ _ => none
def KP.plain (K : KP) : KP := { L := K.L, B := K.B, alt := K.alt }
/-- the first region of a piece of code -/
def firstReg (c : Code) : Nat :=
  Code.rec (motive := fun _ => Nat) 0 (fun id _ _ => id) (fun _ _ a _ => a) (fun _ _ _ a _ => a) (fun _ _ a => a) (fun _ a => a) (fun _ _ _ _ a _ => a) (fun _ => 0) (fun _ a => a) (fun _ => 0) (fun _ => 0) 0 (fun _ => 0) c
def blk (b : Option Bool) (n : Nat) : Nat := Option.rec n (fun t => Bool.rec n n t) b
theorem blk_eq (b : Option Bool) (n : Nat) : blk b n = n := by
  cases b with
  | none => rfl
  | some t => cases t <;> rfl

abbrev CallK (R : Type) := FuncId → List Value → St → (Value × St → Option R) → Option R
abbrev YieldK (R : Type) := Nat → List Value → St → (Value × St → Option R) → Option R
abbrev FK (R : Type) := Fr → St → Option R
abbrev XK (R : Type) := Ex → Fr → St → Option R

def afterK (call : CallK R) (yield : YieldK R) (rd : Bool) (n : Nat) (fr : Fr) (dst : Option Tmp) (k : FK R) (r : Res) : Option R :=
  match r with
  | .val v s => k (fr.put n dst v) s
  | .call f args s => call f args s fun q => k (fr.put n dst q.1) q.2
  | .yield l args s => yield l args s fun q => k (fr.put n dst q.1) q.2
  | .defer f args s => sel rd none (k (Fr.put n { vars := fr.vars, loc := fr.loc, defers := (f, args) :: fr.defers } dst unit) s)

/-- the difference of two words, as a number -/
def subW (x y : Nat) : Nat := Nat.mod (Nat.add x (Nat.sub 18446744073709551616 (Nat.mod y 18446744073709551616))) 18446744073709551616

/-! equality of structs and arrays: all parts are looked at -/
def eqArr' (f : Value → Value → Option Bool) (n : Nat) : List Value → List Value → Option Bool :=
  Nat.rec (fun _ _ => some true) (fun _ ih xs ys => lcase xs none fun x xt => lcase ys none fun y yt => obind (f x y) fun b => obind (ih xt yt) fun r => some (b && r)) n
def eqParts' (P : Program) (ih : EqF) (e : TypeId) (n : Nat) (xs ys : List Value) (k : Nat) : Nat → Option Bool :=
  Nat.rec (fun _ => some true) (fun _ go i => obind (eqPart P ih e (Nat.mul i n) xs ys) fun b => obind (go (Nat.succ i)) fun r => some (b && r)) k
def eqFields' (P : Program) (ih : EqF) (xs ys : List Value) : List Field → Option Bool :=
  List.rec (some true) (fun f _ go => obind (eqPart P ih f.type f.offset xs ys) fun b => obind go fun r => some (b && r))
def eqStep' (C : Cfg) (ih : EqF) (t : TypeId) (x y : Value) : Option Bool :=
  obind (C.P.underlying t) fun d => match d with
    | .array n e => aggs x y fun xs ys => obind (C.P.underlying e) fun d => obind (size C.P e) fun k => sel (!descAgg d && Nat.beq k 1) (eqArr' (eqD C.P d) n xs ys) (eqParts' C.P ih e k xs ys n 0)
    | .struct fs => guard (C.eqOk t) (aggs x y fun xs ys => eqFields' C.P ih xs ys fs.toList)
    | d => eqD C.P d x y
def eqAt' (C : Cfg) : EqF := Nat.rec (fun _ _ _ => none) (fun _ ih => eqStep' C ih) 6
def isAggV (v : Value) : Bool :=
  match v with
  | .agg _ => true
  | _ => false
def eqBinK (C : Cfg) (t : TypeId) (op : BinOp) (x y : Operand) (a b : Value) (k : Value → Option R) : Option R :=
  sel (isAggV a) (guard (nilsOk C t x y a b) (obind (eqAt' C t a b) fun r => match op with
    | .eql => k (.bool r)
    | .neq => k (.bool !r)
    | _ => none)) (obind (guard (nilsOk C t x y a b) (binOp C t op a b)) k)

def binGenK (C : Cfg) (t : TypeId) (op : BinOp) (x y : Operand) (a b : Value) (k : Value → Option R) : Option R := obind (guard (nilsOk C t x y a b) (binOp C t op a b)) k

def divK (C : Cfg) (t : TypeId) (op : BinOp) (x y : Operand) (f : IntKind → Int → Int → Int) (a b : Value) (k : Value → Option R) : Option R :=
  match a with
  | .int ka i => match b with
    | .int kb j => guard (kindEq ka kb) (guard (!eqI j 0) (k (.int ka (f ka i j))))
    | b => binGenK C t op x y a b k
  | a => binGenK C t op x y a b k

def subNatK (i j : Int) (g : Nat → Nat → Option R) (h : Option R) : Option R := Int.casesOn i (fun x => Int.casesOn j (fun y => g x y) (fun _ => h)) (fun _ => h)

def subK (C : Cfg) (t : TypeId) (x y : Operand) (a b : Value) (k : Value → Option R) : Option R :=
  match a with
  | .int ka i => match b with
    | .int kb j => guard (kindEq ka kb) (match ka with
      | .u64 => subNatK i j (fun x y => k (.int .u64 (Int.ofNat (subW x y)))) (k (.int .u64 (wrap .u64 (subI i j))))
      | ka => k (.int ka (wrap ka (subI i j))))
    | b => binGenK C t .sub x y a b k
  | a => binGenK C t .sub x y a b k

/-- products of words -/
def mulK (K : KP) (C : Cfg) (t : TypeId) (x y : Operand) (a b : Value) (k : Value → Option R) : Option R :=
  match a with
  | .int ka i => match b with
    | .int kb j => guard (kindEq ka kb) (match ka with
      | .u64 => subNatK i j (fun x y => k (.int .u64 (Int.ofNat (blk K.B (Nat.mod (Nat.mul x y) 18446744073709551616))))) (k (.int .u64 (wrap .u64 (mulI i j))))
      | ka => k (.int ka (wrap ka (mulI i j))))
    | b => binGenK C t .mul x y a b k
  | a => binGenK C t .mul x y a b k
def shlK (K : KP) (C : Cfg) (t : TypeId) (x y : Operand) (a b : Value) (k : Value → Option R) : Option R :=
  match a with
  | .int ka i => match b with
    | .int kb j => match ka with
      | .u64 => subNatK i j (fun x y => k (.int .u64 (Int.ofNat (blk K.B (Nat.mod (Nat.mul x (Nat.pow 2 (sel (Nat.ble y 64) y 64))) 18446744073709551616))))) (binGenK C t .shl x y a b k)
      | _ => binGenK C t .shl x y a b k
    | b => binGenK C t .shl x y a b k
  | a => binGenK C t .shl x y a b k

def binK (K : KP) (C : Cfg) (t : TypeId) (op : BinOp) (x y : Operand) (a b : Value) (k : Value → Option R) : Option R :=
  match op with
  | .quo => divK C t .quo x y (fun k i j => wrap k (quoI i j)) a b k
  | .rem => divK C t .rem x y (fun _ i j => remI i j) a b k
  | .sub => subK C t x y a b k
  | .mul => mulK K C t x y a b k
  | .shl => shlK K C t x y a b k
  | .eql => eqBinK C t .eql x y a b k
  | .neq => eqBinK C t .neq x y a b k
  | op => binGenK C t op x y a b k

def idxK (C : Cfg) (s : St) (e : TypeId) (len i : Nat) (a : Addr) (k : Res → Option R) : Option R :=
  guard (ltN i len) (obind (size C.P e) fun n => k (.val (ptr a.block (Nat.add a.off (Nat.mul i n))) s))

def indexAddrK (C : Cfg) (ev : Ev) (s : St) (t : TypeId) (x i : Operand) (k : Res → Option R) : Option R :=
  obind (ev x) fun x => obind (ev i) fun i => obind (asNat i) fun i => match C.P.underlying t with
    | some (.slice e) => match x with
      | .slice (some a) len _ => idxK C s e len i a k
      | _ => none
    | some (.array len e) => match x with
      | .pointer (some a) => idxK C s e len i a k
      | _ => none
    | _ => none

/-- what a test has told stands in the frame -/
def knowL (t : Nat) (b : Bool) : List (Nat × Value) → List (Nat × Value) := fun l => List.rec [] (fun p l ih => sel (Nat.beq p.1 t) ((p.1, .bool b) :: l) (p :: ih)) l
def know (n : Nat) (t : Nat) (b : Bool) (fr : Fr) : Fr :=
  sel (ltN t n) { vars := fr.vars.set t (.bool b), loc := fr.loc, defers := fr.defers } { vars := fr.vars, loc := knowL t b fr.loc, defers := fr.defers }
def knowO (n : Nat) (x : Operand) (b : Bool) (fr : Fr) : Fr :=
  match x with
  | .tmp t => know n t b fr
  | _ => fr

def pickK (C : Cfg) (n : Nat) (fr : Fr) (s : St) (c a b : Operand) (k : Fr → Res → Option R) : Option R :=
  obind (fr.ev n c) fun v => match v with
    | .bool t => sel t (obind (oMove C (fr.ev n) s a) (k (knowO n c true fr))) (obind (oMove C (fr.ev n) s b) (k (knowO n c false fr)))
    | _ => none

/-! ### lists in parts: in place of what may fail, a test and a list -/
def takeK (n : Nat) (l : List Value) (k : List Value → Option R) : Option R := guard (Nat.ble n (lenL l)) (k (takeL n l))
def overT (vs : List Value) (o : Nat) (cs : List Value) : List Value := appL (takeL o cs) (appL vs (dropL (Nat.add o (lenL vs)) cs))
def spliceK (vs : List Value) (o : Nat) (cs : List Value) (k : List Value → Option R) : Option R := guard (Nat.ble (Nat.add o (lenL vs)) (lenL cs)) (k (overT vs o cs))
def firstK (s : St) (sz n : Nat) (v : Value) (k : List Value → Option R) : Option R :=
  match v with
  | .slice (some a) _ _ => sel (Nat.beq a.block deadId) (guard (Nat.beq n 0) (k [])) (obind (s.cells a.block) fun c => takeK (Nat.mul n sz) (dropL a.off c.1) k)
  | .slice none _ _ => guard (Nat.beq n 0) (k [])
  | .string b => guard (Nat.beq sz 1) (k (byteVals (takeL n b.data.toList)))
  | _ => none
def storeCellsK (s : St) (b o : Nat) (vs : List Value) (k : St → Option R) : Option R :=
  guard (Nat.ble fixedTop b && allOne vs) (obind (s.cells b) fun c => spliceK vs o c.1 fun cs => k (putRow s b cs c.2.1 c.2.2))

/-- an integer's number, wherever it stands in a list -/
def intAt (cs : List Value) (o : Nat) : Int :=
  match nth cs o with
  | some (.int _ z) => z
  | _ => 0
def boolAt (cs : List Value) (o : Nat) : Bool :=
  match nth cs o with
  | some (.bool z) => z
  | _ => false
def strAt (cs : List Value) (o : Nat) : ByteArray :=
  match nth cs o with
  | some (.string z) => z
  | _ => ⟨⟨[]⟩⟩
def rawAt (cs : List Value) (o : Nat) (z : Value) : Value := Option.casesOn (nth cs o) z fun v => v
/-- the cell at a place, in the form that its type's zero has -/
def likeAt (z : Value) (cs : List Value) (o : Nat) : Value :=
  match z with
  | .int k _ => .int k (intAt cs o)
  | .bool _ => .bool (boolAt cs o)
  | .string _ => .string (strAt cs o)
  | z => rawAt cs o z
def okCell (z : Value) (v : Option Value) : Bool :=
  match z with
  | .int k _ => match v with
    | some (.int j _) => kindEq k j
    | _ => false
  | .bool _ => match v with
    | some (.bool _) => true
    | _ => false
  | .string _ => match v with
    | some (.string _) => true
    | _ => false
  | _ => v.isSome
def likeCells (zs : List Value) (cs : List Value) : Nat → List Value := List.rec (fun _ => []) (fun z _ ih o => likeAt z cs o :: ih (Nat.succ o)) zs
def okCells (zs : List Value) (cs : List Value) : Nat → Bool := List.rec (fun _ => true) (fun z _ ih o => sel (okCell z (nth cs o)) (ih (Nat.succ o)) false) zs
def loadCsK (P : Program) (t : TypeId) (o : Nat) (cs : List Value) (k : Value → Option R) : Option R :=
  obind (isAgg P t) fun g => sel g
    (obind (size P t) fun n => obind (zero P t) fun zs => guard (Nat.beq (lenL zs) n) (guard (okCells zs cs o) (k (mkAgg (likeCells zs cs o)))))
    (obind (zero P t) fun zs => lcase zs none fun z _ => guard (okCell z (nth cs o)) (k (likeAt z cs o)))
def loadK (C : Cfg) (ev : Ev) (s : St) (t : TypeId) (a : Operand) (k : Res → Option R) : Option R :=
  obind (ev a) fun v => match v with
    | .pointer (some a) => obind (s.cells a.block) fun c => loadCsK C.P t a.off c.1 fun v => k (.val v s)
    | _ => none
def storeK (C : Cfg) (ev : Ev) (s : St) (t : TypeId) (a x : Operand) (k : Res → Option R) : Option R :=
  obind (ev a) fun v => match v with
    | .pointer (some a) => obind (ev x) fun v => obind (size C.P t) fun n => guard (Nat.beq (lenL (cellsOf v)) n) (storeCellsK s a.block a.off (cellsOf v) fun s => k (.val unit s))
    | _ => none

def appendNoneK (s : St) (elem : TypeId) (base : Option Addr) (len cap sz : Nat) (a : Value) (k : Value × St → Option R) : Option R :=
  sel (ltN cap halfCap || base.isNone) (guard (Nat.ble len cap) (k (a, s)))
    (Option.casesOn base none fun p => sel (Nat.beq p.block deadId) (guard (Nat.beq len 0) (k (a, s))) <| obind (s.cells p.block) fun c =>
      guard (Nat.beq c.2.1 elem && openOk p.off cap sz && Nat.ble 1 sz && !Nat.beq c.2.2 0 && Nat.ble (Nat.add p.off (Nat.mul len sz)) (lenL c.1)) (k (a, s)))
def appendInK (s : St) (p : Addr) (len cap need e : Nat) (new : List Value) (k : Value × St → Option R) : Option R :=
  storeCellsK s p.block e new fun s => k (.slice (some p) need cap, s)
def appendOutK (P : Program) (s : St) (p : Addr) (len cap need e sz : Nat) (new : List Value) (c : List Value × TypeId × Nat) (k : Value × St → Option R) : Option R :=
  guard (growOk P c.2.1 need) <| takeK (Nat.mul len sz) (dropL p.off c.1) fun old =>
    sel (ltN cap halfCap)
      (guard (ltN cap need) (k (grow s c.2.1 (appL old new) need)))
      (guard (Nat.beq e (lenL c.1) && Nat.ble fixedTop p.block && allOne new) (k (branch s p.block (appL old new) c.2.1 c.2.2 need)))
def appendAtK (P : Program) (s : St) (elem : TypeId) (p : Addr) (len cap n sz : Nat) (new : List Value) (k : Value × St → Option R) : Option R :=
  obind (s.cells p.block) fun c =>
    guard (Nat.beq c.2.1 elem && Nat.ble 1 sz && (ltN cap halfCap || (openOk p.off cap sz && !Nat.beq c.2.2 0))) <| sel (Nat.ble (Nat.add len n) cap && Nat.ble (Nat.add (Nat.add p.off (Nat.mul len sz)) (Nat.mul n sz)) (lenL c.1))
      (appendInK s p len cap (Nat.add len n) (Nat.add p.off (Nat.mul len sz)) new k)
      (appendOutK P s p len cap (Nat.add len n) (Nat.add p.off (Nat.mul len sz)) sz new c k)
def appendToK (P : Program) (s : St) (elem : TypeId) (base : Option Addr) (len cap n sz : Nat) (new : List Value) (a : Value) (k : Value × St → Option R) : Option R :=
  sel (Nat.beq n 0) (appendNoneK s elem base len cap sz a k) (Option.casesOn base (guard (Nat.beq len 0 && Nat.beq cap 0 && growOk P elem n) (k (grow s elem new n))) fun p => appendAtK P s elem p len cap n sz new k)
def appendK (P : Program) (s : St) (sT : TypeId) (T2 : Option TypeId) (a b : Value) (k : Value × St → Option R) : Option R :=
  guard (noInt P T2) <| match P.underlying sT with
  | some (.slice elem) => match a with
    | .slice base len cap => obind (lenOf b) fun n => obind (size P elem) fun sz => firstK s sz n b fun new => appendToK P s elem base len cap n sz new a k
    | _ => none
  | _ => none
def copyK (P : Program) (s : St) (t : TypeId) (d x : Value) (k : Res → Option R) : Option R :=
  match P.underlying t with
  | some (.slice e) => match d with
    | .slice base dLen _ => obind (lenOf x) fun sl => obind (size P e) fun sz => firstK s sz (sel (Nat.ble sl dLen) sl dLen) x fun new =>
        sel (Nat.beq (sel (Nat.ble sl dLen) sl dLen) 0) (k (.val (i64 0) s))
          (Option.casesOn base none fun a => storeCellsK s a.block a.off new fun s => k (.val (i64 (sel (Nat.ble sl dLen) sl dLen)) s))
    | _ => none
  | _ => none

def cutOpenK (s : St) (a : Addr) (e : TypeId) (cap l h m n : Nat) (k : Value × St → Option R) : Option R :=
  obind (s.cells a.block) fun c =>
    guard (Nat.beq c.2.1 e && openOk a.off cap n && Nat.ble 1 n && !Nat.beq c.2.2 0 && Nat.ble cap bigCap && (ltN m halfCap || Nat.ble halfCap (Nat.sub m l)) && Nat.ble (Nat.add a.off (Nat.mul (sel (Nat.ble halfCap m) h m) n)) (lenL c.1))
      (sel (ltN m halfCap || ltN l h || ltN (Nat.add a.off (Nat.mul l n)) (lenL c.1) || Nat.beq l 0)
        (k (.slice (some (sel (Nat.beq m l) a ⟨a.block, Nat.add a.off (Nat.mul l n), none⟩)) (Nat.sub h l) (Nat.sub m l), s))
        (k (deadV, s)))
def cutSliceK (s : St) (a : Option Addr) (e : TypeId) (cap l h m n : Nat) (k : Value × St → Option R) : Option R :=
  guard (Nat.ble l h && Nat.ble h m && Nat.ble m cap)
    (Option.casesOn a (k (.slice none (Nat.sub h l) (Nat.sub m l), s))
      fun a => sel (Nat.beq a.block deadId) (guard (Nat.beq h 0 && Nat.beq cap bigCap && (Nat.beq m 0 || Nat.beq m bigCap)) (k (deadV, s))) (sel (Nat.ble halfCap cap) (cutOpenK s a e cap l h m n k)
        (k (.slice (some (sel (Nat.beq m l) a ⟨a.block, Nat.add a.off (Nat.mul l n), none⟩)) (Nat.sub h l) (Nat.sub m l), s))))
def optK (ev : Ev) (x : Option Operand) (k : Option Value → Option R) : Option R := Option.casesOn x (k none) fun x => obind (ev x) fun v => k (some v)
def cutAnyK (C : Cfg) (ev : Ev) (s : St) (t : TypeId) (x : Operand) (lo hi mx : Option Operand) (k : Res → Option R) : Option R :=
  obind (ev x) fun x => optK ev lo fun lo => optK ev hi fun hi => optK ev mx fun mx => match x with
    | .slice a len cap => match C.P.underlying t with
      | some (.slice e) => obind (size C.P e) fun n => bounds lo hi mx len cap fun l h m => guard (mx.isNone || (hi.isSome && ltN m halfCap)) (cutSliceK s a e cap l h m n fun q => k (.val q.1 q.2))
      | _ => none
    | x => obind (obind (sliceAny C.P s t x lo hi mx) toRes) k
/-- the lesser, the greater: a test -/
def minMaxK (mx : Bool) (s : St) (x y : Value) (k : Res → Option R) : Option R :=
  match x with
  | .int ka a => match y with
    | .int _ b => sel (sel mx (ltI a b) (ltI b a)) (k (.val (.int ka b) s)) (k (.val (.int ka a) s))
    | _ => none
  | _ => none
theorem minMaxK_eq (mx : Bool) (s : St) (x y : Value) (k : Res → Option R) : minMaxK mx s x y k = obind (bMinMax mx s x y) k := by
  cases x with
  | int ka a => cases y with
    | int kb b =>
      show sel (sel mx (ltI a b) (ltI b a)) _ _ = obind (ret (.int ka (sel (sel mx (ltI a b) (ltI b a)) b a)) s) k
      cases (sel mx (ltI a b) (ltI b a)) <;> rfl
    | _ => rfl
  | _ => rfl
def callOpK (C : Cfg) (ev : Ev) (s : St) (c : Call) (k : Res → Option R) : Option R :=
  match c.callee with
  | .builtin b => obind (evs ev c.args.toList) fun args => match args with
    | [x, y] => match b with
      | .append => obind (nth c.argTypes.toList 0) fun t => appendK C.P s t (nth c.argTypes.toList 1) x y fun q => k (.val q.1 q.2)
      | .copy => obind (nth c.argTypes.toList 0) fun t => copyK C.P s t x y k
      | .min => minMaxK false s x y k
      | .max => minMaxK true s x y k
      | b => obind (builtin C s b (nth c.argTypes.toList 0) (nth c.argTypes.toList 1) [x, y]) k
    | args => obind (builtin C s b (nth c.argTypes.toList 0) (nth c.argTypes.toList 1) args) k
  | _ => obind (oCall C ev s c) k

def opK (K : KP) (C : Cfg) (ev : Ev) (s : St) (o : Op) (k : Res → Option R) : Option R :=
  match o with
  | .binOp op t x y _ => obind (ev x) fun a => obind (ev y) fun b => binK K C t op x y a b fun v => k (.val v s)
  | .indexAddr t x i => indexAddrK C ev s t x i k
  | .load t a => loadK C ev s t a k
  | .store t a x => storeK C ev s t a x k
  | .slice t x lo hi mx => cutAnyK C ev s t x lo hi mx k
  | .call c => callOpK C ev s c k
  | o => obind (execOp C ev s o) k

def opFK (K : KP) (C : Cfg) (n : Nat) (fr : Fr) (s : St) (o : Op) (k : Fr → Res → Option R) : Option R :=
  match o with
  | .pick c a b => pickK C n fr s c a b k
  | o => opK K C (fr.ev n) s o (k fr)

def guardK (n : Nat) (all : List Oper) (g : Option (Nat × Bool)) (fr : Fr) (run skip : Fr → Option R) : Option R :=
  Option.casesOn g (run fr) fun g => obind (nth all g.1) fun o => obind o.dst fun d => obind (fr.ev n (.tmp d)) fun v => match v with
    | .bool c => sel c (sel g.2 (run (know n d true fr)) (skip (know n d true fr))) (sel g.2 (skip (know n d false fr)) (run (know n d false fr)))
    | _ => skip fr

def oneOpK (K : KP) (C : Cfg) (call : CallK R) (yield : YieldK R) (rd : Bool) (n : Nat) (all : List Oper) (o : Oper) (k : FK R) (fr : Fr) (s : St) : Option R :=
  guardK n all o.guard fr (fun fr => opFK K C n fr s o.op fun fr r => afterK call yield rd n fr o.dst k r) (fun fr => k (fr.put n o.dst unit) s)

def opsK (K : KP) (C : Cfg) (call : CallK R) (yield : YieldK R) (rd : Bool) (n : Nat) (all : List Oper) (ops : List Oper) (k : FK R) : FK R :=
  List.rec k (fun o _ ih => oneOpK K C call yield rd n all o ih) ops

abbrev DrawKK (R : Type) := Bool → List Pend → Fr → St → Option R

def drawLoudK (C : Cfg) (call : CallK R) (yield : YieldK R) (rd : Bool) (n : Nat) (base : Nat) (a : Info) (rest : List Info) (k : DrawKK R) (cl : Bool) (pend : List Pend) (fr : Fr) (r : Res) : Option R :=
  sel (cl && (quietOp a.op.op && quietCall C r)) (afterK call yield rd n fr a.op.dst (fun fr s => guard (freeIds s base rest) (k true pend fr s)) r)
    (afterK call yield rd n fr a.op.dst (fun fr s => guard (lookAll C n s a.mask pend && freeIds s base rest) (k false pend fr s)) r)

def valK (k : Value → Option R) (r : Res) : Option R :=
  match r with
  | .val v _ => k v
  | _ => none

def drawOneK (K : KP) (C : Cfg) (call : CallK R) (yield : YieldK R) (rd : Bool) (n : Nat) (all : List Oper) (base : Nat) (a : Info) (rest : List Info) (k : DrawKK R) (cl : Bool) (pend : List Pend) (fr : Fr) (s : St) : Option R :=
  guardK n all a.op.guard fr (fun fr =>
    (ncase a.cls
      (opFK K C n fr s a.op.op fun fr => valK fun v => k cl pend (fr.put n a.op.dst v) s)
      fun c1 => ncase c1
        (opFK K C n fr s a.op.op fun fr => valK fun v => guard (quietV s v) (k cl ({ i := a.i, op := a.op.op, fr := fr, v := v } :: pend) (fr.put n a.op.dst v) s))
        fun c2 => ncase c2
          (obind (aOp C (fr.ev n) a.op.op) fun q => k false pend (fr.put n a.op.dst (q.2 (Nat.add base a.i))) { heap := s.heap.set (Nat.add base a.i) q.1, fams := s.fams, next := s.next })
          fun _ => obind (execOp C (fr.ev n) s a.op.op) (drawLoudK C call yield rd n base a rest k cl pend fr)))
    (fun fr => k cl pend (fr.put n a.op.dst unit) s)

def drawLK (K : KP) (C : Cfg) (call : CallK R) (yield : YieldK R) (rd : Bool) (n : Nat) (all : List Oper) (base : Nat) (l : List Info) (k : FK R) : DrawKK R :=
  List.rec (fun _ _ fr s => k fr s) (fun a rest ih => drawOneK K C call yield rd n all base a rest ih) l

def drawK (K : KP) (C : Cfg) (call : CallK R) (yield : YieldK R) (rd : Bool) (n : Nat) (all : List Oper) (order : List Nat) (k : FK R) (fr : Fr) (s : St) : Option R :=
  obind (planOf all order) fun l => drawLK K C call yield rd n all s.next l k true [] fr { heap := s.heap, fams := s.fams, next := Nat.add s.next (lenL all) }

def nextK (a b : FK R) (k : XK R) : XK R := fun ex fr s =>
  match ex with
  | .normal => a fr s
  | ex => k ex fr s

def thenK (b : FK R) (k : XK R) (ex : Ex) (fr : Fr) (s : St) : Option R :=
  match ex with
  | .normal => b fr s
  | ex => k ex fr s

def iterK (f : XK R → FK R) (k : XK R) : Nat → FK R := fun n => Nat.rec (fun _ _ => none) (fun _ ih => f (thenK ih k)) n

def blockK (id : Nat) (k : XK R) (ex : Ex) (fr : Fr) (s : St) : Option R :=
  match ex with
  | .exit id' => sel (Nat.beq id id') (k .normal fr s) (k ex fr s)
  | ex => k ex fr s

def condK (n : Nat) (x : Operand) (a b : FK R) (fr : Fr) (s : St) (v : Value) : Option R :=
  match v with
  | .bool c => sel c (a (knowO n x true fr) s) (b (knowO n x false fr) s)
  | _ => none

def outK (k : XK R) (r : Ex × Fr × St) : Option R := k r.1 r.2.1 r.2.2

def rangeCallK (C : Cfg) (call : CallK R) (fr : Fr) (l : Nat) (f : Value) (s : St) (k : XK R) : Option R :=
  obind (invoke C s f [.func (.yield l) #[] #[]]) fun r => match r with
    | .call g args s => call g args s fun q => obind (getLoop q.2 l) fun r => obind (afterRange fr q.2 l r) (outK k)
    | _ => none

def rangeK (C : Cfg) (call : CallK R) (n : Nat) (fn : FuncId) (inRound : Bool) (f : Operand) (params : Array Tmp) (assign body : Code) (k : XK R) (fr : Fr) (s : St) : Option R :=
  sel inRound none <| obind (fr.ev n f) fun f => s.new .other fun _ s =>
    s.new (.loop (.loop { state := .ready, pending := none, fn := fn, vars := fr.vars, params := params.toList, assign := assign, body := body, n := n })) fun l s => rangeCallK C call fr l f s k

def loopK (K : KP) (fn : FuncId) (rd : Bool) (body : Code) (it : FK R) (k : XK R) (fr : Fr) (s : St) : Option R :=
  sel rd (it fr s) (Option.casesOn (K.lalt fn (firstReg body) fr s) (it fr s) fun p => guard p.1 (outK k p.2))

def execK (K : KP) (C : Cfg) (call : CallK R) (yield : YieldK R) (n : Nat) (fn : FuncId) (inRound : Bool) (c : Code) : XK R → FK R :=
  Code.rec (motive := fun _ => XK R → FK R)
    (fun k fr s => k .normal fr s)
    (fun id ops draw k fr s => sel draw (drawK K C call yield inRound n ops.toList (C.order fn id) (k .normal) fr.fresh s) (opsK K C call yield inRound n ops.toList ops.toList (k .normal) fr.fresh s))
    (fun _ _ a b k => a (thenK (b k) k))
    (fun c _ _ a b k fr s => obind (fr.ev n c) (condK n c (a k) (b k) fr s))
    (fun id _ a k => a (blockK id k))
    (fun body a k => loopK K fn inRound body (iterK a k K.L) k)
    (fun f params assign body _ _ k fr s => rangeK C call n fn inRound f params assign body k fr s)
    (fun id k fr s => k (.exit id) fr s)
    (fun _ a k fr s => sel inRound none (a k fr s))
    (fun _ k fr s => k .normal fr s)
    (fun _ _ _ _ => none)
    (fun k fr s => k .ret fr s)
    (fun _ _ _ _ => none) c

def finishK (C : Cfg) (dcall : CallT) (f : FuncId) (k : Value × St → Option R) (ex : Ex) (fr : Fr) (s : St) : Option R :=
  match ex with
  | .exit _ => none
  | _ => obind (unwind dcall fr.defers s) fun s => obind (results C.P (C.vars f) fr s (C.results f)) fun vs => k (tuple vs, s)

def bodyK (K : KP) (C : Cfg) (call : CallT) (yield : YieldT) (callk : CallK R) (yieldk : YieldK R) : CallK R := fun f args s k =>
  obind (C.body f) fun c => execK K C callk yieldk (C.vars f) f false c (finishK C (callDR C call yield) f k) (startFr args) s

def stepK (K : KP) (C : Cfg) (call : CallT) (yield : YieldT) (callk : CallK R) (yieldk : YieldK R) : CallK R := fun f args s k =>
  Option.casesOn (K.alt f args)
    (Option.casesOn (C.insert f) (bodyK K C call yield callk yieldk f args s k) fun t => Option.casesOn (runCon C t s args) (bodyK K C call yield callk yieldk f args s k) k)
    fun p => guard p.1 (k (p.2, s))

def roundK (K : KP) (C : Cfg) (callk : CallK R) (yieldk : YieldK R) (l : Nat) (r0 : ALoop) (k : Value × St → Option R) (ex : Ex) (fr : Fr) (s : St) : Option R :=
  match ex with
  | .normal => obind (getLoop s l) fun r => match r.state with
    | .ready => execK K.plain C callk yieldk r0.n r0.fn true r0.body (fun ex fr s => obind (endRound l (ex, fr, s)) k) fr (setLoop s l r .busy r.pending)
    | _ => none
  | _ => none

def yieldStepK (K : KP) (C : Cfg) (callk : CallK R) (yieldk : YieldK R) : YieldK R := fun l args s k =>
  obind (getLoop s l) fun r => obind (setPairs r.params args r.vars) fun vars =>
    execK K.plain C callk yieldk r.n r.fn true r.assign (roundK K C callk yieldk l r k) { vars := vars, loc := [], defers := [] } s

def runK (K : KP) (C : Cfg) (n : Nat) : CallK R × YieldK R :=
  Nat.rec (fun _ _ _ _ => none, fun _ _ _ _ => none) (fun m ih => (stepK (ncase m K.plain fun _ => K) C (runN C m).1 (runN C m).2 ih.1 ih.2, yieldStepK K C ih.1 ih.2)) n

/-! ### what it comes to, the executor comes to -/
def Imp (x y : Option R) : Prop := ∀ r, x = some r → y = some r
theorem imp_refl (x : Option R) : Imp x x := fun _ h => h
theorem imp_of_eq {x y : Option R} (h : x = y) : Imp x y := fun _ hx => h ▸ hx
theorem imp_trans {x y z : Option R} (h : Imp x y) (g : Imp y z) : Imp x z := fun r hr => g r (h r hr)
theorem imp_none (y : Option R) : Imp none y := fun _ h => by cases h
theorem imp_obind {α : Type} (x : Option α) {k l : α → Option R} (h : ∀ a, Imp (k a) (l a)) : Imp (obind x k) (obind x l) := by
  cases x with
  | none => exact imp_refl _
  | some a => exact h a
theorem imp_guard (b : Bool) {x y : Option R} (h : b = true → Imp x y) : Imp (guard b x) (guard b y) := by
  cases b with
  | false => exact imp_refl _
  | true => exact h rfl
theorem imp_sel (b : Bool) {x y x' y' : Option R} (h : b = true → Imp x x') (g : b = false → Imp y y') : Imp (sel b x y) (sel b x' y') := by
  cases b with
  | false => exact g rfl
  | true => exact h rfl

theorem takeN_K : ∀ (n : Nat) (l : List Value), takeN n l = guard (Nat.ble n (lenL l)) (some (takeL n l))
  | 0, l => rfl
  | n + 1, [] => rfl
  | n + 1, a :: l => by
    show obind (takeN n l) (fun r => some (a :: r)) = guard (Nat.ble n (lenL l)) (some (a :: takeL n l))
    rw [takeN_K n l]
    cases Nat.ble n (lenL l) <;> rfl
theorem takeK_eq (n : Nat) (l : List Value) (k : List Value → Option R) : takeK n l k = Ax.obind (takeN n l) k := by
  unfold takeK
  rw [takeN_K, guard_obind]
  rfl
theorem overL_K : ∀ (vs cs : List Value), overL vs cs = Ax.guard (Nat.ble (lenL vs) (lenL cs)) (some (appL vs (dropL (lenL vs) cs)))
  | [], cs => rfl
  | v :: vs, [] => rfl
  | v :: vs, c :: cs => by
    show Ax.obind (overL vs cs) (fun r => some (v :: r)) = Ax.guard (Nat.ble (lenL vs) (lenL cs)) (some (v :: appL vs (dropL (lenL vs) cs)))
    rw [overL_K vs cs]
    cases Nat.ble (lenL vs) (lenL cs) <;> rfl
theorem splice_K (vs : List Value) : ∀ (o : Nat) (cs : List Value), splice vs o cs = Ax.guard (Nat.ble (Nat.add o (lenL vs)) (lenL cs)) (some (overT vs o cs))
  | 0, cs => by
    show overL vs cs = _
    rw [overL_K]
    unfold overT
    rw [show Nat.add 0 (lenL vs) = lenL vs from Nat.zero_add _]
    rfl
  | o + 1, [] => by
    show none = Ax.guard (Nat.ble (Nat.add (o + 1) (lenL vs)) 0) _
    rw [show Nat.add (o + 1) (lenL vs) = Nat.succ (o + lenL vs) from Nat.succ_add _ _]
    rfl
  | o + 1, c :: cs => by
    show Ax.obind (splice vs o cs) (fun r => some (c :: r)) = _
    rw [splice_K vs o cs]
    unfold overT
    rw [show Nat.add (o + 1) (lenL vs) = Nat.succ (Nat.add o (lenL vs)) from Nat.succ_add _ _]
    show Ax.obind (Ax.guard (Nat.ble (Nat.add o (lenL vs)) (lenL cs)) _) _ = Ax.guard (Nat.ble (Nat.add o (lenL vs)) (lenL cs)) _
    cases Nat.ble (Nat.add o (lenL vs)) (lenL cs) <;> rfl
theorem spliceK_eq (vs : List Value) (o : Nat) (cs : List Value) (k : List Value → Option R) : spliceK vs o cs k = Ax.obind (splice vs o cs) k := by
  unfold spliceK
  rw [splice_K, guard_obind]
  rfl
theorem firstK_eq (s : St) (sz n : Nat) (v : Value) (k : List Value → Option R) : firstK s sz n v k = Ax.obind (firstCells s sz n v) k := by
  cases v with
  | slice a l c => cases a with
    | none =>
      show Ax.guard (Nat.beq n 0) (k []) = Ax.obind (Ax.guard (Nat.beq n 0) (some [])) k
      rw [guard_obind]; rfl
    | some a =>
      show Ax.sel _ _ _ = Ax.obind (Ax.sel _ _ _) k
      cases Nat.beq a.block deadId with
      | true =>
        show Ax.guard (Nat.beq n 0) (k []) = Ax.obind (Ax.guard (Nat.beq n 0) (some [])) k
        rw [guard_obind]; rfl
      | false =>
        show Ax.obind (s.cells a.block) _ = Ax.obind (Ax.obind (s.cells a.block) _) k
        rw [obind_assoc]
        exact obind_congr _ fun c => takeK_eq _ _ k
  | string b =>
    show Ax.guard (Nat.beq sz 1) _ = Ax.obind (Ax.guard (Nat.beq sz 1) _) k
    rw [guard_obind]; rfl
  | _ => rfl
theorem storeCellsK_eq (s : St) (b o : Nat) (vs : List Value) (k : St → Option R) : storeCellsK s b o vs k = Ax.obind (storeCells s b o vs) k := by
  unfold storeCellsK storeCells
  rw [guard_obind, obind_assoc]
  congr 1
  refine obind_congr _ fun c => ?_
  rw [spliceK_eq, obind_assoc]
  rfl

theorem likeAt_ok {z : Value} {cs : List Value} {o : Nat} (h : okCell z (nth cs o) = true) : nth cs o = some (likeAt z cs o) := by
  cases z with
  | int k z =>
    show _ = some (Value.int k (intAt cs o))
    unfold intAt
    generalize nth cs o = v at h
    match v, h with
    | some (.int j y), h =>
      have := kindEq_eq h
      subst this
      rfl
  | bool z =>
    show _ = some (Value.bool (boolAt cs o))
    unfold boolAt
    generalize nth cs o = v at h
    match v, h with
    | some (.bool y), h => rfl
  | string z =>
    show _ = some (Value.string (strAt cs o))
    unfold strAt
    generalize nth cs o = v at h
    match v, h with
    | some (.string y), h => rfl
  | _ =>
    show _ = some (rawAt cs o _)
    unfold rawAt
    cases hn : nth cs o with
    | none => rw [hn] at h; cases h
    | some v => rfl
theorem nth_dropL : ∀ (o : Nat) (cs : List Value), nth cs o = lcase (dropL o cs) none (fun a _ => some a)
  | 0, [] => rfl
  | 0, a :: cs => rfl
  | o + 1, [] => rfl
  | o + 1, a :: cs => nth_dropL o cs
theorem dropL_succ' : ∀ (o : Nat) (cs : List Value), dropL (o + 1) cs = lcase (dropL o cs) [] (fun _ t => t)
  | 0, [] => rfl
  | 0, a :: cs => rfl
  | o + 1, [] => rfl
  | o + 1, a :: cs => dropL_succ' o cs
theorem likeCells_ok (cs : List Value) : ∀ (zs : List Value) (o : Nat), okCells zs cs o = true → takeN (lenL zs) (dropL o cs) = some (likeCells zs cs o)
  | [], o, _ => rfl
  | z :: zs, o, h => by
    change Ax.sel (okCell z (nth cs o)) (okCells zs cs (o + 1)) false = true at h
    obtain ⟨h1, h2⟩ := sel_and h
    have h3 := likeAt_ok h1
    have h4 := likeCells_ok cs zs (o + 1) h2
    rw [nth_dropL] at h3
    rw [dropL_succ'] at h4
    show takeN (Nat.succ (lenL zs)) (dropL o cs) = some (likeAt z cs o :: likeCells zs cs (o + 1))
    cases hd : dropL o cs with
    | nil => rw [hd] at h3; cases h3
    | cons a t =>
      rw [hd] at h3 h4
      have h3 : some a = some (likeAt z cs o) := h3
      have h4 : takeN (lenL zs) t = some (likeCells zs cs (o + 1)) := h4
      show Ax.obind (takeN (lenL zs) t) (fun r => some (a :: r)) = _
      rw [h4, Option.some.inj h3]
      rfl
theorem loadCsK_imp (P : Program) (t : TypeId) (o : Nat) (cs : List Value) (k : Value → Option R) : Imp (loadCsK P t o cs k) (Ax.obind (loadCs P t o cs) k) := by
  unfold loadCsK loadCs
  rw [obind_assoc]
  refine imp_obind _ fun g => ?_
  cases g with
  | true =>
    show Imp (Ax.obind (size P t) _) (Ax.obind (Ax.obind (size P t) _) k)
    rw [obind_assoc]
    refine imp_obind _ fun n => ?_
    cases hz : zero P t with
    | none => exact imp_none _
    | some zs =>
      show Imp (Ax.guard (Nat.beq (lenL zs) n) (Ax.guard (okCells zs cs o) (k (mkAgg (likeCells zs cs o))))) _
      intro r hr
      obtain ⟨h1, hr1⟩ := guard_some.1 hr
      obtain ⟨h2, hr2⟩ := guard_some.1 hr1
      have h3 : lenL zs = n := Nat.eq_of_beq_eq_true h1
      rw [← h3, likeCells_ok cs zs o h2]
      exact hr2
  | false =>
    cases hz : zero P t with
    | none => exact imp_none _
    | some zs => cases zs with
      | nil => exact imp_none _
      | cons z zs =>
        intro r hr
        obtain ⟨h1, hr⟩ := guard_some.1 (show Ax.guard (okCell z (nth cs o)) (k (likeAt z cs o)) = some r from hr)
        show Ax.obind (nth cs o) k = some r
        rw [likeAt_ok h1]
        exact hr
theorem loadK_imp (C : Cfg) (ev : Ev) (s : St) (t : TypeId) (a : Operand) (k : Res → Option R) : Imp (loadK C ev s t a k) (Ax.obind (oLoad C ev s t a) k) := by
  unfold loadK oLoad withPtr
  rw [obind_assoc]
  refine imp_obind _ fun v => ?_
  cases v with
  | pointer p => cases p with
    | none => exact imp_refl _
    | some a =>
      show Imp _ (Ax.obind (Ax.obind (load C.P s t a.block a.off) fun v => ret v s) k)
      unfold load
      rw [obind_assoc, obind_assoc]
      refine imp_obind _ fun c => ?_
      refine imp_trans (loadCsK_imp C.P t a.off c.1 _) (imp_of_eq ?_)
      rfl
  | _ => exact imp_refl _
theorem storeK_eq (C : Cfg) (ev : Ev) (s : St) (t : TypeId) (a x : Operand) (k : Res → Option R) : storeK C ev s t a x k = Ax.obind (oStore C ev s t a x) k := by
  unfold storeK oStore withPtr
  rw [obind_assoc]
  refine obind_congr _ fun v => ?_
  cases v with
  | pointer p => cases p with
    | none => rfl
    | some a =>
      show Ax.obind (ev x) _ = Ax.obind (Ax.obind (ev x) _) k
      rw [obind_assoc]
      refine obind_congr _ fun v => ?_
      unfold store
      rw [obind_assoc, obind_assoc]
      refine obind_congr _ fun n => ?_
      rw [guard_obind]
      congr 1
      rw [storeCellsK_eq]
      rfl
  | _ => rfl
theorem appendNoneK_eq (s : St) (elem : TypeId) (base : Option Addr) (len cap sz : Nat) (a : Value) (k : Value × St → Option R) : appendNoneK s elem base len cap sz a k = Ax.obind (appendNone s elem base len cap sz a) k := by
  unfold appendNoneK appendNone
  cases (ltN cap halfCap || base.isNone) with
  | true =>
    show Ax.guard _ _ = Ax.obind (Ax.guard _ _) k
    rw [guard_obind]; rfl
  | false => cases base with
    | none => rfl
    | some p =>
      rw [sel_false, sel_false]
      show Ax.sel (Nat.beq p.block deadId) _ _ = Ax.obind (Ax.sel (Nat.beq p.block deadId) _ _) k
      cases Nat.beq p.block deadId with
      | true =>
        rw [sel_true, sel_true, guard_obind]; rfl
      | false =>
        rw [sel_false, sel_false, obind_assoc]
        refine obind_congr _ fun c => ?_
        rw [guard_obind]; rfl
theorem appendInK_eq (s : St) (p : Addr) (len cap need e : Nat) (new : List Value) (k : Value × St → Option R) : appendInK s p len cap need e new k = Ax.obind (appendIn s p len cap need e new) k := by
  unfold appendInK appendIn
  rw [storeCellsK_eq, obind_assoc]
  rfl
theorem appendOutK_eq (P : Program) (s : St) (p : Addr) (len cap need e sz : Nat) (new : List Value) (c : List Value × TypeId × Nat) (k : Value × St → Option R) : appendOutK P s p len cap need e sz new c k = Ax.obind (appendOut P s p len cap need e sz new c) k := by
  unfold appendOutK appendOut
  rw [guard_obind]
  congr 1
  rw [takeK_eq, obind_assoc]
  refine obind_congr _ fun old => ?_
  cases ltN cap halfCap with
  | true =>
    rw [sel_true, sel_true, guard_obind]; rfl
  | false =>
    rw [sel_false, sel_false, guard_obind]; rfl
theorem appendAtK_eq (P : Program) (s : St) (elem : TypeId) (p : Addr) (len cap n sz : Nat) (new : List Value) (k : Value × St → Option R) : appendAtK P s elem p len cap n sz new k = Ax.obind (appendAt P s elem p len cap n sz new) k := by
  unfold appendAtK appendAt
  rw [obind_assoc]
  refine obind_congr _ fun c => ?_
  rw [guard_obind]
  congr 1
  cases (Nat.ble (Nat.add len n) cap && Nat.ble (Nat.add (Nat.add p.off (Nat.mul len sz)) (Nat.mul n sz)) (lenL c.1)) with
  | true =>
    rw [sel_true, sel_true]
    exact appendInK_eq _ _ _ _ _ _ _ _
  | false =>
    rw [sel_false, sel_false]
    exact appendOutK_eq _ _ _ _ _ _ _ _ _ _ _
theorem appendK_eq (P : Program) (s : St) (sT : TypeId) (T2 : Option TypeId) (a b : Value) (k : Value × St → Option R) : appendK P s sT T2 a b k = Ax.obind (append P s sT T2 a b) k := by
  unfold appendK append
  rw [guard_obind]
  congr 1
  cases P.underlying sT with
  | none => rfl
  | some d => cases d with
    | slice elem => cases a with
      | slice base len cap =>
        show Ax.obind (lenOf b) _ = Ax.obind (Ax.obind (lenOf b) _) k
        rw [obind_assoc]
        refine obind_congr _ fun n => ?_
        rw [obind_assoc]
        refine obind_congr _ fun sz => ?_
        rw [firstK_eq, obind_assoc]
        refine obind_congr _ fun new => ?_
        unfold appendToK appendTo
        cases Nat.beq n 0 with
        | true => exact appendNoneK_eq s elem base len cap sz _ k
        | false => cases base with
          | none =>
            show Ax.guard _ _ = Ax.obind (Ax.guard _ _) k
            rw [guard_obind]; rfl
          | some p => exact appendAtK_eq P s elem p len cap n sz new k
      | _ => rfl
    | _ => rfl
theorem copyK_eq (P : Program) (s : St) (t : TypeId) (d x : Value) (k : Res → Option R) : copyK P s t d x k = Ax.obind (bCopy P s t d x) k := by
  unfold copyK bCopy
  cases P.underlying t with
  | none => rfl
  | some dd => cases dd with
    | slice e => cases d with
      | slice base dLen c =>
        show Ax.obind (lenOf x) _ = Ax.obind (Ax.obind (lenOf x) _) k
        rw [obind_assoc]
        refine obind_congr _ fun sl => ?_
        rw [obind_assoc]
        refine obind_congr _ fun sz => ?_
        rw [firstK_eq, obind_assoc]
        refine obind_congr _ fun new => ?_
        cases Nat.beq (Ax.sel (Nat.ble sl dLen) sl dLen) 0 with
        | true => rfl
        | false => cases base with
          | none => rfl
          | some a =>
            rw [sel_false, sel_false]
            show storeCellsK s a.block a.off new _ = Ax.obind (Ax.obind (storeCells s a.block a.off new) _) k
            rw [storeCellsK_eq, obind_assoc]
            rfl
      | _ => rfl
    | _ => rfl
theorem cutSliceK_eq (s : St) (a : Option Addr) (e : TypeId) (cap l h m n : Nat) (k : Value × St → Option R) : cutSliceK s a e cap l h m n k = Ax.obind (cutSlice s a e cap l h m n) k := by
  unfold cutSliceK cutSlice
  rw [guard_obind]
  congr 1
  cases a with
  | none => rfl
  | some a =>
    show Ax.sel _ _ _ = Ax.obind (Ax.sel _ _ _) k
    cases Nat.beq a.block deadId with
    | true =>
      show Ax.guard _ _ = Ax.obind (Ax.guard _ _) k
      rw [guard_obind]; rfl
    | false =>
      show Ax.sel _ _ _ = Ax.obind (Ax.sel _ _ _) k
      cases Nat.ble halfCap cap with
      | false => rfl
      | true =>
        show cutOpenK _ _ _ _ _ _ _ _ _ = Ax.obind (cutOpen _ _ _ _ _ _ _ _) k
        unfold cutOpenK cutOpen
        rw [obind_assoc]
        refine obind_congr _ fun c => ?_
        rw [guard_obind]
        congr 1
        cases (ltN m halfCap || ltN l h || ltN (Nat.add a.off (Nat.mul l n)) (lenL c.1) || Nat.beq l 0) <;> rfl
theorem optK_eq (ev : Ev) (x : Option Operand) (k0 : Option Value → Option Res) (k : Option Value → Option R) (g : Res → Option R) (h : ∀ v, k v = Ax.obind (k0 v) g) : optK ev x k = Ax.obind (optEv ev x k0) g := by
  cases x with
  | none => exact h none
  | some x =>
    show Ax.obind (ev x) _ = Ax.obind (Ax.obind (ev x) _) g
    rw [obind_assoc]
    exact obind_congr _ fun v => h (some v)
theorem bounds_obind {β γ : Type} (lo hi mx : Option Value) (len cap : Nat) (k : Nat → Nat → Nat → Option β) (g : β → Option γ) : Ax.obind (bounds lo hi mx len cap k) g = bounds lo hi mx len cap fun l h m => Ax.obind (k l h m) g := by
  unfold bounds
  rw [obind_assoc]
  refine obind_congr _ fun l => ?_
  rw [obind_assoc]
  refine obind_congr _ fun h => ?_
  rw [obind_assoc]
theorem cutAnyK_eq (C : Cfg) (ev : Ev) (s : St) (t : TypeId) (x : Operand) (lo hi mx : Option Operand) (k : Res → Option R) : cutAnyK C ev s t x lo hi mx k = Ax.obind (oSlice C ev s t x lo hi mx) k := by
  unfold cutAnyK oSlice
  rw [obind_assoc]
  refine obind_congr _ fun x => ?_
  refine optK_eq ev lo _ _ k fun lo => ?_
  refine optK_eq ev hi _ _ k fun hi => ?_
  refine optK_eq ev mx _ _ k fun mx => ?_
  cases x with
  | slice a len cap =>
    show _ = Ax.obind (Ax.obind (sliceSlice C.P s t a len cap lo hi mx) toRes) k
    unfold sliceSlice
    cases C.P.underlying t with
    | none => rfl
    | some d => cases d with
      | slice e =>
        show Ax.obind (size C.P e) _ = Ax.obind (Ax.obind (Ax.obind (size C.P e) _) toRes) k
        rw [obind_assoc, obind_assoc]
        refine obind_congr _ fun n => ?_
        rw [bounds_obind]
        congr 1
        funext l h m
        rw [guard_obind, cutSliceK_eq]
        rfl
      | _ => rfl
  | _ => rfl
theorem callOpK_eq (C : Cfg) (ev : Ev) (s : St) (c : Call) (k : Res → Option R) : callOpK C ev s c k = Ax.obind (oCall C ev s c) k := by
  unfold callOpK
  split
  · rename_i b hb
    unfold oCall
    rw [hb, obind_assoc]
    refine obind_congr _ fun args => ?_
    match args with
    | [] => rfl
    | [x] => rfl
    | [x, y] =>
      cases b with
      | append =>
        show Ax.obind _ _ = Ax.obind (Ax.obind _ _) k
        rw [obind_assoc]
        refine obind_congr _ fun t => ?_
        rw [appendK_eq, obind_assoc]
        rfl
      | copy =>
        show Ax.obind _ _ = Ax.obind (Ax.obind _ _) k
        rw [obind_assoc]
        exact obind_congr _ fun t => copyK_eq C.P s t x y k
      | min => exact minMaxK_eq false s x y k
      | max => exact minMaxK_eq true s x y k
      | _ => rfl
    | x :: y :: z :: l => rfl
  · rfl

theorem afterK_imp {callk : CallK R} {yieldk : YieldK R} {call : CallT} {yield : YieldT} (hc : ∀ f args s k, Imp (callk f args s k) (Ax.obind (call f args s) k)) (hy : ∀ f args s k, Imp (yieldk f args s k) (Ax.obind (yield f args s) k))
    (rd : Bool) (n : Nat) (fr : Fr) (dst : Option Tmp) {k : FK R} {k0 : Fr → St → Option (Fr × St)} {g : Fr × St → Option R} (hk : ∀ fr s, Imp (k fr s) (Ax.obind (k0 fr s) g)) (r : Res) :
    Imp (afterK callk yieldk rd n fr dst k r) (Ax.obind (afterOp call yield rd n fr dst k0 r) g) := by
  cases r with
  | val v s => exact hk _ _
  | call f args s =>
    show Imp (callk f args s _) (Ax.obind (Ax.obind (call f args s) _) g)
    rw [obind_assoc]
    exact imp_trans (hc f args s _) (imp_obind _ fun q => hk _ _)
  | yield f args s =>
    show Imp (yieldk f args s _) (Ax.obind (Ax.obind (yield f args s) _) g)
    rw [obind_assoc]
    exact imp_trans (hy f args s _) (imp_obind _ fun q => hk _ _)
  | defer f args s =>
    cases rd with
    | true => exact imp_refl _
    | false => exact hk _ _

theorem wrap_u64 (z : Int) : IntKind.wrap .u64 z = z % 18446744073709551616 := by
  show (let m := z % (2 ^ 64 : Int); if IntKind.signed .u64 && m ≥ (2 ^ 63 : Int) then m - (2 ^ 64 : Int) else m) = _
  simp [IntKind.signed]

theorem wrap_subW (x y : Nat) : wrap .u64 (subI (Int.ofNat x) (Int.ofNat y)) = Int.ofNat (subW x y) := by
  rw [wrap_eq, wrap_u64, subI_eq]
  show ((x : Int) - (y : Int)) % 18446744073709551616 = (((x + (18446744073709551616 - y % 18446744073709551616)) % 18446744073709551616 : Nat) : Int)
  omega

theorem sel_none {b : Bool} {x : Option Bool} {r : Bool} (h : Ax.sel b x (some false) = some r) : (b = true ∧ x = some r) ∨ (b = false ∧ r = false) := by
  cases b with
  | true => exact .inl ⟨rfl, h⟩
  | false => cases h; exact .inr ⟨rfl, rfl⟩
theorem and_sel (b r : Bool) (x : Option Bool) (h : x = some r) : Ax.sel b x (some false) = some (b && r) := by
  cases b with
  | true => exact h
  | false => rfl
theorem eqArr'_ok (f : Value → Value → Option Bool) : ∀ (n : Nat) (xs ys : List Value) (r : Bool), eqArr' f n xs ys = some r → eqArr f n xs ys = some r
  | 0, _, _, _, h => h
  | n + 1, [], _, _, h => by cases h
  | n + 1, x :: xs, [], _, h => by cases h
  | n + 1, x :: xs, y :: ys, r, h => by
    obtain ⟨b, hb, h⟩ := obind_some.1 (show Ax.obind (f x y) (fun b => Ax.obind (eqArr' f n xs ys) fun r => some (b && r)) = some r from h)
    obtain ⟨r', hr, h⟩ := obind_some.1 h
    cases h
    show Ax.obind (f x y) (fun b => Ax.sel b (eqArr f n xs ys) (some false)) = _
    rw [hb]
    exact and_sel b r' _ (eqArr'_ok f n xs ys r' hr)
theorem eqPart_ok {P : Program} {ih ih' : EqF} (h : ∀ t x y r, ih' t x y = some r → ih t x y = some r) {t : TypeId} {o : Nat} {xs ys : List Value} {r : Bool} (hr : eqPart P ih' t o xs ys = some r) : eqPart P ih t o xs ys = some r := by
  unfold eqPart at *
  obtain ⟨x, hx, hr⟩ := obind_some.1 hr
  obtain ⟨y, hy, hr⟩ := obind_some.1 hr
  rw [hx]
  show Ax.obind (part P t ys o) _ = _
  rw [hy]
  exact h _ _ _ _ hr
theorem eqParts'_ok {P : Program} {ih ih' : EqF} (h : ∀ t x y r, ih' t x y = some r → ih t x y = some r) (e : TypeId) (n : Nat) (xs ys : List Value) : ∀ (k i : Nat) (r : Bool), eqParts' P ih' e n xs ys k i = some r → eqParts P ih e n xs ys k i = some r
  | 0, _, _, hr => hr
  | k + 1, i, r, hr => by
    obtain ⟨b, hb, hr⟩ := obind_some.1 (show Ax.obind (eqPart P ih' e (Nat.mul i n) xs ys) (fun b => Ax.obind (eqParts' P ih' e n xs ys k (Nat.succ i)) fun r => some (b && r)) = some r from hr)
    obtain ⟨r', hr', hr⟩ := obind_some.1 hr
    cases hr
    show Ax.obind (eqPart P ih e (Nat.mul i n) xs ys) (fun b => Ax.sel b (eqParts P ih e n xs ys k (Nat.succ i)) (some false)) = _
    rw [eqPart_ok h hb]
    exact and_sel b r' _ (eqParts'_ok h e n xs ys k (i + 1) r' hr')
theorem eqFields'_ok {P : Program} {ih ih' : EqF} (h : ∀ t x y r, ih' t x y = some r → ih t x y = some r) (xs ys : List Value) : ∀ (fs : List Field) (r : Bool), eqFields' P ih' xs ys fs = some r → eqFields P ih xs ys fs = some r
  | [], _, hr => hr
  | f :: fs, r, hr => by
    obtain ⟨b, hb, hr⟩ := obind_some.1 (show Ax.obind (eqPart P ih' f.type f.offset xs ys) (fun b => Ax.obind (eqFields' P ih' xs ys fs) fun r => some (b && r)) = some r from hr)
    obtain ⟨r', hr', hr⟩ := obind_some.1 hr
    cases hr
    show Ax.obind (eqPart P ih f.type f.offset xs ys) (fun b => Ax.sel b (eqFields P ih xs ys fs) (some false)) = _
    rw [eqPart_ok h hb]
    exact and_sel b r' _ (eqFields'_ok h xs ys fs r' hr')
theorem aggs_ok {x y : Value} {k k' : List Value → List Value → Option Bool} (h : ∀ xs ys r, k' xs ys = some r → k xs ys = some r) {r : Bool} (hr : aggs x y k' = some r) : aggs x y k = some r := by
  unfold aggs at *
  split at hr
  · split at hr
    · exact h _ _ _ hr
    · cases hr
  · cases hr
theorem eqStep'_ok (C : Cfg) {ih ih' : EqF} (h : ∀ t x y r, ih' t x y = some r → ih t x y = some r) (t : TypeId) (x y : Value) (r : Bool) (hr : eqStep' C ih' t x y = some r) : eqStep C ih t x y = some r := by
  unfold eqStep' at hr
  unfold eqStep
  obtain ⟨d, hd, hr⟩ := obind_some.1 hr
  rw [hd]
  cases d with
  | array n e =>
    refine aggs_ok (fun xs ys r hr => ?_) hr
    obtain ⟨d, hd, hr⟩ := obind_some.1 hr
    obtain ⟨k, hk, hr⟩ := obind_some.1 hr
    show Ax.obind (C.P.underlying e) _ = _
    rw [hd]
    show Ax.obind (size C.P e) _ = _
    rw [hk]
    show Ax.sel (!descAgg d && Nat.beq k 1) _ _ = _
    cases hb : (!descAgg d && Nat.beq k 1) with
    | true => rw [hb] at hr; exact eqArr'_ok _ _ _ _ _ hr
    | false => rw [hb] at hr; exact eqParts'_ok h _ _ _ _ _ _ _ hr
  | struct fs =>
    obtain ⟨hg, hr⟩ := guard_some.1 hr
    show Ax.guard (C.eqOk t) _ = _
    rw [hg]
    exact aggs_ok (fun xs ys r hr => eqFields'_ok h xs ys _ r hr) hr
  | _ => exact hr
theorem eqRec_ok (C : Cfg) : ∀ (n : Nat) (t : TypeId) (x y : Value) (r : Bool), (Nat.rec (fun _ _ _ => none) (fun _ ih => eqStep' C ih) n : EqF) t x y = some r → (Nat.rec (fun _ _ _ => none) (fun _ ih => eqStep C ih) n : EqF) t x y = some r
  | 0, _, _, _, _, h => by cases h
  | n + 1, t, x, y, r, h => eqStep'_ok C (eqRec_ok C n) t x y r h
theorem eqBinK_imp (C : Cfg) (t : TypeId) (op : BinOp) (x y : Operand) (a b : Value) (k : Value → Option R) (hop : op = .eql ∨ op = .neq) :
    Imp (eqBinK C t op x y a b k) (Ax.obind (Ax.guard (nilsOk C t x y a b) (binOp C t op a b)) k) := by
  unfold eqBinK
  cases ha : isAggV a with
  | false => exact imp_refl _
  | true =>
    rw [sel_true]
    intro r hr
    obtain ⟨hn, hr1⟩ := guard_some.1 hr
    obtain ⟨q, hq, hr2⟩ := obind_some.1 hr1
    rw [hn]
    have hE : eqAt C t a b = some q := eqRec_ok C 6 t a b q hq
    cases a with
    | agg cs =>
      have hT : eqT C t (.agg cs) b = some q := hE
      rcases hop with rfl | rfl
      · show Ax.obind (Ax.obind (eqT C t (.agg cs) b) fun b => some (.bool b)) k = _
        rw [hT]; exact hr2
      · show Ax.obind (Ax.obind (eqT C t (.agg cs) b) fun b => some (.bool !b)) k = _
        rw [hT]; exact hr2
    | _ => cases ha

theorem mulK_eq (K : KP) (C : Cfg) (t : TypeId) (x y : Operand) (a b : Value) (k : Value → Option R) : mulK K C t x y a b k = obind (guard (nilsOk C t x y a b) (binOp C t .mul a b)) k := by
  cases a with
  | int ka i => cases b with
    | int kb j =>
      show guard (kindEq ka kb) _ = obind (guard (kindEq ka kb) (some (.int ka (wrap ka (mulI i j))))) k
      cases kindEq ka kb with
      | false => rfl
      | true =>
        show _ = k (.int ka (wrap ka (mulI i j)))
        cases ka with
        | u64 =>
          cases i with
          | ofNat p => cases j with
            | ofNat q =>
              show k (.int .u64 (Int.ofNat (blk K.B _))) = _
              rw [blk_eq]
              rfl
            | negSucc q => rfl
          | negSucc p => rfl
        | _ => rfl
    | _ => rfl
  | _ => rfl
theorem shlK_eq (K : KP) (C : Cfg) (t : TypeId) (x y : Operand) (a b : Value) (k : Value → Option R) : shlK K C t x y a b k = obind (guard (nilsOk C t x y a b) (binOp C t .shl a b)) k := by
  cases a with
  | int ka i => cases b with
    | int kb j => cases ka with
      | u64 => cases i with
        | ofNat p => cases j with
          | ofNat q =>
            show k (.int .u64 (Int.ofNat (blk K.B _))) = _
            rw [blk_eq]
            rfl
          | negSucc q => rfl
        | negSucc p => rfl
      | _ => rfl
    | _ => rfl
  | _ => rfl
theorem binK_imp (K : KP) (C : Cfg) (t : TypeId) (op : BinOp) (x y : Operand) (a b : Value) (k : Value → Option R) :
    Imp (binK K C t op x y a b k) (Ax.obind (Ax.guard (nilsOk C t x y a b) (binOp C t op a b)) k) := by
  have hd : ∀ (op : BinOp) (f : IntKind → Int → Int → Int), (∀ ka i kb j, obind (guard (nilsOk C t x y (.int ka i) (.int kb j)) (binOp C t op (.int ka i) (.int kb j))) k = guard (kindEq ka kb) (guard (!eqI j 0) (k (.int ka (f ka i j))))) →
      divK C t op x y f a b k = obind (guard (nilsOk C t x y a b) (binOp C t op a b)) k := fun op f h => by
    cases a with
    | int ka i => cases b with
      | int kb j => exact (h ka i kb j).symm
      | _ => rfl
    | _ => rfl
  cases op with
  | mul => exact imp_of_eq (mulK_eq K C t x y a b k)
  | shl => exact imp_of_eq (shlK_eq K C t x y a b k)
  | eql => exact eqBinK_imp C t .eql x y a b k (.inl rfl)
  | neq => exact eqBinK_imp C t .neq x y a b k (.inr rfl)
  | quo =>
    refine imp_of_eq (hd .quo _ fun ka i kb j => by
    show obind (guard (kindEq ka kb) (guard (!eqI j 0) (some (.int ka (wrap ka (quoI i j)))))) k = _
    cases kindEq ka kb <;> cases eqI j 0 <;> rfl)
  | rem =>
    refine imp_of_eq (hd .rem _ fun ka i kb j => by
    show obind (guard (kindEq ka kb) (guard (!eqI j 0) (some (.int ka (remI i j))))) k = _
    cases kindEq ka kb <;> cases eqI j 0 <;> rfl)
  | sub =>
    refine imp_of_eq ?_
    show subK C t x y a b k = obind (guard (nilsOk C t x y a b) (binOp C t .sub a b)) k
    cases a with
    | int ka i => cases b with
      | int kb j =>
        show guard (kindEq ka kb) _ = obind (guard (kindEq ka kb) (some (.int ka (wrap ka (subI i j))))) k
        cases kindEq ka kb with
        | false => rfl
        | true =>
          show _ = k (.int ka (wrap ka (subI i j)))
          cases ka with
          | u64 =>
            cases i with
            | ofNat p => cases j with
              | ofNat q =>
                show k (.int .u64 (Int.ofNat (subW p q))) = _
                rw [wrap_subW]
              | negSucc q => rfl
            | negSucc p => rfl
          | _ => rfl
      | _ => rfl
    | _ => rfl
  | _ => exact imp_refl _

theorem binOpK_imp (K : KP) (C : Cfg) (ev : Ev) (s : St) (op : BinOp) (t : TypeId) (x y : Operand) (k : Res → Option R) : Imp (Ax.obind (ev x) fun a => Ax.obind (ev y) fun b => binK K C t op x y a b fun v => k (.val v s)) (Ax.obind (oBin C ev s op t x y) k) := by
  unfold oBin
  rw [obind_assoc]
  refine imp_obind _ fun a => ?_
  rw [obind_assoc]
  refine imp_obind _ fun b => ?_
  refine imp_trans (binK_imp K C t op x y a b _) (imp_of_eq ?_)
  cases nilsOk C t x y a b with
  | false => rfl
  | true =>
    show obind (binOp C t op a b) _ = obind (obind (binOp C t op a b) fun v => ret v s) k
    rw [obind_assoc]
    rfl
theorem indexAddrK_eq (C : Cfg) (ev : Ev) (s : St) (t : TypeId) (x i : Operand) (k : Res → Option R) : indexAddrK C ev s t x i k = Ax.obind (oIndexAddr C ev s t x i) k := by
  show indexAddrK C ev s t x i k = obind (oIndexAddr C ev s t x i) k
  unfold indexAddrK oIndexAddr
  rw [obind_assoc]
  refine obind_congr _ fun a => ?_
  rw [obind_assoc]
  refine obind_congr _ fun b => ?_
  rw [obind_assoc]
  refine obind_congr _ fun j => ?_
  have hi : ∀ e len p, idxK C s e len j p k = obind (indexIn C s e len j p) k := fun e len p => by
    unfold idxK indexIn
    rw [guard_obind, obind_assoc]
    rfl
  cases C.P.underlying t with
  | none => rfl
  | some d => cases d with
    | slice e => cases a with
      | slice p len cap => cases p with
        | none => rfl
        | some p => exact hi e len p
      | _ => rfl
    | array len e => cases a with
      | pointer p => cases p with
        | none => rfl
        | some p => exact hi e len p
      | _ => rfl
    | _ => rfl
theorem opK_imp (K : KP) (C : Cfg) (ev : Ev) (s : St) (o : Op) (k : Res → Option R) : Imp (opK K C ev s o k) (Ax.obind (execOp C ev s o) k) := by
  cases o with
  | load t a => exact loadK_imp C ev s t a k
  | store t a x => exact imp_of_eq (storeK_eq C ev s t a x k)
  | slice t x lo hi mx => exact imp_of_eq (cutAnyK_eq C ev s t x lo hi mx k)
  | call c => exact imp_of_eq (callOpK_eq C ev s c k)
  | binOp op t x y p => exact binOpK_imp K C ev s op t x y k
  | indexAddr t x i => exact imp_of_eq (indexAddrK_eq C ev s t x i k)
  | _ => exact imp_refl _

theorem setP_same {α : Type} {a : α} : ∀ (p : Path) (t : Tr α), Tr.getP p t = some a → Tr.setP a p t = t
  | [], .e, h => by cases h
  | [], .n v x y, h => by
    have h : v = some a := h
    rw [h]; rfl
  | b :: p, .e, h => by cases h
  | false :: p, .n v x y, h => by
    show Tr.n v (Tr.setP a p x) y = _
    rw [setP_same p x h]
  | true :: p, .n v x y, h => by
    show Tr.n v x (Tr.setP a p y) = _
    rw [setP_same p y h]
theorem knowL_same {t : Nat} {b : Bool} : ∀ {l : List (Nat × Value)}, findLoc t l = some (.bool b) → knowL t b l = l
  | [], h => by cases h
  | p :: l, h => by
    change Ax.sel (Nat.beq p.1 t) (some p.2) (findLoc t l) = some (.bool b) at h
    show Ax.sel (Nat.beq p.1 t) ((p.1, .bool b) :: l) (p :: knowL t b l) = p :: l
    cases hb : Nat.beq p.1 t with
    | true =>
      rw [hb] at h
      have h : some p.2 = some (Value.bool b) := h
      rw [sel_true, ← Option.some.inj h]
    | false =>
      rw [hb] at h
      rw [sel_false, knowL_same h]
theorem know_same {n t : Nat} {b : Bool} {fr : Fr} (h : fr.ev n (.tmp t) = some (.bool b)) : know n t b fr = fr := by
  obtain ⟨vars, loc, ds⟩ := fr
  change Ax.sel (ltN t n) (vars.get t) (findLoc t loc) = some (.bool b) at h
  unfold know
  cases hb : ltN t n with
  | true =>
    rw [hb] at h
    have h : Tr.getP (path t) vars = some (.bool b) := h
    show Fr.mk (Tr.setP (.bool b) (path t) vars) loc ds = _
    rw [setP_same _ _ h]
  | false =>
    rw [hb] at h
    show Fr.mk vars (knowL t b loc) ds = _
    rw [knowL_same h]
theorem knowO_same {n : Nat} {x : Operand} {b : Bool} {fr : Fr} (h : fr.ev n x = some (.bool b)) : knowO n x b fr = fr := by
  cases x with
  | tmp t => exact know_same h
  | _ => rfl
theorem opFK_imp (K : KP) (C : Cfg) (n : Nat) (fr : Fr) (s : St) (o : Op) (k : Fr → Res → Option R) : Imp (opFK K C n fr s o k) (Ax.obind (execOp C (fr.ev n) s o) (k fr)) := by
  have h0 := opK_imp K C (fr.ev n) s o (k fr)
  cases o with
  | pick c a b =>
    show Imp (pickK C n fr s c a b k) (Ax.obind (oPick C (fr.ev n) s c a b) (k fr))
    unfold pickK oPick
    rw [obind_assoc]
    cases hv : fr.ev n c with
    | none => exact imp_refl _
    | some v => cases v with
      | bool t => cases t with
        | true =>
          show Imp (Ax.obind (oMove C (fr.ev n) s a) (k (knowO n c true fr))) _
          rw [knowO_same hv]
          exact imp_refl _
        | false =>
          show Imp (Ax.obind (oMove C (fr.ev n) s b) (k (knowO n c false fr))) _
          rw [knowO_same hv]
          exact imp_refl _
      | _ => exact imp_refl _
  | _ => exact h0
theorem guardK_imp (n : Nat) (all : List Oper) (g : Option (Nat × Bool)) (fr : Fr) {run skip : Fr → Option R} {y : Bool → Option R} (h1 : Imp (run fr) (y true)) (h2 : Imp (skip fr) (y false)) :
    Imp (guardK n all g fr run skip) (Ax.obind (guardOk n all fr g) y) := by
  cases g with
  | none => exact h1
  | some g =>
    unfold guardK guardOk
    show Imp (Ax.obind (nth all g.1) _) (Ax.obind (Ax.obind (nth all g.1) _) y)
    rw [obind_assoc]
    refine imp_obind _ fun o => ?_
    rw [obind_assoc]
    refine imp_obind _ fun d => ?_
    rw [obind_assoc]
    cases hv : fr.ev n (.tmp d) with
    | none => exact imp_refl _
    | some v => cases v with
      | bool c =>
        obtain ⟨j, b⟩ := g
        cases c with
        | true =>
          show Imp (Ax.sel b (run (know n d true fr)) (skip (know n d true fr))) (y (true == b))
          rw [know_same hv]
          cases b with
          | true => exact h1
          | false => exact h2
        | false =>
          show Imp (Ax.sel b (skip (know n d false fr)) (run (know n d false fr))) (y (false == b))
          rw [know_same hv]
          cases b with
          | true => exact h2
          | false => exact h1
      | _ => exact h2

section
variable {callk : CallK R} {yieldk : YieldK R} {call : CallT} {yield : YieldT}

theorem oneOpK_imp (hc : ∀ f args s k, Imp (callk f args s k) (Ax.obind (call f args s) k)) (hy : ∀ f args s k, Imp (yieldk f args s k) (Ax.obind (yield f args s) k))
    (K : KP) (C : Cfg) (rd : Bool) (n : Nat) (all : List Oper) (o : Oper) {k : FK R} {k0 : OpsK} {g : Fr × St → Option R} (hk : ∀ fr s, Imp (k fr s) (Ax.obind (k0 fr s) g)) (fr : Fr) (s : St) :
    Imp (oneOpK K C callk yieldk rd n all o k fr s) (Ax.obind (oneOp C call yield rd n all o k0 fr s) g) := by
  unfold oneOpK oneOp
  rw [obind_assoc]
  refine guardK_imp n all o.guard fr ?_ (hk _ _)
  show Imp (opFK K C n fr s o.op _) (Ax.obind (Ax.obind (execOp C (fr.ev n) s o.op) _) g)
  rw [obind_assoc]
  exact imp_trans (opFK_imp K C n fr s o.op _) (imp_obind _ fun r => afterK_imp hc hy rd n fr o.dst hk r)

theorem opsK_imp (hc : ∀ f args s k, Imp (callk f args s k) (Ax.obind (call f args s) k)) (hy : ∀ f args s k, Imp (yieldk f args s k) (Ax.obind (yield f args s) k))
    (K : KP) (C : Cfg) (rd : Bool) (n : Nat) (all : List Oper) (k : FK R) : ∀ (ops : List Oper) (fr : Fr) (s : St),
    Imp (opsK K C callk yieldk rd n all ops k fr s) (Ax.obind (execOps C call yield rd n all ops fr s) fun q => k q.1 q.2)
  | [], fr, s => imp_refl _
  | o :: ops, fr, s => oneOpK_imp hc hy K C rd n all o (k := opsK K C callk yieldk rd n all ops k) (k0 := execOps C call yield rd n all ops) (opsK_imp hc hy K C rd n all k ops) fr s

theorem drawOneK_imp (hc : ∀ f args s k, Imp (callk f args s k) (Ax.obind (call f args s) k)) (hy : ∀ f args s k, Imp (yieldk f args s k) (Ax.obind (yield f args s) k))
    (K : KP) (C : Cfg) (rd : Bool) (n : Nat) (all : List Oper) (base : Nat) (a : Info) (rest : List Info) {k : DrawKK R} {k0 : DrawK} {g : Fr × St → Option R} (hk : ∀ cl p fr s, Imp (k cl p fr s) (Ax.obind (k0 cl p fr s) g))
    (cl : Bool) (pend : List Pend) (fr : Fr) (s : St) : Imp (drawOneK K C callk yieldk rd n all base a rest k cl pend fr s) (Ax.obind (drawOne C call yield rd n all base a rest k0 cl pend fr s) g) := by
  unfold drawOneK drawOne
  rw [obind_assoc]
  refine guardK_imp n all a.op.guard fr ?_ (hk _ _ _ _)
  show Imp (ncase a.cls _ _) (Ax.obind (ncase a.cls _ _) g)
  match a.cls with
  | 0 =>
    show Imp (opFK K C n fr s a.op.op _) (Ax.obind (Ax.obind (execOp C (fr.ev n) s a.op.op) _) g)
    rw [obind_assoc]
    refine imp_trans (opFK_imp K C n fr s a.op.op _) (imp_obind _ fun r => ?_)
    cases r with
    | val v s' => exact hk _ _ _ _
    | _ => exact imp_refl _
  | 1 =>
    show Imp (opFK K C n fr s a.op.op _) (Ax.obind (Ax.obind (execOp C (fr.ev n) s a.op.op) _) g)
    rw [obind_assoc]
    refine imp_trans (opFK_imp K C n fr s a.op.op _) (imp_obind _ fun r => ?_)
    cases r with
    | val v s' =>
      show Imp (Ax.guard (quietV s v) _) (Ax.obind (Ax.guard (quietV s v) _) g)
      cases quietV s v with
      | false => exact imp_refl _
      | true => exact hk _ _ _ _
    | _ => exact imp_refl _
  | 2 =>
    show Imp (Ax.obind (aOp C (fr.ev n) a.op.op) _) (Ax.obind (Ax.obind (aOp C (fr.ev n) a.op.op) _) g)
    rw [obind_assoc]
    exact imp_obind _ fun q => hk _ _ _ _
  | m + 3 =>
    show Imp (Ax.obind (execOp C (fr.ev n) s a.op.op) _) (Ax.obind (Ax.obind (execOp C (fr.ev n) s a.op.op) _) g)
    rw [obind_assoc]
    refine imp_obind _ fun r => ?_
    unfold drawLoudK drawLoud
    cases (cl && (quietOp a.op.op && quietCall C r)) with
    | true =>
      rw [sel_true, sel_true]
      refine afterK_imp hc hy rd n fr a.op.dst (fun fr s => ?_) r
      rw [guard_obind]
      exact imp_guard _ fun _ => hk _ _ _ _
    | false =>
      rw [sel_false, sel_false]
      refine afterK_imp hc hy rd n fr a.op.dst (fun fr s => ?_) r
      rw [guard_obind]
      exact imp_guard _ fun _ => hk _ _ _ _

theorem drawLK_imp (hc : ∀ f args s k, Imp (callk f args s k) (Ax.obind (call f args s) k)) (hy : ∀ f args s k, Imp (yieldk f args s k) (Ax.obind (yield f args s) k))
    (K : KP) (C : Cfg) (rd : Bool) (n : Nat) (all : List Oper) (base : Nat) (k : FK R) : ∀ (l : List Info) (cl : Bool) (pend : List Pend) (fr : Fr) (s : St),
    Imp (drawLK K C callk yieldk rd n all base l k cl pend fr s) (Ax.obind (drawL C call yield rd n all base l cl pend fr s) fun q => k q.1 q.2)
  | [], cl, pend, fr, s => imp_refl _
  | a :: rest, cl, pend, fr, s => drawOneK_imp hc hy K C rd n all base a rest (k := drawLK K C callk yieldk rd n all base rest k) (k0 := drawL C call yield rd n all base rest) (drawLK_imp hc hy K C rd n all base k rest) cl pend fr s

theorem drawK_imp (hc : ∀ f args s k, Imp (callk f args s k) (Ax.obind (call f args s) k)) (hy : ∀ f args s k, Imp (yieldk f args s k) (Ax.obind (yield f args s) k))
    (K : KP) (C : Cfg) (rd : Bool) (n : Nat) (all : List Oper) (order : List Nat) (k : FK R) (fr : Fr) (s : St) :
    Imp (drawK K C callk yieldk rd n all order k fr s) (Ax.obind (execDraw C call yield rd n all order fr s) fun q => k q.1 q.2) := by
  unfold drawK execDraw
  rw [obind_assoc]
  exact imp_obind _ fun l => drawLK_imp hc hy K C rd n all s.next k l true [] fr _

theorem iterK_imp {f : XK R → FK R} {f0 : Run} (hf : ∀ k fr s, Imp (f k fr s) (Ax.obind (f0 fr s) (outK k))) (k : XK R) : ∀ (n m : Nat), n ≤ m → ∀ (fr : Fr) (s : St), Imp (iterK f k n fr s) (Ax.obind (iter f0 m fr s) (outK k))
  | 0, _, _, fr, s => imp_none _
  | n + 1, 0, h, fr, s => absurd h (Nat.not_succ_le_zero n)
  | n + 1, m + 1, h, fr, s => by
    show Imp (f (thenK (iterK f k n) k) fr s) (Ax.obind (Ax.obind (f0 fr s) (iterNext (iter f0 m))) (outK k))
    rw [obind_assoc]
    refine imp_trans (hf _ fr s) (imp_obind _ fun r => ?_)
    obtain ⟨ex, fr', s'⟩ := r
    cases ex with
    | normal => exact iterK_imp hf k n m (Nat.le_of_succ_le_succ h) fr' s'
    | exit id => exact imp_refl _
    | ret => exact imp_refl _

/-- a part of a piece of code -/
inductive PartOf : Code → Code → Prop
  | refl (c : Code) : PartOf c c
  | seqL {c a b : Code} (h : PartOf c (.seq a b)) : PartOf c a
  | seqR {c a b : Code} (h : PartOf c (.seq a b)) : PartOf c b
  | condL {c : Code} {x : Operand} {a b : Code} (h : PartOf c (.cond x a b)) : PartOf c a
  | condR {c : Code} {x : Operand} {a b : Code} (h : PartOf c (.cond x a b)) : PartOf c b
  | block {c : Code} {id : Nat} {a : Code} (h : PartOf c (.block id a)) : PartOf c a
  | loop {c a : Code} (h : PartOf c (.loop a)) : PartOf c a
  | scope {c a : Code} (h : PartOf c (.scope a)) : PartOf c a

theorem execK_imp (hc : ∀ f args s k, Imp (callk f args s k) (Ax.obind (call f args s) k)) (hy : ∀ f args s k, Imp (yieldk f args s k) (Ax.obind (yield f args s) k))
    {K : KP} (hL : K.L ≤ 100000) (C : Cfg) (n : Nat) (fn : FuncId) (rd : Bool) {c0 : Code} (hLA : ∀ body fr s r, rd = false → PartOf c0 (.loop body) → K.lalt fn (firstReg body) fr s = some (true, r) → exec C call yield n fn rd (.loop body) fr s = some r) : ∀ (c : Code) (hs : PartOf c0 c) (k : XK R) (fr : Fr) (s : St),
    Imp (execK K C callk yieldk n fn rd c k fr s) (Ax.obind (exec C call yield n fn rd c fr s) (outK k))
  | .skip, hs, k, fr, s => imp_refl _
  | .region id ops draw, hs, k, fr, s => by
    show Imp (Ax.sel draw (drawK K C callk yieldk rd n ops.toList (C.order fn id) (k .normal) fr.fresh s) (opsK K C callk yieldk rd n ops.toList ops.toList (k .normal) fr.fresh s))
      (Ax.obind (Ax.obind (Ax.sel draw (execDraw C call yield rd n ops.toList (C.order fn id) fr.fresh s) (execOps C call yield rd n ops.toList ops.toList fr.fresh s)) fun r => some (.normal, r)) (outK k))
    rw [obind_assoc]
    cases draw with
    | true => exact drawK_imp hc hy K C rd n _ _ _ _ _
    | false => exact opsK_imp hc hy K C rd n _ _ _ _ _
  | .seq a b, hs, k, fr, s => by
    show Imp (execK K C callk yieldk n fn rd a (thenK (execK K C callk yieldk n fn rd b k) k) fr s) (Ax.obind (Ax.obind (exec C call yield n fn rd a fr s) (iterNext (exec C call yield n fn rd b))) (outK k))
    rw [obind_assoc]
    refine imp_trans (execK_imp hc hy hL C n fn rd hLA a (.seqL hs) _ fr s) (imp_obind _ fun r => ?_)
    obtain ⟨ex, fr', s'⟩ := r
    cases ex with
    | normal => exact execK_imp hc hy hL C n fn rd hLA b (.seqR hs) k fr' s'
    | exit id => exact imp_refl _
    | ret => exact imp_refl _
  | .cond c a b, hs, k, fr, s => by
    show Imp (Ax.obind (fr.ev n c) (condK n c (execK K C callk yieldk n fn rd a k) (execK K C callk yieldk n fn rd b k) fr s)) (Ax.obind (Ax.obind (fr.ev n c) (condRun (exec C call yield n fn rd a) (exec C call yield n fn rd b) fr s)) (outK k))
    rw [obind_assoc]
    cases hv : fr.ev n c with
    | none => exact imp_refl _
    | some v => cases v with
      | bool t => cases t with
        | true =>
          show Imp (execK K C callk yieldk n fn rd a k (knowO n c true fr) s) _
          rw [knowO_same hv]
          exact execK_imp hc hy hL C n fn rd hLA a (.condL hs) k fr s
        | false =>
          show Imp (execK K C callk yieldk n fn rd b k (knowO n c false fr) s) _
          rw [knowO_same hv]
          exact execK_imp hc hy hL C n fn rd hLA b (.condR hs) k fr s
      | _ => exact imp_refl _
  | .block id a, hs, k, fr, s => by
    show Imp (execK K C callk yieldk n fn rd a (blockK id k) fr s) (Ax.obind (Ax.obind (exec C call yield n fn rd a fr s) (blockEnd id)) (outK k))
    rw [obind_assoc]
    refine imp_trans (execK_imp hc hy hL C n fn rd hLA a (.block hs) _ fr s) (imp_obind _ fun r => ?_)
    obtain ⟨ex, fr', s'⟩ := r
    cases ex with
    | normal => exact imp_refl _
    | exit id' =>
      show Imp (Ax.sel (Nat.beq id id') _ _) (Ax.obind (Ax.sel (Nat.beq id id') _ _) (outK k))
      cases Nat.beq id id' <;> exact imp_refl _
    | ret => exact imp_refl _
  | .loop a, hs, k, fr, s => by
    have hit := iterK_imp (fun k fr s => execK_imp hc hy hL C n fn rd hLA a (.loop hs) k fr s) k K.L 100000 hL fr s
    show Imp (loopK K fn rd a (iterK (execK K C callk yieldk n fn rd a) k K.L) k fr s) (Ax.obind (exec C call yield n fn rd (.loop a) fr s) (outK k))
    unfold loopK
    cases hrd : rd with
    | true => rw [hrd] at hit; exact hit
    | false =>
      rw [sel_false]
      cases hl : K.lalt fn (firstReg a) fr s with
      | none => rw [hrd] at hit; exact hit
      | some p =>
        obtain ⟨b, r⟩ := p
        intro q hq
        obtain ⟨h1, h2⟩ := guard_some.1 (show Ax.guard b (outK k r) = some q from hq)
        subst h1
        have h3 := hLA a fr s r hrd hs hl
        rw [hrd] at h3
        rw [h3]
        exact h2
  | .rangeFunc f ps asv b, hs, k, fr, s => by
    show Imp (rangeK C callk n fn rd f ps asv b k fr s) (Ax.obind (rangeFunc C call n fn rd f ps asv b fr s) (outK k))
    unfold rangeK rangeFunc
    cases rd with
    | true => exact imp_refl _
    | false =>
      show Imp (Ax.obind (fr.ev n f) _) (Ax.obind (Ax.obind (fr.ev n f) _) (outK k))
      rw [obind_assoc]
      refine imp_obind _ fun v => ?_
      show Imp (rangeCallK C callk fr _ v _ k) (Ax.obind (rangeCall C call fr _ v _) (outK k))
      unfold rangeCallK rangeCall
      rw [obind_assoc]
      refine imp_obind _ fun r => ?_
      cases r with
      | call g args s =>
        show Imp (callk g args s _) (Ax.obind (Ax.obind (call g args s) _) (outK k))
        rw [obind_assoc]
        refine imp_trans (hc g args s _) (imp_obind _ fun q => ?_)
        rw [obind_assoc]
        exact imp_refl _
      | _ => exact imp_refl _
  | .exit id, hs, k, fr, s => imp_refl _
  | .scope a, hs, k, fr, s => by
    show Imp (Ax.sel rd none (execK K C callk yieldk n fn rd a k fr s)) (Ax.obind (Ax.sel rd none (exec C call yield n fn rd a fr s)) (outK k))
    have h := execK_imp hc hy hL C n fn rd hLA a (.scope hs) k fr s
    cases rd with
    | true => exact imp_refl _
    | false => exact h
  | .label l, hs, k, fr, s => imp_refl _
  | .goto l, hs, k, fr, s => imp_refl _
  | .ret, hs, k, fr, s => imp_refl _
  | .refuse w, hs, k, fr, s => imp_refl _

theorem finishK_eq (C : Cfg) (dcall : CallT) (f : FuncId) (k : Value × St → Option R) (r : Ex × Fr × St) : outK (finishK C dcall f k) r = Ax.obind (finish C dcall f r) k := by
  obtain ⟨ex, fr, s⟩ := r
  have h : (Ax.obind (unwind dcall fr.defers s) fun s => Ax.obind (results C.P (C.vars f) fr s (C.results f)) fun vs => k (tuple vs, s)) =
      Ax.obind (Ax.obind (unwind dcall fr.defers s) fun s => Ax.obind (results C.P (C.vars f) fr s (C.results f)) fun vs => some (tuple vs, s)) k := by
    rw [obind_assoc]
    refine obind_congr _ fun s => ?_
    rw [obind_assoc]
    rfl
  cases ex with
  | exit id => rfl
  | normal => exact h
  | ret => exact h

/-- that the calls that are told so come to that -/
def AltOk (K : KP) (C : Cfg) : Prop := ∀ f args c v, K.alt f args = some (c, v) → c = true → ∃ t, C.insert f = some t ∧ ∀ s, runCon C t s args = some (v, s)
theorem altOk_none {L : Nat} {B : Option Bool} {la : FuncId → Nat → Fr → St → Option (Bool × (Ex × Fr × St))} {C : Cfg} : AltOk ⟨L, B, fun _ _ => none, la⟩ C := fun _ _ _ _ h => by cases h

/-- that the loops that are told so come to that -/
def LAltOk (K : KP) (C : Cfg) (call : CallT) (yield : YieldT) : Prop := ∀ fn c body fr s r, C.body fn = some c → PartOf c (.loop body) → K.lalt fn (firstReg body) fr s = some (true, r) → exec C call yield (C.vars fn) fn false (.loop body) fr s = some r
theorem lalt_plain {K : KP} {C : Cfg} {call : CallT} {yield : YieldT} : LAltOk K.plain C call yield := fun _ _ _ _ _ _ _ _ h => by cases h

theorem bodyK_imp (hc : ∀ f args s k, Imp (callk f args s k) (Ax.obind (call f args s) k)) (hy : ∀ f args s k, Imp (yieldk f args s k) (Ax.obind (yield f args s) k))
    {K : KP} (hL : K.L ≤ 100000) (C : Cfg) (hLA : LAltOk K C call yield) (f : FuncId) (args : List Value) (s : St) (k : Value × St → Option R) : Imp (bodyK K C call yield callk yieldk f args s k) (Ax.obind (callBody C call yield f args s) k) := by
  unfold bodyK callBody
  rw [obind_assoc]
  cases hb : C.body f with
  | none => exact imp_refl _
  | some c =>
  show Imp (execK K C callk yieldk (C.vars f) f false c _ _ s) (Ax.obind (Ax.obind (exec C call yield (C.vars f) f false c (startFr args) s) _) k)
  rw [obind_assoc]
  exact imp_trans (execK_imp hc hy hL C _ _ _ (fun body fr s r _ hs h => hLA f c body fr s r hb hs h) c (.refl c) _ _ _) (imp_obind _ fun r => imp_of_eq (finishK_eq C _ f k r))

theorem stepK_imp (hc : ∀ f args s k, Imp (callk f args s k) (Ax.obind (call f args s) k)) (hy : ∀ f args s k, Imp (yieldk f args s k) (Ax.obind (yield f args s) k))
    {K : KP} (hL : K.L ≤ 100000) (C : Cfg) (hA : AltOk K C) (hLA : LAltOk K C call yield) (f : FuncId) (args : List Value) (s : St) (k : Value × St → Option R) : Imp (stepK K C call yield callk yieldk f args s k) (Ax.obind (callStep C call yield f args s) k) := by
  unfold stepK callStep
  cases ha : K.alt f args with
  | some p =>
    obtain ⟨c, v⟩ := p
    intro r hr
    obtain ⟨h1, h2⟩ := guard_some.1 (show Ax.guard c (k (v, s)) = some r from hr)
    obtain ⟨t, ht, hrun⟩ := hA f args c v ha h1
    rw [ht]
    show Ax.obind (Option.casesOn (runCon C t s args) (callBody C call yield f args s) some) k = some r
    rw [hrun s]
    exact h2
  | none =>
    cases C.insert f with
    | none => exact bodyK_imp hc hy hL C hLA f args s k
    | some t =>
      show Imp (Option.casesOn (runCon C t s args) _ _) (Ax.obind (Option.casesOn (runCon C t s args) _ _) k)
      cases runCon C t s args with
      | none => exact bodyK_imp hc hy hL C hLA f args s k
      | some r => exact imp_refl _

theorem yieldStepK_imp (hc : ∀ f args s k, Imp (callk f args s k) (Ax.obind (call f args s) k)) (hy : ∀ f args s k, Imp (yieldk f args s k) (Ax.obind (yield f args s) k))
    {K : KP} (hL : K.L ≤ 100000) (C : Cfg) (l : Nat) (args : List Value) (s : St) (k : Value × St → Option R) : Imp (yieldStepK K C callk yieldk l args s k) (Ax.obind (yieldStep C call yield l args s) k) := by
  unfold yieldStepK yieldStep
  rw [obind_assoc]
  refine imp_obind _ fun r => ?_
  rw [obind_assoc]
  refine imp_obind _ fun vars => ?_
  rw [obind_assoc]
  refine imp_trans (execK_imp (K := K.plain) hc hy hL C _ _ _ (fun _ _ _ _ _ _ h => by cases h) _ (.refl _) _ _ _) (imp_obind _ fun q => ?_)
  obtain ⟨ex, fr, s'⟩ := q
  cases ex with
  | normal =>
    show Imp (Ax.obind (getLoop s' l) _) (Ax.obind (Ax.obind (getLoop s' l) _) k)
    rw [obind_assoc]
    refine imp_obind _ fun r' => ?_
    cases h : r'.state with
    | ready =>
      simp only
      rw [obind_assoc]
      exact imp_trans (execK_imp (K := K.plain) hc hy hL C _ _ _ (fun _ _ _ _ _ _ h => by cases h) _ (.refl _) _ _ _) (imp_refl _)
    | _ => exact imp_refl _
  | exit id => exact imp_refl _
  | ret => exact imp_refl _
end

/-- the same, of a configuration's own calls -/
def LoopsOk (K : KP) (C : Cfg) : Prop := ∀ m, LAltOk K C (runN C (m + 1)).1 (runN C (m + 1)).2
theorem loopsOk_none {L : Nat} {B : Option Bool} {alt : FuncId → List Value → Option (Bool × Value)} {C : Cfg} : LoopsOk ⟨L, B, alt, fun _ _ _ _ => none⟩ C := fun _ _ _ _ _ _ _ _ _ h => by cases h

theorem runK_imp {K : KP} (hL : K.L ≤ 100000) (C : Cfg) (hA : AltOk K C) (hLo : LoopsOk K C) : ∀ (n : Nat), (∀ f args s (k : Value × St → Option R), Imp ((runK K C n).1 f args s k) (Ax.obind ((runN C n).1 f args s) k)) ∧ (∀ l args s (k : Value × St → Option R), Imp ((runK K C n).2 l args s k) (Ax.obind ((runN C n).2 l args s) k))
  | 0 => ⟨fun _ _ _ _ => imp_refl _, fun _ _ _ _ => imp_refl _⟩
  | 1 => ⟨fun f args s k => stepK_imp (K := K.plain) (runK_imp hL C hA hLo 0).1 (runK_imp hL C hA hLo 0).2 hL C hA lalt_plain f args s k, fun l args s k => yieldStepK_imp (runK_imp hL C hA hLo 0).1 (runK_imp hL C hA hLo 0).2 hL C l args s k⟩
  | n + 2 => ⟨fun f args s k => stepK_imp (runK_imp hL C hA hLo (n + 1)).1 (runK_imp hL C hA hLo (n + 1)).2 hL C hA (hLo n) f args s k, fun l args s k => yieldStepK_imp (runK_imp hL C hA hLo (n + 1)).1 (runK_imp hL C hA hLo (n + 1)).2 hL C l args s k⟩

theorem obind_id {α : Type} (x : Option α) : Ax.obind x some = x := by cases x <;> rfl

/-- What a run comes to, all at once. -/
theorem runN_of_K {K : KP} (hL : K.L ≤ 100000) {C : Cfg} (hA : AltOk K C) (hLo : LoopsOk K C) {n : Nat} {f : FuncId} {args : List Value} {s : St} {r : Value × St} (h : (runK K C n).1 f args s some = some r) : (runN C n).1 f args s = some r := by
  have := (runK_imp hL C hA hLo n).1 f args s some r h
  rwa [obind_id] at this
/-- The value that a run comes to. -/
theorem runN_of_KV {K : KP} (hL : K.L ≤ 100000) {C : Cfg} (hA : AltOk K C) (hLo : LoopsOk K C) {n : Nat} {f : FuncId} {args : List Value} {s : St} {v : Value} (h : (runK K C n).1 f args s (fun q => some q.1) = some v) : ∃ s', (runN C n).1 f args s = some (v, s') := by
  have := (runK_imp hL C hA hLo n).1 f args s (fun q => some q.1) v h
  obtain ⟨⟨v', s'⟩, h1, h2⟩ := obind_some.1 this
  cases h2
  exact ⟨s', h1⟩
end
end
end Go.Ax

namespace Go.Ax
open Go
section
variable {P : Program} {base : Nat} {ρ ρ1 : Ren} {s s' S0 S1 : St} {w w' : World}

/-- A state that knows less: of the same next id. -/
structure Sub (S0 s : St) : Prop where
  next : S0.next = s.next
  row : ∀ i r, S0.heap.get i = some r → s.heap.get i = some r
  fam : ∀ f l, S0.fams.get f = some l → ∃ l', s.fams.get f = some l' ∧ ∀ j, j ∈ l → j ∈ l'

theorem Sub.tag (hs : Sub S0 s) {i : Nat} {a : Nat × Nat} (h : S0.tag i = some a) : s.tag i = some a := by
  unfold St.tag at h ⊢
  cases hg : S0.heap.get i with
  | none => simp [hg] at h
  | some r =>
    rw [hs.row i r hg]
    simp only [hg] at h
    cases r with
    | row cs e f =>
      simp only at h ⊢
      by_cases h0 : f = 0
      · simpa [h0] using h
      · simp only [h0, if_false] at h ⊢
        cases hf : S0.fams.get f with
        | none => simp [hf] at h
        | some l =>
          obtain ⟨l', h1, h2⟩ := hs.fam f l hf
          simp only [hf] at h
          split at h
          · rename_i hm
            simpa [h1, h2 i hm] using h
          · cases h
    | map es c => exact h
    | loop q => exact h
    | other => exact h

theorem Sub.cells (hs : Sub S0 s) {i : Nat} {c : List Value × TypeId × Nat} (h : S0.cells i = some c) : s.cells i = some c := by
  obtain ⟨cs, e, f⟩ := c
  obtain ⟨h1, h2⟩ := cells_some.1 h
  refine cells_some.2 ⟨hs.row i _ h1, ?_⟩
  rcases h2 with h2 | ⟨l, hl, hm⟩
  · exact .inl h2
  · obtain ⟨l', h3, h4⟩ := hs.fam f l hl
    exact .inr ⟨l', h3, h4 i hm⟩

theorem HR.less (h : HR P base ρ s w) (hs : Sub S0 s) : HR P base ρ S0 w where
  dom := fun i l hi => by rw [hs.next]; exact h.dom i l hi
  next := by rw [hs.next]; exact h.next
  base_le := h.base_le
  low := fun i hi ht => by
    cases ht' : S0.tag i with
    | none => exact absurd ht' ht
    | some a => exact h.low i hi (by rw [hs.tag ht']; simp)
  heap_dom := fun i r hi => by rw [hs.next]; exact h.heap_dom i r (hs.row i r hi)
  fam_dom := fun i cs e f hi => by rw [hs.next]; exact h.fam_dom i cs e f (hs.row i _ hi)
  rows := fun i cs e f hc => h.rows i cs e f (hs.cells hc)
  maps := fun i es c hi => h.maps i es c (hs.row i _ hi)
  loops := fun i r hi => h.loops i r (hs.row i _ hi)
  sep := fun i j a b l l' hi hj => h.sep i j a b l l' (hs.tag hi) (hs.tag hj)

theorem HR.tag_lt (h : HR P base ρ s w) {i : Nat} {a : Nat × Nat} (ht : s.tag i = some a) : i < s.next := by
  cases hg : s.heap.get i with
  | none => unfold St.tag at ht; simp [hg] at ht
  | some r => exact h.heap_dom i r hg

/-- What lies in s' lies in S1, or lay in s and is none of S0's. -/
structure Over (S0 S1 s s' : St) : Prop where
  next : s'.next = S1.next
  dom : ∀ i r, s'.heap.get i = some r → i < S1.next
  fdom : ∀ i cs e f, s'.heap.get i = some (.row cs e f) → f < S1.next
  tag : ∀ i a, s'.tag i = some a → (fixedTop ≤ i ∧ S1.tag i = some a) ∨ (s.tag i = some a ∧ ∀ j, fixedTop ≤ j → S0.tag j ≠ some a)
  cells : ∀ i c, s'.cells i = some c → S1.cells i = some c ∨ (s.cells i = some c ∧ ∀ j, fixedTop ≤ j → S0.tag j ≠ s.tag i)
  maps : ∀ i es c, s'.heap.get i = some (.map es c) → S1.heap.get i = some (.map es c) ∨ (s.heap.get i = some (.map es c) ∧ ∀ j, fixedTop ≤ j → S0.tag j ≠ some (0, i))
  loops : ∀ i q, s'.heap.get i = some (.loop q) → S1.heap.get i = some (.loop q) ∨ (s.heap.get i = some (.loop q) ∧ ∀ j, fixedTop ≤ j → S0.tag j ≠ some (0, i))

/-- WHAT A CALL DOES THAT KNOWS LESS, IT DOES. -/
theorem Goes.over (h : HR P base ρ s w) (hs : Sub S0 s) (hg : Goes P base ρ S0 w ρ1 S1 w') (ho : Over S0 S1 s s') : Goes P base ρ s w ρ1 s' w' := by
  have hle := hg.le
  have unch : ∀ i a l, s.tag i = some a → (∀ j, fixedTop ≤ j → S0.tag j ≠ some a) → ρ.at i = some l → w'.heap[l.blk]? = w.heap[l.blk]? := by
    intro i a l hi hn hl
    refine hg.frame _ (h.blk_lt hi hl) ?_
    rintro ⟨j, q, b, hj, hb, hq, e⟩
    exact h.sep j i b a q l (hs.tag hb) hi (fun e' => hn j hj (by rw [hb, e'])) (by rw [Ren.at_of hj]; exact hq) hl e
  have hold : ∀ i a l, s.tag i = some a → ρ1.at i = some l → ρ.at i = some l := by
    intro i a l hi hl
    by_cases hlo : i < fixedTop
    · rw [Ren.at_low hlo] at hl ⊢; exact hl
    · rw [Ren.at_of (by omega)] at hl ⊢
      rw [← hg.old i (by rw [hs.next]; exact h.tag_lt hi)]; exact hl
  refine ⟨hle, ⟨fun i l hi => ?_, ?_, hg.hr.base_le, fun i hi ht => ?_, fun i r hi => ?_, fun i cs e f hi => ?_, fun i cs e f hc => ?_, fun i es c hi => ?_, fun i r hi => ?_, fun i j a b l l' hi hj hab hl hl' => ?_⟩,
    hg.os, hg.tape, hg.output, hg.grow, ?_, fun b hb hn => ?_, fun b hb => ?_, fun i hi => ?_⟩
  · rw [ho.next]; exact hg.hr.dom i l hi
  · rw [ho.next]; exact hg.hr.next
  · cases ht' : s'.tag i with
    | none => exact absurd ht' ht
    | some a =>
      rcases ho.tag i a ht' with ⟨h1, _⟩ | ⟨h1, _⟩
      · omega
      · exact h.low i hi (by rw [h1]; simp)
  · rw [ho.next]; exact ho.dom i r hi
  · rw [ho.next]; exact ho.fdom i cs e f hi
  · rcases ho.cells i _ hc with h1 | ⟨h1, h2⟩
    · exact hg.hr.rows i cs e f h1
    · obtain ⟨l, hl⟩ := h.rows i cs e f h1
      exact ⟨l, hl.move hle (unch i _ l (tag_cells h1) (fun j hj => by rw [← tag_cells h1]; exact h2 j hj) hl.at_)⟩
  · rcases ho.maps i es c hi with h1 | ⟨h1, h2⟩
    · exact hg.hr.maps i es c h1
    · obtain ⟨l, hl, es', h3, h4⟩ := h.maps i es c h1
      exact ⟨l, hle _ _ hl, es', by rw [unch i _ l (tag_map h1) h2 (by rw [Ren.at_of (h.dom i l hl).1]; exact hl)]; exact h3, h4.mono hle⟩
  · rcases ho.loops i r hi with h1 | ⟨h1, h2⟩
    · exact hg.hr.loops i r h1
    · obtain ⟨l, hl, q, h3, h4⟩ := h.loops i r h1
      exact ⟨l, hle _ _ hl, q, by rw [unch i _ l (tag_loop h1) h2 (by rw [Ren.at_of (h.dom i l hl).1]; exact hl)]; exact h3, h4.mono hle⟩
  · rcases ho.tag i a hi with ⟨hi1, hi2⟩ | ⟨hi1, hi2⟩ <;> rcases ho.tag j b hj with ⟨hj1, hj2⟩ | ⟨hj1, hj2⟩
    · exact hg.hr.sep i j a b l l' hi2 hj2 hab hl hl'
    · have hl2 := hold j b l' hj1 hl'
      have hlt := h.blk_lt hj1 hl2
      rcases hg.own l.blk ⟨i, l, a, hi1, hi2, by have q := hl; rwa [Ren.at_of hi1] at q, rfl⟩ with ⟨k, q, c, hk, hc, hq, e⟩ | hge
      · have := h.sep k j c b q l' (hs.tag hc) hj1 (fun e' => hj2 k hk (by rw [hc, e'])) (by rw [Ren.at_of hk]; exact hq) hl2
        omega
      · omega
    · have hl2 := hold i a l hi1 hl
      have hlt := h.blk_lt hi1 hl2
      rcases hg.own l'.blk ⟨j, l', b, hj1, hj2, by have q := hl'; rwa [Ren.at_of hj1] at q, rfl⟩ with ⟨k, q, c, hk, hc, hq, e⟩ | hge
      · have := h.sep k i c a q l (hs.tag hc) hi1 (fun e' => hi2 k hk (by rw [hc, e'])) (by rw [Ren.at_of hk]; exact hq) hl2
        omega
      · omega
    · exact h.sep i j a b l l' hi1 hj1 hab (hold i a l hi1 hl) (hold j b l' hj1 hl')
  · rw [ho.next, ← hs.next]; exact hg.next
  · exact hg.frame b hb (fun ⟨i, l, a, h1, h2, h3, h4⟩ => hn ⟨i, l, a, h1, hs.tag h2, h3, h4⟩)
  · obtain ⟨i, l, a, h1, h2, h3, h4⟩ := hb
    rcases ho.tag i a h2 with ⟨_, h5⟩ | ⟨h5, _⟩
    · rcases hg.own b ⟨i, l, a, h1, h5, h3, h4⟩ with ⟨j, q, c, g1, g2, g3, g4⟩ | hge
      · exact .inl ⟨j, q, c, g1, hs.tag g2, g3, g4⟩
      · exact .inr hge
    · left
      refine ⟨i, l, a, h1, h5, ?_, h4⟩
      have := hold i a l h5 (by rw [Ren.at_of h1]; exact h3)
      rwa [Ren.at_of h1] at this
  · exact hg.old i (by rw [hs.next]; exact hi)
end

noncomputable section
/-! ### A call at one place of a run, as it was seen -/
structure Tpl where
  bits : Nat := 15
  next : Nat
  args : List Value
  pre : List (Nat × Row)
  fpre : List (Nat × List Nat)
  val : Value
  post : List (Nat × Row)
  fpost : List (Nat × List Nat)
  next' : Nat

def setAll {α : Type} (t : Hp α) : List (Nat × α) → Hp α := fun l => List.rec t (fun p _ ih => ih.set p.1 p.2) l

/-- the low blocks that are known, whatever the types of their elements -/
abbrev Low := List (Nat × List Value)
def lowHp (b : Nat) (t : Nat → TypeId) : Low → Hp Row := fun L => List.rec (.s b 0) (fun x _ h => sel (Nat.ble fixedTop x.1) h (Hp.set h x.1 (.row x.2 (t x.1) 0))) L
def Tpl.start (T : Tpl) (g0 : Low) (t : Nat → TypeId) : St := { heap := setAll (lowHp T.bits t g0) T.pre, fams := setAll (.s T.bits 0) T.fpre, next := T.next }
def Tpl.over (T : Tpl) (s : St) : St := { heap := setAll s.heap T.post, fams := setAll s.fams T.fpost, next := T.next' }

def sameEntry (a b : MapEntry) : Bool := sameV 4 a.key b.key && (sameV 4 a.val b.val && Nat.beq a.born b.born)
def sameEs : List MapEntry → List MapEntry → Bool := fun l =>
  List.rec (fun r => lcase r true (fun _ _ => false)) (fun a _ ih r => lcase r false (fun b t => sel (sameEntry a b) (ih t) false)) l
def sameRow (a b : Row) : Bool :=
  match a with
  | .row cs e f => match b with
    | .row ds e' f' => Nat.beq e e' && (Nat.beq f f' && sameL (sameV 4) cs ds)
    | _ => false
  | .map es c => match b with
    | .map fs d => Nat.beq c d && sameEs es fs
    | _ => false
  | _ => false

def hasRows (h : Hp Row) : List (Nat × Row) → Bool := fun l => List.rec true (fun p _ ih => sel (Option.casesOn (h.get p.1) false fun r => sameRow p.2 r) ih false) l
def allIn (b : List Nat) : List Nat → Bool := fun a => List.rec true (fun x _ ih => sel (elemN x b) ih false) a
def hasFams (h : Hp (List Nat)) : List (Nat × List Nat) → Bool := fun l => List.rec true (fun p _ ih => sel (Option.casesOn (h.get p.1) false fun b => allIn b p.2) ih false) l

def keyed {α : Type} (l : List (Nat × α)) (i : Nat) : Bool := (findT l i).isSome
def allKeyed {α : Type} (l : List (Nat × α)) : List Nat → Bool := fun a => List.rec true (fun x _ ih => sel (keyed l x) ih false) a
def famOf (r : Row) : Nat :=
  match r with
  | .row _ _ f => f
  | _ => 0
def preFine (T : Tpl) : List (Nat × Row) → Bool := fun l => List.rec true (fun p _ ih => sel (Nat.ble fixedTop p.1 && keyed T.post p.1) ih false) l
def postFine (T : Tpl) : List (Nat × Row) → Bool := fun l => List.rec true (fun p _ ih => sel (Nat.ble fixedTop p.1 && (Nat.beq (famOf p.2) 0 || keyed T.fpost (famOf p.2))) ih false) l
def fpreFine (T : Tpl) : List (Nat × List Nat) → Bool := fun l => List.rec true (fun p _ ih => sel (keyed T.fpost p.1) ih false) l
def fpostFine (T : Tpl) : List (Nat × List Nat) → Bool := fun l => List.rec true (fun p _ ih => sel (allKeyed T.post p.2) ih false) l
def Tpl.fine (T : Tpl) : Bool := preFine T T.pre && (postFine T T.post && (fpreFine T T.fpre && fpostFine T T.fpost))

def rowIs (cs : List Value) (r : Row) : Bool :=
  match r with
  | .row cs' _ f => Nat.beq f 0 && sameL (sameV 4) cs cs'
  | _ => false
def lowIs (g0 : Low) (s : St) : Bool := List.rec true (fun x _ ih => sel (Option.casesOn (s.heap.get x.1) false fun r => rowIs x.2 r) ih false) g0

def tplF (g0 : Low) (T : Tpl) (s : St) (args : List Value) : Option (Value × St) :=
  guard (Nat.beq s.next T.next && (sameL (sameV 4) T.args args && (lowIs g0 s && (hasRows s.heap T.pre && hasFams s.fams T.fpre)))) (some (T.val, T.over s))

def tplsF (g0 : Low) (l : List Tpl) (s : St) (args : List Value) : Option (Value × St) := List.rec none (fun T _ ih => Option.casesOn (tplF g0 T s args) ih some) l

def tplOk (T : Tpl) (r : Option (Value × St)) : Bool := Option.casesOn r false fun q => sameV 4 T.val q.1 && (Nat.beq q.2.next T.next' && (hasRows q.2.heap T.post && hasFams q.2.fams T.fpost))

theorem findTl_mem {β : Type} {l : List (Nat × β)} {i : Nat} {a : β} (h : findT l i = some a) : (i, a) ∈ l := by
  induction l with
  | nil => cases h
  | cons p t ih =>
    have h : sel (Nat.beq p.1 i) (some p.2) (findT t i) = some a := h
    rw [sel_eq] at h
    split at h
    · rename_i hb
      cases h
      rw [← Nat.eq_of_beq_eq_true hb]
      exact List.mem_cons_self
    · exact List.mem_cons_of_mem _ (ih h)

theorem setAll_get {α : Type} (t : Hp α) (l : List (Nat × α)) (i : Nat) : (setAll t l).get i = match findT l i with
    | some a => some a
    | none => t.get i := by
  induction l with
  | nil => rfl
  | cons p l ih =>
    show (Hp.set (setAll t l) p.1 p.2).get i = match sel (Nat.beq p.1 i) (some p.2) (findT l i) with
      | some a => some a
      | none => t.get i
    rw [Hp.get_set, ih, sel_eq]
    by_cases e : i = p.1
    · subst e; simp
    · have : Nat.beq p.1 i = false := by rw [← Bool.not_eq_true, Nat.beq_eq]; exact fun h => e h.symm
      rw [this, if_neg e]; rfl

theorem setAll_some {α : Type} {t : Hp α} {l : List (Nat × α)} {i : Nat} {a : α} (h : (setAll t l).get i = some a) : findT l i = some a ∨ (findT l i = none ∧ t.get i = some a) := by
  rw [setAll_get] at h
  cases hf : findT l i with
  | none => rw [hf] at h; exact .inr ⟨rfl, h⟩
  | some b => rw [hf] at h; exact .inl h

theorem sameEs_eq : ∀ {l r : List MapEntry}, sameEs l r = true → l = r
  | [], [], _ => rfl
  | [], _ :: _, h => by cases h
  | _ :: _, [], h => by cases h
  | a :: l, b :: r, h => by
    change sel (sameEntry a b) (sameEs l r) false = true at h
    rw [sel_eq] at h
    split at h
    · rename_i hh
      unfold sameEntry at hh
      simp only [Bool.and_eq_true] at hh
      have h1 := sameV_eq 4 hh.1
      have h2 := sameV_eq 4 hh.2.1
      have h3 := Nat.eq_of_beq_eq_true hh.2.2
      rw [sameEs_eq h]
      congr 1
      cases a; cases b
      simp only at h1 h2 h3
      subst h1 h2 h3
      rfl
    · cases h

theorem sameRow_eq {a b : Row} (h : sameRow a b = true) : a = b := by
  cases a with
  | row cs e f => cases b with
    | row ds e' f' =>
      have h : (Nat.beq e e' && (Nat.beq f f' && sameL (sameV 4) cs ds)) = true := h
      simp only [Bool.and_eq_true] at h
      rw [Nat.eq_of_beq_eq_true h.1, Nat.eq_of_beq_eq_true h.2.1, sameL_eq (fun a b => sameV_eq 4) h.2.2]
    | _ => cases h
  | map es c => cases b with
    | map fs d =>
      have h : (Nat.beq c d && sameEs es fs) = true := h
      simp only [Bool.and_eq_true] at h
      rw [Nat.eq_of_beq_eq_true h.1, sameEs_eq h.2]
    | _ => cases h
  | _ => cases h

theorem hasRows_mem {h : Hp Row} {l : List (Nat × Row)} (hl : hasRows h l = true) {p : Nat × Row} (hp : p ∈ l) : h.get p.1 = some p.2 := by
  induction l with
  | nil => cases hp
  | cons q t ih =>
    have hl : sel (Option.casesOn (h.get q.1) false fun r => sameRow q.2 r) (hasRows h t) false = true := hl
    rw [sel_eq] at hl
    split at hl
    · rename_i hq
      rcases List.mem_cons.1 hp with rfl | hp
      · cases hg : h.get p.1 with
        | none => rw [hg] at hq; cases hq
        | some r =>
          rw [hg] at hq
          rw [sameRow_eq (show sameRow p.2 r = true from hq)]
      · exact ih hl hp
    · cases hl

theorem allIn_mem {b l : List Nat} (h : allIn b l = true) {j : Nat} (hj : j ∈ l) : j ∈ b := by
  induction l with
  | nil => cases hj
  | cons a t ih =>
    have h : sel (elemN a b) (allIn b t) false = true := h
    rw [sel_eq] at h
    split at h
    · rename_i ha
      rcases List.mem_cons.1 hj with rfl | hj
      · rw [elemN_eq] at ha; simpa using ha
      · exact ih h hj
    · cases h

theorem hasFams_mem {h : Hp (List Nat)} {l : List (Nat × List Nat)} (hl : hasFams h l = true) {p : Nat × List Nat} (hp : p ∈ l) : ∃ b, h.get p.1 = some b ∧ ∀ j, j ∈ p.2 → j ∈ b := by
  induction l with
  | nil => cases hp
  | cons q t ih =>
    have hl : sel (Option.casesOn (h.get q.1) false fun b => allIn b q.2) (hasFams h t) false = true := hl
    rw [sel_eq] at hl
    split at hl
    · rename_i hq
      rcases List.mem_cons.1 hp with rfl | hp
      · cases hg : h.get p.1 with
        | none => rw [hg] at hq; cases hq
        | some b =>
          rw [hg] at hq
          exact ⟨b, rfl, fun j hj => allIn_mem hq hj⟩
      · exact ih hl hp
    · cases hl

theorem all_mem {α : Type} {q : α → Bool} {l : List α} (h : (List.rec true (fun p _ ih => sel (q p) ih false) l : Bool) = true) {p : α} (hp : p ∈ l) : q p = true := by
  induction l with
  | nil => cases hp
  | cons a t ih =>
    have h : sel (q a) (List.rec true (fun p _ ih => sel (q p) ih false) t) false = true := h
    rw [sel_eq] at h
    split at h
    · rename_i ha
      rcases List.mem_cons.1 hp with rfl | hp
      · exact ha
      · exact ih h hp
    · cases h

theorem keyed_some {α : Type} {l : List (Nat × α)} {i : Nat} (h : keyed l i = true) : ∃ a, findT l i = some a := Option.isSome_iff_exists.1 h

section
variable {P : Program} {base : Nat} {ρ ρ1 : Ren} {s s' S1 : St} {w w' : World}

theorem lowHp_get {b : Nat} {t : Nat → TypeId} : ∀ {L : Low} {i : Nat} {r : Row}, (lowHp b t L).get i = some r → i < fixedTop ∧ ∃ x ∈ L, x.1 = i ∧ r = .row x.2 (t i) 0
  | [], i, r, h => by
    have h : (Hp.s b 0 : Hp Row).get i = some r := h
    rw [Hp.get_s] at h
    cases h
  | x :: L, i, r, h => by
    have h : (sel (Nat.ble fixedTop x.1) (lowHp b t L) (Hp.set (lowHp b t L) x.1 (.row x.2 (t x.1) 0))).get i = some r := h
    rw [sel_eq] at h
    split at h
    · obtain ⟨h1, y, hy, h2, h3⟩ := lowHp_get h
      exact ⟨h1, y, List.mem_cons_of_mem _ hy, h2, h3⟩
    · rename_i hb
      rw [Hp.get_set] at h
      split at h
      · rename_i e
        cases h
        subst e
        refine ⟨?_, x, List.mem_cons_self, rfl, rfl⟩
        have : ¬ fixedTop ≤ x.1 := fun hle => hb (Nat.ble_eq_true_of_le hle)
        omega
      · obtain ⟨h1, y, hy, h2, h3⟩ := lowHp_get h
        exact ⟨h1, y, List.mem_cons_of_mem _ hy, h2, h3⟩

def lowType (s : St) (i : Nat) : TypeId :=
  match s.heap.get i with
  | some (.row _ e _) => e
  | _ => 0

theorem lowIs_some : ∀ {g0 : Low}, lowIs g0 s = true → ∀ x ∈ g0, s.heap.get x.1 = some (.row x.2 (lowType s x.1) 0)
  | [], _, x, hx => by cases hx
  | y :: g0, h, x, hx => by
    have h : sel (Option.casesOn (s.heap.get y.1) false fun r => rowIs y.2 r) (lowIs g0 s) false = true := h
    rw [sel_eq] at h
    split at h
    · rename_i hy
      rcases List.mem_cons.1 hx with rfl | hx
      · cases hg : s.heap.get x.1 with
        | none => rw [hg] at hy; cases hy
        | some r =>
          rw [hg] at hy
          cases r with
          | row cs t f =>
            have hy : (Nat.beq f 0 && sameL (sameV 4) x.2 cs) = true := hy
            simp only [Bool.and_eq_true] at hy
            have e : lowType s x.1 = t := by unfold lowType; rw [hg]
            rw [e, Nat.eq_of_beq_eq_true hy.1, sameL_eq (fun a b => sameV_eq 4) hy.2]
          | _ => cases hy
      · exact lowIs_some h x hx
    · cases h

theorem Tpl.sub {g0 : Low} {T : Tpl} {t : Nat → TypeId} (h1 : s.next = T.next) (h2 : ∀ x ∈ g0, s.heap.get x.1 = some (.row x.2 (t x.1) 0)) (h3 : hasRows s.heap T.pre = true) (h4 : hasFams s.fams T.fpre = true) : Sub (T.start g0 t) s where
  next := h1.symm
  row := fun i r hi => by
    rcases setAll_some hi with hf | ⟨_, hg⟩
    · exact hasRows_mem h3 (findTl_mem hf)
    · obtain ⟨_, x, hx, rfl, rfl⟩ := lowHp_get hg
      exact h2 x hx
  fam := fun f l hf => by
    rcases setAll_some hf with hf | ⟨_, hg⟩
    · exact hasFams_mem h4 (findTl_mem hf)
    · rw [Hp.get_s] at hg; cases hg

theorem tag_zero {i j : Nat} (h : s.tag j = some (0, i)) : j = i := by
  unfold St.tag at h
  split at h
  · split at h
    · simpa using h
    · split at h
      · split at h <;> simp at h
      · cases h
  · simpa using h
  · simpa using h
  · cases h

theorem tag_some {j : Nat} {a : Nat × Nat} (h : s.tag j = some a) : ∃ r, s.heap.get j = some r := by
  cases hg : s.heap.get j with
  | none => unfold St.tag at h; simp [hg] at h
  | some r => exact ⟨r, rfl⟩

theorem tag_one {j f : Nat} (h : s.tag j = some (1, f)) : ∃ l, s.fams.get f = some l := by
  unfold St.tag at h
  split at h
  · split at h
    · simp at h
    · split at h
      · rename_i l hl
        split at h
        · simp at h; subst h; exact ⟨l, hl⟩
        · cases h
      · cases h
  · simp at h
  · simp at h
  · cases h

/-- where a row of the new state comes from -/
theorem Tpl.look {g0 : Low} {T : Tpl} {t : Nat → TypeId} (hf : T.fine = true) (hr : hasRows S1.heap T.post = true) (hq : hasFams S1.fams T.fpost = true) {i : Nat} {r : Row} (hi : (T.over s).heap.get i = some r) :
    (fixedTop ≤ i ∧ S1.heap.get i = some r ∧ ∀ f, famOf r = f → f ≠ 0 → ∀ l, (T.over s).fams.get f = some l → i ∈ l → ∃ b, S1.fams.get f = some b ∧ i ∈ b) ∨
    (s.heap.get i = some r ∧ (∀ j, fixedTop ≤ j → (T.start g0 t).tag j ≠ some (0, i)) ∧
      ∀ f, famOf r = f → f ≠ 0 → ∀ l, (T.over s).fams.get f = some l → i ∈ l → (∃ b, s.fams.get f = some b ∧ i ∈ b) ∧ ∀ j, fixedTop ≤ j → (T.start g0 t).tag j ≠ some (1, f)) := by
  unfold Tpl.fine at hf
  simp only [Bool.and_eq_true] at hf
  obtain ⟨f1, f2, f3, f4⟩ := hf
  rcases setAll_some hi with hp | ⟨hn, hg⟩
  · left
    have hm := findTl_mem hp
    have hx := all_mem f2 hm
    simp only [Bool.and_eq_true, Bool.or_eq_true] at hx
    refine ⟨Nat.le_of_ble_eq_true hx.1, hasRows_mem hr hm, ?_⟩
    rintro f rfl h0 l hl hil
    rcases hx.2 with hz | hk
    · exact absurd (Nat.eq_of_beq_eq_true hz) h0
    · obtain ⟨l1, hl1⟩ := keyed_some hk
      rcases setAll_some hl with hl' | ⟨hl', _⟩
      · obtain ⟨b, hb, hs⟩ := hasFams_mem hq (findTl_mem hl')
        exact ⟨b, hb, hs i hil⟩
      · rw [hl1] at hl'; cases hl'
  · right
    refine ⟨hg, ?_, ?_⟩
    · intro j hj hjt
      have e := tag_zero hjt
      subst e
      obtain ⟨q, hq'⟩ := tag_some hjt
      rcases setAll_some hq' with hp | ⟨_, hz⟩
      · have hx := all_mem f1 (findTl_mem hp)
        simp only [Bool.and_eq_true] at hx
        obtain ⟨a, ha⟩ := keyed_some hx.2
        rw [hn] at ha; cases ha
      · obtain ⟨hlt, _⟩ := lowHp_get hz
        omega
    · rintro f rfl h0 l hl hil
      rcases setAll_some hl with hl' | ⟨hl', hl2⟩
      · have hx := all_mem f4 (findTl_mem hl')
        have := all_mem (q := fun x => keyed T.post x) hx hil
        obtain ⟨a, ha⟩ := keyed_some this
        rw [hn] at ha; cases ha
      · refine ⟨⟨l, hl2, hil⟩, ?_⟩
        intro j hj hjt
        obtain ⟨l1, hl1⟩ := tag_one hjt
        rcases setAll_some hl1 with hp | ⟨_, hz⟩
        · have hx := all_mem f3 (findTl_mem hp)
          obtain ⟨a, ha⟩ := keyed_some hx
          rw [hl'] at ha; cases ha
        · rw [Hp.get_s] at hz; cases hz

theorem Tpl.over_ok {g0 : Low} {T : Tpl} {t : Nat → TypeId} (hf : T.fine = true) (hr : hasRows S1.heap T.post = true) (hq : hasFams S1.fams T.fpost = true) (hn : S1.next = T.next')
    (hd : ∀ i r, S1.heap.get i = some r → i < S1.next) (hfd : ∀ i cs e f, S1.heap.get i = some (.row cs e f) → f < S1.next)
    (hd0 : ∀ i r, s.heap.get i = some r → i < S1.next) (hfd0 : ∀ i cs e f, s.heap.get i = some (.row cs e f) → f < S1.next) : Over (T.start g0 t) S1 s (T.over s) where
  next := hn.symm
  dom := fun i r hi => by
    rcases Tpl.look (g0 := g0) (t := t) hf hr hq hi with ⟨_, h, _⟩ | ⟨h, _⟩
    · exact hd i r h
    · exact hd0 i r h
  fdom := fun i cs e f hi => by
    rcases Tpl.look (g0 := g0) (t := t) hf hr hq hi with ⟨_, h, _⟩ | ⟨h, _⟩
    · exact hfd i cs e f h
    · exact hfd0 i cs e f h
  tag := fun i a hi => by
    obtain ⟨r, hr'⟩ := tag_some hi
    have hlook := Tpl.look (g0 := g0) (t := t) hf hr hq hr'
    unfold St.tag at hi
    rw [hr'] at hi
    cases r with
    | row cs e f =>
      simp only at hi
      by_cases h0 : f = 0
      · simp only [h0, if_true] at hi
        cases hi
        rcases hlook with ⟨h1, h2, _⟩ | ⟨h1, h2, _⟩
        · exact .inl ⟨h1, by unfold St.tag; rw [h2]; simp [h0]⟩
        · exact .inr ⟨by unfold St.tag; rw [h1]; simp [h0], h2⟩
      · simp only [h0, if_false] at hi
        split at hi
        · rename_i l hl
          split at hi
          · rename_i hm
            cases hi
            rcases hlook with ⟨h1, h2, h3⟩ | ⟨h1, h2, h3⟩
            · obtain ⟨b, hb, hib⟩ := h3 f rfl h0 l hl hm
              exact .inl ⟨h1, by unfold St.tag; rw [h2]; simp [h0, hb, hib]⟩
            · obtain ⟨⟨b, hb, hib⟩, h4⟩ := h3 f rfl h0 l hl hm
              exact .inr ⟨by unfold St.tag; rw [h1]; simp [h0, hb, hib], h4⟩
          · cases hi
        · cases hi
    | map es c =>
      cases hi
      rcases hlook with ⟨h1, h2, _⟩ | ⟨h1, h2, _⟩
      · exact .inl ⟨h1, tag_map h2⟩
      · exact .inr ⟨tag_map h1, h2⟩
    | loop q =>
      cases hi
      rcases hlook with ⟨h1, h2, _⟩ | ⟨h1, h2, _⟩
      · exact .inl ⟨h1, tag_loop h2⟩
      · exact .inr ⟨tag_loop h1, h2⟩
    | other => cases hi
  cells := fun i c hc => by
    obtain ⟨cs, e, f⟩ := c
    obtain ⟨h1, h2⟩ := cells_some.1 hc
    rcases Tpl.look (g0 := g0) (t := t) hf hr hq h1 with ⟨_, g1, g2⟩ | ⟨g1, g2, g3⟩
    · left
      refine cells_some.2 ⟨g1, ?_⟩
      rcases h2 with h2 | ⟨l, hl, hm⟩
      · exact .inl h2
      · by_cases h0 : f = 0
        · exact .inl h0
        · exact .inr (g2 f rfl h0 l hl hm)
    · right
      by_cases h0 : f = 0
      · have hc' : s.cells i = some (cs, e, f) := cells_some.2 ⟨g1, .inl h0⟩
        refine ⟨hc', fun j hj => ?_⟩
        rw [tag_cells hc', if_pos h0]
        exact g2 j hj
      · rcases h2 with h2 | ⟨l, hl, hm⟩
        · exact absurd h2 h0
        · obtain ⟨h3, h4⟩ := g3 f rfl h0 l hl hm
          have hc' : s.cells i = some (cs, e, f) := cells_some.2 ⟨g1, .inr h3⟩
          refine ⟨hc', fun j hj => ?_⟩
          rw [tag_cells hc', if_neg h0]
          exact h4 j hj
  maps := fun i es c hi => by
    rcases Tpl.look (g0 := g0) (t := t) hf hr hq hi with ⟨_, h, _⟩ | ⟨h, h2, _⟩
    · exact .inl h
    · exact .inr ⟨h, h2⟩
  loops := fun i q hi => by
    rcases Tpl.look (g0 := g0) (t := t) hf hr hq hi with ⟨_, h, _⟩ | ⟨h, h2, _⟩
    · exact .inl h
    · exact .inr ⟨h, h2⟩

/-- A CALL AT ONE PLACE OF A RUN: what it came to in the state that knows what it reaches alone. -/
theorem tpl_sound {C : Cfg} (hK : CfgOk C P) {n : Nat} {f : FuncId} {g0 : Low} {T : Tpl} (hf : T.fine = true) (hrun : ∀ t, tplOk T ((jRunN C n).1 f T.args (T.start g0 t)) = true)
    {args : List Value} {v : Value} (hv : tplF g0 T s args = some (v, s')) {cargs : List Value} (hr : HR P base ρ s w) (ha : VRs ρ args cargs) :
    Calls P f ⟨cargs⟩ w fun e w' => ∃ c ρ', e = .returned c ∧ Goes P base ρ s w ρ' s' w' ∧ VR ρ' v c := by
  obtain ⟨hg, hv⟩ := guard_some.1 hv
  simp only [Bool.and_eq_true] at hg
  obtain ⟨h1, h2, h3, h4, h5⟩ := hg
  have hargs := sameL_eq (fun a b => sameV_eq 4) h2
  have ht := lowIs_some h3
  have hs := Tpl.sub (t := lowType s) (Nat.eq_of_beq_eq_true h1) ht h4 h5
  have hrt := hrun (lowType s)
  rw [jRunN_eq] at hrt
  unfold tplOk at hrt
  cases hrr : (runN C n).1 f T.args (T.start g0 (lowType s)) with
  | none => rw [hrr] at hrt; cases hrt
  | some q =>
    obtain ⟨v1, S1⟩ := q
    rw [hrr] at hrt
    have hrt : (sameV 4 T.val v1 && (Nat.beq S1.next T.next' && (hasRows S1.heap T.post && hasFams S1.fams T.fpost))) = true := hrt
    simp only [Bool.and_eq_true] at hrt
    obtain ⟨g1, g2, g3, g4⟩ := hrt
    have e1 := sameV_eq 4 g1
    cases hv
    subst hargs
    rw [← e1] at hrr
    refine ((runN_ok hK n).1 f T.args _ _ S1 hrr base ρ w cargs (hr.less hs) ha).mono ?_
    rintro e w' ⟨c, ρ', rfl, hgo, hvc⟩
    have hnx : s.next ≤ S1.next := by rw [← hs.next]; exact hgo.next
    exact ⟨c, ρ', rfl, Goes.over hr hs hgo (Tpl.over_ok hf g3 g4 (Nat.eq_of_beq_eq_true g2) hgo.hr.heap_dom hgo.hr.fam_dom
      (fun i r hi => Nat.lt_of_lt_of_le (hr.heap_dom i r hi) hnx) (fun i cs e f hi => Nat.lt_of_lt_of_le (hr.fam_dom i cs e f hi) hnx)), hvc⟩

/-- a call that was seen, by whatever configuration -/
def TplGood (P : Program) (g0 : Low) (f : FuncId) (T : Tpl) : Prop := T.fine = true ∧ ∃ C n, CfgOk C P ∧ ∀ t, tplOk T ((jRunN C n).1 f T.args (T.start g0 t)) = true

/-- several of one function -/
theorem tpls_sound {f : FuncId} {g0 : Low} : ∀ {l : List Tpl}, (∀ T, T ∈ l → TplGood P g0 f T) →
    ∀ {args : List Value} {v : Value}, tplsF g0 l s args = some (v, s') → ∀ {cargs : List Value}, HR P base ρ s w → VRs ρ args cargs →
    Calls P f ⟨cargs⟩ w fun e w' => ∃ c ρ', e = .returned c ∧ Goes P base ρ s w ρ' s' w' ∧ VR ρ' v c
  | [], _, _, _, h, _, _, _ => by cases h
  | T :: l, hl, args, v, h, cargs, hr, ha => by
    have h : Option.casesOn (tplF g0 T s args) (tplsF g0 l s args) some = some (v, s') := h
    cases ht : tplF g0 T s args with
    | none => rw [ht] at h; exact tpls_sound (fun T' h' => hl T' (List.mem_cons_of_mem _ h')) h hr ha
    | some q =>
      rw [ht] at h
      have h : some q = some (v, s') := h
      cases h
      obtain ⟨h1, C, n, hK, h2⟩ := hl T List.mem_cons_self
      exact tpl_sound hK h1 h2 ht hr ha
/-- what is asked of a list of contracts -/
def InsOk (P : Program) (C : Cfg) (L : List (Nat × Con)) : Prop :=
  ∀ f t, findT L f = some t → ∀ args s v s', runCon C t s args = some (v, s') → ∀ base ρ w cargs, HR P base ρ s w → VRs ρ args cargs →
    Calls P f ⟨cargs⟩ w fun e w' => ∃ c ρ', e = .returned c ∧ Goes P base ρ s w ρ' s' w' ∧ VR ρ' v c

theorem InsOk.tpl {C : Cfg} {L : List (Nat × Con)} {f0 : FuncId} {g0 : Low} {l : List Tpl} (hl : ∀ T, T ∈ l → TplGood P g0 f0 T) (hL : InsOk P C L) : InsOk P C ((f0, .fn (tplsF g0 l)) :: L) := by
  intro f t h args s v s' hv base ρ w cargs hr ha
  have h' : sel (Nat.beq f0 f) (some (Con.fn (tplsF g0 l))) (findT L f) = some t := h
  rw [sel_eq] at h'
  split at h'
  · rename_i hb
    cases h'
    have hf : f0 = f := Nat.eq_of_beq_eq_true hb
    subst hf
    exact tpls_sound hl hv hr ha
  · exact hL f t h' args s v s' hv base ρ w cargs hr ha

theorem InsOk.to {C C' : Cfg} {L : List (Nat × Con)} (h : InsOk P C L) (hP : C'.P = C.P) : InsOk P C' L := by
  intro f t hf args s v s' hv
  refine h f t hf args s v s' ?_
  cases t with
  | insert e =>
    have hv : extInsert C' e s args = some (v, s') := hv
    show extInsert C e s args = some (v, s')
    unfold extInsert at hv ⊢
    simp only [hP] at hv
    exact hv
  | closed ok => exact hv
  | fn F => exact hv
  | pure G => exact hv

theorem good_nil {f : FuncId} {g0 : Low} : ∀ T, T ∈ ([] : List Tpl) → TplGood P g0 f T := fun _ h => absurd h List.not_mem_nil
theorem good_cons {f : FuncId} {g0 : Low} {T : Tpl} {l : List Tpl} (h : TplGood P g0 f T) (hl : ∀ T, T ∈ l → TplGood P g0 f T) : ∀ T', T' ∈ T :: l → TplGood P g0 f T' := fun T' h' => by
  rcases List.mem_cons.1 h' with e | e
  · exact e ▸ h
  · exact hl T' e
end
end
end Go.Ax

set_option maxRecDepth 1000000
namespace Go.Ax
open Go
noncomputable section

/-! a contract of integers more -/
theorem InsOk.pure {P : Program} {C C0 : Cfg} {L : List (Nat × Con)} (hK : CfgOk C0 P) {n : Nat} {f0 : FuncId} {G : List Value → Option Value}
    (hrun : ∀ args v, freeAll args = true → G args = some v → ∃ s1, (runN C0 n).1 f0 args noneSt = some (v, s1)) (hL : InsOk P C L) : InsOk P C ((f0, .pure G) :: L) := by
  intro f t h args s v s' hv base ρ w cargs hr ha
  have h' : sel (Nat.beq f0 f) (some (Con.pure G)) (findT L f) = some t := h
  rw [sel_eq] at h'
  split at h'
  · rename_i hb
    cases h'
    have hf : f0 = f := Nat.eq_of_beq_eq_true hb
    subst hf
    exact conPure_sound hK hrun hv hr ha
  · exact hL f t h' args s v s' hv base ρ w cargs hr ha
theorem eqI_self (a : Int) : eqI a a = true := by rw [eqI_eq]; simp
/-- a part of a piece of code: 0 the first, 1 the second below -/
def Cat (c : Code) (p : List Nat) : Code :=
  List.rec (fun c => c) (fun j _ ih c => ih (Code.casesOn c .skip (fun _ _ _ => .skip) (fun a b => ncase j a fun _ => b) (fun _ a b => ncase j a fun _ => b) (fun _ a => a) (fun a => a) (fun _ _ a b => ncase j a fun _ => b) (fun _ => .skip) (fun a => a) (fun _ => .skip) (fun _ => .skip) .skip (fun _ => .skip))) p c
theorem exec_of_K {K : KP} (hL : K.L ≤ 100000) {C : Cfg} (hA : AltOk K C) (hLo : LoopsOk K C) {m n : Nat} {fn : FuncId} {c : Code} {fr : Fr} {s : St} {r : Ex × Fr × St}
    (h : execK K.plain C (runK K C m).1 (runK K C m).2 n fn false c (fun ex fr s => some (ex, fr, s)) fr s = some r) : exec C (runN C m).1 (runN C m).2 n fn false c fr s = some r := by
  have h1 := execK_imp (K := K.plain) (runK_imp hL C hA hLo m).1 (runK_imp hL C hA hLo m).2 hL C n fn false (c0 := c) (fun _ _ _ _ _ _ h => by cases h) c (.refl c) (fun ex fr s => some (ex, fr, s)) fr s r h
  have h2 : ∀ x : Option (Ex × Fr × St), obind x (outK fun ex fr s => some (ex, fr, s)) = x := fun x => by cases x <;> rfl
  rwa [h2] at h1
theorem InsOk.nil {P : Program} {C : Cfg} : InsOk P C [] := fun f t h => by cases h

end
end Go.Ax

set_option linter.unusedVariables false
namespace Go.Ax
open Go
noncomputable section

/-! frames of a known form -/
/-- the values of a trie that has exactly this form -/
def unTr (sk : Tr Unit) : Tr Value → Option (List Value) :=
  Tr.rec (fun t => Tr.rec (some []) (fun _ _ _ _ _ => none) t)
    (fun u _ _ ihx ihy t => Tr.rec none (fun v x y _ _ => obind (Option.rec (Option.rec (some []) (fun _ => none) v) (fun _ => Option.rec none (fun v => some [v]) v) u) fun l => obind (ihx x) fun lx => obind (ihy y) fun ly => some (appL l (appL lx ly))) t) sk
/-- what is left of a list behind a form's values, and the trie -/
def mkTrF (sk : Tr Unit) : List Value → Tr Value × List Value :=
  Tr.rec (fun l => (.e, l))
    (fun u _ _ ihx ihy l =>
      let a : Option Value × List Value := Option.rec (none, l) (fun _ => lcase l (none, []) fun v t => (some v, t)) u
      let x := ihx a.2
      let y := ihy x.2
      (.n a.1 x.1 y.1, y.2)) sk
def mkTr (sk : Tr Unit) (l : List Value) : Tr Value := (mkTrF sk l).1

theorem appL_eq' {α : Type} (l r : List α) : appL l r = l ++ r := by
  induction l with
  | nil => rfl
  | cons a l ih => show a :: appL l r = _; rw [ih]; rfl

theorem unTr_ok : ∀ (sk : Tr Unit) (t : Tr Value) (l r : List Value), unTr sk t = some l → mkTrF sk (l ++ r) = (t, r)
  | .e, .e, l, r, h => by cases h; rfl
  | .e, .n _ _ _, l, r, h => by cases h
  | .n u x y, .e, l, r, h => by cases h
  | .n u x y, .n v x' y', l, r, h => by
    obtain ⟨l0, h0, h⟩ := obind_some.1 (show obind (Option.rec (Option.rec (some []) (fun _ => none) v) (fun _ => Option.rec none (fun v => some [v]) v) u) (fun l => obind (unTr x x') fun lx => obind (unTr y y') fun ly => some (appL l (appL lx ly))) = some l from h)
    obtain ⟨lx, hx, h⟩ := obind_some.1 h
    obtain ⟨ly, hy, h⟩ := obind_some.1 h
    cases h
    simp only [appL_eq', List.append_assoc]
    cases u with
    | none => cases v with
      | some v => cases h0
      | none =>
        cases h0
        show (Tr.n none (mkTrF x (lx ++ (ly ++ r))).1 (mkTrF y (mkTrF x (lx ++ (ly ++ r))).2).1, (mkTrF y (mkTrF x (lx ++ (ly ++ r))).2).2) = _
        rw [unTr_ok x x' lx (ly ++ r) hx, unTr_ok y y' ly r hy]
    | some u => cases v with
      | none => cases h0
      | some v =>
        cases h0
        show (Tr.n (some v) (mkTrF x (lx ++ (ly ++ r))).1 (mkTrF y (mkTrF x (lx ++ (ly ++ r))).2).1, (mkTrF y (mkTrF x (lx ++ (ly ++ r))).2).2) = _
        rw [unTr_ok x x' lx (ly ++ r) hx, unTr_ok y y' ly r hy]
theorem unTr_eq {sk : Tr Unit} {t : Tr Value} {l : List Value} (h : unTr sk t = some l) : t = mkTr sk l := by
  have := unTr_ok sk t l [] h
  rw [List.append_nil] at this
  unfold mkTr
  rw [this]

/-! the loops of a piece of code -/
def loopsIn (c : Code) : List Code :=
  Code.rec (motive := fun _ => List Code) [] (fun _ _ _ => []) (fun _ _ a b => appL a b) (fun _ _ _ a b => appL a b) (fun _ _ a => a) (fun b a => b :: a) (fun _ _ _ _ _ _ => []) (fun _ => []) (fun _ a => a) (fun _ => []) (fun _ => []) [] (fun _ => []) c
theorem loopsIn_part {c d : Code} (h : PartOf c d) : ∀ b, b ∈ loopsIn d → b ∈ loopsIn c := by
  induction h with
  | refl => exact fun b h => h
  | @seqL a b _ ih => exact fun x hx => ih x (by show x ∈ appL (loopsIn a) (loopsIn b); rw [appL_eq']; exact List.mem_append_left _ hx)
  | @seqR a b _ ih => exact fun x hx => ih x (by show x ∈ appL (loopsIn a) (loopsIn b); rw [appL_eq']; exact List.mem_append_right _ hx)
  | @condL x a b _ ih => exact fun y hy => ih y (by show y ∈ appL (loopsIn a) (loopsIn b); rw [appL_eq']; exact List.mem_append_left _ hy)
  | @condR x a b _ ih => exact fun y hy => ih y (by show y ∈ appL (loopsIn a) (loopsIn b); rw [appL_eq']; exact List.mem_append_right _ hy)
  | @block id a _ ih => exact fun y hy => ih y hy
  | @loop a _ ih => exact fun y hy => ih y (List.mem_cons_of_mem _ hy)
  | @scope a _ ih => exact fun y hy => ih y hy
theorem loop_mem {c b : Code} (h : PartOf c (.loop b)) : b ∈ loopsIn c := loopsIn_part h b List.mem_cons_self

/-- what is told of one loop, ahead of what is told of others -/
def laltCons (fn id : Nat) (F : Fr → St → Option (Bool × (Ex × Fr × St))) (r : FuncId → Nat → Fr → St → Option (Bool × (Ex × Fr × St))) : FuncId → Nat → Fr → St → Option (Bool × (Ex × Fr × St)) :=
  fun f i fr s => sel (Nat.beq f fn && Nat.beq i id) (F fr s) (r f i fr s)

theorem LoopsOk.cons {K : KP} {C : Cfg} {fn id : Nat} {F : Fr → St → Option (Bool × (Ex × Fr × St))} {r : FuncId → Nat → Fr → St → Option (Bool × (Ex × Fr × St))} {B : Code}
    (hu : ∀ c, C.body fn = some c → ∀ b, b ∈ loopsIn c → firstReg b = id → b = B)
    (hF : ∀ m fr s q, F fr s = some (true, q) → exec C (runN C (m + 1)).1 (runN C (m + 1)).2 (C.vars fn) fn false (.loop B) fr s = some q)
    (hr : LoopsOk { K with lalt := r } C) : LoopsOk { K with lalt := laltCons fn id F r } C := by
  intro m f c body fr s q hc hp hl
  have hl0 : sel (Nat.beq f fn && Nat.beq (firstReg body) id) (F fr s) (r f (firstReg body) fr s) = some (true, q) := hl
  cases hb : (Nat.beq f fn && Nat.beq (firstReg body) id) with
  | true =>
    rw [hb] at hl0
    simp only [Bool.and_eq_true] at hb
    have h1 : f = fn := Nat.eq_of_beq_eq_true hb.1
    have h2 : firstReg body = id := Nat.eq_of_beq_eq_true hb.2
    subst h1
    have h3 := hu c hc body (loop_mem hp) h2
    subst h3
    exact hF m fr s q hl0
  | false =>
    rw [hb] at hl0
    exact hr m f c body fr s q hc hp hl0
end
end Go.Ax

namespace Go.Ax
open Go
variable {P : Program}

/-- that a function is one of the library's without a body, and which -/
def extChk (P : Program) (f : FuncId) : Bool :=
  match P.funcs[f]? with
  | some fn => !(fn.name == "runtime.NumGoroutine") && fn.body.isNone && (Extern.findNext fn).isNone
  | none => false

theorem run_ext {f : FuncId} (h : extChk P f = true) {e : Array Value → Sem Value} (he : (P.funcs[f]?).bind Extern.find = some e) (args : Array Value) (w : World) :
    (callFunc f args).run P w = ((e args).run P w).andThen fun v w' => .ok (.value v) w' := by
  unfold extChk at h
  cases hf : P.funcs[f]? with
  | none => rw [hf] at h; cases h
  | some fn =>
    rw [hf] at h he
    simp only [Bool.and_eq_true, Bool.not_eq_true'] at h
    have hn : Extern.findNext fn = none := by
      cases hx : Extern.findNext fn with
      | none => rfl
      | some y => rw [hx] at h; exact absurd h.2 (by intro q; cases q)
    exact run_callFunc_extern hf h.1.1 h.1.2 hn he args w

theorem run_three (k1 k2 k3 : IntKind) (x y c : Nat) (hc : c ≤ 1) (n : String) (w : World) :
    (Extern.MathBitsCarry.three n #[.int k1 (Int.ofNat x), .int k2 (Int.ofNat y), .int k3 (Int.ofNat c)]).run P w = .ok (x, y, c) w := by
  have : c = 0 ∨ c = 1 := by omega
  rcases this with rfl | rfl <;> rfl

theorem add64_sound {C : Cfg} {f : FuncId} (h : extChk P f = true) (he : (P.funcs[f]?).bind Extern.find = some add64Entry) : ExtSound C P f .add64 := by
  intro base ρ s s' w args cargs v hr ha hv
  obtain ⟨k1, k2, k3, x, y, c, rfl, hv⟩ := ext_int3 ha (show nat3 args (fun x y c => extAdd64 x y c s) = some (v, s') from hv)
  obtain ⟨hc, hv⟩ := guard_some.1 hv
  have hc : c ≤ 1 := Nat.le_of_ble_eq_true hc
  cases hv
  refine ⟨_, ρ, w, ?_, Goes.refl hr, .tuple (.cons (.int _ _) (.cons (.int _ _) .nil))⟩
  rw [run_ext h he]
  unfold add64Entry
  simp only [Sem.run_bind, run_three k1 k2 k3 x y c hc, Result.andThen_ok, Sem.run_pure]
  rfl

theorem sub64_sound {C : Cfg} {f : FuncId} (h : extChk P f = true) (he : (P.funcs[f]?).bind Extern.find = some Go.Proofs.sub64Entry) : ExtSound C P f .sub64 := by
  intro base ρ s s' w args cargs v hr ha hv
  obtain ⟨k1, k2, k3, x, y, c, rfl, hv⟩ := ext_int3 ha (show nat3 args (fun x y c => extSub64 x y c s) = some (v, s') from hv)
  obtain ⟨hc, hv⟩ := guard_some.1 hv
  have hc : c ≤ 1 := Nat.le_of_ble_eq_true hc
  cases hv
  refine ⟨_, ρ, w, ?_, Goes.refl hr, .tuple (.cons (.int _ _) (.cons (.int _ _) .nil))⟩
  rw [run_ext h he]
  unfold Go.Proofs.sub64Entry
  simp only [Sem.run_bind, run_three k1 k2 k3 x y c hc, Result.andThen_ok, Sem.run_pure]
  unfold Extern.MathBitsCarry.pair
  by_cases hx : x < y + c
  · have e : ltN x (Nat.add y c) = true := Nat.ble_eq_true_of_le hx
    rw [if_pos hx, e]; rfl
  · have e : ltN x (Nat.add y c) = false := by
      cases h : ltN x (Nat.add y c) with
      | false => rfl
      | true => exact absurd (Nat.le_of_ble_eq_true h) hx
    rw [if_neg hx, e]; rfl

theorem noEscape_sound {C : Cfg} {f : FuncId} (h : extChk P f = true) (he : (P.funcs[f]?).bind Extern.find = some Extern.AbiNoEscape.same) : ExtSound C P f .noEscape := by
  intro base ρ s s' w args cargs v hr ha hv
  unfold callExt at hv
  cases ha with
  | nil => cases hv
  | cons hx hn =>
    cases hn with
    | nil =>
      cases hv
      refine ⟨_, ρ, w, ?_, Goes.refl hr, hx⟩
      rw [run_ext h he]
      rfl
    | cons hy hn => cases hv
end Go.Ax

