import Derived.Test.YtifhpiilobkjiaaGreatDoorDf
import Derived.Test.YtifhpiilobkjiaaGreatDoorDd
import GoSem.ClaimFn
import GoSem.ClaimGoes
import Derived.Test.YtifhpiilobkjiaaGreatDoorDa
import Derived.ChangeArms
import Derived.OpenShut
namespace Go.Ax
open Go
noncomputable section

section
variable {P : Program} {B : Nat} {C : Cfg}

theorem panIter_succ (f : Run) (g : PanK) (k : Nat) (fr : Fr) (s : St) : panIter f g (k + 1) fr s = Option.casesOn (f fr s) (g fr s) (panNext (panIter f g k)) := rfl

/-- CODE THAT ENDS IN A PANIC. -/
theorem panCode_wp (hK : CfgOk C P) {call : CallT} {yield : YieldT} {pcall : CallT} (hc : CallOk P call) (hy : YieldOk P yield) (hQ : QuietOk C call) (hp : PanOk P pcall) (hmix : P.follows .mixedOrders = true) {order : FuncId → Nat → List Nat} {m n nt : Nat} {fn : FuncId} :
    ∀ (c : Code), okCode nt c = true → noRange c = true → ∀ (fr : Fr) (s : St) (v : Value) (fr' : Fr) (s' : St) (ρ : Ren) (a : Act) (w : World) (Q : Exit → Act → World → Prop),
      panCode C call yield pcall order n fn c fr s = some (v, fr', s') → HR P B ρ s w → FrR none n nt ρ s w fr a →
      (∀ ρ' w' a' c, Goes P B ρ s w ρ' s' w' → FrR none n nt ρ' s' w' fr' a' → VR ρ' v c → Q (.panic [{ v := c, recovered := false }]) a' w') → c.wpIn (Fro none) m P Q a w := by
  intro c
  induction c with
  | region id ops d =>
    intro hok _ fr s v fr' s' ρ a w Q h hr hf hq
    change sel d (panDraw C call yield pcall n ops.toList (order fn id) fr.fresh s) (panOps C call yield pcall n ops.toList ops.toList fr.fresh s) = some (v, fr', s') at h
    cases d with
    | true => exact panDraw_wp hK hc hy hQ hp hmix hok h hr hf.fresh hq
    | false =>
      refine wpIn_region ?_
      rw [List.range_eq_range']
      have := panOps_wp hK hc hy hp (m := m) (Q := Q) hok ops.toList 0 rfl fr.fresh s v fr' s' ρ a w h hr hf.fresh hq
      simpa using this
  | seq x y ihx ihy =>
    intro hok hnr fr s v fr' s' ρ a w Q h hr hf hq
    obtain ⟨o1, o2⟩ := sel_and hok
    obtain ⟨n1, n2⟩ := sel_and hnr
    change (Option.casesOn (exec C call yield n fn false x fr s) (panCode C call yield pcall order n fn x fr s) (panNext (panCode C call yield pcall order n fn y))) = some (v, fr', s') at h
    refine wpIn_seq ?_
    cases hx : exec C call yield n fn false x fr s with
    | none =>
      rw [hx] at h
      exact ihx o1 n1 fr s v fr' s' ρ a w _ h hr hf fun ρ' w' a' c hg hf' hv => hq ρ' w' a' c hg hf' hv
    | some r =>
      rw [hx] at h
      obtain ⟨e1, fr1, s1⟩ := r
      refine exec_wp hK hc hy hQ hmix (ro := none) (m := m) (n := n) (nt := nt) (mk := none) (fn := fn) x o1 (fun _ => n1) fr s e1 fr1 s1 ρ a w _ hx hr hf (fun k hk => by cases hk) ?_
      intro ρ1 w1 a1 hg1 hf1
      cases e1 with
      | normal => exact ihy o2 n2 fr1 s1 v fr' s' ρ1 a1 w1 Q h hg1.hr hf1 fun ρ2 w2 a2 c hg2 hf2 hv => hq ρ2 w2 a2 c (hg1.trans hg2) hf2 hv
      | exit id => cases h
      | ret => cases h
  | cond x y z ihy ihz =>
    intro hok hnr fr s v fr' s' ρ a w Q h hr hf hq
    obtain ⟨o0, o1⟩ := sel_and hok
    obtain ⟨o1, o2⟩ := sel_and o1
    obtain ⟨n1, n2⟩ := sel_and hnr
    change obind (fr.ev n x) (panCond (panCode C call yield pcall order n fn y) (panCode C call yield pcall order n fn z) fr s) = some (v, fr', s') at h
    obtain ⟨u, hu, h⟩ := obind_some.1 h
    have hvr := opnd_vr (ρ := ρ) (a := a) o0 (fun t u _ hu => hf.tmps t u hu) hu
    unfold panCond at h
    split at h
    · rename_i b
      generalize hav : a.eval x = av at hvr
      cases hvr
      rw [sel_eq] at h
      refine wpIn_cond hav ?_
      cases b with
      | true => exact ihy o1 n1 fr s v fr' s' ρ a w Q h hr hf hq
      | false => exact ihz o2 n2 fr s v fr' s' ρ a w Q h hr hf hq
    · cases h
  | block id x ihx =>
    intro hok hnr fr s v fr' s' ρ a w Q h hr hf hq
    refine wpIn_block (ihx hok hnr fr s v fr' s' ρ a w _ h hr hf ?_)
    intro ρ' w' a' c hg hf' hv
    exact hq ρ' w' a' c hg hf' hv
  | loop x ihx =>
    intro hok hnr fr s v fr' s' ρ a w Q h hr hf hq
    change panIter (exec C call yield n fn false x) (panCode C call yield pcall order n fn x) 100000 fr s = some (v, fr', s') at h
    refine wpIn_loop_rounds 100000 ?_
    have key : ∀ (k : Nat) (fr2 : Fr) (s2 : St) (ρ1 : Ren) (a1 : Act) (w1 : World), panIter (exec C call yield n fn false x) (panCode C call yield pcall order n fn x) k fr2 s2 = some (v, fr', s') → Goes P B ρ s w ρ1 s2 w1 → FrR none n nt ρ1 s2 w1 fr2 a1 →
        Code.roundsIn (Fro none) m P x Q k a1 w1 := by
      intro k
      induction k with
      | zero => intro fr2 s2 ρ1 a1 w1 h; cases h
      | succ k ih =>
        intro fr2 s2 ρ1 a1 w1 h hg hf
        rw [panIter_succ] at h
        rw [roundsIn_succ]
        cases hx : exec C call yield n fn false x fr2 s2 with
        | none =>
          rw [hx] at h
          exact ihx hok hnr fr2 s2 v fr' s' ρ1 a1 w1 _ h hg.hr hf fun ρ' w' a' c hg2 hf' hv => hq ρ' w' a' c (hg.trans hg2) hf' hv
        | some r =>
          rw [hx] at h
          obtain ⟨e1, fr1, s1⟩ := r
          refine exec_wp hK hc hy hQ hmix (ro := none) (m := m) (n := n) (nt := nt) (mk := none) (fn := fn) x hok (fun _ => hnr) fr2 s2 e1 fr1 s1 ρ1 a1 w1 _ hx hg.hr hf (fun k hk => by cases hk) ?_
          intro ρ2 w2 a2 hg2 hf2
          cases e1 with
          | normal => exact ih fr1 s1 ρ2 a2 w2 h (hg.trans hg2) hf2
          | exit id => cases h
          | ret => cases h
    exact key 100000 fr s ρ a w h (Goes.refl hr) hf
  | _ =>
    intro _ _ fr s v fr' s' ρ a w Q h hr hf hq
    cases h

theorem no_defers {n nt : Nat} {ρ : Ren} {s : St} {w : World} {fr : Fr} {a : Act} (hf : FrR none n nt ρ s w fr a) (h : fr.defers = []) : a.defers = [] := by
  have hdr := hf.defers
  rw [h] at hdr
  cases hads : a.defers with
  | nil => rfl
  | cons d ds =>
    rw [hads] at hdr
    cases hdr with
    | mark hm hlt hh =>
      obtain ⟨k, hk, _⟩ := hf.nomark _ (by rw [hads]; exact List.mem_cons_self ..) _ rfl
      cases hk

theorem panCall_ok (hK : CfgOk C P) {call : CallT} {yield : YieldT} {pcall : CallT} {order : FuncId → Nat → List Nat} (hc : CallOk P call) (hy : YieldOk P yield) (hQ : QuietOk C call) (hp : PanOk P pcall) : PanOk P (panCall C call yield pcall order) := by
  intro f args s v s' h B ρ w cargs hr ha
  unfold panCall at h
  obtain ⟨c, hb, h⟩ := obind_some.1 h
  obtain ⟨hnr, h⟩ := guard_some.1 h
  obtain ⟨⟨v1, fr1, s1⟩, hex, h⟩ := obind_some.1 h
  obtain ⟨fn, h1, h2, h3, h4, h5⟩ := hK.body f c hb
  refine (callsIn_wide (n := 0)).1 ?_
  refine callsIn_of_wp (F := Fence.wide) (n := 0) h1 h2 trivial ?_
  refine panCode_wp hK hc hy hQ hp hK.mix (m := 0) (n := C.vars f) (nt := fn.ntmps) (fn := f) c h4 hnr (startFr args) s v1 fr1 s1 ρ _ w _ hex hr (start_fr ha none) ?_
  intro ρ' w' a' cv hg hf hv
  change lcase fr1.defers (some (v1, s1)) (fun _ _ => none) = some (v, s') at h
  cases hdf : fr1.defers with
  | cons d ds => rw [hdf] at h; cases h
  | nil =>
    rw [hdf] at h
    cases h
    exact ⟨no_defers hf hdf, cv, ρ', rfl, hg, hv⟩

theorem panN_ok (hK : CfgOk C P) {call : CallT} {yield : YieldT} {order : FuncId → Nat → List Nat} (hc : CallOk P call) (hy : YieldOk P yield) (hQ : QuietOk C call) : ∀ n, PanOk P (panN C call yield order n)
  | 0 => fun f args s v s' h => by cases h
  | n + 1 => panCall_ok hK hc hy hQ (panN_ok hK hc hy hQ n)

/-! ### a deferred function that recovers -/
def stk (c₀ : Frame) (cs : List Frame) (cv : Value) : Bool → List Frame
  | false => c₀ :: cs
  | true => { c₀ with mode := .panicking [{ v := cv, recovered := true }] } :: cs

theorem opsV_cons (n : Nat) (v : Value) (all : List Oper) (o : Oper) (rest : List Oper) (b : Bool) (fr : Fr) (s : St) :
    opsV C n v all (o :: rest) b fr s = obind (guardOk n all fr o.guard) fun g => sel g
      (sel (isRecover o.op) (sel b none (opsV C n v all rest true (fr.put n o.dst v) s)) (obind (execOp C (fr.ev n) s o.op) fun r => match r with
        | .val u s => opsV C n v all rest b (fr.put n o.dst u) s
        | _ => none))
      (opsV C n v all rest b (fr.put n o.dst unit) s) := rfl

theorem opsV_wp (hK : CfgOk C P) {m n nt : Nat} {ops : Array Oper} {c₀ : Frame} {cs : List Frame} {v cv : Value} (hc₀ : c₀.mode = .panicking [{ v := cv, recovered := false }]) {Q : Exit → Act → List Frame → World → Prop}
    (hok : okOpers nt ops.toList = true) : ∀ (rest : List Oper) (k : Nat), ops.toList.drop k = rest → ∀ (b : Bool) (fr : Fr) (s : St) (b' : Bool) (fr' : Fr) (s' : St) (ρ : Ren) (a : Act) (w : World),
      opsV C n v ops.toList rest b fr s = some (b', fr', s') → HR P B ρ s w → FrR none n nt ρ s w fr a → VR ρ v cv →
      (∀ ρ' w' a', Goes P B ρ s w ρ' s' w' → FrR none n nt ρ' s' w' fr' a' → Q .normal a' (stk c₀ cs cv b') w') → wpOpsSIn Fence.wide m P ops Q (List.range' k rest.length) a (stk c₀ cs cv b) w
  | [], k, _, b, fr, s, b', fr', s', ρ, a, w, h, hh, hf, hv, hq => by
    cases h
    exact hq ρ w a (Goes.refl hh) hf
  | o :: rest, k, hd, b, fr, s, b', fr', s', ρ, a, w, h, hh, hf, hv, hq => by
    have ho : ops[k]? = some o := by
      have : (ops.toList.drop k)[0]? = some o := by rw [hd]; rfl
      simpa using this
    have hd' : ops.toList.drop (k + 1) = rest := by
      rw [← List.drop_drop, hd]; rfl
    have hmem : o ∈ ops.toList := List.mem_of_getElem? (by simpa using ho)
    obtain ⟨hdst, hopn⟩ := okOper_some (okOpers_mem hok o hmem)
    rw [opsV_cons] at h
    obtain ⟨g, hg, h⟩ := obind_some.1 h
    have hw := wanted_eq (ρ := ρ) (a := a) hg (fun j o' d b v _ _ _ hv => hf.tmps d v hv)
    show wpOpsSIn Fence.wide m P ops Q (k :: List.range' (k + 1) rest.length) a (stk c₀ cs cv b) w
    simp only [wpOpsSIn, ho, hw]
    refine ⟨fun _ _ => trivial, ?_⟩
    cases g with
    | false =>
      rw [sel_false] at h
      exact opsV_wp hK hc₀ hok rest (k + 1) hd' b _ s b' fr' s' ρ _ w h hh (hf.skip hdst) hv hq
    | true =>
      rw [sel_true] at h
      rw [if_pos rfl]
      cases hrec : isRecover o.op with
      | true =>
        rw [hrec, sel_true] at h
        cases b with
        | true => rw [sel_true] at h; cases h
        | false =>
          rw [sel_false] at h
          rw [run_recover hrec]
          have hcs : recoverD (stk c₀ cs cv false) = some (cv, stk c₀ cs cv true) := by
            show recoverD (c₀ :: cs) = _
            unfold recoverD
            simp only [hc₀]
            rfl
          simp only [hcs]
          have hp := hf.put (df := none) (ds := []) (v := v) (c := cv) hdst hv .none
          exact opsV_wp hK hc₀ hok rest (k + 1) hd' true _ s b' fr' s' ρ _ w h hh hp hv hq
      | false =>
        rw [hrec, sel_false] at h
        obtain ⟨r, hr, h⟩ := obind_some.1 h
        have he := evR_restr (ρ := ρ) (n := n) (fr := fr) (a := a) hopn (fun t v _ ht => hf.tmps t v ht)
        rw [← execOp_restr] at hr
        have hs := op_sound hK hh he hr
        cases r with
        | val u s2 =>
          obtain ⟨ρ', w', c, hrun, hgo, hu⟩ := hs
          have hp := (hf.goes hgo).put (df := none) (ds := []) hdst hu .none
          have hnext := opsV_wp hK hc₀ (m := m) (Q := Q) hok rest (k + 1) hd' b _ s2 b' fr' s' ρ' _ w' h hgo.hr hp (hv.mono hgo.le) (fun ρ'' w'' a'' hgo2 hf2 => hq ρ'' w'' a'' (hgo.trans hgo2) hf2)
          rcases hrun with hrun | ⟨hrun, rfl⟩
          · rw [hrun]; exact hnext
          · rw [hrun]; exact hnext
        | call f args s2 => cases h
        | yield f args s2 => cases h
        | defer f args s2 => cases h

theorem execV_wp (hK : CfgOk C P) {m n nt : Nat} {c₀ : Frame} {cs : List Frame} {v cv : Value} (hc₀ : c₀.mode = .panicking [{ v := cv, recovered := false }]) :
    ∀ (c : Code), okCode nt c = true → ∀ (b : Bool) (fr : Fr) (s : St) (e : Ex) (b' : Bool) (fr' : Fr) (s' : St) (ρ : Ren) (a : Act) (w : World) (Q : Exit → Act → List Frame → World → Prop),
      execV C n v c b fr s = some (e, b', fr', s') → HR P B ρ s w → FrR none n nt ρ s w fr a → VR ρ v cv →
      (∀ ρ' w' a', Goes P B ρ s w ρ' s' w' → FrR none n nt ρ' s' w' fr' a' → Q (exq e) a' (stk c₀ cs cv b') w') → c.wpSIn Fence.wide m P Q a (stk c₀ cs cv b) w := by
  intro c
  induction c with
  | skip =>
    intro _ b fr s e b' fr' s' ρ a w Q h hr hf hv hq
    cases h
    exact wpSIn_of_wpIn rfl (wpIn_skip (hq ρ w a (Goes.refl hr) hf))
  | region id ops d =>
    intro hok b fr s e b' fr' s' ρ a w Q h hr hf hv hq
    change sel d none (obind (opsV C n v ops.toList ops.toList b fr.fresh s) fun r => some (Ex.normal, r)) = some (e, b', fr', s') at h
    cases d with
    | true => cases h
    | false =>
      rw [sel_false] at h
      obtain ⟨⟨b2, fr2, s2⟩, hd, h⟩ := obind_some.1 h
      obtain ⟨rfl, rfl, rfl, rfl⟩ : Ex.normal = e ∧ b2 = b' ∧ fr2 = fr' ∧ s2 = s' := by cases h; exact ⟨rfl, rfl, rfl, rfl⟩
      refine wpSIn_region ?_
      rw [List.range_eq_range']
      have := opsV_wp (P := P) (B := B) hK (m := m) (nt := nt) (cs := cs) hc₀ (Q := Q) hok ops.toList 0 (by simp) b fr.fresh s b2 fr2 s2 ρ a w hd hr hf.fresh hv hq
      simpa using this
  | seq x y ihx ihy =>
    intro hok b fr s e b' fr' s' ρ a w Q h hr hf hv hq
    obtain ⟨h1, h2⟩ := sel_and hok
    change obind (execV C n v x b fr s) (nextV (execV C n v y)) = some (e, b', fr', s') at h
    obtain ⟨⟨e1, b1, fr1, s1⟩, hx, h⟩ := obind_some.1 h
    refine wpSIn_seq (ihx h1 b fr s e1 b1 fr1 s1 ρ a w _ hx hr hf hv ?_)
    intro ρ' w' a' hg hf'
    cases e1 with
    | normal => exact ihy h2 b1 fr1 s1 e b' fr' s' ρ' a' w' Q h hg.hr hf' (hv.mono hg.le) fun ρ2 w2 a2 hg2 hf2 => hq ρ2 w2 a2 (hg.trans hg2) hf2
    | exit id => cases h; exact hq ρ' w' a' hg hf'
    | ret => cases h; exact hq ρ' w' a' hg hf'
  | cond c x y ihx ihy =>
    intro hok b fr s e b' fr' s' ρ a w Q h hr hf hv hq
    obtain ⟨h0, hok⟩ := sel_and hok
    obtain ⟨h1, h2⟩ := sel_and hok
    change obind (fr.ev n c) (condV (execV C n v x) (execV C n v y) b fr s) = some (e, b', fr', s') at h
    obtain ⟨u, hu, h⟩ := obind_some.1 h
    unfold condV at h
    split at h
    case h_2 => cases h
    rename_i t
    rw [sel_eq] at h
    have hvr := opnd_vr (ρ := ρ) (a := a) h0 (fun t u _ hu => hf.tmps t u hu) hu
    generalize hav : a.eval c = av at hvr
    cases hvr
    refine wpSIn_cond hav ?_
    cases t with
    | true => exact ihx h1 b fr s e b' fr' s' ρ a w Q h hr hf hv hq
    | false => exact ihy h2 b fr s e b' fr' s' ρ a w Q h hr hf hv hq
  | ret =>
    intro _ b fr s e b' fr' s' ρ a w Q h hr hf hv hq
    cases h
    exact wpSIn_of_wpIn rfl (wpIn_ret (hq ρ w a (Goes.refl hr) hf))
  | _ =>
    intro _ b fr s e b' fr' s' ρ a w Q h hr hf hv hq
    cases h

theorem recBody_ok (hK : CfgOk C P) {g : FuncId} {args : List Value} {v : Value} {s s' : St} (h : recBody C g args v s = some s') {ρ : Ren} {w : World} {cargs : List Value} {cv : Value} (hr : HR P B ρ s w) (ha : VRs ρ args cargs) (hv : VR ρ v cv) :
    (callFunc g ⟨cargs⟩).run P w = .ok (.enter g ⟨cargs⟩) w ∧ ∀ m, CallsDIn Fence.wide m P g ⟨cargs⟩ (.panicking [{ v := cv, recovered := false }]) w fun e u' w' =>
      (∃ r, e = .returned r) ∧ u' = .panicking [{ v := cv, recovered := true }] ∧ ∃ ρ', Goes P B ρ s w ρ' s' w' := by
  unfold recBody at h
  obtain ⟨c, hb, h⟩ := obind_some.1 h
  obtain ⟨⟨e, b', fr', s2⟩, hex, hfin⟩ := obind_some.1 h
  obtain ⟨fn, h1, h2, h3, h4, h5⟩ := hK.body g c hb
  have h3' : ¬ fn.name = "runtime.NumGoroutine" := by simpa using h3
  refine ⟨by simp [callFunc, h1, h2, h3'], fun m => ?_⟩
  refine callsDIn_of_wpSIn (F := Fence.wide) (n := m) h1 h2 trivial ?_
  intro c₀ cs hc₀
  refine execV_wp hK (m := m) (n := C.vars g) (nt := fn.ntmps) (cs := cs) hc₀ c h4 false (startFr args) s e b' fr' s2 ρ _ w _ hex hr (start_fr ha none) hv ?_
  intro ρ' w' a' hg hf
  have fin : ∀ (hd : guard b' (lcase fr'.defers (obind (results C.P (C.vars g) fr' s2 (C.results g)) fun _ => some s2) (fun _ _ => none)) = some s'),
      a'.defers = [] ∧ ∃ u', stk c₀ cs cv b' = { c₀ with mode := u' } :: cs ∧ ∃ v', (Go.results fn a'.tmps).run P w' = .ok v' w' ∧ ((∃ r, Ending.returned v' = .returned r) ∧ u' = .panicking [{ v := cv, recovered := true }] ∧ ∃ ρ', Goes P B ρ s w ρ' s' w') := by
    intro hd
    obtain ⟨hbt, hd⟩ := guard_some.1 hd
    subst hbt
    cases hdf : fr'.defers with
    | cons d ds => rw [hdf] at hd; cases hd
    | nil =>
      rw [hdf] at hd
      obtain ⟨vs, hvs, hd⟩ := obind_some.1 hd
      cases hd
      rw [hK.prog, h5] at hvs
      obtain ⟨c, g1, g2⟩ := results_sound hg.hr hf.tmps hvs
      exact ⟨no_defers hf hdf, _, rfl, c, g1, ⟨c, rfl⟩, rfl, ρ', hg⟩
  cases e with
  | normal => exact fin hfin
  | ret => exact fin hfin
  | exit id => cases hfin

theorem recCall_ok (hK : CfgOk C P) {call : CallT} {yield : YieldT} {pcall : CallT} {order : FuncId → Nat → List Nat} (hc : CallOk P call) (hy : YieldOk P yield) (hQ : QuietOk C call) (hp : PanOk P pcall) : CallOk P (recCall C call yield pcall order) := by
  intro f args s v s' h B ρ w cargs hr ha
  unfold recCall at h
  obtain ⟨c, hb, h⟩ := obind_some.1 h
  obtain ⟨hnr, h⟩ := guard_some.1 h
  obtain ⟨⟨v1, fr1, s1⟩, hex, h⟩ := obind_some.1 h
  obtain ⟨fn, h1, h2, h3, h4, h5⟩ := hK.body f c hb
  change lcase fr1.defers none (fun d ds => lcase ds (obind (recBody C d.1 d.2 v1 s1) fun s2 => obind (results C.P (C.vars f) fr1 s2 (C.results f)) fun vs => some (Ax.tuple vs, s2)) fun _ _ => none) = some (v, s') at h
  cases hdf : fr1.defers with
  | nil => rw [hdf] at h; cases h
  | cons d ds =>
    rw [hdf] at h
    cases ds with
    | cons d2 ds => cases h
    | nil =>
      obtain ⟨s2, hrb, h⟩ := obind_some.1 h
      obtain ⟨vs, hvs, h⟩ := obind_some.1 h
      cases h
      rw [hK.prog, h5] at hvs
      refine (callsIn_wide (n := 0)).1 ?_
      refine callsIn_of_wp_marks (F := Fence.wide) (n := 0) h1 h2 trivial ?_
      refine panCode_wp hK hc hy hQ hp hK.mix (m := 0) (n := C.vars f) (nt := fn.ntmps) (fn := f) c h4 hnr (startFr args) s v1 fr1 s1 ρ _ w _ hex hr (start_fr ha none) ?_
      intro ρ' w' a' cv hg hf hv
      show LeavesInM Fence.wide 0 P fn a'.tmps _ a'.defers (.panicking [{ v := cv, recovered := false }]) w'
      have hdr := hf.defers
      have hnm := hf.nomark
      rw [hdf] at hdr
      unfold MarksGe at hnm
      generalize a'.defers = ads at hdr hnm
      cases hdr with
      | mark hm hlt hh =>
        obtain ⟨k, hk, _⟩ := hnm _ (List.mem_cons_self ..) _ rfl
        cases hk
      | @cons g gargs first captured d' l ds' ht hargs hvv hrest =>
        cases hrest with
        | mark hm hlt hh =>
          obtain ⟨k, hk, _⟩ := hnm _ (List.mem_cons_of_mem _ (List.mem_cons_self ..)) _ rfl
          cases hk
        | nil =>
          obtain ⟨henter, hD⟩ := recBody_ok hK hrb hg.hr hvv hv
          have hinv : (Go.invoke d'.target d'.args).run P w' = .ok (.enter g ⟨first ++ captured⟩) w' := by
            rw [ht, hargs]
            have e : ((⟨first⟩ : Array Value) ++ ⟨captured⟩) = ⟨first ++ captured⟩ := by simp
            simp only [Go.invoke, e]
            exact henter
          refine ⟨by simp, .inr ⟨(fun h => by cases h), .func g, ⟨captured⟩, g, ⟨first ++ captured⟩, ht, hinv, fun _ _ => trivial, ?_⟩⟩
          refine (hD (0 - 1)).mono ?_
          rintro e u' w2 ⟨⟨r, rfl⟩, rfl, ρ2, hg2⟩
          show LeavesIn Fence.wide 0 P fn a'.tmps _ [] .returning w2
          obtain ⟨c, k1, k2⟩ := results_sound hg2.hr (fun t u hu => (hf.tmps t u hu).mono hg2.le) hvs
          exact ⟨c, k1, c, ρ2, rfl, hg.trans hg2, k2⟩

theorem tryCall_ok (hK : CfgOk C P) {call : CallT} {yield : YieldT} {pcall : CallT} {order : FuncId → Nat → List Nat} (hc : CallOk P call) (hy : YieldOk P yield) (hQ : QuietOk C call) (hp : PanOk P pcall) : CallOk P (tryCall C call yield pcall order) := by
  intro f args s v s' h
  unfold tryCall at h
  cases hd : call f args s with
  | some q =>
    rw [hd] at h
    have h : some q = some (v, s') := h
    cases h
    exact hc f args s v s' hd
  | none =>
    rw [hd] at h
    exact recCall_ok hK hc hy hQ hp f args s v s' h

end
end
end Go.Ax

namespace Go.Ax
open Go
section
variable {P : Program} {base : Nat} {ρ ρ1 : Ren} {s s' S0 S1 : St} {w w' : World}

/-- A state that knows less: of the same next id. -/
structure Sub (S0 s : St) : Prop where
  next : S0.next = s.next
  row : ∀ i r, S0.heap.get i = some r → s.heap.get i = some r
  fam : ∀ f l, S0.fams.get f = some l → ∃ l', s.fams.get f = some l' ∧ ∀ j, j ∈ l → j ∈ l'

theorem Sub.tag (hs : Sub S0 s) {i : Nat} {a : Nat × Nat} (h : S0.tag i = some a) : s.tag i = some a := by
  unfold St.tag at h ⊢
  cases hg : S0.heap.get i with
  | none => simp [hg] at h
  | some r =>
    rw [hs.row i r hg]
    simp only [hg] at h
    cases r with
    | row cs e f =>
      simp only at h ⊢
      by_cases h0 : f = 0
      · simpa [h0] using h
      · simp only [h0, if_false] at h ⊢
        cases hf : S0.fams.get f with
        | none => simp [hf] at h
        | some l =>
          obtain ⟨l', h1, h2⟩ := hs.fam f l hf
          simp only [hf] at h
          split at h
          · rename_i hm
            simpa [h1, h2 i hm] using h
          · cases h
    | map es c => exact h
    | loop q => exact h
    | other => exact h

theorem Sub.cells (hs : Sub S0 s) {i : Nat} {c : List Value × TypeId × Nat} (h : S0.cells i = some c) : s.cells i = some c := by
  obtain ⟨cs, e, f⟩ := c
  obtain ⟨h1, h2⟩ := cells_some.1 h
  refine cells_some.2 ⟨hs.row i _ h1, ?_⟩
  rcases h2 with h2 | ⟨l, hl, hm⟩
  · exact .inl h2
  · obtain ⟨l', h3, h4⟩ := hs.fam f l hl
    exact .inr ⟨l', h3, h4 i hm⟩

theorem HR.less (h : HR P base ρ s w) (hs : Sub S0 s) : HR P base ρ S0 w where
  dom := fun i l hi => by rw [hs.next]; exact h.dom i l hi
  next := by rw [hs.next]; exact h.next
  base_le := h.base_le
  low := fun i hi ht => by
    cases ht' : S0.tag i with
    | none => exact absurd ht' ht
    | some a => exact h.low i hi (by rw [hs.tag ht']; simp)
  heap_dom := fun i r hi => by rw [hs.next]; exact h.heap_dom i r (hs.row i r hi)
  fam_dom := fun i cs e f hi => by rw [hs.next]; exact h.fam_dom i cs e f (hs.row i _ hi)
  rows := fun i cs e f hc => h.rows i cs e f (hs.cells hc)
  maps := fun i es c hi => h.maps i es c (hs.row i _ hi)
  loops := fun i r hi => h.loops i r (hs.row i _ hi)
  sep := fun i j a b l l' hi hj => h.sep i j a b l l' (hs.tag hi) (hs.tag hj)

theorem HR.tag_lt (h : HR P base ρ s w) {i : Nat} {a : Nat × Nat} (ht : s.tag i = some a) : i < s.next := by
  cases hg : s.heap.get i with
  | none => unfold St.tag at ht; simp [hg] at ht
  | some r => exact h.heap_dom i r hg

/-- What lies in s' lies in S1, or lay in s and is none of S0's. -/
structure Over (S0 S1 s s' : St) : Prop where
  next : s'.next = S1.next
  dom : ∀ i r, s'.heap.get i = some r → i < S1.next
  fdom : ∀ i cs e f, s'.heap.get i = some (.row cs e f) → f < S1.next
  tag : ∀ i a, s'.tag i = some a → (fixedTop ≤ i ∧ S1.tag i = some a) ∨ (s.tag i = some a ∧ ∀ j, fixedTop ≤ j → S0.tag j ≠ some a)
  cells : ∀ i c, s'.cells i = some c → S1.cells i = some c ∨ (s.cells i = some c ∧ ∀ j, fixedTop ≤ j → S0.tag j ≠ s.tag i)
  maps : ∀ i es c, s'.heap.get i = some (.map es c) → S1.heap.get i = some (.map es c) ∨ (s.heap.get i = some (.map es c) ∧ ∀ j, fixedTop ≤ j → S0.tag j ≠ some (0, i))
  loops : ∀ i q, s'.heap.get i = some (.loop q) → S1.heap.get i = some (.loop q) ∨ (s.heap.get i = some (.loop q) ∧ ∀ j, fixedTop ≤ j → S0.tag j ≠ some (0, i))

/-- WHAT A CALL DOES THAT KNOWS LESS, IT DOES. -/
theorem Goes.over (h : HR P base ρ s w) (hs : Sub S0 s) (hg : Goes P base ρ S0 w ρ1 S1 w') (ho : Over S0 S1 s s') : Goes P base ρ s w ρ1 s' w' := by
  have hle := hg.le
  have unch : ∀ i a l, s.tag i = some a → (∀ j, fixedTop ≤ j → S0.tag j ≠ some a) → ρ.at i = some l → w'.heap[l.blk]? = w.heap[l.blk]? := by
    intro i a l hi hn hl
    refine hg.frame _ (h.blk_lt hi hl) ?_
    rintro ⟨j, q, b, hj, hb, hq, e⟩
    exact h.sep j i b a q l (hs.tag hb) hi (fun e' => hn j hj (by rw [hb, e'])) (by rw [Ren.at_of hj]; exact hq) hl e
  have hold : ∀ i a l, s.tag i = some a → ρ1.at i = some l → ρ.at i = some l := by
    intro i a l hi hl
    by_cases hlo : i < fixedTop
    · rw [Ren.at_low hlo] at hl ⊢; exact hl
    · rw [Ren.at_of (by omega)] at hl ⊢
      rw [← hg.old i (by rw [hs.next]; exact h.tag_lt hi)]; exact hl
  refine ⟨hle, ⟨fun i l hi => ?_, ?_, hg.hr.base_le, fun i hi ht => ?_, fun i r hi => ?_, fun i cs e f hi => ?_, fun i cs e f hc => ?_, fun i es c hi => ?_, fun i r hi => ?_, fun i j a b l l' hi hj hab hl hl' => ?_⟩,
    hg.os, hg.tape, hg.output, hg.grow, ?_, fun b hb hn => ?_, fun b hb => ?_, fun i hi => ?_⟩
  · rw [ho.next]; exact hg.hr.dom i l hi
  · rw [ho.next]; exact hg.hr.next
  · cases ht' : s'.tag i with
    | none => exact absurd ht' ht
    | some a =>
      rcases ho.tag i a ht' with ⟨h1, _⟩ | ⟨h1, _⟩
      · omega
      · exact h.low i hi (by rw [h1]; simp)
  · rw [ho.next]; exact ho.dom i r hi
  · rw [ho.next]; exact ho.fdom i cs e f hi
  · rcases ho.cells i _ hc with h1 | ⟨h1, h2⟩
    · exact hg.hr.rows i cs e f h1
    · obtain ⟨l, hl⟩ := h.rows i cs e f h1
      exact ⟨l, hl.move hle (unch i _ l (tag_cells h1) (fun j hj => by rw [← tag_cells h1]; exact h2 j hj) hl.at_)⟩
  · rcases ho.maps i es c hi with h1 | ⟨h1, h2⟩
    · exact hg.hr.maps i es c h1
    · obtain ⟨l, hl, es', h3, h4⟩ := h.maps i es c h1
      exact ⟨l, hle _ _ hl, es', by rw [unch i _ l (tag_map h1) h2 (by rw [Ren.at_of (h.dom i l hl).1]; exact hl)]; exact h3, h4.mono hle⟩
  · rcases ho.loops i r hi with h1 | ⟨h1, h2⟩
    · exact hg.hr.loops i r h1
    · obtain ⟨l, hl, q, h3, h4⟩ := h.loops i r h1
      exact ⟨l, hle _ _ hl, q, by rw [unch i _ l (tag_loop h1) h2 (by rw [Ren.at_of (h.dom i l hl).1]; exact hl)]; exact h3, h4.mono hle⟩
  · rcases ho.tag i a hi with ⟨hi1, hi2⟩ | ⟨hi1, hi2⟩ <;> rcases ho.tag j b hj with ⟨hj1, hj2⟩ | ⟨hj1, hj2⟩
    · exact hg.hr.sep i j a b l l' hi2 hj2 hab hl hl'
    · have hl2 := hold j b l' hj1 hl'
      have hlt := h.blk_lt hj1 hl2
      rcases hg.own l.blk ⟨i, l, a, hi1, hi2, by have q := hl; rwa [Ren.at_of hi1] at q, rfl⟩ with ⟨k, q, c, hk, hc, hq, e⟩ | hge
      · have := h.sep k j c b q l' (hs.tag hc) hj1 (fun e' => hj2 k hk (by rw [hc, e'])) (by rw [Ren.at_of hk]; exact hq) hl2
        omega
      · omega
    · have hl2 := hold i a l hi1 hl
      have hlt := h.blk_lt hi1 hl2
      rcases hg.own l'.blk ⟨j, l', b, hj1, hj2, by have q := hl'; rwa [Ren.at_of hj1] at q, rfl⟩ with ⟨k, q, c, hk, hc, hq, e⟩ | hge
      · have := h.sep k i c a q l (hs.tag hc) hi1 (fun e' => hi2 k hk (by rw [hc, e'])) (by rw [Ren.at_of hk]; exact hq) hl2
        omega
      · omega
    · exact h.sep i j a b l l' hi1 hj1 hab (hold i a l hi1 hl) (hold j b l' hj1 hl')
  · rw [ho.next, ← hs.next]; exact hg.next
  · exact hg.frame b hb (fun ⟨i, l, a, h1, h2, h3, h4⟩ => hn ⟨i, l, a, h1, hs.tag h2, h3, h4⟩)
  · obtain ⟨i, l, a, h1, h2, h3, h4⟩ := hb
    rcases ho.tag i a h2 with ⟨_, h5⟩ | ⟨h5, _⟩
    · rcases hg.own b ⟨i, l, a, h1, h5, h3, h4⟩ with ⟨j, q, c, g1, g2, g3, g4⟩ | hge
      · exact .inl ⟨j, q, c, g1, hs.tag g2, g3, g4⟩
      · exact .inr hge
    · left
      refine ⟨i, l, a, h1, h5, ?_, h4⟩
      have := hold i a l h5 (by rw [Ren.at_of h1]; exact h3)
      rwa [Ren.at_of h1] at this
  · exact hg.old i (by rw [hs.next]; exact hi)
end

noncomputable section
/-! ### A call at one place of a run, as it was seen -/
structure Tpl where
  bits : Nat := 15
  next : Nat
  args : List Value
  pre : List (Nat × Row)
  fpre : List (Nat × List Nat)
  val : Value
  post : List (Nat × Row)
  fpost : List (Nat × List Nat)
  next' : Nat

def setAll {α : Type} (t : Hp α) : List (Nat × α) → Hp α := fun l => List.rec t (fun p _ ih => ih.set p.1 p.2) l

/-- the low blocks that are known, whatever the types of their elements -/
abbrev Low := List (Nat × List Value)
def lowHp (b : Nat) (t : Nat → TypeId) : Low → Hp Row := fun L => List.rec (.s b 0) (fun x _ h => sel (Nat.ble fixedTop x.1) h (Hp.set h x.1 (.row x.2 (t x.1) 0))) L
def Tpl.start (T : Tpl) (g0 : Low) (t : Nat → TypeId) : St := { heap := setAll (lowHp T.bits t g0) T.pre, fams := setAll (.s T.bits 0) T.fpre, next := T.next }
def Tpl.over (T : Tpl) (s : St) : St := { heap := setAll s.heap T.post, fams := setAll s.fams T.fpost, next := T.next' }

def sameEntry (a b : MapEntry) : Bool := sameV 4 a.key b.key && (sameV 4 a.val b.val && Nat.beq a.born b.born)
def sameEs : List MapEntry → List MapEntry → Bool := fun l =>
  List.rec (fun r => lcase r true (fun _ _ => false)) (fun a _ ih r => lcase r false (fun b t => sel (sameEntry a b) (ih t) false)) l
def sameRow (a b : Row) : Bool :=
  match a with
  | .row cs e f => match b with
    | .row ds e' f' => Nat.beq e e' && (Nat.beq f f' && sameL (sameV 4) cs ds)
    | _ => false
  | .map es c => match b with
    | .map fs d => Nat.beq c d && sameEs es fs
    | _ => false
  | _ => false

def hasRows (h : Hp Row) : List (Nat × Row) → Bool := fun l => List.rec true (fun p _ ih => sel (Option.casesOn (h.get p.1) false fun r => sameRow p.2 r) ih false) l
def allIn (b : List Nat) : List Nat → Bool := fun a => List.rec true (fun x _ ih => sel (elemN x b) ih false) a
def hasFams (h : Hp (List Nat)) : List (Nat × List Nat) → Bool := fun l => List.rec true (fun p _ ih => sel (Option.casesOn (h.get p.1) false fun b => allIn b p.2) ih false) l

def keyed {α : Type} (l : List (Nat × α)) (i : Nat) : Bool := (findT l i).isSome
def allKeyed {α : Type} (l : List (Nat × α)) : List Nat → Bool := fun a => List.rec true (fun x _ ih => sel (keyed l x) ih false) a
def famOf (r : Row) : Nat :=
  match r with
  | .row _ _ f => f
  | _ => 0
def preFine (T : Tpl) : List (Nat × Row) → Bool := fun l => List.rec true (fun p _ ih => sel (Nat.ble fixedTop p.1 && keyed T.post p.1) ih false) l
def postFine (T : Tpl) : List (Nat × Row) → Bool := fun l => List.rec true (fun p _ ih => sel (Nat.ble fixedTop p.1 && (Nat.beq (famOf p.2) 0 || keyed T.fpost (famOf p.2))) ih false) l
def fpreFine (T : Tpl) : List (Nat × List Nat) → Bool := fun l => List.rec true (fun p _ ih => sel (keyed T.fpost p.1) ih false) l
def fpostFine (T : Tpl) : List (Nat × List Nat) → Bool := fun l => List.rec true (fun p _ ih => sel (allKeyed T.post p.2) ih false) l
def Tpl.fine (T : Tpl) : Bool := preFine T T.pre && (postFine T T.post && (fpreFine T T.fpre && fpostFine T T.fpost))

def rowIs (cs : List Value) (r : Row) : Bool :=
  match r with
  | .row cs' _ f => Nat.beq f 0 && sameL (sameV 4) cs cs'
  | _ => false
def lowIs (g0 : Low) (s : St) : Bool := List.rec true (fun x _ ih => sel (Option.casesOn (s.heap.get x.1) false fun r => rowIs x.2 r) ih false) g0

def tplF (g0 : Low) (T : Tpl) (s : St) (args : List Value) : Option (Value × St) :=
  guard (Nat.beq s.next T.next && (sameL (sameV 4) T.args args && (lowIs g0 s && (hasRows s.heap T.pre && hasFams s.fams T.fpre)))) (some (T.val, T.over s))

def tplsF (g0 : Low) (l : List Tpl) (s : St) (args : List Value) : Option (Value × St) := List.rec none (fun T _ ih => Option.casesOn (tplF g0 T s args) ih some) l

def tplOk (T : Tpl) (r : Option (Value × St)) : Bool := Option.casesOn r false fun q => sameV 4 T.val q.1 && (Nat.beq q.2.next T.next' && (hasRows q.2.heap T.post && hasFams q.2.fams T.fpost))

theorem findTl_mem {β : Type} {l : List (Nat × β)} {i : Nat} {a : β} (h : findT l i = some a) : (i, a) ∈ l := by
  induction l with
  | nil => cases h
  | cons p t ih =>
    have h : sel (Nat.beq p.1 i) (some p.2) (findT t i) = some a := h
    rw [sel_eq] at h
    split at h
    · rename_i hb
      cases h
      rw [← Nat.eq_of_beq_eq_true hb]
      exact List.mem_cons_self
    · exact List.mem_cons_of_mem _ (ih h)

theorem setAll_get {α : Type} (t : Hp α) (l : List (Nat × α)) (i : Nat) : (setAll t l).get i = match findT l i with
    | some a => some a
    | none => t.get i := by
  induction l with
  | nil => rfl
  | cons p l ih =>
    show (Hp.set (setAll t l) p.1 p.2).get i = match sel (Nat.beq p.1 i) (some p.2) (findT l i) with
      | some a => some a
      | none => t.get i
    rw [Hp.get_set, ih, sel_eq]
    by_cases e : i = p.1
    · subst e; simp
    · have : Nat.beq p.1 i = false := by rw [← Bool.not_eq_true, Nat.beq_eq]; exact fun h => e h.symm
      rw [this, if_neg e]; rfl

theorem setAll_some {α : Type} {t : Hp α} {l : List (Nat × α)} {i : Nat} {a : α} (h : (setAll t l).get i = some a) : findT l i = some a ∨ (findT l i = none ∧ t.get i = some a) := by
  rw [setAll_get] at h
  cases hf : findT l i with
  | none => rw [hf] at h; exact .inr ⟨rfl, h⟩
  | some b => rw [hf] at h; exact .inl h

theorem sameEs_eq : ∀ {l r : List MapEntry}, sameEs l r = true → l = r
  | [], [], _ => rfl
  | [], _ :: _, h => by cases h
  | _ :: _, [], h => by cases h
  | a :: l, b :: r, h => by
    change sel (sameEntry a b) (sameEs l r) false = true at h
    rw [sel_eq] at h
    split at h
    · rename_i hh
      unfold sameEntry at hh
      simp only [Bool.and_eq_true] at hh
      have h1 := sameV_eq 4 hh.1
      have h2 := sameV_eq 4 hh.2.1
      have h3 := Nat.eq_of_beq_eq_true hh.2.2
      rw [sameEs_eq h]
      congr 1
      cases a; cases b
      simp only at h1 h2 h3
      subst h1 h2 h3
      rfl
    · cases h

theorem sameRow_eq {a b : Row} (h : sameRow a b = true) : a = b := by
  cases a with
  | row cs e f => cases b with
    | row ds e' f' =>
      have h : (Nat.beq e e' && (Nat.beq f f' && sameL (sameV 4) cs ds)) = true := h
      simp only [Bool.and_eq_true] at h
      rw [Nat.eq_of_beq_eq_true h.1, Nat.eq_of_beq_eq_true h.2.1, sameL_eq (fun a b => sameV_eq 4) h.2.2]
    | _ => cases h
  | map es c => cases b with
    | map fs d =>
      have h : (Nat.beq c d && sameEs es fs) = true := h
      simp only [Bool.and_eq_true] at h
      rw [Nat.eq_of_beq_eq_true h.1, sameEs_eq h.2]
    | _ => cases h
  | _ => cases h

theorem hasRows_mem {h : Hp Row} {l : List (Nat × Row)} (hl : hasRows h l = true) {p : Nat × Row} (hp : p ∈ l) : h.get p.1 = some p.2 := by
  induction l with
  | nil => cases hp
  | cons q t ih =>
    have hl : sel (Option.casesOn (h.get q.1) false fun r => sameRow q.2 r) (hasRows h t) false = true := hl
    rw [sel_eq] at hl
    split at hl
    · rename_i hq
      rcases List.mem_cons.1 hp with rfl | hp
      · cases hg : h.get p.1 with
        | none => rw [hg] at hq; cases hq
        | some r =>
          rw [hg] at hq
          rw [sameRow_eq (show sameRow p.2 r = true from hq)]
      · exact ih hl hp
    · cases hl

theorem allIn_mem {b l : List Nat} (h : allIn b l = true) {j : Nat} (hj : j ∈ l) : j ∈ b := by
  induction l with
  | nil => cases hj
  | cons a t ih =>
    have h : sel (elemN a b) (allIn b t) false = true := h
    rw [sel_eq] at h
    split at h
    · rename_i ha
      rcases List.mem_cons.1 hj with rfl | hj
      · rw [elemN_eq] at ha; simpa using ha
      · exact ih h hj
    · cases h

theorem hasFams_mem {h : Hp (List Nat)} {l : List (Nat × List Nat)} (hl : hasFams h l = true) {p : Nat × List Nat} (hp : p ∈ l) : ∃ b, h.get p.1 = some b ∧ ∀ j, j ∈ p.2 → j ∈ b := by
  induction l with
  | nil => cases hp
  | cons q t ih =>
    have hl : sel (Option.casesOn (h.get q.1) false fun b => allIn b q.2) (hasFams h t) false = true := hl
    rw [sel_eq] at hl
    split at hl
    · rename_i hq
      rcases List.mem_cons.1 hp with rfl | hp
      · cases hg : h.get p.1 with
        | none => rw [hg] at hq; cases hq
        | some b =>
          rw [hg] at hq
          exact ⟨b, rfl, fun j hj => allIn_mem hq hj⟩
      · exact ih hl hp
    · cases hl

theorem all_mem {α : Type} {q : α → Bool} {l : List α} (h : (List.rec true (fun p _ ih => sel (q p) ih false) l : Bool) = true) {p : α} (hp : p ∈ l) : q p = true := by
  induction l with
  | nil => cases hp
  | cons a t ih =>
    have h : sel (q a) (List.rec true (fun p _ ih => sel (q p) ih false) t) false = true := h
    rw [sel_eq] at h
    split at h
    · rename_i ha
      rcases List.mem_cons.1 hp with rfl | hp
      · exact ha
      · exact ih h hp
    · cases h

theorem keyed_some {α : Type} {l : List (Nat × α)} {i : Nat} (h : keyed l i = true) : ∃ a, findT l i = some a := Option.isSome_iff_exists.1 h

section
variable {P : Program} {base : Nat} {ρ ρ1 : Ren} {s s' S1 : St} {w w' : World}

theorem lowHp_get {b : Nat} {t : Nat → TypeId} : ∀ {L : Low} {i : Nat} {r : Row}, (lowHp b t L).get i = some r → i < fixedTop ∧ ∃ x ∈ L, x.1 = i ∧ r = .row x.2 (t i) 0
  | [], i, r, h => by
    have h : (Hp.s b 0 : Hp Row).get i = some r := h
    rw [Hp.get_s] at h
    cases h
  | x :: L, i, r, h => by
    have h : (sel (Nat.ble fixedTop x.1) (lowHp b t L) (Hp.set (lowHp b t L) x.1 (.row x.2 (t x.1) 0))).get i = some r := h
    rw [sel_eq] at h
    split at h
    · obtain ⟨h1, y, hy, h2, h3⟩ := lowHp_get h
      exact ⟨h1, y, List.mem_cons_of_mem _ hy, h2, h3⟩
    · rename_i hb
      rw [Hp.get_set] at h
      split at h
      · rename_i e
        cases h
        subst e
        refine ⟨?_, x, List.mem_cons_self, rfl, rfl⟩
        have : ¬ fixedTop ≤ x.1 := fun hle => hb (Nat.ble_eq_true_of_le hle)
        omega
      · obtain ⟨h1, y, hy, h2, h3⟩ := lowHp_get h
        exact ⟨h1, y, List.mem_cons_of_mem _ hy, h2, h3⟩

def lowType (s : St) (i : Nat) : TypeId :=
  match s.heap.get i with
  | some (.row _ e _) => e
  | _ => 0

theorem lowIs_some : ∀ {g0 : Low}, lowIs g0 s = true → ∀ x ∈ g0, s.heap.get x.1 = some (.row x.2 (lowType s x.1) 0)
  | [], _, x, hx => by cases hx
  | y :: g0, h, x, hx => by
    have h : sel (Option.casesOn (s.heap.get y.1) false fun r => rowIs y.2 r) (lowIs g0 s) false = true := h
    rw [sel_eq] at h
    split at h
    · rename_i hy
      rcases List.mem_cons.1 hx with rfl | hx
      · cases hg : s.heap.get x.1 with
        | none => rw [hg] at hy; cases hy
        | some r =>
          rw [hg] at hy
          cases r with
          | row cs t f =>
            have hy : (Nat.beq f 0 && sameL (sameV 4) x.2 cs) = true := hy
            simp only [Bool.and_eq_true] at hy
            have e : lowType s x.1 = t := by unfold lowType; rw [hg]
            rw [e, Nat.eq_of_beq_eq_true hy.1, sameL_eq (fun a b => sameV_eq 4) hy.2]
          | _ => cases hy
      · exact lowIs_some h x hx
    · cases h

theorem Tpl.sub {g0 : Low} {T : Tpl} {t : Nat → TypeId} (h1 : s.next = T.next) (h2 : ∀ x ∈ g0, s.heap.get x.1 = some (.row x.2 (t x.1) 0)) (h3 : hasRows s.heap T.pre = true) (h4 : hasFams s.fams T.fpre = true) : Sub (T.start g0 t) s where
  next := h1.symm
  row := fun i r hi => by
    rcases setAll_some hi with hf | ⟨_, hg⟩
    · exact hasRows_mem h3 (findTl_mem hf)
    · obtain ⟨_, x, hx, rfl, rfl⟩ := lowHp_get hg
      exact h2 x hx
  fam := fun f l hf => by
    rcases setAll_some hf with hf | ⟨_, hg⟩
    · exact hasFams_mem h4 (findTl_mem hf)
    · rw [Hp.get_s] at hg; cases hg

theorem tag_zero {i j : Nat} (h : s.tag j = some (0, i)) : j = i := by
  unfold St.tag at h
  split at h
  · split at h
    · simpa using h
    · split at h
      · split at h <;> simp at h
      · cases h
  · simpa using h
  · simpa using h
  · cases h

theorem tag_some {j : Nat} {a : Nat × Nat} (h : s.tag j = some a) : ∃ r, s.heap.get j = some r := by
  cases hg : s.heap.get j with
  | none => unfold St.tag at h; simp [hg] at h
  | some r => exact ⟨r, rfl⟩

theorem tag_one {j f : Nat} (h : s.tag j = some (1, f)) : ∃ l, s.fams.get f = some l := by
  unfold St.tag at h
  split at h
  · split at h
    · simp at h
    · split at h
      · rename_i l hl
        split at h
        · simp at h; subst h; exact ⟨l, hl⟩
        · cases h
      · cases h
  · simp at h
  · simp at h
  · cases h

/-- where a row of the new state comes from -/
theorem Tpl.look {g0 : Low} {T : Tpl} {t : Nat → TypeId} (hf : T.fine = true) (hr : hasRows S1.heap T.post = true) (hq : hasFams S1.fams T.fpost = true) {i : Nat} {r : Row} (hi : (T.over s).heap.get i = some r) :
    (fixedTop ≤ i ∧ S1.heap.get i = some r ∧ ∀ f, famOf r = f → f ≠ 0 → ∀ l, (T.over s).fams.get f = some l → i ∈ l → ∃ b, S1.fams.get f = some b ∧ i ∈ b) ∨
    (s.heap.get i = some r ∧ (∀ j, fixedTop ≤ j → (T.start g0 t).tag j ≠ some (0, i)) ∧
      ∀ f, famOf r = f → f ≠ 0 → ∀ l, (T.over s).fams.get f = some l → i ∈ l → (∃ b, s.fams.get f = some b ∧ i ∈ b) ∧ ∀ j, fixedTop ≤ j → (T.start g0 t).tag j ≠ some (1, f)) := by
  unfold Tpl.fine at hf
  simp only [Bool.and_eq_true] at hf
  obtain ⟨f1, f2, f3, f4⟩ := hf
  rcases setAll_some hi with hp | ⟨hn, hg⟩
  · left
    have hm := findTl_mem hp
    have hx := all_mem f2 hm
    simp only [Bool.and_eq_true, Bool.or_eq_true] at hx
    refine ⟨Nat.le_of_ble_eq_true hx.1, hasRows_mem hr hm, ?_⟩
    rintro f rfl h0 l hl hil
    rcases hx.2 with hz | hk
    · exact absurd (Nat.eq_of_beq_eq_true hz) h0
    · obtain ⟨l1, hl1⟩ := keyed_some hk
      rcases setAll_some hl with hl' | ⟨hl', _⟩
      · obtain ⟨b, hb, hs⟩ := hasFams_mem hq (findTl_mem hl')
        exact ⟨b, hb, hs i hil⟩
      · rw [hl1] at hl'; cases hl'
  · right
    refine ⟨hg, ?_, ?_⟩
    · intro j hj hjt
      have e := tag_zero hjt
      subst e
      obtain ⟨q, hq'⟩ := tag_some hjt
      rcases setAll_some hq' with hp | ⟨_, hz⟩
      · have hx := all_mem f1 (findTl_mem hp)
        simp only [Bool.and_eq_true] at hx
        obtain ⟨a, ha⟩ := keyed_some hx.2
        rw [hn] at ha; cases ha
      · obtain ⟨hlt, _⟩ := lowHp_get hz
        omega
    · rintro f rfl h0 l hl hil
      rcases setAll_some hl with hl' | ⟨hl', hl2⟩
      · have hx := all_mem f4 (findTl_mem hl')
        have := all_mem (q := fun x => keyed T.post x) hx hil
        obtain ⟨a, ha⟩ := keyed_some this
        rw [hn] at ha; cases ha
      · refine ⟨⟨l, hl2, hil⟩, ?_⟩
        intro j hj hjt
        obtain ⟨l1, hl1⟩ := tag_one hjt
        rcases setAll_some hl1 with hp | ⟨_, hz⟩
        · have hx := all_mem f3 (findTl_mem hp)
          obtain ⟨a, ha⟩ := keyed_some hx
          rw [hl'] at ha; cases ha
        · rw [Hp.get_s] at hz; cases hz

theorem Tpl.over_ok {g0 : Low} {T : Tpl} {t : Nat → TypeId} (hf : T.fine = true) (hr : hasRows S1.heap T.post = true) (hq : hasFams S1.fams T.fpost = true) (hn : S1.next = T.next')
    (hd : ∀ i r, S1.heap.get i = some r → i < S1.next) (hfd : ∀ i cs e f, S1.heap.get i = some (.row cs e f) → f < S1.next)
    (hd0 : ∀ i r, s.heap.get i = some r → i < S1.next) (hfd0 : ∀ i cs e f, s.heap.get i = some (.row cs e f) → f < S1.next) : Over (T.start g0 t) S1 s (T.over s) where
  next := hn.symm
  dom := fun i r hi => by
    rcases Tpl.look (g0 := g0) (t := t) hf hr hq hi with ⟨_, h, _⟩ | ⟨h, _⟩
    · exact hd i r h
    · exact hd0 i r h
  fdom := fun i cs e f hi => by
    rcases Tpl.look (g0 := g0) (t := t) hf hr hq hi with ⟨_, h, _⟩ | ⟨h, _⟩
    · exact hfd i cs e f h
    · exact hfd0 i cs e f h
  tag := fun i a hi => by
    obtain ⟨r, hr'⟩ := tag_some hi
    have hlook := Tpl.look (g0 := g0) (t := t) hf hr hq hr'
    unfold St.tag at hi
    rw [hr'] at hi
    cases r with
    | row cs e f =>
      simp only at hi
      by_cases h0 : f = 0
      · simp only [h0, if_true] at hi
        cases hi
        rcases hlook with ⟨h1, h2, _⟩ | ⟨h1, h2, _⟩
        · exact .inl ⟨h1, by unfold St.tag; rw [h2]; simp [h0]⟩
        · exact .inr ⟨by unfold St.tag; rw [h1]; simp [h0], h2⟩
      · simp only [h0, if_false] at hi
        split at hi
        · rename_i l hl
          split at hi
          · rename_i hm
            cases hi
            rcases hlook with ⟨h1, h2, h3⟩ | ⟨h1, h2, h3⟩
            · obtain ⟨b, hb, hib⟩ := h3 f rfl h0 l hl hm
              exact .inl ⟨h1, by unfold St.tag; rw [h2]; simp [h0, hb, hib]⟩
            · obtain ⟨⟨b, hb, hib⟩, h4⟩ := h3 f rfl h0 l hl hm
              exact .inr ⟨by unfold St.tag; rw [h1]; simp [h0, hb, hib], h4⟩
          · cases hi
        · cases hi
    | map es c =>
      cases hi
      rcases hlook with ⟨h1, h2, _⟩ | ⟨h1, h2, _⟩
      · exact .inl ⟨h1, tag_map h2⟩
      · exact .inr ⟨tag_map h1, h2⟩
    | loop q =>
      cases hi
      rcases hlook with ⟨h1, h2, _⟩ | ⟨h1, h2, _⟩
      · exact .inl ⟨h1, tag_loop h2⟩
      · exact .inr ⟨tag_loop h1, h2⟩
    | other => cases hi
  cells := fun i c hc => by
    obtain ⟨cs, e, f⟩ := c
    obtain ⟨h1, h2⟩ := cells_some.1 hc
    rcases Tpl.look (g0 := g0) (t := t) hf hr hq h1 with ⟨_, g1, g2⟩ | ⟨g1, g2, g3⟩
    · left
      refine cells_some.2 ⟨g1, ?_⟩
      rcases h2 with h2 | ⟨l, hl, hm⟩
      · exact .inl h2
      · by_cases h0 : f = 0
        · exact .inl h0
        · exact .inr (g2 f rfl h0 l hl hm)
    · right
      by_cases h0 : f = 0
      · have hc' : s.cells i = some (cs, e, f) := cells_some.2 ⟨g1, .inl h0⟩
        refine ⟨hc', fun j hj => ?_⟩
        rw [tag_cells hc', if_pos h0]
        exact g2 j hj
      · rcases h2 with h2 | ⟨l, hl, hm⟩
        · exact absurd h2 h0
        · obtain ⟨h3, h4⟩ := g3 f rfl h0 l hl hm
          have hc' : s.cells i = some (cs, e, f) := cells_some.2 ⟨g1, .inr h3⟩
          refine ⟨hc', fun j hj => ?_⟩
          rw [tag_cells hc', if_neg h0]
          exact h4 j hj
  maps := fun i es c hi => by
    rcases Tpl.look (g0 := g0) (t := t) hf hr hq hi with ⟨_, h, _⟩ | ⟨h, h2, _⟩
    · exact .inl h
    · exact .inr ⟨h, h2⟩
  loops := fun i q hi => by
    rcases Tpl.look (g0 := g0) (t := t) hf hr hq hi with ⟨_, h, _⟩ | ⟨h, h2, _⟩
    · exact .inl h
    · exact .inr ⟨h, h2⟩

/-- A CALL AT ONE PLACE OF A RUN: what it came to in the state that knows what it reaches alone. -/
theorem tpl_sound {C : Cfg} (hK : CfgOk C P) {n : Nat} {f : FuncId} {g0 : Low} {T : Tpl} (hf : T.fine = true) (hrun : ∀ t, tplOk T ((jRunN C n).1 f T.args (T.start g0 t)) = true)
    {args : List Value} {v : Value} (hv : tplF g0 T s args = some (v, s')) {cargs : List Value} (hr : HR P base ρ s w) (ha : VRs ρ args cargs) :
    Calls P f ⟨cargs⟩ w fun e w' => ∃ c ρ', e = .returned c ∧ Goes P base ρ s w ρ' s' w' ∧ VR ρ' v c := by
  obtain ⟨hg, hv⟩ := guard_some.1 hv
  simp only [Bool.and_eq_true] at hg
  obtain ⟨h1, h2, h3, h4, h5⟩ := hg
  have hargs := sameL_eq (fun a b => sameV_eq 4) h2
  have ht := lowIs_some h3
  have hs := Tpl.sub (t := lowType s) (Nat.eq_of_beq_eq_true h1) ht h4 h5
  have hrt := hrun (lowType s)
  rw [jRunN_eq] at hrt
  unfold tplOk at hrt
  cases hrr : (runN C n).1 f T.args (T.start g0 (lowType s)) with
  | none => rw [hrr] at hrt; cases hrt
  | some q =>
    obtain ⟨v1, S1⟩ := q
    rw [hrr] at hrt
    have hrt : (sameV 4 T.val v1 && (Nat.beq S1.next T.next' && (hasRows S1.heap T.post && hasFams S1.fams T.fpost))) = true := hrt
    simp only [Bool.and_eq_true] at hrt
    obtain ⟨g1, g2, g3, g4⟩ := hrt
    have e1 := sameV_eq 4 g1
    cases hv
    subst hargs
    rw [← e1] at hrr
    refine ((runN_ok hK n).1 f T.args _ _ S1 hrr base ρ w cargs (hr.less hs) ha).mono ?_
    rintro e w' ⟨c, ρ', rfl, hgo, hvc⟩
    have hnx : s.next ≤ S1.next := by rw [← hs.next]; exact hgo.next
    exact ⟨c, ρ', rfl, Goes.over hr hs hgo (Tpl.over_ok hf g3 g4 (Nat.eq_of_beq_eq_true g2) hgo.hr.heap_dom hgo.hr.fam_dom
      (fun i r hi => Nat.lt_of_lt_of_le (hr.heap_dom i r hi) hnx) (fun i cs e f hi => Nat.lt_of_lt_of_le (hr.fam_dom i cs e f hi) hnx)), hvc⟩

/-- a call that was seen, by whatever configuration -/
def TplGood (P : Program) (g0 : Low) (f : FuncId) (T : Tpl) : Prop := T.fine = true ∧ ∃ C n, CfgOk C P ∧ ∀ t, tplOk T ((jRunN C n).1 f T.args (T.start g0 t)) = true

/-- several of one function -/
theorem tpls_sound {f : FuncId} {g0 : Low} : ∀ {l : List Tpl}, (∀ T, T ∈ l → TplGood P g0 f T) →
    ∀ {args : List Value} {v : Value}, tplsF g0 l s args = some (v, s') → ∀ {cargs : List Value}, HR P base ρ s w → VRs ρ args cargs →
    Calls P f ⟨cargs⟩ w fun e w' => ∃ c ρ', e = .returned c ∧ Goes P base ρ s w ρ' s' w' ∧ VR ρ' v c
  | [], _, _, _, h, _, _, _ => by cases h
  | T :: l, hl, args, v, h, cargs, hr, ha => by
    have h : Option.casesOn (tplF g0 T s args) (tplsF g0 l s args) some = some (v, s') := h
    cases ht : tplF g0 T s args with
    | none => rw [ht] at h; exact tpls_sound (fun T' h' => hl T' (List.mem_cons_of_mem _ h')) h hr ha
    | some q =>
      rw [ht] at h
      have h : some q = some (v, s') := h
      cases h
      obtain ⟨h1, C, n, hK, h2⟩ := hl T List.mem_cons_self
      exact tpl_sound hK h1 h2 ht hr ha
/-- what is asked of a list of contracts -/
def InsOk (P : Program) (C : Cfg) (L : List (Nat × Con)) : Prop :=
  ∀ f t, findT L f = some t → ∀ args s v s', runCon C t s args = some (v, s') → ∀ base ρ w cargs, HR P base ρ s w → VRs ρ args cargs →
    Calls P f ⟨cargs⟩ w fun e w' => ∃ c ρ', e = .returned c ∧ Goes P base ρ s w ρ' s' w' ∧ VR ρ' v c

theorem InsOk.tpl {C : Cfg} {L : List (Nat × Con)} {f0 : FuncId} {g0 : Low} {l : List Tpl} (hl : ∀ T, T ∈ l → TplGood P g0 f0 T) (hL : InsOk P C L) : InsOk P C ((f0, .fn (tplsF g0 l)) :: L) := by
  intro f t h args s v s' hv base ρ w cargs hr ha
  have h' : sel (Nat.beq f0 f) (some (Con.fn (tplsF g0 l))) (findT L f) = some t := h
  rw [sel_eq] at h'
  split at h'
  · rename_i hb
    cases h'
    have hf : f0 = f := Nat.eq_of_beq_eq_true hb
    subst hf
    exact tpls_sound hl hv hr ha
  · exact hL f t h' args s v s' hv base ρ w cargs hr ha

theorem InsOk.to {C C' : Cfg} {L : List (Nat × Con)} (h : InsOk P C L) (hP : C'.P = C.P) : InsOk P C' L := by
  intro f t hf args s v s' hv
  refine h f t hf args s v s' ?_
  cases t with
  | insert e =>
    have hv : extInsert C' e s args = some (v, s') := hv
    show extInsert C e s args = some (v, s')
    unfold extInsert at hv ⊢
    simp only [hP] at hv
    exact hv
  | closed ok => exact hv
  | fn F => exact hv
  | pure G => exact hv

theorem good_nil {f : FuncId} {g0 : Low} : ∀ T, T ∈ ([] : List Tpl) → TplGood P g0 f T := fun _ h => absurd h List.not_mem_nil
theorem good_cons {f : FuncId} {g0 : Low} {T : Tpl} {l : List Tpl} (h : TplGood P g0 f T) (hl : ∀ T, T ∈ l → TplGood P g0 f T) : ∀ T', T' ∈ T :: l → TplGood P g0 f T' := fun T' h' => by
  rcases List.mem_cons.1 h' with e | e
  · exact e ▸ h
  · exact hl T' e
end
end
end Go.Ax

namespace Go.Ax
open Go
noncomputable section

/-- all but the last -/
def initN : List Nat → List Nat := fun l => List.rec [] (fun a t ih => lcase t [] fun _ _ => a :: ih) l

/-- A function that panics and is recovered, at states of certain next ids: run in a configuration below. -/
def recG (C : Cfg) (k n : Nat) (L : List Nat) (f : FuncId) (s : St) (args : List Value) : Option (Value × St) :=
  guard (elemN s.next L) (recCall C (jRunN C k).1 (jRunN C k).2 (panN C (jRunN C k).1 (jRunN C k).2 (fun f id => initN (C.order f id)) n) (fun f id => initN (C.order f id)) f args s)

theorem InsOk.recd {P : Program} {C C0 : Cfg} (hK : CfgOk C0 P) {k n : Nat} {l : List Nat} {f0 : FuncId} {L : List (Nat × Con)} (hL : InsOk P C L) : InsOk P C ((f0, .fn (recG C0 k n l f0)) :: L) := by
  intro f t h args s v s' hv base ρ w cargs hr ha
  have h' : sel (Nat.beq f0 f) (some (Con.fn (recG C0 k n l f0))) (findT L f) = some t := h
  rw [sel_eq] at h'
  split at h'
  · rename_i hb
    cases h'
    have hf : f0 = f := Nat.eq_of_beq_eq_true hb
    subst hf
    have hv : recG C0 k n l f0 s args = some (v, s') := hv
    unfold recG at hv
    obtain ⟨_, hv⟩ := guard_some.1 hv
    rw [jRunN_eq] at hv
    exact recCall_ok hK (runN_ok hK k).1 (runN_ok hK k).2 (runN_quiet k) (panN_ok hK (runN_ok hK k).1 (runN_ok hK k).2 (runN_quiet k) n) f0 args s v s' hv base ρ w cargs hr ha
  · exact hL f t h' args s v s' hv base ρ w cargs hr ha
end
end Go.Ax

namespace Go.Ax
open Go
noncomputable section

/-- the functions that a function leads to, by its number -/
def leadsN (P : Program) (f : FuncId) : List FuncId := (P.funcs[f]?).elim [] P.leadsTo

/-- The functions that are come to, what has been seen also kept as bits. -/
def fastVia (L : FuncId → List FuncId) : Nat → List FuncId → List FuncId → Nat → List FuncId := fun n =>
  Nat.rec (fun _ seen _ => seen.reverse)
    (fun _ ih todo seen m => List.casesOn todo seen.reverse fun f todo => sel (hasBit m f) (ih todo seen m) (ih (appL (L f) todo) (f :: seen) (orBit m f))) n

theorem fastVia_eq (P : Program) : ∀ (n : Nat) (todo seen : List FuncId) (m : Nat), (∀ x, hasBit m x = seen.contains x) → fastVia (leadsN P) n todo seen m = P.closureVia n todo seen
  | 0, todo, seen, m, h => by cases todo <;> rfl
  | n + 1, [], seen, m, h => rfl
  | n + 1, f :: todo, seen, m, h => by
    show sel (hasBit m f) (fastVia (leadsN P) n todo seen m) (fastVia (leadsN P) n (appL (leadsN P f) todo) (f :: seen) (orBit m f)) = P.closureVia (n + 1) (f :: todo) seen
    unfold Program.closureVia
    rw [h f, sel_eq]
    by_cases hc : seen.contains f = true
    · rw [if_pos hc, if_pos hc]
      exact fastVia_eq P n todo seen m h
    · rw [if_neg hc, if_neg hc, appL_eq]
      refine fastVia_eq P n _ (f :: seen) (orBit m f) fun x => ?_
      rw [hasBit_orBit, h x]
      rw [List.contains_cons, Bool.or_comm]
      have e : (x == f) = decide (f = x) := by
        by_cases hx : f = x
        · subst hx; simp
        · rw [decide_eq_false hx]
          exact beq_eq_false_iff_ne.2 fun h => hx h.symm
      rw [e]

/-- the steps that are granted -/
def fuelOf (P : Program) : Nat := 1 + (P.funcs.toList.map fun g => (P.leadsTo g).length + 1).sum

theorem closure_fast {P : Program} {f : FuncId} {n : Nat} {l : List FuncId} (hn : fuelOf P = n) (h : fastVia (leadsN P) n [f] [] 0 = l) : P.closure f = l := by
  have e : P.closure f = P.closureVia (fuelOf P) [f] [] := rfl
  rw [e, hn, ← fastVia_eq P n [f] [] 0 fun x => by rw [hasBit_zero]; rfl]
  exact h

/-- Where no function goes, none goes. -/
theorem goes_none {P : Program} {s : Start} {func : String} (h : P.funcs.any Func.goes = false) : P.goesAt s func = false := by
  have hg : ∀ f, P.goes f = false := by
    intro f
    unfold Program.goes
    rw [h, Bool.and_false, Bool.or_false]
    rw [List.any_eq_false]
    intro g _
    cases hf : P.funcs[g]? with
    | none => simp
    | some fn =>
      have := Array.any_eq_false.1 h
      obtain ⟨hi, rfl⟩ := Array.getElem?_eq_some_iff.1 hf
      simpa using this g hi
  unfold Program.goesAt Program.goesFrom
  have h1 : (P.funcNamed func).any P.goes = false := by
    cases P.funcNamed func with
    | none => rfl
    | some f => exact hg f
  rw [h1, Bool.false_or]
  cases s <;> first | rfl | (simp only [List.any_eq_false]; intro f _; rw [hg f]; simp)

/-- a list's elements in parts -/
theorem all_range_split {p : Nat → Bool} {k m : Nat} (h1 : (List.range' 0 k).all p = true) (h2 : (List.range' k m).all p = true) : (List.range' 0 (k + m)).all p = true := by
  have : List.range' 0 (k + m) = List.range' 0 k ++ List.range' k m := by
    have := List.range'_append (s := 0) (m := k) (n := m) (step := 1)
    simpa using this.symm
  rw [this, List.all_append, h1, h2]
  rfl
end
end Go.Ax

namespace Go.Ax
open Go

/-- The kinds of the cells of fields, one behind the other. -/
noncomputable def fieldKs (P : Program) (g : TypeId → Option (List IntKind)) : List Field → Nat → Option (List IntKind)
  | [], _ => some []
  | f :: fs, o => if f.offset = o then (g f.type).bind fun ks => if ks.length = P.cellsOf f.type then (fieldKs P g fs (o + ks.length)).map (ks ++ ·) else none else none

/-- a list, so many times -/
noncomputable def repeatL' {α : Type} : Nat → List α → List α
  | 0, _ => []
  | n + 1, l => l ++ repeatL' n l
theorem repeatL'_length {α : Type} (l : List α) : ∀ n, (repeatL' n l).length = n * l.length
  | 0 => by simp [repeatL']
  | n + 1 => by simp [repeatL', repeatL'_length l n, Nat.succ_mul, Nat.add_comm]

/-- The kinds of a type's cells, where all are integers. -/
noncomputable def intKs (P : Program) : Nat → TypeId → Option (List IntKind)
  | 0, _ => none
  | n + 1, t => match P.underlying t with
    | some (.int k) => some [k]
    | some (.struct fs) => (fieldKs P (intKs P n) fs.toList 0).bind fun r => if r.length = P.cellsOf t then some r else none
    | some (.array m e) => (intKs P n e).bind fun ks => if ks.length = P.cellsOf e ∧ m * ks.length = P.cellsOf t then some (repeatL' m ks) else none
    | _ => none

theorem fieldKs_cons {P : Program} {g : TypeId → Option (List IntKind)} {f : Field} {fs : List Field} {o : Nat} {r : List IntKind} (h : fieldKs P g (f :: fs) o = some r) :
    ∃ ks r', f.offset = o ∧ g f.type = some ks ∧ ks.length = P.cellsOf f.type ∧ fieldKs P g fs (o + ks.length) = some r' ∧ r = ks ++ r' := by
  unfold fieldKs at h
  split at h
  · next ho =>
    obtain ⟨ks, hk, h⟩ := Option.bind_eq_some_iff.1 h
    split at h
    · next hl =>
      obtain ⟨r', hr, rfl⟩ := Option.map_eq_some_iff.1 h
      exact ⟨ks, r', ho, hk, hl, hr, rfl⟩
    · cases h
  · cases h

theorem fieldKs_mem {P : Program} {g : TypeId → Option (List IntKind)} : ∀ {fs : List Field} {o : Nat} {r : List IntKind}, fieldKs P g fs o = some r → ∀ f ∈ fs, ∃ ks, g f.type = some ks
  | [], _, _, _ => fun _ h => by cases h
  | f :: fs, o, r, h => by
    obtain ⟨ks, r', _, hk, _, hr, _⟩ := fieldKs_cons h
    intro f' hf
    rcases List.mem_cons.1 hf with rfl | hf
    · exact ⟨ks, hk⟩
    · exact fieldKs_mem hr f' hf

theorem intKs_cases {P : Program} {n : Nat} {t : TypeId} {r : List IntKind} (h : intKs P (n + 1) t = some r) :
    (∃ k, P.underlying t = some (.int k) ∧ r = [k]) ∨ (∃ fs, P.underlying t = some (.struct fs) ∧ fieldKs P (intKs P n) fs.toList 0 = some r ∧ r.length = P.cellsOf t) ∨
      (∃ m e ks, P.underlying t = some (.array m e) ∧ intKs P n e = some ks ∧ ks.length = P.cellsOf e ∧ m * ks.length = P.cellsOf t ∧ r = repeatL' m ks) := by
  unfold intKs at h
  split at h
  · next k hk => cases h; exact .inl ⟨k, hk, rfl⟩
  · next fs hf =>
    obtain ⟨r', hr, h⟩ := Option.bind_eq_some_iff.1 h
    split at h
    · next hl => cases h; exact .inr (.inl ⟨fs, hf, hr, hl⟩)
    · cases h
  · next m e hf =>
    obtain ⟨ks, hr, h⟩ := Option.bind_eq_some_iff.1 h
    split at h
    · next hl => cases h; exact .inr (.inr ⟨m, e, ks, hf, hr, hl.1, hl.2, rfl⟩)
    · cases h
  · cases h

variable {H : Type} {enc : TypeId × Value → H} {P : Program}

theorem mapM_congr' {α β : Type} {f g : α → Option β} : ∀ {l : List α}, (∀ a ∈ l, f a = g a) → l.mapM f = l.mapM g
  | [], _ => rfl
  | a :: l, h => by
    simp only [List.mapM_cons]
    rw [h a List.mem_cons_self, mapM_congr' (l := l) fun b hb => h b (List.mem_cons_of_mem _ hb)]

/-- Integers read alike in every world. -/
theorem trod_flat : ∀ {n : Nat} {t : TypeId} {ks : List IntKind}, intKs P n t = some ks → ∀ (w w' : World) (b b' : Nat) (s s' : Nat → Bool) (h h' : Bool) (fuel : Nat) (cs : List Value),
    DataW.trod enc P w b s h fuel t cs = DataW.trod enc P w' b' s' h' fuel t cs
  | 0, _, _, hk => by cases hk
  | n + 1, t, ks, hk => by
    intro w w' b b' s s' h h' fuel cs
    cases fuel with
    | zero => rfl
    | succ m =>
      unfold DataW.trod
      rcases intKs_cases hk with ⟨k, ht, _⟩ | ⟨fs, ht, hf, _⟩ | ⟨q, e, ks', ht, hke, _⟩
      · rw [ht]
        match cs with
        | [] => rfl
        | [v] => cases v <;> rfl
        | v :: _ :: _ => cases v <;> rfl
      · rw [ht]
        simp only
        rw [mapM_congr' (l := fs.toList) fun f hm => by
          obtain ⟨ks', hk'⟩ := fieldKs_mem hf f hm
          exact trod_flat hk' w w' b b' s s' h h' m _]
      · rw [ht]
        simp only
        rw [mapM_congr' (l := List.range q) fun i _ => trod_flat hke w w' b b' s s' h h' m _]

theorem Trod_flat {n : Nat} {t : TypeId} {ks : List IntKind} (hk : intKs P n t = some ks) {w w' : World} {b b' : Nat} {s s' : Nat → Bool} {h h' : Bool} {v : Value} {d : DataW H} {p : List MemPlace}
    (hd : DataW.Trod enc P w b s h t v d p) : DataW.Trod enc P w' b' s' h' t v d p := by
  obtain ⟨fuel, hd⟩ := hd
  exact ⟨fuel, by rw [← trod_flat hk w w' b b' s s' h h' fuel]; exact hd⟩

theorem zip_app {α β γ : Type} (f : α → β → γ) : ∀ {a : List α} {a' : List β} {b : List α} {b' : List β}, a.length = a'.length → List.zipWith f (a ++ b) (a' ++ b') = List.zipWith f a a' ++ List.zipWith f b b'
  | [], [], _, _, _ => rfl
  | x :: a, y :: a', _, _, h => by simp [zip_app f (a := a) (a' := a') (by simpa using h)]

theorem fields_open {g : TypeId → Option (List IntKind)} {cs : List Value} : ∀ {fs : List Field} {o : Nat} {r : List IntKind}, fieldKs P g fs o = some r →
    (∀ f ∈ fs, ∀ ks, g f.type = some ks → ∃ ns, ((cs.drop f.offset).take (P.cellsOf f.type)) = List.zipWith Value.int ks ns ∧ ns.length = ks.length) →
    ∃ ns, (cs.drop o).take r.length = List.zipWith Value.int r ns ∧ ns.length = r.length
  | [], o, r, h, _ => by cases h; exact ⟨[], by simp, rfl⟩
  | f :: fs, o, r, h, hall => by
    obtain ⟨ks, r', ho, hk, hl, hr, rfl⟩ := fieldKs_cons h
    obtain ⟨ns, e1, l1⟩ := hall f List.mem_cons_self ks hk
    obtain ⟨ns', e2, l2⟩ := fields_open hr fun f' hf => hall f' (List.mem_cons_of_mem _ hf)
    refine ⟨ns ++ ns', ?_, by simp [l1, l2]⟩
    rw [zip_app _ l1.symm, ← e1, ← e2, List.length_append, List.take_add, ho, hl, List.drop_drop]

theorem elems_open {cs : List Value} {ks : List IntKind} : ∀ (m o : Nat), (∀ i, i < m → ∃ ns, ((cs.drop (o + i * ks.length)).take ks.length) = List.zipWith Value.int ks ns ∧ ns.length = ks.length) →
    ∃ ns, (cs.drop o).take (m * ks.length) = List.zipWith Value.int (repeatL' m ks) ns ∧ ns.length = (repeatL' m ks).length
  | 0, o, _ => ⟨[], by simp [repeatL'], by simp [repeatL']⟩
  | m + 1, o, h => by
    obtain ⟨ns, e1, l1⟩ := h 0 (Nat.succ_pos _)
    obtain ⟨ns', e2, l2⟩ := elems_open m (o + ks.length) fun i hi => by
      have := h (i + 1) (Nat.succ_lt_succ hi)
      rw [Nat.succ_mul] at this
      rw [show o + ks.length + i * ks.length = o + (i * ks.length + ks.length) by omega]
      exact this
    refine ⟨ns ++ ns', ?_, by simp [repeatL', l1, l2]⟩
    show _ = List.zipWith Value.int (ks ++ repeatL' m ks) (ns ++ ns')
    rw [zip_app _ l1.symm, ← e1, ← e2, show (m + 1) * ks.length = ks.length + m * ks.length by rw [Nat.succ_mul, Nat.add_comm], List.take_add, List.drop_drop]
    simp

/-- What reads as integers are integers. -/
theorem ints_open : ∀ {n : Nat} {t : TypeId} {ks : List IntKind}, intKs P n t = some ks → ∀ {w : World} {b : Nat} {s : Nat → Bool} {h : Bool} {fuel : Nat} {cs : List Value} {x : DataW H × List MemPlace},
    DataW.trod enc P w b s h fuel t cs = some x → ∃ ns, cs = List.zipWith Value.int ks ns ∧ ns.length = ks.length
  | 0, _, _, hk, _, _, _, _, _, _, _, _ => by cases hk
  | n + 1, t, ks, hk, w, b, s, h, fuel, cs, x, hx => by
    rcases intKs_cases hk with ⟨k, ht, rfl⟩ | ⟨fs, ht, hf, hl⟩ | ⟨q, e, ks', ht, hke, hle, hlt, rfl⟩
    · cases fuel with
      | zero => cases hx
      | succ m =>
        unfold DataW.trod at hx
        rw [ht] at hx
        split at hx <;> simp_all
        exact ⟨[_], by simp; rfl, rfl⟩
    · obtain ⟨xs, m, _, _, hcl, hxl, hall⟩ := DataW.trod_struct ht hx
      obtain ⟨ns, e, l⟩ := fields_open (cs := cs) hf fun f hm ks' hk' => by
        obtain ⟨i, hi, hif⟩ := List.mem_iff_getElem.1 hm
        have hi' : i < xs.length := by rw [hxl]; simpa using hi
        have := hall i f (by rw [← hif]; simp)
        rw [List.getElem?_eq_getElem hi'] at this
        exact ints_open hk' this
      refine ⟨ns, ?_, l⟩
      rw [← e, hl, ← hcl]
      simp
    · obtain ⟨xs, m, _, _, hcl, hxl, hall⟩ := DataW.trod_array ht hx
      obtain ⟨ns, e, l⟩ := elems_open (cs := cs) (ks := ks') q 0 fun i hi => by
        have := hall i hi
        have hi' : i < xs.length := by rw [hxl]; exact hi
        rw [List.getElem?_eq_getElem hi'] at this
        rw [hle, Nat.zero_add]
        obtain ⟨ns, e1, l1⟩ := ints_open hke this
        exact ⟨ns, e1, by rw [l1, hle]⟩
      refine ⟨ns, ?_, l⟩
      rw [← e, hlt, ← hcl]
      simp

theorem arg_ints {n : Nat} {t : TypeId} {ks : List IntKind} (hk : intKs P n t = some ks) (h2 : 2 ≤ ks.length) {w : World} {b : Nat} {s : Nat → Bool} {h : Bool} {v : Value} {d : DataW H} {p : List MemPlace}
    (hd : DataW.Trod enc P w b s h t v d p) : ∃ ns, v = .agg (List.zipWith Value.int ks ns).toArray ∧ ns.length = ks.length := by
  obtain ⟨fuel, hd⟩ := hd
  obtain ⟨ns, e, l⟩ := ints_open hk hd
  refine ⟨ns, ?_, l⟩
  have hlen : v.cells.toList.length = ks.length := by rw [e]; simp [l]
  cases v with
  | agg cs => rw [← e]; simp [Value.cells]
  | _ => simp [Value.cells] at hlen; omega

theorem arg_int {n : Nat} {t : TypeId} {k : IntKind} (hk : intKs P n t = some [k]) {w : World} {b : Nat} {s : Nat → Bool} {h : Bool} {v : Value} {d : DataW H} {p : List MemPlace}
    (hd : DataW.Trod enc P w b s h t v d p) (hv : ∀ cs, v ≠ .agg cs) : ∃ m, v = .int k m := by
  obtain ⟨fuel, hd⟩ := hd
  obtain ⟨ns, e, l⟩ := ints_open hk hd
  obtain ⟨m, rfl⟩ := List.length_eq_one_iff.1 l
  refine ⟨m, ?_⟩
  cases v with
  | agg cs => exact absurd rfl (hv cs)
  | int k' m' => simpa [Value.cells] using e
  | _ => simp [Value.cells] at e
end Go.Ax

namespace Go.Ax
open Go
section
variable {H : Type} {enc : TypeId × Value → H} {P : Program}

/-- An array of integers of one cell each that reads as these integers holds them. -/
theorem table_open {t e : TypeId} {q : Nat} {k : IntKind} (ht : P.underlying t = some (.array q e)) (he : P.underlying e = some (.int k)) (hc : P.cellsOf e = 1) (hct : P.cellsOf t = q)
    {w : World} {b : Nat} {s : Nat → Bool} {h : Bool} {fuel : Nat} {cs : List Value} {ns : List Int} {p : List MemPlace}
    (hx : DataW.trod enc P w b s h fuel t cs = some (.agg (ns.map fun n => .lit (.int k n)), p)) : cs = ns.map (Value.int k) := by
  obtain ⟨xs, m, hm, hd, hcl, hxl, hall⟩ := DataW.trod_array ht hx
  have hds : (xs.map (·.1)) = ns.map fun n => DataW.lit (.int k n) := by
    have := congrArg Prod.fst hd
    simp only [DataW.agg.injEq] at this
    exact this.symm
  have hnl : ns.length = q := by
    have := congrArg List.length hds
    simp only [List.length_map] at this
    rw [← this, hxl]
  apply List.ext_getElem
  · rw [hcl, hct, List.length_map, hnl]
  · intro i h1 h2
    have hi : i < q := by rw [hcl, hct] at h1; exact h1
    have h3 := hall i hi
    rw [hc, Nat.mul_one] at h3
    have hix : i < xs.length := by rw [hxl]; exact hi
    rw [List.getElem?_eq_getElem hix] at h3
    have hd1 : (cs.drop i).take 1 = [cs[i]] := by
      rw [List.drop_eq_getElem_cons h1]
      rfl
    rw [hd1] at h3
    obtain ⟨n, e1, e2, _⟩ := DataW.trod_int he h3
    have hin : i < ns.length := by rw [hnl]; exact hi
    have h4 : (xs.map (·.1))[i]'(by rw [List.length_map]; exact hix) = (ns.map fun n => DataW.lit (.int k n))[i]'(by rw [List.length_map]; exact hin) := by
      simp only [hds]
    simp only [List.getElem_map] at h4
    rw [e2] at h4
    simp only [DataW.lit.injEq, Lit.int.injEq, true_and] at h4
    simp only [List.cons.injEq, and_true] at e1
    rw [e1, List.getElem_map, h4]
end
end Go.Ax

