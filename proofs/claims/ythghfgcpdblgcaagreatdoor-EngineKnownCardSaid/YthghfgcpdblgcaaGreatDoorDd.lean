import Derived.Test.YthghfgcpdblgcaaGreatDoorDc
import Derived.LoopNIn
import Derived.Scope
import Derived.RangeFuncRecord
import Derived.RecoverIn
import Derived.Laws.Externs
import Derived.Shelf.Spec.BitsCarry
import Derived.Laws.CopyRow
import Derived.Test.YthghfgcpdblgcaaGreatDoorDa
set_option linter.unusedSectionVars false
set_option linter.unusedVariables false
namespace Go.Ax
variable [Lo]
open Go
noncomputable section
theorem ltN_mono {a b c : Nat} (h : ltN a b = true) (hb : b ≤ c) : ltN a c = true := by
  rw [ltN_eq] at *
  simp at *
  omega
theorem dstOk_mono {n m : Nat} (hm : n ≤ m) {d : Option Tmp} (h : dstOk n d = true) : dstOk m d = true := by
  cases d with
  | none => rfl
  | some d => exact ltN_mono h hm
theorem okOpers_mono {n m : Nat} (hm : n ≤ m) : ∀ {l : List Oper}, okOpers n l = true → okOpers m l = true
  | [], _ => rfl
  | o :: l, h => by
    change sel (okOper n o) (okOpers n l) false = true at h
    show sel (okOper m o) (okOpers m l) false = true
    rw [sel_eq] at *
    split at h
    · rename_i ho
      obtain ⟨h1, h2⟩ := okOper_some ho
      rw [if_pos (by unfold okOper; rw [dstOk_mono hm h1, h2]; rfl)]
      exact okOpers_mono hm h
    · cases h
theorem okTmps_mono {n m : Nat} (hm : n ≤ m) : ∀ {l : List Nat}, okTmps n l = true → okTmps m l = true
  | [], _ => rfl
  | o :: l, h => by
    change sel (ltN o n) (okTmps n l) false = true at h
    show sel (ltN o m) (okTmps m l) false = true
    rw [sel_eq] at *
    split at h
    · rename_i ho
      rw [if_pos (ltN_mono ho hm)]
      exact okTmps_mono hm h
    · cases h
theorem sel_and {a b : Bool} (h : sel a b false = true) : a = true ∧ b = true := by cases a <;> simp [sel] at h ⊢; exact h
theorem okCode_mono {n m : Nat} (hm : n ≤ m) : ∀ {c : Code}, okCode n c = true → okCode m c = true := by
  intro c
  induction c with
  | skip => exact fun _ => rfl
  | region id ops d => exact fun h => okOpers_mono hm h
  | seq a b iha ihb => intro h; obtain ⟨h1, h2⟩ := sel_and h; show sel (okCode m a) (okCode m b) false = true; rw [iha h1]; exact ihb h2
  | cond c a b iha ihb =>
    intro h
    obtain ⟨h0, h⟩ := sel_and h
    obtain ⟨h1, h2⟩ := sel_and h
    show sel (okOpnd c) (sel (okCode m a) (okCode m b) false) false = true
    rw [h0, iha h1]; exact ihb h2
  | block id a iha => exact fun h => iha h
  | loop a iha => exact fun h => iha h
  | rangeFunc f ps a b iha ihb =>
    intro h
    obtain ⟨h0, h⟩ := sel_and h
    obtain ⟨h1, h2⟩ := sel_and h
    simp only [Bool.and_eq_true] at h0
    show sel (okOpnd f && okTmps m ps.toList) (sel (okCode m a) (okCode m b) false) false = true
    rw [h0.1, okTmps_mono hm h0.2, iha h1]; exact ihb h2
  | exit id => exact fun _ => rfl
  | scope a iha => exact fun h => iha h
  | label l => exact fun _ => rfl
  | goto l => exact fun _ => rfl
  | ret => exact fun _ => rfl
  | refuse w => exact fun _ => rfl
section
variable {P : Program} {B : Nat} {C : Cfg}
theorem FrR.fresh {mk : Option Nat} {n nt : Nat} {ρ : Ren} {s : St} {w : World} {fr : Fr} {a : Act} (hf : FrR mk n nt ρ s w fr a) : FrR mk n nt ρ s w fr.fresh a := by
  refine ⟨hf.size, fun t v ht => ?_, hf.defers, hf.nomark⟩
  unfold Fr.get at ht
  rw [sel_eq] at ht
  split at ht
  · rename_i hlt
    refine hf.tmps t v ?_
    unfold Fr.get
    rw [hlt]
    exact ht
  · cases ht
theorem iter_succ (f : Run) (k : Nat) (fr : Fr) (s : St) : iter f (k + 1) fr s = obind (f fr s) (iterNext (iter f k)) := rfl
theorem DefR.marks {ρ : Ren} {s : St} {w : World} {l : List (FuncId × List Value)} {ds : List Deferred} (h : DefR ρ s w l ds) : ∀ d ∈ ds, ∀ q, d.target = .collected q → MarkOk ρ s w q := by
  induction h with
  | nil => intro d hd; cases hd
  | cons ht ha hv _ ih =>
    intro d hd q hq
    rcases List.mem_cons.1 hd with rfl | hd
    · rw [ht] at hq; cases hq
    · exact ih d hd q hq
  | mark hm hlt _ ih =>
    intro d hd q hq
    rcases List.mem_cons.1 hd with rfl | hd
    · cases hq; exact hm
    · exact ih d hd q hq
theorem loop?_some {o : AObj} {r : ALoop} (h : o.loop? = some r) : o = .loop r := by
  cases o with
  | loop q => cases h; rfl
  | iter q => cases h
theorem getLoop_some {s : St} {l : Nat} {r : ALoop} (h : Ax.getLoop s l = some r) : s.heap.get l = some (.loop (.loop r)) := by
  unfold Ax.getLoop at h
  split at h
  · rename_i o ho
    rw [loop?_some h] at ho
    exact ho
  · cases h
theorem getLoop_sound {ρ : Ren} {s : St} {w : World} (h : HR P B ρ s w) {l : Nat} {r : ALoop} (hg : Ax.getLoop s l = some r) : ∃ loc q, ρ l = some loc ∧ s.tag l = some (0, l) ∧ w.heap[loc.blk]? = some (.loop q) ∧ LoopR ρ r q := by
  have := getLoop_some hg
  obtain ⟨loc, h1, q, h2, h3⟩ := h.loops l _ this
  cases h3 with
  | loop h3 => exact ⟨loc, _, h1, tag_loop this, h2, h3⟩
theorem setLoop_goes {ρ : Ren} {s : St} {w : World} (h : HR P B ρ s w) {l : Nat} {r : ALoop} (hg : Ax.getLoop s l = some r) {loc : Loc} {q : Loop} (hl : ρ l = some loc) (hq : LoopR ρ r q) (st : LoopState) (pe : Option Code) :
    Goes P B ρ s w ρ (setLoop s l r st pe) (w.putObj loc.blk (.loop { q with state := st, pending := pe })) := by
  have := getLoop_some hg
  exact Goes.putObj h (tag_loop this) hl (.inr ⟨_, rfl, .loop ⟨rfl, rfl, hq.vars, hq.params, hq.assign, hq.body, hq.code⟩⟩)
theorem loopAlt_some {fn : FuncId} {rd : Bool} {body : Code} {it : Run} {fr : Fr} {s : St} {r : Ex × Fr × St} (h : loopAlt C fn rd body it fr s = some r) :
    it fr s = some r ∨ (rd = false ∧ ∃ F, C.loopc fn (firstReg body) = some F ∧ (F fr s).run = some r) := by
  unfold loopAlt at h
  cases rd with
  | true => exact .inl h
  | false =>
    rw [sel_false] at h
    cases hF : C.loopc fn (firstReg body) with
    | none => rw [hF] at h; exact .inl h
    | some F =>
      rw [hF] at h
      have h : Option.casesOn (F fr s).run (it fr s) some = some r := h
      cases hr : (F fr s).run with
      | none => rw [hr] at h; exact .inl h
      | some q => rw [hr] at h; have h : some q = some r := h; cases h; exact .inr ⟨rfl, F, rfl, hr⟩
theorem exec_wp (hK : CfgOk C P) {call : CallT} {yield : YieldT} (hc : CallOk P call) (hy : YieldOk P yield) (hQ : QuietOk C call) (hmix : P.follows .mixedOrders = true) {ro : Option Nat} {m n nt : Nat} {mk : Option Nat} {fn : FuncId} {c0 : Code} (hLp : ro = none → n = C.vars fn ∧ ∀ body, PartOf c0 (.loop body) → LoopHolds P C fn body) :
    ∀ (c : Code), PartOf c0 c → okCode nt c = true → (mk = none → noRange c = true) → ∀ (fr : Fr) (s : St) (e : Ex) (fr' : Fr) (s' : St) (ρ : Ren) (a : Act) (w : World) (Q : Exit → Act → World → Prop),
      exec C call yield n fn ro.isSome c fr s = some (e, fr', s') → HR P B ρ s w → FrR mk n nt ρ s w fr a → (∀ k, mk = some k → k ≤ w.heap.size) →
      (∀ ρ' w' a', Goes P B ρ s w ρ' s' w' → FrR mk n nt ρ' s' w' fr' a' → Q (exq e) a' w') → c.wpIn (Fro ro) m P Q a w := by
  intro c
  induction c with
  | skip =>
    intro _ _ _ fr s e fr' s' ρ a w Q h hr hf hlo hq
    cases h
    exact wpIn_skip (hq ρ w a (Goes.refl hr) hf)
  | region id ops d =>
    intro _ hok _ fr s e fr' s' ρ a w Q h hr hf hlo hq
    change obind (sel d (execDraw C call yield ro.isSome n ops.toList (C.order fn id) fr.fresh s) (execOps C call yield ro.isSome n ops.toList ops.toList fr.fresh s)) (fun r => some (Ex.normal, r)) = some (e, fr', s') at h
    obtain ⟨⟨fr2, s2⟩, hd, h⟩ := obind_some.1 h
    cases h
    cases d with
    | true => exact draw_wp hK hc hy hQ hmix hok hd hr hf.fresh hq
    | false =>
      refine wpIn_region ?_
      rw [List.range_eq_range']
      have := ops_wp hK hc hy (m := m) (Q := Q) hok ops.toList 0 rfl fr.fresh s _ _ ρ a w hd hr hf.fresh hq
      simpa using this
  | seq x y ihx ihy =>
    intro hp hok hnr fr s e fr' s' ρ a w Q h hr hf hlo hq
    obtain ⟨o1, o2⟩ := sel_and hok
    change obind (exec C call yield n fn ro.isSome x fr s) (iterNext (exec C call yield n fn ro.isSome y)) = some (e, fr', s') at h
    obtain ⟨⟨e1, fr1, s1⟩, h1, h2⟩ := obind_some.1 h
    refine wpIn_seq (ihx hp.seqL o1 (fun hm => (sel_and (hnr hm)).1) fr s e1 fr1 s1 ρ a w _ h1 hr hf hlo ?_)
    intro ρ1 w1 a1 hg1 hf1
    cases e1 with
    | normal => exact ihy hp.seqR o2 (fun hm => (sel_and (hnr hm)).2) fr1 s1 e fr' s' ρ1 a1 w1 Q h2 hg1.hr hf1 (fun k hk => Nat.le_trans (hlo k hk) hg1.grow) fun ρ2 w2 a2 hg2 hf2 => hq ρ2 w2 a2 (hg1.trans hg2) hf2
    | exit id => cases h2; exact hq ρ1 w1 a1 hg1 hf1
    | ret => cases h2; exact hq ρ1 w1 a1 hg1 hf1
  | cond x y z ihy ihz =>
    intro hp hok hnr fr s e fr' s' ρ a w Q h hr hf hlo hq
    obtain ⟨o0, o1⟩ := sel_and hok
    obtain ⟨o1, o2⟩ := sel_and o1
    change obind (fr.ev n x) (condRun (exec C call yield n fn ro.isSome y) (exec C call yield n fn ro.isSome z) fr s) = some (e, fr', s') at h
    obtain ⟨v, hv, h⟩ := obind_some.1 h
    have hvr := opnd_vr (ρ := ρ) (a := a) o0 (fun t u _ hu => hf.tmps t u hu) hv
    unfold condRun at h
    split at h
    · rename_i b
      generalize hav : a.eval x = av at hvr
      cases hvr
      rw [sel_eq] at h
      refine wpIn_cond hav ?_
      cases b with
      | true => exact ihy hp.condL o1 (fun hm => (sel_and (hnr hm)).1) fr s e fr' s' ρ a w Q h hr hf hlo hq
      | false => exact ihz hp.condR o2 (fun hm => (sel_and (hnr hm)).2) fr s e fr' s' ρ a w Q h hr hf hlo hq
    · cases h
  | block id x ihx =>
    intro hp hok hnr fr s e fr' s' ρ a w Q h hr hf hlo hq
    change obind (exec C call yield n fn ro.isSome x fr s) (blockEnd id) = some (e, fr', s') at h
    obtain ⟨⟨e1, fr1, s1⟩, h1, h2⟩ := obind_some.1 h
    refine wpIn_block (ihx hp.block hok hnr fr s e1 fr1 s1 ρ a w _ h1 hr hf hlo ?_)
    intro ρ1 w1 a1 hg1 hf1
    cases e1 with
    | normal => cases h2; exact hq ρ1 w1 a1 hg1 hf1
    | ret => cases h2; exact hq ρ1 w1 a1 hg1 hf1
    | exit id' =>
      change sel (Nat.beq id id') (some (Ex.normal, fr1, s1)) (some (Ex.exit id', fr1, s1)) = some (e, fr', s') at h2
      rw [sel_eq] at h2
      show (if id' = id then Q .normal a1 w1 else Q (.exit id') a1 w1)
      by_cases hid : id' = id
      · rw [if_pos hid]
        rw [if_pos (by rw [hid]; exact Nat.beq_refl _)] at h2
        cases h2
        exact hq ρ1 w1 a1 hg1 hf1
      · rw [if_neg hid]
        rw [if_neg (fun hh => hid (Nat.eq_of_beq_eq_true hh).symm)] at h2
        cases h2
        exact hq ρ1 w1 a1 hg1 hf1
  | loop x ihx =>
    intro hp hok hnr fr s e fr' s' ρ a w Q h hr hf hlo hq
    change loopAlt C fn ro.isSome x (iter (exec C call yield n fn ro.isSome x) 100000) fr s = some (e, fr', s') at h
    rcases loopAlt_some h with h2 | ⟨hro, F, hF, h2⟩
    case inr =>
      have hron : ro = none := by cases ro with
        | none => rfl
        | some l => cases hro
      subst hron
      obtain ⟨hn, hL⟩ := hLp rfl
      subst hn
      exact hL x hp F hF fr s e fr' s' h2 B ρ a w mk m nt Q hok hnr hr hf hlo hq
    replace h := h2
    refine wpIn_loop_rounds 100000 ?_
    have key : ∀ (k : Nat) (fr2 : Fr) (s2 : St) (ρ1 : Ren) (a1 : Act) (w1 : World), iter (exec C call yield n fn ro.isSome x) k fr2 s2 = some (e, fr', s') → Goes P B ρ s w ρ1 s2 w1 → FrR mk n nt ρ1 s2 w1 fr2 a1 → Code.roundsIn (Fro ro) m P x Q k a1 w1 := by
      intro k
      induction k with
      | zero => intro fr2 s2 ρ1 a1 w1 h; cases h
      | succ k ih =>
        intro fr2 s2 ρ1 a1 w1 h hg hf
        rw [iter_succ] at h
        obtain ⟨⟨e1, fr1, s1⟩, h1, h2⟩ := obind_some.1 h
        rw [roundsIn_succ]
        refine ihx hp.loop hok hnr fr2 s2 e1 fr1 s1 ρ1 a1 w1 _ h1 hg.hr hf (fun k hk => Nat.le_trans (hlo k hk) hg.grow) ?_
        intro ρ2 w2 a2 hg2 hf2
        cases e1 with
        | normal => exact ih fr1 s1 ρ2 a2 w2 h2 (hg.trans hg2) hf2
        | exit id => cases h2; exact hq ρ2 w2 a2 (hg.trans hg2) hf2
        | ret => cases h2; exact hq ρ2 w2 a2 (hg.trans hg2) hf2
    exact key 100000 fr s ρ a w h (Goes.refl hr) hf
  | rangeFunc f ps x y ihx ihy =>
    intro hp hok hnr fr s e fr' s' ρ a w Q h hr hf hlo hq
    obtain ⟨o0, o1⟩ := sel_and hok
    obtain ⟨o1, o2⟩ := sel_and o1
    simp only [Bool.and_eq_true] at o0
    obtain ⟨lo, hmk⟩ : ∃ lo, mk = some lo := by
      cases mk with
      | some lo => exact ⟨lo, rfl⟩
      | none => exact absurd (hnr rfl) (by simp [noRange])
    cases ro with
    | some l => cases h
    | none =>
      change obind (fr.ev n f) (fun fv => rangeCall C call fr (Nat.succ s.next) fv
        { heap := (s.heap.set s.next .other).set (Nat.succ s.next) (.loop (.loop { state := .ready, pending := none, fn := fn, vars := fr.vars, params := ps.toList, assign := x, body := y, n := n })), fams := s.fams, next := Nat.succ (Nat.succ s.next) }) = some (e, fr', s') at h
      obtain ⟨fv, hfv, h⟩ := obind_some.1 h
      have hvr := opnd_vr (ρ := ρ) (a := a) o0.1 (fun t u _ hu => hf.tmps t u hu) hfv
      unfold rangeCall at h
      obtain ⟨rr, hinv, h⟩ := obind_some.1 h
      split at h
      · rename_i g args s2
        obtain ⟨⟨v, s3⟩, hcall, h⟩ := obind_some.1 h
        obtain ⟨r, hgl, hend⟩ := obind_some.1 h
        clear h
        refine wpIn_rangeFunc ?_
        intro fn' _
        have g1 := Goes.newOther hr (.deferred (some []))
        have hw1 : (w.alloc (.deferred (some []))).heap.size = w.heap.size + 1 := by show (w.heap.push _).size = _; simp
        let q : Loop := { state := .ready, pending := none, fn := fn', tmps := a.tmps, params := ps, assign := x, body := y, defers := w.heap.size }
        have hloop : LoopR (ρ.set s.next ⟨w.heap.size, 0, 0⟩) { state := .ready, pending := none, fn := fn, vars := fr.vars, params := ps.toList, assign := x, body := y, n := n } q := by
          refine ⟨rfl, rfl, ?_, rfl, rfl, rfl, okCode_mono hf.size o1, okCode_mono hf.size o2, okTmps_mono hf.size o0.2⟩
          intro t u ht hu
          refine VR.mono (Ren.le_set hr _) (hf.tmps t u ?_)
          unfold Fr.get
          rw [ltN_eq]
          simp only [ht, decide_true]
          exact hu
        have g2 := Goes.newLoop g1.hr hloop
        rw [hw1] at g2
        have g12 := g1.trans g2
        have hyv : VR ((ρ.set s.next ⟨w.heap.size, 0, 0⟩).set (Nat.succ s.next) ⟨w.heap.size + 1, 0, 0⟩) (.func (.yield (Nat.succ s.next)) #[] #[]) (.func (.yield (w.heap.size + 1)) #[] #[]) := by
          exact .func (.yield (q := ⟨w.heap.size + 1, 0, 0⟩) (Ren.set_same _ _ _)) .nil .nil
        have hfv2 := hvr.mono g12.le
        have hs := invoke_sound hK g2.hr hfv2 (VRs.cons hyv .nil) hinv
        have post : ∀ (cargs : List Value), VRs ((ρ.set s.next ⟨w.heap.size, 0, 0⟩).set (Nat.succ s.next) ⟨w.heap.size + 1, 0, 0⟩) args cargs → s2 = { heap := (s.heap.set s.next .other).set (Nat.succ s.next) (.loop (.loop { state := .ready, pending := none, fn := fn, vars := fr.vars, params := ps.toList, assign := x, body := y, n := n })), fams := s.fams, next := Nat.succ (Nat.succ s.next) } →
            CallsIn (Fro none) (m - 1) P g ⟨cargs⟩ ((w.alloc (.deferred (some []))).alloc (.loop q)) (rangePost (Fro none) m P (w.heap.size + 1) Q { a with defers := [{ target := .collected w.heap.size, args := #[] }] ++ a.defers }) := by
          rintro cargs hargs rfl
          refine callsIn_fro ((hc g args _ v s3 hcall B _ _ cargs g2.hr hargs).mono ?_)
          rintro e3 w3 ⟨cv, ρ3, rfl, g3, hv3⟩
          obtain ⟨loc, q3, l1, l2, l3, l4⟩ := getLoop_sound g3.hr hgl
          have hloc : loc = ⟨w.heap.size + 1, 0, 0⟩ := by
            have := g3.le _ _ (Ren.set_same (ρ.set s.next ⟨w.heap.size, 0, 0⟩) (Nat.succ s.next) ⟨w.heap.size + 1, 0, 0⟩)
            rw [l1] at this
            exact Option.some.inj this
          subst hloc
          unfold afterRange at hend
          obtain ⟨hnb, h⟩ := guard_some.1 hend
          clear hend
          have hbusy : q3.state ≠ .busy := by
            rw [l4.state]
            intro e0
            rw [e0] at hnb
            cases hnb
          have g4 := setLoop_goes g3.hr hgl l1 l4 .exhausted r.pending
          have g0 := (g12.trans g3).trans g4
          have hmark0 : MarkOk (ρ.set s.next ⟨w.heap.size, 0, 0⟩) { heap := s.heap.set s.next .other, fams := s.fams, next := Nat.succ s.next } (w.alloc (.deferred (some []))) w.heap.size := by
            refine ⟨by rw [hw1]; omega, ?_, alloc_at _ _⟩
            rintro ⟨i, l, t, e1, e2, e3, e4⟩
            by_cases ei : i = s.next
            · subst ei
              unfold St.tag at e2
              rw [Hp.get_set_same] at e2
              cases e2
            · rw [Ren.set_other ρ _ ei] at e3
              have := (hr.dom i l e3).2.2.2
              omega
          have hmark := MarkOk.goes ((g2.trans g3).trans g4) hmark0
          have hfr : FrR mk n nt ρ3 (setLoop s3 (Nat.succ s.next) r .exhausted r.pending) (w3.putObj (w.heap.size + 1) (.loop { q3 with state := .exhausted, pending := r.pending })) fr { a with defers := [{ target := .collected w.heap.size, args := #[] }] ++ a.defers } := by
            have h5 := hf.goes g0
            refine ⟨h5.size, h5.tmps, ?_, fun d hd r hr' => ?_⟩
            rotate_left
            · rcases List.mem_cons.1 hd with rfl | hd
              · cases hr'; exact ⟨lo, hmk, hlo lo hmk⟩
              · exact h5.nomark d hd r hr'
            refine .mark hmark (fun d hd r hr' => ?_) h5.defers
            exact (hf.defers.marks d hd r hr').1
          have hrun := run_endLoop (P := P) l3 hbusy
          have hpend : ({ q3 with state := .exhausted } : Loop) = { q3 with state := .exhausted, pending := r.pending } := by rw [← l4.pending]
          rw [hpend, l4.pending] at hrun
          refine ⟨r.pending, _, hrun, ?_⟩
          split at h
          · rename_i hp
            rw [hp]
            rw [hp] at h
            cases h
            rw [hp] at hfr g0
            exact hq _ _ _ g0 hfr
          · rename_i hp
            rw [hp]
            rw [hp] at h
            cases h
            rw [hp] at hfr g0
            exact wpIn_ret (hq _ _ _ g0 hfr)
          · rename_i id hp
            rw [hp]
            rw [hp] at h
            cases h
            rw [hp] at hfr g0
            exact wpIn_exit (hq _ _ _ g0 hfr)
          · cases h
        generalize hcf : a.eval f = cf at hfv2 hs
        cases hfv2 with
        | @func f1 f2 a1 a2 b1 b2 hff h1 h2 =>
          simp only [Deferred.ofValue, Sem.run_bind, Sem.run_pure, Result.andThen_ok] at hs
          obtain ⟨hs2, cargs, hrun, hargs⟩ := hs
          refine ⟨w.heap.size + 1, [{ target := .collected w.heap.size, args := #[] }], _, { target := .fn f2 ⟨b2⟩, args := ⟨a2⟩ ++ #[.func (.yield (w.heap.size + 1)) #[] #[]] }, _, g, ⟨cargs⟩, _,
            run_enterLoop_outer fn' a.tmps ps x y, ?_, fun _ _ => trivial, hrun, (fun h => by cases h), trivial, (post cargs hargs hs2).2⟩
          show Sem.run P (Deferred.ofValue (a.eval f) (#[Operand.const (.func (.yield (w.heap.size + 1)) #[] #[])].map a.eval)) _ = _
          rw [hcf]
          have e0 : (#[Operand.const (.func (.yield (w.heap.size + 1)) #[] #[])].map a.eval) = #[.func (.yield (w.heap.size + 1)) #[] #[]] := by simp [Act.eval]
          rw [e0]
          rfl
        | _ => cases hinv
      · cases h
  | exit id =>
    intro _ _ _ fr s e fr' s' ρ a w Q h hr hf hlo hq
    cases h
    exact wpIn_exit (hq ρ w a (Goes.refl hr) hf)
  | scope x ihx =>
    intro hp hok hnr fr s e fr' s' ρ a w Q h hr hf hlo hq
    cases ro with
    | some l => cases h
    | none =>
      change exec C call yield n fn false x fr s = some (e, fr', s') at h
      have := ihx hp.scope hok hnr fr s e fr' s' ρ a w (Exit.noGoto Q) h hr hf hlo (fun ρ' w' a' hg hf' => by
        have := hq ρ' w' a' hg hf'
        cases e <;> exact this)
      exact (wpIn_wide (n := m)).2 (wp_scope_straight ((wpIn_wide (n := m)).1 this))
  | label l =>
    intro _ _ _ fr s e fr' s' ρ a w Q h hr hf hlo hq
    cases h
    exact wpIn_label (hq ρ w a (Goes.refl hr) hf)
  | goto l =>
    intro _ _ _ fr s e fr' s' ρ a w Q h hr hf hlo hq
    cases h
  | ret =>
    intro _ _ _ fr s e fr' s' ρ a w Q h hr hf hlo hq
    cases h
    exact wpIn_ret (hq ρ w a (Goes.refl hr) hf)
  | refuse why =>
    intro _ _ _ fr s e fr' s' ρ a w Q h hr hf hlo hq
    cases h
end
end
end Go.Ax
namespace Go.Ax
variable [Lo]
open Go
noncomputable section
section
variable {P : Program} {B : Nat} {C : Cfg}
theorem mapM_results {n : Nat} {ρ : Ren} {s : St} {w : World} {fr : Fr} {tmps : Array Value} (h : HR P B ρ s w) (ht : ∀ t v, fr.get n t = some v → VR ρ v (tmps.getD t undef)) :
    ∀ {l : List ResultVar} {vs : List Value}, results P n fr s l = some vs → ∃ cs, (l.mapM (m := Sem) fun
      | .tmp t => pure (tmps.getD t undef)
      | .cell a t => do loadVar t (← asAddr (tmps.getD a undef))).run P w = .ok cs w ∧ VRs ρ vs cs
  | [], vs, hr => by
    cases hr
    exact ⟨[], by simp, .nil⟩
  | r :: l, vs, hr => by
    change obind (resultOf P n fr s r) (fun v => obind (results P n fr s l) fun vs => some (v :: vs)) = some vs at hr
    obtain ⟨v, hv, hr⟩ := obind_some.1 hr
    obtain ⟨vs', hvs, hr⟩ := obind_some.1 hr
    cases hr
    obtain ⟨cs, h1, h2⟩ := mapM_results h ht hvs
    cases r with
    | tmp t =>
      refine ⟨tmps.getD t undef :: cs, ?_, .cons (ht t v hv) h2⟩
      simp only [List.mapM_cons, Sem.run_bind, Sem.run_pure, Result.andThen_ok, h1]
    | cell a t =>
      obtain ⟨u, hu, hv⟩ := obind_some.1 hv
      have hvu := ht a u hu
      split at hv
      · generalize hcq : tmps.getD a undef = c at hvu
        cases hvu with
        | @ptr b0 o0 l0 hl =>
          obtain ⟨c, h3, h4⟩ := load_sound h hl hv
          refine ⟨c :: cs, ?_, .cons h4 h2⟩
          have hA : (asAddr (tmps.getD a undef)).run P w = .ok ⟨l0.blk, l0.off + o0, none⟩ w := by rw [hcq]; rfl
          simp only [List.mapM_cons, Sem.run_bind, hA, Sem.run_pure, Result.andThen_ok]
          rw [h3]
          simp only [Result.andThen_ok, h1]
      · cases hv
theorem results_sound {n : Nat} {ρ : Ren} {s : St} {w : World} {fr : Fr} {tmps : Array Value} {fn : Func} (h : HR P B ρ s w) (ht : ∀ t v, fr.get n t = some v → VR ρ v (tmps.getD t undef)) {vs : List Value} (hr : results P n fr s fn.results.toList = some vs) :
    ∃ c, (Go.results fn tmps).run P w = .ok c w ∧ VR ρ (Ax.tuple vs) c := by
  obtain ⟨cs, h1, h2⟩ := mapM_results h ht hr
  have hm : (Go.results fn tmps).run P w = .ok (if h : (cs.toArray).size = 1 then (cs.toArray)[0] else .tuple cs.toArray) w := by
    unfold Go.results
    rw [Array.mapM_eq_mapM_toList]
    simp only [map_eq_pure_bind, bind_assoc, pure_bind]
    rw [Sem.run_bind]
    erw [h1]
    simp only [Result.andThen_ok, Sem.run_pure]
  refine ⟨_, hm, ?_⟩
  match vs, cs, h2 with
  | [], _, .nil => simpa [Ax.tuple] using VR.tuple (ρ := ρ) .nil
  | [v], _, .cons hv .nil => simpa [Ax.tuple] using hv
  | v :: u :: vs, _, .cons hv (.cons hu hl) => simpa [Ax.tuple] using VR.tuple (VRs.cons hv (.cons hu hl))
theorem setVars_get : ∀ (vs : List Value) (i : Nat) (t : Tr Value) (k : Nat), (setVars vs i t).get k = if i ≤ k ∧ k < i + vs.length then vs[k - i]? else t.get k
  | [], i, t, k => by
    show t.get k = _
    rw [if_neg (by simp)]
  | v :: vs, i, t, k => by
    show (setVars vs (i + 1) (t.set i v)).get k = _
    rw [setVars_get vs (i + 1)]
    by_cases h : i + 1 ≤ k ∧ k < i + 1 + vs.length
    · rw [if_pos h, if_pos (by simp; omega)]
      rw [show k - i = (k - (i + 1)) + 1 by omega]
      rfl
    · rw [if_neg h, Tr.get_set]
      by_cases e : k = i
      · subst e
        rw [if_pos rfl, if_pos (by simp)]
        simp
      · rw [if_neg e, if_neg (by simp; omega)]
theorem start_fr {n nt : Nat} {ρ : Ren} {s : St} {w : World} {args cargs : List Value} (ha : VRs ρ args cargs) (mk : Option Nat) : FrR mk n nt ρ s w (startFr args) { tmps := ⟨cargs⟩ ++ Array.replicate (nt - (⟨cargs⟩ : Array Value).size) undef, defers := [] } := by
  refine ⟨by simp; omega, fun t v ht => ?_, .nil, fun d hd => by cases hd⟩
  unfold Fr.get at ht
  rw [sel_eq] at ht
  split at ht
  · change (setVars args 0 .e).get t = some v at ht
    rw [setVars_get] at ht
    split at ht
    · rename_i hh
      obtain ⟨c, h1, h2⟩ := ha.get (by simpa using ht)
      have hc : ((⟨cargs⟩ : Array Value) ++ Array.replicate (nt - (⟨cargs⟩ : Array Value).size) undef)[t]? = some c := by
        have hl := (List.getElem?_eq_some_iff.1 h1).1
        rw [Array.getElem?_append_left (by simpa using hl)]
        simpa using h1
      rw [Array.getD_eq_getD_getElem?, hc]
      exact h2
    · rw [Tr.get_e] at ht
      cases ht
  · cases ht
theorem HR.unowned {ρ : Ren} {s : St} {w : World} (h : HR P B ρ s w) {r : Nat} (hB : B ≤ r) (hno : ¬ Owned ρ s r) (o : Obj) : HR P B ρ s (w.putObj r o) := by
  have hsz : (w.putObj r o).heap.size = w.heap.size := World.putObj_size
  have hold : ∀ i t l, s.tag i = some t → ρ.at i = some l → (w.putObj r o).heap[l.blk]? = w.heap[l.blk]? := by
    intro i t l ht hl
    refine World.putObj_heap_other ?_
    rintro rfl
    by_cases hlo : i < fixedTop
    · have := h.low i hlo (by rw [ht]; simp)
      rw [Ren.at_low hlo] at hl
      cases hl
      have : (Lo.lo i).blk < B := this.1
      omega
    · exact hno ⟨i, l, t, by omega, ht, by rwa [Ren.at_of (by omega)] at hl, rfl⟩
  refine ⟨fun i l hi => by rw [hsz]; exact h.dom i l hi, h.next, by rw [hsz]; exact h.base_le, h.low, h.heap_dom, h.fam_dom, fun i cs e f hc => ?_, fun i es c hi => ?_, fun i q hi => ?_, h.sep⟩
  · obtain ⟨q, hq⟩ := h.rows i cs e f hc
    exact ⟨q, hq.move (Ren.le_refl ρ) (hold i _ q (tag_cells hc) hq.at_)⟩
  · obtain ⟨q, hq, es', h1, h2⟩ := h.maps i es c hi
    exact ⟨q, hq, es', by rw [hold i _ q (tag_map hi) (by rw [Ren.at_of (h.dom i q hq).1]; exact hq)]; exact h1, h2⟩
  · obtain ⟨u, hu, q', h1, h2⟩ := h.loops i q hi
    exact ⟨u, hu, q', by rw [hold i _ u (tag_loop hi) (by rw [Ren.at_of (h.dom i u hu).1]; exact hu)]; exact h1, h2⟩
theorem Goes.unowned {ρ ρ' : Ren} {s s' : St} {w w' : World} (hg : Goes P B ρ s w ρ' s' w') (h0 : HR P B ρ s w) {r : Nat} (hr : w.heap.size ≤ r) (hno : ¬ Owned ρ' s' r) (o : Obj) : Goes P B ρ s w ρ' s' (w'.putObj r o) := by
  refine ⟨hg.le, hg.hr.unowned (Nat.le_trans h0.base_le hr) hno o, hg.os, hg.tape, hg.output, by rw [World.putObj_size]; exact hg.grow, hg.next, fun b hb ho => ?_, hg.own, hg.old⟩
  rw [World.putObj_heap_other (by omega)]
  exact hg.frame b hb ho
theorem DefR.putObj {ρ : Ren} {s : St} {w : World} {l : List (FuncId × List Value)} {ds : List Deferred} {r : Nat} (o : Obj) (h : DefR ρ s w l ds) (hlt : ∀ d ∈ ds, ∀ q, d.target = .collected q → q < r) : DefR ρ s (w.putObj r o) l ds := by
  induction h with
  | nil => exact .nil
  | cons ht ha hv _ ih => exact .cons ht ha hv (ih fun d hd => hlt d (by simp [hd]))
  | @mark q l ds hm hl2 _ ih =>
    refine .mark ⟨by rw [World.putObj_size]; exact hm.1, hm.2.1, ?_⟩ hl2 (ih fun d hd => hlt d (by simp [hd]))
    have := hlt { target := .collected q, args := #[] } (by simp) q rfl
    rw [World.putObj_heap_other (by omega)]
    exact hm.2.2
def DCallOk (P : Program) (dcall : CallT) : Prop :=
  ∀ f args s v s', dcall f args s = some (v, s') → ∀ B ρ w cargs, HR P B ρ s w → VRs ρ args cargs →
    (callFunc f ⟨cargs⟩).run P w = .ok (.enter f ⟨cargs⟩) w ∧
    ∀ m, CallsDIn Fence.wide m P f ⟨cargs⟩ .returning w fun e u' w' => u' = .returning ∧ ∃ c ρ', e = .returned c ∧ Goes P B ρ s w ρ' s' w' ∧ VR ρ' v c
theorem leaves_ok {dcall : CallT} (hd : DCallOk P dcall) {fn : Func} {n m : Nat} {R : Ending → World → Prop} {fr : Fr} {tmps : Array Value} {ρ0 : Ren} {s0 s1 : St} {w0 : World} (h0 : HR P B ρ0 s0 w0) {vs : List Value} (hres : results P n fr s1 fn.results.toList = some vs)
    (hR : ∀ ρ' w' c, Goes P B ρ0 s0 w0 ρ' s1 w' → VR ρ' (Ax.tuple vs) c → R (.returned c) w') :
    ∀ (ds : List Deferred) (l : List (FuncId × List Value)) (s : St) (ρ : Ren) (w : World), DefR ρ s w l ds → (∀ d ∈ ds, ∀ r, d.target = .collected r → w0.heap.size ≤ r) → Goes P B ρ0 s0 w0 ρ s w →
      (∀ t v, fr.get n t = some v → VR ρ v (tmps.getD t undef)) → unwind dcall l s = some s1 → LeavesInM Fence.wide m P fn tmps R ds .returning w
  | [], _, s, ρ, w, .nil, _, hg, ht, hu => by
    cases hu
    obtain ⟨c, h1, h2⟩ := results_sound hg.hr ht hres
    exact ⟨c, h1, hR ρ w c hg h2⟩
  | _ :: ds, _, s, ρ, w, .mark (r := r) hm hlt hrest, hge, hg, ht, hu => by
    refine ⟨by simp, .inl ⟨r, _, rfl, run_takeDeferred hm.2.2, ?_⟩⟩
    have hr := hge { target := .collected r, args := #[] } (by simp) r rfl
    exact leaves_ok hd h0 hres hR ds _ s ρ _ (hrest.putObj _ hlt) (fun d hd => hge d (by simp [hd])) (hg.unowned h0 hr hm.2.1 _) ht hu
  | d :: ds, _, s, ρ, w, .cons (f := f) (args := args) (first := first) (captured := captured) ht0 ha hv hrest, hge, hg, ht, hu => by
    change obind (dcall f args s) (fun q => unwind dcall _ q.2) = some s1 at hu
    obtain ⟨⟨v, s2⟩, hcall, hu⟩ := obind_some.1 hu
    obtain ⟨henter, hD⟩ := hd f args s v s2 hcall B ρ w (first ++ captured) hg.hr hv
    have hinv : (Go.invoke d.target d.args).run P w = .ok (.enter f ⟨first ++ captured⟩) w := by
      rw [ht0, ha]
      have e : ((⟨first⟩ : Array Value) ++ ⟨captured⟩) = ⟨first ++ captured⟩ := by simp
      simp only [Go.invoke, e]
      exact henter
    refine ⟨by simp, .inr ⟨(fun h => by cases h), .func f, ⟨captured⟩, f, ⟨first ++ captured⟩, ht0, hinv, fun _ _ => trivial, ?_⟩⟩
    refine (hD (m - 1)).mono ?_
    rintro e u' w' ⟨rfl, c, ρ', rfl, hg2, hv2⟩
    exact leaves_ok hd h0 hres hR ds _ s2 ρ' w' (hrest.goes hg2) (fun d hd => hge d (by simp [hd])) (hg.trans hg2) (fun t u hu => (ht t u hu).mono hg2.le) hu
theorem callD_ok (hK : CfgOk C P) {call : CallT} {yield : YieldT} (hc : CallOk P call) (hy : YieldOk P yield) (hQ : QuietOk C call) : DCallOk P (callD C call yield) := by
  intro f args s v s' h B ρ w cargs hr ha
  unfold callD at h
  obtain ⟨c, hb, h⟩ := obind_some.1 h
  obtain ⟨hnr, h⟩ := guard_some.1 h
  obtain ⟨⟨e, fr', s2⟩, hex, hfin⟩ := obind_some.1 h
  obtain ⟨fn, h1, h2, h3, h4, h5⟩ := hK.body f c hb
  have h3' : ¬ fn.name = "runtime.NumGoroutine" := by simpa using h3
  refine ⟨by simp [callFunc, h1, h2, h3'], fun m => ?_⟩
  refine callsDIn_of_wp (F := Fence.wide) (n := m) (R := fun e w' => ∃ c ρ', e = .returned c ∧ Goes P B ρ s w ρ' s' w' ∧ VR ρ' v c) h1 h2 trivial ?_
  have key : ∀ ρ' w' a', Goes P B ρ s w ρ' s2 w' → FrR none (C.vars f) fn.ntmps ρ' s2 w' fr' a' → bodyPost P fn (fun e w' => ∃ c ρ', e = .returned c ∧ Goes P B ρ s w ρ' s' w' ∧ VR ρ' v c) (exq e) a' w' := by
    intro ρ' w' a' hg hf
    have fin : ∀ (hd : lcase fr'.defers (obind (results C.P (C.vars f) fr' s2 (C.results f)) fun vs => some (Ax.tuple vs, s2)) (fun _ _ => none) = some (v, s')), a'.defers = [] ∧ ∃ v', (Go.results fn a'.tmps).run P w' = .ok v' w' ∧ ∃ c ρ', Ending.returned v' = .returned c ∧ Goes P B ρ s w ρ' s' w' ∧ VR ρ' v c := by
      intro hd
      cases hdf : fr'.defers with
      | cons d ds => rw [hdf] at hd; cases hd
      | nil =>
        rw [hdf] at hd
        obtain ⟨vs, hvs, hd⟩ := obind_some.1 hd
        cases hd
        rw [hK.prog, h5] at hvs
        obtain ⟨c, g1, g2⟩ := results_sound hg.hr hf.tmps hvs
        refine ⟨?_, c, g1, c, ρ', rfl, hg, g2⟩
        have hdr := hf.defers
        rw [hdf] at hdr
        cases hads : a'.defers with
        | nil => rfl
        | cons d ds =>
          rw [hads] at hdr
          cases hdr with
          | mark hm hlt hh =>
            obtain ⟨k, hk, _⟩ := hf.nomark _ (by rw [hads]; exact List.mem_cons_self ..) _ rfl
            cases hk
    cases e with
    | normal => exact fin hfin
    | ret => exact fin hfin
    | exit id => cases hfin
  exact exec_wp hK hc hy hQ hK.mix (ro := none) (m := m) (n := C.vars f) (nt := fn.ntmps) (mk := none) (fn := f) (c0 := c) (fun _ => ⟨rfl, fun b hb' => hK.loops f c b hb hb'⟩) c (.refl c) h4 (fun _ => hnr) (startFr args) s e fr' s2 ρ _ w _ hex hr (start_fr ha none) (fun k hk => by cases hk) key
theorem run_recover {η : Operand → Value} {o : Oper} {w : World} (h : isRecover o.op = true) : (Go.execOp η o).run P w = .ok .recover w := by
  unfold isRecover at h
  split at h
  · rename_i c hop
    split at h
    · rename_i b hb
      split at h
      · split at h
        · rename_i ha
          unfold Go.execOp
          simp only [hop]
          have : c.args = #[] := by apply Array.ext'; simpa using ha
          simp only [resolve, hb, this, Array.map_empty, pure_bind]
          rfl
        · cases h
      · cases h
    · cases h
  · cases h
theorem opsR_cons (n : Nat) (all : List Oper) (o : Oper) (rest : List Oper) (fr : Fr) (s : St) :
    opsR C n all (o :: rest) fr s = obind (guardOk n all fr o.guard) fun g => sel g (sel (isRecover o.op) (opsR C n all rest (fr.put n o.dst .nilIface) s) (plainOp C n o (opsR C n all rest) fr s)) (opsR C n all rest (fr.put n o.dst unit) s) := rfl
theorem opsR_wp (hK : CfgOk C P) {mk : Option Nat} {m n nt : Nat} {ops : Array Oper} {cs : List Frame} (hcs : recoverD cs = none) {Q : Exit → Act → List Frame → World → Prop}
    (hok : okOpers nt ops.toList = true) : ∀ (rest : List Oper) (k : Nat), ops.toList.drop k = rest → ∀ (fr : Fr) (s : St) (fr' : Fr) (s' : St) (ρ : Ren) (a : Act) (w : World),
      opsR C n ops.toList rest fr s = some (fr', s') → HR P B ρ s w → FrR mk n nt ρ s w fr a →
      (∀ ρ' w' a', Goes P B ρ s w ρ' s' w' → FrR mk n nt ρ' s' w' fr' a' → Q .normal a' cs w') → wpOpsSIn Fence.wide m P ops Q (List.range' k rest.length) a cs w
  | [], k, _, fr, s, fr', s', ρ, a, w, h, hh, hf, hq => by
    cases h
    exact hq ρ w a (Goes.refl hh) hf
  | o :: rest, k, hd, fr, s, fr', s', ρ, a, w, h, hh, hf, hq => by
    have ho : ops[k]? = some o := by
      have : (ops.toList.drop k)[0]? = some o := by rw [hd]; rfl
      simpa using this
    have hd' : ops.toList.drop (k + 1) = rest := by
      rw [← List.drop_drop, hd]; rfl
    have hmem : o ∈ ops.toList := List.mem_of_getElem? (by simpa using ho)
    obtain ⟨hdst, hopn⟩ := okOper_some (okOpers_mem hok o hmem)
    rw [opsR_cons] at h
    obtain ⟨g, hg, h⟩ := obind_some.1 h
    have hw := wanted_eq (ρ := ρ) (a := a) hg (fun j o' d b v _ _ _ hv => hf.tmps d v hv)
    show wpOpsSIn Fence.wide m P ops Q (k :: List.range' (k + 1) rest.length) a cs w
    simp only [wpOpsSIn, ho, hw]
    refine ⟨fun _ _ => trivial, ?_⟩
    cases g with
    | false =>
      rw [sel_false] at h
      exact opsR_wp hK hcs hok rest (k + 1) hd' _ s fr' s' ρ _ w h hh (hf.skip hdst) hq
    | true =>
      rw [sel_true] at h
      rw [if_pos rfl]
      cases hrec : isRecover o.op with
      | true =>
        rw [hrec, sel_true] at h
        rw [run_recover hrec]
        simp only [hcs]
        have hp := hf.put (df := none) (ds := []) (v := .nilIface) (c := .nilIface) hdst .nilIface .none
        exact opsR_wp hK hcs hok rest (k + 1) hd' _ s fr' s' ρ _ w h hh hp hq
      | false =>
        rw [hrec, sel_false] at h
        unfold plainOp at h
        obtain ⟨r, hr, h⟩ := obind_some.1 h
        have he := evR_restr (ρ := ρ) (n := n) (fr := fr) (a := a) hopn (fun t v _ ht => hf.tmps t v ht)
        rw [← execOp_restr] at hr
        have hs := op_sound hK hh he hr
        cases r with
        | val v s2 =>
          obtain ⟨ρ', w', c, hrun, hgo, hv⟩ := hs
          have hp := (hf.goes hgo).put (df := none) (ds := []) hdst hv .none
          have hnext := opsR_wp hK (m := m) (Q := Q) hcs hok rest (k + 1) hd' _ s2 fr' s' ρ' _ w' h hgo.hr hp (fun ρ'' w'' a'' hgo2 hf2 => hq ρ'' w'' a'' (hgo.trans hgo2) hf2)
          rcases hrun with hrun | ⟨hrun, rfl⟩
          · rw [hrun]; exact hnext
          · rw [hrun]; exact hnext
        | call f args s2 => cases h
        | yield f args s2 => cases h
        | defer f args s2 => cases h
theorem execR_wp (hK : CfgOk C P) {mk : Option Nat} {m n nt : Nat} {cs : List Frame} (hcs : recoverD cs = none) :
    ∀ (c : Code), okCode nt c = true → ∀ (fr : Fr) (s : St) (e : Ex) (fr' : Fr) (s' : St) (ρ : Ren) (a : Act) (w : World) (Q : Exit → Act → List Frame → World → Prop),
      execR C n c fr s = some (e, fr', s') → HR P B ρ s w → FrR mk n nt ρ s w fr a →
      (∀ ρ' w' a', Goes P B ρ s w ρ' s' w' → FrR mk n nt ρ' s' w' fr' a' → Q (exq e) a' cs w') → c.wpSIn Fence.wide m P Q a cs w := by
  intro c
  induction c with
  | skip =>
    intro _ fr s e fr' s' ρ a w Q h hr hf hq
    cases h
    exact wpSIn_of_wpIn rfl (wpIn_skip (hq ρ w a (Goes.refl hr) hf))
  | region id ops d =>
    intro hok fr s e fr' s' ρ a w Q h hr hf hq
    change sel d none (obind (opsR C n ops.toList ops.toList fr.fresh s) fun r => some (Ex.normal, r)) = some (e, fr', s') at h
    cases d with
    | true => cases h
    | false =>
      rw [sel_false] at h
      obtain ⟨⟨fr2, s2⟩, hd, h⟩ := obind_some.1 h
      obtain ⟨rfl, rfl, rfl⟩ : Ex.normal = e ∧ fr2 = fr' ∧ s2 = s' := by cases h; exact ⟨rfl, rfl, rfl⟩
      refine wpSIn_region ?_
      rw [List.range_eq_range']
      have := opsR_wp (P := P) (B := B) hK (m := m) (nt := nt) hcs (Q := Q) hok ops.toList 0 (by simp) fr.fresh s fr2 s2 ρ a w hd hr hf.fresh hq
      simpa using this
  | seq x y ihx ihy =>
    intro hok fr s e fr' s' ρ a w Q h hr hf hq
    obtain ⟨h1, h2⟩ := sel_and hok
    change obind (execR C n x fr s) (iterNext (execR C n y)) = some (e, fr', s') at h
    obtain ⟨⟨e1, fr1, s1⟩, hx, h⟩ := obind_some.1 h
    refine wpSIn_seq (ihx h1 fr s e1 fr1 s1 ρ a w _ hx hr hf ?_)
    intro ρ' w' a' hg hf'
    cases e1 with
    | normal => exact ihy h2 fr1 s1 e fr' s' ρ' a' w' Q h hg.hr hf' fun ρ2 w2 a2 hg2 hf2 => hq ρ2 w2 a2 (hg.trans hg2) hf2
    | exit id => cases h; exact hq ρ' w' a' hg hf'
    | ret => cases h; exact hq ρ' w' a' hg hf'
  | cond c x y ihx ihy =>
    intro hok fr s e fr' s' ρ a w Q h hr hf hq
    obtain ⟨h0, hok⟩ := sel_and hok
    obtain ⟨h1, h2⟩ := sel_and hok
    change obind (fr.ev n c) (condRun (execR C n x) (execR C n y) fr s) = some (e, fr', s') at h
    obtain ⟨v, hv, h⟩ := obind_some.1 h
    unfold condRun at h
    split at h
    case h_2 => cases h
    rename_i b
    rw [sel_eq] at h
    have hvr := opnd_vr (ρ := ρ) (a := a) h0 (fun t u _ hu => hf.tmps t u hu) hv
    generalize hav : a.eval c = av at hvr
    cases hvr
    refine wpSIn_cond hav ?_
    cases b with
    | true => exact ihx h1 fr s e fr' s' ρ a w Q h hr hf hq
    | false => exact ihy h2 fr s e fr' s' ρ a w Q h hr hf hq
  | ret =>
    intro _ fr s e fr' s' ρ a w Q h hr hf hq
    cases h
    exact wpSIn_of_wpIn rfl (wpIn_ret (hq ρ w a (Goes.refl hr) hf))
  | _ =>
    intro _ fr s e fr' s' ρ a w Q h hr hf hq
    cases h
theorem callR_ok (hK : CfgOk C P) : DCallOk P (callR C) := by
  intro f args s v s' h B ρ w cargs hr ha
  unfold callR at h
  obtain ⟨c, hb, h⟩ := obind_some.1 h
  obtain ⟨⟨e, fr', s2⟩, hex, hfin⟩ := obind_some.1 h
  obtain ⟨fn, h1, h2, h3, h4, h5⟩ := hK.body f c hb
  have h3' : ¬ fn.name = "runtime.NumGoroutine" := by simpa using h3
  refine ⟨by simp [callFunc, h1, h2, h3'], fun m => ?_⟩
  refine callsDIn_of_wpSIn (F := Fence.wide) (n := m) h1 h2 trivial ?_
  intro c₀ cs hc₀
  have hrec : recoverD (c₀ :: cs) = none := by simp [recoverD, hc₀]
  refine execR_wp hK (m := m) (n := C.vars f) (nt := fn.ntmps) (mk := none) hrec c h4 (startFr args) s e fr' s2 ρ _ w _ hex hr (start_fr ha none) ?_
  intro ρ' w' a' hg hf
  have fin : ∀ (hd : lcase fr'.defers (obind (results C.P (C.vars f) fr' s2 (C.results f)) fun vs => some (Ax.tuple vs, s2)) (fun _ _ => none) = some (v, s')), a'.defers = [] ∧ ∃ u', (c₀ :: cs) = { c₀ with mode := u' } :: cs ∧ ∃ v', (Go.results fn a'.tmps).run P w' = .ok v' w' ∧ (u' = .returning ∧ ∃ c ρ', Ending.returned v' = .returned c ∧ Goes P B ρ s w ρ' s' w' ∧ VR ρ' v c) := by
    intro hd
    cases hdf : fr'.defers with
    | cons d ds => rw [hdf] at hd; cases hd
    | nil =>
      rw [hdf] at hd
      obtain ⟨vs, hvs, hd⟩ := obind_some.1 hd
      cases hd
      rw [hK.prog, h5] at hvs
      obtain ⟨c, g1, g2⟩ := results_sound hg.hr hf.tmps hvs
      refine ⟨?_, .returning, by rw [← hc₀], c, g1, rfl, c, ρ', rfl, hg, g2⟩
      have hdr := hf.defers
      rw [hdf] at hdr
      cases hads : a'.defers with
      | nil => rfl
      | cons d ds =>
        rw [hads] at hdr
        cases hdr with
        | mark hm hlt hh =>
          obtain ⟨k, hk, _⟩ := hf.nomark _ (by rw [hads]; exact List.mem_cons_self ..) _ rfl
          cases hk
  cases e with
  | normal => exact fin hfin
  | ret => exact fin hfin
  | exit id => cases hfin
theorem callDR_ok (hK : CfgOk C P) {call : CallT} {yield : YieldT} (hc : CallOk P call) (hy : YieldOk P yield) (hQ : QuietOk C call) : DCallOk P (callDR C call yield) := by
  intro f args s v s' h
  cases hd : callD C call yield f args s with
  | some q =>
    have h : Option.casesOn (callD C call yield f args s) (callR C f args s) some = some (v, s') := h
    rw [hd] at h
    have h : some q = some (v, s') := h
    cases h
    exact callD_ok hK hc hy hQ f args s v s' hd
  | none =>
    have h : Option.casesOn (callD C call yield f args s) (callR C f args s) some = some (v, s') := h
    rw [hd] at h
    exact callR_ok hK f args s v s' h
theorem callBody_ok (hK : CfgOk C P) {call : CallT} {yield : YieldT} (hc : CallOk P call) (hy : YieldOk P yield) (hQ : QuietOk C call) : CallOk P (callBody C call yield) := by
  intro f args s v s' h B ρ w cargs hr ha
  unfold callBody at h
  obtain ⟨c, hb, h⟩ := obind_some.1 h
  obtain ⟨⟨e, fr', s2⟩, hex, hfin⟩ := obind_some.1 h
  obtain ⟨fn, h1, h2, h3, h4, h5⟩ := hK.body f c hb
  refine (callsIn_wide (n := 0)).1 ?_
  refine callsIn_of_wp_marks (F := Fence.wide) (n := 0) h1 h2 trivial ?_
  refine exec_wp hK hc hy hQ hK.mix (ro := none) (m := 0) (n := C.vars f) (nt := fn.ntmps) (mk := some w.heap.size) (fn := f) (c0 := c) (fun _ => ⟨rfl, fun b hb' => hK.loops f c b hb hb'⟩) c (.refl c) h4 (fun h => by cases h) (startFr args) s e fr' s2 ρ _ w _ hex hr (start_fr ha _) (fun k hk => by cases hk; exact Nat.le_refl _) ?_
  intro ρ' w' a' hg hf
  have fin : ∀ (hd : obind (unwind (callDR C call yield) fr'.defers s2) (fun s => obind (results C.P (C.vars f) fr' s (C.results f)) fun vs => some (Ax.tuple vs, s)) = some (v, s')),
      LeavesInM Fence.wide 0 P fn a'.tmps (fun e w' => ∃ c ρ', e = .returned c ∧ Goes P B ρ s w ρ' s' w' ∧ VR ρ' v c) a'.defers .returning w' := by
    intro hd
    obtain ⟨s3, hu, hd⟩ := obind_some.1 hd
    obtain ⟨vs, hvs, hd⟩ := obind_some.1 hd
    cases hd
    rw [hK.prog, h5] at hvs
    refine leaves_ok (callDR_ok hK hc hy hQ) hr hvs ?_ a'.defers fr'.defers s2 ρ' w' hf.defers ?_ hg hf.tmps hu
    · intro ρ2 w2 c hg2 hv2
      exact ⟨c, ρ2, rfl, hg2, hv2⟩
    · intro d hd r hr'
      obtain ⟨k, hk, hle⟩ := hf.nomark d hd r hr'
      cases hk
      exact hle
  cases e with
  | normal => exact fin hfin
  | ret => exact fin hfin
  | exit id => cases hfin
theorem callStep_ok (hK : CfgOk C P) {call : CallT} {yield : YieldT} (hc : CallOk P call) (hy : YieldOk P yield) (hQ : QuietOk C call) : CallOk P (callStep C call yield) := by
  intro f args s v s' h
  unfold callStep at h
  cases hi : C.insert f with
  | none => rw [hi] at h; exact callBody_ok hK hc hy hQ f args s v s' h
  | some t =>
    rw [hi] at h
    cases he : runCon C t s args with
    | none =>
      have h : Option.casesOn (runCon C t s args) (callBody C call yield f args s) some = some (v, s') := h
      rw [he] at h
      exact callBody_ok hK hc hy hQ f args s v s' h
    | some q =>
      have h : Option.casesOn (runCon C t s args) (callBody C call yield f args s) some = some (v, s') := h
      rw [he] at h
      have h : some q = some (v, s') := h
      cases h
      exact hK.insert f t hi args s v s' he
theorem setPairs_ok {n : Nat} {ρ : Ren} : ∀ {ps : List Nat} {args cargs : List Value} {t t' : Tr Value} {tmps : Array Value}, setPairs ps args t = some t' → VRs ρ args cargs → okTmps tmps.size ps = true → VarsR ρ n t tmps →
    cargs.length = ps.length ∧ VarsR ρ n t' ((ps.zip cargs).foldl (fun tmps (x : Nat × Value) => tmps.setIfInBounds x.1 x.2) tmps) ∧ ((ps.zip cargs).foldl (fun tmps (x : Nat × Value) => tmps.setIfInBounds x.1 x.2) tmps).size = tmps.size
  | [], args, cargs, t, t', tmps, h, ha, _, hv => by
    cases ha with
    | nil => cases h; exact ⟨rfl, hv, rfl⟩
    | cons _ _ => cases h
  | p :: ps, args, cargs, t, t', tmps, h, ha, hok, hv => by
    cases ha with
    | nil => cases h
    | @cons v c args cargs hvc ha =>
      change setPairs ps args (t.set p v) = some t' at h
      obtain ⟨h0, hok⟩ := sel_and hok
      have h0 := ltN_some h0
      have hv2 : VarsR ρ n (t.set p v) (tmps.setIfInBounds p c) := by
        intro k u hk hu
        rw [Tr.get_set] at hu
        rw [Array.getD_eq_getD_getElem?, Array.getElem?_setIfInBounds]
        by_cases e : k = p
        · subst e
          rw [if_pos rfl] at hu
          cases hu
          rw [if_pos rfl, if_pos h0]
          exact hvc
        · rw [if_neg e] at hu
          rw [if_neg (fun h => e h.symm), ← Array.getD_eq_getD_getElem?]
          exact hv k u hk hu
      obtain ⟨h1, h2, h3⟩ := setPairs_ok (tmps := tmps.setIfInBounds p c) h ha (by rw [Array.size_setIfInBounds]; exact hok) hv2
      refine ⟨by simp [h1], h2, ?_⟩
      show (List.foldl _ (tmps.setIfInBounds p c) (ps.zip cargs)).size = _
      rw [h3]
      simp
theorem yieldStep_ok (hK : CfgOk C P) {call : CallT} {yield : YieldT} (hc : CallOk P call) (hy : YieldOk P yield) (hQ : QuietOk C call) : YieldOk P (yieldStep C call yield) := by
  intro l args s v s' h B ρ w loc cargs hr hl ha
  unfold yieldStep at h
  obtain ⟨r, hgl, h⟩ := obind_some.1 h
  obtain ⟨vars, hsp, h⟩ := obind_some.1 h
  obtain ⟨⟨e1, fr1, s1⟩, hex, h⟩ := obind_some.1 h
  obtain ⟨loc', q, g1, g2, g3, g4⟩ := getLoop_sound hr hgl
  obtain rfl : loc' = loc := by rw [hl] at g1; exact (Option.some.inj g1).symm
  obtain ⟨k1, k2, k3⟩ := setPairs_ok (n := r.n) hsp ha g4.code.2.2 g4.vars
  have hparams : q.params.toList = r.params := g4.params
  have hsize : (⟨cargs⟩ : Array Value).size = q.params.size := by
    have : q.params.toList.length = r.params.length := by rw [hparams]
    simp at this ⊢
    omega
  have hrun := run_yield (P := P) g3 hsize
  have hfold : (q.params.zip ⟨cargs⟩).foldl (fun tmps (t, a) => tmps.setIfInBounds t a) q.tmps = (r.params.zip cargs).foldl (fun tmps (x : Nat × Value) => tmps.setIfInBounds x.1 x.2) q.tmps := by
    rw [← hparams, ← Array.foldl_toList]
    congr 1
    simp
  rw [hfold] at hrun
  refine ⟨_, _, _, _, hrun, ?_⟩
  refine roundIn_of_wpIn (F := Fence.wide) trivial ?_
  rw [g4.assign, g4.body]
  have hfr0 : FrR (some 0) r.n q.tmps.size ρ s w { vars := vars, loc := [], defers := [] } { tmps := (r.params.zip cargs).foldl (fun tmps (x : Nat × Value) => tmps.setIfInBounds x.1 x.2) q.tmps, defers := [] } := by
    refine ⟨by rw [k3]; exact Nat.le_refl _, fun t u hu => ?_, .nil, fun d hd => by cases hd⟩
    unfold Fr.get at hu
    rw [sel_eq] at hu
    split at hu
    · rename_i hlt
      exact k2 t u (ltN_some hlt) hu
    · cases hu
  refine exec_wp hK hc hy hQ hK.mix (ro := some loc'.blk) (m := 0) (n := r.n) (nt := q.tmps.size) (mk := some 0) (fn := r.fn) (c0 := r.assign) (fun h => by cases h) r.assign (.refl _) g4.code.1 (fun hh => by cases hh) _ s e1 fr1 s1 ρ _ w _ hex hr hfr0 (fun k hk => by cases hk; exact Nat.zero_le _) ?_
  intro ρ1 w1 a1 hg1 hf1
  cases e1 with
  | exit id => cases h
  | ret => cases h
  | normal =>
    change obind (Ax.getLoop s1 l) (fun r1 => match r1.state with
      | .ready => obind (exec C call yield r.n r.fn true r.body fr1 (setLoop s1 l r1 .busy r1.pending)) (Ax.endRound l)
      | _ => none) = some (v, s') at h
    obtain ⟨r1, hgl1, h⟩ := obind_some.1 h
    obtain ⟨loc1, q1, j1, j2, j3, j4⟩ := getLoop_sound hg1.hr hgl1
    obtain rfl : loc1 = loc' := by
      have := hg1.le _ _ hl
      rw [j1] at this
      exact Option.some.inj this
    split at h
    · rename_i hst
      obtain ⟨⟨e2, fr2, s2⟩, hex2, hend⟩ := obind_some.1 h
      have hbr := run_beginRound (P := P) j3 (by rw [j4.state]; exact hst)
      have hgb := setLoop_goes hg1.hr hgl1 j1 j4 .busy r1.pending
      have hq1 : ({ q1 with state := .busy } : Loop) = { q1 with state := .busy, pending := r1.pending } := by rw [← j4.pending]
      rw [hq1] at hbr
      refine ⟨_, hbr, ?_⟩
      have hg01 := hg1.trans hgb
      refine exec_wp hK hc hy hQ hK.mix (ro := some loc1.blk) (m := 0) (n := r.n) (nt := q.tmps.size) (mk := some 0) (fn := r.fn) (c0 := r.body) (fun h => by cases h) r.body (.refl _) g4.code.2.1 (fun hh => by cases hh) fr1 _ e2 fr2 s2 ρ1 a1 _ _ hex2 hgb.hr (hf1.goes hgb) (fun k hk => by cases hk; exact Nat.zero_le _) ?_
      intro ρ2 w2 a2 hg2 hf2
      unfold Ax.endRound at hend
      cases hdf : fr2.defers with
      | cons d ds => simp only [hdf] at hend; cases hend
      | nil =>
        simp only [hdf] at hend
        obtain ⟨r2, hgl2, hend⟩ := obind_some.1 hend
        obtain ⟨loc2, q2, i1, i2, i3, i4⟩ := getLoop_sound hg2.hr hgl2
        obtain rfl : loc2 = loc1 := by
          have := hg2.le _ _ j1
          rw [i1] at this
          exact Option.some.inj this
        have hall := hg01.trans hg2
        cases e2 with
        | normal =>
          cases hend
          exact ⟨_, _, run_endRound none i3, _, ρ2, rfl, hall.trans (setLoop_goes hg2.hr hgl2 i1 i4 .ready none), .bool true⟩
        | ret =>
          cases hend
          exact ⟨_, _, run_endRound (some .ret) i3, _, ρ2, rfl, hall.trans (setLoop_goes hg2.hr hgl2 i1 i4 .done (some .ret)), .bool false⟩
        | exit id =>
          cases hend
          exact ⟨_, _, run_endRound (some (.exit id)) i3, _, ρ2, rfl, hall.trans (setLoop_goes hg2.hr hgl2 i1 i4 .done (some (.exit id))), .bool false⟩
    · cases h
theorem callStep_quiet (call : CallT) (yield : YieldT) : QuietOk C (callStep C call yield) := by
  intro f args s0 s v s' hq h
  have hq : Option.casesOn (C.insert f) false (fun t => conQuiet t args) = true := hq
  unfold callStep at h
  cases hi : C.insert f with
  | none => rw [hi] at hq; cases hq
  | some t =>
    rw [hi] at hq h
    have hq : conQuiet t args = true := hq
    have h : Option.casesOn (runCon C t s args) (callBody C call yield f args s) some = some (v, s') := h
    cases t with
    | insert t => cases hq
    | closed ok => cases hq
    | fn F => cases hq
    | tree F => cases hq
    | pure G =>
      cases hp : conPureV G args with
      | none =>
        have hq : (conPureV G args).isSome = true := hq
        rw [hp] at hq; cases hq
      | some u =>
        have e : runCon C (.pure G) s args = some (u, s) := by
          show obind (conPureV G args) _ = _
          rw [hp]; rfl
        rw [e] at h
        have h : some (u, s) = some (v, s') := h
        cases h; rfl
theorem runN_quiet : ∀ (n : Nat), QuietOk C (runN C n).1
  | 0 => fun f args s0 s v s' _ h => by cases h
  | n + 1 => callStep_quiet _ _
theorem runN_ok (hK : CfgOk C P) : ∀ (n : Nat), CallOk P (runN C n).1 ∧ YieldOk P (runN C n).2
  | 0 => ⟨(fun f args s v s' h => by cases h), (fun l args s v s' h => by cases h)⟩
  | n + 1 => ⟨callStep_ok hK (runN_ok hK n).1 (runN_ok hK n).2 (runN_quiet n), yieldStep_ok hK (runN_ok hK n).1 (runN_ok hK n).2 (runN_quiet n)⟩
end
end
end Go.Ax
namespace Go.Ax
variable [Lo]
open Go
variable {P : Program}
theorem info_lt {t : TypeId} (h : t < P.types.size) : P.info? t = P.types[t]? := by
  show Tables.info? P.toTables t = _
  unfold Tables.info?
  rw [if_pos h]
noncomputable def zeroChk (P : Program) : Bool := P.types.toList.all fun i => match i.zero with
  | none => true
  | some v => pureV 20 v
theorem zeroChk_ok (h : zeroChk P = true) : ZeroOk P := by
  intro t i v ht hi hv ρ
  rw [info_lt ht] at hi
  have hm : i ∈ P.types.toList := by
    have := Array.mem_of_getElem? hi
    simpa using this
  have := List.all_eq_true.1 h i hm
  rw [hv] at this
  exact pureV_vr ρ 20 this
noncomputable def fieldsChk (P : Program) : Bool := (List.range P.types.size).all fun t => match P.underlying t with
  | some (.struct fs) => fs.toList.all fun f => (size P f.type).isSome
  | _ => true
theorem fieldsChk_ok (h : fieldsChk P = true) : FieldsOk P := by
  intro t fs ht hu f hf
  have := List.all_eq_true.1 h t (List.mem_range.2 ht)
  rw [hu] at this
  exact Option.isSome_iff_exists.1 (List.all_eq_true.1 this f hf)
def outerD (d : TypeDesc) : Bool := match d with
  | .named _ _ => false
  | .int _ => false
  | _ => true
theorem none_ne_some {α : Type} {a : α} (h : (none : Option α) = some a) : False := by cases h
theorem reckonStruct_plain {info : TypeId → Option TypeInfo} {fs : Array Field} {i : TypeInfo} (h : Made.reckonStruct info fs = some i) : outerD i.desc = true := by
  unfold Made.reckonStruct at h
  simp only [Option.bind_eq_bind, Option.pure_def] at h
  obtain ⟨r, _, h⟩ := Option.bind_eq_some_iff.1 h
  revert h
  obtain ⟨a, b⟩ := r
  intro h
  simp only at h
  repeat' split at h
  all_goals (cases h; rfl)
theorem reckon_plain {info : TypeId → Option TypeInfo} {d : TypeDesc} {i : TypeInfo} (h : Made.reckon info d = some i) : outerD i.desc = true := by
  unfold Made.reckon at h
  cases d <;> try (exact (none_ne_some h).elim)
  case pointer e =>
    simp only [Option.bind_eq_bind, Option.pure_def] at h
    obtain ⟨j, _, h⟩ := Option.bind_eq_some_iff.1 h
    split at h
    · cases h
    · split at h
      · cases h
      · obtain ⟨s, _, h⟩ := Option.bind_eq_some_iff.1 h
        cases h; rfl
    · obtain ⟨s, _, h⟩ := Option.bind_eq_some_iff.1 h
      cases h; rfl
  case struct fs => exact reckonStruct_plain h
  all_goals
    simp only [Option.bind_eq_bind, Option.pure_def, Option.bind_eq_some_iff] at h
  case slice e => obtain ⟨_, _, _, _, h⟩ := h; cases h; rfl
  case map k e => obtain ⟨_, _, _, _, _, _, _, _, h⟩ := h; cases h; rfl
  case chan k e => obtain ⟨_, _, _, _, h⟩ := h; cases h; rfl
  case func a b c => obtain ⟨_, _, h⟩ := h; cases h; rfl
  case array n e => obtain ⟨_, _, _, _, h⟩ := h; cases h; rfl
theorem made_plain {t : TypeId} (ht : ¬ t < P.types.size) {i : TypeInfo} (h : P.info? t = some i) : outerD i.desc = true := by
  have h : Tables.info? P.toTables t = some i := h
  unfold Tables.info? at h
  rw [if_neg ht] at h
  unfold Made.infoAt at h
  split at h
  · cases h
  · rw [if_neg ht] at h
    obtain ⟨d, _, h⟩ := Option.bind_eq_some_iff.1 h
    exact reckon_plain h
noncomputable def byteChk (P : Program) : Bool := (List.range P.types.size).all fun t => match P.underlying t with
  | some (.int .u8) => (match size P t with
    | some 1 => true
    | _ => false)
  | _ => true
theorem byteChk_ok (h : byteChk P = true) : ∀ e, P.underlying e = some (.int .u8) → size P e = some 1 := by
  intro t hu
  by_cases ht : t < P.types.size
  · have := List.all_eq_true.1 h t (List.mem_range.2 ht)
    rw [hu] at this
    simp only at this
    split at this
    · assumption
    · cases this
  · exfalso
    unfold Program.underlying at hu
    cases hi : P.info? t with
    | none => rw [hi] at hu; cases hu
    | some i =>
      have := made_plain ht hi
      rw [hi] at hu
      split at hu
      · rename_i n u _ _ _ _ _ _ _ _ _ _ e
        cases e; cases this
      · rename_i e
        cases e
        simp only [Option.some.injEq] at hu
        rw [hu] at this; cases this
      · cases hu
def eqChk (P : Program) (t : TypeId) : Bool := !P.eqGuardType P.depth t && match P.underlying t with
  | some (.struct fs) => !P.stoodInHeld t && fs.toList.all fun f => !(f.name == "_")
  | _ => true
theorem eqChk_ok {C : Cfg} {l : List Nat} (hl : ∀ t, C.eqOk t = true → t ∈ l) (h : l.all (eqChk C.P) = true) : EqOk C where
  guard t ht := by
    have := List.all_eq_true.1 h t (hl t ht)
    simp only [eqChk, Bool.and_eq_true, Bool.not_eq_true'] at this
    exact this.1
  held t fs ht hu := by
    have := List.all_eq_true.1 h t (hl t ht)
    simp only [eqChk, hu, Bool.and_eq_true, Bool.not_eq_true', List.all_eq_true] at this
    exact ⟨this.2.1, fun f hf e => by have := this.2.2 f hf; simp [e] at this⟩
noncomputable def bodyChk (l : List (Option Func)) : Bool := l.all fun q => match q with
  | some fn => (match fn.body with
    | some c => !(fn.name == "runtime.NumGoroutine") && okCode fn.ntmps c
    | none => true)
  | none => true
theorem ext_int3 {ρ : Ren} {args cargs : List Value} (ha : VRs ρ args cargs) {s' : St} {v : Value} {f : Nat → Nat → Nat → Option (Value × St)} (h : nat3 args f = some (v, s')) :
    ∃ k1 k2 k3 x y c, cargs = [.int k1 (Int.ofNat x), .int k2 (Int.ofNat y), .int k3 (Int.ofNat c)] ∧ f x y c = some (v, s') := by
  unfold nat3 at h
  split at h
  · obtain ⟨x, hx, h⟩ := obind_some.1 h
    obtain ⟨y, hy, h⟩ := obind_some.1 h
    obtain ⟨c, hc, h⟩ := obind_some.1 h
    have key : ∀ {v c : Value} {n : Nat}, VR ρ v c → asNat v = some n → ∃ k, c = .int k (Int.ofNat n) := by
      intro v c n hv hn
      cases hv <;> try (exact (none_ne_some hn).elim)
      rename_i k i
      cases i with
      | ofNat m => cases hn; exact ⟨k, rfl⟩
      | negSucc m => cases hn
    cases ha with
    | cons h1 ha => cases ha with
      | cons h2 ha => cases ha with
        | cons h3 ha => cases ha with
          | nil =>
            obtain ⟨k1, rfl⟩ := key h1 hx
            obtain ⟨k2, rfl⟩ := key h2 hy
            obtain ⟨k3, rfl⟩ := key h3 hc
            exact ⟨k1, k2, k3, x, y, c, rfl, h⟩
  · cases h
end Go.Ax
namespace Go.Ax
open Go
variable {P : Program}
def extChk (P : Program) (f : FuncId) : Bool :=
  match P.funcs[f]? with
  | some fn => !(fn.name == "runtime.NumGoroutine") && fn.body.isNone && (Extern.findNext fn).isNone
  | none => false
theorem run_ext {f : FuncId} (h : extChk P f = true) {e : Array Value → Sem Value} (he : (P.funcs[f]?).bind Extern.find = some e) (args : Array Value) (w : World) :
    (callFunc f args).run P w = ((e args).run P w).andThen fun v w' => .ok (.value v) w' := by
  unfold extChk at h
  cases hf : P.funcs[f]? with
  | none => rw [hf] at h; cases h
  | some fn =>
    rw [hf] at h he
    simp only [Bool.and_eq_true, Bool.not_eq_true'] at h
    have hn : Extern.findNext fn = none := by
      cases hx : Extern.findNext fn with
      | none => rfl
      | some y => rw [hx] at h; exact absurd h.2 (by intro q; cases q)
    exact run_callFunc_extern hf h.1.1 h.1.2 hn he args w
theorem run_three (k1 k2 k3 : IntKind) (x y c : Nat) (hc : c ≤ 1) (n : String) (w : World) :
    (Extern.MathBitsCarry.three n #[.int k1 (Int.ofNat x), .int k2 (Int.ofNat y), .int k3 (Int.ofNat c)]).run P w = .ok (x, y, c) w := by
  have : c = 0 ∨ c = 1 := by omega
  rcases this with rfl | rfl <;> rfl
theorem add64_sound {C : Cfg} {f : FuncId} (h : extChk P f = true) (he : (P.funcs[f]?).bind Extern.find = some add64Entry) : ExtSound C P f .add64 := by
  intro base ρ s s' w args cargs v hr ha hv
  obtain ⟨k1, k2, k3, x, y, c, rfl, hv⟩ := ext_int3 ha (show nat3 args (fun x y c => extAdd64 x y c s) = some (v, s') from hv)
  obtain ⟨hc, hv⟩ := guard_some.1 hv
  have hc : c ≤ 1 := Nat.le_of_ble_eq_true hc
  cases hv
  refine ⟨_, ρ, w, ?_, Goes.refl hr, .tuple (.cons (.int _ _) (.cons (.int _ _) .nil))⟩
  rw [run_ext h he]
  unfold add64Entry
  simp only [Sem.run_bind, run_three k1 k2 k3 x y c hc, Result.andThen_ok, Sem.run_pure]
  rfl
theorem sub64_sound {C : Cfg} {f : FuncId} (h : extChk P f = true) (he : (P.funcs[f]?).bind Extern.find = some Go.Proofs.sub64Entry) : ExtSound C P f .sub64 := by
  intro base ρ s s' w args cargs v hr ha hv
  obtain ⟨k1, k2, k3, x, y, c, rfl, hv⟩ := ext_int3 ha (show nat3 args (fun x y c => extSub64 x y c s) = some (v, s') from hv)
  obtain ⟨hc, hv⟩ := guard_some.1 hv
  have hc : c ≤ 1 := Nat.le_of_ble_eq_true hc
  cases hv
  refine ⟨_, ρ, w, ?_, Goes.refl hr, .tuple (.cons (.int _ _) (.cons (.int _ _) .nil))⟩
  rw [run_ext h he]
  unfold Go.Proofs.sub64Entry
  simp only [Sem.run_bind, run_three k1 k2 k3 x y c hc, Result.andThen_ok, Sem.run_pure]
  unfold Extern.MathBitsCarry.pair
  by_cases hx : x < y + c
  · have e : ltN x (Nat.add y c) = true := Nat.ble_eq_true_of_le hx
    rw [if_pos hx, e]; rfl
  · have e : ltN x (Nat.add y c) = false := by
      cases h : ltN x (Nat.add y c) with
      | false => rfl
      | true => exact absurd (Nat.le_of_ble_eq_true h) hx
    rw [if_neg hx, e]; rfl
end Go.Ax
namespace Go.Ax
variable [Lo]
open Go Go.Extern
variable {P : Program} {C : Cfg}
noncomputable def hdl (P : Program) (t : TypeId) : Value := .pointer (some ⟨P.globals.size, t, none⟩)
theorem findT_mem {β : Type} {l : List (Nat × β)} {n : Nat} {b : β} (h : findT l n = some b) : (n, b) ∈ l := by
  induction l with
  | nil => cases h
  | cons p l ih =>
    have h : sel (Nat.beq p.1 n) (some p.2) (findT l n) = some b := h
    cases hb : Nat.beq p.1 n with
    | true =>
      rw [hb] at h
      have e : p.1 = n := Nat.eq_of_beq_eq_true hb
      cases h
      subst e
      exact List.mem_cons_self
    | false => rw [hb] at h; exact List.mem_cons_of_mem _ (ih h)
theorem findTT_mem {l : List (Nat × Nat × Bool)} {t u : Nat} {b : Bool} (h : findTT l t u = some b) : (t, u, b) ∈ l := by
  induction l with
  | nil => cases h
  | cons p l ih =>
    have h : sel (Nat.beq p.1 t && Nat.beq p.2.1 u) (some p.2.2) (findTT l t u) = some b := h
    cases hb : (Nat.beq p.1 t && Nat.beq p.2.1 u) with
    | true =>
      rw [hb] at h
      simp only [Bool.and_eq_true] at hb
      have e1 : p.1 = t := Nat.eq_of_beq_eq_true hb.1
      have e2 : p.2.1 = u := Nat.eq_of_beq_eq_true hb.2
      cases h
      subst e1 e2
      exact List.mem_cons_self
    | false => rw [hb] at h; exact List.mem_cons_of_mem _ (ih h)
theorem handle_vr (ρ : Ren) (hG : P.globals.size < lowTop) (t : TypeId) : VR ρ (handle P t) (hdl P t) := by
  have := VR.ptr (ρ := ρ) (b := P.globals.size) (o := t) (l := ⟨P.globals.size, 0, 0⟩) (Ren.at_fix hG)
  simpa [handle, hdl] using this
theorem ofHandle_vr {ρ : Ren} (hG : P.globals.size < lowTop) {h c : Value} (hv : VR ρ h c) {t : TypeId} (ht : ofHandle P h = some t) : c = hdl P t := by
  unfold ofHandle at ht
  split at ht
  · rename_i a
    obtain ⟨hb, ht⟩ := guard_some.1 ht
    cases ht
    have hb := Nat.eq_of_beq_eq_true hb
    cases hv with
    | @ptr b o l hl =>
      have hb : b = P.globals.size := hb
      subst hb
      rw [Ren.at_fix hG] at hl
      cases hl
      simp [hdl]
  · cases ht
theorem rtypeOf_vr (ρ : Ren) (hC : C.P = P) (hG : P.globals.size < lowTop) (t : TypeId) : VR ρ (rtypeOf C t) (.iface C.rtype (.agg #[hdl P t])) := by
  unfold rtypeOf
  rw [hC]
  exact .iface _ (.agg (.cons (handle_vr ρ hG t) .nil))
theorem rlTypeOf_sound {f : FuncId} {l : List (Nat × Unit)} (hC : C.P = P) (hG : P.globals.size < lowTop) (h : extChk P f = true) (he : (P.funcs[f]?).bind Extern.find = some ReflectliteType.typeOf)
    (hf : ∀ q ∈ l, ∀ w, (ReflectliteType.toType q.1).run P w = .ok (.iface C.rtype (.agg #[hdl P q.1])) w) : ExtSound C P f (.rlTypeOf l) := by
  intro base ρ s s' w args cargs v hr ha hv
  have hv : extTypeOf C l s args = some (v, s') := hv
  unfold extTypeOf at hv
  split at hv
  · rename_i t x _
    obtain ⟨u, hu, hv⟩ := obind_some.1 hv
    cases hv
    cases ha with
    | cons h1 h2 => cases h2 with
      | nil => cases h1 with
        | @iface _ x x' hx =>
          refine ⟨_, ρ, w, ?_, Goes.refl hr, rtypeOf_vr ρ hC hG t⟩
          rw [run_ext h he]
          show ((ReflectliteType.toType t).run P w).andThen _ = _
          rw [hf _ (findT_mem hu)]
          rfl
  · cases hv
theorem rlElem_sound {f : FuncId} {l : List (Nat × Nat)} (hC : C.P = P) (hG : P.globals.size < lowTop) (h : extChk P f = true) (he : (P.funcs[f]?).bind Extern.find = some (ReflectliteType.method ReflectliteType.elem))
    (hf : ∀ q ∈ l, ∀ w, (ReflectliteType.method ReflectliteType.elem #[.agg #[hdl P q.1]]).run P w = .ok (.iface C.rtype (.agg #[hdl P q.2])) w) : ExtSound C P f (.rlElem l) := by
  intro base ρ s s' w args cargs v hr ha hv
  have hv : extElem C l s args = some (v, s') := hv
  unfold extElem at hv
  split at hv
  · rename_i x
    obtain ⟨t, ht, hv⟩ := obind_some.1 hv
    obtain ⟨e, hu, hv⟩ := obind_some.1 hv
    cases hv
    rw [hC] at ht
    cases ha with
    | cons h1 h2 => cases h2 with
      | nil => cases h1 with
        | agg h1 => cases h1 with
          | cons h1 h2 => cases h2 with
            | nil =>
              rw [ofHandle_vr hG h1 ht]
              refine ⟨_, ρ, w, ?_, Goes.refl hr, rtypeOf_vr ρ hC hG e⟩
              rw [run_ext h he, hf _ (findT_mem hu)]
              rfl
  · cases hv
theorem twoTypes_some {args cargs : List Value} {ρ : Ren} {k : TypeId → TypeId → Option (Value × St)} {r : Value × St} (hC : C.P = P) (hG : P.globals.size < lowTop) (ha : VRs ρ args cargs) (hv : twoTypes C args k = some r) :
    ∃ t u, cargs = [.agg #[hdl P t], .iface C.rtype (.agg #[hdl P u])] ∧ k t u = some r := by
  unfold twoTypes at hv
  split at hv
  · rename_i x rt y
    obtain ⟨hr, hv2⟩ := guard_some.1 hv
    obtain ⟨t, ht, hv3⟩ := obind_some.1 hv2
    obtain ⟨u, hu, hv4⟩ := obind_some.1 hv3
    clear hv hv2 hv3
    have hr := Nat.eq_of_beq_eq_true hr
    subst hr
    rw [hC] at ht hu
    cases ha with
    | cons h1 h2 => cases h2 with
      | cons h2 h3 => cases h3 with
        | nil => cases h1 with
          | agg h1 => cases h1 with
            | cons h1 h4 => cases h4 with
              | nil => cases h2 with
                | iface _ h2 => cases h2 with
                  | agg h2 => cases h2 with
                    | cons h2 h5 => cases h5 with
                      | nil =>
                        rw [ofHandle_vr hG h1 ht, ofHandle_vr hG h2 hu]
                        exact ⟨t, u, rfl, hv4⟩
  · cases hv
theorem extTwo_run {f : FuncId} {l : List (Nat × Nat × Bool)} (hC : C.P = P) (hG : P.globals.size < lowTop) (h : extChk P f = true) {e : Array Value → Sem Value} (he : (P.funcs[f]?).bind Extern.find = some e)
    (hf : ∀ q ∈ l, ∀ w, (e #[.agg #[hdl P q.1], .iface C.rtype (.agg #[hdl P q.2.1])]).run P w = .ok (.bool q.2.2) w)
    {base : Nat} {ρ : Ren} {s s' : St} {w : World} {args cargs : List Value} {v : Value} (hr : HR P base ρ s w) (ha : VRs ρ args cargs) (hv : extTwo C l s args = some (v, s')) :
    ∃ c ρ' w', (callFunc f ⟨cargs⟩).run P w = .ok (.value c) w' ∧ Goes P base ρ s w ρ' s' w' ∧ VR ρ' v c := by
  obtain ⟨t, u, rfl, hv⟩ := twoTypes_some hC hG ha hv
  obtain ⟨q, hq, hv⟩ := obind_some.1 hv
  cases hv
  refine ⟨_, ρ, w, ?_, Goes.refl hr, .bool _⟩
  rw [run_ext h he]
  have := hf _ (findTT_mem hq) w
  rw [show (⟨[.agg #[hdl P t], .iface C.rtype (.agg #[hdl P u])]⟩ : Array Value) = #[.agg #[hdl P t], .iface C.rtype (.agg #[hdl P u])] from rfl, this]
  rfl
theorem rlImplements_sound {f : FuncId} {l : List (Nat × Nat × Bool)} (hC : C.P = P) (hG : P.globals.size < lowTop) (h : extChk P f = true) {e : Array Value → Sem Value} (he : (P.funcs[f]?).bind Extern.find = some e)
    (hf : ∀ q ∈ l, ∀ w, (e #[.agg #[hdl P q.1], .iface C.rtype (.agg #[hdl P q.2.1])]).run P w = .ok (.bool q.2.2) w) : ExtSound C P f (.rlImplements l) :=
  fun _ _ _ _ _ _ _ _ hr ha hv => extTwo_run hC hG h he hf hr ha hv
theorem rlAssignable_sound {f : FuncId} {l : List (Nat × Nat × Bool)} (hC : C.P = P) (hG : P.globals.size < lowTop) (h : extChk P f = true) {e : Array Value → Sem Value} (he : (P.funcs[f]?).bind Extern.find = some e)
    (hf : ∀ q ∈ l, ∀ w, (e #[.agg #[hdl P q.1], .iface C.rtype (.agg #[hdl P q.2.1])]).run P w = .ok (.bool q.2.2) w) : ExtSound C P f (.rlAssignable l) :=
  fun _ _ _ _ _ _ _ _ hr ha hv => extTwo_run hC hG h he hf hr ha hv
theorem rlTKind_sound {f : FuncId} {l : List (Nat × Nat)} (hC : C.P = P) (hG : P.globals.size < lowTop) (h : extChk P f = true) {e : Array Value → Sem Value} (he : (P.funcs[f]?).bind Extern.find = some e)
    (hf : ∀ q ∈ l, ∀ w, (e #[hdl P q.1]).run P w = .ok (.int .u8 (Int.ofNat q.2)) w) : ExtSound C P f (.rlTKind l) := by
  intro base ρ s s' w args cargs v hr ha hv
  have hv : extTKind C l s args = some (v, s') := hv
  unfold extTKind at hv
  split at hv
  · rename_i x
    obtain ⟨t, ht, hv⟩ := obind_some.1 hv
    obtain ⟨k, hu, hv⟩ := obind_some.1 hv
    cases hv
    rw [hC] at ht
    cases ha with
    | cons h1 h2 => cases h2 with
      | nil =>
        rw [ofHandle_vr hG h1 ht]
        refine ⟨_, ρ, w, ?_, Goes.refl hr, .int _ _⟩
        have := hf _ (findT_mem hu) w
        rw [run_ext h he, show (⟨[hdl P t]⟩ : Array Value) = #[hdl P t] from rfl, this]
        rfl
  · cases hv
noncomputable def valV (P : Program) (t : TypeId) (a : Addr) (f : Nat) : Value := .agg #[hdl P t, .pointer (some a), .int .u64 (Int.ofNat f)]
theorem valueK_some {ρ : Ren} {x c : Value} {k : TypeId → Addr → Nat → Option (Value × St)} {r : Value × St} (hC : C.P = P) (hG : P.globals.size < lowTop) (hx : VR ρ x c) (hv : valueK C x k = some r) :
    ∃ t b o f L, ρ.at b = some L ∧ c = valV P t ⟨L.blk, L.off + o, none⟩ f ∧ k t ⟨b, o, none⟩ f = some r := by
  unfold valueK at hv
  split at hv
  · rename_i y a i
    obtain ⟨t, ht, hv⟩ := obind_some.1 hv
    rw [hC] at ht
    cases hx with
    | agg h1 => cases h1 with
      | cons h1 h2 => cases h2 with
        | cons h2 h3 => cases h3 with
          | cons h3 h4 => cases h4 with
            | nil => cases h3 with
              | int _ _ => cases h2 with
                | @ptr b o L hL =>
                  cases i with
                  | ofNat f =>
                    rw [ofHandle_vr hG h1 ht]
                    exact ⟨t, b, o, f, L, hL, rfl, hv⟩
                  | negSucc f => cases hv
  · cases hv
theorem rlVType_sound {f : FuncId} {l : List (Nat × Nat)} (hC : C.P = P) (hG : P.globals.size < lowTop) (h : extChk P f = true) {e : Array Value → Sem Value} (he : (P.funcs[f]?).bind Extern.find = some e)
    (hf : ∀ q ∈ l, ∀ a w, (e #[valV P q.1 a q.2]).run P w = .ok (.iface C.rtype (.agg #[hdl P q.1])) w) : ExtSound C P f (.rlVType l) := by
  intro base ρ s s' w args cargs v hr ha hv
  have hv : extVType C l s args = some (v, s') := hv
  unfold extVType at hv
  split at hv
  · cases ha with
    | cons h1 h2 => cases h2 with
      | nil =>
        obtain ⟨t, b, o, g, L, hL, rfl, hv⟩ := valueK_some hC hG h1 hv
        obtain ⟨q, hq, hv2⟩ := obind_some.1 hv
        obtain ⟨hb, hv3⟩ := guard_some.1 hv2
        clear hv hv2
        have hb := Nat.eq_of_beq_eq_true hb
        subst hb
        cases hv3
        refine ⟨_, ρ, w, ?_, Goes.refl hr, rtypeOf_vr ρ hC hG t⟩
        have := hf _ (findT_mem hq) ⟨L.blk, L.off + o, none⟩ w
        rw [run_ext h he, show (⟨[valV P t ⟨L.blk, L.off + o, none⟩ q]⟩ : Array Value) = #[valV P t ⟨L.blk, L.off + o, none⟩ q] from rfl, this]
        rfl
  · cases hv
theorem rlValueOf_sound {f : FuncId} {l : List (Nat × Nat)} (hC : C.P = P) (hG : P.globals.size < lowTop) (h : extChk P f = true) (he : (P.funcs[f]?).bind Extern.find = some (fun args => ReflectliteValue.unpack (args.getD 0 (.tuple #[]))))
    (hf : ∀ q ∈ l, ∀ a w, (ReflectliteValue.mk q.1 a 0).run P w = .ok (valV P q.1 a q.2) w) : ExtSound C P f (.rlValueOf l) := by
  intro base ρ s s' w args cargs v hr ha hv
  have hv : extValueOf C l s args = some (v, s') := hv
  unfold extValueOf at hv
  split at hv
  · rename_i t x _
    obtain ⟨g, hu, hv⟩ := obind_some.1 hv
    cases hv
    cases ha with
    | cons h1 h2 => cases h2 with
      | nil => cases h1 with
        | @iface _ x x' hx =>
          have hg := Goes.newRow (e := t) hr (a := x'.cells) (cellsOf_vr hx)
          refine ⟨valV P t ⟨w.heap.size, 0, none⟩ g, _, w.alloc (.cells x'.cells t), ?_, hg, ?_⟩
          · rw [run_ext h he]
            have e1 : (ReflectliteValue.unpack (.iface t x')).run P w = .ok (valV P t ⟨w.heap.size, 0, none⟩ g) (w.alloc (.cells x'.cells t)) := by
              simp only [ReflectliteValue.unpack, newVar, newRow]
              simp [hf _ (findT_mem hu)]
            show ((ReflectliteValue.unpack (.iface t x')).run P w).andThen _ = _
            rw [e1]
            rfl
          · rw [hC]
            exact .agg (.cons (handle_vr _ hG t) (.cons (VR.newPtr hr ⟨w.heap.size, 0, 0⟩ rfl) (.cons (.int _ _) .nil)))
  · cases hv
theorem run_method (z : Sem Value) (f : TypeId → Addr → Nat → Nat → Sem Value) {v : Value} {t : TypeId} {a : Addr} {n : Nat} {w : World} (hp : (ReflectliteValue.parts v).run P w = .ok (some (t, a, n)) w) :
    (ReflectliteValue.method z f #[v]).run P w = (f t a n (n % 32)).run P w := by
  show Sem.run P (do match ← ReflectliteValue.parts v with | none => z | some (t, a, fl) => f t a fl (fl % 32)) w = _
  simp only [Sem.run_bind, hp, Result.andThen_ok]
theorem rlIsNil_sound {f : FuncId} {l : List (Nat × Nat)} (hC : C.P = P) (hG : P.globals.size < lowTop) (h : extChk P f = true) (he : (P.funcs[f]?).bind Extern.find = some (ReflectliteValue.method (ReflectliteValue.valueError "reflectlite.Value.IsNil" 0) ReflectliteValue.isNil))
    (hp : ∀ q ∈ l, ∀ a w, (ReflectliteValue.parts (valV P q.1 a q.2)).run P w = .ok (some (q.1, a, q.2)) w) (hk : ∀ q ∈ l, q.2 % 32 = 22) : ExtSound C P f (.rlIsNil l) := by
  intro base ρ s s' w args cargs v hr ha hv
  have hv : extIsNil C l s args = some (v, s') := hv
  unfold extIsNil at hv
  split at hv
  · cases ha with
    | cons h1 h2 => cases h2 with
      | nil =>
        obtain ⟨t, b, o, g, L, hL, rfl, hv⟩ := valueK_some hC hG h1 hv
        obtain ⟨q, hq, hv2⟩ := obind_some.1 hv
        obtain ⟨hb, hv3⟩ := guard_some.1 hv2
        obtain ⟨x, hx, hv4⟩ := obind_some.1 hv3
        obtain ⟨y, hy, hv5⟩ := obind_some.1 hv4
        clear hv hv2 hv3 hv4
        have hb := Nat.eq_of_beq_eq_true hb
        subst hb
        cases hv5
        rw [hC] at hx
        obtain ⟨c, hc, hvc⟩ := load_sound hr hL hx
        refine ⟨.bool y, ρ, w, ?_, Goes.refl hr, .bool _⟩
        have hp' := hp _ (findT_mem hq) ⟨L.blk, L.off + o, none⟩ w
        have hk' := hk _ (findT_mem hq)
        have hk' : q % 32 = 22 := hk'
        rw [run_ext h he, show (⟨[valV P t ⟨L.blk, L.off + o, none⟩ q]⟩ : Array Value) = #[valV P t ⟨L.blk, L.off + o, none⟩ q] from rfl, run_method _ _ hp', hk']
        have hn : (ReflectliteValue.isNil t ⟨L.blk, L.off + o, none⟩ q 22).run P w = .ok (.bool y) w := by
          unfold isNilV at hy
          split at hy
          · cases hvc; cases hy
            simp [ReflectliteValue.isNil, hc]
          · cases hvc; cases hy
            simp [ReflectliteValue.isNil, hc]
          · cases hy
        rw [hn]
        rfl
  · cases hv
theorem rlVElem_sound {f : FuncId} {l : List (Nat × Nat × Nat × Nat)} (hC : C.P = P) (hG : P.globals.size < lowTop) (h : extChk P f = true) (he : (P.funcs[f]?).bind Extern.find = some (ReflectliteValue.method (ReflectliteValue.valueError "reflectlite.Value.Elem" 0) ReflectliteValue.elem))
    (hp : ∀ q ∈ l, ∀ a w, (ReflectliteValue.parts (valV P q.1 a q.2.1)).run P w = .ok (some (q.1, a, q.2.1)) w) (hk : ∀ q ∈ l, q.2.1 % 32 = 22)
    (hel : ∀ q ∈ l, ∀ w, (Rtype.elem? q.1).run P w = .ok (some q.2.2.1) w) (hm : ∀ q ∈ l, ∀ a w, (ReflectliteValue.mk q.2.2.1 a ReflectliteValue.flagAddr).run P w = .ok (valV P q.2.2.1 a q.2.2.2) w) : ExtSound C P f (.rlVElem l) := by
  intro base ρ s s' w args cargs v hr ha hv
  have hv : extVElem C l s args = some (v, s') := hv
  unfold extVElem at hv
  split at hv
  · cases ha with
    | cons h1 h2 => cases h2 with
      | nil =>
        obtain ⟨t, b, o, g, L, hL, rfl, hv⟩ := valueK_some hC hG h1 hv
        obtain ⟨q, hq, hv2⟩ := obind_some.1 hv
        obtain ⟨hb, hv3⟩ := guard_some.1 hv2
        obtain ⟨x, hx, hv4⟩ := obind_some.1 hv3
        clear hv hv2 hv3
        have hb := Nat.eq_of_beq_eq_true hb
        rw [hC] at hx
        obtain ⟨c, hc, hvc⟩ := load_sound hr hL hx
        obtain ⟨g', e, g2⟩ := q
        have hb : g' = g := hb
        subst hb
        have hm' := findT_mem hq
        have hp' := hp _ hm' ⟨L.blk, L.off + o, none⟩ w
        have hk' : g' % 32 = 22 := hk _ hm'
        have he' := hel _ hm' w
        dsimp only at hp' he'
        split at hv4
        · rename_i p
          cases hv4
          cases hvc with
          | @ptr pb po pl hpl =>
            refine ⟨valV P e ⟨pl.blk, pl.off + po, none⟩ g2, ρ, w, ?_, Goes.refl hr, ?_⟩
            · rw [run_ext h he, show (⟨[valV P t ⟨L.blk, L.off + o, none⟩ g']⟩ : Array Value) = #[valV P t ⟨L.blk, L.off + o, none⟩ g'] from rfl, run_method _ _ hp', hk']
              have hn : (ReflectliteValue.elem t ⟨L.blk, L.off + o, none⟩ g' 22).run P w = .ok (valV P e ⟨pl.blk, pl.off + po, none⟩ g2) w := by
                have hm2 := hm _ hm' ⟨pl.blk, pl.off + po, none⟩ w
                dsimp only at hm2
                simp [ReflectliteValue.elem, hc, he', hm2]
              rw [hn]
              rfl
            · rw [hC]
              exact .agg (.cons (handle_vr _ hG e) (.cons (.ptr hpl) (.cons (.int _ _) .nil)))
        · cases hv4
  · cases hv
theorem rls (v x : Value) : ReflectliteValue.set #[v, x] = (do
    let (some (dst, a, fl), some (src, b, _)) := (← ReflectliteValue.parts v, ← ReflectliteValue.parts x)
      | unsupported (.noEntry "extern/(internal/reflectlite.Value).Set.zeroValue")
    if fl / ReflectliteValue.flagAddr % 2 == 0 then unsupported (.noEntry "extern/(internal/reflectlite.Value).Set.unaddressable")
    let val ← loadVar src b
    if ← Rtype.directlyAssignable dst src then storeVar dst a val
    else if ← Rtype.implements dst src then
      if (← Rtype.kind src) == 20 then
        match val with
        | .nilIface => unsupported (.noEntry "extern/reflectlite: a nil value of one interface type handed on as a value of another")
        | _ => storeVar dst a val
      else storeVar dst a (.iface src val)
    else panicString ("reflectlite.Set: value of type " ++ (← Rtype.spelt src) ++ " is not assignable to type " ++ (← Rtype.spelt dst))
    pure (.tuple #[])) := rfl
theorem run_set (v x : Value) {t : TypeId} {a b : Addr} {f g : Nat} {w : World} (hp : (ReflectliteValue.parts v).run P w = .ok (some (t, a, f)) w) (hq : (ReflectliteValue.parts x).run P w = .ok (some (t, b, g)) w)
    (hf : f / ReflectliteValue.flagAddr % 2 = 1) (hd : ∀ w, (Rtype.directlyAssignable t t).run P w = .ok true w) {c : Value} (hc : (loadVar t b).run P w = .ok c w) {w' : World} (hs : (storeVar t a c).run P w = .ok () w') :
    (ReflectliteValue.set #[v, x]).run P w = .ok (.tuple #[]) w' := by
  rw [rls]
  simp only [Sem.run_bind, hp, hq, Result.andThen_ok]
  have hf' : (f / ReflectliteValue.flagAddr % 2 == 0) = false := by rw [hf]; rfl
  simp [hf', hc, hd w, hs]
theorem rlSet_sound {f : FuncId} {l : List (Nat × Nat × Nat)} (hC : C.P = P) (hG : P.globals.size < lowTop) (h : extChk P f = true) (he : (P.funcs[f]?).bind Extern.find = some ReflectliteValue.set)
    (hp : ∀ q ∈ l, ∀ a w, (ReflectliteValue.parts (valV P q.1 a q.2.1)).run P w = .ok (some (q.1, a, q.2.1)) w ∧ (ReflectliteValue.parts (valV P q.1 a q.2.2)).run P w = .ok (some (q.1, a, q.2.2)) w)
    (hk : ∀ q ∈ l, q.2.1 / ReflectliteValue.flagAddr % 2 = 1) (hd : ∀ q ∈ l, ∀ w, (Rtype.directlyAssignable q.1 q.1).run P w = .ok true w) : ExtSound C P f (.rlSet l) := by
  intro base ρ s s' w args cargs v hr ha hv
  have hv : extSet C l s args = some (v, s') := hv
  unfold extSet at hv
  split at hv
  · cases ha with
    | cons h1 h2 => cases h2 with
      | cons h2 h3 => cases h3 with
        | nil =>
          obtain ⟨t, b, o, g, L, hL, rfl, hv⟩ := valueK_some hC hG h1 hv
          obtain ⟨t2, b2, o2, g2, L2, hL2, rfl, hv⟩ := valueK_some hC hG h2 hv
          obtain ⟨q, hq, hv2⟩ := obind_some.1 hv
          obtain ⟨hb, hv3⟩ := guard_some.1 hv2
          obtain ⟨x, hx, hv4⟩ := obind_some.1 hv3
          obtain ⟨s2, hs2, hv5⟩ := obind_some.1 hv4
          clear hv hv2 hv3 hv4
          simp only [Bool.and_eq_true] at hb
          obtain ⟨⟨e1, e2⟩, e3⟩ := hb
          have e1 := Nat.eq_of_beq_eq_true e1
          have e2 := Nat.eq_of_beq_eq_true e2
          have e3 := Nat.eq_of_beq_eq_true e3
          subst e1
          cases hv5
          rw [hC] at hx hs2
          obtain ⟨g', g2'⟩ := q
          have e2 : g' = g := e2
          have e3 : g2' = g2 := e3
          subst e2 e3
          obtain ⟨c, hc, hvc⟩ := load_sound hr hL2 hx
          obtain ⟨w', hw, hgo⟩ := store_sound hr hL hs2 hvc
          have hm := findT_mem hq
          refine ⟨.tuple #[], ρ, w', ?_, hgo, .tuple .nil⟩
          have := run_set (valV P t ⟨L.blk, L.off + o, none⟩ g') (valV P t ⟨L2.blk, L2.off + o2, none⟩ g2') (hp _ hm _ w).1 (hp _ hm _ w).2 (hk _ hm) (hd _ hm) hc hw
          rw [run_ext h he, show (⟨[valV P t ⟨L.blk, L.off + o, none⟩ g', valV P t ⟨L2.blk, L2.off + o2, none⟩ g2']⟩ : Array Value) = #[valV P t ⟨L.blk, L.off + o, none⟩ g', valV P t ⟨L2.blk, L2.off + o2, none⟩ g2'] from rfl, this]
          rfl
  · cases hv
end Go.Ax
namespace Go.Ax
variable [Lo]
open Go Go.Extern
variable {P : Program} {base : Nat} {ρ : Ren} {s s' : St} {w w' : World}
theorem Goes.forget (h : HR P base ρ s w) {b : Nat} {cs : List Value} {e : TypeId} {f : Nat} (hc : s.cells b = some (cs, e, f)) (hf : f ≠ 0) :
    Goes P base ρ s w ρ { heap := s.heap.set b (.row [] e f), fams := s.fams, next := s.next } w := by
  obtain ⟨hg, hlive⟩ := cells_some.1 hc
  have hget : ∀ i, i ≠ b → (s.heap.set b (.row [] e f)).get i = s.heap.get i := fun i hi => Hp.get_set_other _ _ hi
  have htag : ∀ i, St.tag { heap := s.heap.set b (.row [] e f), fams := s.fams, next := s.next } i = s.tag i := by
    intro i
    by_cases hi : i = b
    · subst hi
      unfold St.tag
      simp only [Hp.get_set_same, hg]
    · unfold St.tag
      simp only [hget i hi]
  have hown : ∀ x, Owned ρ { heap := s.heap.set b (.row [] e f), fams := s.fams, next := s.next } x → Owned ρ s x := by
    rintro x ⟨i, l, a, h1, h2, h3, h4⟩
    exact ⟨i, l, a, h1, by rw [← htag i]; exact h2, h3, h4⟩
  refine ⟨Ren.le_refl ρ, ?_, rfl, rfl, rfl, Nat.le_refl _, Nat.le_refl _, fun _ _ _ => rfl, fun x hx => .inl (hown x hx), fun _ _ => rfl⟩
  refine ⟨h.dom, h.next, h.base_le, fun i hi ht => h.low i hi (by rw [← htag i]; exact ht), fun i r hi => ?_, fun i cs' e' f' hi => ?_, fun i cs' e' f' hi => ?_, fun i es c hi => ?_, fun i r hi => ?_, fun i j a c l l' hi hj => ?_⟩
  · by_cases e0 : i = b
    · subst e0; exact h.heap_dom _ _ hg
    · exact h.heap_dom i r (by rw [← hget i e0]; exact hi)
  · by_cases e0 : i = b
    · subst e0
      have hi : (s.heap.set i (.row [] e f)).get i = some (.row cs' e' f') := hi
      rw [Hp.get_set_same] at hi
      cases hi
      exact h.fam_dom _ _ _ _ hg
    · exact h.fam_dom i cs' e' f' (by rw [← hget i e0]; exact hi)
  · by_cases e0 : i = b
    · subst e0
      obtain ⟨h1, h2⟩ := cells_some.1 hi
      have h1 : (s.heap.set i (.row [] e f)).get i = some (.row cs' e' f') := h1
      rw [Hp.get_set_same] at h1
      cases h1
      obtain ⟨l, hq⟩ := h.rows i cs e f hc
      obtain ⟨hat, a, fz, ha, hv, hz, h0, h4⟩ := hq
      refine ⟨l, hat, a, fz, ha, fun j x hj => by simp at hj, hz, fun h => absurd h hf, fun h => ?_⟩
      obtain ⟨n, n1, n2, n3, n4⟩ := h4 h
      exact ⟨n, n1, n2, n3, by simp⟩
    · refine h.rows i cs' e' f' ?_
      obtain ⟨h1, h2⟩ := cells_some.1 hi
      exact cells_some.2 ⟨by rw [← hget i e0]; exact h1, h2⟩
  · have e0 : i ≠ b := by
      rintro rfl
      have hi : (s.heap.set i (.row [] e f)).get i = some (.map es c) := hi
      rw [Hp.get_set_same] at hi
      cases hi
    exact h.maps i es c (by rw [← hget i e0]; exact hi)
  · have e0 : i ≠ b := by
      rintro rfl
      have hi : (s.heap.set i (.row [] e f)).get i = some (.loop r) := hi
      rw [Hp.get_set_same] at hi
      cases hi
    exact h.loops i r (by rw [← hget i e0]; exact hi)
  · rw [htag i] at hi
    rw [htag j] at hj
    exact h.sep i j a c l l' hi hj
theorem run_copy_cells {t e : TypeId} {sz : Nat} (hu : P.underlying t = some (.slice e)) (hsz : size P e = some sz) (ty : TypeId) {g off dLen dCap sb so sLen sCap m : Nat} (hm : Nat.min sLen dLen = m) {cur : Array Value} {ty0 : TypeId} {fz : Nat × Nat}
    (hg : w.heap[g]? = some (.cells cur ty0 fz)) (hfz : ∀ k, k < cur.size → ¬ (fz.1 ≤ k ∧ k < fz.2)) {cl : List Value} (hcl : cl.length = m * sz) (hsrc : ∀ (j : Nat) (v : Value), cl[j]? = some v → w.cell? ⟨sb, so + j, none⟩ = some v)
    (hfit : off + cl.length ≤ cur.size) (h1 : ∀ v ∈ cl, v.oneCell' = true) :
    (Builtin.copy_ #[t, t] ty #[.slice (some ⟨g, off, none⟩) dLen dCap, .slice (some ⟨sb, so, none⟩) sLen sCap]).run P w = .ok (goInt m) (w.setRow g (cur.toList.take off ++ cl ++ cur.toList.drop (off + cl.length)).toArray) := by
  have hl := run_loadCells_list (P := P) w ⟨sb, so, none⟩ cl (fun j v hj => by rw [add_eq]; exact hsrc j v hj)
  rw [hcl] at hl
  have hst := run_storeCells_gen P g off ty0 fz cl 0 cur w hg (by simpa using hfit) hfz h1
  simp only [Nat.add_zero] at hst
  simp [Builtin.copy_, run_underlying hu, Builtin.lenOf, run_sizeOf hsz, hm, Builtin.firstCells, hl, hst]
theorem run_append_zeros {t it e : TypeId} {i : TypeInfo} {z : Value} (hu : P.underlying t = some (.slice e)) (hi : P.info? e = some i) (hz : i.zero = some z) (_hzs : z.cells.size = i.size) (h0 : 1 ≤ i.size) (hint : P.underlying it = some (.int .i64)) (ty : TypeId)
    {b : Addr} {sLen sCap m : Nat} {old : List Value} (hold : (Go.loadCells b (sLen * i.size)).run P w.drew = .ok ⟨old⟩ w.drew) (hm0 : 1 ≤ m) (hfit : sCap < sLen + m) (h63 : sLen + m ≤ 281474976710656) (hmb : m * i.bytes ≤ 281474976710656)
    (h48 : Builtin.nextslicecap (sLen + m) sCap * i.bytes ≤ 281474976710656) :
    (Builtin.append_ #[t, it] ty #[.slice (some b) sLen sCap, .int .i64 (m : Int)]).run P w =
      .ok (.slice (some ⟨w.heap.size, 0, none⟩) (sLen + m) (grownCap w (sLen + m) sCap e))
        (w.drew.alloc (.cells ((⟨old⟩ : Array Value) ++ Builtin.zeroCells z.cells m ++ Builtin.zeroCells z.cells (grownCap w (sLen + m) sCap e - (sLen + m))) e)) := by
  have hn : ¬ (sLen + m ≤ sCap) := by omega
  have h63' : ¬ (9223372036854775807 < ((sLen : Int) + (m : Int))) := by omega
  have h48' : ¬ (281474976710656 < Builtin.nextslicecap (sLen + m) sCap * i.bytes) := by omega
  have hw : IntKind.i64.wrap (m : Int) = m := by rw [IntKind.wrap_i64]; omega
  have hmb' : ¬ (281474976710656 < (m : Int) * (i.bytes : Int)) := by
    have : ((m * i.bytes : Nat) : Int) ≤ 281474976710656 := by omega
    rw [Int.natCast_mul] at this
    omega
  have hneg : ¬ ((m : Int) < 0) := by omega
  have hz0 : ¬ (m * i.size = 0) := by
    have := Nat.mul_pos hm0 h0
    omega
  have hai : (asInt (.int .i64 (m : Int))).run P w = .ok (m : Int) w := rfl
  simp [hai, Builtin.append_, run_underlying hu, run_underlying hint, sizeOf, typeInfo, zeroValue, hi, hz, hw, hneg, hmb', hn, h63', h48', hz0, Question.forced, Builtin.firstCells, hold, newRow, grownCap]
theorem ovl (params results : Array TypeId) (a b : Addr) (la ca lb cb : Nat) : SlicesOverlaps.overlaps params results #[.slice (some a) la ca, .slice (some b) lb cb] = (do
    let some t := params[0]? | stuck "slices.overlaps: no parameter types"
    let .slice elem ← underlying t | stuck "slices.overlaps: slice type expected"
    let size ← sizeOf elem
    if la = 0 ∨ lb = 0 ∨ size = 0 then pure (.bool false)
    else if a.block != b.block && (← frozen a) && (← frozen b) then unsupported .addressObserved
    else do
      if a.block != b.block then do
        noView a; noView b
        if ← mayBeOne a b then return .bool ((← choose (.extern "sameAddr.stringBytes" 2)) == 1)
      pure (.bool (a.block == b.block && a.off < b.off + lb * size && b.off < a.off + la * size))) := rfl
theorem run_overlaps {params results : Array TypeId} {t e : TypeId} {sz : Nat} (h0 : params[0]? = some t) (hu : P.underlying t = some (.slice e)) (hsz : size P e = some sz) (h1 : 1 ≤ sz) {va vo la ca gb go lb cb : Nat} (hla : la ≠ 0) (hlb : lb ≠ 0) (hne : va ≠ gb)
    {A : Array Value} {tA : TypeId} {fA : Nat × Nat} (hA : w.heap[va]? = some (.cells A tA fA)) (hv : ¬ (fA.1 ≤ vo ∧ vo < fA.2)) (hend : ¬ (fA.1 ≤ A.size ∧ A.size < fA.2)) {B : Array Value} {tB : TypeId} {fB : Nat × Nat} (hB : w.heap[gb]? = some (.cells B tB fB)) (hBs : B.size ≠ 0) :
    (SlicesOverlaps.overlaps params results #[.slice (some ⟨va, vo, none⟩) la ca, .slice (some ⟨gb, go, none⟩) lb cb]).run P w = .ok (.bool false) w := by
  have hz : sz ≠ 0 := by omega
  have f1 : w.frozen? ⟨va, vo, none⟩ = false := by
    simp only [World.frozen?, hA]
    by_cases h : fA.1 ≤ vo
    · have : ¬ vo < fA.2 := fun h' => hv ⟨h, h'⟩
      simp [this]
    · simp [h]
  have f2 : w.frozen? ⟨va, A.size, none⟩ = false := by
    simp only [World.frozen?, hA]
    by_cases h : fA.1 ≤ A.size
    · have : ¬ A.size < fA.2 := fun h' => hend ⟨h, h'⟩
      simp [this]
    · simp [h]
  have s1 : w.shape? va = some (tA, A.size) := by simp [World.shape?, hA]
  obtain ⟨k, hk⟩ : ∃ k, B.size = k + 1 := ⟨B.size - 1, by omega⟩
  have s2 : w.shape? gb = some (tB, k + 1) := by simp [World.shape?, hB, hk]
  rw [ovl]
  simp [h0, run_underlying hu, run_sizeOf hsz, hla, hlb, hz, hne, f1, noView, viewAt, s1, s2, mayBeOne, stringish, f2]
end Go.Ax
namespace Go.Ax
variable [Lo]
open Go Go.Extern Go.RowKit
variable {P : Program} {base : Nat} {ρ : Ren} {s s' : St} {w w' : World}
def spl (A : Array Value) (o : Nat) (l : List Value) : Array Value := (A.toList.take o ++ l ++ A.toList.drop (o + l.length)).toArray
theorem spl_size {A : Array Value} {o : Nat} {l : List Value} (h : o + l.length ≤ A.size) : (spl A o l).size = A.size := by simp [spl]; omega
theorem spl_lt {A : Array Value} {o j : Nat} {l : List Value} (h : o ≤ A.size) (hj : j < o) : (spl A o l)[j]? = A[j]? := by
  simp only [spl, List.getElem?_toArray]
  rw [List.append_assoc, List.getElem?_append_left (by simp; omega), List.getElem?_take, if_pos hj]
  simp
theorem spl_mid {A : Array Value} {o k : Nat} {l : List Value} (h : o + l.length ≤ A.size) (hk : k < l.length) : (spl A o l)[o + k]? = l[k]? := by
  simp only [spl, List.getElem?_toArray]
  rw [List.append_assoc, List.getElem?_append_right (by simp; omega), List.getElem?_append_left (by simp; omega)]
  congr 1
  simp; omega
theorem spl_ge {A : Array Value} {o j : Nat} {l : List Value} (h : o + l.length ≤ A.size) (hj : o + l.length ≤ j) : (spl A o l)[j]? = A[j]? := by
  simp only [spl, List.getElem?_toArray]
  rw [List.getElem?_append_right (by simp; omega), List.getElem?_drop]
  have : o + l.length + (j - (List.take o A.toList ++ l).length) = j := by simp; omega
  rw [this]
  simp
theorem ins_cells {A : Array Value} {off i n sz : Nat} {cs new tcl ncl : List Value} (hi : i ≤ n) (hcs : cs.length = n * sz) (ht : VRs ρ (cs.drop (i * sz)) tcl) (hn : VRs ρ new ncl) (hnl : new.length = sz)
    (hlow : ∀ (j : Nat) (x : Value), j < i * sz → cs[j]? = some x → ∃ y, A[off + j]? = some y ∧ VR ρ x y) (hfit : off + (n + 1) * sz ≤ A.size) :
    ∀ (j : Nat) (x : Value), (cs.take (i * sz) ++ (new ++ cs.drop (i * sz)))[j]? = some x → ∃ y, (spl (spl A (off + (i + 1) * sz) tcl) (off + i * sz) ncl)[off + j]? = some y ∧ VR ρ x y := by
  have him : i * sz ≤ n * sz := Nat.mul_le_mul_right _ hi
  have e1 : (i + 1) * sz = i * sz + sz := Nat.succ_mul _ _
  have e2 : (n + 1) * sz = n * sz + sz := Nat.succ_mul _ _
  have htl := ht.length
  have hnl' := hn.length
  simp at htl
  have hf1 : off + (i + 1) * sz + tcl.length ≤ A.size := by omega
  have hs1 := spl_size hf1
  have hf2 : off + i * sz + ncl.length ≤ (spl A (off + (i + 1) * sz) tcl).size := by omega
  intro j x hj
  by_cases h1 : j < i * sz
  · rw [List.getElem?_append_left (by simp; omega), List.getElem?_take, if_pos h1] at hj
    rw [spl_lt (by omega) (by omega), spl_lt (by omega) (by omega)]
    exact hlow j x h1 hj
  · rw [List.getElem?_append_right (by simp; omega)] at hj
    have el : (List.take (i * sz) cs).length = i * sz := by simp; omega
    rw [el] at hj
    by_cases h2 : j - i * sz < sz
    · rw [List.getElem?_append_left (by omega)] at hj
      obtain ⟨y, hy, hv⟩ := hn.get hj
      refine ⟨y, ?_, hv⟩
      have := spl_mid hf2 (k := j - i * sz) (by omega)
      rw [← hy, ← this]
      congr 1
      omega
    · rw [List.getElem?_append_right (by omega), hnl] at hj
      obtain ⟨y, hy, hv⟩ := ht.get hj
      refine ⟨y, ?_, hv⟩
      rw [spl_ge hf2 (by omega)]
      have hlt := (List.getElem?_eq_some_iff.1 hy).1
      have := spl_mid hf1 (k := j - i * sz - sz) (by omega)
      rw [← hy, ← this]
      congr 1
      omega
theorem arr_ext {A B : Array Value} (h : ∀ j : Nat, A[j]? = B[j]?) : A = B := by
  apply Array.ext'
  apply List.ext_getElem?
  intro j
  simpa using h j
theorem spl_nil {A : Array Value} {o : Nat} : spl A o [] = A := by simp [spl]
theorem spl_comm {A : Array Value} {o1 o2 : Nat} {l1 l2 : List Value} (h1 : o1 + l1.length ≤ o2) (h2 : o2 + l2.length ≤ A.size) : spl (spl A o1 l1) o2 l2 = spl (spl A o2 l2) o1 l1 := by
  have e1 : (spl A o1 l1).size = A.size := spl_size (by omega)
  have e2 : (spl A o2 l2).size = A.size := spl_size h2
  apply arr_ext
  intro j
  by_cases c1 : j < o1
  · rw [spl_lt (by omega) (by omega), spl_lt (by omega) c1, spl_lt (by omega) c1, spl_lt (by omega) (by omega)]
  · by_cases c2 : j < o1 + l1.length
    · rw [spl_lt (by omega) (by omega)]
      have a1 := spl_mid (A := A) (o := o1) (l := l1) (k := j - o1) (by omega) (by omega)
      have a2 := spl_mid (A := spl A o2 l2) (o := o1) (l := l1) (k := j - o1) (by omega) (by omega)
      have ej : o1 + (j - o1) = j := by omega
      rw [ej] at a1 a2
      rw [a1, a2]
    · rw [spl_ge (A := spl A o2 l2) (by omega) (by omega)]
      by_cases c3 : j < o2
      · rw [spl_lt (by omega) c3, spl_lt (by omega) c3, spl_ge (by omega) (by omega)]
      · by_cases c4 : j < o2 + l2.length
        · have a1 := spl_mid (A := A) (o := o2) (l := l2) (k := j - o2) h2 (by omega)
          have a2 := spl_mid (A := spl A o1 l1) (o := o2) (l := l2) (k := j - o2) (by omega) (by omega)
          have ej : o2 + (j - o2) = j := by omega
          rw [ej] at a1 a2
          rw [a1, a2]
        · rw [spl_ge (by omega) (by omega), spl_ge (by omega) (by omega), spl_ge h2 (by omega)]
theorem allOne_drop : ∀ (k : Nat) {l : List Value}, allOne l = true → allOne (l.drop k) = true
  | 0, _, h => h
  | _ + 1, [], _ => rfl
  | k + 1, a :: l, h => by
    change sel (isOne a) (allOne l) false = true at h
    rw [sel_eq] at h
    split at h
    · exact allOne_drop k h
    · cases h
noncomputable def insSt (s : St) (b : Nat) (e : TypeId) (f : Nat) (l : List Value) : St :=
  { heap := (s.heap.set b (.row [] e f)).set s.next (.row l e f), fams := s.fams.set f [s.next, b], next := Nat.succ s.next }
theorem ins_place_goes (h : HR P base ρ s w) {b : Nat} {cs final : List Value} {e : TypeId} {f sz k : Nat} {L : Loc} (hb : fixedTop ≤ b) (hc : s.cells b = some (cs, e, f)) (hf : f ≠ 0) (hl : ρ.at b = some L) (hsz : size P e = some sz)
    {A A' : Array Value} {fz : Nat × Nat} (ha : w.heap[L.blk]? = some (.cells A e fz)) (hs : A'.size = A.size) (hv : ∀ (j : Nat) (x : Value), final[j]? = some x → ∃ y, A'[L.off + j]? = some y ∧ VR ρ x y)
    (hcap : L.off + L.cap * sz ≤ A.size) (hlen : final.length ≤ L.cap * sz) :
    Goes P base ρ s w (ρ.set s.next L) (insSt s b e f final) (({ w with drawn := k } : World).setRow L.blk A') := by
  have g0 := Goes.forget h hc hf
  have g1 := Goes.drew g0.hr k
  have hc0 : St.cells { heap := s.heap.set b (.row [] e f), fams := s.fams, next := s.next } b = some ([], e, f) :=
    cells_some.2 ⟨Hp.get_set_same _ _ _, (cells_some.1 hc).2⟩
  have g2 := Goes.share (cells := final) (ln := L) g1.hr hb hc0 hf hl (a' := A') ha hs (fun j x hj => by simp at hj) rfl hv (fun n hn => by
    rw [hsz] at hn
    cases hn
    exact ⟨hcap, hlen⟩)
  exact (g0.trans g1).trans g2
theorem ins_grow_goes (h : HR P base ρ s w) {b : Nat} {cs final : List Value} {e : TypeId} {f sz cap k : Nat} (hc : s.cells b = some (cs, e, f)) (hf : f ≠ 0) (hsz : size P e = some sz) (h0 : 0 < sz)
    {A : Array Value} (hv : ∀ (j : Nat) (x : Value), final[j]? = some x → ∃ y, A[j]? = some y ∧ VR ρ x y) (hs : A.size = cap * sz) (hlen : final.length ≤ cap * sz) :
    Goes P base ρ s w (ρ.set s.next ⟨w.heap.size, 0, cap⟩) (insSt s b e f final) (({ w with drawn := k } : World).alloc (.cells A e)) := by
  have g0 := Goes.forget h hc hf
  have hc0 : St.cells { heap := s.heap.set b (.row [] e f), fams := s.fams, next := s.next } b = some ([], e, f) :=
    cells_some.2 ⟨Hp.get_set_same _ _ _, (cells_some.1 hc).2⟩
  have g2 := Goes.shareNew (cells := final) (k := k) g0.hr hc0 hf hsz h0 hv hs hlen
  exact g0.trans g2
structure InsWalks (P : Program) (F OV : FuncId) (t it : TypeId) (sz : Nat) : Prop where
  place : ∀ (b o n K i vb vo vc : Nat) (w w2 w3 : World) (x2 x3 : Value), i < n → n + 1 ≤ K → n + 1 ≤ 9223372036854775807 →
    Sem.run P (callFunc OV #[.slice (some ⟨vb, vo, none⟩) 1 vc, .slice (some ⟨b, o + (i + 1) * sz, none⟩) (n - i) (K - (i + 1))]) w = .ok (.value (.bool false)) w →
    Hid (Sem.run P (Builtin.copy_ #[t, t] it #[.slice (some ⟨b, o + (i + 1) * sz, none⟩) (n - i) (K - (i + 1)), .slice (some ⟨b, o + i * sz, none⟩) (n + 1 - i) (K - i)]) w.drew = .ok x2 w2) →
    Sem.run P (Builtin.copy_ #[t, t] it #[.slice (some ⟨b, o + i * sz, none⟩) (n + 1 - i) (K - i), .slice (some ⟨vb, vo, none⟩) 1 vc]) w2 = .ok x3 w3 →
    Calls P F #[.slice (some ⟨b, o, none⟩) n K, .int .i64 i, .slice (some ⟨vb, vo, none⟩) 1 vc] w fun e w' => e = .returned (.slice (some ⟨b, o, none⟩) (n + 1) K) ∧ w' = w3
  fin : ∀ (b o n K vb vo vc : Nat) (w w2 : World) (x2 : Value),
    Hid (Sem.run P (Builtin.append_ #[t, t] t #[.slice (some ⟨b, o, none⟩) n K, .slice (some ⟨vb, vo, none⟩) 1 vc]) w = .ok x2 w2) →
    Calls P F #[.slice (some ⟨b, o, none⟩) n K, .int .i64 n, .slice (some ⟨vb, vo, none⟩) 1 vc] w fun e w' => e = .returned x2 ∧ w' = w2
  grow : ∀ (b o n K i vb vo vc g G : Nat) (w w2 w3 w4 : World) (x3 x4 : Value), i < n → n ≤ K → K < n + 1 → n + 1 ≤ 9223372036854775807 → n + 1 ≤ G →
    Hid (Sem.run P (Builtin.append_ #[t, it] t #[.slice (some ⟨b, o, none⟩) i K, .int .i64 ((n : Int) + 1 - i)]) w = .ok (.slice (some ⟨g, 0, none⟩) (n + 1) G) w2) →
    Sem.run P (Builtin.copy_ #[t, t] it #[.slice (some ⟨g, i * sz, none⟩) (n + 1 - i) (G - i), .slice (some ⟨vb, vo, none⟩) 1 vc]) w2 = .ok x3 w3 →
    Hid (Sem.run P (Builtin.copy_ #[t, t] it #[.slice (some ⟨g, (i + 1) * sz, none⟩) (n - i) (G - (i + 1)), .slice (some ⟨b, o + i * sz, none⟩) (n - i) (K - i)]) w3.drew = .ok x4 w4) →
    Calls P F #[.slice (some ⟨b, o, none⟩) n K, .int .i64 i, .slice (some ⟨vb, vo, none⟩) 1 vc] w fun e w' => e = .returned (.slice (some ⟨g, 0, none⟩) (n + 1) G) ∧ w' = w4
theorem alloc_setRow (w : World) (a a' : Array Value) (e : TypeId) : (w.alloc (.cells a e)).setRow w.heap.size a' = w.alloc (.cells a' e) := by
  unfold World.alloc World.setRow
  congr 1
  apply Array.ext
  · simp
  · intro i h1 h2
    simp only [Array.getElem_modify]
    by_cases h : w.heap.size = i
    · subst h; simp
    · simp only [h, if_false]
      have hlt : i < w.heap.size := by simp at h2; omega
      rw [Array.getElem_push_lt hlt, Array.getElem_push_lt hlt]
theorem cell_push (w : World) (o : Obj) {b j : Nat} {v : Value} (h : w.cell? ⟨b, j, none⟩ = some v) : (w.alloc o).cell? ⟨b, j, none⟩ = some v := by
  have hlt : b < w.heap.size := by
    unfold World.cell? at h
    cases hb : w.heap[b]? with
    | none => simp [hb] at h
    | some x => exact (Array.getElem?_eq_some_iff.1 hb).1
  rw [World.cell?_alloc_lt _ _ ⟨b, j, none⟩ hlt]
  exact h
theorem insert_sound {C : Cfg} {F OV : FuncId} {t it e : TypeId} {sz : Nat} {ps rs : Array TypeId} (hW : InsWalks P F OV t it sz) (hC : C.P = P) (hu : P.underlying t = some (.slice e)) (hsz : size P e = some sz) (hint : P.underlying it = some (.int .i64))
    (hx : extChk P OV = true) (ho : (P.funcs[OV]?).bind Extern.find = some (SlicesOverlaps.overlaps ps rs)) (hps : ps[0]? = some t) (hni : noInt P (some t) = true)
    {args : List Value} {s s' : St} {v : Value} (hv : extInsert C e s args = some (v, s')) {base : Nat} {ρ : Ren} {w : World} {cargs : List Value} (h : HR P base ρ s w) (ha : VRs ρ args cargs) :
    Calls P F ⟨cargs⟩ w fun x w' => ∃ c ρ', x = .returned c ∧ Goes P base ρ s w ρ' s' w' ∧ VR ρ' v c := by
  unfold extInsert at hv
  split at hv
  · rename_i a n cap iv u m uc
    obtain ⟨i, hiv, hv1⟩ := obind_some.1 hv
    obtain ⟨hm1, hv2⟩ := guard_some.1 hv1
    obtain ⟨⟨cs, e', f⟩, hc, hv3⟩ := obind_some.1 hv2
    obtain ⟨⟨ds, ed, fd⟩, hd, hv4⟩ := obind_some.1 hv3
    obtain ⟨sz', hsz', hv5⟩ := obind_some.1 hv4
    obtain ⟨hg, hv6⟩ := guard_some.1 hv5
    obtain ⟨new, hnew, hv7⟩ := obind_some.1 hv6
    obtain ⟨hone, hv8⟩ := guard_some.1 hv7
    clear hv hv1 hv2 hv3 hv4 hv5 hv6 hv7
    rw [hC] at hsz' hg
    rw [hsz] at hsz'
    cases hsz'
    have hm1 := Nat.eq_of_beq_eq_true hm1
    subst hm1
    simp only [Bool.and_eq_true, Bool.not_eq_true'] at hg hone
    obtain ⟨⟨⟨⟨⟨⟨⟨⟨⟨⟨⟨⟨g1, g2⟩, g3⟩, g4⟩, g5⟩, g6⟩, g7⟩, g8⟩, g9⟩, g10⟩, g11⟩, g12⟩, g13⟩ := hg
    have g1 : e' = e := Nat.eq_of_beq_eq_true g1
    subst g1
    have g2 : a.off = 0 := Nat.eq_of_beq_eq_true g2
    have g3 : cs.length = n * sz := by rw [lenL_eq] at g3; exact Nat.eq_of_beq_eq_true g3
    have g4 : i ≤ n := Nat.le_of_ble_eq_true g4
    have g5 : f ≠ 0 := by rintro rfl; simp at g5
    have g6 : cap = bigCap := Nat.eq_of_beq_eq_true g6
    have g7 : fixedTop ≤ a.block := Nat.le_of_ble_eq_true g7
    have g8 : fixedTop ≤ u.block := Nat.le_of_ble_eq_true g8
    have g9 : fd = 0 := Nat.eq_of_beq_eq_true g9
    subst g9 g6
    have g10 : 1 ≤ ds.length := by rw [lenL_eq] at g10; exact Nat.le_of_ble_eq_true g10
    have g11 : 1 ≤ sz := Nat.le_of_ble_eq_true g11
    have g13 : n ≤ 1099511627776 := Nat.le_of_ble_eq_true g13
    rw [takeN_eq, dropL_eq] at hnew
    obtain ⟨hnl, rfl⟩ := hnew
    simp only [appL_eq, takeL_eq, dropL_eq] at hv8
    have hiv' : iv = Int.ofNat i := by
      cases iv with
      | ofNat k => cases hiv; rfl
      | negSucc k => cases hiv
    subst hiv'
    cases hv8
    cases ha with
    | cons h1 ha => cases ha with
      | cons h2 ha => cases ha with
        | cons h3 ha => cases ha with
          | nil =>
            cases h2
            cases h1 with
            | dead A K => exact (h.no_dead hc).elim
            | @slice b o _ _ L hL => cases h3 with
              | @slice vb vo _ _ Lv hLv =>
                have g2 : o = 0 := g2
                subst g2
                have hcap : capOf L bigCap = L.cap := capOf_big L.blk L.off L.cap
                rw [hcap]
                simp only [Nat.add_zero]
                obtain ⟨q, hq⟩ := h.rows b cs e' f hc
                have hql : q = L := by have := hq.at_; rw [hL] at this; exact (Option.some.inj this).symm
                subst hql
                have hq2 := hq
                obtain ⟨_, A, fz, ⟨e9, hA, he9⟩, hvals, hfz, _, h4⟩ := hq
                have he9 := (he9 (.inr g7)).symm
                subst he9
                obtain ⟨n', hn', h0, hsiz, hlen⟩ := h4 g5
                rw [hsz] at hn'
                cases hn'
                obtain ⟨qv, hqv⟩ := h.rows vb ds ed 0 hd
                have hqlv : qv = Lv := by have := hqv.at_; rw [hLv] at this; exact (Option.some.inj this).symm
                subst hqlv
                have hqv2 := hqv
                obtain ⟨_, Av, fzv, ⟨e8, hAv, he8⟩, _, hfzv, hv0, _⟩ := hqv
                have he8 := (he8 (.inl rfl)).symm
                subst he8
                obtain ⟨hvo, hvs, hvend⟩ := hv0 rfl
                have hK : n ≤ q.cap := by
                  have : n * sz ≤ q.cap * sz := by omega
                  exact Nat.le_of_mul_le_mul_right this h0
                have hne : qv.blk ≠ q.blk := h.sep vb b (0, vb) (1, f) qv q (by rw [tag_cells hd]; simp) (by rw [tag_cells hc]; simp [g5]) (by simp) hLv hL (.inr (by omega))
                have hvsz : vo + sz ≤ ds.length := by simp at hnl; omega
                obtain ⟨ncl, nv, nl, nc⟩ := hqv2.seg (o := vo) (n := sz) hvsz
                have him : i * sz ≤ n * sz := Nat.mul_le_mul_right _ g4
                have hsub : (n - i) * sz = n * sz - i * sz := Nat.sub_mul _ _ _
                obtain ⟨tcl, tv, tl, tc⟩ := hq2.seg (o := i * sz) (n := (n - i) * sz) (by omega)
                rw [List.take_of_length_le (by simp; omega)] at tv
                have hnone := allOne_vrs nv hone.1
                have htone := allOne_vrs tv (allOne_drop _ hone.2)
                have hnewl : ((ds.drop vo).take sz).length = sz := by simp; omega
                have eS : Nat.mul i sz = i * sz := rfl
                have hsn : (n + 1) * sz = n * sz + sz := Nat.succ_mul _ _
                have hsi : (i + 1) * sz = i * sz + sz := Nat.succ_mul _ _
                have hfinl : (cs.take (i * sz) ++ ((ds.drop vo).take sz ++ cs.drop (i * sz))).length = (n + 1) * sz := by
                  rw [List.length_append, List.length_append, hnewl]
                  simp
                  omega
                have hAlt : q.blk < w.heap.size := (Array.getElem?_eq_some_iff.1 hA).1
                have key : ∀ (ln : Loc) (w' : World), Goes P base ρ s w (ρ.set s.next ln) (insSt s b e' f (cs.take (i * sz) ++ ((ds.drop vo).take sz ++ cs.drop (i * sz)))) w' →
                    ∃ c ρ', Ending.returned (.slice (some ⟨ln.blk, ln.off, none⟩) (n + 1) ln.cap) = .returned c ∧ Goes P base ρ s w ρ' (insSt s b e' f (cs.take (i * sz) ++ ((ds.drop vo).take sz ++ cs.drop (i * sz)))) w' ∧ VR ρ' (.slice (some ⟨s.next, 0, none⟩) (Nat.succ n) bigCap) c := by
                  intro ln w' hgo
                  have kv := VR.slice (ρ := ρ.set s.next ln) (b := s.next) (o := 0) (n := n + 1) (c := bigCap) (l := ln) (by rw [Ren.at_of h.next, Ren.set_same])
                  rw [show capOf ln bigCap = ln.cap from capOf_big ln.blk ln.off ln.cap] at kv
                  exact ⟨_, _, rfl, hgo, kv⟩
                rcases Nat.lt_or_ge i n with hin | hin
                · by_cases hfit : n + 1 ≤ q.cap
                  ·
                    have hbig : q.off + (n + 1) * sz ≤ A.size := by
                      have : (n + 1) * sz ≤ q.cap * sz := Nat.mul_le_mul_right _ hfit
                      omega
                    have hcp := run_copy_cells (P := P) (w := w.drew) hu hsz it (g := q.blk) (off := q.off + (i + 1) * sz) (dLen := n - i) (dCap := q.cap - (i + 1)) (sb := q.blk) (so := q.off + i * sz) (sLen := n + 1 - i) (sCap := q.cap - i) (m := n - i) (Nat.min_eq_right (by omega)) (cur := A) hA (hfz g7) (cl := tcl) tl (fun j v hj => tc j v hj) (by omega) htone
                    have hA2 : ((w.drew).setRow q.blk (spl A (q.off + (i + 1) * sz) tcl)).heap[q.blk]? = some (.cells (spl A (q.off + (i + 1) * sz) tcl) e' fz) := setRow_heap _ _ _ _ _ _ hA
                    have hs1 : (spl A (q.off + (i + 1) * sz) tcl).size = A.size := spl_size (by omega)
                    have hcp2 := run_copy_cells (P := P) (w := (w.drew).setRow q.blk (spl A (q.off + (i + 1) * sz) tcl)) hu hsz it (g := q.blk) (off := q.off + i * sz) (dLen := n + 1 - i) (dCap := q.cap - i) (sb := qv.blk) (so := qv.off + vo) (sLen := 1) (sCap := capOf qv uc) (m := 1) (Nat.min_eq_left (by omega)) hA2 (fun k hk => hfz g7 k (by omega)) (cl := ncl) (by omega) (fun j v hj => by rw [cell_setRow_other _ _ _ _ (by exact hne)]; exact nc j v hj) (by omega) hnone
                    have hov : Sem.run P (callFunc OV #[.slice (some ⟨qv.blk, qv.off + vo, none⟩) 1 (capOf qv uc), .slice (some ⟨q.blk, q.off + (i + 1) * sz, none⟩) (n - i) (q.cap - (i + 1))]) w = .ok (.value (.bool false)) w := by
                      rw [run_ext hx ho, run_overlaps hps hu hsz g11 (by omega) (by omega) hne hAv (hfzv g8 _ (by omega)) (hvend g8) hA (by omega)]
                      rfl
                    refine (hW.place q.blk q.off n q.cap i qv.blk (qv.off + vo) (capOf qv uc) w _ _ _ _ hin hfit (by omega) hov hcp hcp2).mono ?_
                    rintro x w' ⟨rfl, rfl⟩
                    refine key q _ ?_
                    rw [setRow_setRow]
                    exact ins_place_goes (k := w.drawn + 1) h g7 hc g5 hL hsz hA (by show (spl (spl A (q.off + (i + 1) * sz) tcl) (q.off + i * sz) ncl).size = _; rw [spl_size (by omega)]; exact hs1) (ins_cells g4 g3 tv nv hnewl (fun j x _ hj => hvals j x hj) hbig) hsiz (by rw [hfinl]; exact Nat.mul_le_mul_right _ hfit)
                  ·
                    obtain ⟨ti, z, hi, hz, hzs, h1, h63, h48⟩ := growOk_some g12
                    obtain ⟨ti', hi', hs⟩ := size_info hsz
                    rw [hi] at hi'
                    cases hi'
                    subst hs
                    have hem : i + (n + 1 - i) = n + 1 := by omega
                    obtain ⟨ocl, ov, ol, oc⟩ := hq2.seg (o := 0) (n := i * ti.size) (by omega)
                    simp only [Nat.add_zero, List.drop_zero] at ov oc
                    have hold := run_loadCells_list (P := P) w.drew ⟨q.blk, q.off, none⟩ ocl (fun j v hj => by rw [add_eq]; exact oc j v hj)
                    rw [ol] at hold
                    have hnc := nextslicecap_le (need := n + 1) (old := q.cap) (by omega)
                    have hap := run_append_zeros (P := P) (w := w) hu hi hz hzs h1 hint t (b := ⟨q.blk, q.off, none⟩) (sLen := i) (sCap := q.cap) (m := n + 1 - i) hold (by omega) (by omega) (by omega)
                      (Nat.le_trans (Nat.mul_le_mul_right _ (by omega)) h48) (Nat.le_trans (Nat.mul_le_mul_right _ (by rw [hem]; exact hnc)) h48)
                    rw [hem, show ((n + 1 - i : Nat) : Int) = (n : Int) + 1 - i by omega] at hap
                    have hge := grownCap_ge w (n + 1) q.cap e'
                    generalize hG : grownCap w (n + 1) q.cap e' = G at hap hge
                    generalize hA0 : ((⟨ocl⟩ : Array Value) ++ Builtin.zeroCells z.cells (n + 1 - i) ++ Builtin.zeroCells z.cells (G - (n + 1))) = A0 at hap
                    have hzc : ∀ k, (Builtin.zeroCells z.cells k).size = k * ti.size := fun k => by simp [Builtin.zeroCells, hzs]
                    have hA0s : A0.size = G * ti.size := by
                      rw [← hA0, Array.size_append, Array.size_append, hzc, hzc, show (⟨ocl⟩ : Array Value).size = ocl.length from rfl, ol, ← Nat.add_mul, ← Nat.add_mul, show i + (n + 1 - i) + (G - (n + 1)) = G by omega]
                    have hA0l : ∀ j, j < ocl.length → A0[j]? = ocl[j]? := by
                      intro j hj
                      rw [← hA0, Array.getElem?_append_left (by simp [Array.size_append]; omega), Array.getElem?_append_left (by simpa using hj)]
                      simp
                    have hbig : (n + 1) * ti.size ≤ A0.size := by rw [hA0s]; exact Nat.mul_le_mul_right _ hge
                    have hz0 : ∀ (fz : Nat × Nat), fz = (0, 0) → ∀ (k m : Nat), k < m → ¬ (fz.1 ≤ k ∧ k < fz.2) := by
                      rintro fz rfl k m _ ⟨_, h⟩
                      exact absurd h (Nat.not_lt_zero _)
                    have hgh : ∀ (x : World) (B : Array Value), (x.alloc (.cells B e')).heap[x.heap.size]? = some (.cells B e' (0, 0)) := fun x B => alloc_at x _
                    have hcp := run_copy_cells (P := P) (w := w.drew.alloc (.cells A0 e')) hu hsz it (g := w.heap.size) (off := i * ti.size) (dLen := n + 1 - i) (dCap := G - i) (sb := qv.blk) (so := qv.off + vo) (sLen := 1) (sCap := capOf qv uc) (m := 1) (Nat.min_eq_left (by omega))
                      (hgh w.drew A0) (fun k hk => hz0 _ rfl k _ hk) (cl := ncl) (by omega) (fun j v hj => cell_push _ _ (nc j v hj)) (by omega) hnone
                    have e1 : (w.drew.alloc (.cells A0 e')).setRow w.heap.size (spl A0 (i * ti.size) ncl) = w.drew.alloc (.cells (spl A0 (i * ti.size) ncl) e') := alloc_setRow w.drew _ _ _
                    have hcp : Sem.run P (Builtin.copy_ #[t, t] it #[.slice (some ⟨w.heap.size, i * ti.size, none⟩) (n + 1 - i) (G - i), .slice (some ⟨qv.blk, qv.off + vo, none⟩) 1 (capOf qv uc)]) (w.drew.alloc (.cells A0 e')) = .ok (goInt 1) (w.drew.alloc (.cells (spl A0 (i * ti.size) ncl) e')) := by
                      rw [← e1]; exact hcp
                    have hs1 : (spl A0 (i * ti.size) ncl).size = A0.size := spl_size (by omega)
                    have hcp2 := run_copy_cells (P := P) (w := w.drew.drew.alloc (.cells (spl A0 (i * ti.size) ncl) e')) hu hsz it (g := w.heap.size) (off := (i + 1) * ti.size) (dLen := n - i) (dCap := G - (i + 1)) (sb := q.blk) (so := q.off + i * ti.size) (sLen := n - i) (sCap := q.cap - i) (m := n - i) (Nat.min_self _)
                      (hgh w.drew.drew _) (fun k hk => hz0 _ rfl k _ hk) (cl := tcl) tl (fun j v hj => cell_push _ _ (tc j v hj)) (by omega) htone
                    have e2 : (w.drew.drew.alloc (.cells (spl A0 (i * ti.size) ncl) e')).setRow w.heap.size (spl (spl A0 (i * ti.size) ncl) ((i + 1) * ti.size) tcl) = w.drew.drew.alloc (.cells (spl (spl A0 (i * ti.size) ncl) ((i + 1) * ti.size) tcl) e') := alloc_setRow w.drew.drew _ _ _
                    have hcp2 : Sem.run P (Builtin.copy_ #[t, t] it #[.slice (some ⟨w.heap.size, (i + 1) * ti.size, none⟩) (n - i) (G - (i + 1)), .slice (some ⟨q.blk, q.off + i * ti.size, none⟩) (n - i) (q.cap - i)]) (w.drew.alloc (.cells (spl A0 (i * ti.size) ncl) e')).drew = .ok (goInt ((n - i : Nat) : Int)) (w.drew.drew.alloc (.cells (spl (spl A0 (i * ti.size) ncl) ((i + 1) * ti.size) tcl) e')) := by
                      rw [← e2]; exact hcp2
                    refine (hW.grow q.blk q.off n q.cap i qv.blk (qv.off + vo) (capOf qv uc) w.heap.size G w _ _ _ _ _ hin hK (by omega) (by omega) hge hap hcp hcp2).mono ?_
                    rintro x w' ⟨rfl, rfl⟩
                    refine key ⟨w.heap.size, 0, G⟩ _ ?_
                    have hsc := spl_comm (A := A0) (o1 := i * ti.size) (o2 := (i + 1) * ti.size) (l1 := ncl) (l2 := tcl) (by omega) (by omega)
                    rw [hsc]
                    have hcells := ins_cells (A := A0) (off := 0) g4 g3 tv nv hnewl (fun j x hj hx => by
                      have hx' : (cs.take (i * ti.size))[j]? = some x := by rw [List.getElem?_take, if_pos hj]; exact hx
                      obtain ⟨y, hy, hv⟩ := ov.get hx'
                      refine ⟨y, ?_, hv⟩
                      rw [Nat.zero_add, hA0l j (by omega)]
                      exact hy) (by omega)
                    simp only [Nat.zero_add] at hcells
                    exact ins_grow_goes (k := w.drawn + 1 + 1) h hc g5 hsz h0 hcells (by rw [spl_size (by rw [spl_size (by omega)]; omega), spl_size (by omega)]; exact hA0s) (by rw [hfinl, ← hA0s]; exact hbig)
                · have hin : i = n := by omega
                  subst hin
                  have hdrop : cs.drop (i * sz) = [] := List.drop_of_length_le (by omega)
                  have htake : cs.take (i * sz) = cs := List.take_of_length_le (by omega)
                  have hlenv : ∀ w : World, (Builtin.lenOf (.slice (some ⟨qv.blk, qv.off + vo, none⟩) 1 (capOf qv uc))).run P w = .ok 1 w := fun w => rfl
                  have hnewr : ∀ w' : World, (∀ (j : Nat) (v : Value), ncl[j]? = some v → w'.cell? ⟨qv.blk, qv.off + vo + j, none⟩ = some v) → (Builtin.firstCells sz 1 (.slice (some ⟨qv.blk, qv.off + vo, none⟩) 1 (capOf qv uc))).run P w' = .ok ⟨ncl⟩ w' := by
                    intro w' hcl
                    have := run_loadCells_list (P := P) w' ⟨qv.blk, qv.off + vo, none⟩ ncl (fun j v hj => by rw [add_eq]; exact hcl j v hj)
                    rw [nl] at this
                    simp only [Builtin.firstCells, Nat.one_mul]
                    exact this
                  by_cases hfit : i + 1 ≤ q.cap
                  · obtain ⟨ti, hi, hs⟩ := size_info hsz
                    have hbig : q.off + (i + 1) * sz ≤ A.size := by
                      have : (i + 1) * sz ≤ q.cap * sz := Nat.mul_le_mul_right _ hfit
                      omega
                    have hst := run_storeCells_gen P q.blk (q.off + i * sz) e' fz ncl 0 A w hA (by omega) (hfz g7) hnone
                    simp only [Nat.add_zero] at hst
                    have hap := run_append_fit (P := P) (w := w) (w' := w.setRow q.blk (spl A (q.off + i * sz) ncl)) (ts := #[t, t]) (ty := t) rfl hu hi hni (b := some ⟨q.blk, q.off, none⟩) (sLen := i) (sCap := q.cap) (hlenv w) (by rw [hs]; exact hnewr w nc) hfit
                      (fun a ha => by cases ha; rw [add_eq, hs]; exact hst) (fun e => by cases e)
                    refine (hW.fin q.blk q.off i q.cap qv.blk (qv.off + vo) (capOf qv uc) w _ _ hap).mono ?_
                    rintro x w' ⟨rfl, rfl⟩
                    refine key q _ ?_
                    have hcells := ins_cells (A := A) (off := q.off) (tcl := []) g4 g3 (by rw [hdrop]; exact .nil) nv hnewl (fun j x _ hj => hvals j x hj) hbig
                    rw [spl_nil] at hcells
                    exact ins_place_goes (k := w.drawn) h g7 hc g5 hL hsz hA (spl_size (by omega)) hcells hsiz (by rw [hfinl]; exact Nat.mul_le_mul_right _ hfit)
                  · obtain ⟨ocl, ov, ol, oc⟩ := hq2.seg (o := 0) (n := i * sz) (by omega)
                    simp only [Nat.add_zero, List.drop_zero, htake] at ov oc
                    have hold := run_loadCells_list (P := P) w.drew ⟨q.blk, q.off, none⟩ ocl (fun j v hj => by rw [add_eq]; exact oc j v hj)
                    rw [ol] at hold
                    obtain ⟨arr, cp, hap, _, hsz2, hle2, hcells⟩ := append_more (P := P) (w := w) (ts := #[t, t]) (ty := t) rfl hu hsz hni (b := some ⟨q.blk, q.off, none⟩) (sLen := i) (sCap := q.cap) (n := 1) g12 (hlenv w) (old := cs) (by simp only [Builtin.firstCells]; exact hold) ov g3 (hnewr w.drew (fun j v hj => nc j v hj)) nv (by omega) (by omega)
                    refine (hW.fin q.blk q.off i q.cap qv.blk (qv.off + vo) (capOf qv uc) w _ _ hap).mono ?_
                    rintro x w' ⟨rfl, rfl⟩
                    refine key ⟨w.heap.size, 0, cp⟩ _ ?_
                    rw [hdrop, htake, List.append_nil]
                    exact ins_grow_goes (k := w.drawn + 1) h hc g5 hsz h0 hcells hsz2 hle2
  · cases hv
end Go.Ax
namespace Go.Ax
variable [Lo]
open Go
section
variable {P : Program} {base : Nat} {ρ ρ' : Ren} {s s' s1 : St} {w w' : World}
theorem flat_eq {v c : Value} (h : flatOne v = true) (hv : VR ρ v c) : c = v := by
  cases hv <;> first | rfl | (exact Bool.noConfusion (show false = true from h))
theorem flat_vr (ρ : Ren) {v : Value} (h : flatOne v = true) : VR ρ v v := by
  cases v <;> first | exact .bool _ | exact .int _ _ | exact .string _ | (exact Bool.noConfusion (show false = true from h))
theorem flatAll_get : ∀ {l : List Value}, flatAll l = true → ∀ {j : Nat} {v : Value}, l[j]? = some v → flatOne v = true
  | [], _, j, v, hj => by simp at hj
  | a :: l, h, j, v, hj => by
    change sel (flatOne a) (flatAll l) false = true at h
    rw [sel_eq] at h
    split at h
    · rename_i ha
      cases j with
      | zero => simp at hj; subst hj; exact ha
      | succ j => simp at hj; exact flatAll_get h hj
    · cases h
noncomputable def oneSt (cs : List Value) (t : TypeId) : St := { heap := Hp.set (.s 15 0) 64 (.row cs t 0), fams := .s 15 0, next := 65 }
def oneRen (l : Loc) : Ren := fun i => if i = 64 then some l else none
theorem oneSt_get (cs : List Value) (t : TypeId) (i : Nat) : (oneSt cs t).heap.get i = if i = 64 then some (.row cs t 0) else none := by
  show (Hp.set (Hp.s 15 0) 64 (Row.row cs t 0)).get i = _
  rw [Hp.get_set, Hp.get_s]
theorem oneSt_tag {cs : List Value} {t : TypeId} {i : Nat} {a : Nat × Nat} (h : (oneSt cs t).tag i = some a) : i = 64 ∧ a = (0, 64) := by
  unfold St.tag at h
  rw [oneSt_get] at h
  by_cases hi : i = 64
  · rw [if_pos hi] at h
    simp at h
    exact ⟨hi, by rw [← h, hi]⟩
  · rw [if_neg hi] at h; cases h
theorem one_hr (h : HR P base ρ s w) {b : Nat} {cs : List Value} {t : TypeId} (hb : fixedTop ≤ b) (hc : s.cells b = some (cs, t, 0)) (hf : flatAll cs = true) : ∃ l, ρ b = some l ∧ l.off = 0 ∧ HR P base (oneRen l) (oneSt cs t) w := by
  obtain ⟨l, hrow⟩ := h.rows b _ _ _ hc
  have hl : ρ b = some l := by rw [← Ren.at_of (ρ := ρ) hb]; exact hrow.at_
  obtain ⟨d1, d2, d3, d4⟩ := h.dom b l hl
  have hl0 : l.off = 0 := by
    obtain ⟨_, a, fz, _, _, _, h0, _⟩ := hrow
    exact (h0 rfl).1
  refine ⟨l, hl, hl0, ⟨fun i q hi => ?_, by show 64 ≤ 65; omega, h.base_le, fun i hi ht => ?_, fun i r hi => ?_, fun i cs1 e1 f1 hi => ?_, fun i cs1 e1 f1 hi => ?_, fun i es c hi => ?_, fun i r hi => ?_, fun i j x y u v hi hj hxy hu hv => ?_⟩⟩
  · unfold oneRen at hi
    split at hi
    · rename_i e; cases hi; subst e; exact ⟨by decide, by show 64 < 65; omega, d3, d4⟩
    · cases hi
  · cases ht' : (oneSt cs t).tag i with
    | none => exact absurd ht' ht
    | some a =>
      have := (oneSt_tag ht').1
      have : fixedTop = 64 := rfl
      omega
  · rw [oneSt_get] at hi
    split at hi
    · rename_i e; subst e; show 64 < 65; omega
    · cases hi
  · rw [oneSt_get] at hi
    split at hi
    · cases hi; show 0 < 65; omega
    · cases hi
  · obtain ⟨h1, _⟩ := cells_some.1 hi
    rw [oneSt_get] at h1
    split at h1
    · rename_i e
      subst e
      cases h1
      obtain ⟨hat, a, fz, ha, hv, hz, h0, h1⟩ := hrow
      refine ⟨l, ?_, a, fz, ha.imp fun _ h => ⟨h.1, fun _ => h.2 (.inl rfl)⟩, fun j x hj => ?_, fun _ => hz hb, fun _ => ?_, fun hn => absurd rfl hn⟩
      · show (oneRen l).at 64 = some l
        rw [Ren.at_of (by decide)]; rfl
      · obtain ⟨y, hy, hxy⟩ := hv j x hj
        have hfl := flatAll_get hf hj
        rw [flat_eq hfl hxy] at hy
        exact ⟨x, hy, flat_vr _ hfl⟩
      · obtain ⟨q1, q2, q3⟩ := h0 rfl
        exact ⟨q1, q2, fun _ => q3 hb⟩
    · cases h1
  · rw [oneSt_get] at hi
    split at hi <;> cases hi
  · rw [oneSt_get] at hi
    split at hi <;> cases hi
  · obtain ⟨_, rfl⟩ := oneSt_tag hi
    obtain ⟨_, rfl⟩ := oneSt_tag hj
    exact absurd rfl hxy
theorem putRow0 (s : St) (b : Nat) (cs : List Value) (t : TypeId) : putRow s b cs t 0 = { heap := s.heap.set b (.row cs t 0), fams := s.fams, next := s.next } := rfl
theorem one_goes (h : HR P base ρ s w) {b : Nat} {cs cs' : List Value} {t : TypeId} {l : Loc} (hb : fixedTop ≤ b) (hc : s.cells b = some (cs, t, 0)) (hl : ρ b = some l)
    (hg : Goes P base (oneRen l) (oneSt cs t) w ρ' s1 w') (hc1 : s1.cells 64 = some (cs', t, 0)) (hf : flatAll cs' = true) : Goes P base ρ s w ρ (putRow s b cs' t 0) w' := by
  rw [putRow0]
  obtain ⟨hg1, _⟩ := cells_some.1 hc
  have htb : s.tag b = some (0, b) := tag_cells hc
  have hlat : ρ.at b = some l := by rw [Ren.at_of hb]; exact hl
  have htb' : ({ heap := s.heap.set b (.row cs' t 0), fams := s.fams, next := s.next } : St).tag b = some (0, b) := by
    unfold St.tag; simp [Hp.get_set_same]
  have htag : ∀ i, ({ heap := s.heap.set b (.row cs' t 0), fams := s.fams, next := s.next } : St).tag i = s.tag i := by
    intro i
    by_cases hi : i = b
    · subst hi; rw [htb', htb]
    · exact tag_set_other (n := s.next) hi
  have hne : ∀ i q x, i ≠ b → s.tag i = some x → ρ.at i = some q → q.blk ≠ l.blk := by
    intro i q x hi hx hq
    refine h.sep i b x (0, b) q l hx htb ?_ hq hlat (.inr hb)
    rintro rfl
    unfold St.tag at hx
    split at hx
    · split at hx
      · simp at hx; exact hi hx
      · split at hx
        · split at hx <;> simp at hx
        · cases hx
    · simp at hx; exact hi hx
    · simp at hx; exact hi hx
    · cases hx
  have hold : ∀ i q x, i ≠ b → s.tag i = some x → ρ.at i = some q → w'.heap[q.blk]? = w.heap[q.blk]? := by
    intro i q x hi hx hq
    refine hg.frame _ (h.blk_lt hx hq) ?_
    rintro ⟨j, u, y, _, hy, hu, e⟩
    obtain ⟨rfl, _⟩ := oneSt_tag hy
    have hu : some l = some u := hu
    cases hu
    exact hne i q x hi hx hq e.symm
  have hl1 : ρ'.at 64 = some l := by
    rw [Ren.at_of (by decide), hg.old 64 (by show 64 < 65; omega)]; rfl
  refine ⟨Ren.le_refl ρ, ⟨fun i q hi => ?_, h.next, Nat.le_trans h.base_le hg.grow, fun i hi ht => ?_, fun i r hi => ?_, fun i cs1 e1 f1 hi => ?_, fun i cs1 e1 f1 hi => ?_, fun i es c hi => ?_, fun i r hi => ?_, fun i j x y u v hi hj hxy hu hv => ?_⟩, hg.os, hg.tape, hg.output, hg.grow, Nat.le_refl _, fun k hk ho => ?_, fun k ho => ?_, fun _ _ => rfl⟩
  · obtain ⟨a, b, c, d⟩ := h.dom i q hi
    exact ⟨a, b, c, Nat.lt_of_lt_of_le d hg.grow⟩
  · rw [htag] at ht; exact h.low i hi ht
  · by_cases hi' : i = b
    · subst hi'; exact h.heap_dom i _ hg1
    · simp only [Hp.get_set_other _ _ hi'] at hi; exact h.heap_dom i r hi
  · by_cases hi' : i = b
    · subst hi'
      simp only [Hp.get_set_same] at hi
      cases hi
      exact h.fam_dom i _ _ _ hg1
    · simp only [Hp.get_set_other _ _ hi'] at hi; exact h.fam_dom i _ _ _ hi
  · by_cases hi' : i = b
    · subst hi'
      obtain ⟨h1, _⟩ := cells_some.1 hi
      simp only [Hp.get_set_same] at h1
      cases h1
      obtain ⟨l', hat, a, fz, ha, hv, hz, h0, h1⟩ := hg.hr.rows 64 _ _ _ hc1
      rw [hl1] at hat
      cases hat
      refine ⟨l, hlat, a, fz, ha.imp fun _ h => ⟨h.1, fun _ => h.2 (.inl rfl)⟩, fun j x hj => ?_, fun _ => hz (by decide), fun _ => ?_, fun hn => absurd rfl hn⟩
      · obtain ⟨y, hy, hxy⟩ := hv j x hj
        have hfl := flatAll_get hf hj
        rw [flat_eq hfl hxy] at hy
        exact ⟨x, hy, flat_vr _ hfl⟩
      · obtain ⟨q1, q2, q3⟩ := h0 rfl
        exact ⟨q1, q2, fun _ => q3 (by decide)⟩
    · have hi2 : s.cells i = some (cs1, e1, f1) := (cells_set_other (n := s.next) hi') ▸ hi
      obtain ⟨q, hq⟩ := h.rows i cs1 e1 f1 hi2
      exact ⟨q, hq.move (Ren.le_refl ρ) (hold i q _ hi' (tag_cells hi2) hq.at_)⟩
  · by_cases hi' : i = b
    · subst hi'; simp only [Hp.get_set_same] at hi; cases hi
    · simp only [Hp.get_set_other _ _ hi'] at hi
      obtain ⟨q, hq, es', h1, h2⟩ := h.maps i es c hi
      exact ⟨q, hq, es', by rw [hold i q _ hi' (tag_map hi) (by rw [Ren.at_of (h.dom i q hq).1]; exact hq)]; exact h1, h2⟩
  · by_cases hi' : i = b
    · subst hi'; simp only [Hp.get_set_same] at hi; cases hi
    · simp only [Hp.get_set_other _ _ hi'] at hi
      obtain ⟨q, hq, q', h1, h2⟩ := h.loops i r hi
      exact ⟨q, hq, q', by rw [hold i q _ hi' (tag_loop hi) (by rw [Ren.at_of (h.dom i q hq).1]; exact hq)]; exact h1, h2⟩
  · rw [htag] at hi hj
    exact h.sep i j x y u v hi hj hxy hu hv
  · refine hg.frame k hk ?_
    rintro ⟨j, u, y, _, hy, hu, e⟩
    obtain ⟨rfl, _⟩ := oneSt_tag hy
    have hu : some l = some u := hu
    cases hu
    exact ho ⟨b, l, _, hb, htb, hl, e⟩
  · left
    obtain ⟨i, q, x, h1, h2, h3, h4⟩ := ho
    rw [htag] at h2
    exact ⟨i, q, x, h1, h2, h3, h4⟩
theorem flatAll_vrs (ρ' : Ren) : ∀ {l c : List Value}, flatAll l = true → VRs ρ l c → VRs ρ' l c
  | [], _, _, .nil => .nil
  | a :: l, _, h, .cons hv hl => by
    change sel (flatOne a) (flatAll l) false = true at h
    rw [sel_eq] at h
    split at h
    · rename_i ha
      exact .cons (by rw [flat_eq ha hv]; exact flat_vr ρ' ha) (flatAll_vrs ρ' h hl)
    · cases h
theorem freeV_vr (ρ' : Ren) {v c : Value} (h : freeV v = true) (hv : VR ρ v c) : VR ρ' v c := by
  cases hv with
  | agg hl => exact .agg (flatAll_vrs ρ' h hl)
  | tuple hl => exact .tuple (flatAll_vrs ρ' h hl)
  | bool b => exact .bool b
  | int k n => exact .int k n
  | string s => exact .string s
  | _ => exact Bool.noConfusion (show false = true from h)
theorem freeAll_vrs (ρ' : Ren) : ∀ {l c : List Value}, freeAll l = true → VRs ρ l c → VRs ρ' l c
  | [], _, _, .nil => .nil
  | a :: l, _, h, .cons hv hl => by
    change sel (freeV a) (freeAll l) false = true at h
    rw [sel_eq] at h
    split at h
    · rename_i ha
      exact .cons (freeV_vr ρ' ha hv) (freeAll_vrs ρ' h hl)
    · cases h
noncomputable def reloc (v : Value) : Option (Nat × Value) :=
  match v with
  | .pointer (some a) => guard a.spot.isNone (some (a.block, .pointer (some ⟨64, a.off, none⟩)))
  | .slice (some a) n c => guard (a.spot.isNone && !Nat.beq a.block deadId) (some (a.block, .slice (some ⟨64, a.off, none⟩) n c))
  | _ => none
theorem reloc_vr {v c x : Value} {b : Nat} {l : Loc} (h : reloc v = some (b, x)) (hb : fixedTop ≤ b) (hl : ρ b = some l) (hv : VR ρ v c) : VR (oneRen l) x c := by
  have hl1 : (oneRen l).at 64 = some l := by rw [Ren.at_of (by decide)]; rfl
  cases hv with
  | @ptr b' o l' hl' =>
    obtain ⟨_, h⟩ := guard_some.1 (show guard true (some (b', Value.pointer (some ⟨64, o, none⟩))) = some (b, x) from h)
    cases h
    rw [Ren.at_of (ρ := ρ) hb, hl] at hl'
    cases hl'
    exact .ptr hl1
  | @slice b' o n c l' hl' =>
    obtain ⟨_, h⟩ := guard_some.1 (show guard (true && !Nat.beq b' deadId) (some (b', Value.slice (some ⟨64, o, none⟩) n c)) = some (b, x) from h)
    cases h
    rw [Ren.at_of (ρ := ρ) hb, hl] at hl'
    cases hl'
    exact .slice hl1
  | dead a c =>
    have h : (none : Option (Nat × Value)) = some (b, x) := h
    cases h
  | _ => cases h
noncomputable def conOne (G : Value → List Value → Option (Value × List Value)) (s : St) (args : List Value) : Option (Value × St) :=
  match args with
  | [x] => obind (reloc x) fun q => guard (Nat.ble fixedTop q.1) (obind (s.cells q.1) fun c => guard (Nat.beq c.2.2 0 && flatAll c.1) (obind (G q.2 c.1) fun r => guard (freeV r.1 && flatAll r.2) (some (r.1, putRow s q.1 r.2 c.2.1 0))))
  | _ => none
theorem conOne_sound {C : Cfg} (hK : CfgOk C P) {n : Nat} {f : FuncId} {G : Value → List Value → Option (Value × List Value)}
    (hrun : ∀ x cs t r, flatAll cs = true → G x cs = some r → ∃ s1, (runN C n).1 f [x] (oneSt cs t) = some (r.1, s1) ∧ s1.cells 64 = some (r.2, t, 0))
    {args : List Value} {v : Value} (hv : conOne G s args = some (v, s')) {cargs : List Value} (hr : HR P base ρ s w) (ha : VRs ρ args cargs) :
    Calls P f ⟨cargs⟩ w fun e w' => ∃ c ρ', e = .returned c ∧ Goes P base ρ s w ρ' s' w' ∧ VR ρ' v c := by
  unfold conOne at hv
  split at hv
  · rename_i x
    obtain ⟨⟨b, y⟩, hq, hv⟩ := obind_some.1 hv
    obtain ⟨hb, hv⟩ := guard_some.1 hv
    obtain ⟨⟨cs, t, fm⟩, hc, hv⟩ := obind_some.1 hv
    obtain ⟨h0, hv⟩ := guard_some.1 hv
    obtain ⟨⟨r, cs'⟩, hG, hv⟩ := obind_some.1 hv
    obtain ⟨hfr, hv⟩ := guard_some.1 hv
    simp only [Bool.and_eq_true] at h0 hfr
    have hfm : fm = 0 := Nat.eq_of_beq_eq_true h0.1
    subst hfm
    cases hv
    have hb : fixedTop ≤ b := Nat.le_of_ble_eq_true hb
    obtain ⟨l, hl, _, hone⟩ := one_hr hr hb hc h0.2
    obtain ⟨s1, hrun1, hc1⟩ := hrun y cs t (r, cs') h0.2 hG
    cases ha with
    | cons h1 h2 => cases h2 with
      | nil =>
        refine ((runN_ok hK n).1 f [y] _ _ s1 hrun1 base _ w _ hone (.cons (reloc_vr hq hb hl h1) .nil)).mono ?_
        rintro e w' ⟨c, ρ', rfl, hg, hvc⟩
        exact ⟨c, ρ, rfl, one_goes hr hb hc hl hg hc1 hfr.2, freeV_vr ρ hfr.1 hvc⟩
  · cases hv
noncomputable def noneSt : St := St.mk (.s 15 0) (.s 15 0) 64
theorem noneSt_tag (i : Nat) : noneSt.tag i = none := by
  unfold St.tag
  have : noneSt.heap.get i = none := Hp.get_s ..
  rw [this]
theorem none_hr (P : Program) (W : World) : HR P W.heap.size (fun _ => none) noneSt W where
  dom := fun _ _ h => by cases h
  next := Nat.le_refl 64
  base_le := Nat.le_refl _
  low := fun i _ h => absurd (noneSt_tag i) h
  heap_dom := fun i r h => by rw [show noneSt.heap.get i = none from Hp.get_s ..] at h; cases h
  fam_dom := fun i cs e f h => by rw [show noneSt.heap.get i = none from Hp.get_s ..] at h; cases h
  rows := fun i cs e f h => by
    obtain ⟨h1, _⟩ := cells_some.1 h
    rw [show noneSt.heap.get i = none from Hp.get_s ..] at h1; cases h1
  maps := fun i es c h => by rw [show noneSt.heap.get i = none from Hp.get_s ..] at h; cases h
  loops := fun i r h => by rw [show noneSt.heap.get i = none from Hp.get_s ..] at h; cases h
  sep := fun i j a b l l' hi _ _ _ _ => by rw [noneSt_tag] at hi; cases hi
theorem Goes.of_below' (h : HR P base ρ s w) (hb : RowKit.Below w.heap.size w w') : Goes P base ρ s w ρ s w' := by
  refine ⟨Ren.le_refl ρ, ?_, hb.os, hb.tape, hb.output, hb.size, Nat.le_refl _, fun b hlt _ => hb.block b hlt, fun b ho => .inl ho, fun _ _ => rfl⟩
  refine ⟨fun i l hl => ?_, h.next, Nat.le_trans h.base_le hb.size, h.low, h.heap_dom, h.fam_dom, fun i cs e f hc => ?_, fun i es c hi => ?_, fun i r hi => ?_, h.sep⟩
  · obtain ⟨a, b, c, d⟩ := h.dom i l hl
    exact ⟨a, b, c, Nat.lt_of_lt_of_le d hb.size⟩
  · obtain ⟨l, hq⟩ := h.rows i cs e f hc
    exact ⟨l, hq.move (Ren.le_refl ρ) (hb.block _ (h.blk_lt (tag_cells hc) hq.at_))⟩
  · obtain ⟨l, hl, es', h1, h2⟩ := h.maps i es c hi
    exact ⟨l, hl, es', by rw [hb.block _ (h.dom i l hl).2.2.2]; exact h1, h2⟩
  · obtain ⟨l, hl, q, h1, h2⟩ := h.loops i r hi
    exact ⟨l, hl, q, by rw [hb.block _ (h.dom i l hl).2.2.2]; exact h1, h2⟩
theorem conPure_sound {C : Cfg} (hK : CfgOk C P) {n : Nat} {f : FuncId} {G : List Value → Option Value}
    (hrun : ∀ args v, freeAll args = true → G args = some v → ∃ s1, (runN C n).1 f args noneSt = some (v, s1))
    {args : List Value} {v : Value} (hv : conPure G s args = some (v, s')) {cargs : List Value} (hr : HR P base ρ s w) (ha : VRs ρ args cargs) :
    Calls P f ⟨cargs⟩ w fun e w' => ∃ c ρ', e = .returned c ∧ Goes P base ρ s w ρ' s' w' ∧ VR ρ' v c := by
  unfold conPure conPureV at hv
  obtain ⟨u, hu, hv⟩ := obind_some.1 hv
  cases hv
  obtain ⟨hf, hv⟩ := guard_some.1 hu
  obtain ⟨u, hG, hv⟩ := obind_some.1 hv
  obtain ⟨hfv, hv⟩ := guard_some.1 hv
  cases hv
  obtain ⟨s1, hrun1⟩ := hrun args v hf hG
  refine ((runN_ok hK n).1 f args _ _ s1 hrun1 w.heap.size _ w _ (none_hr P w) (freeAll_vrs _ hf ha)).mono ?_
  rintro e w' ⟨c, ρ', rfl, hg, hvc⟩
  exact ⟨c, ρ, rfl, Goes.of_below' hr (hg.below (none_hr P w)), freeV_vr ρ hfv hvc⟩
theorem memo_hrun {C : Cfg} {n : Nat} {f : FuncId} {T : List (List Value × Value)} (h : ∀ p ∈ T, ∃ s1, (runN C n).1 f p.1 noneSt = some (p.2, s1)) :
    ∀ args v, freeAll args = true → memoG T args = some v → ∃ s1, (runN C n).1 f args noneSt = some (v, s1) := by
  intro args v _ hm
  induction T with
  | nil => cases hm
  | cons p T ih =>
    have hm : sel (sameL (sameV 4) p.1 args) (some p.2) (memoG T args) = some v := hm
    rw [sel_eq] at hm
    split at hm
    · rename_i hs
      cases hm
      rw [← sameL_eq (fun a b => sameV_eq 4) hs]
      exact h p List.mem_cons_self
    · exact ih (fun q hq => h q (List.mem_cons_of_mem _ hq)) hm
end
end Go.Ax
namespace Go.Ax
open Go
noncomputable section
inductive Box (α : Type) where
  | mk (x : α)
  | bad
def bbind {α β : Type} (b : Box α) (k : α → Box β) : Box β := Box.rec k .bad b
def bor {α : Type} (b c : Box α) : Box α := Box.rec .mk c b
structure JE where
  call : CallT
  yield : YieldT
  base : Nat
  pend : List Pend
  cl : Bool
abbrev Loc' := List (Nat × Value)
abbrev Dfs := List (FuncId × List Value)
abbrev JK := JE → Tr Value → Loc' → Dfs → St → Option (Fr × St)
abbrev JV := Tr Value → Loc' → St → Option Value
abbrev JG := Tr Value → Loc' → Option Value
abbrev JRun := CallT → YieldT → Fr → St → Out
def jGetP {α : Type} : Path → Box (Tr α → Option α) := fun p =>
  List.rec (.mk fun t => Tr.rec none (fun v _ _ _ _ => v) t)
    (fun b _ ih => bbind ih fun g => Bool.rec (.mk fun t => Tr.rec none (fun _ x _ _ _ => g x) t) (.mk fun t => Tr.rec none (fun _ _ y _ _ => g y) t) b) p
def jSetP {α : Type} : Path → Box (α → Tr α → Tr α) := fun p =>
  List.rec (.mk fun a t => Tr.rec (.n (some a) .e .e) (fun _ x y _ _ => .n (some a) x y) t)
    (fun b _ ih => bbind ih fun g => Bool.rec
      (.mk fun a t => Tr.rec (.n none (g a .e) .e) (fun v x y _ _ => .n v (g a x) y) t)
      (.mk fun a t => Tr.rec (.n none .e (g a .e)) (fun v x y _ _ => .n v x (g a y)) t) b) p
def jNth : Nat → Box (Loc' → Option Value) := fun k =>
  Nat.rec (.mk fun l => List.rec none (fun p _ _ => some p.2) l) (fun _ ih => bbind ih fun g => .mk fun l => List.rec none (fun _ t _ => g t) l) k
def posOf (t : Nat) : List Nat → Option Nat := fun l => List.rec none (fun a _ ih => sel (Nat.beq a t) (some 0) (obind ih fun k => some (Nat.succ k))) l
def jGet (n : Nat) (ks : List Nat) (x : Operand) : Box JG :=
  match x with
  | .tmp t => sel (ltN t n) (bbind (jGetP (path t)) fun g => .mk fun vars _ => g vars) (Option.casesOn (posOf t ks) (.mk fun _ _ => none) fun k => bbind (jNth k) fun g => .mk fun _ loc => g loc)
  | .const v => .mk fun _ _ => some v
  | .global g => .mk fun _ _ => some (ptr g 0)
  | .func f => .mk fun _ _ => some (.func (.func f) #[] #[])
def jGets (n : Nat) (ks : List Nat) : List Operand → Box (Tr Value → Loc' → Option (List Value)) := fun l =>
  List.rec (.mk fun _ _ => some []) (fun x _ ih => bbind (jGet n ks x) fun g => bbind ih fun r => .mk fun vars loc => obind (g vars loc) fun v => obind (r vars loc) fun vs => some (v :: vs)) l
abbrev JP := JK → JE → Value → Tr Value → Loc' → Dfs → St → Option (Fr × St)
def jPut (n : Nat) (dst : Option Tmp) : Box JP :=
  Option.casesOn dst (.mk fun r e _ vars loc ds s => r e vars loc ds s) fun d => sel (ltN d n) (bbind (jSetP (path d)) fun g => .mk fun r e v vars loc ds s => r e (g v vars) loc ds s) (.mk fun r e v vars loc ds s => r e vars ((d, v) :: loc) ds s)
def jPush (n : Nat) (dst : Option Tmp) (ks : List Nat) : List Nat := Option.casesOn dst ks fun d => sel (ltN d n) ks (d :: ks)
def forceN {β : Type} (n : Nat) (k : Nat → β) : β := Nat.rec (k 0) (fun m _ => k (Nat.succ m)) n
def forceI {β : Type} (z : Int) (k : Int → β) : β := Int.rec (fun n => forceN n fun n => k (Int.ofNat n)) (fun n => forceN n fun n => k (Int.negSucc n)) z
def forceV (v : Option Value) : Option Value :=
  match v with
  | some (.int k z) => forceI z fun z => some (.int k z)
  | v => v
def jInt (op : BinOp) : Box (IntKind → Int → Int → Option Value) :=
  match op with
  | .add => .mk fun k a b => forceI (wrap k (addI a b)) fun z => some (.int k z)
  | .sub => .mk fun k a b => forceI (wrap k (subI a b)) fun z => some (.int k z)
  | .mul => .mk fun k a b => forceI (wrap k (mulI a b)) fun z => some (.int k z)
  | .eql => .mk fun _ a b => some (.bool (eqI a b))
  | .neq => .mk fun _ a b => some (.bool (!eqI a b))
  | .lss => .mk fun _ a b => some (.bool (ltI a b))
  | .leq => .mk fun _ a b => some (.bool (leI a b))
  | .gtr => .mk fun _ a b => some (.bool (ltI b a))
  | .geq => .mk fun _ a b => some (.bool (leI b a))
  | .shl => .bad
  | .shr => .bad
  | op => .mk fun k a b => forceV (intOp op k a b)
def binGen (C : Cfg) (op : BinOp) (t : TypeId) (x y : Operand) (a b : Value) : Option Value := guard (nilsOk C t x y a b) (binOp C t op a b)
def jBin2 (C : Cfg) (op : BinOp) (t : TypeId) (x y : Operand) (f : IntKind → Int → Int → Option Value) (a b : Value) : Option Value :=
  match a with
  | .int k i => match b with
    | .int k' j => guard (kindEq k k') (f k i j)
    | b => binGen C op t x y a b
  | a => binGen C op t x y a b
def jBin (C : Cfg) (op : BinOp) (t : TypeId) (x y : Operand) : Box (Value → Value → Option Value) :=
  Box.rec (fun f => .mk (jBin2 C op t x y f)) (.mk (binGen C op t x y)) (jInt op)
def jLoad (P : Program) (t : TypeId) : Box (List Value → Nat → Option Value) :=
  Option.casesOn (isAgg P t) .bad fun g => sel g (Option.casesOn (size P t) .bad fun n => .mk fun cs o => obind (takeN n (dropL o cs)) fun l => some (mkAgg l)) (.mk fun cs o => nth cs o)
def ptrK {β : Type} (v : Value) (k : Addr → Option β) : Option β :=
  match v with
  | .pointer (some a) => k a
  | _ => none
def boolK {β : Type} (v : Value) (x y : Option β) : Option β :=
  match v with
  | .bool c => sel c x y
  | _ => none
def sliceK {β : Type} (v : Value) (k : Addr → Nat → Option β) : Option β :=
  match v with
  | .slice (some a) len _ => k a len
  | _ => none
def tupK {β : Type} (v : Value) (k : List Value → Option β) : Option β :=
  match v with
  | .tuple vs => k vs.toList
  | _ => none
def nilK (C : Cfg) (v : Value) : Option Value :=
  match v with
  | .pointer (some _) => some v
  | .func fn first _ => guard (okFunc C fn first.toList) (some v)
  | .iface _ _ => some v
  | _ => none
def jVal (C : Cfg) (n : Nat) (ks : List Nat) (o : Op) : Box JV :=
  match o with
  | .move x => bbind (jGet n ks x) fun g => .mk fun vars loc _ => g vars loc
  | .assign x => bbind (jGet n ks x) fun g => .mk fun vars loc _ => g vars loc
  | .pick c a b => bbind (jGet n ks c) fun gc => bbind (jGet n ks a) fun ga => bbind (jGet n ks b) fun gb => .mk fun vars loc _ => obind (gc vars loc) fun v => boolK v (ga vars loc) (gb vars loc)
  | .binOp op t x y _ => bbind (jGet n ks x) fun gx => bbind (jGet n ks y) fun gy => bbind (jBin C op t x y) fun f => .mk fun vars loc _ => obind (gx vars loc) fun a => obind (gy vars loc) fun b => f a b
  | .unOp op _ x => bbind (jGet n ks x) fun g => .mk fun vars loc _ => obind (g vars loc) fun v => unOp op v
  | .load t a => bbind (jGet n ks a) fun g => bbind (jLoad C.P t) fun f => .mk fun vars loc s => obind (g vars loc) fun v => ptrK v fun a => obind (s.cells a.block) fun c => f c.1 a.off
  | .fieldAddr t x i => bbind (jGet n ks x) fun g => Option.casesOn (obind (fieldInfo C.P t i) fun f => obind (size C.P f.type) fun m => guard (!Nat.beq m 0) (some f.offset)) .bad fun off =>
      .mk fun vars loc _ => obind (g vars loc) fun v => ptrK v fun a => forceN (Nat.add a.off off) fun o => some (ptr a.block o)
  | .nilCheck x => bbind (jGet n ks x) fun g => .mk fun vars loc _ => obind (g vars loc) fun v => nilK C v
  | .indexAddr t x i => bbind (jGet n ks x) fun gx => bbind (jGet n ks i) fun gi => match C.P.underlying t with
    | some (.slice e) => Option.casesOn (size C.P e) .bad fun m => .mk fun vars loc _ =>
        obind (gx vars loc) fun x => obind (gi vars loc) fun i => obind (asNat i) fun i => sliceK x fun a len => guard (ltN i len) (forceN (Nat.add a.off (Nat.mul i m)) fun o => some (ptr a.block o))
    | _ => .bad
  | .extract x i => bbind (jGet n ks x) fun g => .mk fun vars loc _ => obind (g vars loc) fun v => tupK v fun vs => nth vs i
  | .makeFunc fn a b => sel (noYield fn) (bbind (jGets n ks a.toList) fun ga => bbind (jGets n ks b.toList) fun gb => .mk fun vars loc _ => obind (ga vars loc) fun a => obind (gb vars loc) fun b => some (.func fn ⟨a⟩ ⟨b⟩)) .bad
  | .makeInterface t x => sel (!isIface C.P t && (C.P.underlying t).isSome) (bbind (jGet n ks x) fun g => .mk fun vars loc _ => obind (g vars loc) fun v => some (.iface t v)) .bad
  | _ => .bad
def jGen (C : Cfg) (rd : Bool) (n : Nat) (o : Oper) (r : JK) : JK := fun e vars loc ds s =>
  obind (execOp C (Fr.ev n { vars := vars, loc := loc, defers := ds }) s o.op) (afterOp e.call e.yield rd n { vars := vars, loc := loc, defers := ds } o.dst fun fr s => r e fr.vars fr.loc fr.defers s)
def jOp (C : Cfg) (rd : Bool) (n : Nat) (ks : List Nat) (o : Oper) (put : JP) (r : JK) : Box JK :=
  match o.op with
  | .alloc t => Option.casesOn (zero C.P t) (.mk (jGen C rd n o r)) fun z => .mk fun e vars loc ds s => forceN s.next fun b =>
      put r e (ptr b 0) vars loc ds { heap := s.heap.set b (.row z t 0), fams := s.fams, next := Nat.succ b }
  | .box t x => bbind (jGet n ks x) fun g => .mk fun e vars loc ds s => obind (g vars loc) fun v => forceN s.next fun b =>
      put r e (ptr b 0) vars loc ds { heap := s.heap.set b (.row (cellsOf v) t 0), fams := s.fams, next := Nat.succ b }
  | .store t a x => bbind (jGet n ks a) fun ga => bbind (jGet n ks x) fun gx => Option.casesOn (size C.P t) (.mk (jGen C rd n o r)) fun m => .mk fun e vars loc ds s =>
      obind (ga vars loc) fun v => ptrK v fun a => obind (gx vars loc) fun v => guard (Nat.beq (lenL (cellsOf v)) m) (obind (storeCells s a.block a.off (cellsOf v)) fun s => put r e unit vars loc ds s)
  | .call c => match c.callee with
    | .value (.func f) => Option.casesOn (C.ext f) (sel (C.body f).isSome (bbind (jGets n ks c.args.toList) fun gs => .mk fun e vars loc ds s => obind (gs vars loc) fun args => obind (e.call f args s) fun q => put r e q.1 vars loc ds q.2) (.mk (jGen C rd n o r))) fun _ => .mk (jGen C rd n o r)
    | _ => .mk (jGen C rd n o r)
  | _ => Box.rec (fun v => .mk fun e vars loc ds s => obind (v vars loc s) fun x => put r e x vars loc ds s) (.mk (jGen C rd n o r)) (jVal C n ks o.op)
def jGuard (n : Nat) (all : List Oper) (g : Option (Nat × Bool)) (put : JP) (f r : JK) : JK :=
  Option.casesOn g f fun _ => fun e vars loc ds s => obind (guardOk n all { vars := vars, loc := loc, defers := ds } g) fun b => sel b (f e vars loc ds s) (put r e unit vars loc ds s)
def jOne (C : Cfg) (rd : Bool) (n : Nat) (all : List Oper) (ks : List Nat) (o : Oper) (r : JK) : Box JK :=
  bbind (jPut n o.dst) fun put => bbind (jOp C rd n ks o put r) fun f => .mk (jGuard n all o.guard put f r)
def jEnd : JK := fun _ vars loc ds s => some ({ vars := vars, loc := loc, defers := ds }, s)
def jOps (C : Cfg) (rd : Bool) (n : Nat) (all : List Oper) : List Oper → List Nat → Box JK := fun ops =>
  List.rec (fun _ => .mk jEnd) (fun o _ ih ks => bbind (ih (jPush n o.dst ks)) fun r => jOne C rd n all ks o r) ops
def withPend (e : JE) (l : List Pend) : JE := { call := e.call, yield := e.yield, base := e.base, pend := l, cl := e.cl }
def withCl (e : JE) (b : Bool) : JE := { call := e.call, yield := e.yield, base := e.base, pend := e.pend, cl := b }
def mayQuiet (C : Cfg) (o : Op) : Bool :=
  match o with
  | .call c => match c.callee with
    | .value x => match x with
      | .func f => Option.casesOn (C.insert f) false fun t => match t with
        | .pure _ => true
        | _ => false
      | _ => true
    | _ => true
  | _ => true
def jLoud (C : Cfg) (rd : Bool) (n : Nat) (a : Info) (rest : List Info) (r : JK) : JK := fun e vars loc ds s =>
  obind (execOp C (Fr.ev n { vars := vars, loc := loc, defers := ds }) s a.op.op) (drawLoud C e.call e.yield rd n e.base a rest (fun cl p fr s => r (withCl (withPend e p) cl) fr.vars fr.loc fr.defers s) e.cl e.pend { vars := vars, loc := loc, defers := ds })
def jValGen (C : Cfg) (n : Nat) (o : Op) : JV := fun vars loc s => obind (execOp C (Fr.ev n { vars := vars, loc := loc, defers := [] }) s o) fun r => match r with
  | .val v _ => some v
  | _ => none
def jDraw1 (C : Cfg) (rd : Bool) (n : Nat) (ks : List Nat) (a : Info) (rest : List Info) (put : JP) (r : JK) : Box JK :=
  ncase a.cls
    (bbind (bor (jVal C n ks a.op.op) (.mk (jValGen C n a.op.op))) fun v => .mk fun e vars loc ds s => obind (v vars loc s) fun x => put r e x vars loc ds s)
    fun c1 => ncase c1
      (bbind (bor (jVal C n ks a.op.op) (.mk (jValGen C n a.op.op))) fun v => .mk fun e vars loc ds s => obind (v vars loc s) fun x => guard (quietV s x) (put r (withPend e ({ i := a.i, op := a.op.op, fr := { vars := vars, loc := loc, defers := ds }, v := x } :: e.pend)) x vars loc ds s))
      fun c2 => ncase c2
        (.mk fun e vars loc ds s => obind (aOp C (Fr.ev n { vars := vars, loc := loc, defers := ds }) a.op.op) fun q => forceN (Nat.add e.base a.i) fun id => put r (withCl e false) (q.2 id) vars loc ds { heap := s.heap.set id q.1, fams := s.fams, next := s.next })
        fun _ => sel (quietOp a.op.op && mayQuiet C a.op.op) (.mk (jLoud C rd n a rest r)) (jOp C rd n ks a.op put fun e vars loc ds s => guard (lookAll C n s a.mask e.pend && freeIds s e.base rest) (r (withCl e false) vars loc ds s))
def jDrawOne (C : Cfg) (rd : Bool) (n : Nat) (all : List Oper) (ks : List Nat) (a : Info) (rest : List Info) (r : JK) : Box JK :=
  bbind (jPut n a.op.dst) fun put => bbind (jDraw1 C rd n ks a rest put r) fun f => .mk (jGuard n all a.op.guard put f r)
def jDraw (C : Cfg) (rd : Bool) (n : Nat) (all : List Oper) : List Info → List Nat → Box JK := fun l =>
  List.rec (fun _ => .mk jEnd) (fun a rest ih ks => bbind (ih (jPush n a.op.dst ks)) fun r => jDrawOne C rd n all ks a rest r) l
def toOut (q : Fr × St) : Out := some (.normal, q)
def jCond (n : Nat) (x : Operand) : Box (Fr → Option Value) :=
  match x with
  | .tmp t => sel (ltN t n) (bbind (jGetP (path t)) fun g => .mk fun fr => g fr.vars) (.mk fun fr => fr.ev n x)
  | x => .mk fun fr => fr.ev n x
def jRegion (C : Cfg) (n : Nat) (fn : FuncId) (rd : Bool) (id : Nat) (ops : List Oper) (draw : Bool) : Box JRun :=
  sel draw (Option.casesOn (planOf ops (C.order fn id)) .bad fun l => bbind (jDraw C rd n ops l []) fun r => .mk fun call yield fr s =>
      obind (r { call := call, yield := yield, base := s.next, pend := [], cl := true } fr.vars [] fr.defers { heap := s.heap, fams := s.fams, next := Nat.add s.next (lenL ops) }) toOut)
    (bbind (jOps C rd n ops ops []) fun r => .mk fun call yield fr s => obind (r { call := call, yield := yield, base := 0, pend := [], cl := true } fr.vars [] fr.defers s) toOut)
def jCode (C : Cfg) (n : Nat) (fn : FuncId) (rd : Bool) (c : Code) : Box JRun :=
  Code.rec (motive := fun _ => Box JRun)
    (.mk fun _ _ fr s => some (.normal, fr, s))
    (fun id ops draw => jRegion C n fn rd id ops.toList draw)
    (fun _ _ a b => bbind a fun ra => bbind b fun rb => .mk fun call yield fr s => obind (ra call yield fr s) (iterNext (rb call yield)))
    (fun c _ _ a b => bbind (jCond n c) fun g => bbind a fun ra => bbind b fun rb => .mk fun call yield fr s => obind (g fr) fun v => boolK v (ra call yield fr s) (rb call yield fr s))
    (fun id _ a => bbind a fun ra => .mk fun call yield fr s => obind (ra call yield fr s) (blockEnd id))
    (fun b a => bbind a fun ra => .mk fun call yield fr s => loopAlt C fn rd b (iter (ra call yield) 100000) fr s)
    (fun f params assign body _ _ => .mk fun call yield fr s => rangeFunc C call n fn rd f params assign body fr s)
    (fun id => .mk fun _ _ fr s => some (.exit id, fr, s))
    (fun _ a => sel rd (.mk fun _ _ _ _ => none) a)
    (fun _ => .mk fun _ _ fr s => some (.normal, fr, s))
    (fun _ => .mk fun _ _ _ _ => none)
    (.mk fun _ _ fr s => some (.ret, fr, s))
    (fun _ => .mk fun _ _ _ _ => none) c
def jFn (C : Cfg) (f : FuncId) : Box (CallT → YieldT → List Value → St → Option (Value × St)) :=
  Option.casesOn (C.body f) .bad fun c => bbind (jCode C (C.vars f) f false c) fun run => .mk fun call yield args s => obind (run call yield (startFr args) s) (finish C (callDR C call yield) f)
def jBody (C : Cfg) (call : CallT) (yield : YieldT) (f : FuncId) (args : List Value) (s : St) : Option (Value × St) :=
  Box.rec (fun run => run call yield args s) (callBody C call yield f args s) (jFn C f)
def jStep (C : Cfg) (call : CallT) (yield : YieldT) (f : FuncId) (args : List Value) (s : St) : Option (Value × St) :=
  Option.casesOn (C.insert f) (jBody C call yield f args s) fun t => Option.casesOn (runCon C t s args) (jBody C call yield f args s) some
def jRunN (C : Cfg) (n : Nat) : CallT × YieldT :=
  Nat.rec (fun _ _ _ => none, fun _ _ _ => none) (fun _ ih => (jStep C ih.1 ih.2, yieldStep C ih.1 ih.2)) n
end
end Go.Ax
namespace Go.Ax
open Go
theorem bbind_mk {α β : Type} {b : Box α} {k : α → Box β} {r : β} : bbind b k = .mk r ↔ ∃ a, b = .mk a ∧ k a = .mk r := by
  cases b with
  | mk a => constructor
            · intro h; exact ⟨a, rfl, h⟩
            · rintro ⟨a', h, h'⟩; cases h; exact h'
  | bad => constructor
           · intro h; cases h
           · rintro ⟨a', h, h'⟩; cases h
theorem bad_mk {α : Type} {r : α} (h : Box.bad = .mk r) : False := by cases h
theorem mk_inj {α : Type} {a b : α} (h : Box.mk a = .mk b) : a = b := by cases h; rfl
theorem jGetP_ok {α : Type} (p : Path) : ∀ (g : Tr α → Option α), jGetP p = .mk g → ∀ t, g t = Tr.getP p t := by
  induction p with
  | nil => intro g h t; have h := mk_inj h; subst h; cases t <;> rfl
  | cons b p ih =>
    intro g h t
    have h : bbind (jGetP p) (fun g => Bool.rec (motive := fun _ => Box (Tr α → Option α)) (.mk fun t => Tr.rec none (fun _ x _ _ _ => g x) t) (.mk fun t => Tr.rec none (fun _ _ y _ _ => g y) t) b) = .mk g := h
    obtain ⟨g', h1, h2⟩ := bbind_mk.1 h
    have ih := ih g' h1
    cases b <;> (have h2 := mk_inj h2; subst h2; cases t with
      | e => rfl
      | n v x y => exact ih _)
theorem jSetP_ok {α : Type} (p : Path) : ∀ (g : α → Tr α → Tr α), jSetP p = .mk g → ∀ a t, g a t = Tr.setP a p t := by
  induction p with
  | nil => intro g h a t; have h := mk_inj h; subst h; cases t <;> rfl
  | cons b p ih =>
    intro g h a t
    have h : bbind (jSetP p) (fun g => Bool.rec (motive := fun _ => Box (α → Tr α → Tr α))
      (.mk fun a t => Tr.rec (.n none (g a .e) .e) (fun v x y _ _ => .n v (g a x) y) t)
      (.mk fun a t => Tr.rec (.n none .e (g a .e)) (fun v x y _ _ => .n v x (g a y)) t) b) = .mk g := h
    obtain ⟨g', h1, h2⟩ := bbind_mk.1 h
    have ih := ih g' h1
    cases b <;> (have h2 := mk_inj h2; subst h2; cases t with
      | e => exact (by
          show Tr.n _ _ _ = Tr.n _ _ _
          rw [ih] <;> rfl)
      | n v x y => exact (by
          show Tr.n _ _ _ = Tr.n _ _ _
          rw [ih] <;> rfl))
noncomputable def keys (l : Loc') : List Nat := mapL (fun p => p.1) l
theorem jNth_ok : ∀ (k : Nat) (g : Loc' → Option Value), jNth k = .mk g → ∀ t (l : Loc'), posOf t (keys l) = some k → g l = findLoc t l := by
  intro k
  induction k with
  | zero =>
    intro g h t l hp
    have h := mk_inj h; subst h
    cases l with
    | nil => cases hp
    | cons p l =>
      have hp : sel (Nat.beq p.1 t) (some 0) (obind (posOf t (keys l)) fun k => some (Nat.succ k)) = some 0 := hp
      show some p.2 = sel (Nat.beq p.1 t) (some p.2) (findLoc t l)
      cases hb : Nat.beq p.1 t with
      | true => rfl
      | false =>
        rw [hb] at hp
        obtain ⟨k, _, h⟩ := obind_some.1 (show obind (posOf t (keys l)) (fun k => some (Nat.succ k)) = some 0 from hp)
        cases h
  | succ k ih =>
    intro g h t l hp
    obtain ⟨g', h1, h2⟩ := bbind_mk.1 (show bbind (jNth k) (fun g => .mk fun l : Loc' => List.rec none (fun _ t _ => g t) l) = .mk g from h)
    have h2 := mk_inj h2; subst h2
    cases l with
    | nil => cases hp
    | cons p l =>
      have hp : sel (Nat.beq p.1 t) (some 0) (obind (posOf t (keys l)) fun k => some (Nat.succ k)) = some (k + 1) := hp
      show g' l = sel (Nat.beq p.1 t) (some p.2) (findLoc t l)
      cases hb : Nat.beq p.1 t with
      | true => rw [hb] at hp; cases hp
      | false =>
        rw [hb] at hp
        obtain ⟨k', h3, h⟩ := obind_some.1 (show obind (posOf t (keys l)) (fun k => some (Nat.succ k)) = some (k + 1) from hp)
        have h : k' + 1 = k + 1 := Option.some.inj h
        have : k' = k := by omega
        subst this
        exact ih g' h1 t l h3
theorem posOf_none (t : Nat) : ∀ (l : Loc'), posOf t (keys l) = none → findLoc t l = none := by
  intro l
  induction l with
  | nil => intro _; rfl
  | cons p l ih =>
    intro hp
    have hp : sel (Nat.beq p.1 t) (some 0) (obind (posOf t (keys l)) fun k => some (Nat.succ k)) = none := hp
    show sel (Nat.beq p.1 t) (some p.2) (findLoc t l) = none
    cases hb : Nat.beq p.1 t with
    | true => rw [hb] at hp; cases hp
    | false =>
      rw [hb] at hp
      cases hq : posOf t (keys l) with
      | none => exact ih hq
      | some k => rw [hq] at hp; cases hp
abbrev F (vars : Tr Value) (loc : Loc') (ds : Dfs) : Fr := { vars := vars, loc := loc, defers := ds }
theorem jGet_ok {n : Nat} {ks : List Nat} {x : Operand} {g : JG} (h : jGet n ks x = .mk g) (vars : Tr Value) (loc : Loc') (ds : Dfs) (hk : keys loc = ks) : g vars loc = Fr.ev n (F vars loc ds) x := by
  subst hk
  cases x with
  | tmp t =>
    have h : sel (ltN t n) (bbind (jGetP (path t)) fun g => .mk fun vars _ => g vars) (Option.casesOn (posOf t (keys loc)) (.mk fun _ _ => none) fun k => bbind (jNth k) fun g => .mk fun _ loc => g loc) = .mk g := h
    show _ = sel (ltN t n) (vars.get t) (findLoc t loc)
    cases hb : ltN t n with
    | true =>
      rw [hb] at h
      obtain ⟨g', h1, h2⟩ := bbind_mk.1 (show bbind (jGetP (path t)) (fun g => .mk fun (vars : Tr Value) (_ : Loc') => g vars) = .mk g from h)
      have h2 := mk_inj h2; subst h2
      exact jGetP_ok _ g' h1 vars
    | false =>
      rw [hb] at h
      cases hp : posOf t (keys loc) with
      | none =>
        rw [hp] at h
        have h := mk_inj h; subst h
        exact (posOf_none t loc hp).symm
      | some k =>
        rw [hp] at h
        obtain ⟨g', h1, h2⟩ := bbind_mk.1 (show bbind (jNth k) (fun g => .mk fun (_ : Tr Value) (loc : Loc') => g loc) = .mk g from h)
        have h2 := mk_inj h2; subst h2
        exact jNth_ok k g' h1 t loc hp
  | const v => have h := mk_inj h; subst h; rfl
  | global v => have h := mk_inj h; subst h; rfl
  | func v => have h := mk_inj h; subst h; rfl
theorem jGets_ok {n : Nat} {ks : List Nat} : ∀ {l : List Operand} {g : Tr Value → Loc' → Option (List Value)}, jGets n ks l = .mk g → ∀ (vars : Tr Value) (loc : Loc') (ds : Dfs), keys loc = ks → g vars loc = evs (Fr.ev n (F vars loc ds)) l := by
  intro l
  induction l with
  | nil => intro g h vars loc ds hk; have h := mk_inj h; subst h; rfl
  | cons x l ih =>
    intro g h vars loc ds hk
    obtain ⟨g1, h1, h⟩ := bbind_mk.1 (show bbind (jGet n ks x) (fun g => bbind (jGets n ks l) fun r => .mk fun vars loc => obind (g vars loc) fun v => obind (r vars loc) fun vs => some (v :: vs)) = .mk g from h)
    obtain ⟨g2, h2, h⟩ := bbind_mk.1 h
    have h := mk_inj h; subst h
    show obind (g1 vars loc) _ = obind (Fr.ev n (F vars loc ds) x) fun v => obind (evs (Fr.ev n (F vars loc ds)) l) fun r => some (v :: r)
    rw [jGet_ok h1 vars loc ds hk, ih h2 vars loc ds hk]
theorem jPut_ok {n : Nat} {dst : Option Tmp} {put : JP} (h : jPut n dst = .mk put) (r : JK) (e : JE) (v : Value) (vars : Tr Value) (loc : Loc') (ds : Dfs) (s : St) :
    put r e v vars loc ds s = r e (Fr.put n (F vars loc ds) dst v).vars (Fr.put n (F vars loc ds) dst v).loc ds s := by
  cases dst with
  | none => have h := mk_inj h; subst h; rfl
  | some d =>
    have h : sel (ltN d n) (bbind (jSetP (path d)) fun g => .mk fun r e v vars loc ds s => r e (g v vars) loc ds s) (.mk fun r e v vars loc ds s => r e vars ((d, v) :: loc) ds s) = .mk put := h
    show _ = r e (sel (ltN d n) (F (vars.set d v) loc ds) (F vars ((d, v) :: loc) ds)).vars (sel (ltN d n) (F (vars.set d v) loc ds) (F vars ((d, v) :: loc) ds)).loc ds s
    cases hb : ltN d n with
    | true =>
      rw [hb] at h
      obtain ⟨g', h1, h2⟩ := bbind_mk.1 (show bbind (jSetP (path d)) (fun g => .mk fun r e v vars loc ds s => r e (g v vars) loc ds s) = .mk put from h)
      have h2 := mk_inj h2; subst h2
      show r e (g' v vars) loc ds s = _
      rw [jSetP_ok _ g' h1]; rfl
    | false =>
      rw [hb] at h
      have h := mk_inj h; subst h; rfl
theorem put_defers (n : Nat) (vars : Tr Value) (loc : Loc') (ds : Dfs) (dst : Option Tmp) (v : Value) : (Fr.put n (F vars loc ds) dst v).defers = ds := by
  cases dst with
  | none => rfl
  | some d =>
    show (sel (ltN d n) (F (vars.set d v) loc ds) (F vars ((d, v) :: loc) ds)).defers = ds
    cases ltN d n <;> rfl
theorem put_keys (n : Nat) (vars : Tr Value) (loc : Loc') (ds : Dfs) (dst : Option Tmp) (v : Value) : keys (Fr.put n (F vars loc ds) dst v).loc = jPush n dst (keys loc) := by
  cases dst with
  | none => rfl
  | some d =>
    show keys (sel (ltN d n) (F (vars.set d v) loc ds) (F vars ((d, v) :: loc) ds)).loc = sel (ltN d n) (keys loc) (d :: keys loc)
    cases ltN d n <;> rfl
theorem forceN_eq {β : Type} (n : Nat) (k : Nat → β) : forceN n k = k n := by cases n <;> rfl
theorem forceI_eq {β : Type} (z : Int) (k : Int → β) : forceI z k = k z := by
  cases z with
  | ofNat n => show forceN n (fun n => k (Int.ofNat n)) = _; rw [forceN_eq]
  | negSucc n => show forceN n (fun n => k (Int.negSucc n)) = _; rw [forceN_eq]
noncomputable def asVal (x : Option Value) (s : St) : Option Res := obind x fun v => ret v s
theorem asVal_obind {α : Type} (x : Option α) (k : α → Option Value) (s : St) : asVal (obind x k) s = obind x fun a => asVal (k a) s := by cases x <;> rfl
theorem asVal_guard (b : Bool) (k : Option Value) (s : St) : asVal (guard b k) s = guard b (asVal k s) := by cases b <;> rfl
theorem obind_assoc {α β γ : Type} (x : Option α) (k : α → Option β) (l : β → Option γ) : obind (obind x k) l = obind x fun a => obind (k a) l := by cases x <;> rfl
theorem guard_obind {α β : Type} (b : Bool) (x : Option α) (k : α → Option β) : obind (guard b x) k = guard b (obind x k) := by cases b <;> rfl
theorem obind_congr {α β : Type} (x : Option α) {k l : α → Option β} (h : ∀ a, k a = l a) : obind x k = obind x l := by cases x with
  | none => rfl
  | some a => exact h a
theorem forceV_eq (v : Option Value) : forceV v = v := by
  cases v with
  | none => rfl
  | some v =>
    cases v <;> first | rfl | skip
    rename_i k z
    exact forceI_eq z fun z => some (Value.int k z)
theorem intOp_eq (op : BinOp) (f : IntKind → Int → Int → Option Value) (h : jInt op = .mk f) (k : IntKind) (a b : Int) : f k a b = intOp op k a b := by
  cases op <;> first
    | exact (bad_mk h).elim
    | (have h := mk_inj h; subst h; first | rfl | exact forceI_eq _ _ | exact forceV_eq _)
theorem jInt_shift {op : BinOp} {f : IntKind → Int → Int → Option Value} (h : jInt op = .mk f) : op ≠ .shl ∧ op ≠ .shr := by
  constructor <;> (intro e; subst e; exact bad_mk h)
theorem binOp_int (C : Cfg) {op : BinOp} (h : op ≠ .shl ∧ op ≠ .shr) (t : TypeId) (k k' : IntKind) (i j : Int) : binOp C t op (.int k i) (.int k' j) = guard (kindEq k k') (intOp op k i j) := by
  cases op <;> first | rfl | exact absurd rfl h.1 | exact absurd rfl h.2
theorem jBin_ok {C : Cfg} {op : BinOp} {t : TypeId} {x y : Operand} {f : Value → Value → Option Value} (h : jBin C op t x y = .mk f) (a b : Value) : f a b = binGen C op t x y a b := by
  have h : Box.rec (motive := fun _ => Box (Value → Value → Option Value)) (fun f => .mk (jBin2 C op t x y f)) (.mk (binGen C op t x y)) (jInt op) = .mk f := h
  cases hj : jInt op with
  | bad => rw [hj] at h; have h := mk_inj h; subst h; rfl
  | mk g =>
    rw [hj] at h; have h := mk_inj h; subst h
    cases a <;> try rfl
    cases b <;> try rfl
    rename_i k i k' j
    show guard (kindEq k k') (g k i j) = guard (nilsOk C t x y (.int k i) (.int k' j)) (binOp C t op (.int k i) (.int k' j))
    rw [binOp_int C (jInt_shift hj), intOp_eq op g hj]; rfl
theorem jLoad_ok {P : Program} {t : TypeId} {f : List Value → Nat → Option Value} (h : jLoad P t = .mk f) (cs : List Value) (o : Nat) : f cs o = loadCs P t o cs := by
  have h : Option.casesOn (isAgg P t) .bad (fun g => sel g (Option.casesOn (size P t) .bad fun n => .mk fun cs o => obind (takeN n (dropL o cs)) fun l => some (mkAgg l)) (.mk fun cs o => nth cs o)) = Box.mk f := h
  show _ = obind (isAgg P t) fun g => sel g (obind (size P t) fun n => obind (takeN n (dropL o cs)) fun l => some (mkAgg l)) (nth cs o)
  cases hg : isAgg P t with
  | none => rw [hg] at h; cases h
  | some g =>
    rw [hg] at h
    cases g with
    | false => have h := mk_inj h; subst h; rfl
    | true =>
      have h : Option.casesOn (size P t) .bad (fun n => .mk fun cs o => obind (takeN n (dropL o cs)) fun l => some (mkAgg l)) = Box.mk f := h
      cases hs : size P t with
      | none => rw [hs] at h; cases h
      | some n => rw [hs] at h; have h := mk_inj h; subst h; rfl
theorem jVal_ok {C : Cfg} {n : Nat} {ks : List Nat} {o : Op} {v : JV} (h : jVal C n ks o = .mk v) (vars : Tr Value) (loc : Loc') (ds : Dfs) (s : St) (hk : keys loc = ks) :
    asVal (v vars loc s) s = execOp C (Fr.ev n (F vars loc ds)) s o := by
  cases o <;> try exact (bad_mk h).elim
  case move x =>
    obtain ⟨g, h1, h⟩ := bbind_mk.1 h
    have h := mk_inj h; subst h
    show asVal (g vars loc) s = obind (Fr.ev n (F vars loc ds) x) fun v => ret v s
    rw [jGet_ok h1 vars loc ds hk]; rfl
  case assign x =>
    obtain ⟨g, h1, h⟩ := bbind_mk.1 h
    have h := mk_inj h; subst h
    show asVal (g vars loc) s = obind (Fr.ev n (F vars loc ds) x) fun v => ret v s
    rw [jGet_ok h1 vars loc ds hk]; rfl
  case pick c a b =>
    obtain ⟨g, h1, h⟩ := bbind_mk.1 h
    obtain ⟨ga, h2, h⟩ := bbind_mk.1 h
    obtain ⟨gb, h3, h⟩ := bbind_mk.1 h
    have h := mk_inj h; subst h
    show asVal (obind (g vars loc) fun v => boolK v (ga vars loc) (gb vars loc)) s = _
    rw [jGet_ok h1 vars loc ds hk, jGet_ok h2 vars loc ds hk, jGet_ok h3 vars loc ds hk, asVal_obind]
    apply obind_congr
    intro v
    cases v <;> try rfl
    rename_i b
    cases b <;> rfl
  case load t a =>
    obtain ⟨g, h1, h⟩ := bbind_mk.1 h
    obtain ⟨f, h2, h⟩ := bbind_mk.1 h
    have h := mk_inj h; subst h
    show asVal (obind (g vars loc) fun v => ptrK v fun a => obind (s.cells a.block) fun c => f c.1 a.off) s = _
    rw [jGet_ok h1 vars loc ds hk, asVal_obind]
    apply obind_congr
    intro v
    cases v <;> try rfl
    rename_i p
    cases p with
    | none => rfl
    | some p =>
      show asVal (obind (s.cells p.block) fun c => f c.1 p.off) s = obind (obind (s.cells p.block) fun c => loadCs C.P t p.off c.1) fun v => ret v s
      rw [asVal_obind, obind_assoc]
      apply obind_congr
      intro c
      rw [jLoad_ok h2]; rfl
  case nilCheck x =>
    obtain ⟨g, h1, h⟩ := bbind_mk.1 h
    have h := mk_inj h; subst h
    show asVal (obind (g vars loc) fun v => nilK C v) s = _
    rw [jGet_ok h1 vars loc ds hk, asVal_obind]
    apply obind_congr
    intro v
    cases v <;> try rfl
    · rename_i p; cases p <;> rfl
    · exact asVal_guard _ _ _
  case binOp op t x y m =>
    obtain ⟨gx, h1, h⟩ := bbind_mk.1 h
    obtain ⟨gy, h2, h⟩ := bbind_mk.1 h
    obtain ⟨f, h3, h⟩ := bbind_mk.1 h
    have h := mk_inj h; subst h
    show asVal (obind (gx vars loc) fun a => obind (gy vars loc) fun b => f a b) s = obind (Fr.ev n (F vars loc ds) x) fun a => obind (Fr.ev n (F vars loc ds) y) fun b => guard (nilsOk C t x y a b) (obind (binOp C t op a b) fun v => ret v s)
    rw [jGet_ok h1 vars loc ds hk, jGet_ok h2 vars loc ds hk, asVal_obind]
    apply obind_congr; intro a
    rw [asVal_obind]
    apply obind_congr; intro b
    rw [jBin_ok h3]
    exact asVal_guard _ _ _
  case unOp op m x =>
    obtain ⟨g, h1, h⟩ := bbind_mk.1 h
    have h := mk_inj h; subst h
    show asVal (obind (g vars loc) fun v => unOp op v) s = _
    rw [jGet_ok h1 vars loc ds hk, asVal_obind]; rfl
  case makeInterface t x =>
    have h : sel (!isIface C.P t && (C.P.underlying t).isSome) (bbind (jGet n ks x) fun g => .mk fun vars loc _ => obind (g vars loc) fun v => some (.iface t v)) .bad = Box.mk v := h
    show _ = guard (!isIface C.P t && (C.P.underlying t).isSome) (obind (Fr.ev n (F vars loc ds) x) fun x => ret (.iface t x) s)
    cases hb : (!isIface C.P t && (C.P.underlying t).isSome) with
    | false => rw [hb] at h; cases h
    | true =>
      rw [hb] at h
      obtain ⟨g, h1, h⟩ := bbind_mk.1 h
      have h := mk_inj h; subst h
      show asVal (obind (g vars loc) fun v => some (.iface t v)) s = _
      rw [jGet_ok h1 vars loc ds hk, asVal_obind]; rfl
  case makeFunc fn a b =>
    have h : sel (noYield fn) (bbind (jGets n ks a.toList) fun ga => bbind (jGets n ks b.toList) fun gb => .mk fun vars loc _ => obind (ga vars loc) fun a => obind (gb vars loc) fun b => some (.func fn ⟨a⟩ ⟨b⟩)) .bad = Box.mk v := h
    show _ = guard (noYield fn) (obind (evs (Fr.ev n (F vars loc ds)) a.toList) fun a => obind (evs (Fr.ev n (F vars loc ds)) b.toList) fun b => ret (.func fn ⟨a⟩ ⟨b⟩) s)
    cases hb : noYield fn with
    | false => rw [hb] at h; cases h
    | true =>
      rw [hb] at h
      obtain ⟨ga, h1, h⟩ := bbind_mk.1 h
      obtain ⟨gb, h2, h⟩ := bbind_mk.1 h
      have h := mk_inj h; subst h
      show asVal (obind (ga vars loc) fun a => obind (gb vars loc) fun b => some (.func fn ⟨a⟩ ⟨b⟩)) s = _
      rw [jGets_ok h1 vars loc ds hk, jGets_ok h2 vars loc ds hk, asVal_obind]
      apply obind_congr; intro a
      rw [asVal_obind]; rfl
  case fieldAddr t x i =>
    obtain ⟨g, h1, h⟩ := bbind_mk.1 h
    cases hf : fieldInfo C.P t i with
    | none => rw [hf] at h; cases h
    | some fd =>
      rw [hf] at h
      cases hz : size C.P fd.type with
      | none =>
        have h : (Option.casesOn (obind (size C.P fd.type) fun m => guard (!Nat.beq m 0) (some fd.offset)) Box.bad fun off =>
            .mk fun vars loc _ => obind (g vars loc) fun v => ptrK v fun a => forceN (Nat.add a.off off) fun o => some (ptr a.block o) : Box JV) = .mk v := h
        rw [hz] at h
        cases h
      | some m =>
        have h : (Option.casesOn (obind (size C.P fd.type) fun m => guard (!Nat.beq m 0) (some fd.offset)) Box.bad fun off =>
            .mk fun vars loc _ => obind (g vars loc) fun v => ptrK v fun a => forceN (Nat.add a.off off) fun o => some (ptr a.block o) : Box JV) = .mk v := h
        rw [hz] at h
        show _ = obind (Fr.ev n (F vars loc ds) x) fun v => match v with
          | .pointer (some a) => obind (fieldInfo C.P t i) fun f => obind (size C.P f.type) fun n => guard (!Nat.beq n 0) (ret (ptr a.block (Nat.add a.off f.offset)) s)
          | _ => none
        have h : (Option.casesOn (guard (!Nat.beq m 0) (some fd.offset)) Box.bad fun off =>
            .mk fun vars loc _ => obind (g vars loc) fun v => ptrK v fun a => forceN (Nat.add a.off off) fun o => some (ptr a.block o) : Box JV) = .mk v := h
        cases hb : (!Nat.beq m 0) with
        | false => rw [hb] at h; cases h
        | true =>
          rw [hb] at h
          have h := mk_inj h; subst h
          show asVal (obind (g vars loc) fun v => ptrK v fun a => forceN (Nat.add a.off fd.offset) fun o => some (ptr a.block o)) s = _
          rw [jGet_ok h1 vars loc ds hk, asVal_obind]
          apply obind_congr; intro v
          cases v <;> try rfl
          rename_i p
          cases p with
          | none => rfl
          | some p =>
            show asVal (forceN (Nat.add p.off fd.offset) fun o => some (ptr p.block o)) s = obind (fieldInfo C.P t i) fun f => obind (size C.P f.type) fun n => guard (!Nat.beq n 0) (ret (ptr p.block (Nat.add p.off f.offset)) s)
            rw [forceN_eq, hf]
            show _ = obind (size C.P fd.type) fun n => guard (!Nat.beq n 0) (ret (ptr p.block (Nat.add p.off fd.offset)) s)
            rw [hz]
            show _ = guard (!Nat.beq m 0) (ret (ptr p.block (Nat.add p.off fd.offset)) s)
            rw [hb]; rfl
  case indexAddr t x i =>
    obtain ⟨gx, h1, h⟩ := bbind_mk.1 h
    obtain ⟨gi, h2, h⟩ := bbind_mk.1 h
    cases hu : C.P.underlying t with
    | none => rw [hu] at h; cases h
    | some d =>
      rw [hu] at h
      cases d <;> try exact (bad_mk h).elim
      rename_i e
      have h : (Option.casesOn (size C.P e) Box.bad fun m => .mk fun vars loc _ =>
        obind (gx vars loc) fun x => obind (gi vars loc) fun i => obind (asNat i) fun i => sliceK x fun a len => guard (ltN i len) (forceN (Nat.add a.off (Nat.mul i m)) fun o => some (ptr a.block o)) : Box JV) = .mk v := h
      cases hz : size C.P e with
      | none => rw [hz] at h; cases h
      | some m =>
        rw [hz] at h
        have h := mk_inj h; subst h
        show asVal (obind (gx vars loc) fun x => obind (gi vars loc) fun i => obind (asNat i) fun i => sliceK x fun a len => guard (ltN i len) (forceN (Nat.add a.off (Nat.mul i m)) fun o => some (ptr a.block o))) s = oIndexAddr C (Fr.ev n (F vars loc ds)) s t x i
        unfold oIndexAddr
        rw [hu, jGet_ok h1 vars loc ds hk, jGet_ok h2 vars loc ds hk, asVal_obind]
        apply obind_congr; intro x
        rw [asVal_obind]
        apply obind_congr; intro y
        rw [asVal_obind]
        apply obind_congr; intro j
        cases x <;> try rfl
        rename_i p len cap
        cases p with
        | none => rfl
        | some p =>
          show asVal (guard (ltN j len) (forceN (Nat.add p.off (Nat.mul j m)) fun o => some (ptr p.block o))) s = guard (ltN j len) (obind (size C.P e) fun n => ret (ptr p.block (Nat.add p.off (Nat.mul j n))) s)
          rw [hz, forceN_eq, asVal_guard]; rfl
  case extract x i =>
    obtain ⟨g, h1, h⟩ := bbind_mk.1 h
    have h := mk_inj h; subst h
    show asVal (obind (g vars loc) fun v => tupK v fun vs => nth vs i) s = _
    rw [jGet_ok h1 vars loc ds hk, asVal_obind]
    apply obind_congr; intro v
    cases v <;> try rfl
theorem fr_eta (fr : Fr) {ds : Dfs} (h : fr.defers = ds) : F fr.vars fr.loc ds = fr := by subst h; rfl
def NextOk (n : Nat) (dst : Option Tmp) (ks : List Nat) (r : JK) (K : JE → OpsK) : Prop :=
  ∀ e vars loc ds s, keys loc = jPush n dst ks → r e vars loc ds s = K e (F vars loc ds) s
theorem put_next {n : Nat} {dst : Option Tmp} {ks : List Nat} {put : JP} (hp : jPut n dst = .mk put) {r : JK} {K : JE → OpsK} (hr : NextOk n dst ks r K) (e : JE) (v : Value) (vars : Tr Value) (loc : Loc') (ds : Dfs) (s : St) (hk : keys loc = ks) :
    put r e v vars loc ds s = K e (Fr.put n (F vars loc ds) dst v) s := by
  rw [jPut_ok hp, hr e _ _ ds s (by rw [put_keys, hk])]
  rw [show F (Fr.put n (F vars loc ds) dst v).vars (Fr.put n (F vars loc ds) dst v).loc ds = Fr.put n (F vars loc ds) dst v from fr_eta _ (put_defers n vars loc ds dst v)]
theorem jGen_ok {C : Cfg} {rd : Bool} {n : Nat} {ks : List Nat} {o : Oper} {r : JK} {K : JE → OpsK} (hr : NextOk n o.dst ks r K) (e : JE) (vars : Tr Value) (loc : Loc') (ds : Dfs) (s : St) (hk : keys loc = ks) :
    jGen C rd n o r e vars loc ds s = obind (execOp C (Fr.ev n (F vars loc ds)) s o.op) (afterOp e.call e.yield rd n (F vars loc ds) o.dst (K e)) := by
  apply obind_congr
  intro q
  have hg : ∀ ds' v s', (fun (fr : Fr) s => r e fr.vars fr.loc fr.defers s) (Fr.put n (F vars loc ds') o.dst v) s' = K e (Fr.put n (F vars loc ds') o.dst v) s' := by
    intro ds' v s'
    have h := hr e (Fr.put n (F vars loc ds') o.dst v).vars (Fr.put n (F vars loc ds') o.dst v).loc (Fr.put n (F vars loc ds') o.dst v).defers s' (by rw [put_keys, hk])
    exact h
  cases q with
  | val v s => exact hg ds v s
  | call f args s => exact obind_congr _ fun q => hg ds q.1 q.2
  | yield l args s => exact obind_congr _ fun q => hg ds q.1 q.2
  | defer f args s =>
    show sel rd none _ = sel rd none _
    cases rd with
    | true => rfl
    | false => exact hg _ unit s
theorem appL_nil {α : Type} (l : List α) : appL l [] = l := by rw [appL_eq, List.append_nil]
theorem jOp_ok {C : Cfg} {rd : Bool} {n : Nat} {ks : List Nat} {o : Oper} {put : JP} (hp : jPut n o.dst = .mk put) {r : JK} {K : JE → OpsK} (hr : NextOk n o.dst ks r K) {f : JK} (h : jOp C rd n ks o put r = .mk f)
    (e : JE) (vars : Tr Value) (loc : Loc') (ds : Dfs) (s : St) (hk : keys loc = ks) :
    f e vars loc ds s = obind (execOp C (Fr.ev n (F vars loc ds)) s o.op) (afterOp e.call e.yield rd n (F vars loc ds) o.dst (K e)) := by
  have gen : Box.mk (jGen C rd n o r) = .mk f → f e vars loc ds s = obind (execOp C (Fr.ev n (F vars loc ds)) s o.op) (afterOp e.call e.yield rd n (F vars loc ds) o.dst (K e)) := by
    intro h; have h := mk_inj h; subst h; exact jGen_ok hr e vars loc ds s hk
  have val : Box.rec (motive := fun _ => Box JK) (fun v => .mk fun e vars loc ds s => obind (v vars loc s) fun x => put r e x vars loc ds s) (.mk (jGen C rd n o r)) (jVal C n ks o.op) = .mk f → f e vars loc ds s = obind (execOp C (Fr.ev n (F vars loc ds)) s o.op) (afterOp e.call e.yield rd n (F vars loc ds) o.dst (K e)) := by
    intro h
    cases hv : jVal C n ks o.op with
    | bad => rw [hv] at h; exact gen h
    | mk v =>
      rw [hv] at h
      have h := mk_inj h; subst h
      rw [← jVal_ok hv vars loc ds s hk]
      show (obind (v vars loc s) fun x => put r e x vars loc ds s) = obind (obind (v vars loc s) fun v => ret v s) _
      rw [obind_assoc]
      apply obind_congr; intro x
      exact put_next hp hr e x vars loc ds s hk
  unfold jOp at h
  cases ho : o.op <;> rw [ho] at h <;> rw [← ho] <;> try exact val (by rw [ho]; exact h)
  all_goals dsimp only at h
  case alloc t =>
    cases hz : zero C.P t with
    | none => rw [hz] at h; exact gen h
    | some z =>
      rw [hz] at h
      have h := mk_inj h; subst h
      rw [ho]
      show (forceN s.next fun b => put r e (ptr b 0) vars loc ds { heap := s.heap.set b (.row z t 0), fams := s.fams, next := Nat.succ b }) = obind (obind (zero C.P t) fun z => s.new (.row z t 0) fun id s => ret (ptr id 0) s) _
      rw [hz, forceN_eq]
      exact put_next hp hr e _ vars loc ds _ hk
  case box t x =>
    obtain ⟨g, h1, h⟩ := bbind_mk.1 h
    have h := mk_inj h; subst h
    rw [ho]
    show (obind (g vars loc) fun v => forceN s.next fun b => put r e (ptr b 0) vars loc ds { heap := s.heap.set b (.row (cellsOf v) t 0), fams := s.fams, next := Nat.succ b }) = obind (obind (Fr.ev n (F vars loc ds) x) fun v => s.new (.row (cellsOf v) t 0) fun id s => ret (ptr id 0) s) _
    rw [jGet_ok h1 vars loc ds hk, obind_assoc]
    apply obind_congr; intro v
    rw [forceN_eq]
    exact put_next hp hr e _ vars loc ds _ hk
  case store t a x =>
    obtain ⟨ga, h1, h⟩ := bbind_mk.1 h
    obtain ⟨gx, h2, h⟩ := bbind_mk.1 h
    cases hz : size C.P t with
    | none => rw [hz] at h; exact gen h
    | some m =>
      rw [hz] at h
      have h := mk_inj h; subst h
      rw [ho]
      show (obind (ga vars loc) fun v => ptrK v fun a => obind (gx vars loc) fun v => guard (Nat.beq (lenL (cellsOf v)) m) (obind (storeCells s a.block a.off (cellsOf v)) fun s => put r e unit vars loc ds s)) = obind (oStore C (Fr.ev n (F vars loc ds)) s t a x) _
      show _ = obind (obind (Fr.ev n (F vars loc ds) a) fun v => _) _
      rw [jGet_ok h1 vars loc ds hk, jGet_ok h2 vars loc ds hk, obind_assoc]
      apply obind_congr; intro v
      cases v <;> try rfl
      rename_i p
      cases p with
      | none => rfl
      | some p =>
        show (obind (Fr.ev n (F vars loc ds) x) fun v => guard (Nat.beq (lenL (cellsOf v)) m) (obind (storeCells s p.block p.off (cellsOf v)) fun s => put r e unit vars loc ds s)) = obind (obind (Fr.ev n (F vars loc ds) x) fun v => obind (obind (size C.P t) fun n => guard (Nat.beq (lenL (cellsOf v)) n) (storeCells s p.block p.off (cellsOf v))) fun s => ret unit s) _
        rw [obind_assoc]
        apply obind_congr; intro v
        rw [obind_assoc, hz]
        show _ = obind (guard _ _) _
        rw [guard_obind]
        cases Nat.beq (lenL (cellsOf v)) m with
        | false => rfl
        | true =>
          apply obind_congr; intro s'
          exact put_next hp hr e unit vars loc ds s' hk
  case call c =>
    cases hc : c.callee with
    | builtin b => simp only [hc] at h; exact gen h
    | invoke a b => simp only [hc] at h; exact gen h
    | value x =>
      simp only [hc] at h
      cases x with
      | tmp t => exact gen h
      | const t => exact gen h
      | global t => exact gen h
      | func g =>
        have h : Option.casesOn (C.ext g) (sel (C.body g).isSome (bbind (jGets n ks c.args.toList) fun gs => .mk fun e vars loc ds s => obind (gs vars loc) fun args => obind (e.call g args s) fun q => put r e q.1 vars loc ds q.2) (.mk (jGen C rd n o r))) (fun _ => .mk (jGen C rd n o r)) = Box.mk f := h
        cases he : C.ext g with
        | some x => rw [he] at h; exact gen h
        | none =>
          rw [he] at h
          have h : sel (C.body g).isSome (bbind (jGets n ks c.args.toList) fun gs => .mk fun e vars loc ds s => obind (gs vars loc) fun args => obind (e.call g args s) fun q => put r e q.1 vars loc ds q.2) (.mk (jGen C rd n o r)) = Box.mk f := h
          cases hb : (C.body g).isSome with
          | false => rw [hb] at h; exact gen h
          | true =>
            rw [hb] at h
            obtain ⟨gs, h1, h⟩ := bbind_mk.1 h
            have h := mk_inj h; subst h
            rw [ho]
            show (obind (gs vars loc) fun args => obind (e.call g args s) fun q => put r e q.1 vars loc ds q.2) = obind (oCall C (Fr.ev n (F vars loc ds)) s c) _
            unfold oCall
            rw [hc, jGets_ok h1 vars loc ds hk, obind_assoc]
            apply obind_congr; intro args
            show _ = obind (callAny C s g (appL [] (appL args []))) _
            rw [appL_nil]
            show _ = obind (Option.casesOn (C.ext g) (guard (C.body g).isSome (some (.call g args s))) fun e => obind (callExt C s e args) toRes) _
            rw [he, hb]
            show _ = obind (e.call g args s) fun q => K e (Fr.put n (F vars loc ds) o.dst q.1) q.2
            apply obind_congr; intro q
            exact put_next hp hr e q.1 vars loc ds q.2 hk
theorem jGuard_ok {n : Nat} {all : List Oper} {ks : List Nat} {dst : Option Tmp} {g : Option (Nat × Bool)} {put : JP} (hp : jPut n dst = .mk put) {f r : JK} {K : JE → OpsK} (hr : NextOk n dst ks r K)
    (e : JE) (vars : Tr Value) (loc : Loc') (ds : Dfs) (s : St) (hk : keys loc = ks) :
    jGuard n all g put f r e vars loc ds s = obind (guardOk n all (F vars loc ds) g) fun b => sel b (f e vars loc ds s) (K e (Fr.put n (F vars loc ds) dst unit) s) := by
  cases g with
  | none => rfl
  | some g =>
    apply obind_congr; intro b
    rw [put_next hp hr e unit vars loc ds s hk]
theorem jOne_ok {C : Cfg} {rd : Bool} {n : Nat} {all : List Oper} {ks : List Nat} {o : Oper} {r : JK} {K : JE → OpsK} (hr : NextOk n o.dst ks r K) {f : JK} (h : jOne C rd n all ks o r = .mk f)
    (e : JE) (vars : Tr Value) (loc : Loc') (ds : Dfs) (s : St) (hk : keys loc = ks) :
    f e vars loc ds s = oneOp C e.call e.yield rd n all o (K e) (F vars loc ds) s := by
  obtain ⟨put, hp, h⟩ := bbind_mk.1 h
  obtain ⟨f', h1, h⟩ := bbind_mk.1 h
  have h := mk_inj h; subst h
  rw [jGuard_ok hp hr e vars loc ds s hk]
  apply obind_congr; intro b
  rw [jOp_ok hp hr h1 e vars loc ds s hk]
theorem jOps_ok {C : Cfg} {rd : Bool} {n : Nat} {all : List Oper} : ∀ {ops : List Oper} {ks : List Nat} {f : JK}, jOps C rd n all ops ks = .mk f →
    ∀ e vars loc ds s, keys loc = ks → f e vars loc ds s = execOps C e.call e.yield rd n all ops (F vars loc ds) s := by
  intro ops
  induction ops with
  | nil => intro ks f h e vars loc ds s hk; have h := mk_inj h; subst h; rfl
  | cons o ops ih =>
    intro ks f h e vars loc ds s hk
    obtain ⟨r, h1, h⟩ := bbind_mk.1 (show bbind (jOps C rd n all ops (jPush n o.dst ks)) (fun r => jOne C rd n all ks o r) = .mk f from h)
    exact jOne_ok (K := fun e => execOps C e.call e.yield rd n all ops) (fun e vars loc ds s hk => ih h1 e vars loc ds s hk) h e vars loc ds s hk
abbrev pureK {β : Type} (k : Value → Option β) (r : Res) : Option β :=
  match r with
  | .val v _ => k v
  | _ => none
theorem jVal_or {C : Cfg} {n : Nat} {ks : List Nat} {o : Op} {v : JV} (h : bor (jVal C n ks o) (.mk (jValGen C n o)) = .mk v) (vars : Tr Value) (loc : Loc') (ds : Dfs) (s : St) (hk : keys loc = ks) {β : Type} (k : Value → Option β) :
    obind (v vars loc s) k = obind (execOp C (Fr.ev n (F vars loc ds)) s o) (pureK k) := by
  cases hv : jVal C n ks o with
  | mk w =>
    rw [hv] at h
    have h := mk_inj h; subst h
    rw [← jVal_ok hv vars loc ds s hk]
    cases w vars loc s <;> rfl
  | bad =>
    rw [hv] at h
    have h := mk_inj h; subst h
    show obind (obind (execOp C (Fr.ev n (F vars loc ds)) s o) _) k = _
    rw [obind_assoc]
    apply obind_congr; intro r
    cases r <;> rfl
def NextD (n : Nat) (dst : Option Tmp) (ks : List Nat) (r : JK) (K : JE → DrawK) : Prop :=
  ∀ e vars loc ds s, keys loc = jPush n dst ks → r e vars loc ds s = K e e.cl e.pend (F vars loc ds) s
def Same (K : JE → DrawK) : Prop := (∀ e l, K (withPend e l) = K e) ∧ ∀ e b, K (withCl e b) = K e
theorem afterOp_congr {call : CallT} {yield : YieldT} {rd : Bool} {n : Nat} {ks : List Nat} {dst : Option Tmp} {k l : OpsK} (h : ∀ vars loc ds s, keys loc = jPush n dst ks → k (F vars loc ds) s = l (F vars loc ds) s)
    (vars : Tr Value) (loc : Loc') (ds : Dfs) (hk : keys loc = ks) (q : Res) : afterOp call yield rd n (F vars loc ds) dst k q = afterOp call yield rd n (F vars loc ds) dst l q := by
  have hg : ∀ ds' v s', k (Fr.put n (F vars loc ds') dst v) s' = l (Fr.put n (F vars loc ds') dst v) s' := by
    intro ds' v s'
    exact h (Fr.put n (F vars loc ds') dst v).vars (Fr.put n (F vars loc ds') dst v).loc (Fr.put n (F vars loc ds') dst v).defers s' (by rw [put_keys, hk])
  cases q with
  | val v s => exact hg ds v s
  | call f args s => exact obind_congr _ fun q => hg ds q.1 q.2
  | yield l args s => exact obind_congr _ fun q => hg ds q.1 q.2
  | defer f args s =>
    show sel rd none _ = sel rd none _
    cases rd with
    | true => rfl
    | false => exact hg _ unit s
theorem noQuiet {C : Cfg} {n : Nat} {fr : Fr} {s : St} {o : Op} {q : Res} (hb : (quietOp o && mayQuiet C o) = false) (hx : execOp C (Fr.ev n fr) s o = some q) : (quietOp o && quietCall C q) = false := by
  cases hq : quietOp o with
  | false => rfl
  | true =>
    rw [hq, Bool.true_and] at hb
    rw [Bool.true_and]
    unfold quietOp at hq
    split at hq
    · rename_i c
      split at hq
      · rename_i x hcx
        unfold mayQuiet at hb
        simp only [hcx] at hb
        cases x with
        | func f =>
          have hb : Option.casesOn (C.insert f) false (fun t => match t with | .pure _ => true | _ => false) = false := hb
          change oCall C (Fr.ev n fr) s c = some q at hx
          unfold oCall at hx
          obtain ⟨xs, _, hx⟩ := obind_some.1 hx
          rw [hcx] at hx
          have hx : callAny C s f (appL [] (appL xs [])) = some q := hx
          unfold callAny at hx
          cases he : C.ext f with
          | none =>
            rw [he] at hx
            obtain ⟨_, hx⟩ := guard_some.1 hx
            cases hx
            show Option.casesOn (C.insert f) false (fun t => conQuiet t _) = false
            cases hi : C.insert f with
            | none => rfl
            | some t =>
              rw [hi] at hb
              cases t <;> first | rfl | (exact Bool.noConfusion hb)
          | some e =>
            rw [he] at hx
            obtain ⟨_, _, hx⟩ := obind_some.1 hx
            cases hx
            rfl
        | _ => exact Bool.noConfusion hb
      · cases hq
    · cases hq
theorem jDraw1_ok {C : Cfg} {rd : Bool} {n : Nat} {ks : List Nat} {a : Info} {rest : List Info} {all : List Oper} {put : JP} (hp : jPut n a.op.dst = .mk put) {r : JK} {K : JE → DrawK} (hs : Same K) (hr : NextD n a.op.dst ks r K) {f : JK} (h : jDraw1 C rd n ks a rest put r = .mk f)
    (e : JE) (vars : Tr Value) (loc : Loc') (ds : Dfs) (s : St) (hk : keys loc = ks) :
    (obind (guardOk n all (F vars loc ds) a.op.guard) fun b => sel b (f e vars loc ds s) (K e e.cl e.pend (Fr.put n (F vars loc ds) a.op.dst unit) s)) = drawOne C e.call e.yield rd n all e.base a rest (K e) e.cl e.pend (F vars loc ds) s := by
  have hr' : NextOk n a.op.dst ks r (fun e => K e e.cl e.pend) := hr
  unfold jDraw1 at h
  unfold drawOne
  apply obind_congr; intro b
  cases b with
  | false => rfl
  | true =>
    show f e vars loc ds s = ncase a.cls _ _
    generalize a.cls = c at h ⊢
    match c with
    | 0 =>
      obtain ⟨v, h1, h⟩ := bbind_mk.1 h
      have h := mk_inj h; subst h
      show (obind (v vars loc s) fun x => put r e x vars loc ds s) = _
      rw [jVal_or h1 vars loc ds s hk]
      apply obind_congr; intro q
      cases q <;> try rfl
      exact put_next hp hr' e _ vars loc ds s hk
    | 1 =>
      obtain ⟨v, h1, h⟩ := bbind_mk.1 h
      have h := mk_inj h; subst h
      show (obind (v vars loc s) fun x => guard (quietV s x) (put r (withPend e ({ i := a.i, op := a.op.op, fr := { vars := vars, loc := loc, defers := ds }, v := x } :: e.pend)) x vars loc ds s)) = _
      rw [jVal_or h1 vars loc ds s hk]
      apply obind_congr; intro q
      cases q <;> try rfl
      rename_i x s'
      show guard (quietV s x) _ = guard (quietV s x) _
      rw [put_next hp hr' _ x vars loc ds s hk, hs.1]
      rfl
    | 2 =>
      have h := mk_inj h; subst h
      apply obind_congr; intro q
      rw [forceN_eq, put_next hp hr' (withCl e false) _ vars loc ds _ hk, hs.2]
      rfl
    | k + 3 =>
      show _ = obind (execOp C (Fr.ev n (F vars loc ds)) s a.op.op) (drawLoud C e.call e.yield rd n e.base a rest (K e) e.cl e.pend (F vars loc ds))
      cases hb : (quietOp a.op.op && mayQuiet C a.op.op) with
      | true =>
        have h : (sel (quietOp a.op.op && mayQuiet C a.op.op) (.mk (jLoud C rd n a rest r)) (jOp C rd n ks a.op put fun e vars loc ds s => guard (lookAll C n s a.mask e.pend && freeIds s e.base rest) (r (withCl e false) vars loc ds s)) : Box JK) = .mk f := h
        rw [hb, sel_true] at h
        have h := mk_inj h; subst h
        apply obind_congr; intro q
        have hcl : ∀ cl (g : St → Bool), ∀ vars loc ds s, keys loc = jPush n a.op.dst ks → guard (g s) (r (withCl (withPend e e.pend) cl) vars loc ds s) = guard (g s) (K e cl e.pend (F vars loc ds) s) := by
          intro cl g vars loc ds s hk
          rw [hr (withCl (withPend e e.pend) cl) vars loc ds s hk, hs.2, hs.1]
          rfl
        unfold drawLoud
        rw [afterOp_congr (k := fun fr s => guard (freeIds s e.base rest) (r (withCl (withPend e e.pend) true) fr.vars fr.loc fr.defers s)) (l := fun fr s => guard (freeIds s e.base rest) (K e true e.pend fr s)) (hcl true fun s => freeIds s e.base rest) vars loc ds hk q,
          afterOp_congr (k := fun fr s => guard (lookAll C n s a.mask e.pend && freeIds s e.base rest) (r (withCl (withPend e e.pend) false) fr.vars fr.loc fr.defers s)) (l := fun fr s => guard (lookAll C n s a.mask e.pend && freeIds s e.base rest) (K e false e.pend fr s)) (hcl false fun s => lookAll C n s a.mask e.pend && freeIds s e.base rest) vars loc ds hk q]
      | false =>
        have h : (sel (quietOp a.op.op && mayQuiet C a.op.op) (.mk (jLoud C rd n a rest r)) (jOp C rd n ks a.op put fun e vars loc ds s => guard (lookAll C n s a.mask e.pend && freeIds s e.base rest) (r (withCl e false) vars loc ds s)) : Box JK) = .mk f := h
        rw [hb, sel_false] at h
        rw [jOp_ok hp (K := fun e fr s => guard (lookAll C n s a.mask e.pend && freeIds s e.base rest) (K e false e.pend fr s)) (fun e vars loc ds s hk => by
          show guard _ _ = guard _ _
          rw [hr (withCl e false) vars loc ds s hk, hs.2]
          rfl) h e vars loc ds s hk]
        cases hx : execOp C (Fr.ev n (F vars loc ds)) s a.op.op with
        | none => rfl
        | some q =>
          rw [show ∀ (f : Res → Option (Fr × St)), obind (some q) f = f q from fun _ => rfl, show ∀ (f : Res → Option (Fr × St)), obind (some q) f = f q from fun _ => rfl]
          unfold drawLoud
          rw [noQuiet hb hx, Bool.and_false, sel_false]
theorem jDraw_ok {C : Cfg} {rd : Bool} {n : Nat} {all : List Oper} : ∀ {l : List Info} {ks : List Nat} {f : JK}, jDraw C rd n all l ks = .mk f →
    ∀ e vars loc ds s, keys loc = ks → f e vars loc ds s = drawL C e.call e.yield rd n all e.base l e.cl e.pend (F vars loc ds) s := by
  intro l
  induction l with
  | nil => intro ks f h e vars loc ds s hk; have h := mk_inj h; subst h; rfl
  | cons a rest ih =>
    intro ks f h e vars loc ds s hk
    obtain ⟨r, h1, h⟩ := bbind_mk.1 (show bbind (jDraw C rd n all rest (jPush n a.op.dst ks)) (fun r => jDrawOne C rd n all ks a rest r) = .mk f from h)
    obtain ⟨put, hp, h⟩ := bbind_mk.1 h
    obtain ⟨f', h2, h⟩ := bbind_mk.1 h
    have h := mk_inj h; subst h
    have hr : NextD n a.op.dst ks r (fun e => drawL C e.call e.yield rd n all e.base rest) := fun e vars loc ds s hk => ih h1 e vars loc ds s hk
    rw [jGuard_ok hp (K := fun e => drawL C e.call e.yield rd n all e.base rest e.cl e.pend) hr e vars loc ds s hk]
    exact jDraw1_ok hp ⟨fun e l => rfl, fun e b => rfl⟩ hr h2 e vars loc ds s hk
theorem jRegion_ok {C : Cfg} {n : Nat} {fn : FuncId} {rd : Bool} {id : Nat} {ops : List Oper} {draw : Bool} {f : JRun} (h : jRegion C n fn rd id ops draw = .mk f) (call : CallT) (yield : YieldT) (fr : Fr) (s : St) :
    f call yield fr s = obind (sel draw (execDraw C call yield rd n ops (C.order fn id) fr.fresh s) (execOps C call yield rd n ops ops fr.fresh s)) fun r => some (.normal, r) := by
  cases draw with
  | false =>
    obtain ⟨r, h1, h⟩ := bbind_mk.1 (show bbind (jOps C rd n ops ops []) (fun r => .mk fun call yield fr s => obind (r { call := call, yield := yield, base := 0, pend := [], cl := true } fr.vars [] fr.defers s) toOut) = Box.mk f from h)
    have h := mk_inj h; subst h
    show obind (r _ fr.vars [] fr.defers s) toOut = obind (execOps C call yield rd n ops ops fr.fresh s) _
    rw [jOps_ok h1 _ _ _ _ _ rfl]; rfl
  | true =>
    have h : Option.casesOn (planOf ops (C.order fn id)) .bad (fun l => bbind (jDraw C rd n ops l []) fun r => .mk fun call yield fr s =>
      obind (r { call := call, yield := yield, base := s.next, pend := [], cl := true } fr.vars [] fr.defers { heap := s.heap, fams := s.fams, next := Nat.add s.next (lenL ops) }) toOut) = Box.mk f := h
    show _ = obind (obind (planOf ops (C.order fn id)) fun l => drawL C call yield rd n ops s.next l true [] fr.fresh { heap := s.heap, fams := s.fams, next := Nat.add s.next (lenL ops) }) _
    cases hp : planOf ops (C.order fn id) with
    | none => rw [hp] at h; cases h
    | some l =>
      rw [hp] at h
      obtain ⟨r, h1, h⟩ := bbind_mk.1 h
      have h := mk_inj h; subst h
      show obind (r _ fr.vars [] fr.defers _) toOut = obind (drawL C call yield rd n ops s.next l true [] fr.fresh _) _
      rw [jDraw_ok h1 _ _ _ _ _ rfl]; rfl
theorem jCond_ok {n : Nat} {x : Operand} {g : Fr → Option Value} (h : jCond n x = .mk g) (fr : Fr) : g fr = fr.ev n x := by
  cases x with
  | tmp t =>
    have h : sel (ltN t n) (bbind (jGetP (path t)) fun g => .mk fun fr => g fr.vars) (.mk fun fr => fr.ev n (.tmp t)) = Box.mk g := h
    cases hb : ltN t n with
    | true =>
      rw [hb] at h
      obtain ⟨g', h1, h⟩ := bbind_mk.1 (show bbind (jGetP (path t)) (fun g => .mk fun (fr : Fr) => g fr.vars) = Box.mk g from h)
      have h := mk_inj h; subst h
      show g' fr.vars = sel (ltN t n) (fr.vars.get t) (findLoc t fr.loc)
      rw [hb, jGetP_ok _ g' h1]; rfl
    | false => rw [hb] at h; have h := mk_inj h; subst h; rfl
  | const v => have h := mk_inj h; subst h; rfl
  | global v => have h := mk_inj h; subst h; rfl
  | func v => have h := mk_inj h; subst h; rfl
theorem boolK_cond (v : Value) (a b : Run) (fr : Fr) (s : St) : boolK v (a fr s) (b fr s) = condRun a b fr s v := by cases v <;> rfl
theorem jCode_ok {C : Cfg} {n : Nat} {fn : FuncId} {rd : Bool} : ∀ (c : Code) {f : JRun}, jCode C n fn rd c = .mk f → ∀ call yield, f call yield = exec C call yield n fn rd c := by
  intro c
  induction c with
  | skip => intro f h call yield; have h := mk_inj h; subst h; rfl
  | region id ops draw =>
    intro f h call yield
    funext fr s
    exact jRegion_ok h call yield fr s
  | seq a b iha ihb =>
    intro f h call yield
    obtain ⟨ra, h1, h⟩ := bbind_mk.1 (show bbind (jCode C n fn rd a) (fun ra => bbind (jCode C n fn rd b) fun rb => .mk fun call yield fr s => obind (ra call yield fr s) (iterNext (rb call yield))) = Box.mk f from h)
    obtain ⟨rb, h2, h⟩ := bbind_mk.1 h
    have h := mk_inj h; subst h
    funext fr s
    show obind (ra call yield fr s) (iterNext (rb call yield)) = obind (exec C call yield n fn rd a fr s) (iterNext (exec C call yield n fn rd b))
    rw [iha h1, ihb h2]
  | cond x a b iha ihb =>
    intro f h call yield
    obtain ⟨g, h0, h⟩ := bbind_mk.1 (show bbind (jCond n x) (fun g => bbind (jCode C n fn rd a) fun ra => bbind (jCode C n fn rd b) fun rb => .mk fun call yield fr s => obind (g fr) fun v => boolK v (ra call yield fr s) (rb call yield fr s)) = Box.mk f from h)
    obtain ⟨ra, h1, h⟩ := bbind_mk.1 h
    obtain ⟨rb, h2, h⟩ := bbind_mk.1 h
    have h := mk_inj h; subst h
    funext fr s
    show (obind (g fr) fun v => boolK v (ra call yield fr s) (rb call yield fr s)) = obind (fr.ev n x) (condRun (exec C call yield n fn rd a) (exec C call yield n fn rd b) fr s)
    rw [iha h1, ihb h2, jCond_ok h0]
    apply obind_congr; intro v
    exact boolK_cond _ _ _ _ _
  | block id a iha =>
    intro f h call yield
    obtain ⟨ra, h1, h⟩ := bbind_mk.1 (show bbind (jCode C n fn rd a) (fun ra => .mk fun call yield fr s => obind (ra call yield fr s) (blockEnd id)) = Box.mk f from h)
    have h := mk_inj h; subst h
    funext fr s
    show obind (ra call yield fr s) (blockEnd id) = obind (exec C call yield n fn rd a fr s) (blockEnd id)
    rw [iha h1]
  | loop a iha =>
    intro f h call yield
    obtain ⟨ra, h1, h⟩ := bbind_mk.1 (show bbind (jCode C n fn rd a) (fun ra => .mk fun call yield fr s => loopAlt C fn rd a (iter (ra call yield) 100000) fr s) = Box.mk f from h)
    have h := mk_inj h; subst h
    funext fr s
    show loopAlt C fn rd a (iter (ra call yield) 100000) fr s = loopAlt C fn rd a (iter (exec C call yield n fn rd a) 100000) fr s
    rw [iha h1]
  | scope a iha =>
    intro f h call yield
    have h : sel rd (.mk fun _ _ _ _ => none) (jCode C n fn rd a) = Box.mk f := h
    funext fr s
    show _ = sel rd none (exec C call yield n fn rd a fr s)
    cases rd with
    | true => have h := mk_inj h; subst h; rfl
    | false => rw [iha h]; rfl
  | _ => intro f h call yield; have h := mk_inj h; subst h; rfl
theorem jBody_eq (C : Cfg) (call : CallT) (yield : YieldT) (f : FuncId) (args : List Value) (s : St) : jBody C call yield f args s = callBody C call yield f args s := by
  unfold jBody
  cases hj : jFn C f with
  | bad => rfl
  | mk run =>
    show run call yield args s = callBody C call yield f args s
    have h : Option.casesOn (C.body f) .bad (fun c => bbind (jCode C (C.vars f) f false c) fun run => .mk fun call yield args s => obind (run call yield (startFr args) s) (finish C (callDR C call yield) f)) = Box.mk run := hj
    unfold callBody
    cases hb : C.body f with
    | none => rw [hb] at h; cases h
    | some c =>
      rw [hb] at h
      obtain ⟨ra, h1, h⟩ := bbind_mk.1 h
      have h := mk_inj h; subst h
      show obind (ra call yield (startFr args) s) _ = obind (exec C call yield (C.vars f) f false c (startFr args) s) _
      rw [jCode_ok c h1]
theorem jStep_eq (C : Cfg) (call : CallT) (yield : YieldT) : jStep C call yield = callStep C call yield := by
  funext f args s
  unfold jStep callStep
  rw [jBody_eq]
theorem jRunN_eq (C : Cfg) : ∀ n, jRunN C n = runN C n := by
  intro n
  induction n with
  | zero => rfl
  | succ n ih =>
    show (jStep C (jRunN C n).1 (jRunN C n).2, yieldStep C (jRunN C n).1 (jRunN C n).2) = (callStep C (runN C n).1 (runN C n).2, yieldStep C (runN C n).1 (runN C n).2)
    rw [ih, jStep_eq]
end Go.Ax
