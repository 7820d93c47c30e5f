import Derived.Test.YtcjdpbcgmdhjfaaGreatDoorDe
import Derived.LoopNIn
import Derived.Scope
import Derived.RangeFuncRecord
import Derived.Laws.Externs
import Derived.Shelf.Spec.BitsCarry
namespace Go.Ax
open Go
noncomputable section

def exq : Ex → Exit
  | .normal => .normal
  | .exit id => .exit id
  | .ret => .ret

/-! ### more temporaries -/
theorem ltN_mono {a b c : Nat} (h : ltN a b = true) (hb : b ≤ c) : ltN a c = true := by
  rw [ltN_eq] at *
  simp at *
  omega
theorem dstOk_mono {n m : Nat} (hm : n ≤ m) {d : Option Tmp} (h : dstOk n d = true) : dstOk m d = true := by
  cases d with
  | none => rfl
  | some d => exact ltN_mono h hm
theorem okOpers_mono {n m : Nat} (hm : n ≤ m) : ∀ {l : List Oper}, okOpers n l = true → okOpers m l = true
  | [], _ => rfl
  | o :: l, h => by
    change sel (okOper n o) (okOpers n l) false = true at h
    show sel (okOper m o) (okOpers m l) false = true
    rw [sel_eq] at *
    split at h
    · rename_i ho
      obtain ⟨h1, h2⟩ := okOper_some ho
      rw [if_pos (by unfold okOper; rw [dstOk_mono hm h1, h2]; rfl)]
      exact okOpers_mono hm h
    · cases h
theorem okTmps_mono {n m : Nat} (hm : n ≤ m) : ∀ {l : List Nat}, okTmps n l = true → okTmps m l = true
  | [], _ => rfl
  | o :: l, h => by
    change sel (ltN o n) (okTmps n l) false = true at h
    show sel (ltN o m) (okTmps m l) false = true
    rw [sel_eq] at *
    split at h
    · rename_i ho
      rw [if_pos (ltN_mono ho hm)]
      exact okTmps_mono hm h
    · cases h
theorem sel_and {a b : Bool} (h : sel a b false = true) : a = true ∧ b = true := by cases a <;> simp [sel] at h ⊢; exact h

theorem okCode_mono {n m : Nat} (hm : n ≤ m) : ∀ {c : Code}, okCode n c = true → okCode m c = true := by
  intro c
  induction c with
  | skip => exact fun _ => rfl
  | region id ops d => exact fun h => okOpers_mono hm h
  | seq a b iha ihb => intro h; obtain ⟨h1, h2⟩ := sel_and h; show sel (okCode m a) (okCode m b) false = true; rw [iha h1]; exact ihb h2
  | cond c a b iha ihb =>
    intro h
    obtain ⟨h0, h⟩ := sel_and h
    obtain ⟨h1, h2⟩ := sel_and h
    show sel (okOpnd c) (sel (okCode m a) (okCode m b) false) false = true
    rw [h0, iha h1]; exact ihb h2
  | block id a iha => exact fun h => iha h
  | loop a iha => exact fun h => iha h
  | rangeFunc f ps a b iha ihb =>
    intro h
    obtain ⟨h0, h⟩ := sel_and h
    obtain ⟨h1, h2⟩ := sel_and h
    simp only [Bool.and_eq_true] at h0
    show sel (okOpnd f && okTmps m ps.toList) (sel (okCode m a) (okCode m b) false) false = true
    rw [h0.1, okTmps_mono hm h0.2, iha h1]; exact ihb h2
  | exit id => exact fun _ => rfl
  | scope a iha => exact fun h => iha h
  | label l => exact fun _ => rfl
  | goto l => exact fun _ => rfl
  | ret => exact fun _ => rfl
  | refuse w => exact fun _ => rfl

section
variable {P : Program} {B : Nat} {C : Cfg}

theorem FrR.fresh {mk : Option Nat} {n nt : Nat} {ρ : Ren} {s : St} {w : World} {fr : Fr} {a : Act} (hf : FrR mk n nt ρ s w fr a) : FrR mk n nt ρ s w fr.fresh a := by
  refine ⟨hf.size, fun t v ht => ?_, hf.defers, hf.nomark⟩
  unfold Fr.get at ht
  rw [sel_eq] at ht
  split at ht
  · rename_i hlt
    refine hf.tmps t v ?_
    unfold Fr.get
    rw [hlt]
    exact ht
  · cases ht

theorem iter_succ (f : Run) (k : Nat) (fr : Fr) (s : St) : iter f (k + 1) fr s = obind (f fr s) (iterNext (iter f k)) := rfl

theorem DefR.marks {ρ : Ren} {s : St} {w : World} {l : List (FuncId × List Value)} {ds : List Deferred} (h : DefR ρ s w l ds) : ∀ d ∈ ds, ∀ q, d.target = .collected q → MarkOk ρ s w q := by
  induction h with
  | nil => intro d hd; cases hd
  | cons ht ha hv _ ih =>
    intro d hd q hq
    rcases List.mem_cons.1 hd with rfl | hd
    · rw [ht] at hq; cases hq
    · exact ih d hd q hq
  | mark hm hlt _ ih =>
    intro d hd q hq
    rcases List.mem_cons.1 hd with rfl | hd
    · cases hq; exact hm
    · exact ih d hd q hq

theorem getLoop_some {s : St} {l : Nat} {r : ALoop} (h : Ax.getLoop s l = some r) : s.heap.get l = some (.loop r) := by
  unfold Ax.getLoop at h
  split at h
  · cases h; assumption
  · cases h

theorem getLoop_sound {ρ : Ren} {s : St} {w : World} (h : HR P B ρ s w) {l : Nat} {r : ALoop} (hg : Ax.getLoop s l = some r) : ∃ loc q, ρ l = some loc ∧ s.tag l = some (0, l) ∧ w.heap[loc.blk]? = some (.loop q) ∧ LoopR ρ r q := by
  have := getLoop_some hg
  obtain ⟨loc, h1, q, h2, h3⟩ := h.loops l r this
  exact ⟨loc, q, h1, tag_loop this, h2, h3⟩

theorem setLoop_goes {ρ : Ren} {s : St} {w : World} (h : HR P B ρ s w) {l : Nat} {r : ALoop} (hg : Ax.getLoop s l = some r) {loc : Loc} {q : Loop} (hl : ρ l = some loc) (hq : LoopR ρ r q) (st : LoopState) (pe : Option Code) :
    Goes P B ρ s w ρ (setLoop s l r st pe) (w.putObj loc.blk (.loop { q with state := st, pending := pe })) := by
  have := getLoop_some hg
  exact Goes.putObj h (tag_loop this) hl (.inr ⟨_, rfl, _, rfl, ⟨rfl, rfl, hq.vars, hq.params, hq.assign, hq.body, hq.code⟩⟩)

/-- CODE. -/
theorem exec_wp (hK : CfgOk C P) {call : CallT} {yield : YieldT} (hc : CallOk P call) (hy : YieldOk P yield) (hmix : P.follows .mixedOrders = true) {ro : Option Nat} {m n nt : Nat} {mk : Option Nat} {fn : FuncId} :
    ∀ (c : Code), okCode nt c = true → (mk = none → noRange c = true) → ∀ (fr : Fr) (s : St) (e : Ex) (fr' : Fr) (s' : St) (ρ : Ren) (a : Act) (w : World) (Q : Exit → Act → World → Prop),
      exec C call yield n fn ro.isSome c fr s = some (e, fr', s') → HR P B ρ s w → FrR mk n nt ρ s w fr a → (∀ k, mk = some k → k ≤ w.heap.size) →
      (∀ ρ' w' a', Goes P B ρ s w ρ' s' w' → FrR mk n nt ρ' s' w' fr' a' → Q (exq e) a' w') → c.wpIn (Fro ro) m P Q a w := by
  intro c
  induction c with
  | skip =>
    intro _ _ fr s e fr' s' ρ a w Q h hr hf hlo hq
    cases h
    exact wpIn_skip (hq ρ w a (Goes.refl hr) hf)
  | region id ops d =>
    intro hok _ fr s e fr' s' ρ a w Q h hr hf hlo hq
    change obind (sel d (execDraw C call yield ro.isSome n ops.toList (C.order fn id) fr.fresh s) (execOps C call yield ro.isSome n ops.toList ops.toList fr.fresh s)) (fun r => some (Ex.normal, r)) = some (e, fr', s') at h
    obtain ⟨⟨fr2, s2⟩, hd, h⟩ := obind_some.1 h
    cases h
    cases d with
    | true => exact draw_wp hK hc hy hmix hok hd hr hf.fresh hq
    | false =>
      refine wpIn_region ?_
      rw [List.range_eq_range']
      have := ops_wp hK hc hy (m := m) (Q := Q) hok ops.toList 0 rfl fr.fresh s _ _ ρ a w hd hr hf.fresh hq
      simpa using this
  | seq x y ihx ihy =>
    intro hok hnr fr s e fr' s' ρ a w Q h hr hf hlo hq
    obtain ⟨o1, o2⟩ := sel_and hok
    change obind (exec C call yield n fn ro.isSome x fr s) (iterNext (exec C call yield n fn ro.isSome y)) = some (e, fr', s') at h
    obtain ⟨⟨e1, fr1, s1⟩, h1, h2⟩ := obind_some.1 h
    refine wpIn_seq (ihx o1 (fun hm => (sel_and (hnr hm)).1) fr s e1 fr1 s1 ρ a w _ h1 hr hf hlo ?_)
    intro ρ1 w1 a1 hg1 hf1
    cases e1 with
    | normal => exact ihy o2 (fun hm => (sel_and (hnr hm)).2) fr1 s1 e fr' s' ρ1 a1 w1 Q h2 hg1.hr hf1 (fun k hk => Nat.le_trans (hlo k hk) hg1.grow) fun ρ2 w2 a2 hg2 hf2 => hq ρ2 w2 a2 (hg1.trans hg2) hf2
    | exit id => cases h2; exact hq ρ1 w1 a1 hg1 hf1
    | ret => cases h2; exact hq ρ1 w1 a1 hg1 hf1
  | cond x y z ihy ihz =>
    intro hok hnr fr s e fr' s' ρ a w Q h hr hf hlo hq
    obtain ⟨o0, o1⟩ := sel_and hok
    obtain ⟨o1, o2⟩ := sel_and o1
    change obind (fr.ev n x) (condRun (exec C call yield n fn ro.isSome y) (exec C call yield n fn ro.isSome z) fr s) = some (e, fr', s') at h
    obtain ⟨v, hv, h⟩ := obind_some.1 h
    have hvr := opnd_vr (ρ := ρ) (a := a) o0 (fun t u _ hu => hf.tmps t u hu) hv
    unfold condRun at h
    split at h
    · rename_i b
      generalize hav : a.eval x = av at hvr
      cases hvr
      rw [sel_eq] at h
      refine wpIn_cond hav ?_
      cases b with
      | true => exact ihy o1 (fun hm => (sel_and (hnr hm)).1) fr s e fr' s' ρ a w Q h hr hf hlo hq
      | false => exact ihz o2 (fun hm => (sel_and (hnr hm)).2) fr s e fr' s' ρ a w Q h hr hf hlo hq
    · cases h
  | block id x ihx =>
    intro hok hnr fr s e fr' s' ρ a w Q h hr hf hlo hq
    change obind (exec C call yield n fn ro.isSome x fr s) (blockEnd id) = some (e, fr', s') at h
    obtain ⟨⟨e1, fr1, s1⟩, h1, h2⟩ := obind_some.1 h
    refine wpIn_block (ihx hok hnr fr s e1 fr1 s1 ρ a w _ h1 hr hf hlo ?_)
    intro ρ1 w1 a1 hg1 hf1
    cases e1 with
    | normal => cases h2; exact hq ρ1 w1 a1 hg1 hf1
    | ret => cases h2; exact hq ρ1 w1 a1 hg1 hf1
    | exit id' =>
      change sel (Nat.beq id id') (some (Ex.normal, fr1, s1)) (some (Ex.exit id', fr1, s1)) = some (e, fr', s') at h2
      rw [sel_eq] at h2
      show (if id' = id then Q .normal a1 w1 else Q (.exit id') a1 w1)
      by_cases hid : id' = id
      · rw [if_pos hid]
        rw [if_pos (by rw [hid]; exact Nat.beq_refl _)] at h2
        cases h2
        exact hq ρ1 w1 a1 hg1 hf1
      · rw [if_neg hid]
        rw [if_neg (fun hh => hid (Nat.eq_of_beq_eq_true hh).symm)] at h2
        cases h2
        exact hq ρ1 w1 a1 hg1 hf1
  | loop x ihx =>
    intro hok hnr fr s e fr' s' ρ a w Q h hr hf hlo hq
    change iter (exec C call yield n fn ro.isSome x) 100000 fr s = some (e, fr', s') at h
    refine wpIn_loop_rounds 100000 ?_
    have key : ∀ (k : Nat) (fr2 : Fr) (s2 : St) (ρ1 : Ren) (a1 : Act) (w1 : World), iter (exec C call yield n fn ro.isSome x) k fr2 s2 = some (e, fr', s') → Goes P B ρ s w ρ1 s2 w1 → FrR mk n nt ρ1 s2 w1 fr2 a1 → Code.roundsIn (Fro ro) m P x Q k a1 w1 := by
      intro k
      induction k with
      | zero => intro fr2 s2 ρ1 a1 w1 h; cases h
      | succ k ih =>
        intro fr2 s2 ρ1 a1 w1 h hg hf
        rw [iter_succ] at h
        obtain ⟨⟨e1, fr1, s1⟩, h1, h2⟩ := obind_some.1 h
        rw [roundsIn_succ]
        refine ihx hok hnr fr2 s2 e1 fr1 s1 ρ1 a1 w1 _ h1 hg.hr hf (fun k hk => Nat.le_trans (hlo k hk) hg.grow) ?_
        intro ρ2 w2 a2 hg2 hf2
        cases e1 with
        | normal => exact ih fr1 s1 ρ2 a2 w2 h2 (hg.trans hg2) hf2
        | exit id => cases h2; exact hq ρ2 w2 a2 (hg.trans hg2) hf2
        | ret => cases h2; exact hq ρ2 w2 a2 (hg.trans hg2) hf2
    exact key 100000 fr s ρ a w h (Goes.refl hr) hf
  | rangeFunc f ps x y ihx ihy =>
    intro hok hnr fr s e fr' s' ρ a w Q h hr hf hlo hq
    obtain ⟨o0, o1⟩ := sel_and hok
    obtain ⟨o1, o2⟩ := sel_and o1
    simp only [Bool.and_eq_true] at o0
    obtain ⟨lo, hmk⟩ : ∃ lo, mk = some lo := by
      cases mk with
      | some lo => exact ⟨lo, rfl⟩
      | none => exact absurd (hnr rfl) (by simp [noRange])
    cases ro with
    | some l => cases h
    | none =>
      change obind (fr.ev n f) (fun fv => rangeCall C call fr (Nat.succ s.next) fv
        { heap := (s.heap.set s.next .other).set (Nat.succ s.next) (.loop { state := .ready, pending := none, fn := fn, vars := fr.vars, params := ps.toList, assign := x, body := y, n := n }), fams := s.fams, next := Nat.succ (Nat.succ s.next) }) = some (e, fr', s') at h
      obtain ⟨fv, hfv, h⟩ := obind_some.1 h
      have hvr := opnd_vr (ρ := ρ) (a := a) o0.1 (fun t u _ hu => hf.tmps t u hu) hfv
      unfold rangeCall at h
      obtain ⟨rr, hinv, h⟩ := obind_some.1 h
      split at h
      · rename_i g args s2
        obtain ⟨⟨v, s3⟩, hcall, h⟩ := obind_some.1 h
        obtain ⟨r, hgl, hend⟩ := obind_some.1 h
        clear h
        refine wpIn_rangeFunc ?_
        intro fn' _
        -- the two new blocks
        have g1 := Goes.newOther hr (.deferred (some []))
        have hw1 : (w.alloc (.deferred (some []))).heap.size = w.heap.size + 1 := by show (w.heap.push _).size = _; simp
        let q : Loop := { state := .ready, pending := none, fn := fn', tmps := a.tmps, params := ps, assign := x, body := y, defers := w.heap.size }
        have hloop : LoopR (ρ.set s.next ⟨w.heap.size, 0, 0⟩) { state := .ready, pending := none, fn := fn, vars := fr.vars, params := ps.toList, assign := x, body := y, n := n } q := by
          refine ⟨rfl, rfl, ?_, rfl, rfl, rfl, okCode_mono hf.size o1, okCode_mono hf.size o2, okTmps_mono hf.size o0.2⟩
          intro t u ht hu
          refine VR.mono (Ren.le_set hr _) (hf.tmps t u ?_)
          unfold Fr.get
          rw [ltN_eq]
          simp only [ht, decide_true]
          exact hu
        have g2 := Goes.newLoop g1.hr hloop
        rw [hw1] at g2
        have g12 := g1.trans g2
        have hyv : VR ((ρ.set s.next ⟨w.heap.size, 0, 0⟩).set (Nat.succ s.next) ⟨w.heap.size + 1, 0, 0⟩) (.func (.yield (Nat.succ s.next)) #[] #[]) (.func (.yield (w.heap.size + 1)) #[] #[]) := by
          exact .func (.yield (q := ⟨w.heap.size + 1, 0, 0⟩) (Ren.set_same _ _ _)) .nil .nil
        have hfv2 := hvr.mono g12.le
        have hs := invoke_sound hK g2.hr hfv2 (VRs.cons hyv .nil) hinv
        -- what the run needs of the new state
        have post : ∀ (cargs : List Value), VRs ((ρ.set s.next ⟨w.heap.size, 0, 0⟩).set (Nat.succ s.next) ⟨w.heap.size + 1, 0, 0⟩) args cargs → s2 = { heap := (s.heap.set s.next .other).set (Nat.succ s.next) (.loop { state := .ready, pending := none, fn := fn, vars := fr.vars, params := ps.toList, assign := x, body := y, n := n }), fams := s.fams, next := Nat.succ (Nat.succ s.next) } →
            CallsIn (Fro none) (m - 1) P g ⟨cargs⟩ ((w.alloc (.deferred (some []))).alloc (.loop q)) (rangePost (Fro none) m P (w.heap.size + 1) Q { a with defers := [{ target := .collected w.heap.size, args := #[] }] ++ a.defers }) := by
          rintro cargs hargs rfl
          refine callsIn_fro ((hc g args _ v s3 hcall B _ _ cargs g2.hr hargs).mono ?_)
          rintro e3 w3 ⟨cv, ρ3, rfl, g3, hv3⟩
          obtain ⟨loc, q3, l1, l2, l3, l4⟩ := getLoop_sound g3.hr hgl
          have hloc : loc = ⟨w.heap.size + 1, 0, 0⟩ := by
            have := g3.le _ _ (Ren.set_same (ρ.set s.next ⟨w.heap.size, 0, 0⟩) (Nat.succ s.next) ⟨w.heap.size + 1, 0, 0⟩)
            rw [l1] at this
            exact Option.some.inj this
          subst hloc
          unfold afterRange at hend
          obtain ⟨hnb, h⟩ := guard_some.1 hend
          clear hend
          have hbusy : q3.state ≠ .busy := by
            rw [l4.state]
            intro e0
            rw [e0] at hnb
            cases hnb
          have g4 := setLoop_goes g3.hr hgl l1 l4 .exhausted r.pending
          have g0 := (g12.trans g3).trans g4
          -- the mark
          have hmark0 : MarkOk (ρ.set s.next ⟨w.heap.size, 0, 0⟩) { heap := s.heap.set s.next .other, fams := s.fams, next := Nat.succ s.next } (w.alloc (.deferred (some []))) w.heap.size := by
            refine ⟨by rw [hw1]; omega, ?_, alloc_at _ _⟩
            rintro ⟨i, l, t, e1, e2, e3, e4⟩
            by_cases ei : i = s.next
            · subst ei
              unfold St.tag at e2
              rw [Hp.get_set_same] at e2
              cases e2
            · rw [Ren.set_other ρ _ ei] at e3
              have := (hr.dom i l e3).2.2.2
              omega
          have hmark := MarkOk.goes ((g2.trans g3).trans g4) hmark0
          have hfr : FrR mk n nt ρ3 (setLoop s3 (Nat.succ s.next) r .exhausted r.pending) (w3.putObj (w.heap.size + 1) (.loop { q3 with state := .exhausted, pending := r.pending })) fr { a with defers := [{ target := .collected w.heap.size, args := #[] }] ++ a.defers } := by
            have h5 := hf.goes g0
            refine ⟨h5.size, h5.tmps, ?_, fun d hd r hr' => ?_⟩
            rotate_left
            · rcases List.mem_cons.1 hd with rfl | hd
              · cases hr'; exact ⟨lo, hmk, hlo lo hmk⟩
              · exact h5.nomark d hd r hr'
            refine .mark hmark (fun d hd r hr' => ?_) h5.defers
            exact (hf.defers.marks d hd r hr').1
          have hrun := run_endLoop (P := P) l3 hbusy
          have hpend : ({ q3 with state := .exhausted } : Loop) = { q3 with state := .exhausted, pending := r.pending } := by rw [← l4.pending]
          rw [hpend, l4.pending] at hrun
          refine ⟨r.pending, _, hrun, ?_⟩
          split at h
          · rename_i hp
            rw [hp]
            rw [hp] at h
            cases h
            rw [hp] at hfr g0
            exact hq _ _ _ g0 hfr
          · rename_i hp
            rw [hp]
            rw [hp] at h
            cases h
            rw [hp] at hfr g0
            exact wpIn_ret (hq _ _ _ g0 hfr)
          · rename_i id hp
            rw [hp]
            rw [hp] at h
            cases h
            rw [hp] at hfr g0
            exact wpIn_exit (hq _ _ _ g0 hfr)
          · cases h
        -- the function value
        generalize hcf : a.eval f = cf at hfv2 hs
        cases hfv2 with
        | @func f1 f2 a1 a2 b1 b2 hff h1 h2 =>
          simp only [Deferred.ofValue, Sem.run_bind, Sem.run_pure, Result.andThen_ok] at hs
          obtain ⟨hs2, cargs, hrun, hargs⟩ := hs
          refine ⟨w.heap.size + 1, [{ target := .collected w.heap.size, args := #[] }], _, { target := .fn f2 ⟨b2⟩, args := ⟨a2⟩ ++ #[.func (.yield (w.heap.size + 1)) #[] #[]] }, _, g, ⟨cargs⟩, _,
            run_enterLoop_outer fn' a.tmps ps x y, ?_, fun _ _ => trivial, hrun, (fun h => by cases h), trivial, (post cargs hargs hs2).2⟩
          show Sem.run P (Deferred.ofValue (a.eval f) (#[Operand.const (.func (.yield (w.heap.size + 1)) #[] #[])].map a.eval)) _ = _
          rw [hcf]
          have e0 : (#[Operand.const (.func (.yield (w.heap.size + 1)) #[] #[])].map a.eval) = #[.func (.yield (w.heap.size + 1)) #[] #[]] := by simp [Act.eval]
          rw [e0]
          rfl
        | _ => cases hinv
      · cases h
  | exit id =>
    intro _ _ fr s e fr' s' ρ a w Q h hr hf hlo hq
    cases h
    exact wpIn_exit (hq ρ w a (Goes.refl hr) hf)
  | scope x ihx =>
    intro hok hnr fr s e fr' s' ρ a w Q h hr hf hlo hq
    cases ro with
    | some l => cases h
    | none =>
      change exec C call yield n fn false x fr s = some (e, fr', s') at h
      have := ihx hok hnr fr s e fr' s' ρ a w (Exit.noGoto Q) h hr hf hlo (fun ρ' w' a' hg hf' => by
        have := hq ρ' w' a' hg hf'
        cases e <;> exact this)
      exact (wpIn_wide (n := m)).2 (wp_scope_straight ((wpIn_wide (n := m)).1 this))
  | label l =>
    intro _ _ fr s e fr' s' ρ a w Q h hr hf hlo hq
    cases h
    exact wpIn_label (hq ρ w a (Goes.refl hr) hf)
  | goto l =>
    intro _ _ fr s e fr' s' ρ a w Q h hr hf hlo hq
    cases h
  | ret =>
    intro _ _ fr s e fr' s' ρ a w Q h hr hf hlo hq
    cases h
    exact wpIn_ret (hq ρ w a (Goes.refl hr) hf)
  | refuse why =>
    intro _ _ fr s e fr' s' ρ a w Q h hr hf hlo hq
    cases h
end
end
end Go.Ax

namespace Go.Ax
open Go
noncomputable section

section
variable {P : Program} {B : Nat} {C : Cfg}

/-! ### results -/
theorem mapM_results {n : Nat} {ρ : Ren} {s : St} {w : World} {fr : Fr} {tmps : Array Value} (h : HR P B ρ s w) (ht : ∀ t v, fr.get n t = some v → VR ρ v (tmps.getD t undef)) :
    ∀ {l : List ResultVar} {vs : List Value}, results P n fr s l = some vs → ∃ cs, (l.mapM (m := Sem) fun
      | .tmp t => pure (tmps.getD t undef)
      | .cell a t => do loadVar t (← asAddr (tmps.getD a undef))).run P w = .ok cs w ∧ VRs ρ vs cs
  | [], vs, hr => by
    cases hr
    exact ⟨[], by simp, .nil⟩
  | r :: l, vs, hr => by
    change obind (resultOf P n fr s r) (fun v => obind (results P n fr s l) fun vs => some (v :: vs)) = some vs at hr
    obtain ⟨v, hv, hr⟩ := obind_some.1 hr
    obtain ⟨vs', hvs, hr⟩ := obind_some.1 hr
    cases hr
    obtain ⟨cs, h1, h2⟩ := mapM_results h ht hvs
    cases r with
    | tmp t =>
      refine ⟨tmps.getD t undef :: cs, ?_, .cons (ht t v hv) h2⟩
      simp only [List.mapM_cons, Sem.run_bind, Sem.run_pure, Result.andThen_ok, h1]
    | cell a t =>
      obtain ⟨u, hu, hv⟩ := obind_some.1 hv
      have hvu := ht a u hu
      split at hv
      · generalize hcq : tmps.getD a undef = c at hvu
        cases hvu with
        | @ptr b0 o0 l0 hl =>
          obtain ⟨c, h3, h4⟩ := load_sound h hl hv
          refine ⟨c :: cs, ?_, .cons h4 h2⟩
          have hA : (asAddr (tmps.getD a undef)).run P w = .ok ⟨l0.blk, l0.off + o0, none⟩ w := by rw [hcq]; rfl
          simp only [List.mapM_cons, Sem.run_bind, hA, Sem.run_pure, Result.andThen_ok]
          rw [h3]
          simp only [Result.andThen_ok, h1]
      · cases hv

theorem results_sound {n : Nat} {ρ : Ren} {s : St} {w : World} {fr : Fr} {tmps : Array Value} {fn : Func} (h : HR P B ρ s w) (ht : ∀ t v, fr.get n t = some v → VR ρ v (tmps.getD t undef)) {vs : List Value} (hr : results P n fr s fn.results.toList = some vs) :
    ∃ c, (Go.results fn tmps).run P w = .ok c w ∧ VR ρ (Ax.tuple vs) c := by
  obtain ⟨cs, h1, h2⟩ := mapM_results h ht hr
  have hm : (Go.results fn tmps).run P w = .ok (if h : (cs.toArray).size = 1 then (cs.toArray)[0] else .tuple cs.toArray) w := by
    unfold Go.results
    rw [Array.mapM_eq_mapM_toList]
    simp only [map_eq_pure_bind, bind_assoc, pure_bind]
    rw [Sem.run_bind]
    erw [h1]
    simp only [Result.andThen_ok, Sem.run_pure]
  refine ⟨_, hm, ?_⟩
  match vs, cs, h2 with
  | [], _, .nil => simpa [Ax.tuple] using VR.tuple (ρ := ρ) .nil
  | [v], _, .cons hv .nil => simpa [Ax.tuple] using hv
  | v :: u :: vs, _, .cons hv (.cons hu hl) => simpa [Ax.tuple] using VR.tuple (VRs.cons hv (.cons hu hl))

/-! ### the first frame of a call -/
theorem setVars_get : ∀ (vs : List Value) (i : Nat) (t : Tr Value) (k : Nat), (setVars vs i t).get k = if i ≤ k ∧ k < i + vs.length then vs[k - i]? else t.get k
  | [], i, t, k => by
    show t.get k = _
    rw [if_neg (by simp)]
  | v :: vs, i, t, k => by
    show (setVars vs (i + 1) (t.set i v)).get k = _
    rw [setVars_get vs (i + 1)]
    by_cases h : i + 1 ≤ k ∧ k < i + 1 + vs.length
    · rw [if_pos h, if_pos (by simp; omega)]
      rw [show k - i = (k - (i + 1)) + 1 by omega]
      rfl
    · rw [if_neg h, Tr.get_set]
      by_cases e : k = i
      · subst e
        rw [if_pos rfl, if_pos (by simp)]
        simp
      · rw [if_neg e, if_neg (by simp; omega)]

theorem start_fr {n nt : Nat} {ρ : Ren} {s : St} {w : World} {args cargs : List Value} (ha : VRs ρ args cargs) (mk : Option Nat) : FrR mk n nt ρ s w (startFr args) { tmps := ⟨cargs⟩ ++ Array.replicate (nt - (⟨cargs⟩ : Array Value).size) undef, defers := [] } := by
  refine ⟨by simp; omega, fun t v ht => ?_, .nil, fun d hd => by cases hd⟩
  unfold Fr.get at ht
  rw [sel_eq] at ht
  split at ht
  · change (setVars args 0 .e).get t = some v at ht
    rw [setVars_get] at ht
    split at ht
    · rename_i hh
      obtain ⟨c, h1, h2⟩ := ha.get (by simpa using ht)
      have hc : ((⟨cargs⟩ : Array Value) ++ Array.replicate (nt - (⟨cargs⟩ : Array Value).size) undef)[t]? = some c := by
        have hl := (List.getElem?_eq_some_iff.1 h1).1
        rw [Array.getElem?_append_left (by simpa using hl)]
        simpa using h1
      rw [Array.getD_eq_getD_getElem?, hc]
      exact h2
    · rw [Tr.get_e] at ht
      cases ht
  · cases ht

/-! ### deferred calls -/
theorem HR.unowned {ρ : Ren} {s : St} {w : World} (h : HR P B ρ s w) {r : Nat} (hB : B ≤ r) (hno : ¬ Owned ρ s r) (o : Obj) : HR P B ρ s (w.putObj r o) := by
  have hsz : (w.putObj r o).heap.size = w.heap.size := World.putObj_size
  have hold : ∀ i t l, s.tag i = some t → ρ.at i = some l → (w.putObj r o).heap[l.blk]? = w.heap[l.blk]? := by
    intro i t l ht hl
    refine World.putObj_heap_other ?_
    rintro rfl
    by_cases hlo : i < fixedTop
    · have := h.low i hlo (by rw [ht]; simp)
      rw [Ren.at_low hlo] at hl
      cases hl
      have : i < B := this
      have e : B ≤ i := hB
      omega
    · exact hno ⟨i, l, t, by omega, ht, by rwa [Ren.at_of (by omega)] at hl, rfl⟩
  refine ⟨fun i l hi => by rw [hsz]; exact h.dom i l hi, h.next, by rw [hsz]; exact h.base_le, h.low, h.heap_dom, h.fam_dom, fun i cs e f hc => ?_, fun i es c hi => ?_, fun i q hi => ?_, h.sep⟩
  · obtain ⟨q, hq⟩ := h.rows i cs e f hc
    exact ⟨q, hq.move (Ren.le_refl ρ) (hold i _ q (tag_cells hc) hq.at_)⟩
  · obtain ⟨q, hq, es', h1, h2⟩ := h.maps i es c hi
    exact ⟨q, hq, es', by rw [hold i _ q (tag_map hi) (by rw [Ren.at_of (h.dom i q hq).1]; exact hq)]; exact h1, h2⟩
  · obtain ⟨u, hu, q', h1, h2⟩ := h.loops i q hi
    exact ⟨u, hu, q', by rw [hold i _ u (tag_loop hi) (by rw [Ren.at_of (h.dom i u hu).1]; exact hu)]; exact h1, h2⟩

theorem Goes.unowned {ρ ρ' : Ren} {s s' : St} {w w' : World} (hg : Goes P B ρ s w ρ' s' w') (h0 : HR P B ρ s w) {r : Nat} (hr : w.heap.size ≤ r) (hno : ¬ Owned ρ' s' r) (o : Obj) : Goes P B ρ s w ρ' s' (w'.putObj r o) := by
  refine ⟨hg.le, hg.hr.unowned (Nat.le_trans h0.base_le hr) hno o, hg.os, hg.tape, hg.output, by rw [World.putObj_size]; exact hg.grow, hg.next, fun b hb ho => ?_, hg.own, hg.old⟩
  rw [World.putObj_heap_other (by omega)]
  exact hg.frame b hb ho

theorem DefR.putObj {ρ : Ren} {s : St} {w : World} {l : List (FuncId × List Value)} {ds : List Deferred} {r : Nat} (o : Obj) (h : DefR ρ s w l ds) (hlt : ∀ d ∈ ds, ∀ q, d.target = .collected q → q < r) : DefR ρ s (w.putObj r o) l ds := by
  induction h with
  | nil => exact .nil
  | cons ht ha hv _ ih => exact .cons ht ha hv (ih fun d hd => hlt d (by simp [hd]))
  | @mark q l ds hm hl2 _ ih =>
    refine .mark ⟨by rw [World.putObj_size]; exact hm.1, hm.2.1, ?_⟩ hl2 (ih fun d hd => hlt d (by simp [hd]))
    have := hlt { target := .collected q, args := #[] } (by simp) q rfl
    rw [World.putObj_heap_other (by omega)]
    exact hm.2.2

/-- What a deferred call may be counted on for. -/
def DCallOk (P : Program) (dcall : CallT) : Prop :=
  ∀ f args s v s', dcall f args s = some (v, s') → ∀ B ρ w cargs, HR P B ρ s w → VRs ρ args cargs →
    (callFunc f ⟨cargs⟩).run P w = .ok (.enter f ⟨cargs⟩) w ∧
    ∀ m u, CallsDIn Fence.wide m P f ⟨cargs⟩ u w fun e u' w' => u' = u ∧ ∃ c ρ', e = .returned c ∧ Goes P B ρ s w ρ' s' w' ∧ VR ρ' v c

theorem leaves_ok {dcall : CallT} (hd : DCallOk P dcall) {fn : Func} {n m : Nat} {R : Ending → World → Prop} {fr : Fr} {tmps : Array Value} {ρ0 : Ren} {s0 s1 : St} {w0 : World} (h0 : HR P B ρ0 s0 w0) {vs : List Value} (hres : results P n fr s1 fn.results.toList = some vs)
    (hR : ∀ ρ' w' c, Goes P B ρ0 s0 w0 ρ' s1 w' → VR ρ' (Ax.tuple vs) c → R (.returned c) w') :
    ∀ (ds : List Deferred) (l : List (FuncId × List Value)) (s : St) (ρ : Ren) (w : World), DefR ρ s w l ds → (∀ d ∈ ds, ∀ r, d.target = .collected r → w0.heap.size ≤ r) → Goes P B ρ0 s0 w0 ρ s w →
      (∀ t v, fr.get n t = some v → VR ρ v (tmps.getD t undef)) → unwind dcall l s = some s1 → LeavesInM Fence.wide m P fn tmps R ds .returning w
  | [], _, s, ρ, w, .nil, _, hg, ht, hu => by
    cases hu
    obtain ⟨c, h1, h2⟩ := results_sound hg.hr ht hres
    exact ⟨c, h1, hR ρ w c hg h2⟩
  | _ :: ds, _, s, ρ, w, .mark (r := r) hm hlt hrest, hge, hg, ht, hu => by
    refine ⟨by simp, .inl ⟨r, _, rfl, run_takeDeferred hm.2.2, ?_⟩⟩
    have hr := hge { target := .collected r, args := #[] } (by simp) r rfl
    exact leaves_ok hd h0 hres hR ds _ s ρ _ (hrest.putObj _ hlt) (fun d hd => hge d (by simp [hd])) (hg.unowned h0 hr hm.2.1 _) ht hu
  | d :: ds, _, s, ρ, w, .cons (f := f) (args := args) (first := first) (captured := captured) ht0 ha hv hrest, hge, hg, ht, hu => by
    change obind (dcall f args s) (fun q => unwind dcall _ q.2) = some s1 at hu
    obtain ⟨⟨v, s2⟩, hcall, hu⟩ := obind_some.1 hu
    obtain ⟨henter, hD⟩ := hd f args s v s2 hcall B ρ w (first ++ captured) hg.hr hv
    have hinv : (Go.invoke d.target d.args).run P w = .ok (.enter f ⟨first ++ captured⟩) w := by
      rw [ht0, ha]
      have e : ((⟨first⟩ : Array Value) ++ ⟨captured⟩) = ⟨first ++ captured⟩ := by simp
      simp only [Go.invoke, e]
      exact henter
    refine ⟨by simp, .inr ⟨(fun h => by cases h), .func f, ⟨captured⟩, f, ⟨first ++ captured⟩, ht0, hinv, fun _ _ => trivial, ?_⟩⟩
    refine (hD (m - 1) .returning).mono ?_
    rintro e u' w' ⟨rfl, c, ρ', rfl, hg2, hv2⟩
    exact leaves_ok hd h0 hres hR ds _ s2 ρ' w' (hrest.goes hg2) (fun d hd => hge d (by simp [hd])) (hg.trans hg2) (fun t u hu => (ht t u hu).mono hg2.le) hu

/-- A CALL THAT WAS DEFERRED. -/
theorem callD_ok (hK : CfgOk C P) {call : CallT} {yield : YieldT} (hc : CallOk P call) (hy : YieldOk P yield) : DCallOk P (callD C call yield) := by
  intro f args s v s' h B ρ w cargs hr ha
  unfold callD at h
  obtain ⟨c, hb, h⟩ := obind_some.1 h
  obtain ⟨hnr, h⟩ := guard_some.1 h
  obtain ⟨⟨e, fr', s2⟩, hex, hfin⟩ := obind_some.1 h
  obtain ⟨fn, h1, h2, h3, h4, h5⟩ := hK.body f c hb
  have h3' : ¬ fn.name = "runtime.NumGoroutine" := by simpa using h3
  refine ⟨by simp [callFunc, h1, h2, h3'], fun m u => ?_⟩
  refine callsDIn_of_wp (F := Fence.wide) (n := m) (R := fun e w' => ∃ c ρ', e = .returned c ∧ Goes P B ρ s w ρ' s' w' ∧ VR ρ' v c) h1 h2 trivial ?_
  have key : ∀ ρ' w' a', Goes P B ρ s w ρ' s2 w' → FrR none (C.vars f) fn.ntmps ρ' s2 w' fr' a' → bodyPost P fn (fun e w' => ∃ c ρ', e = .returned c ∧ Goes P B ρ s w ρ' s' w' ∧ VR ρ' v c) (exq e) a' w' := by
    intro ρ' w' a' hg hf
    have fin : ∀ (hd : lcase fr'.defers (obind (results C.P (C.vars f) fr' s2 (C.results f)) fun vs => some (Ax.tuple vs, s2)) (fun _ _ => none) = some (v, s')), a'.defers = [] ∧ ∃ v', (Go.results fn a'.tmps).run P w' = .ok v' w' ∧ ∃ c ρ', Ending.returned v' = .returned c ∧ Goes P B ρ s w ρ' s' w' ∧ VR ρ' v c := by
      intro hd
      cases hdf : fr'.defers with
      | cons d ds => rw [hdf] at hd; cases hd
      | nil =>
        rw [hdf] at hd
        obtain ⟨vs, hvs, hd⟩ := obind_some.1 hd
        cases hd
        rw [hK.prog, h5] at hvs
        obtain ⟨c, g1, g2⟩ := results_sound hg.hr hf.tmps hvs
        refine ⟨?_, c, g1, c, ρ', rfl, hg, g2⟩
        have hdr := hf.defers
        rw [hdf] at hdr
        cases hads : a'.defers with
        | nil => rfl
        | cons d ds =>
          rw [hads] at hdr
          cases hdr with
          | mark hm hlt hh =>
            obtain ⟨k, hk, _⟩ := hf.nomark _ (by rw [hads]; exact List.mem_cons_self ..) _ rfl
            cases hk
    cases e with
    | normal => exact fin hfin
    | ret => exact fin hfin
    | exit id => cases hfin
  exact exec_wp hK hc hy hK.mix (ro := none) (m := m) (n := C.vars f) (nt := fn.ntmps) (mk := none) (fn := f) c h4 (fun _ => hnr) (startFr args) s e fr' s2 ρ _ w _ hex hr (start_fr ha none) (fun k hk => by cases hk) key

/-- A CALL. -/
theorem callBody_ok (hK : CfgOk C P) {call : CallT} {yield : YieldT} (hc : CallOk P call) (hy : YieldOk P yield) : CallOk P (callBody C call yield) := by
  intro f args s v s' h B ρ w cargs hr ha
  unfold callBody at h
  obtain ⟨c, hb, h⟩ := obind_some.1 h
  obtain ⟨⟨e, fr', s2⟩, hex, hfin⟩ := obind_some.1 h
  obtain ⟨fn, h1, h2, h3, h4, h5⟩ := hK.body f c hb
  refine (callsIn_wide (n := 0)).1 ?_
  refine callsIn_of_wp_marks (F := Fence.wide) (n := 0) h1 h2 trivial ?_
  refine exec_wp hK hc hy hK.mix (ro := none) (m := 0) (n := C.vars f) (nt := fn.ntmps) (mk := some w.heap.size) (fn := f) c h4 (fun h => by cases h) (startFr args) s e fr' s2 ρ _ w _ hex hr (start_fr ha _) (fun k hk => by cases hk; exact Nat.le_refl _) ?_
  intro ρ' w' a' hg hf
  have fin : ∀ (hd : obind (unwind (callD C call yield) fr'.defers s2) (fun s => obind (results C.P (C.vars f) fr' s (C.results f)) fun vs => some (Ax.tuple vs, s)) = some (v, s')),
      LeavesInM Fence.wide 0 P fn a'.tmps (fun e w' => ∃ c ρ', e = .returned c ∧ Goes P B ρ s w ρ' s' w' ∧ VR ρ' v c) a'.defers .returning w' := by
    intro hd
    obtain ⟨s3, hu, hd⟩ := obind_some.1 hd
    obtain ⟨vs, hvs, hd⟩ := obind_some.1 hd
    cases hd
    rw [hK.prog, h5] at hvs
    refine leaves_ok (callD_ok hK hc hy) hr hvs ?_ a'.defers fr'.defers s2 ρ' w' hf.defers ?_ hg hf.tmps hu
    · intro ρ2 w2 c hg2 hv2
      exact ⟨c, ρ2, rfl, hg2, hv2⟩
    · intro d hd r hr'
      obtain ⟨k, hk, hle⟩ := hf.nomark d hd r hr'
      cases hk
      exact hle
  cases e with
  | normal => exact fin hfin
  | ret => exact fin hfin
  | exit id => cases hfin

theorem callStep_ok (hK : CfgOk C P) {call : CallT} {yield : YieldT} (hc : CallOk P call) (hy : YieldOk P yield) : CallOk P (callStep C call yield) := by
  intro f args s v s' h
  unfold callStep at h
  rw [sel_eq] at h
  split at h
  · rename_i hi
    cases he : extInsert C s args with
    | none => rw [he] at h; exact callBody_ok hK hc hy f args s v s' h
    | some q =>
      rw [he] at h
      have h : some q = some (v, s') := h
      cases h
      exact hK.insert f hi args s v s' he
  · exact callBody_ok hK hc hy f args s v s' h

/-! ### rounds -/
theorem setPairs_ok {n : Nat} {ρ : Ren} : ∀ {ps : List Nat} {args cargs : List Value} {t t' : Tr Value} {tmps : Array Value}, setPairs ps args t = some t' → VRs ρ args cargs → okTmps tmps.size ps = true → VarsR ρ n t tmps →
    cargs.length = ps.length ∧ VarsR ρ n t' ((ps.zip cargs).foldl (fun tmps (x : Nat × Value) => tmps.setIfInBounds x.1 x.2) tmps) ∧ ((ps.zip cargs).foldl (fun tmps (x : Nat × Value) => tmps.setIfInBounds x.1 x.2) tmps).size = tmps.size
  | [], args, cargs, t, t', tmps, h, ha, _, hv => by
    cases ha with
    | nil => cases h; exact ⟨rfl, hv, rfl⟩
    | cons _ _ => cases h
  | p :: ps, args, cargs, t, t', tmps, h, ha, hok, hv => by
    cases ha with
    | nil => cases h
    | @cons v c args cargs hvc ha =>
      change setPairs ps args (t.set p v) = some t' at h
      obtain ⟨h0, hok⟩ := sel_and hok
      have h0 := ltN_some h0
      have hv2 : VarsR ρ n (t.set p v) (tmps.setIfInBounds p c) := by
        intro k u hk hu
        rw [Tr.get_set] at hu
        rw [Array.getD_eq_getD_getElem?, Array.getElem?_setIfInBounds]
        by_cases e : k = p
        · subst e
          rw [if_pos rfl] at hu
          cases hu
          rw [if_pos rfl, if_pos h0]
          exact hvc
        · rw [if_neg e] at hu
          rw [if_neg (fun h => e h.symm), ← Array.getD_eq_getD_getElem?]
          exact hv k u hk hu
      obtain ⟨h1, h2, h3⟩ := setPairs_ok (tmps := tmps.setIfInBounds p c) h ha (by rw [Array.size_setIfInBounds]; exact hok) hv2
      refine ⟨by simp [h1], h2, ?_⟩
      show (List.foldl _ (tmps.setIfInBounds p c) (ps.zip cargs)).size = _
      rw [h3]
      simp

theorem yieldStep_ok (hK : CfgOk C P) {call : CallT} {yield : YieldT} (hc : CallOk P call) (hy : YieldOk P yield) : YieldOk P (yieldStep C call yield) := by
  intro l args s v s' h B ρ w loc cargs hr hl ha
  unfold yieldStep at h
  obtain ⟨r, hgl, h⟩ := obind_some.1 h
  obtain ⟨vars, hsp, h⟩ := obind_some.1 h
  obtain ⟨⟨e1, fr1, s1⟩, hex, h⟩ := obind_some.1 h
  obtain ⟨loc', q, g1, g2, g3, g4⟩ := getLoop_sound hr hgl
  obtain rfl : loc' = loc := by rw [hl] at g1; exact (Option.some.inj g1).symm
  obtain ⟨k1, k2, k3⟩ := setPairs_ok (n := r.n) hsp ha g4.code.2.2 g4.vars
  have hparams : q.params.toList = r.params := g4.params
  have hsize : (⟨cargs⟩ : Array Value).size = q.params.size := by
    have : q.params.toList.length = r.params.length := by rw [hparams]
    simp at this ⊢
    omega
  have hrun := run_yield (P := P) g3 hsize
  have hfold : (q.params.zip ⟨cargs⟩).foldl (fun tmps (t, a) => tmps.setIfInBounds t a) q.tmps = (r.params.zip cargs).foldl (fun tmps (x : Nat × Value) => tmps.setIfInBounds x.1 x.2) q.tmps := by
    rw [← hparams, ← Array.foldl_toList]
    congr 1
    simp
  rw [hfold] at hrun
  refine ⟨_, _, _, _, hrun, ?_⟩
  refine roundIn_of_wpIn (F := Fence.wide) trivial ?_
  rw [g4.assign, g4.body]
  -- the assignments
  have hfr0 : FrR (some 0) r.n q.tmps.size ρ s w { vars := vars, loc := [], defers := [] } { tmps := (r.params.zip cargs).foldl (fun tmps (x : Nat × Value) => tmps.setIfInBounds x.1 x.2) q.tmps, defers := [] } := by
    refine ⟨by rw [k3]; exact Nat.le_refl _, fun t u hu => ?_, .nil, fun d hd => by cases hd⟩
    unfold Fr.get at hu
    rw [sel_eq] at hu
    split at hu
    · rename_i hlt
      exact k2 t u (ltN_some hlt) hu
    · cases hu
  refine exec_wp hK hc hy hK.mix (ro := some loc'.blk) (m := 0) (n := r.n) (nt := q.tmps.size) (mk := some 0) (fn := r.fn) r.assign g4.code.1 (fun hh => by cases hh) _ s e1 fr1 s1 ρ _ w _ hex hr hfr0 (fun k hk => by cases hk; exact Nat.zero_le _) ?_
  intro ρ1 w1 a1 hg1 hf1
  cases e1 with
  | exit id => cases h
  | ret => cases h
  | normal =>
    change obind (Ax.getLoop s1 l) (fun r1 => match r1.state with
      | .ready => obind (exec C call yield r.n r.fn true r.body fr1 (setLoop s1 l r1 .busy r1.pending)) (Ax.endRound l)
      | _ => none) = some (v, s') at h
    obtain ⟨r1, hgl1, h⟩ := obind_some.1 h
    obtain ⟨loc1, q1, j1, j2, j3, j4⟩ := getLoop_sound hg1.hr hgl1
    obtain rfl : loc1 = loc' := by
      have := hg1.le _ _ hl
      rw [j1] at this
      exact Option.some.inj this
    split at h
    · rename_i hst
      obtain ⟨⟨e2, fr2, s2⟩, hex2, hend⟩ := obind_some.1 h
      have hbr := run_beginRound (P := P) j3 (by rw [j4.state]; exact hst)
      have hgb := setLoop_goes hg1.hr hgl1 j1 j4 .busy r1.pending
      have hq1 : ({ q1 with state := .busy } : Loop) = { q1 with state := .busy, pending := r1.pending } := by rw [← j4.pending]
      rw [hq1] at hbr
      refine ⟨_, hbr, ?_⟩
      have hg01 := hg1.trans hgb
      refine exec_wp hK hc hy hK.mix (ro := some loc1.blk) (m := 0) (n := r.n) (nt := q.tmps.size) (mk := some 0) (fn := r.fn) r.body g4.code.2.1 (fun hh => by cases hh) fr1 _ e2 fr2 s2 ρ1 a1 _ _ hex2 hgb.hr (hf1.goes hgb) (fun k hk => by cases hk; exact Nat.zero_le _) ?_
      intro ρ2 w2 a2 hg2 hf2
      unfold Ax.endRound at hend
      cases hdf : fr2.defers with
      | cons d ds => simp only [hdf] at hend; cases hend
      | nil =>
        simp only [hdf] at hend
        obtain ⟨r2, hgl2, hend⟩ := obind_some.1 hend
        obtain ⟨loc2, q2, i1, i2, i3, i4⟩ := getLoop_sound hg2.hr hgl2
        obtain rfl : loc2 = loc1 := by
          have := hg2.le _ _ j1
          rw [i1] at this
          exact Option.some.inj this
        have hall := hg01.trans hg2
        cases e2 with
        | normal =>
          cases hend
          exact ⟨_, _, run_endRound none i3, _, ρ2, rfl, hall.trans (setLoop_goes hg2.hr hgl2 i1 i4 .ready none), .bool true⟩
        | ret =>
          cases hend
          exact ⟨_, _, run_endRound (some .ret) i3, _, ρ2, rfl, hall.trans (setLoop_goes hg2.hr hgl2 i1 i4 .done (some .ret)), .bool false⟩
        | exit id =>
          cases hend
          exact ⟨_, _, run_endRound (some (.exit id)) i3, _, ρ2, rfl, hall.trans (setLoop_goes hg2.hr hgl2 i1 i4 .done (some (.exit id))), .bool false⟩
    · cases h

theorem runN_ok (hK : CfgOk C P) : ∀ (n : Nat), CallOk P (runN C n).1 ∧ YieldOk P (runN C n).2
  | 0 => ⟨(fun f args s v s' h => by cases h), (fun l args s v s' h => by cases h)⟩
  | n + 1 => ⟨callStep_ok hK (runN_ok hK n).1 (runN_ok hK n).2, yieldStep_ok hK (runN_ok hK n).1 (runN_ok hK n).2⟩
end
end
end Go.Ax

namespace Go.Ax
open Go
variable {P : Program}

theorem info_lt {t : TypeId} (h : t < P.types.size) : P.info? t = P.types[t]? := by
  show Tables.info? P.toTables t = _
  unfold Tables.info?
  rw [if_pos h]

noncomputable def zeroChk (P : Program) : Bool := P.types.toList.all fun i => match i.zero with
  | none => true
  | some v => pureV 20 v

theorem zeroChk_ok (h : zeroChk P = true) : ZeroOk P := by
  intro t i v ht hi hv ρ
  rw [info_lt ht] at hi
  have hm : i ∈ P.types.toList := by
    have := Array.mem_of_getElem? hi
    simpa using this
  have := List.all_eq_true.1 h i hm
  rw [hv] at this
  exact pureV_vr ρ 20 this

noncomputable def fieldsChk (P : Program) : Bool := (List.range P.types.size).all fun t => match P.underlying t with
  | some (.struct fs) => fs.toList.all fun f => (size P f.type).isSome
  | _ => true

theorem fieldsChk_ok (h : fieldsChk P = true) : FieldsOk P := by
  intro t fs ht hu f hf
  have := List.all_eq_true.1 h t (List.mem_range.2 ht)
  rw [hu] at this
  exact Option.isSome_iff_exists.1 (List.all_eq_true.1 this f hf)

def outerD (d : TypeDesc) : Bool := match d with
  | .named _ _ => false
  | .int _ => false
  | _ => true

theorem none_ne_some {α : Type} {a : α} (h : (none : Option α) = some a) : False := by cases h

theorem reckonStruct_plain {info : TypeId → Option TypeInfo} {fs : Array Field} {i : TypeInfo} (h : Made.reckonStruct info fs = some i) : outerD i.desc = true := by
  unfold Made.reckonStruct at h
  simp only [Option.bind_eq_bind, Option.pure_def] at h
  obtain ⟨r, _, h⟩ := Option.bind_eq_some_iff.1 h
  revert h
  obtain ⟨a, b⟩ := r
  intro h
  simp only at h
  repeat' split at h
  all_goals (cases h; rfl)

theorem reckon_plain {info : TypeId → Option TypeInfo} {d : TypeDesc} {i : TypeInfo} (h : Made.reckon info d = some i) : outerD i.desc = true := by
  unfold Made.reckon at h
  cases d <;> try (exact (none_ne_some h).elim)
  case pointer e =>
    simp only [Option.bind_eq_bind, Option.pure_def] at h
    obtain ⟨j, _, h⟩ := Option.bind_eq_some_iff.1 h
    split at h
    · cases h
    · split at h
      · cases h
      · obtain ⟨s, _, h⟩ := Option.bind_eq_some_iff.1 h
        cases h; rfl
    · obtain ⟨s, _, h⟩ := Option.bind_eq_some_iff.1 h
      cases h; rfl
  case struct fs => exact reckonStruct_plain h
  all_goals
    simp only [Option.bind_eq_bind, Option.pure_def, Option.bind_eq_some_iff] at h
  case slice e => obtain ⟨_, _, _, _, h⟩ := h; cases h; rfl
  case map k e => obtain ⟨_, _, _, _, _, _, _, _, h⟩ := h; cases h; rfl
  case chan k e => obtain ⟨_, _, _, _, h⟩ := h; cases h; rfl
  case func a b c => obtain ⟨_, _, h⟩ := h; cases h; rfl
  case array n e => obtain ⟨_, _, _, _, h⟩ := h; cases h; rfl

theorem made_plain {t : TypeId} (ht : ¬ t < P.types.size) {i : TypeInfo} (h : P.info? t = some i) : outerD i.desc = true := by
  have h : Tables.info? P.toTables t = some i := h
  unfold Tables.info? at h
  rw [if_neg ht] at h
  unfold Made.infoAt at h
  split at h
  · cases h
  · rw [if_neg ht] at h
    obtain ⟨d, _, h⟩ := Option.bind_eq_some_iff.1 h
    exact reckon_plain h

noncomputable def byteChk (P : Program) : Bool := (List.range P.types.size).all fun t => match P.underlying t with
  | some (.int .u8) => (match size P t with
    | some 1 => true
    | _ => false)
  | _ => true

theorem byteChk_ok (h : byteChk P = true) : ∀ e, P.underlying e = some (.int .u8) → size P e = some 1 := by
  intro t hu
  by_cases ht : t < P.types.size
  · have := List.all_eq_true.1 h t (List.mem_range.2 ht)
    rw [hu] at this
    simp only at this
    split at this
    · assumption
    · cases this
  · exfalso
    unfold Program.underlying at hu
    cases hi : P.info? t with
    | none => rw [hi] at hu; cases hu
    | some i =>
      have := made_plain ht hi
      rw [hi] at hu
      split at hu
      · rename_i n u _ _ _ _ _ _ _ _ _ _ e
        cases e; cases this
      · rename_i e
        cases e
        simp only [Option.some.injEq] at hu
        rw [hu] at this; cases this
      · cases hu

def eqChk (P : Program) (t : TypeId) : Bool := !P.eqGuardType P.depth t && match P.underlying t with
  | some (.struct fs) => !P.stoodInHeld t && fs.toList.all fun f => !(f.name == "_")
  | _ => true

theorem eqChk_ok {C : Cfg} {l : List Nat} (hl : ∀ t, C.eqOk t = true → t ∈ l) (h : l.all (eqChk C.P) = true) : EqOk C where
  guard t ht := by
    have := List.all_eq_true.1 h t (hl t ht)
    simp only [eqChk, Bool.and_eq_true, Bool.not_eq_true'] at this
    exact this.1
  held t fs ht hu := by
    have := List.all_eq_true.1 h t (hl t ht)
    simp only [eqChk, hu, Bool.and_eq_true, Bool.not_eq_true', List.all_eq_true] at this
    exact ⟨this.2.1, fun f hf e => by have := this.2.2 f hf; simp [e] at this⟩

/-! bodies -/
noncomputable def bodyChk (l : List (Option Func)) : Bool := l.all fun q => match q with
  | some fn => (match fn.body with
    | some c => !(fn.name == "runtime.NumGoroutine") && okCode fn.ntmps c
    | none => true)
  | none => true

/-! functions of the library's without a body -/
theorem ext_int3 {ρ : Ren} {args cargs : List Value} (ha : VRs ρ args cargs) {s' : St} {v : Value} {f : Nat → Nat → Nat → Option (Value × St)} (h : nat3 args f = some (v, s')) :
    ∃ k1 k2 k3 x y c, cargs = [.int k1 (Int.ofNat x), .int k2 (Int.ofNat y), .int k3 (Int.ofNat c)] ∧ f x y c = some (v, s') := by
  unfold nat3 at h
  split at h
  · obtain ⟨x, hx, h⟩ := obind_some.1 h
    obtain ⟨y, hy, h⟩ := obind_some.1 h
    obtain ⟨c, hc, h⟩ := obind_some.1 h
    have key : ∀ {v c : Value} {n : Nat}, VR ρ v c → asNat v = some n → ∃ k, c = .int k (Int.ofNat n) := by
      intro v c n hv hn
      cases hv <;> try (exact (none_ne_some hn).elim)
      rename_i k i
      cases i with
      | ofNat m => cases hn; exact ⟨k, rfl⟩
      | negSucc m => cases hn
    cases ha with
    | cons h1 ha => cases ha with
      | cons h2 ha => cases ha with
        | cons h3 ha => cases ha with
          | nil =>
            obtain ⟨k1, rfl⟩ := key h1 hx
            obtain ⟨k2, rfl⟩ := key h2 hy
            obtain ⟨k3, rfl⟩ := key h3 hc
            exact ⟨k1, k2, k3, x, y, c, rfl, h⟩
  · cases h
end Go.Ax

namespace Go.Ax
open Go
variable {P : Program}

/-- that a function is one of the library's without a body, and which -/
def extChk (P : Program) (f : FuncId) : Bool :=
  match P.funcs[f]? with
  | some fn => !(fn.name == "runtime.NumGoroutine") && fn.body.isNone && (Extern.findNext fn).isNone
  | none => false

theorem run_ext {f : FuncId} (h : extChk P f = true) {e : Array Value → Sem Value} (he : (P.funcs[f]?).bind Extern.find = some e) (args : Array Value) (w : World) :
    (callFunc f args).run P w = ((e args).run P w).andThen fun v w' => .ok (.value v) w' := by
  unfold extChk at h
  cases hf : P.funcs[f]? with
  | none => rw [hf] at h; cases h
  | some fn =>
    rw [hf] at h he
    simp only [Bool.and_eq_true, Bool.not_eq_true'] at h
    have hn : Extern.findNext fn = none := by
      cases hx : Extern.findNext fn with
      | none => rfl
      | some y => rw [hx] at h; exact absurd h.2 (by intro q; cases q)
    exact run_callFunc_extern hf h.1.1 h.1.2 hn he args w

theorem run_three (k1 k2 k3 : IntKind) (x y c : Nat) (hc : c ≤ 1) (n : String) (w : World) :
    (Extern.MathBitsCarry.three n #[.int k1 (Int.ofNat x), .int k2 (Int.ofNat y), .int k3 (Int.ofNat c)]).run P w = .ok (x, y, c) w := by
  have : c = 0 ∨ c = 1 := by omega
  rcases this with rfl | rfl <;> rfl

theorem add64_sound {C : Cfg} {f : FuncId} (h : extChk P f = true) (he : (P.funcs[f]?).bind Extern.find = some add64Entry) : ExtSound C P f .add64 := by
  intro base ρ s s' w args cargs v hr ha hv
  obtain ⟨k1, k2, k3, x, y, c, rfl, hv⟩ := ext_int3 ha (show nat3 args (fun x y c => extAdd64 x y c s) = some (v, s') from hv)
  obtain ⟨hc, hv⟩ := guard_some.1 hv
  have hc : c ≤ 1 := Nat.le_of_ble_eq_true hc
  cases hv
  refine ⟨_, ρ, w, ?_, Goes.refl hr, .tuple (.cons (.int _ _) (.cons (.int _ _) .nil))⟩
  rw [run_ext h he]
  unfold add64Entry
  simp only [Sem.run_bind, run_three k1 k2 k3 x y c hc, Result.andThen_ok, Sem.run_pure]
  rfl

theorem sub64_sound {C : Cfg} {f : FuncId} (h : extChk P f = true) (he : (P.funcs[f]?).bind Extern.find = some Go.Proofs.sub64Entry) : ExtSound C P f .sub64 := by
  intro base ρ s s' w args cargs v hr ha hv
  obtain ⟨k1, k2, k3, x, y, c, rfl, hv⟩ := ext_int3 ha (show nat3 args (fun x y c => extSub64 x y c s) = some (v, s') from hv)
  obtain ⟨hc, hv⟩ := guard_some.1 hv
  have hc : c ≤ 1 := Nat.le_of_ble_eq_true hc
  cases hv
  refine ⟨_, ρ, w, ?_, Goes.refl hr, .tuple (.cons (.int _ _) (.cons (.int _ _) .nil))⟩
  rw [run_ext h he]
  unfold Go.Proofs.sub64Entry
  simp only [Sem.run_bind, run_three k1 k2 k3 x y c hc, Result.andThen_ok, Sem.run_pure]
  unfold Extern.MathBitsCarry.pair
  by_cases hx : x < y + c
  · have e : ltN x (Nat.add y c) = true := Nat.ble_eq_true_of_le hx
    rw [if_pos hx, e]; rfl
  · have e : ltN x (Nat.add y c) = false := by
      cases h : ltN x (Nat.add y c) with
      | false => rfl
      | true => exact absurd (Nat.le_of_ble_eq_true h) hx
    rw [if_neg hx, e]; rfl
end Go.Ax

