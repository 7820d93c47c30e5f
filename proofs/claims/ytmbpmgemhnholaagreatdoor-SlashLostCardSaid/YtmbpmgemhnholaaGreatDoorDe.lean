import Derived.Test.YtmbpmgemhnholaaGreatDoorDd
import Derived.LoopNIn
import Derived.Scope
import Derived.RangeFuncRecord
import Derived.RecoverIn
import Derived.Test.YtmbpmgemhnholaaGreatDoorDa
namespace Go.Ax
open Go
noncomputable section

section
variable {mk0 : Option Nat} {P : Program} {B : Nat} {X : DCtx} {frs : Nat → Fr} {sts : Nat → St} {nt : Nat} {ρ0 : Ren} {s0 : St} {w0 : World} {D : Nat → Prop} {a : Act} {w : World} {ρ : Ren} {k : Nat} {xs : List (Nat × Row)}

theorem DefR.world {ρ ρ' : Ren} {s s' : St} {w w' : World} {l : List (FuncId × List Value)} {ds : List Deferred} (hle : ρ.le ρ') (hm : ∀ r, MarkOk ρ s w r → MarkOk ρ' s' w' r) (h : DefR ρ s w l ds) : DefR ρ' s' w' l ds := by
  induction h with
  | nil => exact .nil
  | cons ht ha hv _ ih => exact .cons ht ha (hv.mono hle) ih
  | mark hmk hlt _ ih => exact .mark (hm _ hmk) hlt ih

/-- THE STEP: an operation whose turn may be. -/
theorem Inv.step (hK : CfgOk X.C P) (hc : CallOk P X.call) (hy : YieldOk P X.yield) {ro : Option Nat} (hro : X.rd = ro.isSome) {m : Nat} {ops : Array Oper} (hops : ops.toList = X.all) (hok : okOpers nt X.all = true) {Q : Exit → Act → World → Prop} (hR : Run0 X frs sts) (hft : fixedTop ≤ X.base) (hbs : s0.next = X.base)
    (hI : Inv mk0 P B X frs sts nt ρ0 s0 w0 D a w ρ k xs) {p : Nat} {b : Info} (hN : Now X frs D p b) {K : Act → World → Prop}
    (hK' : ∀ a' w' ρ' k' xs', Inv mk0 P B X frs sts nt ρ0 s0 w0 (fun j => D j ∨ j = b.i) a' w' ρ' k' xs' → K a' w') : wpOpIn (Fro ro) m P ops Q b.i K a w := by
  have hlt := (List.getElem?_eq_some_iff.1 hN.at_).1
  have hinf := hR.plan.info p b hN.at_
  have ho : ops[b.i]? = some b.op := by
    have := hinf.op
    rw [← hops] at this
    simpa using this
  obtain ⟨hdst, hopn⟩ := okOper_some (okOpers_mem hok b.op (List.mem_of_getElem? hinf.op))
  have hnames : ∀ t v, Names X.all b.op t → (frs p).get X.n t = some v → VR ρ v (a.tmps.getD t undef) := fun t v ht hv => hI.names hR hN ht hv
  have he : EvR ρ (restr (opnds b.op.op) ((frs p).ev X.n)) a.eval := evR_restr hopn fun t v ht hv => hnames t v (.inr (.inl ht)) hv
  have hwant : ∀ g, guardOk X.n X.all (frs p) b.op.guard = some g → Region.wanted b.op (yielded ops a.tmps) = g := by
    intro g hg
    rw [← hops] at hg
    refine wanted_eq hg fun j o' d b' v h1 h2 h3 h4 => hnames d v (.inr (.inr ⟨j, b', o', h1, ?_, h3⟩)) h4
    rw [← hops]
    simpa using h2
  have hcls : b.cls ≤ 3 := by
    rcases hinf.cls with h | h
    · rw [h]; exact cls_le _
    · omega
  have hr := hI.hr
  unfold wpOpIn
  simp only [ho]
  cases hR.steps p b hN.at_ with
  | skip hg hf hs =>
    rw [hwant _ hg]
    refine ⟨fun _ _ => trivial, ?_⟩
    exact hK' _ _ _ _ _ (Inv.quiet hR hI hN (Goes.refl hr) hf (.tuple .nil) hdst (fun h => by rw [h.1] at hg; cases hg) fun r mk h => by rw [h.1] at hg; cases hg)
  | pure hg hc0 v s' hev hf hs =>
    rw [hwant _ hg]
    have hcl : cls b.op.op = 0 := by
      rcases hinf.cls with h | h
      · rw [← h]; exact hc0
      · omega
    rw [← execOp_restr] at hev
    obtain ⟨v', h1, h2⟩ := (pure_indep hcl).use hev
    cases h1
    refine op_wp hK hc hy hr he (h2 (addRows xs (sts k))) (v := v) (s' := addRows xs (sts k)) (df := none) rfl ?_
    intro ρ' w' c ds hgo hv hn
    cases hn
    exact hK' _ _ _ _ _ (Inv.quiet hR hI hN hgo hf hv hdst (fun h => by have := h.2; omega) fun r mk h => by have := h.2.1; omega)
  | read hg hc1 v s' hev hq hf hs again =>
    rw [hwant _ hg]
    have hcl : cls b.op.op = 1 := by
      rcases hinf.cls with h | h
      · rw [← h]; exact hc1
      · omega
    -- a part of the state at which the executor has looked
    have hsub : ∃ s1, SubS s1 (addRows xs (sts k)) ∧ execOp X.C (restr (opnds b.op.op) ((frs p).ev X.n)) s1 b.op.op = some (.val v s1) := by
      rcases Nat.lt_or_ge p k with hpk | hpk
      · rcases hI.last with h0 | ⟨e, c, h1, h2, h3⟩
        · omega
        · have hep : p < e := by
            rcases Nat.lt_or_ge p e with h | h
            · exact h
            · have : p = e := by omega
              subst this
              rw [hN.at_] at h2
              cases h2
              have := h3.2
              omega
          obtain ⟨s'', g1, g2⟩ := again e c hep h2 h3 (hN.behind e c h2 (hI.effIn e c (by omega) h2 h3))
          rw [← h1] at g1 g2
          have := read_same hcl g1 g2
          subst this
          refine ⟨sts k, ?_, by rw [execOp_restr]; exact g1⟩
          have := hI.sub hR hft (d := 0) hI.hk (fun q b h1 h2 => by omega) (fun q b r mk h1 h2 => by omega)
          exact this
      · have hne : ∀ q c, k ≤ q → q < k + (p - k) → X.l[q]? = some c → ¬ Eff X frs q c := fun q c h1 h2 h3 h4 =>
          hI.effOut q c h1 h3 h4 (hN.before c.i (hR.plan.mem (show q < p by omega) h3 hN.at_ (by have := h4.2; omega) (by rw [hc1])))
        have hmd : ∀ q c r mk, k ≤ q → q < k + (p - k) → X.l[q]? = some c → MadeAt X frs q c r mk → D c.i := fun q c r mk h1 h2 h3 h4 =>
          hN.before c.i (hR.plan.mem (show q < p by omega) h3 hN.at_ (by have := h4.2.1; omega) (by rw [hc1]))
        have h1 := hI.sub hR hft (d := p - k) (by omega) hne hmd
        rw [show k + (p - k) = p by omega] at h1
        have := read_same hcl hev hq
        subst this
        exact ⟨sts p, h1, by rw [execOp_restr]; exact hev⟩
    obtain ⟨s1, hs1, hev1⟩ := hsub
    refine op_wp hK hc hy (hr.sub hs1) he hev1 (v := v) (s' := s1) (df := none) rfl ?_
    intro ρ' w' c ds hgo hv hn
    cases hn
    have hext := Goes.extend (S' := addRows xs (sts k)) hs1 hr hgo hs1.next.symm hs1.fams.symm (fun i _ => rfl) (fun i hi => by
      rcases hs1.heap i with h | ⟨h, _, cs, e, h2⟩
      · exact h
      · exact absurd ⟨h, by rw [h2]; simp⟩ hi)
    exact hK' _ _ _ _ _ (Inv.quiet hR hI hN hext hf hv hdst (fun h => by have := h.2; omega) fun r mk h => by have := h.2.1; omega)
  | make hg hc2 r mk hev hf hs =>
    rw [hwant _ hg]
    rw [← aOp_restr] at hev
    obtain ⟨cs, e, arr, c, hm⟩ := aOp_sound (w := w) hK he hev
    rw [aOp_restr] at hev
    have hmade : MadeAt X frs p b r mk := ⟨hg, hc2, hev⟩
    have hpk : k ≤ p := by
      rcases Nat.lt_or_ge p k with h | h
      · exact absurd (hI.madeIn p b r mk h hN.at_ hmade) hN.out
      · exact h
    have hidn : X.base + b.i < (addRows xs (sts k)).next := by rw [addRows_next]; exact hI.nextGe p b hN.at_
    have hid : fixedTop ≤ X.base + b.i := by omega
    obtain ⟨k1, k2, k3, k4⟩ := Goes.keptRow hr hid hidn (hI.unused p b hN.at_ hN.out) (e := e) hm.cells
    have hsem : b.op.semAt (Fro ro).round a.eval = Go.execOp a.eval b.op := Oper.semAt_eq _ _ _ (aOp_noDefer hev)
    refine ⟨fun _ _ => trivial, ?_⟩
    rw [hsem, hm.run]
    have hval := hm.val (ρ.set (X.base + b.i) ⟨w.heap.size, 0, 0⟩) (X.base + b.i) hid (Ren.set_same _ _ _)
    have hrow := hm.row
    subst hrow
    have hsz : (w.alloc (.cells arr e)).heap.size = w.heap.size + 1 := by show (w.heap.push _).size = _; simp
    have same : ∀ {q f}, X.l[q]? = some f → f.i = b.i → q = p ∧ f = b := by
      intro q f hq he
      have := hR.plan.nodup q p f b hq hN.at_ he
      subst this
      rw [hN.at_] at hq
      exact ⟨rfl, (Option.some.inj hq).symm⟩
    refine hK' _ _ (ρ.set (X.base + b.i) ⟨w.heap.size, 0, 0⟩) k ((X.base + b.i, .row cs e 0) :: xs) ?_
    refine ⟨hI.hk, hI.last, fun e c h1 h2 h3 => .inl (hI.effIn e c h1 h2 h3), fun e c h1 h2 h3 h4 => ?_, fun q c r mk h1 h2 h3 => .inl (hI.madeIn q c r mk h1 h2 h3), ?_, hI.nextGe, fun q c r mk h1 h2 h3 h4 => ?_, fun i r h1 => ?_, fun q c h1 h2 => ?_, ?_, by rw [size_put]; exact hI.size, ?_, ?_⟩
    · rcases h4 with h4 | h4
      · exact hI.effOut e c h1 h2 h3 h4
      · obtain ⟨rfl, rfl⟩ := same h2 h4
        have := h3.2
        omega
    · refine ⟨Ren.le_trans hI.go.le k1, k2, hI.go.os, hI.go.tape, hI.go.output, by rw [hsz]; have := hI.go.grow; omega, ?_, fun x hx hno => ?_, fun x hx => ?_, fun i hi => ?_⟩
      · have := hI.go.next
        rw [addRows_next] at this ⊢
        exact this
      · rw [k3 x (Nat.lt_of_lt_of_le hx hI.go.grow)]
        exact hI.go.frame x hx hno
      · rcases k4 x hx with h | h
        · exact hI.go.own x h
        · exact .inr (Nat.le_trans hI.go.grow h)
      · rw [Ren.set_other]
        · exact hI.go.old i hi
        · omega
    · by_cases e0 : c.i = b.i
      · obtain ⟨rfl, rfl⟩ := same h2 e0
        have := h3.2.2
        rw [hev] at this
        cases this
        simp [List.lookup]
      · have : (X.base + c.i == X.base + b.i) = false := by simp; omega
        simp only [List.lookup, this]
        rcases h4 with h4 | h4
        · exact hI.xsIn q c r mk h1 h2 h3 h4
        · exact absurd h4 e0
    · by_cases e0 : i = X.base + b.i
      · subst e0
        simp [List.lookup] at h1
        subst h1
        exact ⟨p, b, mk, hpk, hN.at_, hmade, .inr rfl, rfl⟩
      · have : (i == X.base + b.i) = false := by simpa using e0
        simp only [List.lookup, this] at h1
        obtain ⟨q, c, mk', g1, g2, g3, g4, g5⟩ := hI.xsOf i r h1
        exact ⟨q, c, mk', g1, g2, g3, .inl g4, g5⟩
    · rw [Ren.set_other]
      · exact hI.unused q c h1 fun hh => h2 (.inl hh)
      · intro he
        exact h2 (.inr (by omega))
    · exact Inv.tmpsStep hR hI hN (ds := []) (df := none) k1 hf hval hdst
    · rw [defers_put]
      refine hI.defers.world k1 ?_
      rintro r ⟨h1, h2, h3⟩
      refine ⟨by rw [hsz]; omega, fun hh => ?_, by rw [k3 r h1]; exact h3⟩
      rcases k4 r hh with h | h
      · exact h2 h
      · omega
    · exact fun d hd => hI.nomark d (by rw [defers_put] at hd; exact hd)
  | eff hg hc3 r v s' df hev haft hf hs free =>
    rw [hwant _ hg]
    have hb3 : b.cls = 3 := by omega
    have heff : Eff X frs p b := ⟨hg, hc3⟩
    have hpk : k ≤ p := by
      rcases Nat.lt_or_ge p k with h | h
      · exact absurd (hI.effIn p b h hN.at_ heff) hN.out
      · exact h
    have hne : ∀ q c, k ≤ q → q < k + (p - k) → X.l[q]? = some c → ¬ Eff X frs q c := fun q c h1 h2 h3 h4 =>
      hI.effOut q c h1 h3 h4 (hN.before c.i (hR.plan.mem (show q < p by omega) h3 hN.at_ (by have := h4.2; omega) (by rw [hb3])))
    have hmd : ∀ q c r mk, k ≤ q → q < k + (p - k) → X.l[q]? = some c → MadeAt X frs q c r mk → D c.i := fun q c r mk h1 h2 h3 h4 =>
      hN.before c.i (hR.plan.mem (show q < p by omega) h3 hN.at_ (by have := h4.2.1; omega) (by rw [hb3]))
    have hs1 := hI.sub hR hft (d := p - k) (by omega) hne hmd
    have hadv := (hR.advance (p - k) k (by omega) hne).2.2
    have hdef := hR.defers_from (p - k) k (by omega) hne
    rw [show k + (p - k) = p by omega] at hs1 hadv hdef
    rw [← execOp_restr] at hev
    rw [hro] at haft
    refine op_wp hK hc hy (hr.sub hs1) he hev haft ?_
    intro ρ' w' c ds hgo hv hn
    rw [← hs] at hgo
    -- what stays over the new state
    let keep : Nat → Bool := fun i => @decide (∃ q c, p + 1 ≤ q ∧ X.l[q]? = some c ∧ i = X.base + c.i) (Classical.propDecidable _)
    have hkeep : ∀ i, keep i = true ↔ ∃ q c, p + 1 ≤ q ∧ X.l[q]? = some c ∧ i = X.base + c.i := fun i => by
      show @decide _ (Classical.propDecidable _) = true ↔ _
      simp
    let xs' := xs.filter fun x => keep x.1
    have hlook : ∀ i, xs'.lookup i = if keep i then xs.lookup i else none := fun i => lookup_filter keep xs i
    have same : ∀ {q f}, X.l[q]? = some f → f.i = b.i → q = p ∧ f = b := by
      intro q f hq he
      have := hR.plan.nodup q p f b hq hN.at_ he
      subst this
      rw [hN.at_] at hq
      exact ⟨rfl, (Option.some.inj hq).symm⟩
    have hext := Goes.extend (S' := addRows xs' (sts (p + 1))) hs1 hr hgo (by rw [addRows_next]) (by rw [addRows_fams]) (fun i hx => by
      -- what is over the part
      rw [addRows_get, addRows_get, hlook]
      obtain ⟨hx1, hx2⟩ := hx
      rw [addRows_get] at hx2
      cases hl : xs.lookup i with
      | some r' =>
        obtain ⟨q, c', mk, g1, g2, g3, g4, g5⟩ := hI.xsOf i r' hl
        have hq : p + 1 ≤ q := by
          rcases Nat.lt_or_ge q (p + 1) with h | h
          · exfalso
            by_cases e : q = p
            · subst e
              rw [hN.at_] at g2
              cases g2
              have := g3.2.1
              omega
            · rcases hadv i with ⟨q', b', r2, mk', e1, e2, e3, e4, e5, e6⟩ | ⟨e1, e2⟩
              · rw [hx1] at e6; cases e6
              · exact e1 q c' r' mk g1 (by omega) g2 g3 g5
          · exact h
        rw [(hkeep i).2 ⟨q, c', hq, g2, g5⟩]
        rfl
      | none =>
        rw [hl] at hx2
        exfalso
        rcases hadv i with ⟨q', b', r2, mk', e1, e2, e3, e4, e5, e6⟩ | ⟨e1, e2⟩
        · rw [hx1] at e6; cases e6
        · rw [hx1] at e2; exact hx2 e2.symm) (fun i hx => by
      rw [addRows_get, hlook]
      cases hkp : keep i with
      | false => rfl
      | true =>
        cases hl : xs.lookup i with
        | none => rfl
        | some r' =>
          exfalso
          obtain ⟨q, c', h1, h2, h3⟩ := (hkeep i).1 hkp
          obtain ⟨q2, c2, mk, g1, g2, g3, g4, g5⟩ := hI.xsOf i r' hl
          have := hR.id_inj h2 g2 (h3 ▸ g5)
          subst this
          rw [h2] at g2
          cases g2
          refine hx ⟨by rw [h3]; exact hR.free p q c' (by omega) h2 g3.2.1, ?_⟩
          rw [addRows_get, hl]
          simp)
    refine hK' _ _ ρ' (p + 1) xs' ?_
    refine ⟨by omega, .inr ⟨p, b, rfl, hN.at_, heff⟩, fun e c' h1 h2 h3 => ?_, fun e c' h1 h2 h3 h4 => ?_, fun q c' r mk h1 h2 h3 => ?_, hI.go.trans hext, fun q c' h1 => ?_, fun q c' r mk h1 h2 h3 h4 => ?_, fun i r h1 => ?_, fun q c' h1 h2 => ?_, ?_, by rw [size_put]; exact hI.size, ?_, ?_⟩
    · by_cases e0 : e = p
      · subst e0
        rw [hN.at_] at h2
        cases h2
        exact .inr rfl
      · rcases Nat.lt_or_ge e k with h | h
        · exact .inl (hI.effIn e c' h h2 h3)
        · exact absurd h3 (hne e c' h (by omega) h2)
    · rcases h4 with h4 | h4
      · exact hI.effOut e c' (by omega) h2 h3 h4
      · obtain ⟨rfl, rfl⟩ := same h2 h4
        omega
    · by_cases e0 : q = p
      · subst e0
        rw [hN.at_] at h2
        cases h2
        have := h3.2.1
        omega
      · rcases Nat.lt_or_ge q k with h | h
        · exact .inl (hI.madeIn q c' r mk h h2 h3)
        · exact .inl (hmd q c' r mk h (by omega) h2 h3)
    · have h5 := hI.nextGe q c' h1
      have h6 := hgo.next
      have h7 := hs1.next
      rw [addRows_next] at h7
      omega
    · rw [hlook, (hkeep _).2 ⟨q, c', h1, h2, rfl⟩]
      rcases h4 with h4 | h4
      · exact hI.xsIn q c' r mk (by omega) h2 h3 h4
      · obtain ⟨rfl, rfl⟩ := same h2 h4
        omega
    · rw [hlook] at h1
      cases hkp : keep i with
      | false => rw [hkp] at h1; cases h1
      | true =>
        rw [hkp] at h1
        simp only [if_true] at h1
        obtain ⟨q, c', h3, h4, h5⟩ := (hkeep i).1 hkp
        obtain ⟨q2, c2, mk, g1, g2, g3, g4, g5⟩ := hI.xsOf i r h1
        have := hR.id_inj h4 g2 (h5 ▸ g5)
        subst this
        exact ⟨q, c2, mk, h3, g2, g3, .inl g4, g5⟩
    · have : X.base + c'.i < (addRows xs (sts k)).next := by rw [addRows_next]; exact hI.nextGe q c' h1
      rw [hext.old _ this]
      exact hI.unused q c' h1 fun hh => h2 (.inl hh)
    · exact Inv.tmpsStep hR hI hN hgo.le hf hv hdst
    · rw [defers_put, hf, Fr.defers_put]
      show DefR ρ' _ w' (moreL df (frs p).defers) _
      rw [hdef]
      exact (hI.defers.goes hext).more hn
    · intro d hd r hr
      rw [defers_put] at hd
      rcases List.mem_append.1 hd with hd | hd
      · exact absurd hr (hn.fn d hd r)
      · exact hI.nomark d hd r hr
end
end
end Go.Ax

namespace Go.Ax
open Go
noncomputable section

theorem countP_lt {α : Type} (p q : α → Bool) : ∀ (l : List α), (∀ x ∈ l, q x = true → p x = true) → (∃ x ∈ l, p x = true ∧ q x = false) → l.countP q < l.countP p
  | [], _, h => by obtain ⟨x, hx, _⟩ := h; cases hx
  | a :: l, h1, h2 => by
    have hle : l.countP q ≤ l.countP p := List.countP_mono_left fun x hx => h1 x (by simp [hx])
    by_cases hpa : p a = true ∧ q a = false
    · rw [List.countP_cons_of_pos hpa.1, List.countP_cons_of_neg (by simp [hpa.2])]
      omega
    · have hrest : ∃ x ∈ l, p x = true ∧ q x = false := by
        obtain ⟨x, hx, hh⟩ := h2
        rcases List.mem_cons.1 hx with rfl | hx
        · exact absurd hh hpa
        · exact ⟨x, hx, hh⟩
      have ih := countP_lt p q l (fun x hx => h1 x (by simp [hx])) hrest
      by_cases hq : q a = true
      · rw [List.countP_cons_of_pos hq, List.countP_cons_of_pos (h1 a (by simp) hq)]; omega
      · rw [List.countP_cons_of_neg (by simpa using hq)]
        by_cases hp : p a = true
        · rw [List.countP_cons_of_pos hp]; omega
        · rw [List.countP_cons_of_neg (by simpa using hp)]; exact ih

section
variable {P : Program} {B : Nat} {C : Cfg}

theorem MarkOk.same {ρ : Ren} {s S : St} {w : World} (h : SameS s S) {r : Nat} (hm : MarkOk ρ s w r) : MarkOk ρ S w r :=
  ⟨hm.1, fun ho => hm.2.1 (ho.sub h.symm.sub), hm.2.2⟩

/-- A REGION WHOSE ORDER IS DRAWN. -/
theorem draw_wp (hK : CfgOk C P) {call : CallT} {yield : YieldT} (hc : CallOk P call) (hy : YieldOk P yield) (hQ : QuietOk C call) (hmix : P.follows .mixedOrders = true) {ro : Option Nat} {mk : Option Nat} {m n nt : Nat} {ops : Array Oper} (hok : okOpers nt ops.toList = true)
    {id : Nat} {order : List Nat} {Q : Exit → Act → World → Prop} {fr fr' : Fr} {s s' : St} {ρ : Ren} {a : Act} {w : World} (h : execDraw C call yield ro.isSome n ops.toList order fr s = some (fr', s'))
    (hr : HR P B ρ s w) (hf : FrR mk n nt ρ s w fr a) (hq : ∀ ρ' w' a', Goes P B ρ s w ρ' s' w' → FrR mk n nt ρ' s' w' fr' a' → Q .normal a' w') : (Code.region id ops true).wpIn (Fro ro) m P Q a w := by
  unfold execDraw at h
  obtain ⟨l, hpl, h⟩ := obind_some.1 h
  have hplan := planOf_ok hpl
  obtain ⟨frs, sts, f0, t0, f1, t1, hsteps, _⟩ := drawL_trace C call yield ro.isSome n ops.toList s.next hQ l true [] fr _ fr' s' h (fun _ x hx => by cases hx)
  have hN : lenL ops.toList = ops.size := by rw [lenL_eq]; simp
  let X : DCtx := ⟨C, call, yield, ro.isSome, n, ops.toList, s.next, l⟩
  have hlow : ∀ {p : Nat} {b : Info}, l[p]? = some b → b.i < ops.size := by
    intro p b hb
    have := (List.getElem?_eq_some_iff.1 (hplan.info p b hb).op).1
    simpa using this
  have hR : Run0 X frs sts := by
    refine ⟨hplan, hsteps, fun q b hb => ?_⟩
    rw [t0]
    show s.heap.get (s.next + b.i) = none
    cases hg : s.heap.get (s.next + b.i) with
    | none => rfl
    | some r => have := hr.heap_dom _ r hg; omega
  have hclosed : ∀ {listed : Array Bool}, (∀ j, listed.getD j false = true → ∀ o, ops.toList[j]? = some o → ∀ i, Binds o i → listed.getD i false = true) →
      ∀ i o, (fun j => listed.getD j false = true) i → X.all[i]? = some o → ∀ j, Binds o j → (fun j => listed.getD j false = true) j := fun h i o hi ho j hj => h i hi o ho j hj
  -- the loop
  have key : ∀ (fuel : Nat) (listed : Array Bool) (a : Act) (w' : World), listed.size = ops.size → (List.range ops.size).countP (fun i => !listed.getD i false) ≤ fuel →
      (∀ j, listed.getD j false = true → ∀ o, ops.toList[j]? = some o → ∀ i, Binds o i → listed.getD i false = true) →
      (∃ ρ' k xs, Inv mk P B X frs sts nt ρ s w (fun j => listed.getD j false = true) a w' ρ' k xs) → wpAnyIn (Fro ro) m P .any ops Q fuel listed a w' := by
    have hfin : ∀ (listed : Array Bool) (a : Act) (w' : World), (∀ j, j < ops.size → listed.getD j false = true) → (∃ ρ' k xs, Inv mk P B X frs sts nt ρ s w (fun j => listed.getD j false = true) a w' ρ' k xs) → Q .normal a w' := by
      rintro listed a w' hall ⟨ρ', k, xs, hI⟩
      have hkl := hI.hk
      have hlen : k + (l.length - k) = l.length := by have : k ≤ l.length := hkl; omega
      have hne : ∀ q b, k ≤ q → q < k + (l.length - k) → X.l[q]? = some b → ¬ Eff X frs q b := fun q b h1 _ h3 h4 => hI.effOut q b h1 h3 h4 (hall b.i (hlow h3))
      obtain ⟨a1, a2, a3⟩ := hR.advance (l.length - k) k (by rw [hlen]; exact Nat.le_refl _) hne
      have hd := hR.defers_from (l.length - k) k (by rw [hlen]; exact Nat.le_refl _) hne
      rw [hlen] at a1 a2 a3 hd
      have hsame : SameS (addRows xs (sts k)) s' := by
        rw [← t1]
        refine ⟨by rw [addRows_next, a1], by rw [addRows_fams, a2], fun i => ?_⟩
        rw [addRows_get]
        rcases a3 i with ⟨q, b, r, mk, e1, e2, e3, e4, e5, e6⟩ | ⟨e1, e2⟩
        · have := hI.xsIn q b r mk e1 e3 e4 (hall b.i (hlow e3))
          rw [e5, this, ← e5, e6]
        · rw [e2]
          cases hx : xs.lookup i with
          | none => rfl
          | some r =>
            obtain ⟨q, b, mk, g1, g2, g3, g4, g5⟩ := hI.xsOf i r hx
            have := (List.getElem?_eq_some_iff.1 g2).1
            exact absurd g5 (e1 q b r mk g1 this g2 g3)
      refine hq ρ' w' a (hI.go.same hsame) ⟨hI.size, fun t v hv => ?_, ?_, hI.nomark⟩
      · rw [← f1] at hv
        exact hI.tmps t v l.length (Nat.le_refl _) (fun q b _ hb _ => hall b.i (hlow hb)) (fun q b h1 hb _ => by have := (List.getElem?_eq_some_iff.1 hb).1; exact absurd this (Nat.not_lt.2 h1)) hv
      · rw [← f1, hd]
        exact hI.defers.world (Ren.le_refl _) fun r hm => hm.same hsame
    intro fuel
    induction fuel with
    | zero =>
      intro listed a w' hsz hcnt hcl hI
      have hall : ∀ j, j < ops.size → listed.getD j false = true := by
        intro j hj
        have := List.countP_eq_zero.1 (Nat.le_zero.1 hcnt) j (List.mem_range.2 hj)
        simpa using this
      refine ⟨?_, hfin listed a w' hall hI⟩
      rw [List.eq_nil_iff_forall_not_mem]
      intro j hj
      obtain ⟨h1, o, h2, _⟩ := mem_ready.1 hj
      have hjl := (Array.getElem?_eq_some_iff.1 h2).1
      have := hall j hjl
      rw [Array.getD_eq_getD_getElem?] at this h1
      cases hq : listed[j]? with
      | none => rw [hq] at this; cases this
      | some b => rw [hq] at this h1; simp at this h1; rw [this] at h1; cases h1
    | succ fuel ih =>
      intro listed a w' hsz hcnt hcl hI
      refine ⟨fun hnil => ?_, fun i hi => ?_⟩
      · refine hfin listed a w' ?_ hI
        -- if one were left, one would be ready
        intro j
        induction j using Nat.strongRecOn with
        | _ j ihj =>
          intro hj
          apply Classical.byContradiction
          intro hno
          obtain ⟨p, b, hb, rfl⟩ := hplan.full j (by simpa using hj)
          have hinf := hplan.info p b hb
          have hmem : b.i ∈ Region.ready .any ops listed := by
            refine mem_ready.2 ⟨?_, b.op, by simpa using hinf.op, fun e he hbnd => ?_⟩
            · rw [Array.getD_eq_getD_getElem?] at hno ⊢
              have hx : listed[b.i]? = some listed[b.i] := Array.getElem?_eq_getElem (by omega)
              rw [hx] at hno ⊢
              simpa using hno
            · have hlt := hinf.low e.on ⟨e, by simpa using he, hbnd, rfl⟩
              exact ihj e.on hlt (by omega)
          rw [hnil] at hmem
          cases hmem
      · obtain ⟨h1, o, h2, h3⟩ := mem_ready.1 hi
        have hil := (Array.getElem?_eq_some_iff.1 h2).1
        have hout : ¬ (listed.getD i false = true) := by
          rw [Array.getD_eq_getD_getElem?] at h1 ⊢
          have hx : listed[i]? = some listed[i] := Array.getElem?_eq_getElem (by omega)
          rw [hx] at h1 ⊢
          simp at h1
          simp [h1]
        obtain ⟨p, b, hb, rfl⟩ := hplan.full i (by simpa using hil)
        have hinf := hplan.info p b hb
        have hob : o = b.op := by
          have : ops[b.i]? = some b.op := by simpa using hinf.op
          rw [h2] at this
          exact Option.some.inj this
        subst hob
        have hready : ∀ j, Binds b.op j → listed.getD j false = true := by
          rintro j ⟨e, he, hbnd, rfl⟩
          exact h3 e (by simpa using he) hbnd
        have hset : ∀ j, (listed.setIfInBounds b.i true).getD j false = true ↔ (listed.getD j false = true ∨ j = b.i) := by
          intro j
          rw [Array.getD_eq_getD_getElem?, Array.getD_eq_getD_getElem?, Array.getElem?_setIfInBounds]
          by_cases e : b.i = j
          · subst e
            rw [if_pos rfl, if_pos (by omega)]
            simp
          · rw [if_neg e]
            constructor
            · exact fun h => .inl h
            · rintro (h | h)
              · exact h
              · exact absurd h.symm e
        obtain ⟨ρ', k, xs, hI⟩ := hI
        have hN' : Now X frs (fun j => listed.getD j false = true) p b := Now.mk' (X := X) hplan (hclosed hcl) hb hout hready
        refine Inv.step (X := X) hK hc hy (m := m) (ops := ops) (Q := Q) rfl rfl hok hR hr.next rfl hI hN' ?_
        intro a' w'' ρ'' k' xs' hI'
        refine ih _ _ _ (by simpa using hsz) ?_ ?_ ⟨ρ'', k', xs', ?_⟩
        · have := countP_lt (fun i => !listed.getD i false) (fun i => !(listed.setIfInBounds b.i true).getD i false) (List.range ops.size) (fun x _ hx => by
            simp only [Bool.not_eq_true'] at hx ⊢
            rw [← Bool.not_eq_true] at hx ⊢
            exact fun hh => hx ((hset x).2 (.inl hh))) ⟨b.i, List.mem_range.2 hil, by simpa using hout, by simp only [Bool.not_eq_false']; exact (hset b.i).2 (.inr rfl)⟩
          omega
        · intro j hj o' ho' i hi'
          rw [hset] at hj ⊢
          rcases hj with hj | hj
          · exact .inl (hcl j hj o' ho' i hi')
          · subst hj
            have : o' = b.op := by rw [hinf.op] at ho'; exact (Option.some.inj ho').symm
            subst this
            exact .inl (hready i hi')
        · have e : (fun j => (listed.setIfInBounds b.i true).getD j false = true) = (fun j => listed.getD j false = true ∨ j = b.i) := funext fun j => propext (hset j)
          rw [e]
          exact hI'
  refine wpIn_region_any hmix ?_
  have hd0 : ∀ j, ¬ ((Array.replicate ops.size false).getD j false = true) := by
    intro j
    rw [Array.getD_eq_getD_getElem?, Array.getElem?_replicate]
    split <;> simp
  have hgo : Goes P B ρ s w ρ (addRows [] (sts 0)) w.drew := by
    rw [t0]
    have h1 := Goes.drew hr (w.drawn + 1)
    exact h1.trans (Goes.bump h1.hr (lenL ops.toList))
  refine key ops.size _ a w.drew (by simp) ?_ (fun j hj => absurd hj (hd0 j)) ⟨ρ, 0, [], ?_⟩
  · exact Nat.le_trans List.countP_le_length (by simp)
  · refine ⟨Nat.zero_le _, .inl rfl, fun e b he => by omega, fun e b _ _ _ => hd0 _, fun q b r mk hq => by omega, hgo, fun q b hb => ?_, fun q b r mk _ _ _ hD => absurd hD (hd0 _), fun i r hi => by simp at hi, fun q b hb _ => ?_, fun t v p hp h1 h2 hv => ?_, hf.size, ?_, hf.nomark⟩
    · rw [t0]
      show s.next + b.i < s.next + lenL ops.toList
      have := hlow hb
      omega
    · cases hg : ρ (X.base + b.i) with
      | none => rfl
      | some q => have := (hr.dom _ q hg).2.1; have e : X.base = s.next := rfl; omega
    · have e := hR.get_from (t := t) p 0 (by omega) (fun q b _ hq hb hd => hd0 _ (h1 q b (by omega) hb hd))
      rw [Nat.zero_add, f0] at e
      rw [e] at hv
      exact hf.tmps t v hv
    · rw [f0]
      exact hf.defers.goes hgo
end
end
end Go.Ax

namespace Go.Ax
open Go
noncomputable section

def exq : Ex → Exit
  | .normal => .normal
  | .exit id => .exit id
  | .ret => .ret

/-! ### more temporaries -/
theorem ltN_mono {a b c : Nat} (h : ltN a b = true) (hb : b ≤ c) : ltN a c = true := by
  rw [ltN_eq] at *
  simp at *
  omega
theorem dstOk_mono {n m : Nat} (hm : n ≤ m) {d : Option Tmp} (h : dstOk n d = true) : dstOk m d = true := by
  cases d with
  | none => rfl
  | some d => exact ltN_mono h hm
theorem okOpers_mono {n m : Nat} (hm : n ≤ m) : ∀ {l : List Oper}, okOpers n l = true → okOpers m l = true
  | [], _ => rfl
  | o :: l, h => by
    change sel (okOper n o) (okOpers n l) false = true at h
    show sel (okOper m o) (okOpers m l) false = true
    rw [sel_eq] at *
    split at h
    · rename_i ho
      obtain ⟨h1, h2⟩ := okOper_some ho
      rw [if_pos (by unfold okOper; rw [dstOk_mono hm h1, h2]; rfl)]
      exact okOpers_mono hm h
    · cases h
theorem okTmps_mono {n m : Nat} (hm : n ≤ m) : ∀ {l : List Nat}, okTmps n l = true → okTmps m l = true
  | [], _ => rfl
  | o :: l, h => by
    change sel (ltN o n) (okTmps n l) false = true at h
    show sel (ltN o m) (okTmps m l) false = true
    rw [sel_eq] at *
    split at h
    · rename_i ho
      rw [if_pos (ltN_mono ho hm)]
      exact okTmps_mono hm h
    · cases h
theorem sel_and {a b : Bool} (h : sel a b false = true) : a = true ∧ b = true := by cases a <;> simp [sel] at h ⊢; exact h

theorem okCode_mono {n m : Nat} (hm : n ≤ m) : ∀ {c : Code}, okCode n c = true → okCode m c = true := by
  intro c
  induction c with
  | skip => exact fun _ => rfl
  | region id ops d => exact fun h => okOpers_mono hm h
  | seq a b iha ihb => intro h; obtain ⟨h1, h2⟩ := sel_and h; show sel (okCode m a) (okCode m b) false = true; rw [iha h1]; exact ihb h2
  | cond c a b iha ihb =>
    intro h
    obtain ⟨h0, h⟩ := sel_and h
    obtain ⟨h1, h2⟩ := sel_and h
    show sel (okOpnd c) (sel (okCode m a) (okCode m b) false) false = true
    rw [h0, iha h1]; exact ihb h2
  | block id a iha => exact fun h => iha h
  | loop a iha => exact fun h => iha h
  | rangeFunc f ps a b iha ihb =>
    intro h
    obtain ⟨h0, h⟩ := sel_and h
    obtain ⟨h1, h2⟩ := sel_and h
    simp only [Bool.and_eq_true] at h0
    show sel (okOpnd f && okTmps m ps.toList) (sel (okCode m a) (okCode m b) false) false = true
    rw [h0.1, okTmps_mono hm h0.2, iha h1]; exact ihb h2
  | exit id => exact fun _ => rfl
  | scope a iha => exact fun h => iha h
  | label l => exact fun _ => rfl
  | goto l => exact fun _ => rfl
  | ret => exact fun _ => rfl
  | refuse w => exact fun _ => rfl

section
variable {P : Program} {B : Nat} {C : Cfg}

theorem FrR.fresh {mk : Option Nat} {n nt : Nat} {ρ : Ren} {s : St} {w : World} {fr : Fr} {a : Act} (hf : FrR mk n nt ρ s w fr a) : FrR mk n nt ρ s w fr.fresh a := by
  refine ⟨hf.size, fun t v ht => ?_, hf.defers, hf.nomark⟩
  unfold Fr.get at ht
  rw [sel_eq] at ht
  split at ht
  · rename_i hlt
    refine hf.tmps t v ?_
    unfold Fr.get
    rw [hlt]
    exact ht
  · cases ht

theorem iter_succ (f : Run) (k : Nat) (fr : Fr) (s : St) : iter f (k + 1) fr s = obind (f fr s) (iterNext (iter f k)) := rfl

theorem DefR.marks {ρ : Ren} {s : St} {w : World} {l : List (FuncId × List Value)} {ds : List Deferred} (h : DefR ρ s w l ds) : ∀ d ∈ ds, ∀ q, d.target = .collected q → MarkOk ρ s w q := by
  induction h with
  | nil => intro d hd; cases hd
  | cons ht ha hv _ ih =>
    intro d hd q hq
    rcases List.mem_cons.1 hd with rfl | hd
    · rw [ht] at hq; cases hq
    · exact ih d hd q hq
  | mark hm hlt _ ih =>
    intro d hd q hq
    rcases List.mem_cons.1 hd with rfl | hd
    · cases hq; exact hm
    · exact ih d hd q hq

theorem loop?_some {o : AObj} {r : ALoop} (h : o.loop? = some r) : o = .loop r := by
  cases o with
  | loop q => cases h; rfl
  | iter q => cases h

theorem getLoop_some {s : St} {l : Nat} {r : ALoop} (h : Ax.getLoop s l = some r) : s.heap.get l = some (.loop (.loop r)) := by
  unfold Ax.getLoop at h
  split at h
  · rename_i o ho
    rw [loop?_some h] at ho
    exact ho
  · cases h

theorem getLoop_sound {ρ : Ren} {s : St} {w : World} (h : HR P B ρ s w) {l : Nat} {r : ALoop} (hg : Ax.getLoop s l = some r) : ∃ loc q, ρ l = some loc ∧ s.tag l = some (0, l) ∧ w.heap[loc.blk]? = some (.loop q) ∧ LoopR ρ r q := by
  have := getLoop_some hg
  obtain ⟨loc, h1, q, h2, h3⟩ := h.loops l _ this
  cases h3 with
  | loop h3 => exact ⟨loc, _, h1, tag_loop this, h2, h3⟩

theorem setLoop_goes {ρ : Ren} {s : St} {w : World} (h : HR P B ρ s w) {l : Nat} {r : ALoop} (hg : Ax.getLoop s l = some r) {loc : Loc} {q : Loop} (hl : ρ l = some loc) (hq : LoopR ρ r q) (st : LoopState) (pe : Option Code) :
    Goes P B ρ s w ρ (setLoop s l r st pe) (w.putObj loc.blk (.loop { q with state := st, pending := pe })) := by
  have := getLoop_some hg
  exact Goes.putObj h (tag_loop this) hl (.inr ⟨_, rfl, .loop ⟨rfl, rfl, hq.vars, hq.params, hq.assign, hq.body, hq.code⟩⟩)

/-- CODE. -/
theorem exec_wp (hK : CfgOk C P) {call : CallT} {yield : YieldT} (hc : CallOk P call) (hy : YieldOk P yield) (hQ : QuietOk C call) (hmix : P.follows .mixedOrders = true) {ro : Option Nat} {m n nt : Nat} {mk : Option Nat} {fn : FuncId} :
    ∀ (c : Code), okCode nt c = true → (mk = none → noRange c = true) → ∀ (fr : Fr) (s : St) (e : Ex) (fr' : Fr) (s' : St) (ρ : Ren) (a : Act) (w : World) (Q : Exit → Act → World → Prop),
      exec C call yield n fn ro.isSome c fr s = some (e, fr', s') → HR P B ρ s w → FrR mk n nt ρ s w fr a → (∀ k, mk = some k → k ≤ w.heap.size) →
      (∀ ρ' w' a', Goes P B ρ s w ρ' s' w' → FrR mk n nt ρ' s' w' fr' a' → Q (exq e) a' w') → c.wpIn (Fro ro) m P Q a w := by
  intro c
  induction c with
  | skip =>
    intro _ _ fr s e fr' s' ρ a w Q h hr hf hlo hq
    cases h
    exact wpIn_skip (hq ρ w a (Goes.refl hr) hf)
  | region id ops d =>
    intro hok _ fr s e fr' s' ρ a w Q h hr hf hlo hq
    change obind (sel d (execDraw C call yield ro.isSome n ops.toList (C.order fn id) fr.fresh s) (execOps C call yield ro.isSome n ops.toList ops.toList fr.fresh s)) (fun r => some (Ex.normal, r)) = some (e, fr', s') at h
    obtain ⟨⟨fr2, s2⟩, hd, h⟩ := obind_some.1 h
    cases h
    cases d with
    | true => exact draw_wp hK hc hy hQ hmix hok hd hr hf.fresh hq
    | false =>
      refine wpIn_region ?_
      rw [List.range_eq_range']
      have := ops_wp hK hc hy (m := m) (Q := Q) hok ops.toList 0 rfl fr.fresh s _ _ ρ a w hd hr hf.fresh hq
      simpa using this
  | seq x y ihx ihy =>
    intro hok hnr fr s e fr' s' ρ a w Q h hr hf hlo hq
    obtain ⟨o1, o2⟩ := sel_and hok
    change obind (exec C call yield n fn ro.isSome x fr s) (iterNext (exec C call yield n fn ro.isSome y)) = some (e, fr', s') at h
    obtain ⟨⟨e1, fr1, s1⟩, h1, h2⟩ := obind_some.1 h
    refine wpIn_seq (ihx o1 (fun hm => (sel_and (hnr hm)).1) fr s e1 fr1 s1 ρ a w _ h1 hr hf hlo ?_)
    intro ρ1 w1 a1 hg1 hf1
    cases e1 with
    | normal => exact ihy o2 (fun hm => (sel_and (hnr hm)).2) fr1 s1 e fr' s' ρ1 a1 w1 Q h2 hg1.hr hf1 (fun k hk => Nat.le_trans (hlo k hk) hg1.grow) fun ρ2 w2 a2 hg2 hf2 => hq ρ2 w2 a2 (hg1.trans hg2) hf2
    | exit id => cases h2; exact hq ρ1 w1 a1 hg1 hf1
    | ret => cases h2; exact hq ρ1 w1 a1 hg1 hf1
  | cond x y z ihy ihz =>
    intro hok hnr fr s e fr' s' ρ a w Q h hr hf hlo hq
    obtain ⟨o0, o1⟩ := sel_and hok
    obtain ⟨o1, o2⟩ := sel_and o1
    change obind (fr.ev n x) (condRun (exec C call yield n fn ro.isSome y) (exec C call yield n fn ro.isSome z) fr s) = some (e, fr', s') at h
    obtain ⟨v, hv, h⟩ := obind_some.1 h
    have hvr := opnd_vr (ρ := ρ) (a := a) o0 (fun t u _ hu => hf.tmps t u hu) hv
    unfold condRun at h
    split at h
    · rename_i b
      generalize hav : a.eval x = av at hvr
      cases hvr
      rw [sel_eq] at h
      refine wpIn_cond hav ?_
      cases b with
      | true => exact ihy o1 (fun hm => (sel_and (hnr hm)).1) fr s e fr' s' ρ a w Q h hr hf hlo hq
      | false => exact ihz o2 (fun hm => (sel_and (hnr hm)).2) fr s e fr' s' ρ a w Q h hr hf hlo hq
    · cases h
  | block id x ihx =>
    intro hok hnr fr s e fr' s' ρ a w Q h hr hf hlo hq
    change obind (exec C call yield n fn ro.isSome x fr s) (blockEnd id) = some (e, fr', s') at h
    obtain ⟨⟨e1, fr1, s1⟩, h1, h2⟩ := obind_some.1 h
    refine wpIn_block (ihx hok hnr fr s e1 fr1 s1 ρ a w _ h1 hr hf hlo ?_)
    intro ρ1 w1 a1 hg1 hf1
    cases e1 with
    | normal => cases h2; exact hq ρ1 w1 a1 hg1 hf1
    | ret => cases h2; exact hq ρ1 w1 a1 hg1 hf1
    | exit id' =>
      change sel (Nat.beq id id') (some (Ex.normal, fr1, s1)) (some (Ex.exit id', fr1, s1)) = some (e, fr', s') at h2
      rw [sel_eq] at h2
      show (if id' = id then Q .normal a1 w1 else Q (.exit id') a1 w1)
      by_cases hid : id' = id
      · rw [if_pos hid]
        rw [if_pos (by rw [hid]; exact Nat.beq_refl _)] at h2
        cases h2
        exact hq ρ1 w1 a1 hg1 hf1
      · rw [if_neg hid]
        rw [if_neg (fun hh => hid (Nat.eq_of_beq_eq_true hh).symm)] at h2
        cases h2
        exact hq ρ1 w1 a1 hg1 hf1
  | loop x ihx =>
    intro hok hnr fr s e fr' s' ρ a w Q h hr hf hlo hq
    change iter (exec C call yield n fn ro.isSome x) 100000 fr s = some (e, fr', s') at h
    refine wpIn_loop_rounds 100000 ?_
    have key : ∀ (k : Nat) (fr2 : Fr) (s2 : St) (ρ1 : Ren) (a1 : Act) (w1 : World), iter (exec C call yield n fn ro.isSome x) k fr2 s2 = some (e, fr', s') → Goes P B ρ s w ρ1 s2 w1 → FrR mk n nt ρ1 s2 w1 fr2 a1 → Code.roundsIn (Fro ro) m P x Q k a1 w1 := by
      intro k
      induction k with
      | zero => intro fr2 s2 ρ1 a1 w1 h; cases h
      | succ k ih =>
        intro fr2 s2 ρ1 a1 w1 h hg hf
        rw [iter_succ] at h
        obtain ⟨⟨e1, fr1, s1⟩, h1, h2⟩ := obind_some.1 h
        rw [roundsIn_succ]
        refine ihx hok hnr fr2 s2 e1 fr1 s1 ρ1 a1 w1 _ h1 hg.hr hf (fun k hk => Nat.le_trans (hlo k hk) hg.grow) ?_
        intro ρ2 w2 a2 hg2 hf2
        cases e1 with
        | normal => exact ih fr1 s1 ρ2 a2 w2 h2 (hg.trans hg2) hf2
        | exit id => cases h2; exact hq ρ2 w2 a2 (hg.trans hg2) hf2
        | ret => cases h2; exact hq ρ2 w2 a2 (hg.trans hg2) hf2
    exact key 100000 fr s ρ a w h (Goes.refl hr) hf
  | rangeFunc f ps x y ihx ihy =>
    intro hok hnr fr s e fr' s' ρ a w Q h hr hf hlo hq
    obtain ⟨o0, o1⟩ := sel_and hok
    obtain ⟨o1, o2⟩ := sel_and o1
    simp only [Bool.and_eq_true] at o0
    obtain ⟨lo, hmk⟩ : ∃ lo, mk = some lo := by
      cases mk with
      | some lo => exact ⟨lo, rfl⟩
      | none => exact absurd (hnr rfl) (by simp [noRange])
    cases ro with
    | some l => cases h
    | none =>
      change obind (fr.ev n f) (fun fv => rangeCall C call fr (Nat.succ s.next) fv
        { heap := (s.heap.set s.next .other).set (Nat.succ s.next) (.loop (.loop { state := .ready, pending := none, fn := fn, vars := fr.vars, params := ps.toList, assign := x, body := y, n := n })), fams := s.fams, next := Nat.succ (Nat.succ s.next) }) = some (e, fr', s') at h
      obtain ⟨fv, hfv, h⟩ := obind_some.1 h
      have hvr := opnd_vr (ρ := ρ) (a := a) o0.1 (fun t u _ hu => hf.tmps t u hu) hfv
      unfold rangeCall at h
      obtain ⟨rr, hinv, h⟩ := obind_some.1 h
      split at h
      · rename_i g args s2
        obtain ⟨⟨v, s3⟩, hcall, h⟩ := obind_some.1 h
        obtain ⟨r, hgl, hend⟩ := obind_some.1 h
        clear h
        refine wpIn_rangeFunc ?_
        intro fn' _
        -- the two new blocks
        have g1 := Goes.newOther hr (.deferred (some []))
        have hw1 : (w.alloc (.deferred (some []))).heap.size = w.heap.size + 1 := by show (w.heap.push _).size = _; simp
        let q : Loop := { state := .ready, pending := none, fn := fn', tmps := a.tmps, params := ps, assign := x, body := y, defers := w.heap.size }
        have hloop : LoopR (ρ.set s.next ⟨w.heap.size, 0, 0⟩) { state := .ready, pending := none, fn := fn, vars := fr.vars, params := ps.toList, assign := x, body := y, n := n } q := by
          refine ⟨rfl, rfl, ?_, rfl, rfl, rfl, okCode_mono hf.size o1, okCode_mono hf.size o2, okTmps_mono hf.size o0.2⟩
          intro t u ht hu
          refine VR.mono (Ren.le_set hr _) (hf.tmps t u ?_)
          unfold Fr.get
          rw [ltN_eq]
          simp only [ht, decide_true]
          exact hu
        have g2 := Goes.newLoop g1.hr hloop
        rw [hw1] at g2
        have g12 := g1.trans g2
        have hyv : VR ((ρ.set s.next ⟨w.heap.size, 0, 0⟩).set (Nat.succ s.next) ⟨w.heap.size + 1, 0, 0⟩) (.func (.yield (Nat.succ s.next)) #[] #[]) (.func (.yield (w.heap.size + 1)) #[] #[]) := by
          exact .func (.yield (q := ⟨w.heap.size + 1, 0, 0⟩) (Ren.set_same _ _ _)) .nil .nil
        have hfv2 := hvr.mono g12.le
        have hs := invoke_sound hK g2.hr hfv2 (VRs.cons hyv .nil) hinv
        -- what the run needs of the new state
        have post : ∀ (cargs : List Value), VRs ((ρ.set s.next ⟨w.heap.size, 0, 0⟩).set (Nat.succ s.next) ⟨w.heap.size + 1, 0, 0⟩) args cargs → s2 = { heap := (s.heap.set s.next .other).set (Nat.succ s.next) (.loop (.loop { state := .ready, pending := none, fn := fn, vars := fr.vars, params := ps.toList, assign := x, body := y, n := n })), fams := s.fams, next := Nat.succ (Nat.succ s.next) } →
            CallsIn (Fro none) (m - 1) P g ⟨cargs⟩ ((w.alloc (.deferred (some []))).alloc (.loop q)) (rangePost (Fro none) m P (w.heap.size + 1) Q { a with defers := [{ target := .collected w.heap.size, args := #[] }] ++ a.defers }) := by
          rintro cargs hargs rfl
          refine callsIn_fro ((hc g args _ v s3 hcall B _ _ cargs g2.hr hargs).mono ?_)
          rintro e3 w3 ⟨cv, ρ3, rfl, g3, hv3⟩
          obtain ⟨loc, q3, l1, l2, l3, l4⟩ := getLoop_sound g3.hr hgl
          have hloc : loc = ⟨w.heap.size + 1, 0, 0⟩ := by
            have := g3.le _ _ (Ren.set_same (ρ.set s.next ⟨w.heap.size, 0, 0⟩) (Nat.succ s.next) ⟨w.heap.size + 1, 0, 0⟩)
            rw [l1] at this
            exact Option.some.inj this
          subst hloc
          unfold afterRange at hend
          obtain ⟨hnb, h⟩ := guard_some.1 hend
          clear hend
          have hbusy : q3.state ≠ .busy := by
            rw [l4.state]
            intro e0
            rw [e0] at hnb
            cases hnb
          have g4 := setLoop_goes g3.hr hgl l1 l4 .exhausted r.pending
          have g0 := (g12.trans g3).trans g4
          -- the mark
          have hmark0 : MarkOk (ρ.set s.next ⟨w.heap.size, 0, 0⟩) { heap := s.heap.set s.next .other, fams := s.fams, next := Nat.succ s.next } (w.alloc (.deferred (some []))) w.heap.size := by
            refine ⟨by rw [hw1]; omega, ?_, alloc_at _ _⟩
            rintro ⟨i, l, t, e1, e2, e3, e4⟩
            by_cases ei : i = s.next
            · subst ei
              unfold St.tag at e2
              rw [Hp.get_set_same] at e2
              cases e2
            · rw [Ren.set_other ρ _ ei] at e3
              have := (hr.dom i l e3).2.2.2
              omega
          have hmark := MarkOk.goes ((g2.trans g3).trans g4) hmark0
          have hfr : FrR mk n nt ρ3 (setLoop s3 (Nat.succ s.next) r .exhausted r.pending) (w3.putObj (w.heap.size + 1) (.loop { q3 with state := .exhausted, pending := r.pending })) fr { a with defers := [{ target := .collected w.heap.size, args := #[] }] ++ a.defers } := by
            have h5 := hf.goes g0
            refine ⟨h5.size, h5.tmps, ?_, fun d hd r hr' => ?_⟩
            rotate_left
            · rcases List.mem_cons.1 hd with rfl | hd
              · cases hr'; exact ⟨lo, hmk, hlo lo hmk⟩
              · exact h5.nomark d hd r hr'
            refine .mark hmark (fun d hd r hr' => ?_) h5.defers
            exact (hf.defers.marks d hd r hr').1
          have hrun := run_endLoop (P := P) l3 hbusy
          have hpend : ({ q3 with state := .exhausted } : Loop) = { q3 with state := .exhausted, pending := r.pending } := by rw [← l4.pending]
          rw [hpend, l4.pending] at hrun
          refine ⟨r.pending, _, hrun, ?_⟩
          split at h
          · rename_i hp
            rw [hp]
            rw [hp] at h
            cases h
            rw [hp] at hfr g0
            exact hq _ _ _ g0 hfr
          · rename_i hp
            rw [hp]
            rw [hp] at h
            cases h
            rw [hp] at hfr g0
            exact wpIn_ret (hq _ _ _ g0 hfr)
          · rename_i id hp
            rw [hp]
            rw [hp] at h
            cases h
            rw [hp] at hfr g0
            exact wpIn_exit (hq _ _ _ g0 hfr)
          · cases h
        -- the function value
        generalize hcf : a.eval f = cf at hfv2 hs
        cases hfv2 with
        | @func f1 f2 a1 a2 b1 b2 hff h1 h2 =>
          simp only [Deferred.ofValue, Sem.run_bind, Sem.run_pure, Result.andThen_ok] at hs
          obtain ⟨hs2, cargs, hrun, hargs⟩ := hs
          refine ⟨w.heap.size + 1, [{ target := .collected w.heap.size, args := #[] }], _, { target := .fn f2 ⟨b2⟩, args := ⟨a2⟩ ++ #[.func (.yield (w.heap.size + 1)) #[] #[]] }, _, g, ⟨cargs⟩, _,
            run_enterLoop_outer fn' a.tmps ps x y, ?_, fun _ _ => trivial, hrun, (fun h => by cases h), trivial, (post cargs hargs hs2).2⟩
          show Sem.run P (Deferred.ofValue (a.eval f) (#[Operand.const (.func (.yield (w.heap.size + 1)) #[] #[])].map a.eval)) _ = _
          rw [hcf]
          have e0 : (#[Operand.const (.func (.yield (w.heap.size + 1)) #[] #[])].map a.eval) = #[.func (.yield (w.heap.size + 1)) #[] #[]] := by simp [Act.eval]
          rw [e0]
          rfl
        | _ => cases hinv
      · cases h
  | exit id =>
    intro _ _ fr s e fr' s' ρ a w Q h hr hf hlo hq
    cases h
    exact wpIn_exit (hq ρ w a (Goes.refl hr) hf)
  | scope x ihx =>
    intro hok hnr fr s e fr' s' ρ a w Q h hr hf hlo hq
    cases ro with
    | some l => cases h
    | none =>
      change exec C call yield n fn false x fr s = some (e, fr', s') at h
      have := ihx hok hnr fr s e fr' s' ρ a w (Exit.noGoto Q) h hr hf hlo (fun ρ' w' a' hg hf' => by
        have := hq ρ' w' a' hg hf'
        cases e <;> exact this)
      exact (wpIn_wide (n := m)).2 (wp_scope_straight ((wpIn_wide (n := m)).1 this))
  | label l =>
    intro _ _ fr s e fr' s' ρ a w Q h hr hf hlo hq
    cases h
    exact wpIn_label (hq ρ w a (Goes.refl hr) hf)
  | goto l =>
    intro _ _ fr s e fr' s' ρ a w Q h hr hf hlo hq
    cases h
  | ret =>
    intro _ _ fr s e fr' s' ρ a w Q h hr hf hlo hq
    cases h
    exact wpIn_ret (hq ρ w a (Goes.refl hr) hf)
  | refuse why =>
    intro _ _ fr s e fr' s' ρ a w Q h hr hf hlo hq
    cases h
end
end
end Go.Ax

namespace Go.Ax
open Go
noncomputable section

section
variable {P : Program} {B : Nat} {C : Cfg}

/-! ### results -/
theorem mapM_results {n : Nat} {ρ : Ren} {s : St} {w : World} {fr : Fr} {tmps : Array Value} (h : HR P B ρ s w) (ht : ∀ t v, fr.get n t = some v → VR ρ v (tmps.getD t undef)) :
    ∀ {l : List ResultVar} {vs : List Value}, results P n fr s l = some vs → ∃ cs, (l.mapM (m := Sem) fun
      | .tmp t => pure (tmps.getD t undef)
      | .cell a t => do loadVar t (← asAddr (tmps.getD a undef))).run P w = .ok cs w ∧ VRs ρ vs cs
  | [], vs, hr => by
    cases hr
    exact ⟨[], by simp, .nil⟩
  | r :: l, vs, hr => by
    change obind (resultOf P n fr s r) (fun v => obind (results P n fr s l) fun vs => some (v :: vs)) = some vs at hr
    obtain ⟨v, hv, hr⟩ := obind_some.1 hr
    obtain ⟨vs', hvs, hr⟩ := obind_some.1 hr
    cases hr
    obtain ⟨cs, h1, h2⟩ := mapM_results h ht hvs
    cases r with
    | tmp t =>
      refine ⟨tmps.getD t undef :: cs, ?_, .cons (ht t v hv) h2⟩
      simp only [List.mapM_cons, Sem.run_bind, Sem.run_pure, Result.andThen_ok, h1]
    | cell a t =>
      obtain ⟨u, hu, hv⟩ := obind_some.1 hv
      have hvu := ht a u hu
      split at hv
      · generalize hcq : tmps.getD a undef = c at hvu
        cases hvu with
        | @ptr b0 o0 l0 hl =>
          obtain ⟨c, h3, h4⟩ := load_sound h hl hv
          refine ⟨c :: cs, ?_, .cons h4 h2⟩
          have hA : (asAddr (tmps.getD a undef)).run P w = .ok ⟨l0.blk, l0.off + o0, none⟩ w := by rw [hcq]; rfl
          simp only [List.mapM_cons, Sem.run_bind, hA, Sem.run_pure, Result.andThen_ok]
          rw [h3]
          simp only [Result.andThen_ok, h1]
      · cases hv

theorem results_sound {n : Nat} {ρ : Ren} {s : St} {w : World} {fr : Fr} {tmps : Array Value} {fn : Func} (h : HR P B ρ s w) (ht : ∀ t v, fr.get n t = some v → VR ρ v (tmps.getD t undef)) {vs : List Value} (hr : results P n fr s fn.results.toList = some vs) :
    ∃ c, (Go.results fn tmps).run P w = .ok c w ∧ VR ρ (Ax.tuple vs) c := by
  obtain ⟨cs, h1, h2⟩ := mapM_results h ht hr
  have hm : (Go.results fn tmps).run P w = .ok (if h : (cs.toArray).size = 1 then (cs.toArray)[0] else .tuple cs.toArray) w := by
    unfold Go.results
    rw [Array.mapM_eq_mapM_toList]
    simp only [map_eq_pure_bind, bind_assoc, pure_bind]
    rw [Sem.run_bind]
    erw [h1]
    simp only [Result.andThen_ok, Sem.run_pure]
  refine ⟨_, hm, ?_⟩
  match vs, cs, h2 with
  | [], _, .nil => simpa [Ax.tuple] using VR.tuple (ρ := ρ) .nil
  | [v], _, .cons hv .nil => simpa [Ax.tuple] using hv
  | v :: u :: vs, _, .cons hv (.cons hu hl) => simpa [Ax.tuple] using VR.tuple (VRs.cons hv (.cons hu hl))

/-! ### the first frame of a call -/
theorem setVars_get : ∀ (vs : List Value) (i : Nat) (t : Tr Value) (k : Nat), (setVars vs i t).get k = if i ≤ k ∧ k < i + vs.length then vs[k - i]? else t.get k
  | [], i, t, k => by
    show t.get k = _
    rw [if_neg (by simp)]
  | v :: vs, i, t, k => by
    show (setVars vs (i + 1) (t.set i v)).get k = _
    rw [setVars_get vs (i + 1)]
    by_cases h : i + 1 ≤ k ∧ k < i + 1 + vs.length
    · rw [if_pos h, if_pos (by simp; omega)]
      rw [show k - i = (k - (i + 1)) + 1 by omega]
      rfl
    · rw [if_neg h, Tr.get_set]
      by_cases e : k = i
      · subst e
        rw [if_pos rfl, if_pos (by simp)]
        simp
      · rw [if_neg e, if_neg (by simp; omega)]

theorem start_fr {n nt : Nat} {ρ : Ren} {s : St} {w : World} {args cargs : List Value} (ha : VRs ρ args cargs) (mk : Option Nat) : FrR mk n nt ρ s w (startFr args) { tmps := ⟨cargs⟩ ++ Array.replicate (nt - (⟨cargs⟩ : Array Value).size) undef, defers := [] } := by
  refine ⟨by simp; omega, fun t v ht => ?_, .nil, fun d hd => by cases hd⟩
  unfold Fr.get at ht
  rw [sel_eq] at ht
  split at ht
  · change (setVars args 0 .e).get t = some v at ht
    rw [setVars_get] at ht
    split at ht
    · rename_i hh
      obtain ⟨c, h1, h2⟩ := ha.get (by simpa using ht)
      have hc : ((⟨cargs⟩ : Array Value) ++ Array.replicate (nt - (⟨cargs⟩ : Array Value).size) undef)[t]? = some c := by
        have hl := (List.getElem?_eq_some_iff.1 h1).1
        rw [Array.getElem?_append_left (by simpa using hl)]
        simpa using h1
      rw [Array.getD_eq_getD_getElem?, hc]
      exact h2
    · rw [Tr.get_e] at ht
      cases ht
  · cases ht

/-! ### deferred calls -/
theorem HR.unowned {ρ : Ren} {s : St} {w : World} (h : HR P B ρ s w) {r : Nat} (hB : B ≤ r) (hno : ¬ Owned ρ s r) (o : Obj) : HR P B ρ s (w.putObj r o) := by
  have hsz : (w.putObj r o).heap.size = w.heap.size := World.putObj_size
  have hold : ∀ i t l, s.tag i = some t → ρ.at i = some l → (w.putObj r o).heap[l.blk]? = w.heap[l.blk]? := by
    intro i t l ht hl
    refine World.putObj_heap_other ?_
    rintro rfl
    by_cases hlo : i < fixedTop
    · have := h.low i hlo (by rw [ht]; simp)
      rw [Ren.at_low hlo] at hl
      cases hl
      have : i < B := this.1
      have e : B ≤ i := hB
      omega
    · exact hno ⟨i, l, t, by omega, ht, by rwa [Ren.at_of (by omega)] at hl, rfl⟩
  refine ⟨fun i l hi => by rw [hsz]; exact h.dom i l hi, h.next, by rw [hsz]; exact h.base_le, h.low, h.heap_dom, h.fam_dom, fun i cs e f hc => ?_, fun i es c hi => ?_, fun i q hi => ?_, h.sep⟩
  · obtain ⟨q, hq⟩ := h.rows i cs e f hc
    exact ⟨q, hq.move (Ren.le_refl ρ) (hold i _ q (tag_cells hc) hq.at_)⟩
  · obtain ⟨q, hq, es', h1, h2⟩ := h.maps i es c hi
    exact ⟨q, hq, es', by rw [hold i _ q (tag_map hi) (by rw [Ren.at_of (h.dom i q hq).1]; exact hq)]; exact h1, h2⟩
  · obtain ⟨u, hu, q', h1, h2⟩ := h.loops i q hi
    exact ⟨u, hu, q', by rw [hold i _ u (tag_loop hi) (by rw [Ren.at_of (h.dom i u hu).1]; exact hu)]; exact h1, h2⟩

theorem Goes.unowned {ρ ρ' : Ren} {s s' : St} {w w' : World} (hg : Goes P B ρ s w ρ' s' w') (h0 : HR P B ρ s w) {r : Nat} (hr : w.heap.size ≤ r) (hno : ¬ Owned ρ' s' r) (o : Obj) : Goes P B ρ s w ρ' s' (w'.putObj r o) := by
  refine ⟨hg.le, hg.hr.unowned (Nat.le_trans h0.base_le hr) hno o, hg.os, hg.tape, hg.output, by rw [World.putObj_size]; exact hg.grow, hg.next, fun b hb ho => ?_, hg.own, hg.old⟩
  rw [World.putObj_heap_other (by omega)]
  exact hg.frame b hb ho

theorem DefR.putObj {ρ : Ren} {s : St} {w : World} {l : List (FuncId × List Value)} {ds : List Deferred} {r : Nat} (o : Obj) (h : DefR ρ s w l ds) (hlt : ∀ d ∈ ds, ∀ q, d.target = .collected q → q < r) : DefR ρ s (w.putObj r o) l ds := by
  induction h with
  | nil => exact .nil
  | cons ht ha hv _ ih => exact .cons ht ha hv (ih fun d hd => hlt d (by simp [hd]))
  | @mark q l ds hm hl2 _ ih =>
    refine .mark ⟨by rw [World.putObj_size]; exact hm.1, hm.2.1, ?_⟩ hl2 (ih fun d hd => hlt d (by simp [hd]))
    have := hlt { target := .collected q, args := #[] } (by simp) q rfl
    rw [World.putObj_heap_other (by omega)]
    exact hm.2.2

/-- What a deferred call may be counted on for. -/
def DCallOk (P : Program) (dcall : CallT) : Prop :=
  ∀ f args s v s', dcall f args s = some (v, s') → ∀ B ρ w cargs, HR P B ρ s w → VRs ρ args cargs →
    (callFunc f ⟨cargs⟩).run P w = .ok (.enter f ⟨cargs⟩) w ∧
    ∀ m, CallsDIn Fence.wide m P f ⟨cargs⟩ .returning w fun e u' w' => u' = .returning ∧ ∃ c ρ', e = .returned c ∧ Goes P B ρ s w ρ' s' w' ∧ VR ρ' v c

theorem leaves_ok {dcall : CallT} (hd : DCallOk P dcall) {fn : Func} {n m : Nat} {R : Ending → World → Prop} {fr : Fr} {tmps : Array Value} {ρ0 : Ren} {s0 s1 : St} {w0 : World} (h0 : HR P B ρ0 s0 w0) {vs : List Value} (hres : results P n fr s1 fn.results.toList = some vs)
    (hR : ∀ ρ' w' c, Goes P B ρ0 s0 w0 ρ' s1 w' → VR ρ' (Ax.tuple vs) c → R (.returned c) w') :
    ∀ (ds : List Deferred) (l : List (FuncId × List Value)) (s : St) (ρ : Ren) (w : World), DefR ρ s w l ds → (∀ d ∈ ds, ∀ r, d.target = .collected r → w0.heap.size ≤ r) → Goes P B ρ0 s0 w0 ρ s w →
      (∀ t v, fr.get n t = some v → VR ρ v (tmps.getD t undef)) → unwind dcall l s = some s1 → LeavesInM Fence.wide m P fn tmps R ds .returning w
  | [], _, s, ρ, w, .nil, _, hg, ht, hu => by
    cases hu
    obtain ⟨c, h1, h2⟩ := results_sound hg.hr ht hres
    exact ⟨c, h1, hR ρ w c hg h2⟩
  | _ :: ds, _, s, ρ, w, .mark (r := r) hm hlt hrest, hge, hg, ht, hu => by
    refine ⟨by simp, .inl ⟨r, _, rfl, run_takeDeferred hm.2.2, ?_⟩⟩
    have hr := hge { target := .collected r, args := #[] } (by simp) r rfl
    exact leaves_ok hd h0 hres hR ds _ s ρ _ (hrest.putObj _ hlt) (fun d hd => hge d (by simp [hd])) (hg.unowned h0 hr hm.2.1 _) ht hu
  | d :: ds, _, s, ρ, w, .cons (f := f) (args := args) (first := first) (captured := captured) ht0 ha hv hrest, hge, hg, ht, hu => by
    change obind (dcall f args s) (fun q => unwind dcall _ q.2) = some s1 at hu
    obtain ⟨⟨v, s2⟩, hcall, hu⟩ := obind_some.1 hu
    obtain ⟨henter, hD⟩ := hd f args s v s2 hcall B ρ w (first ++ captured) hg.hr hv
    have hinv : (Go.invoke d.target d.args).run P w = .ok (.enter f ⟨first ++ captured⟩) w := by
      rw [ht0, ha]
      have e : ((⟨first⟩ : Array Value) ++ ⟨captured⟩) = ⟨first ++ captured⟩ := by simp
      simp only [Go.invoke, e]
      exact henter
    refine ⟨by simp, .inr ⟨(fun h => by cases h), .func f, ⟨captured⟩, f, ⟨first ++ captured⟩, ht0, hinv, fun _ _ => trivial, ?_⟩⟩
    refine (hD (m - 1)).mono ?_
    rintro e u' w' ⟨rfl, c, ρ', rfl, hg2, hv2⟩
    exact leaves_ok hd h0 hres hR ds _ s2 ρ' w' (hrest.goes hg2) (fun d hd => hge d (by simp [hd])) (hg.trans hg2) (fun t u hu => (ht t u hu).mono hg2.le) hu

/-- A CALL THAT WAS DEFERRED. -/
theorem callD_ok (hK : CfgOk C P) {call : CallT} {yield : YieldT} (hc : CallOk P call) (hy : YieldOk P yield) (hQ : QuietOk C call) : DCallOk P (callD C call yield) := by
  intro f args s v s' h B ρ w cargs hr ha
  unfold callD at h
  obtain ⟨c, hb, h⟩ := obind_some.1 h
  obtain ⟨hnr, h⟩ := guard_some.1 h
  obtain ⟨⟨e, fr', s2⟩, hex, hfin⟩ := obind_some.1 h
  obtain ⟨fn, h1, h2, h3, h4, h5⟩ := hK.body f c hb
  have h3' : ¬ fn.name = "runtime.NumGoroutine" := by simpa using h3
  refine ⟨by simp [callFunc, h1, h2, h3'], fun m => ?_⟩
  refine callsDIn_of_wp (F := Fence.wide) (n := m) (R := fun e w' => ∃ c ρ', e = .returned c ∧ Goes P B ρ s w ρ' s' w' ∧ VR ρ' v c) h1 h2 trivial ?_
  have key : ∀ ρ' w' a', Goes P B ρ s w ρ' s2 w' → FrR none (C.vars f) fn.ntmps ρ' s2 w' fr' a' → bodyPost P fn (fun e w' => ∃ c ρ', e = .returned c ∧ Goes P B ρ s w ρ' s' w' ∧ VR ρ' v c) (exq e) a' w' := by
    intro ρ' w' a' hg hf
    have fin : ∀ (hd : lcase fr'.defers (obind (results C.P (C.vars f) fr' s2 (C.results f)) fun vs => some (Ax.tuple vs, s2)) (fun _ _ => none) = some (v, s')), a'.defers = [] ∧ ∃ v', (Go.results fn a'.tmps).run P w' = .ok v' w' ∧ ∃ c ρ', Ending.returned v' = .returned c ∧ Goes P B ρ s w ρ' s' w' ∧ VR ρ' v c := by
      intro hd
      cases hdf : fr'.defers with
      | cons d ds => rw [hdf] at hd; cases hd
      | nil =>
        rw [hdf] at hd
        obtain ⟨vs, hvs, hd⟩ := obind_some.1 hd
        cases hd
        rw [hK.prog, h5] at hvs
        obtain ⟨c, g1, g2⟩ := results_sound hg.hr hf.tmps hvs
        refine ⟨?_, c, g1, c, ρ', rfl, hg, g2⟩
        have hdr := hf.defers
        rw [hdf] at hdr
        cases hads : a'.defers with
        | nil => rfl
        | cons d ds =>
          rw [hads] at hdr
          cases hdr with
          | mark hm hlt hh =>
            obtain ⟨k, hk, _⟩ := hf.nomark _ (by rw [hads]; exact List.mem_cons_self ..) _ rfl
            cases hk
    cases e with
    | normal => exact fin hfin
    | ret => exact fin hfin
    | exit id => cases hfin
  exact exec_wp hK hc hy hQ hK.mix (ro := none) (m := m) (n := C.vars f) (nt := fn.ntmps) (mk := none) (fn := f) c h4 (fun _ => hnr) (startFr args) s e fr' s2 ρ _ w _ hex hr (start_fr ha none) (fun k hk => by cases hk) key

/-! ### a deferred function that recovers nothing -/
theorem run_recover {η : Operand → Value} {o : Oper} {w : World} (h : isRecover o.op = true) : (Go.execOp η o).run P w = .ok .recover w := by
  unfold isRecover at h
  split at h
  · rename_i c hop
    split at h
    · rename_i b hb
      split at h
      · split at h
        · rename_i ha
          unfold Go.execOp
          simp only [hop]
          have : c.args = #[] := by apply Array.ext'; simpa using ha
          simp only [resolve, hb, this, Array.map_empty, pure_bind]
          rfl
        · cases h
      · cases h
    · cases h
  · cases h

theorem opsR_cons (n : Nat) (all : List Oper) (o : Oper) (rest : List Oper) (fr : Fr) (s : St) :
    opsR C n all (o :: rest) fr s = obind (guardOk n all fr o.guard) fun g => sel g (sel (isRecover o.op) (opsR C n all rest (fr.put n o.dst .nilIface) s) (plainOp C n o (opsR C n all rest) fr s)) (opsR C n all rest (fr.put n o.dst unit) s) := rfl

theorem opsR_wp (hK : CfgOk C P) {mk : Option Nat} {m n nt : Nat} {ops : Array Oper} {cs : List Frame} (hcs : recoverD cs = none) {Q : Exit → Act → List Frame → World → Prop}
    (hok : okOpers nt ops.toList = true) : ∀ (rest : List Oper) (k : Nat), ops.toList.drop k = rest → ∀ (fr : Fr) (s : St) (fr' : Fr) (s' : St) (ρ : Ren) (a : Act) (w : World),
      opsR C n ops.toList rest fr s = some (fr', s') → HR P B ρ s w → FrR mk n nt ρ s w fr a →
      (∀ ρ' w' a', Goes P B ρ s w ρ' s' w' → FrR mk n nt ρ' s' w' fr' a' → Q .normal a' cs w') → wpOpsSIn Fence.wide m P ops Q (List.range' k rest.length) a cs w
  | [], k, _, fr, s, fr', s', ρ, a, w, h, hh, hf, hq => by
    cases h
    exact hq ρ w a (Goes.refl hh) hf
  | o :: rest, k, hd, fr, s, fr', s', ρ, a, w, h, hh, hf, hq => by
    have ho : ops[k]? = some o := by
      have : (ops.toList.drop k)[0]? = some o := by rw [hd]; rfl
      simpa using this
    have hd' : ops.toList.drop (k + 1) = rest := by
      rw [← List.drop_drop, hd]; rfl
    have hmem : o ∈ ops.toList := List.mem_of_getElem? (by simpa using ho)
    obtain ⟨hdst, hopn⟩ := okOper_some (okOpers_mem hok o hmem)
    rw [opsR_cons] at h
    obtain ⟨g, hg, h⟩ := obind_some.1 h
    have hw := wanted_eq (ρ := ρ) (a := a) hg (fun j o' d b v _ _ _ hv => hf.tmps d v hv)
    show wpOpsSIn Fence.wide m P ops Q (k :: List.range' (k + 1) rest.length) a cs w
    simp only [wpOpsSIn, ho, hw]
    refine ⟨fun _ _ => trivial, ?_⟩
    cases g with
    | false =>
      rw [sel_false] at h
      exact opsR_wp hK hcs hok rest (k + 1) hd' _ s fr' s' ρ _ w h hh (hf.skip hdst) hq
    | true =>
      rw [sel_true] at h
      rw [if_pos rfl]
      cases hrec : isRecover o.op with
      | true =>
        rw [hrec, sel_true] at h
        rw [run_recover hrec]
        simp only [hcs]
        have hp := hf.put (df := none) (ds := []) (v := .nilIface) (c := .nilIface) hdst .nilIface .none
        exact opsR_wp hK hcs hok rest (k + 1) hd' _ s fr' s' ρ _ w h hh hp hq
      | false =>
        rw [hrec, sel_false] at h
        unfold plainOp at h
        obtain ⟨r, hr, h⟩ := obind_some.1 h
        have he := evR_restr (ρ := ρ) (n := n) (fr := fr) (a := a) hopn (fun t v _ ht => hf.tmps t v ht)
        rw [← execOp_restr] at hr
        have hs := op_sound hK hh he hr
        cases r with
        | val v s2 =>
          obtain ⟨ρ', w', c, hrun, hgo, hv⟩ := hs
          have hp := (hf.goes hgo).put (df := none) (ds := []) hdst hv .none
          have hnext := opsR_wp hK (m := m) (Q := Q) hcs hok rest (k + 1) hd' _ s2 fr' s' ρ' _ w' h hgo.hr hp (fun ρ'' w'' a'' hgo2 hf2 => hq ρ'' w'' a'' (hgo.trans hgo2) hf2)
          rcases hrun with hrun | ⟨hrun, rfl⟩
          · rw [hrun]; exact hnext
          · rw [hrun]; exact hnext
        | call f args s2 => cases h
        | yield f args s2 => cases h
        | defer f args s2 => cases h

theorem execR_wp (hK : CfgOk C P) {mk : Option Nat} {m n nt : Nat} {cs : List Frame} (hcs : recoverD cs = none) :
    ∀ (c : Code), okCode nt c = true → ∀ (fr : Fr) (s : St) (e : Ex) (fr' : Fr) (s' : St) (ρ : Ren) (a : Act) (w : World) (Q : Exit → Act → List Frame → World → Prop),
      execR C n c fr s = some (e, fr', s') → HR P B ρ s w → FrR mk n nt ρ s w fr a →
      (∀ ρ' w' a', Goes P B ρ s w ρ' s' w' → FrR mk n nt ρ' s' w' fr' a' → Q (exq e) a' cs w') → c.wpSIn Fence.wide m P Q a cs w := by
  intro c
  induction c with
  | skip =>
    intro _ fr s e fr' s' ρ a w Q h hr hf hq
    cases h
    exact wpSIn_of_wpIn rfl (wpIn_skip (hq ρ w a (Goes.refl hr) hf))
  | region id ops d =>
    intro hok fr s e fr' s' ρ a w Q h hr hf hq
    change sel d none (obind (opsR C n ops.toList ops.toList fr.fresh s) fun r => some (Ex.normal, r)) = some (e, fr', s') at h
    cases d with
    | true => cases h
    | false =>
      rw [sel_false] at h
      obtain ⟨⟨fr2, s2⟩, hd, h⟩ := obind_some.1 h
      obtain ⟨rfl, rfl, rfl⟩ : Ex.normal = e ∧ fr2 = fr' ∧ s2 = s' := by cases h; exact ⟨rfl, rfl, rfl⟩
      refine wpSIn_region ?_
      rw [List.range_eq_range']
      have := opsR_wp (P := P) (B := B) hK (m := m) (nt := nt) hcs (Q := Q) hok ops.toList 0 (by simp) fr.fresh s fr2 s2 ρ a w hd hr hf.fresh hq
      simpa using this
  | seq x y ihx ihy =>
    intro hok fr s e fr' s' ρ a w Q h hr hf hq
    obtain ⟨h1, h2⟩ := sel_and hok
    change obind (execR C n x fr s) (iterNext (execR C n y)) = some (e, fr', s') at h
    obtain ⟨⟨e1, fr1, s1⟩, hx, h⟩ := obind_some.1 h
    refine wpSIn_seq (ihx h1 fr s e1 fr1 s1 ρ a w _ hx hr hf ?_)
    intro ρ' w' a' hg hf'
    cases e1 with
    | normal => exact ihy h2 fr1 s1 e fr' s' ρ' a' w' Q h hg.hr hf' fun ρ2 w2 a2 hg2 hf2 => hq ρ2 w2 a2 (hg.trans hg2) hf2
    | exit id => cases h; exact hq ρ' w' a' hg hf'
    | ret => cases h; exact hq ρ' w' a' hg hf'
  | cond c x y ihx ihy =>
    intro hok fr s e fr' s' ρ a w Q h hr hf hq
    obtain ⟨h0, hok⟩ := sel_and hok
    obtain ⟨h1, h2⟩ := sel_and hok
    change obind (fr.ev n c) (condRun (execR C n x) (execR C n y) fr s) = some (e, fr', s') at h
    obtain ⟨v, hv, h⟩ := obind_some.1 h
    unfold condRun at h
    split at h
    case h_2 => cases h
    rename_i b
    rw [sel_eq] at h
    have hvr := opnd_vr (ρ := ρ) (a := a) h0 (fun t u _ hu => hf.tmps t u hu) hv
    generalize hav : a.eval c = av at hvr
    cases hvr
    refine wpSIn_cond hav ?_
    cases b with
    | true => exact ihx h1 fr s e fr' s' ρ a w Q h hr hf hq
    | false => exact ihy h2 fr s e fr' s' ρ a w Q h hr hf hq
  | ret =>
    intro _ fr s e fr' s' ρ a w Q h hr hf hq
    cases h
    exact wpSIn_of_wpIn rfl (wpIn_ret (hq ρ w a (Goes.refl hr) hf))
  | _ =>
    intro _ fr s e fr' s' ρ a w Q h hr hf hq
    cases h

theorem callR_ok (hK : CfgOk C P) : DCallOk P (callR C) := by
  intro f args s v s' h B ρ w cargs hr ha
  unfold callR at h
  obtain ⟨c, hb, h⟩ := obind_some.1 h
  obtain ⟨⟨e, fr', s2⟩, hex, hfin⟩ := obind_some.1 h
  obtain ⟨fn, h1, h2, h3, h4, h5⟩ := hK.body f c hb
  have h3' : ¬ fn.name = "runtime.NumGoroutine" := by simpa using h3
  refine ⟨by simp [callFunc, h1, h2, h3'], fun m => ?_⟩
  refine callsDIn_of_wpSIn (F := Fence.wide) (n := m) h1 h2 trivial ?_
  intro c₀ cs hc₀
  have hrec : recoverD (c₀ :: cs) = none := by simp [recoverD, hc₀]
  refine execR_wp hK (m := m) (n := C.vars f) (nt := fn.ntmps) (mk := none) hrec c h4 (startFr args) s e fr' s2 ρ _ w _ hex hr (start_fr ha none) ?_
  intro ρ' w' a' hg hf
  have fin : ∀ (hd : lcase fr'.defers (obind (results C.P (C.vars f) fr' s2 (C.results f)) fun vs => some (Ax.tuple vs, s2)) (fun _ _ => none) = some (v, s')), a'.defers = [] ∧ ∃ u', (c₀ :: cs) = { c₀ with mode := u' } :: cs ∧ ∃ v', (Go.results fn a'.tmps).run P w' = .ok v' w' ∧ (u' = .returning ∧ ∃ c ρ', Ending.returned v' = .returned c ∧ Goes P B ρ s w ρ' s' w' ∧ VR ρ' v c) := by
    intro hd
    cases hdf : fr'.defers with
    | cons d ds => rw [hdf] at hd; cases hd
    | nil =>
      rw [hdf] at hd
      obtain ⟨vs, hvs, hd⟩ := obind_some.1 hd
      cases hd
      rw [hK.prog, h5] at hvs
      obtain ⟨c, g1, g2⟩ := results_sound hg.hr hf.tmps hvs
      refine ⟨?_, .returning, by rw [← hc₀], c, g1, rfl, c, ρ', rfl, hg, g2⟩
      have hdr := hf.defers
      rw [hdf] at hdr
      cases hads : a'.defers with
      | nil => rfl
      | cons d ds =>
        rw [hads] at hdr
        cases hdr with
        | mark hm hlt hh =>
          obtain ⟨k, hk, _⟩ := hf.nomark _ (by rw [hads]; exact List.mem_cons_self ..) _ rfl
          cases hk
  cases e with
  | normal => exact fin hfin
  | ret => exact fin hfin
  | exit id => cases hfin

theorem callDR_ok (hK : CfgOk C P) {call : CallT} {yield : YieldT} (hc : CallOk P call) (hy : YieldOk P yield) (hQ : QuietOk C call) : DCallOk P (callDR C call yield) := by
  intro f args s v s' h
  cases hd : callD C call yield f args s with
  | some q =>
    have h : Option.casesOn (callD C call yield f args s) (callR C f args s) some = some (v, s') := h
    rw [hd] at h
    have h : some q = some (v, s') := h
    cases h
    exact callD_ok hK hc hy hQ f args s v s' hd
  | none =>
    have h : Option.casesOn (callD C call yield f args s) (callR C f args s) some = some (v, s') := h
    rw [hd] at h
    exact callR_ok hK f args s v s' h

/-- A CALL. -/
theorem callBody_ok (hK : CfgOk C P) {call : CallT} {yield : YieldT} (hc : CallOk P call) (hy : YieldOk P yield) (hQ : QuietOk C call) : CallOk P (callBody C call yield) := by
  intro f args s v s' h B ρ w cargs hr ha
  unfold callBody at h
  obtain ⟨c, hb, h⟩ := obind_some.1 h
  obtain ⟨⟨e, fr', s2⟩, hex, hfin⟩ := obind_some.1 h
  obtain ⟨fn, h1, h2, h3, h4, h5⟩ := hK.body f c hb
  refine (callsIn_wide (n := 0)).1 ?_
  refine callsIn_of_wp_marks (F := Fence.wide) (n := 0) h1 h2 trivial ?_
  refine exec_wp hK hc hy hQ hK.mix (ro := none) (m := 0) (n := C.vars f) (nt := fn.ntmps) (mk := some w.heap.size) (fn := f) c h4 (fun h => by cases h) (startFr args) s e fr' s2 ρ _ w _ hex hr (start_fr ha _) (fun k hk => by cases hk; exact Nat.le_refl _) ?_
  intro ρ' w' a' hg hf
  have fin : ∀ (hd : obind (unwind (callDR C call yield) fr'.defers s2) (fun s => obind (results C.P (C.vars f) fr' s (C.results f)) fun vs => some (Ax.tuple vs, s)) = some (v, s')),
      LeavesInM Fence.wide 0 P fn a'.tmps (fun e w' => ∃ c ρ', e = .returned c ∧ Goes P B ρ s w ρ' s' w' ∧ VR ρ' v c) a'.defers .returning w' := by
    intro hd
    obtain ⟨s3, hu, hd⟩ := obind_some.1 hd
    obtain ⟨vs, hvs, hd⟩ := obind_some.1 hd
    cases hd
    rw [hK.prog, h5] at hvs
    refine leaves_ok (callDR_ok hK hc hy hQ) hr hvs ?_ a'.defers fr'.defers s2 ρ' w' hf.defers ?_ hg hf.tmps hu
    · intro ρ2 w2 c hg2 hv2
      exact ⟨c, ρ2, rfl, hg2, hv2⟩
    · intro d hd r hr'
      obtain ⟨k, hk, hle⟩ := hf.nomark d hd r hr'
      cases hk
      exact hle
  cases e with
  | normal => exact fin hfin
  | ret => exact fin hfin
  | exit id => cases hfin

theorem callStep_ok (hK : CfgOk C P) {call : CallT} {yield : YieldT} (hc : CallOk P call) (hy : YieldOk P yield) (hQ : QuietOk C call) : CallOk P (callStep C call yield) := by
  intro f args s v s' h
  unfold callStep at h
  cases hi : C.insert f with
  | none => rw [hi] at h; exact callBody_ok hK hc hy hQ f args s v s' h
  | some t =>
    rw [hi] at h
    cases he : runCon C t s args with
    | none =>
      have h : Option.casesOn (runCon C t s args) (callBody C call yield f args s) some = some (v, s') := h
      rw [he] at h
      exact callBody_ok hK hc hy hQ f args s v s' h
    | some q =>
      have h : Option.casesOn (runCon C t s args) (callBody C call yield f args s) some = some (v, s') := h
      rw [he] at h
      have h : some q = some (v, s') := h
      cases h
      exact hK.insert f t hi args s v s' he

/-! ### rounds -/
theorem setPairs_ok {n : Nat} {ρ : Ren} : ∀ {ps : List Nat} {args cargs : List Value} {t t' : Tr Value} {tmps : Array Value}, setPairs ps args t = some t' → VRs ρ args cargs → okTmps tmps.size ps = true → VarsR ρ n t tmps →
    cargs.length = ps.length ∧ VarsR ρ n t' ((ps.zip cargs).foldl (fun tmps (x : Nat × Value) => tmps.setIfInBounds x.1 x.2) tmps) ∧ ((ps.zip cargs).foldl (fun tmps (x : Nat × Value) => tmps.setIfInBounds x.1 x.2) tmps).size = tmps.size
  | [], args, cargs, t, t', tmps, h, ha, _, hv => by
    cases ha with
    | nil => cases h; exact ⟨rfl, hv, rfl⟩
    | cons _ _ => cases h
  | p :: ps, args, cargs, t, t', tmps, h, ha, hok, hv => by
    cases ha with
    | nil => cases h
    | @cons v c args cargs hvc ha =>
      change setPairs ps args (t.set p v) = some t' at h
      obtain ⟨h0, hok⟩ := sel_and hok
      have h0 := ltN_some h0
      have hv2 : VarsR ρ n (t.set p v) (tmps.setIfInBounds p c) := by
        intro k u hk hu
        rw [Tr.get_set] at hu
        rw [Array.getD_eq_getD_getElem?, Array.getElem?_setIfInBounds]
        by_cases e : k = p
        · subst e
          rw [if_pos rfl] at hu
          cases hu
          rw [if_pos rfl, if_pos h0]
          exact hvc
        · rw [if_neg e] at hu
          rw [if_neg (fun h => e h.symm), ← Array.getD_eq_getD_getElem?]
          exact hv k u hk hu
      obtain ⟨h1, h2, h3⟩ := setPairs_ok (tmps := tmps.setIfInBounds p c) h ha (by rw [Array.size_setIfInBounds]; exact hok) hv2
      refine ⟨by simp [h1], h2, ?_⟩
      show (List.foldl _ (tmps.setIfInBounds p c) (ps.zip cargs)).size = _
      rw [h3]
      simp

theorem yieldStep_ok (hK : CfgOk C P) {call : CallT} {yield : YieldT} (hc : CallOk P call) (hy : YieldOk P yield) (hQ : QuietOk C call) : YieldOk P (yieldStep C call yield) := by
  intro l args s v s' h B ρ w loc cargs hr hl ha
  unfold yieldStep at h
  obtain ⟨r, hgl, h⟩ := obind_some.1 h
  obtain ⟨vars, hsp, h⟩ := obind_some.1 h
  obtain ⟨⟨e1, fr1, s1⟩, hex, h⟩ := obind_some.1 h
  obtain ⟨loc', q, g1, g2, g3, g4⟩ := getLoop_sound hr hgl
  obtain rfl : loc' = loc := by rw [hl] at g1; exact (Option.some.inj g1).symm
  obtain ⟨k1, k2, k3⟩ := setPairs_ok (n := r.n) hsp ha g4.code.2.2 g4.vars
  have hparams : q.params.toList = r.params := g4.params
  have hsize : (⟨cargs⟩ : Array Value).size = q.params.size := by
    have : q.params.toList.length = r.params.length := by rw [hparams]
    simp at this ⊢
    omega
  have hrun := run_yield (P := P) g3 hsize
  have hfold : (q.params.zip ⟨cargs⟩).foldl (fun tmps (t, a) => tmps.setIfInBounds t a) q.tmps = (r.params.zip cargs).foldl (fun tmps (x : Nat × Value) => tmps.setIfInBounds x.1 x.2) q.tmps := by
    rw [← hparams, ← Array.foldl_toList]
    congr 1
    simp
  rw [hfold] at hrun
  refine ⟨_, _, _, _, hrun, ?_⟩
  refine roundIn_of_wpIn (F := Fence.wide) trivial ?_
  rw [g4.assign, g4.body]
  -- the assignments
  have hfr0 : FrR (some 0) r.n q.tmps.size ρ s w { vars := vars, loc := [], defers := [] } { tmps := (r.params.zip cargs).foldl (fun tmps (x : Nat × Value) => tmps.setIfInBounds x.1 x.2) q.tmps, defers := [] } := by
    refine ⟨by rw [k3]; exact Nat.le_refl _, fun t u hu => ?_, .nil, fun d hd => by cases hd⟩
    unfold Fr.get at hu
    rw [sel_eq] at hu
    split at hu
    · rename_i hlt
      exact k2 t u (ltN_some hlt) hu
    · cases hu
  refine exec_wp hK hc hy hQ hK.mix (ro := some loc'.blk) (m := 0) (n := r.n) (nt := q.tmps.size) (mk := some 0) (fn := r.fn) r.assign g4.code.1 (fun hh => by cases hh) _ s e1 fr1 s1 ρ _ w _ hex hr hfr0 (fun k hk => by cases hk; exact Nat.zero_le _) ?_
  intro ρ1 w1 a1 hg1 hf1
  cases e1 with
  | exit id => cases h
  | ret => cases h
  | normal =>
    change obind (Ax.getLoop s1 l) (fun r1 => match r1.state with
      | .ready => obind (exec C call yield r.n r.fn true r.body fr1 (setLoop s1 l r1 .busy r1.pending)) (Ax.endRound l)
      | _ => none) = some (v, s') at h
    obtain ⟨r1, hgl1, h⟩ := obind_some.1 h
    obtain ⟨loc1, q1, j1, j2, j3, j4⟩ := getLoop_sound hg1.hr hgl1
    obtain rfl : loc1 = loc' := by
      have := hg1.le _ _ hl
      rw [j1] at this
      exact Option.some.inj this
    split at h
    · rename_i hst
      obtain ⟨⟨e2, fr2, s2⟩, hex2, hend⟩ := obind_some.1 h
      have hbr := run_beginRound (P := P) j3 (by rw [j4.state]; exact hst)
      have hgb := setLoop_goes hg1.hr hgl1 j1 j4 .busy r1.pending
      have hq1 : ({ q1 with state := .busy } : Loop) = { q1 with state := .busy, pending := r1.pending } := by rw [← j4.pending]
      rw [hq1] at hbr
      refine ⟨_, hbr, ?_⟩
      have hg01 := hg1.trans hgb
      refine exec_wp hK hc hy hQ hK.mix (ro := some loc1.blk) (m := 0) (n := r.n) (nt := q.tmps.size) (mk := some 0) (fn := r.fn) r.body g4.code.2.1 (fun hh => by cases hh) fr1 _ e2 fr2 s2 ρ1 a1 _ _ hex2 hgb.hr (hf1.goes hgb) (fun k hk => by cases hk; exact Nat.zero_le _) ?_
      intro ρ2 w2 a2 hg2 hf2
      unfold Ax.endRound at hend
      cases hdf : fr2.defers with
      | cons d ds => simp only [hdf] at hend; cases hend
      | nil =>
        simp only [hdf] at hend
        obtain ⟨r2, hgl2, hend⟩ := obind_some.1 hend
        obtain ⟨loc2, q2, i1, i2, i3, i4⟩ := getLoop_sound hg2.hr hgl2
        obtain rfl : loc2 = loc1 := by
          have := hg2.le _ _ j1
          rw [i1] at this
          exact Option.some.inj this
        have hall := hg01.trans hg2
        cases e2 with
        | normal =>
          cases hend
          exact ⟨_, _, run_endRound none i3, _, ρ2, rfl, hall.trans (setLoop_goes hg2.hr hgl2 i1 i4 .ready none), .bool true⟩
        | ret =>
          cases hend
          exact ⟨_, _, run_endRound (some .ret) i3, _, ρ2, rfl, hall.trans (setLoop_goes hg2.hr hgl2 i1 i4 .done (some .ret)), .bool false⟩
        | exit id =>
          cases hend
          exact ⟨_, _, run_endRound (some (.exit id)) i3, _, ρ2, rfl, hall.trans (setLoop_goes hg2.hr hgl2 i1 i4 .done (some (.exit id))), .bool false⟩
    · cases h

theorem callStep_quiet (call : CallT) (yield : YieldT) : QuietOk C (callStep C call yield) := by
  intro f args s0 s v s' hq h
  have hq : Option.casesOn (C.insert f) false (fun t => conQuiet t args) = true := hq
  unfold callStep at h
  cases hi : C.insert f with
  | none => rw [hi] at hq; cases hq
  | some t =>
    rw [hi] at hq h
    have hq : conQuiet t args = true := hq
    have h : Option.casesOn (runCon C t s args) (callBody C call yield f args s) some = some (v, s') := h
    cases t with
    | insert t => cases hq
    | closed ok => cases hq
    | fn F => cases hq
    | pure G =>
      cases hp : conPureV G args with
      | none =>
        have hq : (conPureV G args).isSome = true := hq
        rw [hp] at hq; cases hq
      | some u =>
        have e : runCon C (.pure G) s args = some (u, s) := by
          show obind (conPureV G args) _ = _
          rw [hp]; rfl
        rw [e] at h
        have h : some (u, s) = some (v, s') := h
        cases h; rfl

theorem runN_quiet : ∀ (n : Nat), QuietOk C (runN C n).1
  | 0 => fun f args s0 s v s' _ h => by cases h
  | n + 1 => callStep_quiet _ _

theorem runN_ok (hK : CfgOk C P) : ∀ (n : Nat), CallOk P (runN C n).1 ∧ YieldOk P (runN C n).2
  | 0 => ⟨(fun f args s v s' h => by cases h), (fun l args s v s' h => by cases h)⟩
  | n + 1 => ⟨callStep_ok hK (runN_ok hK n).1 (runN_ok hK n).2 (runN_quiet n), yieldStep_ok hK (runN_ok hK n).1 (runN_ok hK n).2 (runN_quiet n)⟩
end
end
end Go.Ax

namespace Go.Ax
open Go
section
variable {P : Program} {base : Nat} {ρ ρ' : Ren} {s s' s1 : St} {w w' : World}

theorem flat_eq {v c : Value} (h : flatOne v = true) (hv : VR ρ v c) : c = v := by
  cases hv <;> first | rfl | (exact Bool.noConfusion (show false = true from h))
theorem flat_vr (ρ : Ren) {v : Value} (h : flatOne v = true) : VR ρ v v := by
  cases v <;> first | exact .bool _ | exact .int _ _ | exact .string _ | (exact Bool.noConfusion (show false = true from h))
theorem flatAll_get : ∀ {l : List Value}, flatAll l = true → ∀ {j : Nat} {v : Value}, l[j]? = some v → flatOne v = true
  | [], _, j, v, hj => by simp at hj
  | a :: l, h, j, v, hj => by
    change sel (flatOne a) (flatAll l) false = true at h
    rw [sel_eq] at h
    split at h
    · rename_i ha
      cases j with
      | zero => simp at hj; subst hj; exact ha
      | succ j => simp at hj; exact flatAll_get h hj
    · cases h

/-- The state that knows one block alone. -/
noncomputable def oneSt (cs : List Value) (t : TypeId) : St := { heap := Hp.set (.s 15 0) 64 (.row cs t 0), fams := .s 15 0, next := 65 }
def oneRen (l : Loc) : Ren := fun i => if i = 64 then some l else none

theorem oneSt_get (cs : List Value) (t : TypeId) (i : Nat) : (oneSt cs t).heap.get i = if i = 64 then some (.row cs t 0) else none := by
  show (Hp.set (Hp.s 15 0) 64 (Row.row cs t 0)).get i = _
  rw [Hp.get_set, Hp.get_s]

theorem oneSt_cells (cs : List Value) (t : TypeId) : (oneSt cs t).cells 64 = some (cs, t, 0) := cells_some.2 ⟨by rw [oneSt_get]; rfl, .inl rfl⟩

theorem oneSt_tag {cs : List Value} {t : TypeId} {i : Nat} {a : Nat × Nat} (h : (oneSt cs t).tag i = some a) : i = 64 ∧ a = (0, 64) := by
  unfold St.tag at h
  rw [oneSt_get] at h
  by_cases hi : i = 64
  · rw [if_pos hi] at h
    simp at h
    exact ⟨hi, by rw [← h, hi]⟩
  · rw [if_neg hi] at h; cases h

theorem one_hr (h : HR P base ρ s w) {b : Nat} {cs : List Value} {t : TypeId} (hb : fixedTop ≤ b) (hc : s.cells b = some (cs, t, 0)) (hf : flatAll cs = true) : ∃ l, ρ b = some l ∧ l.off = 0 ∧ HR P base (oneRen l) (oneSt cs t) w := by
  obtain ⟨l, hrow⟩ := h.rows b _ _ _ hc
  have hl : ρ b = some l := by rw [← Ren.at_of (ρ := ρ) hb]; exact hrow.at_
  obtain ⟨d1, d2, d3, d4⟩ := h.dom b l hl
  have hl0 : l.off = 0 := by
    obtain ⟨_, a, fz, _, _, _, h0, _⟩ := hrow
    exact (h0 rfl).1
  refine ⟨l, hl, hl0, ⟨fun i q hi => ?_, by show 64 ≤ 65; omega, h.base_le, fun i hi ht => ?_, fun i r hi => ?_, fun i cs1 e1 f1 hi => ?_, fun i cs1 e1 f1 hi => ?_, fun i es c hi => ?_, fun i r hi => ?_, fun i j x y u v hi hj hxy hu hv => ?_⟩⟩
  · unfold oneRen at hi
    split at hi
    · rename_i e; cases hi; subst e; exact ⟨by decide, by show 64 < 65; omega, d3, d4⟩
    · cases hi
  · cases ht' : (oneSt cs t).tag i with
    | none => exact absurd ht' ht
    | some a =>
      have := (oneSt_tag ht').1
      have : fixedTop = 64 := rfl
      omega
  · rw [oneSt_get] at hi
    split at hi
    · rename_i e; subst e; show 64 < 65; omega
    · cases hi
  · rw [oneSt_get] at hi
    split at hi
    · cases hi; show 0 < 65; omega
    · cases hi
  · obtain ⟨h1, _⟩ := cells_some.1 hi
    rw [oneSt_get] at h1
    split at h1
    · rename_i e
      subst e
      cases h1
      obtain ⟨hat, a, fz, ha, hv, hz, h0, h1⟩ := hrow
      refine ⟨l, ?_, a, fz, ha, fun j x hj => ?_, fun _ => hz hb, fun _ => ?_, fun hn => absurd rfl hn⟩
      · show (oneRen l).at 64 = some l
        rw [Ren.at_of (by decide)]; rfl
      · obtain ⟨y, hy, hxy⟩ := hv j x hj
        have hfl := flatAll_get hf hj
        rw [flat_eq hfl hxy] at hy
        exact ⟨x, hy, flat_vr _ hfl⟩
      · obtain ⟨q1, q2, q3⟩ := h0 rfl
        exact ⟨q1, q2, fun _ => q3 hb⟩
    · cases h1
  · rw [oneSt_get] at hi
    split at hi <;> cases hi
  · rw [oneSt_get] at hi
    split at hi <;> cases hi
  · obtain ⟨_, rfl⟩ := oneSt_tag hi
    obtain ⟨_, rfl⟩ := oneSt_tag hj
    exact absurd rfl hxy

theorem putRow0 (s : St) (b : Nat) (cs : List Value) (t : TypeId) : putRow s b cs t 0 = { heap := s.heap.set b (.row cs t 0), fams := s.fams, next := s.next } := rfl

/-- What a call does that knows one block alone, it does to that block. -/
theorem one_goes (h : HR P base ρ s w) {b : Nat} {cs cs' : List Value} {t : TypeId} {l : Loc} (hb : fixedTop ≤ b) (hc : s.cells b = some (cs, t, 0)) (hl : ρ b = some l)
    (hg : Goes P base (oneRen l) (oneSt cs t) w ρ' s1 w') (hc1 : s1.cells 64 = some (cs', t, 0)) (hf : flatAll cs' = true) : Goes P base ρ s w ρ (putRow s b cs' t 0) w' := by
  rw [putRow0]
  obtain ⟨hg1, _⟩ := cells_some.1 hc
  have htb : s.tag b = some (0, b) := tag_cells hc
  have hlat : ρ.at b = some l := by rw [Ren.at_of hb]; exact hl
  have htb' : ({ heap := s.heap.set b (.row cs' t 0), fams := s.fams, next := s.next } : St).tag b = some (0, b) := by
    unfold St.tag; simp [Hp.get_set_same]
  have htag : ∀ i, ({ heap := s.heap.set b (.row cs' t 0), fams := s.fams, next := s.next } : St).tag i = s.tag i := by
    intro i
    by_cases hi : i = b
    · subst hi; rw [htb', htb]
    · exact tag_set_other (n := s.next) hi
  have hne : ∀ i q x, i ≠ b → s.tag i = some x → ρ.at i = some q → q.blk ≠ l.blk := by
    intro i q x hi hx hq
    refine h.sep i b x (0, b) q l hx htb ?_ hq hlat
    rintro rfl
    unfold St.tag at hx
    split at hx
    · split at hx
      · simp at hx; exact hi hx
      · split at hx
        · split at hx <;> simp at hx
        · cases hx
    · simp at hx; exact hi hx
    · simp at hx; exact hi hx
    · cases hx
  have hold : ∀ i q x, i ≠ b → s.tag i = some x → ρ.at i = some q → w'.heap[q.blk]? = w.heap[q.blk]? := by
    intro i q x hi hx hq
    refine hg.frame _ (h.blk_lt hx hq) ?_
    rintro ⟨j, u, y, _, hy, hu, e⟩
    obtain ⟨rfl, _⟩ := oneSt_tag hy
    have hu : some l = some u := hu
    cases hu
    exact hne i q x hi hx hq e.symm
  have hl1 : ρ'.at 64 = some l := by
    rw [Ren.at_of (by decide), hg.old 64 (by show 64 < 65; omega)]; rfl
  refine ⟨Ren.le_refl ρ, ⟨fun i q hi => ?_, h.next, Nat.le_trans h.base_le hg.grow, fun i hi ht => ?_, fun i r hi => ?_, fun i cs1 e1 f1 hi => ?_, fun i cs1 e1 f1 hi => ?_, fun i es c hi => ?_, fun i r hi => ?_, fun i j x y u v hi hj hxy hu hv => ?_⟩, hg.os, hg.tape, hg.output, hg.grow, Nat.le_refl _, fun k hk ho => ?_, fun k ho => ?_, fun _ _ => rfl⟩
  · obtain ⟨a, b, c, d⟩ := h.dom i q hi
    exact ⟨a, b, c, Nat.lt_of_lt_of_le d hg.grow⟩
  · rw [htag] at ht; exact h.low i hi ht
  · by_cases hi' : i = b
    · subst hi'; exact h.heap_dom i _ hg1
    · simp only [Hp.get_set_other _ _ hi'] at hi; exact h.heap_dom i r hi
  · by_cases hi' : i = b
    · subst hi'
      simp only [Hp.get_set_same] at hi
      cases hi
      exact h.fam_dom i _ _ _ hg1
    · simp only [Hp.get_set_other _ _ hi'] at hi; exact h.fam_dom i _ _ _ hi
  · by_cases hi' : i = b
    · subst hi'
      obtain ⟨h1, _⟩ := cells_some.1 hi
      simp only [Hp.get_set_same] at h1
      cases h1
      obtain ⟨l', hat, a, fz, ha, hv, hz, h0, h1⟩ := hg.hr.rows 64 _ _ _ hc1
      rw [hl1] at hat
      cases hat
      refine ⟨l, hlat, a, fz, ha, fun j x hj => ?_, fun _ => hz (by decide), fun _ => ?_, fun hn => absurd rfl hn⟩
      · obtain ⟨y, hy, hxy⟩ := hv j x hj
        have hfl := flatAll_get hf hj
        rw [flat_eq hfl hxy] at hy
        exact ⟨x, hy, flat_vr _ hfl⟩
      · obtain ⟨q1, q2, q3⟩ := h0 rfl
        exact ⟨q1, q2, fun _ => q3 (by decide)⟩
    · have hi2 : s.cells i = some (cs1, e1, f1) := (cells_set_other (n := s.next) hi') ▸ hi
      obtain ⟨q, hq⟩ := h.rows i cs1 e1 f1 hi2
      exact ⟨q, hq.move (Ren.le_refl ρ) (hold i q _ hi' (tag_cells hi2) hq.at_)⟩
  · by_cases hi' : i = b
    · subst hi'; simp only [Hp.get_set_same] at hi; cases hi
    · simp only [Hp.get_set_other _ _ hi'] at hi
      obtain ⟨q, hq, es', h1, h2⟩ := h.maps i es c hi
      exact ⟨q, hq, es', by rw [hold i q _ hi' (tag_map hi) (by rw [Ren.at_of (h.dom i q hq).1]; exact hq)]; exact h1, h2⟩
  · by_cases hi' : i = b
    · subst hi'; simp only [Hp.get_set_same] at hi; cases hi
    · simp only [Hp.get_set_other _ _ hi'] at hi
      obtain ⟨q, hq, q', h1, h2⟩ := h.loops i r hi
      exact ⟨q, hq, q', by rw [hold i q _ hi' (tag_loop hi) (by rw [Ren.at_of (h.dom i q hq).1]; exact hq)]; exact h1, h2⟩
  · rw [htag] at hi hj
    exact h.sep i j x y u v hi hj hxy hu hv
  · refine hg.frame k hk ?_
    rintro ⟨j, u, y, _, hy, hu, e⟩
    obtain ⟨rfl, _⟩ := oneSt_tag hy
    have hu : some l = some u := hu
    cases hu
    exact ho ⟨b, l, _, hb, htb, hl, e⟩
  · left
    obtain ⟨i, q, x, h1, h2, h3, h4⟩ := ho
    rw [htag] at h2
    exact ⟨i, q, x, h1, h2, h3, h4⟩

/-! ### contracts -/
theorem flatAll_vrs (ρ' : Ren) : ∀ {l c : List Value}, flatAll l = true → VRs ρ l c → VRs ρ' l c
  | [], _, _, .nil => .nil
  | a :: l, _, h, .cons hv hl => by
    change sel (flatOne a) (flatAll l) false = true at h
    rw [sel_eq] at h
    split at h
    · rename_i ha
      exact .cons (by rw [flat_eq ha hv]; exact flat_vr ρ' ha) (flatAll_vrs ρ' h hl)
    · cases h

theorem freeV_vr (ρ' : Ren) {v c : Value} (h : freeV v = true) (hv : VR ρ v c) : VR ρ' v c := by
  cases hv with
  | agg hl => exact .agg (flatAll_vrs ρ' h hl)
  | tuple hl => exact .tuple (flatAll_vrs ρ' h hl)
  | bool b => exact .bool b
  | int k n => exact .int k n
  | string s => exact .string s
  | _ => exact Bool.noConfusion (show false = true from h)

theorem freeAll_vrs (ρ' : Ren) : ∀ {l c : List Value}, freeAll l = true → VRs ρ l c → VRs ρ' l c
  | [], _, _, .nil => .nil
  | a :: l, _, h, .cons hv hl => by
    change sel (freeV a) (freeAll l) false = true at h
    rw [sel_eq] at h
    split at h
    · rename_i ha
      exact .cons (freeV_vr ρ' ha hv) (freeAll_vrs ρ' h hl)
    · cases h

/-- the place of a pointer or of a slice of known capacity: its block, and the same at block 64 -/
noncomputable def reloc (v : Value) : Option (Nat × Value) :=
  match v with
  | .pointer (some a) => guard a.spot.isNone (some (a.block, .pointer (some ⟨64, a.off, none⟩)))
  | .slice (some a) n c => guard (a.spot.isNone && !Nat.beq a.block deadId) (some (a.block, .slice (some ⟨64, a.off, none⟩) n c))
  | _ => none

theorem reloc_vr {v c x : Value} {b : Nat} {l : Loc} (h : reloc v = some (b, x)) (hb : fixedTop ≤ b) (hl : ρ b = some l) (hv : VR ρ v c) : VR (oneRen l) x c := by
  have hl1 : (oneRen l).at 64 = some l := by rw [Ren.at_of (by decide)]; rfl
  cases hv with
  | @ptr b' o l' hl' =>
    obtain ⟨_, h⟩ := guard_some.1 (show guard true (some (b', Value.pointer (some ⟨64, o, none⟩))) = some (b, x) from h)
    cases h
    rw [Ren.at_of (ρ := ρ) hb, hl] at hl'
    cases hl'
    exact .ptr hl1
  | @slice b' o n c l' hl' =>
    obtain ⟨_, h⟩ := guard_some.1 (show guard (true && !Nat.beq b' deadId) (some (b', Value.slice (some ⟨64, o, none⟩) n c)) = some (b, x) from h)
    cases h
    rw [Ren.at_of (ρ := ρ) hb, hl] at hl'
    cases hl'
    exact .slice hl1
  | dead a c =>
    have h : (none : Option (Nat × Value)) = some (b, x) := h
    cases h
  | _ => cases h

/-- a function of one argument that knows one block alone -/
noncomputable def conOne (G : Value → List Value → Option (Value × List Value)) (s : St) (args : List Value) : Option (Value × St) :=
  match args with
  | [x] => obind (reloc x) fun q => guard (Nat.ble fixedTop q.1) (obind (s.cells q.1) fun c => guard (Nat.beq c.2.2 0 && flatAll c.1) (obind (G q.2 c.1) fun r => guard (freeV r.1 && flatAll r.2) (some (r.1, putRow s q.1 r.2 c.2.1 0))))
  | _ => none

theorem conOne_sound {C : Cfg} (hK : CfgOk C P) {n : Nat} {f : FuncId} {G : Value → List Value → Option (Value × List Value)}
    (hrun : ∀ x cs t r, flatAll cs = true → G x cs = some r → ∃ s1, (runN C n).1 f [x] (oneSt cs t) = some (r.1, s1) ∧ s1.cells 64 = some (r.2, t, 0))
    {args : List Value} {v : Value} (hv : conOne G s args = some (v, s')) {cargs : List Value} (hr : HR P base ρ s w) (ha : VRs ρ args cargs) :
    Calls P f ⟨cargs⟩ w fun e w' => ∃ c ρ', e = .returned c ∧ Goes P base ρ s w ρ' s' w' ∧ VR ρ' v c := by
  unfold conOne at hv
  split at hv
  · rename_i x
    obtain ⟨⟨b, y⟩, hq, hv⟩ := obind_some.1 hv
    obtain ⟨hb, hv⟩ := guard_some.1 hv
    obtain ⟨⟨cs, t, fm⟩, hc, hv⟩ := obind_some.1 hv
    obtain ⟨h0, hv⟩ := guard_some.1 hv
    obtain ⟨⟨r, cs'⟩, hG, hv⟩ := obind_some.1 hv
    obtain ⟨hfr, hv⟩ := guard_some.1 hv
    simp only [Bool.and_eq_true] at h0 hfr
    have hfm : fm = 0 := Nat.eq_of_beq_eq_true h0.1
    subst hfm
    cases hv
    have hb : fixedTop ≤ b := Nat.le_of_ble_eq_true hb
    obtain ⟨l, hl, _, hone⟩ := one_hr hr hb hc h0.2
    obtain ⟨s1, hrun1, hc1⟩ := hrun y cs t (r, cs') h0.2 hG
    cases ha with
    | cons h1 h2 => cases h2 with
      | nil =>
        refine ((runN_ok hK n).1 f [y] _ _ s1 hrun1 base _ w _ hone (.cons (reloc_vr hq hb hl h1) .nil)).mono ?_
        rintro e w' ⟨c, ρ', rfl, hg, hvc⟩
        exact ⟨c, ρ, rfl, one_goes hr hb hc hl hg hc1 hfr.2, freeV_vr ρ hfr.1 hvc⟩
  · cases hv

noncomputable def noneSt : St := St.mk (.s 15 0) (.s 15 0) 64

theorem noneSt_tag (i : Nat) : noneSt.tag i = none := by
  unfold St.tag
  have : noneSt.heap.get i = none := Hp.get_s ..
  rw [this]

theorem none_hr (P : Program) (W : World) : HR P W.heap.size (fun _ => none) noneSt W where
  dom := fun _ _ h => by cases h
  next := Nat.le_refl 64
  base_le := Nat.le_refl _
  low := fun i _ h => absurd (noneSt_tag i) h
  heap_dom := fun i r h => by rw [show noneSt.heap.get i = none from Hp.get_s ..] at h; cases h
  fam_dom := fun i cs e f h => by rw [show noneSt.heap.get i = none from Hp.get_s ..] at h; cases h
  rows := fun i cs e f h => by
    obtain ⟨h1, _⟩ := cells_some.1 h
    rw [show noneSt.heap.get i = none from Hp.get_s ..] at h1; cases h1
  maps := fun i es c h => by rw [show noneSt.heap.get i = none from Hp.get_s ..] at h; cases h
  loops := fun i r h => by rw [show noneSt.heap.get i = none from Hp.get_s ..] at h; cases h
  sep := fun i j a b l l' hi _ _ _ _ => by rw [noneSt_tag] at hi; cases hi

theorem Goes.of_below' (h : HR P base ρ s w) (hb : RowKit.Below w.heap.size w w') : Goes P base ρ s w ρ s w' := by
  refine ⟨Ren.le_refl ρ, ?_, hb.os, hb.tape, hb.output, hb.size, Nat.le_refl _, fun b hlt _ => hb.block b hlt, fun b ho => .inl ho, fun _ _ => rfl⟩
  refine ⟨fun i l hl => ?_, h.next, Nat.le_trans h.base_le hb.size, h.low, h.heap_dom, h.fam_dom, fun i cs e f hc => ?_, fun i es c hi => ?_, fun i r hi => ?_, h.sep⟩
  · obtain ⟨a, b, c, d⟩ := h.dom i l hl
    exact ⟨a, b, c, Nat.lt_of_lt_of_le d hb.size⟩
  · obtain ⟨l, hq⟩ := h.rows i cs e f hc
    exact ⟨l, hq.move (Ren.le_refl ρ) (hb.block _ (h.blk_lt (tag_cells hc) hq.at_))⟩
  · obtain ⟨l, hl, es', h1, h2⟩ := h.maps i es c hi
    exact ⟨l, hl, es', by rw [hb.block _ (h.dom i l hl).2.2.2]; exact h1, h2⟩
  · obtain ⟨l, hl, q, h1, h2⟩ := h.loops i r hi
    exact ⟨l, hl, q, by rw [hb.block _ (h.dom i l hl).2.2.2]; exact h1, h2⟩

theorem conPure_sound {C : Cfg} (hK : CfgOk C P) {n : Nat} {f : FuncId} {G : List Value → Option Value}
    (hrun : ∀ args v, freeAll args = true → G args = some v → ∃ s1, (runN C n).1 f args noneSt = some (v, s1))
    {args : List Value} {v : Value} (hv : conPure G s args = some (v, s')) {cargs : List Value} (hr : HR P base ρ s w) (ha : VRs ρ args cargs) :
    Calls P f ⟨cargs⟩ w fun e w' => ∃ c ρ', e = .returned c ∧ Goes P base ρ s w ρ' s' w' ∧ VR ρ' v c := by
  unfold conPure conPureV at hv
  obtain ⟨u, hu, hv⟩ := obind_some.1 hv
  cases hv
  obtain ⟨hf, hv⟩ := guard_some.1 hu
  obtain ⟨u, hG, hv⟩ := obind_some.1 hv
  obtain ⟨hfv, hv⟩ := guard_some.1 hv
  cases hv
  obtain ⟨s1, hrun1⟩ := hrun args v hf hG
  refine ((runN_ok hK n).1 f args _ _ s1 hrun1 w.heap.size _ w _ (none_hr P w) (freeAll_vrs _ hf ha)).mono ?_
  rintro e w' ⟨c, ρ', rfl, hg, hvc⟩
  exact ⟨c, ρ, rfl, Goes.of_below' hr (hg.below (none_hr P w)), freeV_vr ρ hfv hvc⟩

/-- a table's entries, each by a run of its own -/
theorem memo_hrun {C : Cfg} {n : Nat} {f : FuncId} {T : List (List Value × Value)} (h : ∀ p ∈ T, ∃ s1, (runN C n).1 f p.1 noneSt = some (p.2, s1)) :
    ∀ args v, freeAll args = true → memoG T args = some v → ∃ s1, (runN C n).1 f args noneSt = some (v, s1) := by
  intro args v _ hm
  induction T with
  | nil => cases hm
  | cons p T ih =>
    have hm : sel (sameL (sameV 4) p.1 args) (some p.2) (memoG T args) = some v := hm
    rw [sel_eq] at hm
    split at hm
    · rename_i hs
      cases hm
      rw [← sameL_eq (fun a b => sameV_eq 4) hs]
      exact h p List.mem_cons_self
    · exact ih (fun q hq => h q (List.mem_cons_of_mem _ hq)) hm
end
end Go.Ax

namespace Go.Ax
open Go
variable {P : Program}

theorem info_lt {t : TypeId} (h : t < P.types.size) : P.info? t = P.types[t]? := by
  show Tables.info? P.toTables t = _
  unfold Tables.info?
  rw [if_pos h]

noncomputable def zeroChk (P : Program) : Bool := P.types.toList.all fun i => match i.zero with
  | none => true
  | some v => pureV 20 v

theorem zeroChk_ok (h : zeroChk P = true) : ZeroOk P := by
  intro t i v ht hi hv ρ
  rw [info_lt ht] at hi
  have hm : i ∈ P.types.toList := by
    have := Array.mem_of_getElem? hi
    simpa using this
  have := List.all_eq_true.1 h i hm
  rw [hv] at this
  exact pureV_vr ρ 20 this

noncomputable def fieldsChk (P : Program) : Bool := (List.range P.types.size).all fun t => match P.underlying t with
  | some (.struct fs) => fs.toList.all fun f => (size P f.type).isSome
  | _ => true

theorem fieldsChk_ok (h : fieldsChk P = true) : FieldsOk P := by
  intro t fs ht hu f hf
  have := List.all_eq_true.1 h t (List.mem_range.2 ht)
  rw [hu] at this
  exact Option.isSome_iff_exists.1 (List.all_eq_true.1 this f hf)

def outerD (d : TypeDesc) : Bool := match d with
  | .named _ _ => false
  | .int _ => false
  | _ => true

theorem none_ne_some {α : Type} {a : α} (h : (none : Option α) = some a) : False := by cases h

theorem reckonStruct_plain {info : TypeId → Option TypeInfo} {fs : Array Field} {i : TypeInfo} (h : Made.reckonStruct info fs = some i) : outerD i.desc = true := by
  unfold Made.reckonStruct at h
  simp only [Option.bind_eq_bind, Option.pure_def] at h
  obtain ⟨r, _, h⟩ := Option.bind_eq_some_iff.1 h
  revert h
  obtain ⟨a, b⟩ := r
  intro h
  simp only at h
  repeat' split at h
  all_goals (cases h; rfl)

theorem reckon_plain {info : TypeId → Option TypeInfo} {d : TypeDesc} {i : TypeInfo} (h : Made.reckon info d = some i) : outerD i.desc = true := by
  unfold Made.reckon at h
  cases d <;> try (exact (none_ne_some h).elim)
  case pointer e =>
    simp only [Option.bind_eq_bind, Option.pure_def] at h
    obtain ⟨j, _, h⟩ := Option.bind_eq_some_iff.1 h
    split at h
    · cases h
    · split at h
      · cases h
      · obtain ⟨s, _, h⟩ := Option.bind_eq_some_iff.1 h
        cases h; rfl
    · obtain ⟨s, _, h⟩ := Option.bind_eq_some_iff.1 h
      cases h; rfl
  case struct fs => exact reckonStruct_plain h
  all_goals
    simp only [Option.bind_eq_bind, Option.pure_def, Option.bind_eq_some_iff] at h
  case slice e => obtain ⟨_, _, _, _, h⟩ := h; cases h; rfl
  case map k e => obtain ⟨_, _, _, _, _, _, _, _, h⟩ := h; cases h; rfl
  case chan k e => obtain ⟨_, _, _, _, h⟩ := h; cases h; rfl
  case func a b c => obtain ⟨_, _, h⟩ := h; cases h; rfl
  case array n e => obtain ⟨_, _, _, _, h⟩ := h; cases h; rfl

theorem made_plain {t : TypeId} (ht : ¬ t < P.types.size) {i : TypeInfo} (h : P.info? t = some i) : outerD i.desc = true := by
  have h : Tables.info? P.toTables t = some i := h
  unfold Tables.info? at h
  rw [if_neg ht] at h
  unfold Made.infoAt at h
  split at h
  · cases h
  · rw [if_neg ht] at h
    obtain ⟨d, _, h⟩ := Option.bind_eq_some_iff.1 h
    exact reckon_plain h

noncomputable def byteChk (P : Program) : Bool := (List.range P.types.size).all fun t => match P.underlying t with
  | some (.int .u8) => (match size P t with
    | some 1 => true
    | _ => false)
  | _ => true

theorem byteChk_ok (h : byteChk P = true) : ∀ e, P.underlying e = some (.int .u8) → size P e = some 1 := by
  intro t hu
  by_cases ht : t < P.types.size
  · have := List.all_eq_true.1 h t (List.mem_range.2 ht)
    rw [hu] at this
    simp only at this
    split at this
    · assumption
    · cases this
  · exfalso
    unfold Program.underlying at hu
    cases hi : P.info? t with
    | none => rw [hi] at hu; cases hu
    | some i =>
      have := made_plain ht hi
      rw [hi] at hu
      split at hu
      · rename_i n u _ _ _ _ _ _ _ _ _ _ e
        cases e; cases this
      · rename_i e
        cases e
        simp only [Option.some.injEq] at hu
        rw [hu] at this; cases this
      · cases hu

def eqChk (P : Program) (t : TypeId) : Bool := !P.eqGuardType P.depth t && match P.underlying t with
  | some (.struct fs) => !P.stoodInHeld t && fs.toList.all fun f => !(f.name == "_")
  | _ => true

theorem eqChk_ok {C : Cfg} {l : List Nat} (hl : ∀ t, C.eqOk t = true → t ∈ l) (h : l.all (eqChk C.P) = true) : EqOk C where
  guard t ht := by
    have := List.all_eq_true.1 h t (hl t ht)
    simp only [eqChk, Bool.and_eq_true, Bool.not_eq_true'] at this
    exact this.1
  held t fs ht hu := by
    have := List.all_eq_true.1 h t (hl t ht)
    simp only [eqChk, hu, Bool.and_eq_true, Bool.not_eq_true', List.all_eq_true] at this
    exact ⟨this.2.1, fun f hf e => by have := this.2.2 f hf; simp [e] at this⟩

/-! bodies -/
noncomputable def bodyChk (l : List (Option Func)) : Bool := l.all fun q => match q with
  | some fn => (match fn.body with
    | some c => !(fn.name == "runtime.NumGoroutine") && okCode fn.ntmps c
    | none => true)
  | none => true

/-! functions of the library's without a body -/
theorem ext_int3 {ρ : Ren} {args cargs : List Value} (ha : VRs ρ args cargs) {s' : St} {v : Value} {f : Nat → Nat → Nat → Option (Value × St)} (h : nat3 args f = some (v, s')) :
    ∃ k1 k2 k3 x y c, cargs = [.int k1 (Int.ofNat x), .int k2 (Int.ofNat y), .int k3 (Int.ofNat c)] ∧ f x y c = some (v, s') := by
  unfold nat3 at h
  split at h
  · obtain ⟨x, hx, h⟩ := obind_some.1 h
    obtain ⟨y, hy, h⟩ := obind_some.1 h
    obtain ⟨c, hc, h⟩ := obind_some.1 h
    have key : ∀ {v c : Value} {n : Nat}, VR ρ v c → asNat v = some n → ∃ k, c = .int k (Int.ofNat n) := by
      intro v c n hv hn
      cases hv <;> try (exact (none_ne_some hn).elim)
      rename_i k i
      cases i with
      | ofNat m => cases hn; exact ⟨k, rfl⟩
      | negSucc m => cases hn
    cases ha with
    | cons h1 ha => cases ha with
      | cons h2 ha => cases ha with
        | cons h3 ha => cases ha with
          | nil =>
            obtain ⟨k1, rfl⟩ := key h1 hx
            obtain ⟨k2, rfl⟩ := key h2 hy
            obtain ⟨k3, rfl⟩ := key h3 hc
            exact ⟨k1, k2, k3, x, y, c, rfl, h⟩
  · cases h
end Go.Ax

set_option linter.unusedVariables false
namespace Go.Ax
open Go
noncomputable section

/-- What is made ready once: the kernel keeps what a closed one comes to. -/
inductive Box (α : Type) where
  | mk (x : α)
  | bad

def bbind {α β : Type} (b : Box α) (k : α → Box β) : Box β := Box.rec k .bad b
def bor {α : Type} (b c : Box α) : Box α := Box.rec .mk c b

/-- What a region's operations work with beside the frame and the state. -/
structure JE where
  call : CallT
  yield : YieldT
  base : Nat
  pend : List Pend
  cl : Bool

abbrev Loc' := List (Nat × Value)
abbrev Dfs := List (FuncId × List Value)
abbrev JK := JE → Tr Value → Loc' → Dfs → St → Option (Fr × St)
abbrev JV := Tr Value → Loc' → St → Option Value
abbrev JG := Tr Value → Loc' → Option Value
abbrev JRun := CallT → YieldT → Fr → St → Out

/-! paths -/
def jGetP {α : Type} : Path → Box (Tr α → Option α) := fun p =>
  List.rec (.mk fun t => Tr.rec none (fun v _ _ _ _ => v) t)
    (fun b _ ih => bbind ih fun g => Bool.rec (.mk fun t => Tr.rec none (fun _ x _ _ _ => g x) t) (.mk fun t => Tr.rec none (fun _ _ y _ _ => g y) t) b) p

def jSetP {α : Type} : Path → Box (α → Tr α → Tr α) := fun p =>
  List.rec (.mk fun a t => Tr.rec (.n (some a) .e .e) (fun _ x y _ _ => .n (some a) x y) t)
    (fun b _ ih => bbind ih fun g => Bool.rec
      (.mk fun a t => Tr.rec (.n none (g a .e) .e) (fun v x y _ _ => .n v (g a x) y) t)
      (.mk fun a t => Tr.rec (.n none .e (g a .e)) (fun v x y _ _ => .n v x (g a y)) t) b) p

def jNth : Nat → Box (Loc' → Option Value) := fun k =>
  Nat.rec (.mk fun l => List.rec none (fun p _ _ => some p.2) l) (fun _ ih => bbind ih fun g => .mk fun l => List.rec none (fun _ t _ => g t) l) k

def posOf (t : Nat) : List Nat → Option Nat := fun l => List.rec none (fun a _ ih => sel (Nat.beq a t) (some 0) (obind ih fun k => some (Nat.succ k))) l

def jGet (n : Nat) (ks : List Nat) (x : Operand) : Box JG :=
  match x with
  | .tmp t => sel (ltN t n) (bbind (jGetP (path t)) fun g => .mk fun vars _ => g vars) (Option.casesOn (posOf t ks) (.mk fun _ _ => none) fun k => bbind (jNth k) fun g => .mk fun _ loc => g loc)
  | .const v => .mk fun _ _ => some v
  | .global g => .mk fun _ _ => some (ptr g 0)
  | .func f => .mk fun _ _ => some (.func (.func f) #[] #[])

def jGets (n : Nat) (ks : List Nat) : List Operand → Box (Tr Value → Loc' → Option (List Value)) := fun l =>
  List.rec (.mk fun _ _ => some []) (fun x _ ih => bbind (jGet n ks x) fun g => bbind ih fun r => .mk fun vars loc => obind (g vars loc) fun v => obind (r vars loc) fun vs => some (v :: vs)) l

/-- a value laid into the frame, and what then -/
abbrev JP := JK → JE → Value → Tr Value → Loc' → Dfs → St → Option (Fr × St)

def jPut (n : Nat) (dst : Option Tmp) : Box JP :=
  Option.casesOn dst (.mk fun r e _ vars loc ds s => r e vars loc ds s) fun d => sel (ltN d n) (bbind (jSetP (path d)) fun g => .mk fun r e v vars loc ds s => r e (g v vars) loc ds s) (.mk fun r e v vars loc ds s => r e vars ((d, v) :: loc) ds s)

def jPush (n : Nat) (dst : Option Tmp) (ks : List Nat) : List Nat := Option.casesOn dst ks fun d => sel (ltN d n) ks (d :: ks)

/-! forced numbers -/
def forceN {β : Type} (n : Nat) (k : Nat → β) : β := Nat.rec (k 0) (fun m _ => k (Nat.succ m)) n
def forceI {β : Type} (z : Int) (k : Int → β) : β := Int.rec (fun n => forceN n fun n => k (Int.ofNat n)) (fun n => forceN n fun n => k (Int.negSucc n)) z

def forceV (v : Option Value) : Option Value :=
  match v with
  | some (.int k z) => forceI z fun z => some (.int k z)
  | v => v

/-! operations -/
def jInt (op : BinOp) : Box (IntKind → Int → Int → Option Value) :=
  match op with
  | .add => .mk fun k a b => forceI (wrap k (addI a b)) fun z => some (.int k z)
  | .sub => .mk fun k a b => forceI (wrap k (subI a b)) fun z => some (.int k z)
  | .mul => .mk fun k a b => forceI (wrap k (mulI a b)) fun z => some (.int k z)
  | .eql => .mk fun _ a b => some (.bool (eqI a b))
  | .neq => .mk fun _ a b => some (.bool (!eqI a b))
  | .lss => .mk fun _ a b => some (.bool (ltI a b))
  | .leq => .mk fun _ a b => some (.bool (leI a b))
  | .gtr => .mk fun _ a b => some (.bool (ltI b a))
  | .geq => .mk fun _ a b => some (.bool (leI b a))
  | .shl => .bad
  | .shr => .bad
  | op => .mk fun k a b => forceV (intOp op k a b)

def binGen (C : Cfg) (op : BinOp) (t : TypeId) (x y : Operand) (a b : Value) : Option Value := guard (nilsOk C t x y a b) (binOp C t op a b)

def jBin2 (C : Cfg) (op : BinOp) (t : TypeId) (x y : Operand) (f : IntKind → Int → Int → Option Value) (a b : Value) : Option Value :=
  match a with
  | .int k i => match b with
    | .int k' j => guard (kindEq k k') (f k i j)
    | b => binGen C op t x y a b
  | a => binGen C op t x y a b

def jBin (C : Cfg) (op : BinOp) (t : TypeId) (x y : Operand) : Box (Value → Value → Option Value) :=
  Box.rec (fun f => .mk (jBin2 C op t x y f)) (.mk (binGen C op t x y)) (jInt op)

def jLoad (P : Program) (t : TypeId) : Box (List Value → Nat → Option Value) :=
  Option.casesOn (isAgg P t) .bad fun g => sel g (Option.casesOn (size P t) .bad fun n => .mk fun cs o => obind (takeN n (dropL o cs)) fun l => some (mkAgg l)) (.mk fun cs o => nth cs o)

def ptrK {β : Type} (v : Value) (k : Addr → Option β) : Option β :=
  match v with
  | .pointer (some a) => k a
  | _ => none

def boolK {β : Type} (v : Value) (x y : Option β) : Option β :=
  match v with
  | .bool c => sel c x y
  | _ => none

def sliceK {β : Type} (v : Value) (k : Addr → Nat → Option β) : Option β :=
  match v with
  | .slice (some a) len _ => k a len
  | _ => none

def tupK {β : Type} (v : Value) (k : List Value → Option β) : Option β :=
  match v with
  | .tuple vs => k vs.toList
  | _ => none

def nilK (C : Cfg) (v : Value) : Option Value :=
  match v with
  | .pointer (some _) => some v
  | .func fn first _ => guard (okFunc C fn first.toList) (some v)
  | .iface _ _ => some v
  | _ => none

/-- the value of an operation that leaves the state as it is -/
def jVal (C : Cfg) (n : Nat) (ks : List Nat) (o : Op) : Box JV :=
  match o with
  | .move x => bbind (jGet n ks x) fun g => .mk fun vars loc _ => g vars loc
  | .assign x => bbind (jGet n ks x) fun g => .mk fun vars loc _ => g vars loc
  | .pick c a b => bbind (jGet n ks c) fun gc => bbind (jGet n ks a) fun ga => bbind (jGet n ks b) fun gb => .mk fun vars loc _ => obind (gc vars loc) fun v => boolK v (ga vars loc) (gb vars loc)
  | .binOp op t x y _ => bbind (jGet n ks x) fun gx => bbind (jGet n ks y) fun gy => bbind (jBin C op t x y) fun f => .mk fun vars loc _ => obind (gx vars loc) fun a => obind (gy vars loc) fun b => f a b
  | .unOp op _ x => bbind (jGet n ks x) fun g => .mk fun vars loc _ => obind (g vars loc) fun v => unOp op v
  | .load t a => bbind (jGet n ks a) fun g => bbind (jLoad C.P t) fun f => .mk fun vars loc s => obind (g vars loc) fun v => ptrK v fun a => obind (s.cells a.block) fun c => f c.1 a.off
  | .fieldAddr t x i => bbind (jGet n ks x) fun g => Option.casesOn (obind (fieldInfo C.P t i) fun f => obind (size C.P f.type) fun m => guard (!Nat.beq m 0) (some f.offset)) .bad fun off =>
      .mk fun vars loc _ => obind (g vars loc) fun v => ptrK v fun a => forceN (Nat.add a.off off) fun o => some (ptr a.block o)
  | .nilCheck x => bbind (jGet n ks x) fun g => .mk fun vars loc _ => obind (g vars loc) fun v => nilK C v
  | .indexAddr t x i => bbind (jGet n ks x) fun gx => bbind (jGet n ks i) fun gi => match C.P.underlying t with
    | some (.slice e) => Option.casesOn (size C.P e) .bad fun m => .mk fun vars loc _ =>
        obind (gx vars loc) fun x => obind (gi vars loc) fun i => obind (asNat i) fun i => sliceK x fun a len => guard (ltN i len) (forceN (Nat.add a.off (Nat.mul i m)) fun o => some (ptr a.block o))
    | _ => .bad
  | .extract x i => bbind (jGet n ks x) fun g => .mk fun vars loc _ => obind (g vars loc) fun v => tupK v fun vs => nth vs i
  | .makeFunc fn a b => sel (noYield fn) (bbind (jGets n ks a.toList) fun ga => bbind (jGets n ks b.toList) fun gb => .mk fun vars loc _ => obind (ga vars loc) fun a => obind (gb vars loc) fun b => some (.func fn ⟨a⟩ ⟨b⟩)) .bad
  | .makeInterface t x => sel (!isIface C.P t && (C.P.underlying t).isSome) (bbind (jGet n ks x) fun g => .mk fun vars loc _ => obind (g vars loc) fun v => some (.iface t v)) .bad
  | _ => .bad

/-- the operation itself, its destination's setter and what then -/
def jGen (C : Cfg) (rd : Bool) (n : Nat) (o : Oper) (r : JK) : JK := fun e vars loc ds s =>
  obind (execOp C (Fr.ev n { vars := vars, loc := loc, defers := ds }) s o.op) (afterOp e.call e.yield rd n { vars := vars, loc := loc, defers := ds } o.dst fun fr s => r e fr.vars fr.loc fr.defers s)

def jOp (C : Cfg) (rd : Bool) (n : Nat) (ks : List Nat) (o : Oper) (put : JP) (r : JK) : Box JK :=
  match o.op with
  | .alloc t => Option.casesOn (zero C.P t) (.mk (jGen C rd n o r)) fun z => .mk fun e vars loc ds s => forceN s.next fun b =>
      put r e (ptr b 0) vars loc ds { heap := s.heap.set b (.row z t 0), fams := s.fams, next := Nat.succ b }
  | .box t x => bbind (jGet n ks x) fun g => .mk fun e vars loc ds s => obind (g vars loc) fun v => forceN s.next fun b =>
      put r e (ptr b 0) vars loc ds { heap := s.heap.set b (.row (cellsOf v) t 0), fams := s.fams, next := Nat.succ b }
  | .store t a x => bbind (jGet n ks a) fun ga => bbind (jGet n ks x) fun gx => Option.casesOn (size C.P t) (.mk (jGen C rd n o r)) fun m => .mk fun e vars loc ds s =>
      obind (ga vars loc) fun v => ptrK v fun a => obind (gx vars loc) fun v => guard (Nat.beq (lenL (cellsOf v)) m) (obind (storeCells s a.block a.off (cellsOf v)) fun s => put r e unit vars loc ds s)
  | .call c => match c.callee with
    | .value (.func f) => Option.casesOn (C.ext f) (sel (C.body f).isSome (bbind (jGets n ks c.args.toList) fun gs => .mk fun e vars loc ds s => obind (gs vars loc) fun args => obind (e.call f args s) fun q => put r e q.1 vars loc ds q.2) (.mk (jGen C rd n o r))) fun _ => .mk (jGen C rd n o r)
    | _ => .mk (jGen C rd n o r)
  | _ => Box.rec (fun v => .mk fun e vars loc ds s => obind (v vars loc s) fun x => put r e x vars loc ds s) (.mk (jGen C rd n o r)) (jVal C n ks o.op)

def jGuard (n : Nat) (all : List Oper) (g : Option (Nat × Bool)) (put : JP) (f r : JK) : JK :=
  Option.casesOn g f fun _ => fun e vars loc ds s => obind (guardOk n all { vars := vars, loc := loc, defers := ds } g) fun b => sel b (f e vars loc ds s) (put r e unit vars loc ds s)

def jOne (C : Cfg) (rd : Bool) (n : Nat) (all : List Oper) (ks : List Nat) (o : Oper) (r : JK) : Box JK :=
  bbind (jPut n o.dst) fun put => bbind (jOp C rd n ks o put r) fun f => .mk (jGuard n all o.guard put f r)

def jEnd : JK := fun _ vars loc ds s => some ({ vars := vars, loc := loc, defers := ds }, s)

def jOps (C : Cfg) (rd : Bool) (n : Nat) (all : List Oper) : List Oper → List Nat → Box JK := fun ops =>
  List.rec (fun _ => .mk jEnd) (fun o _ ih ks => bbind (ih (jPush n o.dst ks)) fun r => jOne C rd n all ks o r) ops

/-! regions whose order is drawn -/
def withPend (e : JE) (l : List Pend) : JE := { call := e.call, yield := e.yield, base := e.base, pend := l, cl := e.cl }
def withCl (e : JE) (b : Bool) : JE := { call := e.call, yield := e.yield, base := e.base, pend := e.pend, cl := b }

/-- a call by name of a function that has a quiet contract -/
def mayQuiet (C : Cfg) (o : Op) : Bool :=
  match o with
  | .call c => match c.callee with
    | .value x => match x with
      | .func f => Option.casesOn (C.insert f) false fun t => match t with
        | .pure _ => true
        | _ => false
      | _ => true
    | _ => true
  | _ => true

/-- a loud operation: by the operation itself where it may be quiet -/
def jLoud (C : Cfg) (rd : Bool) (n : Nat) (a : Info) (rest : List Info) (r : JK) : JK := fun e vars loc ds s =>
  obind (execOp C (Fr.ev n { vars := vars, loc := loc, defers := ds }) s a.op.op) (drawLoud C e.call e.yield rd n e.base a rest (fun cl p fr s => r (withCl (withPend e p) cl) fr.vars fr.loc fr.defers s) e.cl e.pend { vars := vars, loc := loc, defers := ds })

/-- the value, by the operation itself -/
def jValGen (C : Cfg) (n : Nat) (o : Op) : JV := fun vars loc s => obind (execOp C (Fr.ev n { vars := vars, loc := loc, defers := [] }) s o) fun r => match r with
  | .val v _ => some v
  | _ => none

def jDraw1 (C : Cfg) (rd : Bool) (n : Nat) (ks : List Nat) (a : Info) (rest : List Info) (put : JP) (r : JK) : Box JK :=
  ncase a.cls
    (bbind (bor (jVal C n ks a.op.op) (.mk (jValGen C n a.op.op))) fun v => .mk fun e vars loc ds s => obind (v vars loc s) fun x => put r e x vars loc ds s)
    fun c1 => ncase c1
      (bbind (bor (jVal C n ks a.op.op) (.mk (jValGen C n a.op.op))) fun v => .mk fun e vars loc ds s => obind (v vars loc s) fun x => guard (quietV s x) (put r (withPend e ({ i := a.i, op := a.op.op, fr := { vars := vars, loc := loc, defers := ds }, v := x } :: e.pend)) x vars loc ds s))
      fun c2 => ncase c2
        (.mk fun e vars loc ds s => obind (aOp C (Fr.ev n { vars := vars, loc := loc, defers := ds }) a.op.op) fun q => forceN (Nat.add e.base a.i) fun id => put r (withCl e false) (q.2 id) vars loc ds { heap := s.heap.set id q.1, fams := s.fams, next := s.next })
        fun _ => sel (quietOp a.op.op && mayQuiet C a.op.op) (.mk (jLoud C rd n a rest r)) (jOp C rd n ks a.op put fun e vars loc ds s => guard (lookAll C n s a.mask e.pend && freeIds s e.base rest) (r (withCl e false) vars loc ds s))

def jDrawOne (C : Cfg) (rd : Bool) (n : Nat) (all : List Oper) (ks : List Nat) (a : Info) (rest : List Info) (r : JK) : Box JK :=
  bbind (jPut n a.op.dst) fun put => bbind (jDraw1 C rd n ks a rest put r) fun f => .mk (jGuard n all a.op.guard put f r)

def jDraw (C : Cfg) (rd : Bool) (n : Nat) (all : List Oper) : List Info → List Nat → Box JK := fun l =>
  List.rec (fun _ => .mk jEnd) (fun a rest ih ks => bbind (ih (jPush n a.op.dst ks)) fun r => jDrawOne C rd n all ks a rest r) l

def toOut (q : Fr × St) : Out := some (.normal, q)

def jCond (n : Nat) (x : Operand) : Box (Fr → Option Value) :=
  match x with
  | .tmp t => sel (ltN t n) (bbind (jGetP (path t)) fun g => .mk fun fr => g fr.vars) (.mk fun fr => fr.ev n x)
  | x => .mk fun fr => fr.ev n x

def jRegion (C : Cfg) (n : Nat) (fn : FuncId) (rd : Bool) (id : Nat) (ops : List Oper) (draw : Bool) : Box JRun :=
  sel draw (Option.casesOn (planOf ops (C.order fn id)) .bad fun l => bbind (jDraw C rd n ops l []) fun r => .mk fun call yield fr s =>
      obind (r { call := call, yield := yield, base := s.next, pend := [], cl := true } fr.vars [] fr.defers { heap := s.heap, fams := s.fams, next := Nat.add s.next (lenL ops) }) toOut)
    (bbind (jOps C rd n ops ops []) fun r => .mk fun call yield fr s => obind (r { call := call, yield := yield, base := 0, pend := [], cl := true } fr.vars [] fr.defers s) toOut)

def jCode (C : Cfg) (n : Nat) (fn : FuncId) (rd : Bool) (c : Code) : Box JRun :=
  Code.rec (motive := fun _ => Box JRun)
    (.mk fun _ _ fr s => some (.normal, fr, s))
    (fun id ops draw => jRegion C n fn rd id ops.toList draw)
    (fun _ _ a b => bbind a fun ra => bbind b fun rb => .mk fun call yield fr s => obind (ra call yield fr s) (iterNext (rb call yield)))
    (fun c _ _ a b => bbind (jCond n c) fun g => bbind a fun ra => bbind b fun rb => .mk fun call yield fr s => obind (g fr) fun v => boolK v (ra call yield fr s) (rb call yield fr s))
    (fun id _ a => bbind a fun ra => .mk fun call yield fr s => obind (ra call yield fr s) (blockEnd id))
    (fun _ a => bbind a fun ra => .mk fun call yield fr s => iter (ra call yield) 100000 fr s)
    (fun f params assign body _ _ => .mk fun call yield fr s => rangeFunc C call n fn rd f params assign body fr s)
    (fun id => .mk fun _ _ fr s => some (.exit id, fr, s))
    (fun _ a => sel rd (.mk fun _ _ _ _ => none) a)
    (fun _ => .mk fun _ _ fr s => some (.normal, fr, s))
    (fun _ => .mk fun _ _ _ _ => none)
    (.mk fun _ _ fr s => some (.ret, fr, s))
    (fun _ => .mk fun _ _ _ _ => none) c

def jFn (C : Cfg) (f : FuncId) : Box (CallT → YieldT → List Value → St → Option (Value × St)) :=
  Option.casesOn (C.body f) .bad fun c => bbind (jCode C (C.vars f) f false c) fun run => .mk fun call yield args s => obind (run call yield (startFr args) s) (finish C (callDR C call yield) f)

/-- a call of the function's own code -/
def jBody (C : Cfg) (call : CallT) (yield : YieldT) (f : FuncId) (args : List Value) (s : St) : Option (Value × St) :=
  Box.rec (fun run => run call yield args s) (callBody C call yield f args s) (jFn C f)

def jStep (C : Cfg) (call : CallT) (yield : YieldT) (f : FuncId) (args : List Value) (s : St) : Option (Value × St) :=
  Option.casesOn (C.insert f) (jBody C call yield f args s) fun t => Option.casesOn (runCon C t s args) (jBody C call yield f args s) some

def jRunN (C : Cfg) (n : Nat) : CallT × YieldT :=
  Nat.rec (fun _ _ _ => none, fun _ _ _ => none) (fun _ ih => (jStep C ih.1 ih.2, yieldStep C ih.1 ih.2)) n
end
end Go.Ax

namespace Go.Ax
open Go

theorem bbind_mk {α β : Type} {b : Box α} {k : α → Box β} {r : β} : bbind b k = .mk r ↔ ∃ a, b = .mk a ∧ k a = .mk r := by
  cases b with
  | mk a => constructor
            · intro h; exact ⟨a, rfl, h⟩
            · rintro ⟨a', h, h'⟩; cases h; exact h'
  | bad => constructor
           · intro h; cases h
           · rintro ⟨a', h, h'⟩; cases h

theorem bad_mk {α : Type} {r : α} (h : Box.bad = .mk r) : False := by cases h

theorem mk_inj {α : Type} {a b : α} (h : Box.mk a = .mk b) : a = b := by cases h; rfl

theorem jGetP_ok {α : Type} (p : Path) : ∀ (g : Tr α → Option α), jGetP p = .mk g → ∀ t, g t = Tr.getP p t := by
  induction p with
  | nil => intro g h t; have h := mk_inj h; subst h; cases t <;> rfl
  | cons b p ih =>
    intro g h t
    have h : bbind (jGetP p) (fun g => Bool.rec (motive := fun _ => Box (Tr α → Option α)) (.mk fun t => Tr.rec none (fun _ x _ _ _ => g x) t) (.mk fun t => Tr.rec none (fun _ _ y _ _ => g y) t) b) = .mk g := h
    obtain ⟨g', h1, h2⟩ := bbind_mk.1 h
    have ih := ih g' h1
    cases b <;> (have h2 := mk_inj h2; subst h2; cases t with
      | e => rfl
      | n v x y => exact ih _)

theorem jSetP_ok {α : Type} (p : Path) : ∀ (g : α → Tr α → Tr α), jSetP p = .mk g → ∀ a t, g a t = Tr.setP a p t := by
  induction p with
  | nil => intro g h a t; have h := mk_inj h; subst h; cases t <;> rfl
  | cons b p ih =>
    intro g h a t
    have h : bbind (jSetP p) (fun g => Bool.rec (motive := fun _ => Box (α → Tr α → Tr α))
      (.mk fun a t => Tr.rec (.n none (g a .e) .e) (fun v x y _ _ => .n v (g a x) y) t)
      (.mk fun a t => Tr.rec (.n none .e (g a .e)) (fun v x y _ _ => .n v x (g a y)) t) b) = .mk g := h
    obtain ⟨g', h1, h2⟩ := bbind_mk.1 h
    have ih := ih g' h1
    cases b <;> (have h2 := mk_inj h2; subst h2; cases t with
      | e => exact (by
          show Tr.n _ _ _ = Tr.n _ _ _
          rw [ih] <;> rfl)
      | n v x y => exact (by
          show Tr.n _ _ _ = Tr.n _ _ _
          rw [ih] <;> rfl))

noncomputable def keys (l : Loc') : List Nat := mapL (fun p => p.1) l

theorem keys_cons (d : Nat) (v : Value) (l : Loc') : keys ((d, v) :: l) = d :: keys l := rfl

theorem jNth_ok : ∀ (k : Nat) (g : Loc' → Option Value), jNth k = .mk g → ∀ t (l : Loc'), posOf t (keys l) = some k → g l = findLoc t l := by
  intro k
  induction k with
  | zero =>
    intro g h t l hp
    have h := mk_inj h; subst h
    cases l with
    | nil => cases hp
    | cons p l =>
      have hp : sel (Nat.beq p.1 t) (some 0) (obind (posOf t (keys l)) fun k => some (Nat.succ k)) = some 0 := hp
      show some p.2 = sel (Nat.beq p.1 t) (some p.2) (findLoc t l)
      cases hb : Nat.beq p.1 t with
      | true => rfl
      | false =>
        rw [hb] at hp
        obtain ⟨k, _, h⟩ := obind_some.1 (show obind (posOf t (keys l)) (fun k => some (Nat.succ k)) = some 0 from hp)
        cases h
  | succ k ih =>
    intro g h t l hp
    obtain ⟨g', h1, h2⟩ := bbind_mk.1 (show bbind (jNth k) (fun g => .mk fun l : Loc' => List.rec none (fun _ t _ => g t) l) = .mk g from h)
    have h2 := mk_inj h2; subst h2
    cases l with
    | nil => cases hp
    | cons p l =>
      have hp : sel (Nat.beq p.1 t) (some 0) (obind (posOf t (keys l)) fun k => some (Nat.succ k)) = some (k + 1) := hp
      show g' l = sel (Nat.beq p.1 t) (some p.2) (findLoc t l)
      cases hb : Nat.beq p.1 t with
      | true => rw [hb] at hp; cases hp
      | false =>
        rw [hb] at hp
        obtain ⟨k', h3, h⟩ := obind_some.1 (show obind (posOf t (keys l)) (fun k => some (Nat.succ k)) = some (k + 1) from hp)
        have h : k' + 1 = k + 1 := Option.some.inj h
        have : k' = k := by omega
        subst this
        exact ih g' h1 t l h3

theorem posOf_none (t : Nat) : ∀ (l : Loc'), posOf t (keys l) = none → findLoc t l = none := by
  intro l
  induction l with
  | nil => intro _; rfl
  | cons p l ih =>
    intro hp
    have hp : sel (Nat.beq p.1 t) (some 0) (obind (posOf t (keys l)) fun k => some (Nat.succ k)) = none := hp
    show sel (Nat.beq p.1 t) (some p.2) (findLoc t l) = none
    cases hb : Nat.beq p.1 t with
    | true => rw [hb] at hp; cases hp
    | false =>
      rw [hb] at hp
      cases hq : posOf t (keys l) with
      | none => exact ih hq
      | some k => rw [hq] at hp; cases hp

abbrev F (vars : Tr Value) (loc : Loc') (ds : Dfs) : Fr := { vars := vars, loc := loc, defers := ds }

theorem jGet_ok {n : Nat} {ks : List Nat} {x : Operand} {g : JG} (h : jGet n ks x = .mk g) (vars : Tr Value) (loc : Loc') (ds : Dfs) (hk : keys loc = ks) : g vars loc = Fr.ev n (F vars loc ds) x := by
  subst hk
  cases x with
  | tmp t =>
    have h : sel (ltN t n) (bbind (jGetP (path t)) fun g => .mk fun vars _ => g vars) (Option.casesOn (posOf t (keys loc)) (.mk fun _ _ => none) fun k => bbind (jNth k) fun g => .mk fun _ loc => g loc) = .mk g := h
    show _ = sel (ltN t n) (vars.get t) (findLoc t loc)
    cases hb : ltN t n with
    | true =>
      rw [hb] at h
      obtain ⟨g', h1, h2⟩ := bbind_mk.1 (show bbind (jGetP (path t)) (fun g => .mk fun (vars : Tr Value) (_ : Loc') => g vars) = .mk g from h)
      have h2 := mk_inj h2; subst h2
      exact jGetP_ok _ g' h1 vars
    | false =>
      rw [hb] at h
      cases hp : posOf t (keys loc) with
      | none =>
        rw [hp] at h
        have h := mk_inj h; subst h
        exact (posOf_none t loc hp).symm
      | some k =>
        rw [hp] at h
        obtain ⟨g', h1, h2⟩ := bbind_mk.1 (show bbind (jNth k) (fun g => .mk fun (_ : Tr Value) (loc : Loc') => g loc) = .mk g from h)
        have h2 := mk_inj h2; subst h2
        exact jNth_ok k g' h1 t loc hp
  | const v => have h := mk_inj h; subst h; rfl
  | global v => have h := mk_inj h; subst h; rfl
  | func v => have h := mk_inj h; subst h; rfl

theorem jGets_ok {n : Nat} {ks : List Nat} : ∀ {l : List Operand} {g : Tr Value → Loc' → Option (List Value)}, jGets n ks l = .mk g → ∀ (vars : Tr Value) (loc : Loc') (ds : Dfs), keys loc = ks → g vars loc = evs (Fr.ev n (F vars loc ds)) l := by
  intro l
  induction l with
  | nil => intro g h vars loc ds hk; have h := mk_inj h; subst h; rfl
  | cons x l ih =>
    intro g h vars loc ds hk
    obtain ⟨g1, h1, h⟩ := bbind_mk.1 (show bbind (jGet n ks x) (fun g => bbind (jGets n ks l) fun r => .mk fun vars loc => obind (g vars loc) fun v => obind (r vars loc) fun vs => some (v :: vs)) = .mk g from h)
    obtain ⟨g2, h2, h⟩ := bbind_mk.1 h
    have h := mk_inj h; subst h
    show obind (g1 vars loc) _ = obind (Fr.ev n (F vars loc ds) x) fun v => obind (evs (Fr.ev n (F vars loc ds)) l) fun r => some (v :: r)
    rw [jGet_ok h1 vars loc ds hk, ih h2 vars loc ds hk]

theorem jPut_ok {n : Nat} {dst : Option Tmp} {put : JP} (h : jPut n dst = .mk put) (r : JK) (e : JE) (v : Value) (vars : Tr Value) (loc : Loc') (ds : Dfs) (s : St) :
    put r e v vars loc ds s = r e (Fr.put n (F vars loc ds) dst v).vars (Fr.put n (F vars loc ds) dst v).loc ds s := by
  cases dst with
  | none => have h := mk_inj h; subst h; rfl
  | some d =>
    have h : sel (ltN d n) (bbind (jSetP (path d)) fun g => .mk fun r e v vars loc ds s => r e (g v vars) loc ds s) (.mk fun r e v vars loc ds s => r e vars ((d, v) :: loc) ds s) = .mk put := h
    show _ = r e (sel (ltN d n) (F (vars.set d v) loc ds) (F vars ((d, v) :: loc) ds)).vars (sel (ltN d n) (F (vars.set d v) loc ds) (F vars ((d, v) :: loc) ds)).loc ds s
    cases hb : ltN d n with
    | true =>
      rw [hb] at h
      obtain ⟨g', h1, h2⟩ := bbind_mk.1 (show bbind (jSetP (path d)) (fun g => .mk fun r e v vars loc ds s => r e (g v vars) loc ds s) = .mk put from h)
      have h2 := mk_inj h2; subst h2
      show r e (g' v vars) loc ds s = _
      rw [jSetP_ok _ g' h1]; rfl
    | false =>
      rw [hb] at h
      have h := mk_inj h; subst h; rfl

theorem put_defers (n : Nat) (vars : Tr Value) (loc : Loc') (ds : Dfs) (dst : Option Tmp) (v : Value) : (Fr.put n (F vars loc ds) dst v).defers = ds := by
  cases dst with
  | none => rfl
  | some d =>
    show (sel (ltN d n) (F (vars.set d v) loc ds) (F vars ((d, v) :: loc) ds)).defers = ds
    cases ltN d n <;> rfl

theorem put_keys (n : Nat) (vars : Tr Value) (loc : Loc') (ds : Dfs) (dst : Option Tmp) (v : Value) : keys (Fr.put n (F vars loc ds) dst v).loc = jPush n dst (keys loc) := by
  cases dst with
  | none => rfl
  | some d =>
    show keys (sel (ltN d n) (F (vars.set d v) loc ds) (F vars ((d, v) :: loc) ds)).loc = sel (ltN d n) (keys loc) (d :: keys loc)
    cases ltN d n <;> rfl

theorem forceN_eq {β : Type} (n : Nat) (k : Nat → β) : forceN n k = k n := by cases n <;> rfl
theorem forceI_eq {β : Type} (z : Int) (k : Int → β) : forceI z k = k z := by
  cases z with
  | ofNat n => show forceN n (fun n => k (Int.ofNat n)) = _; rw [forceN_eq]
  | negSucc n => show forceN n (fun n => k (Int.negSucc n)) = _; rw [forceN_eq]
end Go.Ax

namespace Go.Ax
open Go

/-- what an operation without effect comes to: as the interpreter has it -/
noncomputable def asVal (x : Option Value) (s : St) : Option Res := obind x fun v => ret v s

theorem asVal_obind {α : Type} (x : Option α) (k : α → Option Value) (s : St) : asVal (obind x k) s = obind x fun a => asVal (k a) s := by cases x <;> rfl
theorem asVal_guard (b : Bool) (k : Option Value) (s : St) : asVal (guard b k) s = guard b (asVal k s) := by cases b <;> rfl
theorem asVal_sel (b : Bool) (x y : Option Value) (s : St) : asVal (sel b x y) s = sel b (asVal x s) (asVal y s) := by cases b <;> rfl
theorem asVal_some (v : Value) (s : St) : asVal (some v) s = ret v s := rfl
theorem asVal_none (s : St) : asVal none s = none := rfl
theorem obind_assoc {α β γ : Type} (x : Option α) (k : α → Option β) (l : β → Option γ) : obind (obind x k) l = obind x fun a => obind (k a) l := by cases x <;> rfl
theorem guard_obind {α β : Type} (b : Bool) (x : Option α) (k : α → Option β) : obind (guard b x) k = guard b (obind x k) := by cases b <;> rfl
theorem obind_congr {α β : Type} (x : Option α) {k l : α → Option β} (h : ∀ a, k a = l a) : obind x k = obind x l := by cases x with
  | none => rfl
  | some a => exact h a

theorem forceV_eq (v : Option Value) : forceV v = v := by
  cases v with
  | none => rfl
  | some v =>
    cases v <;> first | rfl | skip
    rename_i k z
    exact forceI_eq z fun z => some (Value.int k z)

theorem intOp_eq (op : BinOp) (f : IntKind → Int → Int → Option Value) (h : jInt op = .mk f) (k : IntKind) (a b : Int) : f k a b = intOp op k a b := by
  cases op <;> first
    | exact (bad_mk h).elim
    | (have h := mk_inj h; subst h; first | rfl | exact forceI_eq _ _ | exact forceV_eq _)

theorem jInt_shift {op : BinOp} {f : IntKind → Int → Int → Option Value} (h : jInt op = .mk f) : op ≠ .shl ∧ op ≠ .shr := by
  constructor <;> (intro e; subst e; exact bad_mk h)

theorem binOp_int (C : Cfg) {op : BinOp} (h : op ≠ .shl ∧ op ≠ .shr) (t : TypeId) (k k' : IntKind) (i j : Int) : binOp C t op (.int k i) (.int k' j) = guard (kindEq k k') (intOp op k i j) := by
  cases op <;> first | rfl | exact absurd rfl h.1 | exact absurd rfl h.2

theorem jBin_ok {C : Cfg} {op : BinOp} {t : TypeId} {x y : Operand} {f : Value → Value → Option Value} (h : jBin C op t x y = .mk f) (a b : Value) : f a b = binGen C op t x y a b := by
  have h : Box.rec (motive := fun _ => Box (Value → Value → Option Value)) (fun f => .mk (jBin2 C op t x y f)) (.mk (binGen C op t x y)) (jInt op) = .mk f := h
  cases hj : jInt op with
  | bad => rw [hj] at h; have h := mk_inj h; subst h; rfl
  | mk g =>
    rw [hj] at h; have h := mk_inj h; subst h
    cases a <;> try rfl
    cases b <;> try rfl
    rename_i k i k' j
    show guard (kindEq k k') (g k i j) = guard (nilsOk C t x y (.int k i) (.int k' j)) (binOp C t op (.int k i) (.int k' j))
    rw [binOp_int C (jInt_shift hj), intOp_eq op g hj]; rfl

theorem jLoad_ok {P : Program} {t : TypeId} {f : List Value → Nat → Option Value} (h : jLoad P t = .mk f) (cs : List Value) (o : Nat) : f cs o = loadCs P t o cs := by
  have h : Option.casesOn (isAgg P t) .bad (fun g => sel g (Option.casesOn (size P t) .bad fun n => .mk fun cs o => obind (takeN n (dropL o cs)) fun l => some (mkAgg l)) (.mk fun cs o => nth cs o)) = Box.mk f := h
  show _ = obind (isAgg P t) fun g => sel g (obind (size P t) fun n => obind (takeN n (dropL o cs)) fun l => some (mkAgg l)) (nth cs o)
  cases hg : isAgg P t with
  | none => rw [hg] at h; cases h
  | some g =>
    rw [hg] at h
    cases g with
    | false => have h := mk_inj h; subst h; rfl
    | true =>
      have h : Option.casesOn (size P t) .bad (fun n => .mk fun cs o => obind (takeN n (dropL o cs)) fun l => some (mkAgg l)) = Box.mk f := h
      cases hs : size P t with
      | none => rw [hs] at h; cases h
      | some n => rw [hs] at h; have h := mk_inj h; subst h; rfl

theorem jVal_ok {C : Cfg} {n : Nat} {ks : List Nat} {o : Op} {v : JV} (h : jVal C n ks o = .mk v) (vars : Tr Value) (loc : Loc') (ds : Dfs) (s : St) (hk : keys loc = ks) :
    asVal (v vars loc s) s = execOp C (Fr.ev n (F vars loc ds)) s o := by
  cases o <;> try exact (bad_mk h).elim
  case move x =>
    obtain ⟨g, h1, h⟩ := bbind_mk.1 h
    have h := mk_inj h; subst h
    show asVal (g vars loc) s = obind (Fr.ev n (F vars loc ds) x) fun v => ret v s
    rw [jGet_ok h1 vars loc ds hk]; rfl
  case assign x =>
    obtain ⟨g, h1, h⟩ := bbind_mk.1 h
    have h := mk_inj h; subst h
    show asVal (g vars loc) s = obind (Fr.ev n (F vars loc ds) x) fun v => ret v s
    rw [jGet_ok h1 vars loc ds hk]; rfl
  case pick c a b =>
    obtain ⟨g, h1, h⟩ := bbind_mk.1 h
    obtain ⟨ga, h2, h⟩ := bbind_mk.1 h
    obtain ⟨gb, h3, h⟩ := bbind_mk.1 h
    have h := mk_inj h; subst h
    show asVal (obind (g vars loc) fun v => boolK v (ga vars loc) (gb vars loc)) s = _
    rw [jGet_ok h1 vars loc ds hk, jGet_ok h2 vars loc ds hk, jGet_ok h3 vars loc ds hk, asVal_obind]
    apply obind_congr
    intro v
    cases v <;> try rfl
    rename_i b
    cases b <;> rfl
  case load t a =>
    obtain ⟨g, h1, h⟩ := bbind_mk.1 h
    obtain ⟨f, h2, h⟩ := bbind_mk.1 h
    have h := mk_inj h; subst h
    show asVal (obind (g vars loc) fun v => ptrK v fun a => obind (s.cells a.block) fun c => f c.1 a.off) s = _
    rw [jGet_ok h1 vars loc ds hk, asVal_obind]
    apply obind_congr
    intro v
    cases v <;> try rfl
    rename_i p
    cases p with
    | none => rfl
    | some p =>
      show asVal (obind (s.cells p.block) fun c => f c.1 p.off) s = obind (obind (s.cells p.block) fun c => loadCs C.P t p.off c.1) fun v => ret v s
      rw [asVal_obind, obind_assoc]
      apply obind_congr
      intro c
      rw [jLoad_ok h2]; rfl
  case nilCheck x =>
    obtain ⟨g, h1, h⟩ := bbind_mk.1 h
    have h := mk_inj h; subst h
    show asVal (obind (g vars loc) fun v => nilK C v) s = _
    rw [jGet_ok h1 vars loc ds hk, asVal_obind]
    apply obind_congr
    intro v
    cases v <;> try rfl
    · rename_i p; cases p <;> rfl
    · exact asVal_guard _ _ _
  case binOp op t x y m =>
    obtain ⟨gx, h1, h⟩ := bbind_mk.1 h
    obtain ⟨gy, h2, h⟩ := bbind_mk.1 h
    obtain ⟨f, h3, h⟩ := bbind_mk.1 h
    have h := mk_inj h; subst h
    show asVal (obind (gx vars loc) fun a => obind (gy vars loc) fun b => f a b) s = obind (Fr.ev n (F vars loc ds) x) fun a => obind (Fr.ev n (F vars loc ds) y) fun b => guard (nilsOk C t x y a b) (obind (binOp C t op a b) fun v => ret v s)
    rw [jGet_ok h1 vars loc ds hk, jGet_ok h2 vars loc ds hk, asVal_obind]
    apply obind_congr; intro a
    rw [asVal_obind]
    apply obind_congr; intro b
    rw [jBin_ok h3]
    exact asVal_guard _ _ _
  case unOp op m x =>
    obtain ⟨g, h1, h⟩ := bbind_mk.1 h
    have h := mk_inj h; subst h
    show asVal (obind (g vars loc) fun v => unOp op v) s = _
    rw [jGet_ok h1 vars loc ds hk, asVal_obind]; rfl
  case makeInterface t x =>
    have h : sel (!isIface C.P t && (C.P.underlying t).isSome) (bbind (jGet n ks x) fun g => .mk fun vars loc _ => obind (g vars loc) fun v => some (.iface t v)) .bad = Box.mk v := h
    show _ = guard (!isIface C.P t && (C.P.underlying t).isSome) (obind (Fr.ev n (F vars loc ds) x) fun x => ret (.iface t x) s)
    cases hb : (!isIface C.P t && (C.P.underlying t).isSome) with
    | false => rw [hb] at h; cases h
    | true =>
      rw [hb] at h
      obtain ⟨g, h1, h⟩ := bbind_mk.1 h
      have h := mk_inj h; subst h
      show asVal (obind (g vars loc) fun v => some (.iface t v)) s = _
      rw [jGet_ok h1 vars loc ds hk, asVal_obind]; rfl
  case makeFunc fn a b =>
    have h : sel (noYield fn) (bbind (jGets n ks a.toList) fun ga => bbind (jGets n ks b.toList) fun gb => .mk fun vars loc _ => obind (ga vars loc) fun a => obind (gb vars loc) fun b => some (.func fn ⟨a⟩ ⟨b⟩)) .bad = Box.mk v := h
    show _ = guard (noYield fn) (obind (evs (Fr.ev n (F vars loc ds)) a.toList) fun a => obind (evs (Fr.ev n (F vars loc ds)) b.toList) fun b => ret (.func fn ⟨a⟩ ⟨b⟩) s)
    cases hb : noYield fn with
    | false => rw [hb] at h; cases h
    | true =>
      rw [hb] at h
      obtain ⟨ga, h1, h⟩ := bbind_mk.1 h
      obtain ⟨gb, h2, h⟩ := bbind_mk.1 h
      have h := mk_inj h; subst h
      show asVal (obind (ga vars loc) fun a => obind (gb vars loc) fun b => some (.func fn ⟨a⟩ ⟨b⟩)) s = _
      rw [jGets_ok h1 vars loc ds hk, jGets_ok h2 vars loc ds hk, asVal_obind]
      apply obind_congr; intro a
      rw [asVal_obind]; rfl
  case fieldAddr t x i =>
    obtain ⟨g, h1, h⟩ := bbind_mk.1 h
    cases hf : fieldInfo C.P t i with
    | none => rw [hf] at h; cases h
    | some fd =>
      rw [hf] at h
      cases hz : size C.P fd.type with
      | none =>
        have h : (Option.casesOn (obind (size C.P fd.type) fun m => guard (!Nat.beq m 0) (some fd.offset)) Box.bad fun off =>
            .mk fun vars loc _ => obind (g vars loc) fun v => ptrK v fun a => forceN (Nat.add a.off off) fun o => some (ptr a.block o) : Box JV) = .mk v := h
        rw [hz] at h
        cases h
      | some m =>
        have h : (Option.casesOn (obind (size C.P fd.type) fun m => guard (!Nat.beq m 0) (some fd.offset)) Box.bad fun off =>
            .mk fun vars loc _ => obind (g vars loc) fun v => ptrK v fun a => forceN (Nat.add a.off off) fun o => some (ptr a.block o) : Box JV) = .mk v := h
        rw [hz] at h
        show _ = obind (Fr.ev n (F vars loc ds) x) fun v => match v with
          | .pointer (some a) => obind (fieldInfo C.P t i) fun f => obind (size C.P f.type) fun n => guard (!Nat.beq n 0) (ret (ptr a.block (Nat.add a.off f.offset)) s)
          | _ => none
        have h : (Option.casesOn (guard (!Nat.beq m 0) (some fd.offset)) Box.bad fun off =>
            .mk fun vars loc _ => obind (g vars loc) fun v => ptrK v fun a => forceN (Nat.add a.off off) fun o => some (ptr a.block o) : Box JV) = .mk v := h
        cases hb : (!Nat.beq m 0) with
        | false => rw [hb] at h; cases h
        | true =>
          rw [hb] at h
          have h := mk_inj h; subst h
          show asVal (obind (g vars loc) fun v => ptrK v fun a => forceN (Nat.add a.off fd.offset) fun o => some (ptr a.block o)) s = _
          rw [jGet_ok h1 vars loc ds hk, asVal_obind]
          apply obind_congr; intro v
          cases v <;> try rfl
          rename_i p
          cases p with
          | none => rfl
          | some p =>
            show asVal (forceN (Nat.add p.off fd.offset) fun o => some (ptr p.block o)) s = obind (fieldInfo C.P t i) fun f => obind (size C.P f.type) fun n => guard (!Nat.beq n 0) (ret (ptr p.block (Nat.add p.off f.offset)) s)
            rw [forceN_eq, hf]
            show _ = obind (size C.P fd.type) fun n => guard (!Nat.beq n 0) (ret (ptr p.block (Nat.add p.off fd.offset)) s)
            rw [hz]
            show _ = guard (!Nat.beq m 0) (ret (ptr p.block (Nat.add p.off fd.offset)) s)
            rw [hb]; rfl
  case indexAddr t x i =>
    obtain ⟨gx, h1, h⟩ := bbind_mk.1 h
    obtain ⟨gi, h2, h⟩ := bbind_mk.1 h
    cases hu : C.P.underlying t with
    | none => rw [hu] at h; cases h
    | some d =>
      rw [hu] at h
      cases d <;> try exact (bad_mk h).elim
      rename_i e
      have h : (Option.casesOn (size C.P e) Box.bad fun m => .mk fun vars loc _ =>
        obind (gx vars loc) fun x => obind (gi vars loc) fun i => obind (asNat i) fun i => sliceK x fun a len => guard (ltN i len) (forceN (Nat.add a.off (Nat.mul i m)) fun o => some (ptr a.block o)) : Box JV) = .mk v := h
      cases hz : size C.P e with
      | none => rw [hz] at h; cases h
      | some m =>
        rw [hz] at h
        have h := mk_inj h; subst h
        show asVal (obind (gx vars loc) fun x => obind (gi vars loc) fun i => obind (asNat i) fun i => sliceK x fun a len => guard (ltN i len) (forceN (Nat.add a.off (Nat.mul i m)) fun o => some (ptr a.block o))) s = oIndexAddr C (Fr.ev n (F vars loc ds)) s t x i
        unfold oIndexAddr
        rw [hu, jGet_ok h1 vars loc ds hk, jGet_ok h2 vars loc ds hk, asVal_obind]
        apply obind_congr; intro x
        rw [asVal_obind]
        apply obind_congr; intro y
        rw [asVal_obind]
        apply obind_congr; intro j
        cases x <;> try rfl
        rename_i p len cap
        cases p with
        | none => rfl
        | some p =>
          show asVal (guard (ltN j len) (forceN (Nat.add p.off (Nat.mul j m)) fun o => some (ptr p.block o))) s = guard (ltN j len) (obind (size C.P e) fun n => ret (ptr p.block (Nat.add p.off (Nat.mul j n))) s)
          rw [hz, forceN_eq, asVal_guard]; rfl
  case extract x i =>
    obtain ⟨g, h1, h⟩ := bbind_mk.1 h
    have h := mk_inj h; subst h
    show asVal (obind (g vars loc) fun v => tupK v fun vs => nth vs i) s = _
    rw [jGet_ok h1 vars loc ds hk, asVal_obind]
    apply obind_congr; intro v
    cases v <;> try rfl
end Go.Ax

