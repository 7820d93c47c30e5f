import Derived.Test.YtifhpiilobkjiaaGreatDoorDd
import Derived.LoopNIn
import Derived.Scope
import Derived.RangeFuncRecord
import Derived.RecoverIn
import Derived.Laws.Externs
import Derived.Shelf.Spec.BitsCarry
import Derived.Laws.CopyRow
namespace Go.Ax
open Go
noncomputable section

section
variable {mk0 : Option Nat} {P : Program} {B : Nat} {X : DCtx} {frs : Nat → Fr} {sts : Nat → St} {nt : Nat} {ρ0 : Ren} {s0 : St} {w0 : World} {D : Nat → Prop} {a : Act} {w : World} {ρ : Ren} {k : Nat} {xs : List (Nat × Row)}

theorem DefR.world {ρ ρ' : Ren} {s s' : St} {w w' : World} {l : List (FuncId × List Value)} {ds : List Deferred} (hle : ρ.le ρ') (hm : ∀ r, MarkOk ρ s w r → MarkOk ρ' s' w' r) (h : DefR ρ s w l ds) : DefR ρ' s' w' l ds := by
  induction h with
  | nil => exact .nil
  | cons ht ha hv _ ih => exact .cons ht ha (hv.mono hle) ih
  | mark hmk hlt _ ih => exact .mark (hm _ hmk) hlt ih

/-- THE STEP: an operation whose turn may be. -/
theorem Inv.step (hK : CfgOk X.C P) (hc : CallOk P X.call) (hy : YieldOk P X.yield) {ro : Option Nat} (hro : X.rd = ro.isSome) {m : Nat} {ops : Array Oper} (hops : ops.toList = X.all) (hok : okOpers nt X.all = true) {Q : Exit → Act → World → Prop} (hR : Run0 X frs sts) (hft : fixedTop ≤ X.base) (hbs : s0.next = X.base)
    (hI : Inv mk0 P B X frs sts nt ρ0 s0 w0 D a w ρ k xs) {p : Nat} {b : Info} (hN : Now X frs D p b) {K : Act → World → Prop}
    (hK' : ∀ a' w' ρ' k' xs', Inv mk0 P B X frs sts nt ρ0 s0 w0 (fun j => D j ∨ j = b.i) a' w' ρ' k' xs' → K a' w') : wpOpIn (Fro ro) m P ops Q b.i K a w := by
  have hlt := (List.getElem?_eq_some_iff.1 hN.at_).1
  have hinf := hR.plan.info p b hN.at_
  have ho : ops[b.i]? = some b.op := by
    have := hinf.op
    rw [← hops] at this
    simpa using this
  obtain ⟨hdst, hopn⟩ := okOper_some (okOpers_mem hok b.op (List.mem_of_getElem? hinf.op))
  have hnames : ∀ t v, Names X.all b.op t → (frs p).get X.n t = some v → VR ρ v (a.tmps.getD t undef) := fun t v ht hv => hI.names hR hN ht hv
  have he : EvR ρ (restr (opnds b.op.op) ((frs p).ev X.n)) a.eval := evR_restr hopn fun t v ht hv => hnames t v (.inr (.inl ht)) hv
  have hwant : ∀ g, guardOk X.n X.all (frs p) b.op.guard = some g → Region.wanted b.op (yielded ops a.tmps) = g := by
    intro g hg
    rw [← hops] at hg
    refine wanted_eq hg fun j o' d b' v h1 h2 h3 h4 => hnames d v (.inr (.inr ⟨j, b', o', h1, ?_, h3⟩)) h4
    rw [← hops]
    simpa using h2
  have hcls : b.cls ≤ 3 := by
    rcases hinf.cls with h | h
    · rw [h]; exact cls_le _
    · omega
  have hr := hI.hr
  unfold wpOpIn
  simp only [ho]
  cases hR.steps p b hN.at_ with
  | skip hg hf hs =>
    rw [hwant _ hg]
    refine ⟨fun _ _ => trivial, ?_⟩
    exact hK' _ _ _ _ _ (Inv.quiet hR hI hN (Goes.refl hr) hf (.tuple .nil) hdst (fun h => by rw [h.1] at hg; cases hg) fun r mk h => by rw [h.1] at hg; cases hg)
  | pure hg hc0 v s' hev hf hs =>
    rw [hwant _ hg]
    have hcl : cls b.op.op = 0 := by
      rcases hinf.cls with h | h
      · rw [← h]; exact hc0
      · omega
    rw [← execOp_restr] at hev
    obtain ⟨v', h1, h2⟩ := (pure_indep hcl).use hev
    cases h1
    refine op_wp hK hc hy hr he (h2 (addRows xs (sts k))) (v := v) (s' := addRows xs (sts k)) (df := none) rfl ?_
    intro ρ' w' c ds hgo hv hn
    cases hn
    exact hK' _ _ _ _ _ (Inv.quiet hR hI hN hgo hf hv hdst (fun h => by have := h.2; omega) fun r mk h => by have := h.2.1; omega)
  | read hg hc1 v s' hev hq hf hs again =>
    rw [hwant _ hg]
    have hcl : cls b.op.op = 1 := by
      rcases hinf.cls with h | h
      · rw [← h]; exact hc1
      · omega
    -- a part of the state at which the executor has looked
    have hsub : ∃ s1, SubS s1 (addRows xs (sts k)) ∧ execOp X.C (restr (opnds b.op.op) ((frs p).ev X.n)) s1 b.op.op = some (.val v s1) := by
      rcases Nat.lt_or_ge p k with hpk | hpk
      · rcases hI.last with h0 | ⟨e, c, h1, h2, h3⟩
        · omega
        · have hep : p < e := by
            rcases Nat.lt_or_ge p e with h | h
            · exact h
            · have : p = e := by omega
              subst this
              rw [hN.at_] at h2
              cases h2
              have := h3.2
              omega
          obtain ⟨s'', g1, g2⟩ := again e c hep h2 h3 (hN.behind e c h2 (hI.effIn e c (by omega) h2 h3))
          rw [← h1] at g1 g2
          have := read_same hcl g1 g2
          subst this
          refine ⟨sts k, ?_, by rw [execOp_restr]; exact g1⟩
          have := hI.sub hR hft (d := 0) hI.hk (fun q b h1 h2 => by omega) (fun q b r mk h1 h2 => by omega)
          exact this
      · have hne : ∀ q c, k ≤ q → q < k + (p - k) → X.l[q]? = some c → ¬ Eff X frs q c := fun q c h1 h2 h3 h4 =>
          hI.effOut q c h1 h3 h4 (hN.before c.i (hR.plan.mem (show q < p by omega) h3 hN.at_ (by have := h4.2; omega) (by rw [hc1])))
        have hmd : ∀ q c r mk, k ≤ q → q < k + (p - k) → X.l[q]? = some c → MadeAt X frs q c r mk → D c.i := fun q c r mk h1 h2 h3 h4 =>
          hN.before c.i (hR.plan.mem (show q < p by omega) h3 hN.at_ (by have := h4.2.1; omega) (by rw [hc1]))
        have h1 := hI.sub hR hft (d := p - k) (by omega) hne hmd
        rw [show k + (p - k) = p by omega] at h1
        have := read_same hcl hev hq
        subst this
        exact ⟨sts p, h1, by rw [execOp_restr]; exact hev⟩
    obtain ⟨s1, hs1, hev1⟩ := hsub
    refine op_wp hK hc hy (hr.sub hs1) he hev1 (v := v) (s' := s1) (df := none) rfl ?_
    intro ρ' w' c ds hgo hv hn
    cases hn
    have hext := Goes.extend (S' := addRows xs (sts k)) hs1 hr hgo hs1.next.symm hs1.fams.symm (fun i _ => rfl) (fun i hi => by
      rcases hs1.heap i with h | ⟨h, _, cs, e, h2⟩
      · exact h
      · exact absurd ⟨h, by rw [h2]; simp⟩ hi)
    exact hK' _ _ _ _ _ (Inv.quiet hR hI hN hext hf hv hdst (fun h => by have := h.2; omega) fun r mk h => by have := h.2.1; omega)
  | make hg hc2 r mk hev hf hs =>
    rw [hwant _ hg]
    rw [← aOp_restr] at hev
    obtain ⟨cs, e, arr, c, hm⟩ := aOp_sound (w := w) hK he hev
    rw [aOp_restr] at hev
    have hmade : MadeAt X frs p b r mk := ⟨hg, hc2, hev⟩
    have hpk : k ≤ p := by
      rcases Nat.lt_or_ge p k with h | h
      · exact absurd (hI.madeIn p b r mk h hN.at_ hmade) hN.out
      · exact h
    have hidn : X.base + b.i < (addRows xs (sts k)).next := by rw [addRows_next]; exact hI.nextGe p b hN.at_
    have hid : fixedTop ≤ X.base + b.i := by omega
    obtain ⟨k1, k2, k3, k4⟩ := Goes.keptRow hr hid hidn (hI.unused p b hN.at_ hN.out) (e := e) hm.cells
    have hsem : b.op.semAt (Fro ro).round a.eval = Go.execOp a.eval b.op := Oper.semAt_eq _ _ _ (aOp_noDefer hev)
    refine ⟨fun _ _ => trivial, ?_⟩
    rw [hsem, hm.run]
    have hval := hm.val (ρ.set (X.base + b.i) ⟨w.heap.size, 0, 0⟩) (X.base + b.i) hid (Ren.set_same _ _ _)
    have hrow := hm.row
    subst hrow
    have hsz : (w.alloc (.cells arr e)).heap.size = w.heap.size + 1 := by show (w.heap.push _).size = _; simp
    have same : ∀ {q f}, X.l[q]? = some f → f.i = b.i → q = p ∧ f = b := by
      intro q f hq he
      have := hR.plan.nodup q p f b hq hN.at_ he
      subst this
      rw [hN.at_] at hq
      exact ⟨rfl, (Option.some.inj hq).symm⟩
    refine hK' _ _ (ρ.set (X.base + b.i) ⟨w.heap.size, 0, 0⟩) k ((X.base + b.i, .row cs e 0) :: xs) ?_
    refine ⟨hI.hk, hI.last, fun e c h1 h2 h3 => .inl (hI.effIn e c h1 h2 h3), fun e c h1 h2 h3 h4 => ?_, fun q c r mk h1 h2 h3 => .inl (hI.madeIn q c r mk h1 h2 h3), ?_, hI.nextGe, fun q c r mk h1 h2 h3 h4 => ?_, fun i r h1 => ?_, fun q c h1 h2 => ?_, ?_, by rw [size_put]; exact hI.size, ?_, ?_⟩
    · rcases h4 with h4 | h4
      · exact hI.effOut e c h1 h2 h3 h4
      · obtain ⟨rfl, rfl⟩ := same h2 h4
        have := h3.2
        omega
    · refine ⟨Ren.le_trans hI.go.le k1, k2, hI.go.os, hI.go.tape, hI.go.output, by rw [hsz]; have := hI.go.grow; omega, ?_, fun x hx hno => ?_, fun x hx => ?_, fun i hi => ?_⟩
      · have := hI.go.next
        rw [addRows_next] at this ⊢
        exact this
      · rw [k3 x (Nat.lt_of_lt_of_le hx hI.go.grow)]
        exact hI.go.frame x hx hno
      · rcases k4 x hx with h | h
        · exact hI.go.own x h
        · exact .inr (Nat.le_trans hI.go.grow h)
      · rw [Ren.set_other]
        · exact hI.go.old i hi
        · omega
    · by_cases e0 : c.i = b.i
      · obtain ⟨rfl, rfl⟩ := same h2 e0
        have := h3.2.2
        rw [hev] at this
        cases this
        simp [List.lookup]
      · have : (X.base + c.i == X.base + b.i) = false := by simp; omega
        simp only [List.lookup, this]
        rcases h4 with h4 | h4
        · exact hI.xsIn q c r mk h1 h2 h3 h4
        · exact absurd h4 e0
    · by_cases e0 : i = X.base + b.i
      · subst e0
        simp [List.lookup] at h1
        subst h1
        exact ⟨p, b, mk, hpk, hN.at_, hmade, .inr rfl, rfl⟩
      · have : (i == X.base + b.i) = false := by simpa using e0
        simp only [List.lookup, this] at h1
        obtain ⟨q, c, mk', g1, g2, g3, g4, g5⟩ := hI.xsOf i r h1
        exact ⟨q, c, mk', g1, g2, g3, .inl g4, g5⟩
    · rw [Ren.set_other]
      · exact hI.unused q c h1 fun hh => h2 (.inl hh)
      · intro he
        exact h2 (.inr (by omega))
    · exact Inv.tmpsStep hR hI hN (ds := []) (df := none) k1 hf hval hdst
    · rw [defers_put]
      refine hI.defers.world k1 ?_
      rintro r ⟨h1, h2, h3⟩
      refine ⟨by rw [hsz]; omega, fun hh => ?_, by rw [k3 r h1]; exact h3⟩
      rcases k4 r hh with h | h
      · exact h2 h
      · omega
    · exact fun d hd => hI.nomark d (by rw [defers_put] at hd; exact hd)
  | eff hg hc3 r v s' df hev haft hf hs free =>
    rw [hwant _ hg]
    have hb3 : b.cls = 3 := by omega
    have heff : Eff X frs p b := ⟨hg, hc3⟩
    have hpk : k ≤ p := by
      rcases Nat.lt_or_ge p k with h | h
      · exact absurd (hI.effIn p b h hN.at_ heff) hN.out
      · exact h
    have hne : ∀ q c, k ≤ q → q < k + (p - k) → X.l[q]? = some c → ¬ Eff X frs q c := fun q c h1 h2 h3 h4 =>
      hI.effOut q c h1 h3 h4 (hN.before c.i (hR.plan.mem (show q < p by omega) h3 hN.at_ (by have := h4.2; omega) (by rw [hb3])))
    have hmd : ∀ q c r mk, k ≤ q → q < k + (p - k) → X.l[q]? = some c → MadeAt X frs q c r mk → D c.i := fun q c r mk h1 h2 h3 h4 =>
      hN.before c.i (hR.plan.mem (show q < p by omega) h3 hN.at_ (by have := h4.2.1; omega) (by rw [hb3]))
    have hs1 := hI.sub hR hft (d := p - k) (by omega) hne hmd
    have hadv := (hR.advance (p - k) k (by omega) hne).2.2
    have hdef := hR.defers_from (p - k) k (by omega) hne
    rw [show k + (p - k) = p by omega] at hs1 hadv hdef
    rw [← execOp_restr] at hev
    rw [hro] at haft
    refine op_wp hK hc hy (hr.sub hs1) he hev haft ?_
    intro ρ' w' c ds hgo hv hn
    rw [← hs] at hgo
    -- what stays over the new state
    let keep : Nat → Bool := fun i => @decide (∃ q c, p + 1 ≤ q ∧ X.l[q]? = some c ∧ i = X.base + c.i) (Classical.propDecidable _)
    have hkeep : ∀ i, keep i = true ↔ ∃ q c, p + 1 ≤ q ∧ X.l[q]? = some c ∧ i = X.base + c.i := fun i => by
      show @decide _ (Classical.propDecidable _) = true ↔ _
      simp
    let xs' := xs.filter fun x => keep x.1
    have hlook : ∀ i, xs'.lookup i = if keep i then xs.lookup i else none := fun i => lookup_filter keep xs i
    have same : ∀ {q f}, X.l[q]? = some f → f.i = b.i → q = p ∧ f = b := by
      intro q f hq he
      have := hR.plan.nodup q p f b hq hN.at_ he
      subst this
      rw [hN.at_] at hq
      exact ⟨rfl, (Option.some.inj hq).symm⟩
    have hext := Goes.extend (S' := addRows xs' (sts (p + 1))) hs1 hr hgo (by rw [addRows_next]) (by rw [addRows_fams]) (fun i hx => by
      -- what is over the part
      rw [addRows_get, addRows_get, hlook]
      obtain ⟨hx1, hx2⟩ := hx
      rw [addRows_get] at hx2
      cases hl : xs.lookup i with
      | some r' =>
        obtain ⟨q, c', mk, g1, g2, g3, g4, g5⟩ := hI.xsOf i r' hl
        have hq : p + 1 ≤ q := by
          rcases Nat.lt_or_ge q (p + 1) with h | h
          · exfalso
            by_cases e : q = p
            · subst e
              rw [hN.at_] at g2
              cases g2
              have := g3.2.1
              omega
            · rcases hadv i with ⟨q', b', r2, mk', e1, e2, e3, e4, e5, e6⟩ | ⟨e1, e2⟩
              · rw [hx1] at e6; cases e6
              · exact e1 q c' r' mk g1 (by omega) g2 g3 g5
          · exact h
        rw [(hkeep i).2 ⟨q, c', hq, g2, g5⟩]
        rfl
      | none =>
        rw [hl] at hx2
        exfalso
        rcases hadv i with ⟨q', b', r2, mk', e1, e2, e3, e4, e5, e6⟩ | ⟨e1, e2⟩
        · rw [hx1] at e6; cases e6
        · rw [hx1] at e2; exact hx2 e2.symm) (fun i hx => by
      rw [addRows_get, hlook]
      cases hkp : keep i with
      | false => rfl
      | true =>
        cases hl : xs.lookup i with
        | none => rfl
        | some r' =>
          exfalso
          obtain ⟨q, c', h1, h2, h3⟩ := (hkeep i).1 hkp
          obtain ⟨q2, c2, mk, g1, g2, g3, g4, g5⟩ := hI.xsOf i r' hl
          have := hR.id_inj h2 g2 (h3 ▸ g5)
          subst this
          rw [h2] at g2
          cases g2
          refine hx ⟨by rw [h3]; exact hR.free p q c' (by omega) h2 g3.2.1, ?_⟩
          rw [addRows_get, hl]
          simp)
    refine hK' _ _ ρ' (p + 1) xs' ?_
    refine ⟨by omega, .inr ⟨p, b, rfl, hN.at_, heff⟩, fun e c' h1 h2 h3 => ?_, fun e c' h1 h2 h3 h4 => ?_, fun q c' r mk h1 h2 h3 => ?_, hI.go.trans hext, fun q c' h1 => ?_, fun q c' r mk h1 h2 h3 h4 => ?_, fun i r h1 => ?_, fun q c' h1 h2 => ?_, ?_, by rw [size_put]; exact hI.size, ?_, ?_⟩
    · by_cases e0 : e = p
      · subst e0
        rw [hN.at_] at h2
        cases h2
        exact .inr rfl
      · rcases Nat.lt_or_ge e k with h | h
        · exact .inl (hI.effIn e c' h h2 h3)
        · exact absurd h3 (hne e c' h (by omega) h2)
    · rcases h4 with h4 | h4
      · exact hI.effOut e c' (by omega) h2 h3 h4
      · obtain ⟨rfl, rfl⟩ := same h2 h4
        omega
    · by_cases e0 : q = p
      · subst e0
        rw [hN.at_] at h2
        cases h2
        have := h3.2.1
        omega
      · rcases Nat.lt_or_ge q k with h | h
        · exact .inl (hI.madeIn q c' r mk h h2 h3)
        · exact .inl (hmd q c' r mk h (by omega) h2 h3)
    · have h5 := hI.nextGe q c' h1
      have h6 := hgo.next
      have h7 := hs1.next
      rw [addRows_next] at h7
      omega
    · rw [hlook, (hkeep _).2 ⟨q, c', h1, h2, rfl⟩]
      rcases h4 with h4 | h4
      · exact hI.xsIn q c' r mk (by omega) h2 h3 h4
      · obtain ⟨rfl, rfl⟩ := same h2 h4
        omega
    · rw [hlook] at h1
      cases hkp : keep i with
      | false => rw [hkp] at h1; cases h1
      | true =>
        rw [hkp] at h1
        simp only [if_true] at h1
        obtain ⟨q, c', h3, h4, h5⟩ := (hkeep i).1 hkp
        obtain ⟨q2, c2, mk, g1, g2, g3, g4, g5⟩ := hI.xsOf i r h1
        have := hR.id_inj h4 g2 (h5 ▸ g5)
        subst this
        exact ⟨q, c2, mk, h3, g2, g3, .inl g4, g5⟩
    · have : X.base + c'.i < (addRows xs (sts k)).next := by rw [addRows_next]; exact hI.nextGe q c' h1
      rw [hext.old _ this]
      exact hI.unused q c' h1 fun hh => h2 (.inl hh)
    · exact Inv.tmpsStep hR hI hN hgo.le hf hv hdst
    · rw [defers_put, hf, Fr.defers_put]
      show DefR ρ' _ w' (moreL df (frs p).defers) _
      rw [hdef]
      exact (hI.defers.goes hext).more hn
    · intro d hd r hr
      rw [defers_put] at hd
      rcases List.mem_append.1 hd with hd | hd
      · exact absurd hr (hn.fn d hd r)
      · exact hI.nomark d hd r hr
end
end
end Go.Ax

namespace Go.Ax
open Go
noncomputable section

theorem countP_lt {α : Type} (p q : α → Bool) : ∀ (l : List α), (∀ x ∈ l, q x = true → p x = true) → (∃ x ∈ l, p x = true ∧ q x = false) → l.countP q < l.countP p
  | [], _, h => by obtain ⟨x, hx, _⟩ := h; cases hx
  | a :: l, h1, h2 => by
    have hle : l.countP q ≤ l.countP p := List.countP_mono_left fun x hx => h1 x (by simp [hx])
    by_cases hpa : p a = true ∧ q a = false
    · rw [List.countP_cons_of_pos hpa.1, List.countP_cons_of_neg (by simp [hpa.2])]
      omega
    · have hrest : ∃ x ∈ l, p x = true ∧ q x = false := by
        obtain ⟨x, hx, hh⟩ := h2
        rcases List.mem_cons.1 hx with rfl | hx
        · exact absurd hh hpa
        · exact ⟨x, hx, hh⟩
      have ih := countP_lt p q l (fun x hx => h1 x (by simp [hx])) hrest
      by_cases hq : q a = true
      · rw [List.countP_cons_of_pos hq, List.countP_cons_of_pos (h1 a (by simp) hq)]; omega
      · rw [List.countP_cons_of_neg (by simpa using hq)]
        by_cases hp : p a = true
        · rw [List.countP_cons_of_pos hp]; omega
        · rw [List.countP_cons_of_neg (by simpa using hp)]; exact ih

section
variable {P : Program} {B : Nat} {C : Cfg}

theorem MarkOk.same {ρ : Ren} {s S : St} {w : World} (h : SameS s S) {r : Nat} (hm : MarkOk ρ s w r) : MarkOk ρ S w r :=
  ⟨hm.1, fun ho => hm.2.1 (ho.sub h.symm.sub), hm.2.2⟩

/-- A region whose order is drawn, behind its own start: in each order. -/
theorem draw_any (hK : CfgOk C P) {call : CallT} {yield : YieldT} (hc : CallOk P call) (hy : YieldOk P yield) (hQ : QuietOk C call) {ro : Option Nat} {mk : Option Nat} {m n nt : Nat} {ops : Array Oper} (hok : okOpers nt ops.toList = true)
    {order : List Nat} {Q : Exit → Act → World → Prop} {fr fr' : Fr} {s s' : St} {ρ : Ren} {a : Act} {w : World} (h : execDraw C call yield ro.isSome n ops.toList order fr s = some (fr', s'))
    (hr : HR P B ρ s w) (hf : FrR mk n nt ρ s w fr a) (hq : ∀ ρ' w' a', Goes P B ρ s w ρ' s' w' → FrR mk n nt ρ' s' w' fr' a' → Q .normal a' w') : wpAnyIn (Fro ro) m P .any ops Q ops.size (Array.replicate ops.size false) a w.drew := by
  unfold execDraw at h
  obtain ⟨l, hpl, h⟩ := obind_some.1 h
  have hplan := planOf_ok hpl
  obtain ⟨frs, sts, f0, t0, f1, t1, hsteps, _⟩ := drawL_trace C call yield ro.isSome n ops.toList s.next hQ l true [] fr _ fr' s' h (fun _ x hx => by cases hx)
  have hN : lenL ops.toList = ops.size := by rw [lenL_eq]; simp
  let X : DCtx := ⟨C, call, yield, ro.isSome, n, ops.toList, s.next, l⟩
  have hlow : ∀ {p : Nat} {b : Info}, l[p]? = some b → b.i < ops.size := by
    intro p b hb
    have := (List.getElem?_eq_some_iff.1 (hplan.info p b hb).op).1
    simpa using this
  have hR : Run0 X frs sts := by
    refine ⟨hplan, hsteps, fun q b hb => ?_⟩
    rw [t0]
    show s.heap.get (s.next + b.i) = none
    cases hg : s.heap.get (s.next + b.i) with
    | none => rfl
    | some r => have := hr.heap_dom _ r hg; omega
  have hclosed : ∀ {listed : Array Bool}, (∀ j, listed.getD j false = true → ∀ o, ops.toList[j]? = some o → ∀ i, Binds o i → listed.getD i false = true) →
      ∀ i o, (fun j => listed.getD j false = true) i → X.all[i]? = some o → ∀ j, Binds o j → (fun j => listed.getD j false = true) j := fun h i o hi ho j hj => h i hi o ho j hj
  -- the loop
  have key : ∀ (fuel : Nat) (listed : Array Bool) (a : Act) (w' : World), listed.size = ops.size → (List.range ops.size).countP (fun i => !listed.getD i false) ≤ fuel →
      (∀ j, listed.getD j false = true → ∀ o, ops.toList[j]? = some o → ∀ i, Binds o i → listed.getD i false = true) →
      (∃ ρ' k xs, Inv mk P B X frs sts nt ρ s w (fun j => listed.getD j false = true) a w' ρ' k xs) → wpAnyIn (Fro ro) m P .any ops Q fuel listed a w' := by
    have hfin : ∀ (listed : Array Bool) (a : Act) (w' : World), (∀ j, j < ops.size → listed.getD j false = true) → (∃ ρ' k xs, Inv mk P B X frs sts nt ρ s w (fun j => listed.getD j false = true) a w' ρ' k xs) → Q .normal a w' := by
      rintro listed a w' hall ⟨ρ', k, xs, hI⟩
      have hkl := hI.hk
      have hlen : k + (l.length - k) = l.length := by have : k ≤ l.length := hkl; omega
      have hne : ∀ q b, k ≤ q → q < k + (l.length - k) → X.l[q]? = some b → ¬ Eff X frs q b := fun q b h1 _ h3 h4 => hI.effOut q b h1 h3 h4 (hall b.i (hlow h3))
      obtain ⟨a1, a2, a3⟩ := hR.advance (l.length - k) k (by rw [hlen]; exact Nat.le_refl _) hne
      have hd := hR.defers_from (l.length - k) k (by rw [hlen]; exact Nat.le_refl _) hne
      rw [hlen] at a1 a2 a3 hd
      have hsame : SameS (addRows xs (sts k)) s' := by
        rw [← t1]
        refine ⟨by rw [addRows_next, a1], by rw [addRows_fams, a2], fun i => ?_⟩
        rw [addRows_get]
        rcases a3 i with ⟨q, b, r, mk, e1, e2, e3, e4, e5, e6⟩ | ⟨e1, e2⟩
        · have := hI.xsIn q b r mk e1 e3 e4 (hall b.i (hlow e3))
          rw [e5, this, ← e5, e6]
        · rw [e2]
          cases hx : xs.lookup i with
          | none => rfl
          | some r =>
            obtain ⟨q, b, mk, g1, g2, g3, g4, g5⟩ := hI.xsOf i r hx
            have := (List.getElem?_eq_some_iff.1 g2).1
            exact absurd g5 (e1 q b r mk g1 this g2 g3)
      refine hq ρ' w' a (hI.go.same hsame) ⟨hI.size, fun t v hv => ?_, ?_, hI.nomark⟩
      · rw [← f1] at hv
        exact hI.tmps t v l.length (Nat.le_refl _) (fun q b _ hb _ => hall b.i (hlow hb)) (fun q b h1 hb _ => by have := (List.getElem?_eq_some_iff.1 hb).1; exact absurd this (Nat.not_lt.2 h1)) hv
      · rw [← f1, hd]
        exact hI.defers.world (Ren.le_refl _) fun r hm => hm.same hsame
    intro fuel
    induction fuel with
    | zero =>
      intro listed a w' hsz hcnt hcl hI
      have hall : ∀ j, j < ops.size → listed.getD j false = true := by
        intro j hj
        have := List.countP_eq_zero.1 (Nat.le_zero.1 hcnt) j (List.mem_range.2 hj)
        simpa using this
      refine ⟨?_, hfin listed a w' hall hI⟩
      rw [List.eq_nil_iff_forall_not_mem]
      intro j hj
      obtain ⟨h1, o, h2, _⟩ := mem_ready.1 hj
      have hjl := (Array.getElem?_eq_some_iff.1 h2).1
      have := hall j hjl
      rw [Array.getD_eq_getD_getElem?] at this h1
      cases hq : listed[j]? with
      | none => rw [hq] at this; cases this
      | some b => rw [hq] at this h1; simp at this h1; rw [this] at h1; cases h1
    | succ fuel ih =>
      intro listed a w' hsz hcnt hcl hI
      refine ⟨fun hnil => ?_, fun i hi => ?_⟩
      · refine hfin listed a w' ?_ hI
        -- if one were left, one would be ready
        intro j
        induction j using Nat.strongRecOn with
        | _ j ihj =>
          intro hj
          apply Classical.byContradiction
          intro hno
          obtain ⟨p, b, hb, rfl⟩ := hplan.full j (by simpa using hj)
          have hinf := hplan.info p b hb
          have hmem : b.i ∈ Region.ready .any ops listed := by
            refine mem_ready.2 ⟨?_, b.op, by simpa using hinf.op, fun e he hbnd => ?_⟩
            · rw [Array.getD_eq_getD_getElem?] at hno ⊢
              have hx : listed[b.i]? = some listed[b.i] := Array.getElem?_eq_getElem (by omega)
              rw [hx] at hno ⊢
              simpa using hno
            · have hlt := hinf.low e.on ⟨e, by simpa using he, hbnd, rfl⟩
              exact ihj e.on hlt (by omega)
          rw [hnil] at hmem
          cases hmem
      · obtain ⟨h1, o, h2, h3⟩ := mem_ready.1 hi
        have hil := (Array.getElem?_eq_some_iff.1 h2).1
        have hout : ¬ (listed.getD i false = true) := by
          rw [Array.getD_eq_getD_getElem?] at h1 ⊢
          have hx : listed[i]? = some listed[i] := Array.getElem?_eq_getElem (by omega)
          rw [hx] at h1 ⊢
          simp at h1
          simp [h1]
        obtain ⟨p, b, hb, rfl⟩ := hplan.full i (by simpa using hil)
        have hinf := hplan.info p b hb
        have hob : o = b.op := by
          have : ops[b.i]? = some b.op := by simpa using hinf.op
          rw [h2] at this
          exact Option.some.inj this
        subst hob
        have hready : ∀ j, Binds b.op j → listed.getD j false = true := by
          rintro j ⟨e, he, hbnd, rfl⟩
          exact h3 e (by simpa using he) hbnd
        have hset : ∀ j, (listed.setIfInBounds b.i true).getD j false = true ↔ (listed.getD j false = true ∨ j = b.i) := by
          intro j
          rw [Array.getD_eq_getD_getElem?, Array.getD_eq_getD_getElem?, Array.getElem?_setIfInBounds]
          by_cases e : b.i = j
          · subst e
            rw [if_pos rfl, if_pos (by omega)]
            simp
          · rw [if_neg e]
            constructor
            · exact fun h => .inl h
            · rintro (h | h)
              · exact h
              · exact absurd h.symm e
        obtain ⟨ρ', k, xs, hI⟩ := hI
        have hN' : Now X frs (fun j => listed.getD j false = true) p b := Now.mk' (X := X) hplan (hclosed hcl) hb hout hready
        refine Inv.step (X := X) hK hc hy (m := m) (ops := ops) (Q := Q) rfl rfl hok hR hr.next rfl hI hN' ?_
        intro a' w'' ρ'' k' xs' hI'
        refine ih _ _ _ (by simpa using hsz) ?_ ?_ ⟨ρ'', k', xs', ?_⟩
        · have := countP_lt (fun i => !listed.getD i false) (fun i => !(listed.setIfInBounds b.i true).getD i false) (List.range ops.size) (fun x _ hx => by
            simp only [Bool.not_eq_true'] at hx ⊢
            rw [← Bool.not_eq_true] at hx ⊢
            exact fun hh => hx ((hset x).2 (.inl hh))) ⟨b.i, List.mem_range.2 hil, by simpa using hout, by simp only [Bool.not_eq_false']; exact (hset b.i).2 (.inr rfl)⟩
          omega
        · intro j hj o' ho' i hi'
          rw [hset] at hj ⊢
          rcases hj with hj | hj
          · exact .inl (hcl j hj o' ho' i hi')
          · subst hj
            have : o' = b.op := by rw [hinf.op] at ho'; exact (Option.some.inj ho').symm
            subst this
            exact .inl (hready i hi')
        · have e : (fun j => (listed.setIfInBounds b.i true).getD j false = true) = (fun j => listed.getD j false = true ∨ j = b.i) := funext fun j => propext (hset j)
          rw [e]
          exact hI'
  have hd0 : ∀ j, ¬ ((Array.replicate ops.size false).getD j false = true) := by
    intro j
    rw [Array.getD_eq_getD_getElem?, Array.getElem?_replicate]
    split <;> simp
  have hgo : Goes P B ρ s w ρ (addRows [] (sts 0)) w.drew := by
    rw [t0]
    have h1 := Goes.drew hr (w.drawn + 1)
    exact h1.trans (Goes.bump h1.hr (lenL ops.toList))
  refine key ops.size _ a w.drew (by simp) ?_ (fun j hj => absurd hj (hd0 j)) ⟨ρ, 0, [], ?_⟩
  · exact Nat.le_trans List.countP_le_length (by simp)
  · refine ⟨Nat.zero_le _, .inl rfl, fun e b he => by omega, fun e b _ _ _ => hd0 _, fun q b r mk hq => by omega, hgo, fun q b hb => ?_, fun q b r mk _ _ _ hD => absurd hD (hd0 _), fun i r hi => by simp at hi, fun q b hb _ => ?_, fun t v p hp h1 h2 hv => ?_, hf.size, ?_, hf.nomark⟩
    · rw [t0]
      show s.next + b.i < s.next + lenL ops.toList
      have := hlow hb
      omega
    · cases hg : ρ (X.base + b.i) with
      | none => rfl
      | some q => have := (hr.dom _ q hg).2.1; have e : X.base = s.next := rfl; omega
    · have e := hR.get_from (t := t) p 0 (by omega) (fun q b _ hq hb hd => hd0 _ (h1 q b (by omega) hb hd))
      rw [Nat.zero_add, f0] at e
      rw [e] at hv
      exact hf.tmps t v hv
    · rw [f0]
      exact hf.defers.goes hgo
theorem draw_wp (hK : CfgOk C P) {call : CallT} {yield : YieldT} (hc : CallOk P call) (hy : YieldOk P yield) (hQ : QuietOk C call) (hmix : P.follows .mixedOrders = true) {ro : Option Nat} {mk : Option Nat} {m n nt : Nat} {ops : Array Oper} (hok : okOpers nt ops.toList = true)
    {id : Nat} {order : List Nat} {Q : Exit → Act → World → Prop} {fr fr' : Fr} {s s' : St} {ρ : Ren} {a : Act} {w : World} (h : execDraw C call yield ro.isSome n ops.toList order fr s = some (fr', s'))
    (hr : HR P B ρ s w) (hf : FrR mk n nt ρ s w fr a) (hq : ∀ ρ' w' a', Goes P B ρ s w ρ' s' w' → FrR mk n nt ρ' s' w' fr' a' → Q .normal a' w') : (Code.region id ops true).wpIn (Fro ro) m P Q a w :=
  wpIn_region_any hmix (draw_any hK hc hy hQ hok h hr hf hq)
end
end
end Go.Ax

namespace Go.Ax
open Go
noncomputable section

def exq : Ex → Exit
  | .normal => .normal
  | .exit id => .exit id
  | .ret => .ret

/-! ### more temporaries -/
theorem ltN_mono {a b c : Nat} (h : ltN a b = true) (hb : b ≤ c) : ltN a c = true := by
  rw [ltN_eq] at *
  simp at *
  omega
theorem dstOk_mono {n m : Nat} (hm : n ≤ m) {d : Option Tmp} (h : dstOk n d = true) : dstOk m d = true := by
  cases d with
  | none => rfl
  | some d => exact ltN_mono h hm
theorem okOpers_mono {n m : Nat} (hm : n ≤ m) : ∀ {l : List Oper}, okOpers n l = true → okOpers m l = true
  | [], _ => rfl
  | o :: l, h => by
    change sel (okOper n o) (okOpers n l) false = true at h
    show sel (okOper m o) (okOpers m l) false = true
    rw [sel_eq] at *
    split at h
    · rename_i ho
      obtain ⟨h1, h2⟩ := okOper_some ho
      rw [if_pos (by unfold okOper; rw [dstOk_mono hm h1, h2]; rfl)]
      exact okOpers_mono hm h
    · cases h
theorem okTmps_mono {n m : Nat} (hm : n ≤ m) : ∀ {l : List Nat}, okTmps n l = true → okTmps m l = true
  | [], _ => rfl
  | o :: l, h => by
    change sel (ltN o n) (okTmps n l) false = true at h
    show sel (ltN o m) (okTmps m l) false = true
    rw [sel_eq] at *
    split at h
    · rename_i ho
      rw [if_pos (ltN_mono ho hm)]
      exact okTmps_mono hm h
    · cases h
theorem sel_and {a b : Bool} (h : sel a b false = true) : a = true ∧ b = true := by cases a <;> simp [sel] at h ⊢; exact h

theorem okCode_mono {n m : Nat} (hm : n ≤ m) : ∀ {c : Code}, okCode n c = true → okCode m c = true := by
  intro c
  induction c with
  | skip => exact fun _ => rfl
  | region id ops d => exact fun h => okOpers_mono hm h
  | seq a b iha ihb => intro h; obtain ⟨h1, h2⟩ := sel_and h; show sel (okCode m a) (okCode m b) false = true; rw [iha h1]; exact ihb h2
  | cond c a b iha ihb =>
    intro h
    obtain ⟨h0, h⟩ := sel_and h
    obtain ⟨h1, h2⟩ := sel_and h
    show sel (okOpnd c) (sel (okCode m a) (okCode m b) false) false = true
    rw [h0, iha h1]; exact ihb h2
  | block id a iha => exact fun h => iha h
  | loop a iha => exact fun h => iha h
  | rangeFunc f ps a b iha ihb =>
    intro h
    obtain ⟨h0, h⟩ := sel_and h
    obtain ⟨h1, h2⟩ := sel_and h
    simp only [Bool.and_eq_true] at h0
    show sel (okOpnd f && okTmps m ps.toList) (sel (okCode m a) (okCode m b) false) false = true
    rw [h0.1, okTmps_mono hm h0.2, iha h1]; exact ihb h2
  | exit id => exact fun _ => rfl
  | scope a iha => exact fun h => iha h
  | label l => exact fun _ => rfl
  | goto l => exact fun _ => rfl
  | ret => exact fun _ => rfl
  | refuse w => exact fun _ => rfl

section
variable {P : Program} {B : Nat} {C : Cfg}

theorem FrR.fresh {mk : Option Nat} {n nt : Nat} {ρ : Ren} {s : St} {w : World} {fr : Fr} {a : Act} (hf : FrR mk n nt ρ s w fr a) : FrR mk n nt ρ s w fr.fresh a := by
  refine ⟨hf.size, fun t v ht => ?_, hf.defers, hf.nomark⟩
  unfold Fr.get at ht
  rw [sel_eq] at ht
  split at ht
  · rename_i hlt
    refine hf.tmps t v ?_
    unfold Fr.get
    rw [hlt]
    exact ht
  · cases ht

theorem iter_succ (f : Run) (k : Nat) (fr : Fr) (s : St) : iter f (k + 1) fr s = obind (f fr s) (iterNext (iter f k)) := rfl

theorem DefR.marks {ρ : Ren} {s : St} {w : World} {l : List (FuncId × List Value)} {ds : List Deferred} (h : DefR ρ s w l ds) : ∀ d ∈ ds, ∀ q, d.target = .collected q → MarkOk ρ s w q := by
  induction h with
  | nil => intro d hd; cases hd
  | cons ht ha hv _ ih =>
    intro d hd q hq
    rcases List.mem_cons.1 hd with rfl | hd
    · rw [ht] at hq; cases hq
    · exact ih d hd q hq
  | mark hm hlt _ ih =>
    intro d hd q hq
    rcases List.mem_cons.1 hd with rfl | hd
    · cases hq; exact hm
    · exact ih d hd q hq

theorem loop?_some {o : AObj} {r : ALoop} (h : o.loop? = some r) : o = .loop r := by
  cases o with
  | loop q => cases h; rfl
  | iter q => cases h

theorem getLoop_some {s : St} {l : Nat} {r : ALoop} (h : Ax.getLoop s l = some r) : s.heap.get l = some (.loop (.loop r)) := by
  unfold Ax.getLoop at h
  split at h
  · rename_i o ho
    rw [loop?_some h] at ho
    exact ho
  · cases h

theorem getLoop_sound {ρ : Ren} {s : St} {w : World} (h : HR P B ρ s w) {l : Nat} {r : ALoop} (hg : Ax.getLoop s l = some r) : ∃ loc q, ρ l = some loc ∧ s.tag l = some (0, l) ∧ w.heap[loc.blk]? = some (.loop q) ∧ LoopR ρ r q := by
  have := getLoop_some hg
  obtain ⟨loc, h1, q, h2, h3⟩ := h.loops l _ this
  cases h3 with
  | loop h3 => exact ⟨loc, _, h1, tag_loop this, h2, h3⟩

theorem setLoop_goes {ρ : Ren} {s : St} {w : World} (h : HR P B ρ s w) {l : Nat} {r : ALoop} (hg : Ax.getLoop s l = some r) {loc : Loc} {q : Loop} (hl : ρ l = some loc) (hq : LoopR ρ r q) (st : LoopState) (pe : Option Code) :
    Goes P B ρ s w ρ (setLoop s l r st pe) (w.putObj loc.blk (.loop { q with state := st, pending := pe })) := by
  have := getLoop_some hg
  exact Goes.putObj h (tag_loop this) hl (.inr ⟨_, rfl, .loop ⟨rfl, rfl, hq.vars, hq.params, hq.assign, hq.body, hq.code⟩⟩)

/-- CODE. -/
theorem exec_wp (hK : CfgOk C P) {call : CallT} {yield : YieldT} (hc : CallOk P call) (hy : YieldOk P yield) (hQ : QuietOk C call) (hmix : P.follows .mixedOrders = true) {ro : Option Nat} {m n nt : Nat} {mk : Option Nat} {fn : FuncId} :
    ∀ (c : Code), okCode nt c = true → (mk = none → noRange c = true) → ∀ (fr : Fr) (s : St) (e : Ex) (fr' : Fr) (s' : St) (ρ : Ren) (a : Act) (w : World) (Q : Exit → Act → World → Prop),
      exec C call yield n fn ro.isSome c fr s = some (e, fr', s') → HR P B ρ s w → FrR mk n nt ρ s w fr a → (∀ k, mk = some k → k ≤ w.heap.size) →
      (∀ ρ' w' a', Goes P B ρ s w ρ' s' w' → FrR mk n nt ρ' s' w' fr' a' → Q (exq e) a' w') → c.wpIn (Fro ro) m P Q a w := by
  intro c
  induction c with
  | skip =>
    intro _ _ fr s e fr' s' ρ a w Q h hr hf hlo hq
    cases h
    exact wpIn_skip (hq ρ w a (Goes.refl hr) hf)
  | region id ops d =>
    intro hok _ fr s e fr' s' ρ a w Q h hr hf hlo hq
    change obind (sel d (execDraw C call yield ro.isSome n ops.toList (C.order fn id) fr.fresh s) (execOps C call yield ro.isSome n ops.toList ops.toList fr.fresh s)) (fun r => some (Ex.normal, r)) = some (e, fr', s') at h
    obtain ⟨⟨fr2, s2⟩, hd, h⟩ := obind_some.1 h
    cases h
    cases d with
    | true => exact draw_wp hK hc hy hQ hmix hok hd hr hf.fresh hq
    | false =>
      refine wpIn_region ?_
      rw [List.range_eq_range']
      have := ops_wp hK hc hy (m := m) (Q := Q) hok ops.toList 0 rfl fr.fresh s _ _ ρ a w hd hr hf.fresh hq
      simpa using this
  | seq x y ihx ihy =>
    intro hok hnr fr s e fr' s' ρ a w Q h hr hf hlo hq
    obtain ⟨o1, o2⟩ := sel_and hok
    change obind (exec C call yield n fn ro.isSome x fr s) (iterNext (exec C call yield n fn ro.isSome y)) = some (e, fr', s') at h
    obtain ⟨⟨e1, fr1, s1⟩, h1, h2⟩ := obind_some.1 h
    refine wpIn_seq (ihx o1 (fun hm => (sel_and (hnr hm)).1) fr s e1 fr1 s1 ρ a w _ h1 hr hf hlo ?_)
    intro ρ1 w1 a1 hg1 hf1
    cases e1 with
    | normal => exact ihy o2 (fun hm => (sel_and (hnr hm)).2) fr1 s1 e fr' s' ρ1 a1 w1 Q h2 hg1.hr hf1 (fun k hk => Nat.le_trans (hlo k hk) hg1.grow) fun ρ2 w2 a2 hg2 hf2 => hq ρ2 w2 a2 (hg1.trans hg2) hf2
    | exit id => cases h2; exact hq ρ1 w1 a1 hg1 hf1
    | ret => cases h2; exact hq ρ1 w1 a1 hg1 hf1
  | cond x y z ihy ihz =>
    intro hok hnr fr s e fr' s' ρ a w Q h hr hf hlo hq
    obtain ⟨o0, o1⟩ := sel_and hok
    obtain ⟨o1, o2⟩ := sel_and o1
    change obind (fr.ev n x) (condRun (exec C call yield n fn ro.isSome y) (exec C call yield n fn ro.isSome z) fr s) = some (e, fr', s') at h
    obtain ⟨v, hv, h⟩ := obind_some.1 h
    have hvr := opnd_vr (ρ := ρ) (a := a) o0 (fun t u _ hu => hf.tmps t u hu) hv
    unfold condRun at h
    split at h
    · rename_i b
      generalize hav : a.eval x = av at hvr
      cases hvr
      rw [sel_eq] at h
      refine wpIn_cond hav ?_
      cases b with
      | true => exact ihy o1 (fun hm => (sel_and (hnr hm)).1) fr s e fr' s' ρ a w Q h hr hf hlo hq
      | false => exact ihz o2 (fun hm => (sel_and (hnr hm)).2) fr s e fr' s' ρ a w Q h hr hf hlo hq
    · cases h
  | block id x ihx =>
    intro hok hnr fr s e fr' s' ρ a w Q h hr hf hlo hq
    change obind (exec C call yield n fn ro.isSome x fr s) (blockEnd id) = some (e, fr', s') at h
    obtain ⟨⟨e1, fr1, s1⟩, h1, h2⟩ := obind_some.1 h
    refine wpIn_block (ihx hok hnr fr s e1 fr1 s1 ρ a w _ h1 hr hf hlo ?_)
    intro ρ1 w1 a1 hg1 hf1
    cases e1 with
    | normal => cases h2; exact hq ρ1 w1 a1 hg1 hf1
    | ret => cases h2; exact hq ρ1 w1 a1 hg1 hf1
    | exit id' =>
      change sel (Nat.beq id id') (some (Ex.normal, fr1, s1)) (some (Ex.exit id', fr1, s1)) = some (e, fr', s') at h2
      rw [sel_eq] at h2
      show (if id' = id then Q .normal a1 w1 else Q (.exit id') a1 w1)
      by_cases hid : id' = id
      · rw [if_pos hid]
        rw [if_pos (by rw [hid]; exact Nat.beq_refl _)] at h2
        cases h2
        exact hq ρ1 w1 a1 hg1 hf1
      · rw [if_neg hid]
        rw [if_neg (fun hh => hid (Nat.eq_of_beq_eq_true hh).symm)] at h2
        cases h2
        exact hq ρ1 w1 a1 hg1 hf1
  | loop x ihx =>
    intro hok hnr fr s e fr' s' ρ a w Q h hr hf hlo hq
    change iter (exec C call yield n fn ro.isSome x) 100000 fr s = some (e, fr', s') at h
    refine wpIn_loop_rounds 100000 ?_
    have key : ∀ (k : Nat) (fr2 : Fr) (s2 : St) (ρ1 : Ren) (a1 : Act) (w1 : World), iter (exec C call yield n fn ro.isSome x) k fr2 s2 = some (e, fr', s') → Goes P B ρ s w ρ1 s2 w1 → FrR mk n nt ρ1 s2 w1 fr2 a1 → Code.roundsIn (Fro ro) m P x Q k a1 w1 := by
      intro k
      induction k with
      | zero => intro fr2 s2 ρ1 a1 w1 h; cases h
      | succ k ih =>
        intro fr2 s2 ρ1 a1 w1 h hg hf
        rw [iter_succ] at h
        obtain ⟨⟨e1, fr1, s1⟩, h1, h2⟩ := obind_some.1 h
        rw [roundsIn_succ]
        refine ihx hok hnr fr2 s2 e1 fr1 s1 ρ1 a1 w1 _ h1 hg.hr hf (fun k hk => Nat.le_trans (hlo k hk) hg.grow) ?_
        intro ρ2 w2 a2 hg2 hf2
        cases e1 with
        | normal => exact ih fr1 s1 ρ2 a2 w2 h2 (hg.trans hg2) hf2
        | exit id => cases h2; exact hq ρ2 w2 a2 (hg.trans hg2) hf2
        | ret => cases h2; exact hq ρ2 w2 a2 (hg.trans hg2) hf2
    exact key 100000 fr s ρ a w h (Goes.refl hr) hf
  | rangeFunc f ps x y ihx ihy =>
    intro hok hnr fr s e fr' s' ρ a w Q h hr hf hlo hq
    obtain ⟨o0, o1⟩ := sel_and hok
    obtain ⟨o1, o2⟩ := sel_and o1
    simp only [Bool.and_eq_true] at o0
    obtain ⟨lo, hmk⟩ : ∃ lo, mk = some lo := by
      cases mk with
      | some lo => exact ⟨lo, rfl⟩
      | none => exact absurd (hnr rfl) (by simp [noRange])
    cases ro with
    | some l => cases h
    | none =>
      change obind (fr.ev n f) (fun fv => rangeCall C call fr (Nat.succ s.next) fv
        { heap := (s.heap.set s.next .other).set (Nat.succ s.next) (.loop (.loop { state := .ready, pending := none, fn := fn, vars := fr.vars, params := ps.toList, assign := x, body := y, n := n })), fams := s.fams, next := Nat.succ (Nat.succ s.next) }) = some (e, fr', s') at h
      obtain ⟨fv, hfv, h⟩ := obind_some.1 h
      have hvr := opnd_vr (ρ := ρ) (a := a) o0.1 (fun t u _ hu => hf.tmps t u hu) hfv
      unfold rangeCall at h
      obtain ⟨rr, hinv, h⟩ := obind_some.1 h
      split at h
      · rename_i g args s2
        obtain ⟨⟨v, s3⟩, hcall, h⟩ := obind_some.1 h
        obtain ⟨r, hgl, hend⟩ := obind_some.1 h
        clear h
        refine wpIn_rangeFunc ?_
        intro fn' _
        -- the two new blocks
        have g1 := Goes.newOther hr (.deferred (some []))
        have hw1 : (w.alloc (.deferred (some []))).heap.size = w.heap.size + 1 := by show (w.heap.push _).size = _; simp
        let q : Loop := { state := .ready, pending := none, fn := fn', tmps := a.tmps, params := ps, assign := x, body := y, defers := w.heap.size }
        have hloop : LoopR (ρ.set s.next ⟨w.heap.size, 0, 0⟩) { state := .ready, pending := none, fn := fn, vars := fr.vars, params := ps.toList, assign := x, body := y, n := n } q := by
          refine ⟨rfl, rfl, ?_, rfl, rfl, rfl, okCode_mono hf.size o1, okCode_mono hf.size o2, okTmps_mono hf.size o0.2⟩
          intro t u ht hu
          refine VR.mono (Ren.le_set hr _) (hf.tmps t u ?_)
          unfold Fr.get
          rw [ltN_eq]
          simp only [ht, decide_true]
          exact hu
        have g2 := Goes.newLoop g1.hr hloop
        rw [hw1] at g2
        have g12 := g1.trans g2
        have hyv : VR ((ρ.set s.next ⟨w.heap.size, 0, 0⟩).set (Nat.succ s.next) ⟨w.heap.size + 1, 0, 0⟩) (.func (.yield (Nat.succ s.next)) #[] #[]) (.func (.yield (w.heap.size + 1)) #[] #[]) := by
          exact .func (.yield (q := ⟨w.heap.size + 1, 0, 0⟩) (Ren.set_same _ _ _)) .nil .nil
        have hfv2 := hvr.mono g12.le
        have hs := invoke_sound hK g2.hr hfv2 (VRs.cons hyv .nil) hinv
        -- what the run needs of the new state
        have post : ∀ (cargs : List Value), VRs ((ρ.set s.next ⟨w.heap.size, 0, 0⟩).set (Nat.succ s.next) ⟨w.heap.size + 1, 0, 0⟩) args cargs → s2 = { heap := (s.heap.set s.next .other).set (Nat.succ s.next) (.loop (.loop { state := .ready, pending := none, fn := fn, vars := fr.vars, params := ps.toList, assign := x, body := y, n := n })), fams := s.fams, next := Nat.succ (Nat.succ s.next) } →
            CallsIn (Fro none) (m - 1) P g ⟨cargs⟩ ((w.alloc (.deferred (some []))).alloc (.loop q)) (rangePost (Fro none) m P (w.heap.size + 1) Q { a with defers := [{ target := .collected w.heap.size, args := #[] }] ++ a.defers }) := by
          rintro cargs hargs rfl
          refine callsIn_fro ((hc g args _ v s3 hcall B _ _ cargs g2.hr hargs).mono ?_)
          rintro e3 w3 ⟨cv, ρ3, rfl, g3, hv3⟩
          obtain ⟨loc, q3, l1, l2, l3, l4⟩ := getLoop_sound g3.hr hgl
          have hloc : loc = ⟨w.heap.size + 1, 0, 0⟩ := by
            have := g3.le _ _ (Ren.set_same (ρ.set s.next ⟨w.heap.size, 0, 0⟩) (Nat.succ s.next) ⟨w.heap.size + 1, 0, 0⟩)
            rw [l1] at this
            exact Option.some.inj this
          subst hloc
          unfold afterRange at hend
          obtain ⟨hnb, h⟩ := guard_some.1 hend
          clear hend
          have hbusy : q3.state ≠ .busy := by
            rw [l4.state]
            intro e0
            rw [e0] at hnb
            cases hnb
          have g4 := setLoop_goes g3.hr hgl l1 l4 .exhausted r.pending
          have g0 := (g12.trans g3).trans g4
          -- the mark
          have hmark0 : MarkOk (ρ.set s.next ⟨w.heap.size, 0, 0⟩) { heap := s.heap.set s.next .other, fams := s.fams, next := Nat.succ s.next } (w.alloc (.deferred (some []))) w.heap.size := by
            refine ⟨by rw [hw1]; omega, ?_, alloc_at _ _⟩
            rintro ⟨i, l, t, e1, e2, e3, e4⟩
            by_cases ei : i = s.next
            · subst ei
              unfold St.tag at e2
              rw [Hp.get_set_same] at e2
              cases e2
            · rw [Ren.set_other ρ _ ei] at e3
              have := (hr.dom i l e3).2.2.2
              omega
          have hmark := MarkOk.goes ((g2.trans g3).trans g4) hmark0
          have hfr : FrR mk n nt ρ3 (setLoop s3 (Nat.succ s.next) r .exhausted r.pending) (w3.putObj (w.heap.size + 1) (.loop { q3 with state := .exhausted, pending := r.pending })) fr { a with defers := [{ target := .collected w.heap.size, args := #[] }] ++ a.defers } := by
            have h5 := hf.goes g0
            refine ⟨h5.size, h5.tmps, ?_, fun d hd r hr' => ?_⟩
            rotate_left
            · rcases List.mem_cons.1 hd with rfl | hd
              · cases hr'; exact ⟨lo, hmk, hlo lo hmk⟩
              · exact h5.nomark d hd r hr'
            refine .mark hmark (fun d hd r hr' => ?_) h5.defers
            exact (hf.defers.marks d hd r hr').1
          have hrun := run_endLoop (P := P) l3 hbusy
          have hpend : ({ q3 with state := .exhausted } : Loop) = { q3 with state := .exhausted, pending := r.pending } := by rw [← l4.pending]
          rw [hpend, l4.pending] at hrun
          refine ⟨r.pending, _, hrun, ?_⟩
          split at h
          · rename_i hp
            rw [hp]
            rw [hp] at h
            cases h
            rw [hp] at hfr g0
            exact hq _ _ _ g0 hfr
          · rename_i hp
            rw [hp]
            rw [hp] at h
            cases h
            rw [hp] at hfr g0
            exact wpIn_ret (hq _ _ _ g0 hfr)
          · rename_i id hp
            rw [hp]
            rw [hp] at h
            cases h
            rw [hp] at hfr g0
            exact wpIn_exit (hq _ _ _ g0 hfr)
          · cases h
        -- the function value
        generalize hcf : a.eval f = cf at hfv2 hs
        cases hfv2 with
        | @func f1 f2 a1 a2 b1 b2 hff h1 h2 =>
          simp only [Deferred.ofValue, Sem.run_bind, Sem.run_pure, Result.andThen_ok] at hs
          obtain ⟨hs2, cargs, hrun, hargs⟩ := hs
          refine ⟨w.heap.size + 1, [{ target := .collected w.heap.size, args := #[] }], _, { target := .fn f2 ⟨b2⟩, args := ⟨a2⟩ ++ #[.func (.yield (w.heap.size + 1)) #[] #[]] }, _, g, ⟨cargs⟩, _,
            run_enterLoop_outer fn' a.tmps ps x y, ?_, fun _ _ => trivial, hrun, (fun h => by cases h), trivial, (post cargs hargs hs2).2⟩
          show Sem.run P (Deferred.ofValue (a.eval f) (#[Operand.const (.func (.yield (w.heap.size + 1)) #[] #[])].map a.eval)) _ = _
          rw [hcf]
          have e0 : (#[Operand.const (.func (.yield (w.heap.size + 1)) #[] #[])].map a.eval) = #[.func (.yield (w.heap.size + 1)) #[] #[]] := by simp [Act.eval]
          rw [e0]
          rfl
        | _ => cases hinv
      · cases h
  | exit id =>
    intro _ _ fr s e fr' s' ρ a w Q h hr hf hlo hq
    cases h
    exact wpIn_exit (hq ρ w a (Goes.refl hr) hf)
  | scope x ihx =>
    intro hok hnr fr s e fr' s' ρ a w Q h hr hf hlo hq
    cases ro with
    | some l => cases h
    | none =>
      change exec C call yield n fn false x fr s = some (e, fr', s') at h
      have := ihx hok hnr fr s e fr' s' ρ a w (Exit.noGoto Q) h hr hf hlo (fun ρ' w' a' hg hf' => by
        have := hq ρ' w' a' hg hf'
        cases e <;> exact this)
      exact (wpIn_wide (n := m)).2 (wp_scope_straight ((wpIn_wide (n := m)).1 this))
  | label l =>
    intro _ _ fr s e fr' s' ρ a w Q h hr hf hlo hq
    cases h
    exact wpIn_label (hq ρ w a (Goes.refl hr) hf)
  | goto l =>
    intro _ _ fr s e fr' s' ρ a w Q h hr hf hlo hq
    cases h
  | ret =>
    intro _ _ fr s e fr' s' ρ a w Q h hr hf hlo hq
    cases h
    exact wpIn_ret (hq ρ w a (Goes.refl hr) hf)
  | refuse why =>
    intro _ _ fr s e fr' s' ρ a w Q h hr hf hlo hq
    cases h
end
end
end Go.Ax

namespace Go.Ax
open Go
noncomputable section

section
variable {P : Program} {B : Nat} {C : Cfg}

/-! ### results -/
theorem mapM_results {n : Nat} {ρ : Ren} {s : St} {w : World} {fr : Fr} {tmps : Array Value} (h : HR P B ρ s w) (ht : ∀ t v, fr.get n t = some v → VR ρ v (tmps.getD t undef)) :
    ∀ {l : List ResultVar} {vs : List Value}, results P n fr s l = some vs → ∃ cs, (l.mapM (m := Sem) fun
      | .tmp t => pure (tmps.getD t undef)
      | .cell a t => do loadVar t (← asAddr (tmps.getD a undef))).run P w = .ok cs w ∧ VRs ρ vs cs
  | [], vs, hr => by
    cases hr
    exact ⟨[], by simp, .nil⟩
  | r :: l, vs, hr => by
    change obind (resultOf P n fr s r) (fun v => obind (results P n fr s l) fun vs => some (v :: vs)) = some vs at hr
    obtain ⟨v, hv, hr⟩ := obind_some.1 hr
    obtain ⟨vs', hvs, hr⟩ := obind_some.1 hr
    cases hr
    obtain ⟨cs, h1, h2⟩ := mapM_results h ht hvs
    cases r with
    | tmp t =>
      refine ⟨tmps.getD t undef :: cs, ?_, .cons (ht t v hv) h2⟩
      simp only [List.mapM_cons, Sem.run_bind, Sem.run_pure, Result.andThen_ok, h1]
    | cell a t =>
      obtain ⟨u, hu, hv⟩ := obind_some.1 hv
      have hvu := ht a u hu
      split at hv
      · generalize hcq : tmps.getD a undef = c at hvu
        cases hvu with
        | @ptr b0 o0 l0 hl =>
          obtain ⟨c, h3, h4⟩ := load_sound h hl hv
          refine ⟨c :: cs, ?_, .cons h4 h2⟩
          have hA : (asAddr (tmps.getD a undef)).run P w = .ok ⟨l0.blk, l0.off + o0, none⟩ w := by rw [hcq]; rfl
          simp only [List.mapM_cons, Sem.run_bind, hA, Sem.run_pure, Result.andThen_ok]
          rw [h3]
          simp only [Result.andThen_ok, h1]
      · cases hv

theorem results_sound {n : Nat} {ρ : Ren} {s : St} {w : World} {fr : Fr} {tmps : Array Value} {fn : Func} (h : HR P B ρ s w) (ht : ∀ t v, fr.get n t = some v → VR ρ v (tmps.getD t undef)) {vs : List Value} (hr : results P n fr s fn.results.toList = some vs) :
    ∃ c, (Go.results fn tmps).run P w = .ok c w ∧ VR ρ (Ax.tuple vs) c := by
  obtain ⟨cs, h1, h2⟩ := mapM_results h ht hr
  have hm : (Go.results fn tmps).run P w = .ok (if h : (cs.toArray).size = 1 then (cs.toArray)[0] else .tuple cs.toArray) w := by
    unfold Go.results
    rw [Array.mapM_eq_mapM_toList]
    simp only [map_eq_pure_bind, bind_assoc, pure_bind]
    rw [Sem.run_bind]
    erw [h1]
    simp only [Result.andThen_ok, Sem.run_pure]
  refine ⟨_, hm, ?_⟩
  match vs, cs, h2 with
  | [], _, .nil => simpa [Ax.tuple] using VR.tuple (ρ := ρ) .nil
  | [v], _, .cons hv .nil => simpa [Ax.tuple] using hv
  | v :: u :: vs, _, .cons hv (.cons hu hl) => simpa [Ax.tuple] using VR.tuple (VRs.cons hv (.cons hu hl))

/-! ### the first frame of a call -/
theorem setVars_get : ∀ (vs : List Value) (i : Nat) (t : Tr Value) (k : Nat), (setVars vs i t).get k = if i ≤ k ∧ k < i + vs.length then vs[k - i]? else t.get k
  | [], i, t, k => by
    show t.get k = _
    rw [if_neg (by simp)]
  | v :: vs, i, t, k => by
    show (setVars vs (i + 1) (t.set i v)).get k = _
    rw [setVars_get vs (i + 1)]
    by_cases h : i + 1 ≤ k ∧ k < i + 1 + vs.length
    · rw [if_pos h, if_pos (by simp; omega)]
      rw [show k - i = (k - (i + 1)) + 1 by omega]
      rfl
    · rw [if_neg h, Tr.get_set]
      by_cases e : k = i
      · subst e
        rw [if_pos rfl, if_pos (by simp)]
        simp
      · rw [if_neg e, if_neg (by simp; omega)]

theorem start_fr {n nt : Nat} {ρ : Ren} {s : St} {w : World} {args cargs : List Value} (ha : VRs ρ args cargs) (mk : Option Nat) : FrR mk n nt ρ s w (startFr args) { tmps := ⟨cargs⟩ ++ Array.replicate (nt - (⟨cargs⟩ : Array Value).size) undef, defers := [] } := by
  refine ⟨by simp; omega, fun t v ht => ?_, .nil, fun d hd => by cases hd⟩
  unfold Fr.get at ht
  rw [sel_eq] at ht
  split at ht
  · change (setVars args 0 .e).get t = some v at ht
    rw [setVars_get] at ht
    split at ht
    · rename_i hh
      obtain ⟨c, h1, h2⟩ := ha.get (by simpa using ht)
      have hc : ((⟨cargs⟩ : Array Value) ++ Array.replicate (nt - (⟨cargs⟩ : Array Value).size) undef)[t]? = some c := by
        have hl := (List.getElem?_eq_some_iff.1 h1).1
        rw [Array.getElem?_append_left (by simpa using hl)]
        simpa using h1
      rw [Array.getD_eq_getD_getElem?, hc]
      exact h2
    · rw [Tr.get_e] at ht
      cases ht
  · cases ht

/-! ### deferred calls -/
theorem HR.unowned {ρ : Ren} {s : St} {w : World} (h : HR P B ρ s w) {r : Nat} (hB : B ≤ r) (hno : ¬ Owned ρ s r) (o : Obj) : HR P B ρ s (w.putObj r o) := by
  have hsz : (w.putObj r o).heap.size = w.heap.size := World.putObj_size
  have hold : ∀ i t l, s.tag i = some t → ρ.at i = some l → (w.putObj r o).heap[l.blk]? = w.heap[l.blk]? := by
    intro i t l ht hl
    refine World.putObj_heap_other ?_
    rintro rfl
    by_cases hlo : i < fixedTop
    · have := h.low i hlo (by rw [ht]; simp)
      rw [Ren.at_low hlo] at hl
      cases hl
      have : i < B := this.1
      have e : B ≤ i := hB
      omega
    · exact hno ⟨i, l, t, by omega, ht, by rwa [Ren.at_of (by omega)] at hl, rfl⟩
  refine ⟨fun i l hi => by rw [hsz]; exact h.dom i l hi, h.next, by rw [hsz]; exact h.base_le, h.low, h.heap_dom, h.fam_dom, fun i cs e f hc => ?_, fun i es c hi => ?_, fun i q hi => ?_, h.sep⟩
  · obtain ⟨q, hq⟩ := h.rows i cs e f hc
    exact ⟨q, hq.move (Ren.le_refl ρ) (hold i _ q (tag_cells hc) hq.at_)⟩
  · obtain ⟨q, hq, es', h1, h2⟩ := h.maps i es c hi
    exact ⟨q, hq, es', by rw [hold i _ q (tag_map hi) (by rw [Ren.at_of (h.dom i q hq).1]; exact hq)]; exact h1, h2⟩
  · obtain ⟨u, hu, q', h1, h2⟩ := h.loops i q hi
    exact ⟨u, hu, q', by rw [hold i _ u (tag_loop hi) (by rw [Ren.at_of (h.dom i u hu).1]; exact hu)]; exact h1, h2⟩

theorem Goes.unowned {ρ ρ' : Ren} {s s' : St} {w w' : World} (hg : Goes P B ρ s w ρ' s' w') (h0 : HR P B ρ s w) {r : Nat} (hr : w.heap.size ≤ r) (hno : ¬ Owned ρ' s' r) (o : Obj) : Goes P B ρ s w ρ' s' (w'.putObj r o) := by
  refine ⟨hg.le, hg.hr.unowned (Nat.le_trans h0.base_le hr) hno o, hg.os, hg.tape, hg.output, by rw [World.putObj_size]; exact hg.grow, hg.next, fun b hb ho => ?_, hg.own, hg.old⟩
  rw [World.putObj_heap_other (by omega)]
  exact hg.frame b hb ho

theorem DefR.putObj {ρ : Ren} {s : St} {w : World} {l : List (FuncId × List Value)} {ds : List Deferred} {r : Nat} (o : Obj) (h : DefR ρ s w l ds) (hlt : ∀ d ∈ ds, ∀ q, d.target = .collected q → q < r) : DefR ρ s (w.putObj r o) l ds := by
  induction h with
  | nil => exact .nil
  | cons ht ha hv _ ih => exact .cons ht ha hv (ih fun d hd => hlt d (by simp [hd]))
  | @mark q l ds hm hl2 _ ih =>
    refine .mark ⟨by rw [World.putObj_size]; exact hm.1, hm.2.1, ?_⟩ hl2 (ih fun d hd => hlt d (by simp [hd]))
    have := hlt { target := .collected q, args := #[] } (by simp) q rfl
    rw [World.putObj_heap_other (by omega)]
    exact hm.2.2

/-- What a deferred call may be counted on for. -/
def DCallOk (P : Program) (dcall : CallT) : Prop :=
  ∀ f args s v s', dcall f args s = some (v, s') → ∀ B ρ w cargs, HR P B ρ s w → VRs ρ args cargs →
    (callFunc f ⟨cargs⟩).run P w = .ok (.enter f ⟨cargs⟩) w ∧
    ∀ m, CallsDIn Fence.wide m P f ⟨cargs⟩ .returning w fun e u' w' => u' = .returning ∧ ∃ c ρ', e = .returned c ∧ Goes P B ρ s w ρ' s' w' ∧ VR ρ' v c

theorem leaves_ok {dcall : CallT} (hd : DCallOk P dcall) {fn : Func} {n m : Nat} {R : Ending → World → Prop} {fr : Fr} {tmps : Array Value} {ρ0 : Ren} {s0 s1 : St} {w0 : World} (h0 : HR P B ρ0 s0 w0) {vs : List Value} (hres : results P n fr s1 fn.results.toList = some vs)
    (hR : ∀ ρ' w' c, Goes P B ρ0 s0 w0 ρ' s1 w' → VR ρ' (Ax.tuple vs) c → R (.returned c) w') :
    ∀ (ds : List Deferred) (l : List (FuncId × List Value)) (s : St) (ρ : Ren) (w : World), DefR ρ s w l ds → (∀ d ∈ ds, ∀ r, d.target = .collected r → w0.heap.size ≤ r) → Goes P B ρ0 s0 w0 ρ s w →
      (∀ t v, fr.get n t = some v → VR ρ v (tmps.getD t undef)) → unwind dcall l s = some s1 → LeavesInM Fence.wide m P fn tmps R ds .returning w
  | [], _, s, ρ, w, .nil, _, hg, ht, hu => by
    cases hu
    obtain ⟨c, h1, h2⟩ := results_sound hg.hr ht hres
    exact ⟨c, h1, hR ρ w c hg h2⟩
  | _ :: ds, _, s, ρ, w, .mark (r := r) hm hlt hrest, hge, hg, ht, hu => by
    refine ⟨by simp, .inl ⟨r, _, rfl, run_takeDeferred hm.2.2, ?_⟩⟩
    have hr := hge { target := .collected r, args := #[] } (by simp) r rfl
    exact leaves_ok hd h0 hres hR ds _ s ρ _ (hrest.putObj _ hlt) (fun d hd => hge d (by simp [hd])) (hg.unowned h0 hr hm.2.1 _) ht hu
  | d :: ds, _, s, ρ, w, .cons (f := f) (args := args) (first := first) (captured := captured) ht0 ha hv hrest, hge, hg, ht, hu => by
    change obind (dcall f args s) (fun q => unwind dcall _ q.2) = some s1 at hu
    obtain ⟨⟨v, s2⟩, hcall, hu⟩ := obind_some.1 hu
    obtain ⟨henter, hD⟩ := hd f args s v s2 hcall B ρ w (first ++ captured) hg.hr hv
    have hinv : (Go.invoke d.target d.args).run P w = .ok (.enter f ⟨first ++ captured⟩) w := by
      rw [ht0, ha]
      have e : ((⟨first⟩ : Array Value) ++ ⟨captured⟩) = ⟨first ++ captured⟩ := by simp
      simp only [Go.invoke, e]
      exact henter
    refine ⟨by simp, .inr ⟨(fun h => by cases h), .func f, ⟨captured⟩, f, ⟨first ++ captured⟩, ht0, hinv, fun _ _ => trivial, ?_⟩⟩
    refine (hD (m - 1)).mono ?_
    rintro e u' w' ⟨rfl, c, ρ', rfl, hg2, hv2⟩
    exact leaves_ok hd h0 hres hR ds _ s2 ρ' w' (hrest.goes hg2) (fun d hd => hge d (by simp [hd])) (hg.trans hg2) (fun t u hu => (ht t u hu).mono hg2.le) hu

/-- A CALL THAT WAS DEFERRED. -/
theorem callD_ok (hK : CfgOk C P) {call : CallT} {yield : YieldT} (hc : CallOk P call) (hy : YieldOk P yield) (hQ : QuietOk C call) : DCallOk P (callD C call yield) := by
  intro f args s v s' h B ρ w cargs hr ha
  unfold callD at h
  obtain ⟨c, hb, h⟩ := obind_some.1 h
  obtain ⟨hnr, h⟩ := guard_some.1 h
  obtain ⟨⟨e, fr', s2⟩, hex, hfin⟩ := obind_some.1 h
  obtain ⟨fn, h1, h2, h3, h4, h5⟩ := hK.body f c hb
  have h3' : ¬ fn.name = "runtime.NumGoroutine" := by simpa using h3
  refine ⟨by simp [callFunc, h1, h2, h3'], fun m => ?_⟩
  refine callsDIn_of_wp (F := Fence.wide) (n := m) (R := fun e w' => ∃ c ρ', e = .returned c ∧ Goes P B ρ s w ρ' s' w' ∧ VR ρ' v c) h1 h2 trivial ?_
  have key : ∀ ρ' w' a', Goes P B ρ s w ρ' s2 w' → FrR none (C.vars f) fn.ntmps ρ' s2 w' fr' a' → bodyPost P fn (fun e w' => ∃ c ρ', e = .returned c ∧ Goes P B ρ s w ρ' s' w' ∧ VR ρ' v c) (exq e) a' w' := by
    intro ρ' w' a' hg hf
    have fin : ∀ (hd : lcase fr'.defers (obind (results C.P (C.vars f) fr' s2 (C.results f)) fun vs => some (Ax.tuple vs, s2)) (fun _ _ => none) = some (v, s')), a'.defers = [] ∧ ∃ v', (Go.results fn a'.tmps).run P w' = .ok v' w' ∧ ∃ c ρ', Ending.returned v' = .returned c ∧ Goes P B ρ s w ρ' s' w' ∧ VR ρ' v c := by
      intro hd
      cases hdf : fr'.defers with
      | cons d ds => rw [hdf] at hd; cases hd
      | nil =>
        rw [hdf] at hd
        obtain ⟨vs, hvs, hd⟩ := obind_some.1 hd
        cases hd
        rw [hK.prog, h5] at hvs
        obtain ⟨c, g1, g2⟩ := results_sound hg.hr hf.tmps hvs
        refine ⟨?_, c, g1, c, ρ', rfl, hg, g2⟩
        have hdr := hf.defers
        rw [hdf] at hdr
        cases hads : a'.defers with
        | nil => rfl
        | cons d ds =>
          rw [hads] at hdr
          cases hdr with
          | mark hm hlt hh =>
            obtain ⟨k, hk, _⟩ := hf.nomark _ (by rw [hads]; exact List.mem_cons_self ..) _ rfl
            cases hk
    cases e with
    | normal => exact fin hfin
    | ret => exact fin hfin
    | exit id => cases hfin
  exact exec_wp hK hc hy hQ hK.mix (ro := none) (m := m) (n := C.vars f) (nt := fn.ntmps) (mk := none) (fn := f) c h4 (fun _ => hnr) (startFr args) s e fr' s2 ρ _ w _ hex hr (start_fr ha none) (fun k hk => by cases hk) key

/-! ### a deferred function that recovers nothing -/
theorem run_recover {η : Operand → Value} {o : Oper} {w : World} (h : isRecover o.op = true) : (Go.execOp η o).run P w = .ok .recover w := by
  unfold isRecover at h
  split at h
  · rename_i c hop
    split at h
    · rename_i b hb
      split at h
      · split at h
        · rename_i ha
          unfold Go.execOp
          simp only [hop]
          have : c.args = #[] := by apply Array.ext'; simpa using ha
          simp only [resolve, hb, this, Array.map_empty, pure_bind]
          rfl
        · cases h
      · cases h
    · cases h
  · cases h

theorem opsR_cons (n : Nat) (all : List Oper) (o : Oper) (rest : List Oper) (fr : Fr) (s : St) :
    opsR C n all (o :: rest) fr s = obind (guardOk n all fr o.guard) fun g => sel g (sel (isRecover o.op) (opsR C n all rest (fr.put n o.dst .nilIface) s) (plainOp C n o (opsR C n all rest) fr s)) (opsR C n all rest (fr.put n o.dst unit) s) := rfl

theorem opsR_wp (hK : CfgOk C P) {mk : Option Nat} {m n nt : Nat} {ops : Array Oper} {cs : List Frame} (hcs : recoverD cs = none) {Q : Exit → Act → List Frame → World → Prop}
    (hok : okOpers nt ops.toList = true) : ∀ (rest : List Oper) (k : Nat), ops.toList.drop k = rest → ∀ (fr : Fr) (s : St) (fr' : Fr) (s' : St) (ρ : Ren) (a : Act) (w : World),
      opsR C n ops.toList rest fr s = some (fr', s') → HR P B ρ s w → FrR mk n nt ρ s w fr a →
      (∀ ρ' w' a', Goes P B ρ s w ρ' s' w' → FrR mk n nt ρ' s' w' fr' a' → Q .normal a' cs w') → wpOpsSIn Fence.wide m P ops Q (List.range' k rest.length) a cs w
  | [], k, _, fr, s, fr', s', ρ, a, w, h, hh, hf, hq => by
    cases h
    exact hq ρ w a (Goes.refl hh) hf
  | o :: rest, k, hd, fr, s, fr', s', ρ, a, w, h, hh, hf, hq => by
    have ho : ops[k]? = some o := by
      have : (ops.toList.drop k)[0]? = some o := by rw [hd]; rfl
      simpa using this
    have hd' : ops.toList.drop (k + 1) = rest := by
      rw [← List.drop_drop, hd]; rfl
    have hmem : o ∈ ops.toList := List.mem_of_getElem? (by simpa using ho)
    obtain ⟨hdst, hopn⟩ := okOper_some (okOpers_mem hok o hmem)
    rw [opsR_cons] at h
    obtain ⟨g, hg, h⟩ := obind_some.1 h
    have hw := wanted_eq (ρ := ρ) (a := a) hg (fun j o' d b v _ _ _ hv => hf.tmps d v hv)
    show wpOpsSIn Fence.wide m P ops Q (k :: List.range' (k + 1) rest.length) a cs w
    simp only [wpOpsSIn, ho, hw]
    refine ⟨fun _ _ => trivial, ?_⟩
    cases g with
    | false =>
      rw [sel_false] at h
      exact opsR_wp hK hcs hok rest (k + 1) hd' _ s fr' s' ρ _ w h hh (hf.skip hdst) hq
    | true =>
      rw [sel_true] at h
      rw [if_pos rfl]
      cases hrec : isRecover o.op with
      | true =>
        rw [hrec, sel_true] at h
        rw [run_recover hrec]
        simp only [hcs]
        have hp := hf.put (df := none) (ds := []) (v := .nilIface) (c := .nilIface) hdst .nilIface .none
        exact opsR_wp hK hcs hok rest (k + 1) hd' _ s fr' s' ρ _ w h hh hp hq
      | false =>
        rw [hrec, sel_false] at h
        unfold plainOp at h
        obtain ⟨r, hr, h⟩ := obind_some.1 h
        have he := evR_restr (ρ := ρ) (n := n) (fr := fr) (a := a) hopn (fun t v _ ht => hf.tmps t v ht)
        rw [← execOp_restr] at hr
        have hs := op_sound hK hh he hr
        cases r with
        | val v s2 =>
          obtain ⟨ρ', w', c, hrun, hgo, hv⟩ := hs
          have hp := (hf.goes hgo).put (df := none) (ds := []) hdst hv .none
          have hnext := opsR_wp hK (m := m) (Q := Q) hcs hok rest (k + 1) hd' _ s2 fr' s' ρ' _ w' h hgo.hr hp (fun ρ'' w'' a'' hgo2 hf2 => hq ρ'' w'' a'' (hgo.trans hgo2) hf2)
          rcases hrun with hrun | ⟨hrun, rfl⟩
          · rw [hrun]; exact hnext
          · rw [hrun]; exact hnext
        | call f args s2 => cases h
        | yield f args s2 => cases h
        | defer f args s2 => cases h

theorem execR_wp (hK : CfgOk C P) {mk : Option Nat} {m n nt : Nat} {cs : List Frame} (hcs : recoverD cs = none) :
    ∀ (c : Code), okCode nt c = true → ∀ (fr : Fr) (s : St) (e : Ex) (fr' : Fr) (s' : St) (ρ : Ren) (a : Act) (w : World) (Q : Exit → Act → List Frame → World → Prop),
      execR C n c fr s = some (e, fr', s') → HR P B ρ s w → FrR mk n nt ρ s w fr a →
      (∀ ρ' w' a', Goes P B ρ s w ρ' s' w' → FrR mk n nt ρ' s' w' fr' a' → Q (exq e) a' cs w') → c.wpSIn Fence.wide m P Q a cs w := by
  intro c
  induction c with
  | skip =>
    intro _ fr s e fr' s' ρ a w Q h hr hf hq
    cases h
    exact wpSIn_of_wpIn rfl (wpIn_skip (hq ρ w a (Goes.refl hr) hf))
  | region id ops d =>
    intro hok fr s e fr' s' ρ a w Q h hr hf hq
    change sel d none (obind (opsR C n ops.toList ops.toList fr.fresh s) fun r => some (Ex.normal, r)) = some (e, fr', s') at h
    cases d with
    | true => cases h
    | false =>
      rw [sel_false] at h
      obtain ⟨⟨fr2, s2⟩, hd, h⟩ := obind_some.1 h
      obtain ⟨rfl, rfl, rfl⟩ : Ex.normal = e ∧ fr2 = fr' ∧ s2 = s' := by cases h; exact ⟨rfl, rfl, rfl⟩
      refine wpSIn_region ?_
      rw [List.range_eq_range']
      have := opsR_wp (P := P) (B := B) hK (m := m) (nt := nt) hcs (Q := Q) hok ops.toList 0 (by simp) fr.fresh s fr2 s2 ρ a w hd hr hf.fresh hq
      simpa using this
  | seq x y ihx ihy =>
    intro hok fr s e fr' s' ρ a w Q h hr hf hq
    obtain ⟨h1, h2⟩ := sel_and hok
    change obind (execR C n x fr s) (iterNext (execR C n y)) = some (e, fr', s') at h
    obtain ⟨⟨e1, fr1, s1⟩, hx, h⟩ := obind_some.1 h
    refine wpSIn_seq (ihx h1 fr s e1 fr1 s1 ρ a w _ hx hr hf ?_)
    intro ρ' w' a' hg hf'
    cases e1 with
    | normal => exact ihy h2 fr1 s1 e fr' s' ρ' a' w' Q h hg.hr hf' fun ρ2 w2 a2 hg2 hf2 => hq ρ2 w2 a2 (hg.trans hg2) hf2
    | exit id => cases h; exact hq ρ' w' a' hg hf'
    | ret => cases h; exact hq ρ' w' a' hg hf'
  | cond c x y ihx ihy =>
    intro hok fr s e fr' s' ρ a w Q h hr hf hq
    obtain ⟨h0, hok⟩ := sel_and hok
    obtain ⟨h1, h2⟩ := sel_and hok
    change obind (fr.ev n c) (condRun (execR C n x) (execR C n y) fr s) = some (e, fr', s') at h
    obtain ⟨v, hv, h⟩ := obind_some.1 h
    unfold condRun at h
    split at h
    case h_2 => cases h
    rename_i b
    rw [sel_eq] at h
    have hvr := opnd_vr (ρ := ρ) (a := a) h0 (fun t u _ hu => hf.tmps t u hu) hv
    generalize hav : a.eval c = av at hvr
    cases hvr
    refine wpSIn_cond hav ?_
    cases b with
    | true => exact ihx h1 fr s e fr' s' ρ a w Q h hr hf hq
    | false => exact ihy h2 fr s e fr' s' ρ a w Q h hr hf hq
  | ret =>
    intro _ fr s e fr' s' ρ a w Q h hr hf hq
    cases h
    exact wpSIn_of_wpIn rfl (wpIn_ret (hq ρ w a (Goes.refl hr) hf))
  | _ =>
    intro _ fr s e fr' s' ρ a w Q h hr hf hq
    cases h

theorem callR_ok (hK : CfgOk C P) : DCallOk P (callR C) := by
  intro f args s v s' h B ρ w cargs hr ha
  unfold callR at h
  obtain ⟨c, hb, h⟩ := obind_some.1 h
  obtain ⟨⟨e, fr', s2⟩, hex, hfin⟩ := obind_some.1 h
  obtain ⟨fn, h1, h2, h3, h4, h5⟩ := hK.body f c hb
  have h3' : ¬ fn.name = "runtime.NumGoroutine" := by simpa using h3
  refine ⟨by simp [callFunc, h1, h2, h3'], fun m => ?_⟩
  refine callsDIn_of_wpSIn (F := Fence.wide) (n := m) h1 h2 trivial ?_
  intro c₀ cs hc₀
  have hrec : recoverD (c₀ :: cs) = none := by simp [recoverD, hc₀]
  refine execR_wp hK (m := m) (n := C.vars f) (nt := fn.ntmps) (mk := none) hrec c h4 (startFr args) s e fr' s2 ρ _ w _ hex hr (start_fr ha none) ?_
  intro ρ' w' a' hg hf
  have fin : ∀ (hd : lcase fr'.defers (obind (results C.P (C.vars f) fr' s2 (C.results f)) fun vs => some (Ax.tuple vs, s2)) (fun _ _ => none) = some (v, s')), a'.defers = [] ∧ ∃ u', (c₀ :: cs) = { c₀ with mode := u' } :: cs ∧ ∃ v', (Go.results fn a'.tmps).run P w' = .ok v' w' ∧ (u' = .returning ∧ ∃ c ρ', Ending.returned v' = .returned c ∧ Goes P B ρ s w ρ' s' w' ∧ VR ρ' v c) := by
    intro hd
    cases hdf : fr'.defers with
    | cons d ds => rw [hdf] at hd; cases hd
    | nil =>
      rw [hdf] at hd
      obtain ⟨vs, hvs, hd⟩ := obind_some.1 hd
      cases hd
      rw [hK.prog, h5] at hvs
      obtain ⟨c, g1, g2⟩ := results_sound hg.hr hf.tmps hvs
      refine ⟨?_, .returning, by rw [← hc₀], c, g1, rfl, c, ρ', rfl, hg, g2⟩
      have hdr := hf.defers
      rw [hdf] at hdr
      cases hads : a'.defers with
      | nil => rfl
      | cons d ds =>
        rw [hads] at hdr
        cases hdr with
        | mark hm hlt hh =>
          obtain ⟨k, hk, _⟩ := hf.nomark _ (by rw [hads]; exact List.mem_cons_self ..) _ rfl
          cases hk
  cases e with
  | normal => exact fin hfin
  | ret => exact fin hfin
  | exit id => cases hfin

theorem callDR_ok (hK : CfgOk C P) {call : CallT} {yield : YieldT} (hc : CallOk P call) (hy : YieldOk P yield) (hQ : QuietOk C call) : DCallOk P (callDR C call yield) := by
  intro f args s v s' h
  cases hd : callD C call yield f args s with
  | some q =>
    have h : Option.casesOn (callD C call yield f args s) (callR C f args s) some = some (v, s') := h
    rw [hd] at h
    have h : some q = some (v, s') := h
    cases h
    exact callD_ok hK hc hy hQ f args s v s' hd
  | none =>
    have h : Option.casesOn (callD C call yield f args s) (callR C f args s) some = some (v, s') := h
    rw [hd] at h
    exact callR_ok hK f args s v s' h

/-- A CALL. -/
theorem callBody_ok (hK : CfgOk C P) {call : CallT} {yield : YieldT} (hc : CallOk P call) (hy : YieldOk P yield) (hQ : QuietOk C call) : CallOk P (callBody C call yield) := by
  intro f args s v s' h B ρ w cargs hr ha
  unfold callBody at h
  obtain ⟨c, hb, h⟩ := obind_some.1 h
  obtain ⟨⟨e, fr', s2⟩, hex, hfin⟩ := obind_some.1 h
  obtain ⟨fn, h1, h2, h3, h4, h5⟩ := hK.body f c hb
  refine (callsIn_wide (n := 0)).1 ?_
  refine callsIn_of_wp_marks (F := Fence.wide) (n := 0) h1 h2 trivial ?_
  refine exec_wp hK hc hy hQ hK.mix (ro := none) (m := 0) (n := C.vars f) (nt := fn.ntmps) (mk := some w.heap.size) (fn := f) c h4 (fun h => by cases h) (startFr args) s e fr' s2 ρ _ w _ hex hr (start_fr ha _) (fun k hk => by cases hk; exact Nat.le_refl _) ?_
  intro ρ' w' a' hg hf
  have fin : ∀ (hd : obind (unwind (callDR C call yield) fr'.defers s2) (fun s => obind (results C.P (C.vars f) fr' s (C.results f)) fun vs => some (Ax.tuple vs, s)) = some (v, s')),
      LeavesInM Fence.wide 0 P fn a'.tmps (fun e w' => ∃ c ρ', e = .returned c ∧ Goes P B ρ s w ρ' s' w' ∧ VR ρ' v c) a'.defers .returning w' := by
    intro hd
    obtain ⟨s3, hu, hd⟩ := obind_some.1 hd
    obtain ⟨vs, hvs, hd⟩ := obind_some.1 hd
    cases hd
    rw [hK.prog, h5] at hvs
    refine leaves_ok (callDR_ok hK hc hy hQ) hr hvs ?_ a'.defers fr'.defers s2 ρ' w' hf.defers ?_ hg hf.tmps hu
    · intro ρ2 w2 c hg2 hv2
      exact ⟨c, ρ2, rfl, hg2, hv2⟩
    · intro d hd r hr'
      obtain ⟨k, hk, hle⟩ := hf.nomark d hd r hr'
      cases hk
      exact hle
  cases e with
  | normal => exact fin hfin
  | ret => exact fin hfin
  | exit id => cases hfin

theorem callStep_ok (hK : CfgOk C P) {call : CallT} {yield : YieldT} (hc : CallOk P call) (hy : YieldOk P yield) (hQ : QuietOk C call) : CallOk P (callStep C call yield) := by
  intro f args s v s' h
  unfold callStep at h
  cases hi : C.insert f with
  | none => rw [hi] at h; exact callBody_ok hK hc hy hQ f args s v s' h
  | some t =>
    rw [hi] at h
    cases he : runCon C t s args with
    | none =>
      have h : Option.casesOn (runCon C t s args) (callBody C call yield f args s) some = some (v, s') := h
      rw [he] at h
      exact callBody_ok hK hc hy hQ f args s v s' h
    | some q =>
      have h : Option.casesOn (runCon C t s args) (callBody C call yield f args s) some = some (v, s') := h
      rw [he] at h
      have h : some q = some (v, s') := h
      cases h
      exact hK.insert f t hi args s v s' he

/-! ### rounds -/
theorem setPairs_ok {n : Nat} {ρ : Ren} : ∀ {ps : List Nat} {args cargs : List Value} {t t' : Tr Value} {tmps : Array Value}, setPairs ps args t = some t' → VRs ρ args cargs → okTmps tmps.size ps = true → VarsR ρ n t tmps →
    cargs.length = ps.length ∧ VarsR ρ n t' ((ps.zip cargs).foldl (fun tmps (x : Nat × Value) => tmps.setIfInBounds x.1 x.2) tmps) ∧ ((ps.zip cargs).foldl (fun tmps (x : Nat × Value) => tmps.setIfInBounds x.1 x.2) tmps).size = tmps.size
  | [], args, cargs, t, t', tmps, h, ha, _, hv => by
    cases ha with
    | nil => cases h; exact ⟨rfl, hv, rfl⟩
    | cons _ _ => cases h
  | p :: ps, args, cargs, t, t', tmps, h, ha, hok, hv => by
    cases ha with
    | nil => cases h
    | @cons v c args cargs hvc ha =>
      change setPairs ps args (t.set p v) = some t' at h
      obtain ⟨h0, hok⟩ := sel_and hok
      have h0 := ltN_some h0
      have hv2 : VarsR ρ n (t.set p v) (tmps.setIfInBounds p c) := by
        intro k u hk hu
        rw [Tr.get_set] at hu
        rw [Array.getD_eq_getD_getElem?, Array.getElem?_setIfInBounds]
        by_cases e : k = p
        · subst e
          rw [if_pos rfl] at hu
          cases hu
          rw [if_pos rfl, if_pos h0]
          exact hvc
        · rw [if_neg e] at hu
          rw [if_neg (fun h => e h.symm), ← Array.getD_eq_getD_getElem?]
          exact hv k u hk hu
      obtain ⟨h1, h2, h3⟩ := setPairs_ok (tmps := tmps.setIfInBounds p c) h ha (by rw [Array.size_setIfInBounds]; exact hok) hv2
      refine ⟨by simp [h1], h2, ?_⟩
      show (List.foldl _ (tmps.setIfInBounds p c) (ps.zip cargs)).size = _
      rw [h3]
      simp

theorem yieldStep_ok (hK : CfgOk C P) {call : CallT} {yield : YieldT} (hc : CallOk P call) (hy : YieldOk P yield) (hQ : QuietOk C call) : YieldOk P (yieldStep C call yield) := by
  intro l args s v s' h B ρ w loc cargs hr hl ha
  unfold yieldStep at h
  obtain ⟨r, hgl, h⟩ := obind_some.1 h
  obtain ⟨vars, hsp, h⟩ := obind_some.1 h
  obtain ⟨⟨e1, fr1, s1⟩, hex, h⟩ := obind_some.1 h
  obtain ⟨loc', q, g1, g2, g3, g4⟩ := getLoop_sound hr hgl
  obtain rfl : loc' = loc := by rw [hl] at g1; exact (Option.some.inj g1).symm
  obtain ⟨k1, k2, k3⟩ := setPairs_ok (n := r.n) hsp ha g4.code.2.2 g4.vars
  have hparams : q.params.toList = r.params := g4.params
  have hsize : (⟨cargs⟩ : Array Value).size = q.params.size := by
    have : q.params.toList.length = r.params.length := by rw [hparams]
    simp at this ⊢
    omega
  have hrun := run_yield (P := P) g3 hsize
  have hfold : (q.params.zip ⟨cargs⟩).foldl (fun tmps (t, a) => tmps.setIfInBounds t a) q.tmps = (r.params.zip cargs).foldl (fun tmps (x : Nat × Value) => tmps.setIfInBounds x.1 x.2) q.tmps := by
    rw [← hparams, ← Array.foldl_toList]
    congr 1
    simp
  rw [hfold] at hrun
  refine ⟨_, _, _, _, hrun, ?_⟩
  refine roundIn_of_wpIn (F := Fence.wide) trivial ?_
  rw [g4.assign, g4.body]
  -- the assignments
  have hfr0 : FrR (some 0) r.n q.tmps.size ρ s w { vars := vars, loc := [], defers := [] } { tmps := (r.params.zip cargs).foldl (fun tmps (x : Nat × Value) => tmps.setIfInBounds x.1 x.2) q.tmps, defers := [] } := by
    refine ⟨by rw [k3]; exact Nat.le_refl _, fun t u hu => ?_, .nil, fun d hd => by cases hd⟩
    unfold Fr.get at hu
    rw [sel_eq] at hu
    split at hu
    · rename_i hlt
      exact k2 t u (ltN_some hlt) hu
    · cases hu
  refine exec_wp hK hc hy hQ hK.mix (ro := some loc'.blk) (m := 0) (n := r.n) (nt := q.tmps.size) (mk := some 0) (fn := r.fn) r.assign g4.code.1 (fun hh => by cases hh) _ s e1 fr1 s1 ρ _ w _ hex hr hfr0 (fun k hk => by cases hk; exact Nat.zero_le _) ?_
  intro ρ1 w1 a1 hg1 hf1
  cases e1 with
  | exit id => cases h
  | ret => cases h
  | normal =>
    change obind (Ax.getLoop s1 l) (fun r1 => match r1.state with
      | .ready => obind (exec C call yield r.n r.fn true r.body fr1 (setLoop s1 l r1 .busy r1.pending)) (Ax.endRound l)
      | _ => none) = some (v, s') at h
    obtain ⟨r1, hgl1, h⟩ := obind_some.1 h
    obtain ⟨loc1, q1, j1, j2, j3, j4⟩ := getLoop_sound hg1.hr hgl1
    obtain rfl : loc1 = loc' := by
      have := hg1.le _ _ hl
      rw [j1] at this
      exact Option.some.inj this
    split at h
    · rename_i hst
      obtain ⟨⟨e2, fr2, s2⟩, hex2, hend⟩ := obind_some.1 h
      have hbr := run_beginRound (P := P) j3 (by rw [j4.state]; exact hst)
      have hgb := setLoop_goes hg1.hr hgl1 j1 j4 .busy r1.pending
      have hq1 : ({ q1 with state := .busy } : Loop) = { q1 with state := .busy, pending := r1.pending } := by rw [← j4.pending]
      rw [hq1] at hbr
      refine ⟨_, hbr, ?_⟩
      have hg01 := hg1.trans hgb
      refine exec_wp hK hc hy hQ hK.mix (ro := some loc1.blk) (m := 0) (n := r.n) (nt := q.tmps.size) (mk := some 0) (fn := r.fn) r.body g4.code.2.1 (fun hh => by cases hh) fr1 _ e2 fr2 s2 ρ1 a1 _ _ hex2 hgb.hr (hf1.goes hgb) (fun k hk => by cases hk; exact Nat.zero_le _) ?_
      intro ρ2 w2 a2 hg2 hf2
      unfold Ax.endRound at hend
      cases hdf : fr2.defers with
      | cons d ds => simp only [hdf] at hend; cases hend
      | nil =>
        simp only [hdf] at hend
        obtain ⟨r2, hgl2, hend⟩ := obind_some.1 hend
        obtain ⟨loc2, q2, i1, i2, i3, i4⟩ := getLoop_sound hg2.hr hgl2
        obtain rfl : loc2 = loc1 := by
          have := hg2.le _ _ j1
          rw [i1] at this
          exact Option.some.inj this
        have hall := hg01.trans hg2
        cases e2 with
        | normal =>
          cases hend
          exact ⟨_, _, run_endRound none i3, _, ρ2, rfl, hall.trans (setLoop_goes hg2.hr hgl2 i1 i4 .ready none), .bool true⟩
        | ret =>
          cases hend
          exact ⟨_, _, run_endRound (some .ret) i3, _, ρ2, rfl, hall.trans (setLoop_goes hg2.hr hgl2 i1 i4 .done (some .ret)), .bool false⟩
        | exit id =>
          cases hend
          exact ⟨_, _, run_endRound (some (.exit id)) i3, _, ρ2, rfl, hall.trans (setLoop_goes hg2.hr hgl2 i1 i4 .done (some (.exit id))), .bool false⟩
    · cases h

theorem callStep_quiet (call : CallT) (yield : YieldT) : QuietOk C (callStep C call yield) := by
  intro f args s0 s v s' hq h
  have hq : Option.casesOn (C.insert f) false (fun t => conQuiet t args) = true := hq
  unfold callStep at h
  cases hi : C.insert f with
  | none => rw [hi] at hq; cases hq
  | some t =>
    rw [hi] at hq h
    have hq : conQuiet t args = true := hq
    have h : Option.casesOn (runCon C t s args) (callBody C call yield f args s) some = some (v, s') := h
    cases t with
    | insert t => cases hq
    | closed ok => cases hq
    | fn F => cases hq
    | pure G =>
      cases hp : conPureV G args with
      | none =>
        have hq : (conPureV G args).isSome = true := hq
        rw [hp] at hq; cases hq
      | some u =>
        have e : runCon C (.pure G) s args = some (u, s) := by
          show obind (conPureV G args) _ = _
          rw [hp]; rfl
        rw [e] at h
        have h : some (u, s) = some (v, s') := h
        cases h; rfl

theorem runN_quiet : ∀ (n : Nat), QuietOk C (runN C n).1
  | 0 => fun f args s0 s v s' _ h => by cases h
  | n + 1 => callStep_quiet _ _

theorem runN_ok (hK : CfgOk C P) : ∀ (n : Nat), CallOk P (runN C n).1 ∧ YieldOk P (runN C n).2
  | 0 => ⟨(fun f args s v s' h => by cases h), (fun l args s v s' h => by cases h)⟩
  | n + 1 => ⟨callStep_ok hK (runN_ok hK n).1 (runN_ok hK n).2 (runN_quiet n), yieldStep_ok hK (runN_ok hK n).1 (runN_ok hK n).2 (runN_quiet n)⟩
end
end
end Go.Ax

namespace Go.Ax
open Go
variable {P : Program}

theorem info_lt {t : TypeId} (h : t < P.types.size) : P.info? t = P.types[t]? := by
  show Tables.info? P.toTables t = _
  unfold Tables.info?
  rw [if_pos h]

noncomputable def zeroChk (P : Program) : Bool := P.types.toList.all fun i => match i.zero with
  | none => true
  | some v => pureV 20 v

theorem zeroChk_ok (h : zeroChk P = true) : ZeroOk P := by
  intro t i v ht hi hv ρ
  rw [info_lt ht] at hi
  have hm : i ∈ P.types.toList := by
    have := Array.mem_of_getElem? hi
    simpa using this
  have := List.all_eq_true.1 h i hm
  rw [hv] at this
  exact pureV_vr ρ 20 this

noncomputable def fieldsChk (P : Program) : Bool := (List.range P.types.size).all fun t => match P.underlying t with
  | some (.struct fs) => fs.toList.all fun f => (size P f.type).isSome
  | _ => true

theorem fieldsChk_ok (h : fieldsChk P = true) : FieldsOk P := by
  intro t fs ht hu f hf
  have := List.all_eq_true.1 h t (List.mem_range.2 ht)
  rw [hu] at this
  exact Option.isSome_iff_exists.1 (List.all_eq_true.1 this f hf)

def outerD (d : TypeDesc) : Bool := match d with
  | .named _ _ => false
  | .int _ => false
  | _ => true

theorem none_ne_some {α : Type} {a : α} (h : (none : Option α) = some a) : False := by cases h

theorem reckonStruct_plain {info : TypeId → Option TypeInfo} {fs : Array Field} {i : TypeInfo} (h : Made.reckonStruct info fs = some i) : outerD i.desc = true := by
  unfold Made.reckonStruct at h
  simp only [Option.bind_eq_bind, Option.pure_def] at h
  obtain ⟨r, _, h⟩ := Option.bind_eq_some_iff.1 h
  revert h
  obtain ⟨a, b⟩ := r
  intro h
  simp only at h
  repeat' split at h
  all_goals (cases h; rfl)

theorem reckon_plain {info : TypeId → Option TypeInfo} {d : TypeDesc} {i : TypeInfo} (h : Made.reckon info d = some i) : outerD i.desc = true := by
  unfold Made.reckon at h
  cases d <;> try (exact (none_ne_some h).elim)
  case pointer e =>
    simp only [Option.bind_eq_bind, Option.pure_def] at h
    obtain ⟨j, _, h⟩ := Option.bind_eq_some_iff.1 h
    split at h
    · cases h
    · split at h
      · cases h
      · obtain ⟨s, _, h⟩ := Option.bind_eq_some_iff.1 h
        cases h; rfl
    · obtain ⟨s, _, h⟩ := Option.bind_eq_some_iff.1 h
      cases h; rfl
  case struct fs => exact reckonStruct_plain h
  all_goals
    simp only [Option.bind_eq_bind, Option.pure_def, Option.bind_eq_some_iff] at h
  case slice e => obtain ⟨_, _, _, _, h⟩ := h; cases h; rfl
  case map k e => obtain ⟨_, _, _, _, _, _, _, _, h⟩ := h; cases h; rfl
  case chan k e => obtain ⟨_, _, _, _, h⟩ := h; cases h; rfl
  case func a b c => obtain ⟨_, _, h⟩ := h; cases h; rfl
  case array n e => obtain ⟨_, _, _, _, h⟩ := h; cases h; rfl

theorem made_plain {t : TypeId} (ht : ¬ t < P.types.size) {i : TypeInfo} (h : P.info? t = some i) : outerD i.desc = true := by
  have h : Tables.info? P.toTables t = some i := h
  unfold Tables.info? at h
  rw [if_neg ht] at h
  unfold Made.infoAt at h
  split at h
  · cases h
  · rw [if_neg ht] at h
    obtain ⟨d, _, h⟩ := Option.bind_eq_some_iff.1 h
    exact reckon_plain h

noncomputable def byteChk (P : Program) : Bool := (List.range P.types.size).all fun t => match P.underlying t with
  | some (.int .u8) => (match size P t with
    | some 1 => true
    | _ => false)
  | _ => true

theorem byteChk_ok (h : byteChk P = true) : ∀ e, P.underlying e = some (.int .u8) → size P e = some 1 := by
  intro t hu
  by_cases ht : t < P.types.size
  · have := List.all_eq_true.1 h t (List.mem_range.2 ht)
    rw [hu] at this
    simp only at this
    split at this
    · assumption
    · cases this
  · exfalso
    unfold Program.underlying at hu
    cases hi : P.info? t with
    | none => rw [hi] at hu; cases hu
    | some i =>
      have := made_plain ht hi
      rw [hi] at hu
      split at hu
      · rename_i n u _ _ _ _ _ _ _ _ _ _ e
        cases e; cases this
      · rename_i e
        cases e
        simp only [Option.some.injEq] at hu
        rw [hu] at this; cases this
      · cases hu

def eqChk (P : Program) (t : TypeId) : Bool := !P.eqGuardType P.depth t && match P.underlying t with
  | some (.struct fs) => !P.stoodInHeld t && fs.toList.all fun f => !(f.name == "_")
  | _ => true

theorem eqChk_ok {C : Cfg} {l : List Nat} (hl : ∀ t, C.eqOk t = true → t ∈ l) (h : l.all (eqChk C.P) = true) : EqOk C where
  guard t ht := by
    have := List.all_eq_true.1 h t (hl t ht)
    simp only [eqChk, Bool.and_eq_true, Bool.not_eq_true'] at this
    exact this.1
  held t fs ht hu := by
    have := List.all_eq_true.1 h t (hl t ht)
    simp only [eqChk, hu, Bool.and_eq_true, Bool.not_eq_true', List.all_eq_true] at this
    exact ⟨this.2.1, fun f hf e => by have := this.2.2 f hf; simp [e] at this⟩

/-! bodies -/
noncomputable def bodyChk (l : List (Option Func)) : Bool := l.all fun q => match q with
  | some fn => (match fn.body with
    | some c => !(fn.name == "runtime.NumGoroutine") && okCode fn.ntmps c
    | none => true)
  | none => true

/-! functions of the library's without a body -/
theorem ext_int3 {ρ : Ren} {args cargs : List Value} (ha : VRs ρ args cargs) {s' : St} {v : Value} {f : Nat → Nat → Nat → Option (Value × St)} (h : nat3 args f = some (v, s')) :
    ∃ k1 k2 k3 x y c, cargs = [.int k1 (Int.ofNat x), .int k2 (Int.ofNat y), .int k3 (Int.ofNat c)] ∧ f x y c = some (v, s') := by
  unfold nat3 at h
  split at h
  · obtain ⟨x, hx, h⟩ := obind_some.1 h
    obtain ⟨y, hy, h⟩ := obind_some.1 h
    obtain ⟨c, hc, h⟩ := obind_some.1 h
    have key : ∀ {v c : Value} {n : Nat}, VR ρ v c → asNat v = some n → ∃ k, c = .int k (Int.ofNat n) := by
      intro v c n hv hn
      cases hv <;> try (exact (none_ne_some hn).elim)
      rename_i k i
      cases i with
      | ofNat m => cases hn; exact ⟨k, rfl⟩
      | negSucc m => cases hn
    cases ha with
    | cons h1 ha => cases ha with
      | cons h2 ha => cases ha with
        | cons h3 ha => cases ha with
          | nil =>
            obtain ⟨k1, rfl⟩ := key h1 hx
            obtain ⟨k2, rfl⟩ := key h2 hy
            obtain ⟨k3, rfl⟩ := key h3 hc
            exact ⟨k1, k2, k3, x, y, c, rfl, h⟩
  · cases h
end Go.Ax

namespace Go.Ax
open Go
variable {P : Program}

/-- that a function is one of the library's without a body, and which -/
def extChk (P : Program) (f : FuncId) : Bool :=
  match P.funcs[f]? with
  | some fn => !(fn.name == "runtime.NumGoroutine") && fn.body.isNone && (Extern.findNext fn).isNone
  | none => false

theorem run_ext {f : FuncId} (h : extChk P f = true) {e : Array Value → Sem Value} (he : (P.funcs[f]?).bind Extern.find = some e) (args : Array Value) (w : World) :
    (callFunc f args).run P w = ((e args).run P w).andThen fun v w' => .ok (.value v) w' := by
  unfold extChk at h
  cases hf : P.funcs[f]? with
  | none => rw [hf] at h; cases h
  | some fn =>
    rw [hf] at h he
    simp only [Bool.and_eq_true, Bool.not_eq_true'] at h
    have hn : Extern.findNext fn = none := by
      cases hx : Extern.findNext fn with
      | none => rfl
      | some y => rw [hx] at h; exact absurd h.2 (by intro q; cases q)
    exact run_callFunc_extern hf h.1.1 h.1.2 hn he args w

theorem run_three (k1 k2 k3 : IntKind) (x y c : Nat) (hc : c ≤ 1) (n : String) (w : World) :
    (Extern.MathBitsCarry.three n #[.int k1 (Int.ofNat x), .int k2 (Int.ofNat y), .int k3 (Int.ofNat c)]).run P w = .ok (x, y, c) w := by
  have : c = 0 ∨ c = 1 := by omega
  rcases this with rfl | rfl <;> rfl

theorem add64_sound {C : Cfg} {f : FuncId} (h : extChk P f = true) (he : (P.funcs[f]?).bind Extern.find = some add64Entry) : ExtSound C P f .add64 := by
  intro base ρ s s' w args cargs v hr ha hv
  obtain ⟨k1, k2, k3, x, y, c, rfl, hv⟩ := ext_int3 ha (show nat3 args (fun x y c => extAdd64 x y c s) = some (v, s') from hv)
  obtain ⟨hc, hv⟩ := guard_some.1 hv
  have hc : c ≤ 1 := Nat.le_of_ble_eq_true hc
  cases hv
  refine ⟨_, ρ, w, ?_, Goes.refl hr, .tuple (.cons (.int _ _) (.cons (.int _ _) .nil))⟩
  rw [run_ext h he]
  unfold add64Entry
  simp only [Sem.run_bind, run_three k1 k2 k3 x y c hc, Result.andThen_ok, Sem.run_pure]
  rfl

theorem sub64_sound {C : Cfg} {f : FuncId} (h : extChk P f = true) (he : (P.funcs[f]?).bind Extern.find = some Go.Proofs.sub64Entry) : ExtSound C P f .sub64 := by
  intro base ρ s s' w args cargs v hr ha hv
  obtain ⟨k1, k2, k3, x, y, c, rfl, hv⟩ := ext_int3 ha (show nat3 args (fun x y c => extSub64 x y c s) = some (v, s') from hv)
  obtain ⟨hc, hv⟩ := guard_some.1 hv
  have hc : c ≤ 1 := Nat.le_of_ble_eq_true hc
  cases hv
  refine ⟨_, ρ, w, ?_, Goes.refl hr, .tuple (.cons (.int _ _) (.cons (.int _ _) .nil))⟩
  rw [run_ext h he]
  unfold Go.Proofs.sub64Entry
  simp only [Sem.run_bind, run_three k1 k2 k3 x y c hc, Result.andThen_ok, Sem.run_pure]
  unfold Extern.MathBitsCarry.pair
  by_cases hx : x < y + c
  · have e : ltN x (Nat.add y c) = true := Nat.ble_eq_true_of_le hx
    rw [if_pos hx, e]; rfl
  · have e : ltN x (Nat.add y c) = false := by
      cases h : ltN x (Nat.add y c) with
      | false => rfl
      | true => exact absurd (Nat.le_of_ble_eq_true h) hx
    rw [if_neg hx, e]; rfl

theorem noEscape_sound {C : Cfg} {f : FuncId} (h : extChk P f = true) (he : (P.funcs[f]?).bind Extern.find = some Extern.AbiNoEscape.same) : ExtSound C P f .noEscape := by
  intro base ρ s s' w args cargs v hr ha hv
  unfold callExt at hv
  cases ha with
  | nil => cases hv
  | cons hx hn =>
    cases hn with
    | nil =>
      cases hv
      refine ⟨_, ρ, w, ?_, Goes.refl hr, hx⟩
      rw [run_ext h he]
      rfl
    | cons hy hn => cases hv
end Go.Ax

namespace Go.Ax
open Go Go.Extern
variable {P : Program} {C : Cfg}

/-- a type's handle, as the model has it -/
noncomputable def hdl (P : Program) (t : TypeId) : Value := .pointer (some ⟨P.globals.size, t, none⟩)

theorem findT_mem {β : Type} {l : List (Nat × β)} {n : Nat} {b : β} (h : findT l n = some b) : (n, b) ∈ l := by
  induction l with
  | nil => cases h
  | cons p l ih =>
    have h : sel (Nat.beq p.1 n) (some p.2) (findT l n) = some b := h
    cases hb : Nat.beq p.1 n with
    | true =>
      rw [hb] at h
      have e : p.1 = n := Nat.eq_of_beq_eq_true hb
      cases h
      subst e
      exact List.mem_cons_self
    | false => rw [hb] at h; exact List.mem_cons_of_mem _ (ih h)

theorem findTT_mem {l : List (Nat × Nat × Bool)} {t u : Nat} {b : Bool} (h : findTT l t u = some b) : (t, u, b) ∈ l := by
  induction l with
  | nil => cases h
  | cons p l ih =>
    have h : sel (Nat.beq p.1 t && Nat.beq p.2.1 u) (some p.2.2) (findTT l t u) = some b := h
    cases hb : (Nat.beq p.1 t && Nat.beq p.2.1 u) with
    | true =>
      rw [hb] at h
      simp only [Bool.and_eq_true] at hb
      have e1 : p.1 = t := Nat.eq_of_beq_eq_true hb.1
      have e2 : p.2.1 = u := Nat.eq_of_beq_eq_true hb.2
      cases h
      subst e1 e2
      exact List.mem_cons_self
    | false => rw [hb] at h; exact List.mem_cons_of_mem _ (ih h)

theorem handle_vr (ρ : Ren) (hG : P.globals.size < fixedTop) (t : TypeId) : VR ρ (handle P t) (hdl P t) := by
  have := VR.ptr (ρ := ρ) (b := P.globals.size) (o := t) (l := ⟨P.globals.size, 0, 0⟩) (Ren.at_low hG)
  simpa [handle, hdl] using this

theorem ofHandle_vr {ρ : Ren} (hG : P.globals.size < fixedTop) {h c : Value} (hv : VR ρ h c) {t : TypeId} (ht : ofHandle P h = some t) : c = hdl P t := by
  unfold ofHandle at ht
  split at ht
  · rename_i a
    obtain ⟨hb, ht⟩ := guard_some.1 ht
    cases ht
    have hb := Nat.eq_of_beq_eq_true hb
    cases hv with
    | @ptr b o l hl =>
      have hb : b = P.globals.size := hb
      subst hb
      rw [Ren.at_low hG] at hl
      cases hl
      simp [hdl]
  · cases ht

theorem rtypeOf_vr (ρ : Ren) (hC : C.P = P) (hG : P.globals.size < fixedTop) (t : TypeId) : VR ρ (rtypeOf C t) (.iface C.rtype (.agg #[hdl P t])) := by
  unfold rtypeOf
  rw [hC]
  exact .iface _ (.agg (.cons (handle_vr ρ hG t) .nil))

theorem rlTypeOf_sound {f : FuncId} {l : List (Nat × Unit)} (hC : C.P = P) (hG : P.globals.size < fixedTop) (h : extChk P f = true) (he : (P.funcs[f]?).bind Extern.find = some ReflectliteType.typeOf)
    (hf : ∀ q ∈ l, ∀ w, (ReflectliteType.toType q.1).run P w = .ok (.iface C.rtype (.agg #[hdl P q.1])) w) : ExtSound C P f (.rlTypeOf l) := by
  intro base ρ s s' w args cargs v hr ha hv
  have hv : extTypeOf C l s args = some (v, s') := hv
  unfold extTypeOf at hv
  split at hv
  · rename_i t x _
    obtain ⟨u, hu, hv⟩ := obind_some.1 hv
    cases hv
    cases ha with
    | cons h1 h2 => cases h2 with
      | nil => cases h1 with
        | @iface _ x x' hx =>
          refine ⟨_, ρ, w, ?_, Goes.refl hr, rtypeOf_vr ρ hC hG t⟩
          rw [run_ext h he]
          show ((ReflectliteType.toType t).run P w).andThen _ = _
          rw [hf _ (findT_mem hu)]
          rfl
  · cases hv

theorem rlElem_sound {f : FuncId} {l : List (Nat × Nat)} (hC : C.P = P) (hG : P.globals.size < fixedTop) (h : extChk P f = true) (he : (P.funcs[f]?).bind Extern.find = some (ReflectliteType.method ReflectliteType.elem))
    (hf : ∀ q ∈ l, ∀ w, (ReflectliteType.method ReflectliteType.elem #[.agg #[hdl P q.1]]).run P w = .ok (.iface C.rtype (.agg #[hdl P q.2])) w) : ExtSound C P f (.rlElem l) := by
  intro base ρ s s' w args cargs v hr ha hv
  have hv : extElem C l s args = some (v, s') := hv
  unfold extElem at hv
  split at hv
  · rename_i x
    obtain ⟨t, ht, hv⟩ := obind_some.1 hv
    obtain ⟨e, hu, hv⟩ := obind_some.1 hv
    cases hv
    rw [hC] at ht
    cases ha with
    | cons h1 h2 => cases h2 with
      | nil => cases h1 with
        | agg h1 => cases h1 with
          | cons h1 h2 => cases h2 with
            | nil =>
              rw [ofHandle_vr hG h1 ht]
              refine ⟨_, ρ, w, ?_, Goes.refl hr, rtypeOf_vr ρ hC hG e⟩
              rw [run_ext h he, hf _ (findT_mem hu)]
              rfl
  · cases hv

theorem twoTypes_some {args cargs : List Value} {ρ : Ren} {k : TypeId → TypeId → Option (Value × St)} {r : Value × St} (hC : C.P = P) (hG : P.globals.size < fixedTop) (ha : VRs ρ args cargs) (hv : twoTypes C args k = some r) :
    ∃ t u, cargs = [.agg #[hdl P t], .iface C.rtype (.agg #[hdl P u])] ∧ k t u = some r := by
  unfold twoTypes at hv
  split at hv
  · rename_i x rt y
    obtain ⟨hr, hv2⟩ := guard_some.1 hv
    obtain ⟨t, ht, hv3⟩ := obind_some.1 hv2
    obtain ⟨u, hu, hv4⟩ := obind_some.1 hv3
    clear hv hv2 hv3
    have hr := Nat.eq_of_beq_eq_true hr
    subst hr
    rw [hC] at ht hu
    cases ha with
    | cons h1 h2 => cases h2 with
      | cons h2 h3 => cases h3 with
        | nil => cases h1 with
          | agg h1 => cases h1 with
            | cons h1 h4 => cases h4 with
              | nil => cases h2 with
                | iface _ h2 => cases h2 with
                  | agg h2 => cases h2 with
                    | cons h2 h5 => cases h5 with
                      | nil =>
                        rw [ofHandle_vr hG h1 ht, ofHandle_vr hG h2 hu]
                        exact ⟨t, u, rfl, hv4⟩
  · cases hv

theorem extTwo_run {f : FuncId} {l : List (Nat × Nat × Bool)} (hC : C.P = P) (hG : P.globals.size < fixedTop) (h : extChk P f = true) {e : Array Value → Sem Value} (he : (P.funcs[f]?).bind Extern.find = some e)
    (hf : ∀ q ∈ l, ∀ w, (e #[.agg #[hdl P q.1], .iface C.rtype (.agg #[hdl P q.2.1])]).run P w = .ok (.bool q.2.2) w)
    {base : Nat} {ρ : Ren} {s s' : St} {w : World} {args cargs : List Value} {v : Value} (hr : HR P base ρ s w) (ha : VRs ρ args cargs) (hv : extTwo C l s args = some (v, s')) :
    ∃ c ρ' w', (callFunc f ⟨cargs⟩).run P w = .ok (.value c) w' ∧ Goes P base ρ s w ρ' s' w' ∧ VR ρ' v c := by
  obtain ⟨t, u, rfl, hv⟩ := twoTypes_some hC hG ha hv
  obtain ⟨q, hq, hv⟩ := obind_some.1 hv
  cases hv
  refine ⟨_, ρ, w, ?_, Goes.refl hr, .bool _⟩
  rw [run_ext h he]
  have := hf _ (findTT_mem hq) w
  rw [show (⟨[.agg #[hdl P t], .iface C.rtype (.agg #[hdl P u])]⟩ : Array Value) = #[.agg #[hdl P t], .iface C.rtype (.agg #[hdl P u])] from rfl, this]
  rfl

theorem rlImplements_sound {f : FuncId} {l : List (Nat × Nat × Bool)} (hC : C.P = P) (hG : P.globals.size < fixedTop) (h : extChk P f = true) {e : Array Value → Sem Value} (he : (P.funcs[f]?).bind Extern.find = some e)
    (hf : ∀ q ∈ l, ∀ w, (e #[.agg #[hdl P q.1], .iface C.rtype (.agg #[hdl P q.2.1])]).run P w = .ok (.bool q.2.2) w) : ExtSound C P f (.rlImplements l) :=
  fun _ _ _ _ _ _ _ _ hr ha hv => extTwo_run hC hG h he hf hr ha hv
theorem rlAssignable_sound {f : FuncId} {l : List (Nat × Nat × Bool)} (hC : C.P = P) (hG : P.globals.size < fixedTop) (h : extChk P f = true) {e : Array Value → Sem Value} (he : (P.funcs[f]?).bind Extern.find = some e)
    (hf : ∀ q ∈ l, ∀ w, (e #[.agg #[hdl P q.1], .iface C.rtype (.agg #[hdl P q.2.1])]).run P w = .ok (.bool q.2.2) w) : ExtSound C P f (.rlAssignable l) :=
  fun _ _ _ _ _ _ _ _ hr ha hv => extTwo_run hC hG h he hf hr ha hv

theorem rlTKind_sound {f : FuncId} {l : List (Nat × Nat)} (hC : C.P = P) (hG : P.globals.size < fixedTop) (h : extChk P f = true) {e : Array Value → Sem Value} (he : (P.funcs[f]?).bind Extern.find = some e)
    (hf : ∀ q ∈ l, ∀ w, (e #[hdl P q.1]).run P w = .ok (.int .u8 (Int.ofNat q.2)) w) : ExtSound C P f (.rlTKind l) := by
  intro base ρ s s' w args cargs v hr ha hv
  have hv : extTKind C l s args = some (v, s') := hv
  unfold extTKind at hv
  split at hv
  · rename_i x
    obtain ⟨t, ht, hv⟩ := obind_some.1 hv
    obtain ⟨k, hu, hv⟩ := obind_some.1 hv
    cases hv
    rw [hC] at ht
    cases ha with
    | cons h1 h2 => cases h2 with
      | nil =>
        rw [ofHandle_vr hG h1 ht]
        refine ⟨_, ρ, w, ?_, Goes.refl hr, .int _ _⟩
        have := hf _ (findT_mem hu) w
        rw [run_ext h he, show (⟨[hdl P t]⟩ : Array Value) = #[hdl P t] from rfl, this]
        rfl
  · cases hv

/-- a Value of the library's -/
noncomputable def valV (P : Program) (t : TypeId) (a : Addr) (f : Nat) : Value := .agg #[hdl P t, .pointer (some a), .int .u64 (Int.ofNat f)]

theorem valueK_some {ρ : Ren} {x c : Value} {k : TypeId → Addr → Nat → Option (Value × St)} {r : Value × St} (hC : C.P = P) (hG : P.globals.size < fixedTop) (hx : VR ρ x c) (hv : valueK C x k = some r) :
    ∃ t b o f L, ρ.at b = some L ∧ c = valV P t ⟨L.blk, L.off + o, none⟩ f ∧ k t ⟨b, o, none⟩ f = some r := by
  unfold valueK at hv
  split at hv
  · rename_i y a i
    obtain ⟨t, ht, hv⟩ := obind_some.1 hv
    rw [hC] at ht
    cases hx with
    | agg h1 => cases h1 with
      | cons h1 h2 => cases h2 with
        | cons h2 h3 => cases h3 with
          | cons h3 h4 => cases h4 with
            | nil => cases h3 with
              | int _ _ => cases h2 with
                | @ptr b o L hL =>
                  cases i with
                  | ofNat f =>
                    rw [ofHandle_vr hG h1 ht]
                    exact ⟨t, b, o, f, L, hL, rfl, hv⟩
                  | negSucc f => cases hv
  · cases hv

theorem rlVType_sound {f : FuncId} {l : List (Nat × Nat)} (hC : C.P = P) (hG : P.globals.size < fixedTop) (h : extChk P f = true) {e : Array Value → Sem Value} (he : (P.funcs[f]?).bind Extern.find = some e)
    (hf : ∀ q ∈ l, ∀ a w, (e #[valV P q.1 a q.2]).run P w = .ok (.iface C.rtype (.agg #[hdl P q.1])) w) : ExtSound C P f (.rlVType l) := by
  intro base ρ s s' w args cargs v hr ha hv
  have hv : extVType C l s args = some (v, s') := hv
  unfold extVType at hv
  split at hv
  · cases ha with
    | cons h1 h2 => cases h2 with
      | nil =>
        obtain ⟨t, b, o, g, L, hL, rfl, hv⟩ := valueK_some hC hG h1 hv
        obtain ⟨q, hq, hv2⟩ := obind_some.1 hv
        obtain ⟨hb, hv3⟩ := guard_some.1 hv2
        clear hv hv2
        have hb := Nat.eq_of_beq_eq_true hb
        subst hb
        cases hv3
        refine ⟨_, ρ, w, ?_, Goes.refl hr, rtypeOf_vr ρ hC hG t⟩
        have := hf _ (findT_mem hq) ⟨L.blk, L.off + o, none⟩ w
        rw [run_ext h he, show (⟨[valV P t ⟨L.blk, L.off + o, none⟩ q]⟩ : Array Value) = #[valV P t ⟨L.blk, L.off + o, none⟩ q] from rfl, this]
        rfl
  · cases hv

theorem rlValueOf_sound {f : FuncId} {l : List (Nat × Nat)} (hC : C.P = P) (hG : P.globals.size < fixedTop) (h : extChk P f = true) (he : (P.funcs[f]?).bind Extern.find = some (fun args => ReflectliteValue.unpack (args.getD 0 (.tuple #[]))))
    (hf : ∀ q ∈ l, ∀ a w, (ReflectliteValue.mk q.1 a 0).run P w = .ok (valV P q.1 a q.2) w) : ExtSound C P f (.rlValueOf l) := by
  intro base ρ s s' w args cargs v hr ha hv
  have hv : extValueOf C l s args = some (v, s') := hv
  unfold extValueOf at hv
  split at hv
  · rename_i t x _
    obtain ⟨g, hu, hv⟩ := obind_some.1 hv
    cases hv
    cases ha with
    | cons h1 h2 => cases h2 with
      | nil => cases h1 with
        | @iface _ x x' hx =>
          have hg := Goes.newRow (e := t) hr (a := x'.cells) (cellsOf_vr hx)
          refine ⟨valV P t ⟨w.heap.size, 0, none⟩ g, _, w.alloc (.cells x'.cells t), ?_, hg, ?_⟩
          · rw [run_ext h he]
            have e1 : (ReflectliteValue.unpack (.iface t x')).run P w = .ok (valV P t ⟨w.heap.size, 0, none⟩ g) (w.alloc (.cells x'.cells t)) := by
              simp only [ReflectliteValue.unpack, newVar, newRow]
              simp [hf _ (findT_mem hu)]
            show ((ReflectliteValue.unpack (.iface t x')).run P w).andThen _ = _
            rw [e1]
            rfl
          · rw [hC]
            exact .agg (.cons (handle_vr _ hG t) (.cons (VR.newPtr hr ⟨w.heap.size, 0, 0⟩ rfl) (.cons (.int _ _) .nil)))
  · cases hv

theorem run_method (z : Sem Value) (f : TypeId → Addr → Nat → Nat → Sem Value) {v : Value} {t : TypeId} {a : Addr} {n : Nat} {w : World} (hp : (ReflectliteValue.parts v).run P w = .ok (some (t, a, n)) w) :
    (ReflectliteValue.method z f #[v]).run P w = (f t a n (n % 32)).run P w := by
  show Sem.run P (do match ← ReflectliteValue.parts v with | none => z | some (t, a, fl) => f t a fl (fl % 32)) w = _
  simp only [Sem.run_bind, hp, Result.andThen_ok]

theorem rlIsNil_sound {f : FuncId} {l : List (Nat × Nat)} (hC : C.P = P) (hG : P.globals.size < fixedTop) (h : extChk P f = true) (he : (P.funcs[f]?).bind Extern.find = some (ReflectliteValue.method (ReflectliteValue.valueError "reflectlite.Value.IsNil" 0) ReflectliteValue.isNil))
    (hp : ∀ q ∈ l, ∀ a w, (ReflectliteValue.parts (valV P q.1 a q.2)).run P w = .ok (some (q.1, a, q.2)) w) (hk : ∀ q ∈ l, q.2 % 32 = 22) : ExtSound C P f (.rlIsNil l) := by
  intro base ρ s s' w args cargs v hr ha hv
  have hv : extIsNil C l s args = some (v, s') := hv
  unfold extIsNil at hv
  split at hv
  · cases ha with
    | cons h1 h2 => cases h2 with
      | nil =>
        obtain ⟨t, b, o, g, L, hL, rfl, hv⟩ := valueK_some hC hG h1 hv
        obtain ⟨q, hq, hv2⟩ := obind_some.1 hv
        obtain ⟨hb, hv3⟩ := guard_some.1 hv2
        obtain ⟨x, hx, hv4⟩ := obind_some.1 hv3
        obtain ⟨y, hy, hv5⟩ := obind_some.1 hv4
        clear hv hv2 hv3 hv4
        have hb := Nat.eq_of_beq_eq_true hb
        subst hb
        cases hv5
        rw [hC] at hx
        obtain ⟨c, hc, hvc⟩ := load_sound hr hL hx
        refine ⟨.bool y, ρ, w, ?_, Goes.refl hr, .bool _⟩
        have hp' := hp _ (findT_mem hq) ⟨L.blk, L.off + o, none⟩ w
        have hk' := hk _ (findT_mem hq)
        have hk' : q % 32 = 22 := hk'
        rw [run_ext h he, show (⟨[valV P t ⟨L.blk, L.off + o, none⟩ q]⟩ : Array Value) = #[valV P t ⟨L.blk, L.off + o, none⟩ q] from rfl, run_method _ _ hp', hk']
        have hn : (ReflectliteValue.isNil t ⟨L.blk, L.off + o, none⟩ q 22).run P w = .ok (.bool y) w := by
          unfold isNilV at hy
          split at hy
          · cases hvc; cases hy
            simp [ReflectliteValue.isNil, hc]
          · cases hvc; cases hy
            simp [ReflectliteValue.isNil, hc]
          · cases hy
        rw [hn]
        rfl
  · cases hv

theorem rlVElem_sound {f : FuncId} {l : List (Nat × Nat × Nat × Nat)} (hC : C.P = P) (hG : P.globals.size < fixedTop) (h : extChk P f = true) (he : (P.funcs[f]?).bind Extern.find = some (ReflectliteValue.method (ReflectliteValue.valueError "reflectlite.Value.Elem" 0) ReflectliteValue.elem))
    (hp : ∀ q ∈ l, ∀ a w, (ReflectliteValue.parts (valV P q.1 a q.2.1)).run P w = .ok (some (q.1, a, q.2.1)) w) (hk : ∀ q ∈ l, q.2.1 % 32 = 22)
    (hel : ∀ q ∈ l, ∀ w, (Rtype.elem? q.1).run P w = .ok (some q.2.2.1) w) (hm : ∀ q ∈ l, ∀ a w, (ReflectliteValue.mk q.2.2.1 a ReflectliteValue.flagAddr).run P w = .ok (valV P q.2.2.1 a q.2.2.2) w) : ExtSound C P f (.rlVElem l) := by
  intro base ρ s s' w args cargs v hr ha hv
  have hv : extVElem C l s args = some (v, s') := hv
  unfold extVElem at hv
  split at hv
  · cases ha with
    | cons h1 h2 => cases h2 with
      | nil =>
        obtain ⟨t, b, o, g, L, hL, rfl, hv⟩ := valueK_some hC hG h1 hv
        obtain ⟨q, hq, hv2⟩ := obind_some.1 hv
        obtain ⟨hb, hv3⟩ := guard_some.1 hv2
        obtain ⟨x, hx, hv4⟩ := obind_some.1 hv3
        clear hv hv2 hv3
        have hb := Nat.eq_of_beq_eq_true hb
        rw [hC] at hx
        obtain ⟨c, hc, hvc⟩ := load_sound hr hL hx
        obtain ⟨g', e, g2⟩ := q
        have hb : g' = g := hb
        subst hb
        have hm' := findT_mem hq
        have hp' := hp _ hm' ⟨L.blk, L.off + o, none⟩ w
        have hk' : g' % 32 = 22 := hk _ hm'
        have he' := hel _ hm' w
        dsimp only at hp' he'
        split at hv4
        · rename_i p
          cases hv4
          cases hvc with
          | @ptr pb po pl hpl =>
            refine ⟨valV P e ⟨pl.blk, pl.off + po, none⟩ g2, ρ, w, ?_, Goes.refl hr, ?_⟩
            · rw [run_ext h he, show (⟨[valV P t ⟨L.blk, L.off + o, none⟩ g']⟩ : Array Value) = #[valV P t ⟨L.blk, L.off + o, none⟩ g'] from rfl, run_method _ _ hp', hk']
              have hn : (ReflectliteValue.elem t ⟨L.blk, L.off + o, none⟩ g' 22).run P w = .ok (valV P e ⟨pl.blk, pl.off + po, none⟩ g2) w := by
                have hm2 := hm _ hm' ⟨pl.blk, pl.off + po, none⟩ w
                dsimp only at hm2
                simp [ReflectliteValue.elem, hc, he', hm2]
              rw [hn]
              rfl
            · rw [hC]
              exact .agg (.cons (handle_vr _ hG e) (.cons (.ptr hpl) (.cons (.int _ _) .nil)))
        · cases hv4
  · cases hv

theorem rls (v x : Value) : ReflectliteValue.set #[v, x] = (do
    let (some (dst, a, fl), some (src, b, _)) := (← ReflectliteValue.parts v, ← ReflectliteValue.parts x)
      | unsupported (.noEntry "extern/(internal/reflectlite.Value).Set.zeroValue")
    if fl / ReflectliteValue.flagAddr % 2 == 0 then unsupported (.noEntry "extern/(internal/reflectlite.Value).Set.unaddressable")
    let val ← loadVar src b
    if ← Rtype.directlyAssignable dst src then storeVar dst a val
    else if ← Rtype.implements dst src then
      if (← Rtype.kind src) == 20 then
        match val with
        | .nilIface => unsupported (.noEntry "extern/reflectlite: a nil value of one interface type handed on as a value of another")
        | _ => storeVar dst a val
      else storeVar dst a (.iface src val)
    else panicString ("reflectlite.Set: value of type " ++ (← Rtype.spelt src) ++ " is not assignable to type " ++ (← Rtype.spelt dst))
    pure (.tuple #[])) := rfl

theorem run_set (v x : Value) {t : TypeId} {a b : Addr} {f g : Nat} {w : World} (hp : (ReflectliteValue.parts v).run P w = .ok (some (t, a, f)) w) (hq : (ReflectliteValue.parts x).run P w = .ok (some (t, b, g)) w)
    (hf : f / ReflectliteValue.flagAddr % 2 = 1) (hd : ∀ w, (Rtype.directlyAssignable t t).run P w = .ok true w) {c : Value} (hc : (loadVar t b).run P w = .ok c w) {w' : World} (hs : (storeVar t a c).run P w = .ok () w') :
    (ReflectliteValue.set #[v, x]).run P w = .ok (.tuple #[]) w' := by
  rw [rls]
  simp only [Sem.run_bind, hp, hq, Result.andThen_ok]
  have hf' : (f / ReflectliteValue.flagAddr % 2 == 0) = false := by rw [hf]; rfl
  simp [hf', hc, hd w, hs]

theorem rlSet_sound {f : FuncId} {l : List (Nat × Nat × Nat)} (hC : C.P = P) (hG : P.globals.size < fixedTop) (h : extChk P f = true) (he : (P.funcs[f]?).bind Extern.find = some ReflectliteValue.set)
    (hp : ∀ q ∈ l, ∀ a w, (ReflectliteValue.parts (valV P q.1 a q.2.1)).run P w = .ok (some (q.1, a, q.2.1)) w ∧ (ReflectliteValue.parts (valV P q.1 a q.2.2)).run P w = .ok (some (q.1, a, q.2.2)) w)
    (hk : ∀ q ∈ l, q.2.1 / ReflectliteValue.flagAddr % 2 = 1) (hd : ∀ q ∈ l, ∀ w, (Rtype.directlyAssignable q.1 q.1).run P w = .ok true w) : ExtSound C P f (.rlSet l) := by
  intro base ρ s s' w args cargs v hr ha hv
  have hv : extSet C l s args = some (v, s') := hv
  unfold extSet at hv
  split at hv
  · cases ha with
    | cons h1 h2 => cases h2 with
      | cons h2 h3 => cases h3 with
        | nil =>
          obtain ⟨t, b, o, g, L, hL, rfl, hv⟩ := valueK_some hC hG h1 hv
          obtain ⟨t2, b2, o2, g2, L2, hL2, rfl, hv⟩ := valueK_some hC hG h2 hv
          obtain ⟨q, hq, hv2⟩ := obind_some.1 hv
          obtain ⟨hb, hv3⟩ := guard_some.1 hv2
          obtain ⟨x, hx, hv4⟩ := obind_some.1 hv3
          obtain ⟨s2, hs2, hv5⟩ := obind_some.1 hv4
          clear hv hv2 hv3 hv4
          simp only [Bool.and_eq_true] at hb
          obtain ⟨⟨e1, e2⟩, e3⟩ := hb
          have e1 := Nat.eq_of_beq_eq_true e1
          have e2 := Nat.eq_of_beq_eq_true e2
          have e3 := Nat.eq_of_beq_eq_true e3
          subst e1
          cases hv5
          rw [hC] at hx hs2
          obtain ⟨g', g2'⟩ := q
          have e2 : g' = g := e2
          have e3 : g2' = g2 := e3
          subst e2 e3
          obtain ⟨c, hc, hvc⟩ := load_sound hr hL2 hx
          obtain ⟨w', hw, hgo⟩ := store_sound hr hL hs2 hvc
          have hm := findT_mem hq
          refine ⟨.tuple #[], ρ, w', ?_, hgo, .tuple .nil⟩
          have := run_set (valV P t ⟨L.blk, L.off + o, none⟩ g') (valV P t ⟨L2.blk, L2.off + o2, none⟩ g2') (hp _ hm _ w).1 (hp _ hm _ w).2 (hk _ hm) (hd _ hm) hc hw
          rw [run_ext h he, show (⟨[valV P t ⟨L.blk, L.off + o, none⟩ g', valV P t ⟨L2.blk, L2.off + o2, none⟩ g2']⟩ : Array Value) = #[valV P t ⟨L.blk, L.off + o, none⟩ g', valV P t ⟨L2.blk, L2.off + o2, none⟩ g2'] from rfl, this]
          rfl
  · cases hv
end Go.Ax

namespace Go.Ax
open Go Go.Extern
variable {P : Program} {base : Nat} {ρ : Ren} {s s' : St} {w w' : World}

/-- What was known of a slice of a family, forgotten. -/
theorem Goes.forget (h : HR P base ρ s w) {b : Nat} {cs : List Value} {e : TypeId} {f : Nat} (hc : s.cells b = some (cs, e, f)) (hf : f ≠ 0) :
    Goes P base ρ s w ρ { heap := s.heap.set b (.row [] e f), fams := s.fams, next := s.next } w := by
  obtain ⟨hg, hlive⟩ := cells_some.1 hc
  have hget : ∀ i, i ≠ b → (s.heap.set b (.row [] e f)).get i = s.heap.get i := fun i hi => Hp.get_set_other _ _ hi
  have htag : ∀ i, St.tag { heap := s.heap.set b (.row [] e f), fams := s.fams, next := s.next } i = s.tag i := by
    intro i
    by_cases hi : i = b
    · subst hi
      unfold St.tag
      simp only [Hp.get_set_same, hg]
    · unfold St.tag
      simp only [hget i hi]
  have hown : ∀ x, Owned ρ { heap := s.heap.set b (.row [] e f), fams := s.fams, next := s.next } x → Owned ρ s x := by
    rintro x ⟨i, l, a, h1, h2, h3, h4⟩
    exact ⟨i, l, a, h1, by rw [← htag i]; exact h2, h3, h4⟩
  refine ⟨Ren.le_refl ρ, ?_, rfl, rfl, rfl, Nat.le_refl _, Nat.le_refl _, fun _ _ _ => rfl, fun x hx => .inl (hown x hx), fun _ _ => rfl⟩
  refine ⟨h.dom, h.next, h.base_le, fun i hi ht => h.low i hi (by rw [← htag i]; exact ht), fun i r hi => ?_, fun i cs' e' f' hi => ?_, fun i cs' e' f' hi => ?_, fun i es c hi => ?_, fun i r hi => ?_, fun i j a c l l' hi hj => ?_⟩
  · by_cases e0 : i = b
    · subst e0; exact h.heap_dom _ _ hg
    · exact h.heap_dom i r (by rw [← hget i e0]; exact hi)
  · by_cases e0 : i = b
    · subst e0
      have hi : (s.heap.set i (.row [] e f)).get i = some (.row cs' e' f') := hi
      rw [Hp.get_set_same] at hi
      cases hi
      exact h.fam_dom _ _ _ _ hg
    · exact h.fam_dom i cs' e' f' (by rw [← hget i e0]; exact hi)
  · by_cases e0 : i = b
    · subst e0
      obtain ⟨h1, h2⟩ := cells_some.1 hi
      have h1 : (s.heap.set i (.row [] e f)).get i = some (.row cs' e' f') := h1
      rw [Hp.get_set_same] at h1
      cases h1
      obtain ⟨l, hq⟩ := h.rows i cs e f hc
      obtain ⟨hat, a, fz, ha, hv, hz, h0, h4⟩ := hq
      refine ⟨l, hat, a, fz, ha, fun j x hj => by simp at hj, hz, fun h => absurd h hf, fun h => ?_⟩
      obtain ⟨n, n1, n2, n3, n4⟩ := h4 h
      exact ⟨n, n1, n2, n3, by simp⟩
    · refine h.rows i cs' e' f' ?_
      obtain ⟨h1, h2⟩ := cells_some.1 hi
      exact cells_some.2 ⟨by rw [← hget i e0]; exact h1, h2⟩
  · have e0 : i ≠ b := by
      rintro rfl
      have hi : (s.heap.set i (.row [] e f)).get i = some (.map es c) := hi
      rw [Hp.get_set_same] at hi
      cases hi
    exact h.maps i es c (by rw [← hget i e0]; exact hi)
  · have e0 : i ≠ b := by
      rintro rfl
      have hi : (s.heap.set i (.row [] e f)).get i = some (.loop r) := hi
      rw [Hp.get_set_same] at hi
      cases hi
    exact h.loops i r (by rw [← hget i e0]; exact hi)
  · rw [htag i] at hi
    rw [htag j] at hj
    exact h.sep i j a c l l' hi hj

/-- Cells copied from one row to another, or within one. -/
theorem run_copy_cells {t e : TypeId} {sz : Nat} (hu : P.underlying t = some (.slice e)) (hsz : size P e = some sz) (ty : TypeId) {g off dLen dCap sb so sLen sCap m : Nat} (hm : Nat.min sLen dLen = m) {cur : Array Value} {ty0 : TypeId} {fz : Nat × Nat}
    (hg : w.heap[g]? = some (.cells cur ty0 fz)) (hfz : ∀ k, k < cur.size → ¬ (fz.1 ≤ k ∧ k < fz.2)) {cl : List Value} (hcl : cl.length = m * sz) (hsrc : ∀ (j : Nat) (v : Value), cl[j]? = some v → w.cell? ⟨sb, so + j, none⟩ = some v)
    (hfit : off + cl.length ≤ cur.size) (h1 : ∀ v ∈ cl, v.oneCell' = true) :
    (Builtin.copy_ #[t, t] ty #[.slice (some ⟨g, off, none⟩) dLen dCap, .slice (some ⟨sb, so, none⟩) sLen sCap]).run P w = .ok (goInt m) (w.setRow g (cur.toList.take off ++ cl ++ cur.toList.drop (off + cl.length)).toArray) := by
  have hl := run_loadCells_list (P := P) w ⟨sb, so, none⟩ cl (fun j v hj => by rw [add_eq]; exact hsrc j v hj)
  rw [hcl] at hl
  have hst := run_storeCells_gen P g off ty0 fz cl 0 cur w hg (by simpa using hfit) hfz h1
  simp only [Nat.add_zero] at hst
  simp [Builtin.copy_, run_underlying hu, Builtin.lenOf, run_sizeOf hsz, hm, Builtin.firstCells, hl, hst]

/-- append(s, make(S, m)...) where there is no room. -/
theorem run_append_zeros {t it e : TypeId} {i : TypeInfo} {z : Value} (hu : P.underlying t = some (.slice e)) (hi : P.info? e = some i) (hz : i.zero = some z) (_hzs : z.cells.size = i.size) (h0 : 1 ≤ i.size) (hint : P.underlying it = some (.int .i64)) (ty : TypeId)
    {b : Addr} {sLen sCap m : Nat} {old : List Value} (hold : (Go.loadCells b (sLen * i.size)).run P w.drew = .ok ⟨old⟩ w.drew) (hm0 : 1 ≤ m) (hfit : sCap < sLen + m) (h63 : sLen + m ≤ 281474976710656) (hmb : m * i.bytes ≤ 281474976710656)
    (h48 : Builtin.nextslicecap (sLen + m) sCap * i.bytes ≤ 281474976710656) :
    (Builtin.append_ #[t, it] ty #[.slice (some b) sLen sCap, .int .i64 (m : Int)]).run P w =
      .ok (.slice (some ⟨w.heap.size, 0, none⟩) (sLen + m) (grownCap w (sLen + m) sCap e))
        (w.drew.alloc (.cells ((⟨old⟩ : Array Value) ++ Builtin.zeroCells z.cells m ++ Builtin.zeroCells z.cells (grownCap w (sLen + m) sCap e - (sLen + m))) e)) := by
  have hn : ¬ (sLen + m ≤ sCap) := by omega
  have h63' : ¬ (9223372036854775807 < ((sLen : Int) + (m : Int))) := by omega
  have h48' : ¬ (281474976710656 < Builtin.nextslicecap (sLen + m) sCap * i.bytes) := by omega
  have hw : IntKind.i64.wrap (m : Int) = m := by rw [IntKind.wrap_i64]; omega
  have hmb' : ¬ (281474976710656 < (m : Int) * (i.bytes : Int)) := by
    have : ((m * i.bytes : Nat) : Int) ≤ 281474976710656 := by omega
    rw [Int.natCast_mul] at this
    omega
  have hneg : ¬ ((m : Int) < 0) := by omega
  have hz0 : ¬ (m * i.size = 0) := by
    have := Nat.mul_pos hm0 h0
    omega
  have hai : (asInt (.int .i64 (m : Int))).run P w = .ok (m : Int) w := rfl
  simp [hai, Builtin.append_, run_underlying hu, run_underlying hint, sizeOf, typeInfo, zeroValue, hi, hz, hw, hneg, hmb', hn, h63', h48', hz0, Question.forced, Builtin.firstCells, hold, newRow, grownCap]

theorem ovl (params results : Array TypeId) (a b : Addr) (la ca lb cb : Nat) : SlicesOverlaps.overlaps params results #[.slice (some a) la ca, .slice (some b) lb cb] = (do
    let some t := params[0]? | stuck "slices.overlaps: no parameter types"
    let .slice elem ← underlying t | stuck "slices.overlaps: slice type expected"
    let size ← sizeOf elem
    if la = 0 ∨ lb = 0 ∨ size = 0 then pure (.bool false)
    else if a.block != b.block && (← frozen a) && (← frozen b) then unsupported .addressObserved
    else do
      if a.block != b.block then do
        noView a; noView b
        if ← mayBeOne a b then return .bool ((← choose (.extern "sameAddr.stringBytes" 2)) == 1)
      pure (.bool (a.block == b.block && a.off < b.off + lb * size && b.off < a.off + la * size))) := rfl

/-- slices.overlaps of an array that nobody else has. -/
theorem run_overlaps {params results : Array TypeId} {t e : TypeId} {sz : Nat} (h0 : params[0]? = some t) (hu : P.underlying t = some (.slice e)) (hsz : size P e = some sz) (h1 : 1 ≤ sz) {va vo la ca gb go lb cb : Nat} (hla : la ≠ 0) (hlb : lb ≠ 0) (hne : va ≠ gb)
    {A : Array Value} {tA : TypeId} {fA : Nat × Nat} (hA : w.heap[va]? = some (.cells A tA fA)) (hv : ¬ (fA.1 ≤ vo ∧ vo < fA.2)) (hend : ¬ (fA.1 ≤ A.size ∧ A.size < fA.2)) {B : Array Value} {tB : TypeId} {fB : Nat × Nat} (hB : w.heap[gb]? = some (.cells B tB fB)) (hBs : B.size ≠ 0) :
    (SlicesOverlaps.overlaps params results #[.slice (some ⟨va, vo, none⟩) la ca, .slice (some ⟨gb, go, none⟩) lb cb]).run P w = .ok (.bool false) w := by
  have hz : sz ≠ 0 := by omega
  have f1 : w.frozen? ⟨va, vo, none⟩ = false := by
    simp only [World.frozen?, hA]
    by_cases h : fA.1 ≤ vo
    · have : ¬ vo < fA.2 := fun h' => hv ⟨h, h'⟩
      simp [this]
    · simp [h]
  have f2 : w.frozen? ⟨va, A.size, none⟩ = false := by
    simp only [World.frozen?, hA]
    by_cases h : fA.1 ≤ A.size
    · have : ¬ A.size < fA.2 := fun h' => hend ⟨h, h'⟩
      simp [this]
    · simp [h]
  have s1 : w.shape? va = some (tA, A.size) := by simp [World.shape?, hA]
  obtain ⟨k, hk⟩ : ∃ k, B.size = k + 1 := ⟨B.size - 1, by omega⟩
  have s2 : w.shape? gb = some (tB, k + 1) := by simp [World.shape?, hB, hk]
  rw [ovl]
  simp [h0, run_underlying hu, run_sizeOf hsz, hla, hlb, hz, hne, f1, noView, viewAt, s1, s2, mayBeOne, stringish, f2]
end Go.Ax

namespace Go.Ax
open Go Go.Extern Go.RowKit
variable {P : Program} {base : Nat} {ρ : Ren} {s s' : St} {w w' : World}

/-- cells written over a row from o on -/
def spl (A : Array Value) (o : Nat) (l : List Value) : Array Value := (A.toList.take o ++ l ++ A.toList.drop (o + l.length)).toArray
theorem spl_size {A : Array Value} {o : Nat} {l : List Value} (h : o + l.length ≤ A.size) : (spl A o l).size = A.size := by simp [spl]; omega
theorem spl_lt {A : Array Value} {o j : Nat} {l : List Value} (h : o ≤ A.size) (hj : j < o) : (spl A o l)[j]? = A[j]? := by
  simp only [spl, List.getElem?_toArray]
  rw [List.append_assoc, List.getElem?_append_left (by simp; omega), List.getElem?_take, if_pos hj]
  simp
theorem spl_mid {A : Array Value} {o k : Nat} {l : List Value} (h : o + l.length ≤ A.size) (hk : k < l.length) : (spl A o l)[o + k]? = l[k]? := by
  simp only [spl, List.getElem?_toArray]
  rw [List.append_assoc, List.getElem?_append_right (by simp; omega), List.getElem?_append_left (by simp; omega)]
  congr 1
  simp; omega
theorem spl_ge {A : Array Value} {o j : Nat} {l : List Value} (h : o + l.length ≤ A.size) (hj : o + l.length ≤ j) : (spl A o l)[j]? = A[j]? := by
  simp only [spl, List.getElem?_toArray]
  rw [List.getElem?_append_right (by simp; omega), List.getElem?_drop]
  have : o + l.length + (j - (List.take o A.toList ++ l).length) = j := by simp; omega
  rw [this]
  simp

/-- What lies in the row behind an insertion. -/
theorem ins_cells {A : Array Value} {off i n sz : Nat} {cs new tcl ncl : List Value} (hi : i ≤ n) (hcs : cs.length = n * sz) (ht : VRs ρ (cs.drop (i * sz)) tcl) (hn : VRs ρ new ncl) (hnl : new.length = sz)
    (hlow : ∀ (j : Nat) (x : Value), j < i * sz → cs[j]? = some x → ∃ y, A[off + j]? = some y ∧ VR ρ x y) (hfit : off + (n + 1) * sz ≤ A.size) :
    ∀ (j : Nat) (x : Value), (cs.take (i * sz) ++ (new ++ cs.drop (i * sz)))[j]? = some x → ∃ y, (spl (spl A (off + (i + 1) * sz) tcl) (off + i * sz) ncl)[off + j]? = some y ∧ VR ρ x y := by
  have him : i * sz ≤ n * sz := Nat.mul_le_mul_right _ hi
  have e1 : (i + 1) * sz = i * sz + sz := Nat.succ_mul _ _
  have e2 : (n + 1) * sz = n * sz + sz := Nat.succ_mul _ _
  have htl := ht.length
  have hnl' := hn.length
  simp at htl
  have hf1 : off + (i + 1) * sz + tcl.length ≤ A.size := by omega
  have hs1 := spl_size hf1
  have hf2 : off + i * sz + ncl.length ≤ (spl A (off + (i + 1) * sz) tcl).size := by omega
  intro j x hj
  by_cases h1 : j < i * sz
  · rw [List.getElem?_append_left (by simp; omega), List.getElem?_take, if_pos h1] at hj
    rw [spl_lt (by omega) (by omega), spl_lt (by omega) (by omega)]
    exact hlow j x h1 hj
  · rw [List.getElem?_append_right (by simp; omega)] at hj
    have el : (List.take (i * sz) cs).length = i * sz := by simp; omega
    rw [el] at hj
    by_cases h2 : j - i * sz < sz
    · rw [List.getElem?_append_left (by omega)] at hj
      obtain ⟨y, hy, hv⟩ := hn.get hj
      refine ⟨y, ?_, hv⟩
      have := spl_mid hf2 (k := j - i * sz) (by omega)
      rw [← hy, ← this]
      congr 1
      omega
    · rw [List.getElem?_append_right (by omega), hnl] at hj
      obtain ⟨y, hy, hv⟩ := ht.get hj
      refine ⟨y, ?_, hv⟩
      rw [spl_ge hf2 (by omega)]
      have hlt := (List.getElem?_eq_some_iff.1 hy).1
      have := spl_mid hf1 (k := j - i * sz - sz) (by omega)
      rw [← hy, ← this]
      congr 1
      omega

theorem arr_ext {A B : Array Value} (h : ∀ j : Nat, A[j]? = B[j]?) : A = B := by
  apply Array.ext'
  apply List.ext_getElem?
  intro j
  simpa using h j

theorem spl_nil {A : Array Value} {o : Nat} : spl A o [] = A := by simp [spl]

theorem spl_comm {A : Array Value} {o1 o2 : Nat} {l1 l2 : List Value} (h1 : o1 + l1.length ≤ o2) (h2 : o2 + l2.length ≤ A.size) : spl (spl A o1 l1) o2 l2 = spl (spl A o2 l2) o1 l1 := by
  have e1 : (spl A o1 l1).size = A.size := spl_size (by omega)
  have e2 : (spl A o2 l2).size = A.size := spl_size h2
  apply arr_ext
  intro j
  by_cases c1 : j < o1
  · rw [spl_lt (by omega) (by omega), spl_lt (by omega) c1, spl_lt (by omega) c1, spl_lt (by omega) (by omega)]
  · by_cases c2 : j < o1 + l1.length
    · rw [spl_lt (by omega) (by omega)]
      have a1 := spl_mid (A := A) (o := o1) (l := l1) (k := j - o1) (by omega) (by omega)
      have a2 := spl_mid (A := spl A o2 l2) (o := o1) (l := l1) (k := j - o1) (by omega) (by omega)
      have ej : o1 + (j - o1) = j := by omega
      rw [ej] at a1 a2
      rw [a1, a2]
    · rw [spl_ge (A := spl A o2 l2) (by omega) (by omega)]
      by_cases c3 : j < o2
      · rw [spl_lt (by omega) c3, spl_lt (by omega) c3, spl_ge (by omega) (by omega)]
      · by_cases c4 : j < o2 + l2.length
        · have a1 := spl_mid (A := A) (o := o2) (l := l2) (k := j - o2) h2 (by omega)
          have a2 := spl_mid (A := spl A o1 l1) (o := o2) (l := l2) (k := j - o2) (by omega) (by omega)
          have ej : o2 + (j - o2) = j := by omega
          rw [ej] at a1 a2
          rw [a1, a2]
        · rw [spl_ge (by omega) (by omega), spl_ge (by omega) (by omega), spl_ge h2 (by omega)]

theorem allOne_drop : ∀ (k : Nat) {l : List Value}, allOne l = true → allOne (l.drop k) = true
  | 0, _, h => h
  | _ + 1, [], _ => rfl
  | k + 1, a :: l, h => by
    change sel (isOne a) (allOne l) false = true at h
    rw [sel_eq] at h
    split at h
    · exact allOne_drop k h
    · cases h

/-- The state behind an insertion. -/
noncomputable def insSt (s : St) (b : Nat) (e : TypeId) (f : Nat) (l : List Value) : St :=
  { heap := (s.heap.set b (.row [] e f)).set s.next (.row l e f), fams := s.fams.set f [s.next, b], next := Nat.succ s.next }

theorem ins_place_goes (h : HR P base ρ s w) {b : Nat} {cs final : List Value} {e : TypeId} {f sz k : Nat} {L : Loc} (hb : fixedTop ≤ b) (hc : s.cells b = some (cs, e, f)) (hf : f ≠ 0) (hl : ρ.at b = some L) (hsz : size P e = some sz)
    {A A' : Array Value} {fz : Nat × Nat} (ha : w.heap[L.blk]? = some (.cells A e fz)) (hs : A'.size = A.size) (hv : ∀ (j : Nat) (x : Value), final[j]? = some x → ∃ y, A'[L.off + j]? = some y ∧ VR ρ x y)
    (hcap : L.off + L.cap * sz ≤ A.size) (hlen : final.length ≤ L.cap * sz) :
    Goes P base ρ s w (ρ.set s.next L) (insSt s b e f final) (({ w with drawn := k } : World).setRow L.blk A') := by
  have g0 := Goes.forget h hc hf
  have g1 := Goes.drew g0.hr k
  have hc0 : St.cells { heap := s.heap.set b (.row [] e f), fams := s.fams, next := s.next } b = some ([], e, f) :=
    cells_some.2 ⟨Hp.get_set_same _ _ _, (cells_some.1 hc).2⟩
  have g2 := Goes.share (cells := final) (ln := L) g1.hr hb hc0 hf hl (a' := A') ha hs (fun j x hj => by simp at hj) rfl hv (fun n hn => by
    rw [hsz] at hn
    cases hn
    exact ⟨hcap, hlen⟩)
  exact (g0.trans g1).trans g2

theorem ins_grow_goes (h : HR P base ρ s w) {b : Nat} {cs final : List Value} {e : TypeId} {f sz cap k : Nat} (hc : s.cells b = some (cs, e, f)) (hf : f ≠ 0) (hsz : size P e = some sz) (h0 : 0 < sz)
    {A : Array Value} (hv : ∀ (j : Nat) (x : Value), final[j]? = some x → ∃ y, A[j]? = some y ∧ VR ρ x y) (hs : A.size = cap * sz) (hlen : final.length ≤ cap * sz) :
    Goes P base ρ s w (ρ.set s.next ⟨w.heap.size, 0, cap⟩) (insSt s b e f final) (({ w with drawn := k } : World).alloc (.cells A e)) := by
  have g0 := Goes.forget h hc hf
  have hc0 : St.cells { heap := s.heap.set b (.row [] e f), fams := s.fams, next := s.next } b = some ([], e, f) :=
    cells_some.2 ⟨Hp.get_set_same _ _ _, (cells_some.1 hc).2⟩
  have g2 := Goes.shareNew (cells := final) (k := k) g0.hr hc0 hf hsz h0 hv hs hlen
  exact g0.trans g2

/-- The walks of slices.Insert, by the runs of what it calls. -/
structure InsWalks (P : Program) (F OV : FuncId) (t it : TypeId) (sz : Nat) : Prop where
  place : ∀ (b o n K i vb vo vc : Nat) (w w2 w3 : World) (x2 x3 : Value), i < n → n + 1 ≤ K → n + 1 ≤ 9223372036854775807 →
    Sem.run P (callFunc OV #[.slice (some ⟨vb, vo, none⟩) 1 vc, .slice (some ⟨b, o + (i + 1) * sz, none⟩) (n - i) (K - (i + 1))]) w = .ok (.value (.bool false)) w →
    Hid (Sem.run P (Builtin.copy_ #[t, t] it #[.slice (some ⟨b, o + (i + 1) * sz, none⟩) (n - i) (K - (i + 1)), .slice (some ⟨b, o + i * sz, none⟩) (n + 1 - i) (K - i)]) w.drew = .ok x2 w2) →
    Sem.run P (Builtin.copy_ #[t, t] it #[.slice (some ⟨b, o + i * sz, none⟩) (n + 1 - i) (K - i), .slice (some ⟨vb, vo, none⟩) 1 vc]) w2 = .ok x3 w3 →
    Calls P F #[.slice (some ⟨b, o, none⟩) n K, .int .i64 i, .slice (some ⟨vb, vo, none⟩) 1 vc] w fun e w' => e = .returned (.slice (some ⟨b, o, none⟩) (n + 1) K) ∧ w' = w3
  fin : ∀ (b o n K vb vo vc : Nat) (w w2 : World) (x2 : Value),
    Hid (Sem.run P (Builtin.append_ #[t, t] t #[.slice (some ⟨b, o, none⟩) n K, .slice (some ⟨vb, vo, none⟩) 1 vc]) w = .ok x2 w2) →
    Calls P F #[.slice (some ⟨b, o, none⟩) n K, .int .i64 n, .slice (some ⟨vb, vo, none⟩) 1 vc] w fun e w' => e = .returned x2 ∧ w' = w2
  grow : ∀ (b o n K i vb vo vc g G : Nat) (w w2 w3 w4 : World) (x3 x4 : Value), i < n → n ≤ K → K < n + 1 → n + 1 ≤ 9223372036854775807 → n + 1 ≤ G →
    Hid (Sem.run P (Builtin.append_ #[t, it] t #[.slice (some ⟨b, o, none⟩) i K, .int .i64 ((n : Int) + 1 - i)]) w = .ok (.slice (some ⟨g, 0, none⟩) (n + 1) G) w2) →
    Sem.run P (Builtin.copy_ #[t, t] it #[.slice (some ⟨g, i * sz, none⟩) (n + 1 - i) (G - i), .slice (some ⟨vb, vo, none⟩) 1 vc]) w2 = .ok x3 w3 →
    Hid (Sem.run P (Builtin.copy_ #[t, t] it #[.slice (some ⟨g, (i + 1) * sz, none⟩) (n - i) (G - (i + 1)), .slice (some ⟨b, o + i * sz, none⟩) (n - i) (K - i)]) w3.drew = .ok x4 w4) →
    Calls P F #[.slice (some ⟨b, o, none⟩) n K, .int .i64 i, .slice (some ⟨vb, vo, none⟩) 1 vc] w fun e w' => e = .returned (.slice (some ⟨g, 0, none⟩) (n + 1) G) ∧ w' = w4

theorem alloc_setRow (w : World) (a a' : Array Value) (e : TypeId) : (w.alloc (.cells a e)).setRow w.heap.size a' = w.alloc (.cells a' e) := by
  unfold World.alloc World.setRow
  congr 1
  apply Array.ext
  · simp
  · intro i h1 h2
    simp only [Array.getElem_modify]
    by_cases h : w.heap.size = i
    · subst h; simp
    · simp only [h, if_false]
      have hlt : i < w.heap.size := by simp at h2; omega
      rw [Array.getElem_push_lt hlt, Array.getElem_push_lt hlt]

theorem cell_push (w : World) (o : Obj) {b j : Nat} {v : Value} (h : w.cell? ⟨b, j, none⟩ = some v) : (w.alloc o).cell? ⟨b, j, none⟩ = some v := by
  have hlt : b < w.heap.size := by
    unfold World.cell? at h
    cases hb : w.heap[b]? with
    | none => simp [hb] at h
    | some x => exact (Array.getElem?_eq_some_iff.1 hb).1
  rw [World.cell?_alloc_lt _ _ ⟨b, j, none⟩ hlt]
  exact h

theorem insert_sound {C : Cfg} {F OV : FuncId} {t it e : TypeId} {sz : Nat} {ps rs : Array TypeId} (hW : InsWalks P F OV t it sz) (hC : C.P = P) (hu : P.underlying t = some (.slice e)) (hsz : size P e = some sz) (hint : P.underlying it = some (.int .i64))
    (hx : extChk P OV = true) (ho : (P.funcs[OV]?).bind Extern.find = some (SlicesOverlaps.overlaps ps rs)) (hps : ps[0]? = some t) (hni : noInt P (some t) = true)
    {args : List Value} {s s' : St} {v : Value} (hv : extInsert C e s args = some (v, s')) {base : Nat} {ρ : Ren} {w : World} {cargs : List Value} (h : HR P base ρ s w) (ha : VRs ρ args cargs) :
    Calls P F ⟨cargs⟩ w fun x w' => ∃ c ρ', x = .returned c ∧ Goes P base ρ s w ρ' s' w' ∧ VR ρ' v c := by
  unfold extInsert at hv
  split at hv
  · rename_i a n cap iv u m uc
    obtain ⟨i, hiv, hv1⟩ := obind_some.1 hv
    obtain ⟨hm1, hv2⟩ := guard_some.1 hv1
    obtain ⟨⟨cs, e', f⟩, hc, hv3⟩ := obind_some.1 hv2
    obtain ⟨⟨ds, ed, fd⟩, hd, hv4⟩ := obind_some.1 hv3
    obtain ⟨sz', hsz', hv5⟩ := obind_some.1 hv4
    obtain ⟨hg, hv6⟩ := guard_some.1 hv5
    obtain ⟨new, hnew, hv7⟩ := obind_some.1 hv6
    obtain ⟨hone, hv8⟩ := guard_some.1 hv7
    clear hv hv1 hv2 hv3 hv4 hv5 hv6 hv7
    rw [hC] at hsz' hg
    rw [hsz] at hsz'
    cases hsz'
    have hm1 := Nat.eq_of_beq_eq_true hm1
    subst hm1
    simp only [Bool.and_eq_true, Bool.not_eq_true'] at hg hone
    obtain ⟨⟨⟨⟨⟨⟨⟨⟨⟨⟨⟨⟨g1, g2⟩, g3⟩, g4⟩, g5⟩, g6⟩, g7⟩, g8⟩, g9⟩, g10⟩, g11⟩, g12⟩, g13⟩ := hg
    have g1 : e' = e := Nat.eq_of_beq_eq_true g1
    subst g1
    have g2 : a.off = 0 := Nat.eq_of_beq_eq_true g2
    have g3 : cs.length = n * sz := by rw [lenL_eq] at g3; exact Nat.eq_of_beq_eq_true g3
    have g4 : i ≤ n := Nat.le_of_ble_eq_true g4
    have g5 : f ≠ 0 := by rintro rfl; simp at g5
    have g6 : cap = bigCap := Nat.eq_of_beq_eq_true g6
    have g7 : fixedTop ≤ a.block := Nat.le_of_ble_eq_true g7
    have g8 : fixedTop ≤ u.block := Nat.le_of_ble_eq_true g8
    have g9 : fd = 0 := Nat.eq_of_beq_eq_true g9
    subst g9 g6
    have g10 : 1 ≤ ds.length := by rw [lenL_eq] at g10; exact Nat.le_of_ble_eq_true g10
    have g11 : 1 ≤ sz := Nat.le_of_ble_eq_true g11
    have g13 : n ≤ 1099511627776 := Nat.le_of_ble_eq_true g13
    rw [takeN_eq, dropL_eq] at hnew
    obtain ⟨hnl, rfl⟩ := hnew
    simp only [appL_eq, takeL_eq, dropL_eq] at hv8
    have hiv' : iv = Int.ofNat i := by
      cases iv with
      | ofNat k => cases hiv; rfl
      | negSucc k => cases hiv
    subst hiv'
    cases hv8
    cases ha with
    | cons h1 ha => cases ha with
      | cons h2 ha => cases ha with
        | cons h3 ha => cases ha with
          | nil =>
            cases h2
            cases h1 with
            | dead A K => exact (h.no_dead hc).elim
            | @slice b o _ _ L hL => cases h3 with
              | @slice vb vo _ _ Lv hLv =>
                have g2 : o = 0 := g2
                subst g2
                have hcap : capOf L bigCap = L.cap := capOf_big L.blk L.off L.cap
                rw [hcap]
                simp only [Nat.add_zero]
                obtain ⟨q, hq⟩ := h.rows b cs e' f hc
                have hql : q = L := by have := hq.at_; rw [hL] at this; exact (Option.some.inj this).symm
                subst hql
                have hq2 := hq
                obtain ⟨_, A, fz, hA, hvals, hfz, _, h4⟩ := hq
                obtain ⟨n', hn', h0, hsiz, hlen⟩ := h4 g5
                rw [hsz] at hn'
                cases hn'
                obtain ⟨qv, hqv⟩ := h.rows vb ds ed 0 hd
                have hqlv : qv = Lv := by have := hqv.at_; rw [hLv] at this; exact (Option.some.inj this).symm
                subst hqlv
                have hqv2 := hqv
                obtain ⟨_, Av, fzv, hAv, _, hfzv, hv0, _⟩ := hqv
                obtain ⟨hvo, hvs, hvend⟩ := hv0 rfl
                have hK : n ≤ q.cap := by
                  have : n * sz ≤ q.cap * sz := by omega
                  exact Nat.le_of_mul_le_mul_right this h0
                have hne : qv.blk ≠ q.blk := h.sep vb b (0, vb) (1, f) qv q (by rw [tag_cells hd]; simp) (by rw [tag_cells hc]; simp [g5]) (by simp) hLv hL
                have hvsz : vo + sz ≤ ds.length := by simp at hnl; omega
                obtain ⟨ncl, nv, nl, nc⟩ := hqv2.seg (o := vo) (n := sz) hvsz
                have him : i * sz ≤ n * sz := Nat.mul_le_mul_right _ g4
                have hsub : (n - i) * sz = n * sz - i * sz := Nat.sub_mul _ _ _
                obtain ⟨tcl, tv, tl, tc⟩ := hq2.seg (o := i * sz) (n := (n - i) * sz) (by omega)
                rw [List.take_of_length_le (by simp; omega)] at tv
                have hnone := allOne_vrs nv hone.1
                have htone := allOne_vrs tv (allOne_drop _ hone.2)
                have hnewl : ((ds.drop vo).take sz).length = sz := by simp; omega
                have eS : Nat.mul i sz = i * sz := rfl
                have hsn : (n + 1) * sz = n * sz + sz := Nat.succ_mul _ _
                have hsi : (i + 1) * sz = i * sz + sz := Nat.succ_mul _ _
                have hfinl : (cs.take (i * sz) ++ ((ds.drop vo).take sz ++ cs.drop (i * sz))).length = (n + 1) * sz := by
                  rw [List.length_append, List.length_append, hnewl]
                  simp
                  omega
                have hAlt : q.blk < w.heap.size := (Array.getElem?_eq_some_iff.1 hA).1
                have key : ∀ (ln : Loc) (w' : World), Goes P base ρ s w (ρ.set s.next ln) (insSt s b e' f (cs.take (i * sz) ++ ((ds.drop vo).take sz ++ cs.drop (i * sz)))) w' →
                    ∃ c ρ', Ending.returned (.slice (some ⟨ln.blk, ln.off, none⟩) (n + 1) ln.cap) = .returned c ∧ Goes P base ρ s w ρ' (insSt s b e' f (cs.take (i * sz) ++ ((ds.drop vo).take sz ++ cs.drop (i * sz)))) w' ∧ VR ρ' (.slice (some ⟨s.next, 0, none⟩) (Nat.succ n) bigCap) c := by
                  intro ln w' hgo
                  have kv := VR.slice (ρ := ρ.set s.next ln) (b := s.next) (o := 0) (n := n + 1) (c := bigCap) (l := ln) (by rw [Ren.at_of h.next, Ren.set_same])
                  rw [show capOf ln bigCap = ln.cap from capOf_big ln.blk ln.off ln.cap] at kv
                  exact ⟨_, _, rfl, hgo, kv⟩
                rcases Nat.lt_or_ge i n with hin | hin
                · by_cases hfit : n + 1 ≤ q.cap
                  · -- in place
                    have hbig : q.off + (n + 1) * sz ≤ A.size := by
                      have : (n + 1) * sz ≤ q.cap * sz := Nat.mul_le_mul_right _ hfit
                      omega
                    have hcp := run_copy_cells (P := P) (w := w.drew) hu hsz it (g := q.blk) (off := q.off + (i + 1) * sz) (dLen := n - i) (dCap := q.cap - (i + 1)) (sb := q.blk) (so := q.off + i * sz) (sLen := n + 1 - i) (sCap := q.cap - i) (m := n - i) (Nat.min_eq_right (by omega)) (cur := A) hA (hfz g7) (cl := tcl) tl (fun j v hj => tc j v hj) (by omega) htone
                    have hA2 : ((w.drew).setRow q.blk (spl A (q.off + (i + 1) * sz) tcl)).heap[q.blk]? = some (.cells (spl A (q.off + (i + 1) * sz) tcl) e' fz) := setRow_heap _ _ _ _ _ _ hA
                    have hs1 : (spl A (q.off + (i + 1) * sz) tcl).size = A.size := spl_size (by omega)
                    have hcp2 := run_copy_cells (P := P) (w := (w.drew).setRow q.blk (spl A (q.off + (i + 1) * sz) tcl)) hu hsz it (g := q.blk) (off := q.off + i * sz) (dLen := n + 1 - i) (dCap := q.cap - i) (sb := qv.blk) (so := qv.off + vo) (sLen := 1) (sCap := capOf qv uc) (m := 1) (Nat.min_eq_left (by omega)) hA2 (fun k hk => hfz g7 k (by omega)) (cl := ncl) (by omega) (fun j v hj => by rw [cell_setRow_other _ _ _ _ (by exact hne)]; exact nc j v hj) (by omega) hnone
                    have hov : Sem.run P (callFunc OV #[.slice (some ⟨qv.blk, qv.off + vo, none⟩) 1 (capOf qv uc), .slice (some ⟨q.blk, q.off + (i + 1) * sz, none⟩) (n - i) (q.cap - (i + 1))]) w = .ok (.value (.bool false)) w := by
                      rw [run_ext hx ho, run_overlaps hps hu hsz g11 (by omega) (by omega) hne hAv (hfzv g8 _ (by omega)) (hvend g8) hA (by omega)]
                      rfl
                    refine (hW.place q.blk q.off n q.cap i qv.blk (qv.off + vo) (capOf qv uc) w _ _ _ _ hin hfit (by omega) hov hcp hcp2).mono ?_
                    rintro x w' ⟨rfl, rfl⟩
                    refine key q _ ?_
                    rw [setRow_setRow]
                    exact ins_place_goes (k := w.drawn + 1) h g7 hc g5 hL hsz hA (by show (spl (spl A (q.off + (i + 1) * sz) tcl) (q.off + i * sz) ncl).size = _; rw [spl_size (by omega)]; exact hs1) (ins_cells g4 g3 tv nv hnewl (fun j x _ hj => hvals j x hj) hbig) hsiz (by rw [hfinl]; exact Nat.mul_le_mul_right _ hfit)
                  · -- a new array
                    obtain ⟨ti, z, hi, hz, hzs, h1, h63, h48⟩ := growOk_some g12
                    obtain ⟨ti', hi', hs⟩ := size_info hsz
                    rw [hi] at hi'
                    cases hi'
                    subst hs
                    have hem : i + (n + 1 - i) = n + 1 := by omega
                    obtain ⟨ocl, ov, ol, oc⟩ := hq2.seg (o := 0) (n := i * ti.size) (by omega)
                    simp only [Nat.add_zero, List.drop_zero] at ov oc
                    have hold := run_loadCells_list (P := P) w.drew ⟨q.blk, q.off, none⟩ ocl (fun j v hj => by rw [add_eq]; exact oc j v hj)
                    rw [ol] at hold
                    have hnc := nextslicecap_le (need := n + 1) (old := q.cap) (by omega)
                    have hap := run_append_zeros (P := P) (w := w) hu hi hz hzs h1 hint t (b := ⟨q.blk, q.off, none⟩) (sLen := i) (sCap := q.cap) (m := n + 1 - i) hold (by omega) (by omega) (by omega)
                      (Nat.le_trans (Nat.mul_le_mul_right _ (by omega)) h48) (Nat.le_trans (Nat.mul_le_mul_right _ (by rw [hem]; exact hnc)) h48)
                    rw [hem, show ((n + 1 - i : Nat) : Int) = (n : Int) + 1 - i by omega] at hap
                    have hge := grownCap_ge w (n + 1) q.cap e'
                    generalize hG : grownCap w (n + 1) q.cap e' = G at hap hge
                    generalize hA0 : ((⟨ocl⟩ : Array Value) ++ Builtin.zeroCells z.cells (n + 1 - i) ++ Builtin.zeroCells z.cells (G - (n + 1))) = A0 at hap
                    have hzc : ∀ k, (Builtin.zeroCells z.cells k).size = k * ti.size := fun k => by simp [Builtin.zeroCells, hzs]
                    have hA0s : A0.size = G * ti.size := by
                      rw [← hA0, Array.size_append, Array.size_append, hzc, hzc, show (⟨ocl⟩ : Array Value).size = ocl.length from rfl, ol, ← Nat.add_mul, ← Nat.add_mul, show i + (n + 1 - i) + (G - (n + 1)) = G by omega]
                    have hA0l : ∀ j, j < ocl.length → A0[j]? = ocl[j]? := by
                      intro j hj
                      rw [← hA0, Array.getElem?_append_left (by simp [Array.size_append]; omega), Array.getElem?_append_left (by simpa using hj)]
                      simp
                    have hbig : (n + 1) * ti.size ≤ A0.size := by rw [hA0s]; exact Nat.mul_le_mul_right _ hge
                    have hz0 : ∀ (fz : Nat × Nat), fz = (0, 0) → ∀ (k m : Nat), k < m → ¬ (fz.1 ≤ k ∧ k < fz.2) := by
                      rintro fz rfl k m _ ⟨_, h⟩
                      exact absurd h (Nat.not_lt_zero _)
                    have hgh : ∀ (x : World) (B : Array Value), (x.alloc (.cells B e')).heap[x.heap.size]? = some (.cells B e' (0, 0)) := fun x B => alloc_at x _
                    have hcp := run_copy_cells (P := P) (w := w.drew.alloc (.cells A0 e')) hu hsz it (g := w.heap.size) (off := i * ti.size) (dLen := n + 1 - i) (dCap := G - i) (sb := qv.blk) (so := qv.off + vo) (sLen := 1) (sCap := capOf qv uc) (m := 1) (Nat.min_eq_left (by omega))
                      (hgh w.drew A0) (fun k hk => hz0 _ rfl k _ hk) (cl := ncl) (by omega) (fun j v hj => cell_push _ _ (nc j v hj)) (by omega) hnone
                    have e1 : (w.drew.alloc (.cells A0 e')).setRow w.heap.size (spl A0 (i * ti.size) ncl) = w.drew.alloc (.cells (spl A0 (i * ti.size) ncl) e') := alloc_setRow w.drew _ _ _
                    have hcp : Sem.run P (Builtin.copy_ #[t, t] it #[.slice (some ⟨w.heap.size, i * ti.size, none⟩) (n + 1 - i) (G - i), .slice (some ⟨qv.blk, qv.off + vo, none⟩) 1 (capOf qv uc)]) (w.drew.alloc (.cells A0 e')) = .ok (goInt 1) (w.drew.alloc (.cells (spl A0 (i * ti.size) ncl) e')) := by
                      rw [← e1]; exact hcp
                    have hs1 : (spl A0 (i * ti.size) ncl).size = A0.size := spl_size (by omega)
                    have hcp2 := run_copy_cells (P := P) (w := w.drew.drew.alloc (.cells (spl A0 (i * ti.size) ncl) e')) hu hsz it (g := w.heap.size) (off := (i + 1) * ti.size) (dLen := n - i) (dCap := G - (i + 1)) (sb := q.blk) (so := q.off + i * ti.size) (sLen := n - i) (sCap := q.cap - i) (m := n - i) (Nat.min_self _)
                      (hgh w.drew.drew _) (fun k hk => hz0 _ rfl k _ hk) (cl := tcl) tl (fun j v hj => cell_push _ _ (tc j v hj)) (by omega) htone
                    have e2 : (w.drew.drew.alloc (.cells (spl A0 (i * ti.size) ncl) e')).setRow w.heap.size (spl (spl A0 (i * ti.size) ncl) ((i + 1) * ti.size) tcl) = w.drew.drew.alloc (.cells (spl (spl A0 (i * ti.size) ncl) ((i + 1) * ti.size) tcl) e') := alloc_setRow w.drew.drew _ _ _
                    have hcp2 : Sem.run P (Builtin.copy_ #[t, t] it #[.slice (some ⟨w.heap.size, (i + 1) * ti.size, none⟩) (n - i) (G - (i + 1)), .slice (some ⟨q.blk, q.off + i * ti.size, none⟩) (n - i) (q.cap - i)]) (w.drew.alloc (.cells (spl A0 (i * ti.size) ncl) e')).drew = .ok (goInt ((n - i : Nat) : Int)) (w.drew.drew.alloc (.cells (spl (spl A0 (i * ti.size) ncl) ((i + 1) * ti.size) tcl) e')) := by
                      rw [← e2]; exact hcp2
                    refine (hW.grow q.blk q.off n q.cap i qv.blk (qv.off + vo) (capOf qv uc) w.heap.size G w _ _ _ _ _ hin hK (by omega) (by omega) hge hap hcp hcp2).mono ?_
                    rintro x w' ⟨rfl, rfl⟩
                    refine key ⟨w.heap.size, 0, G⟩ _ ?_
                    have hsc := spl_comm (A := A0) (o1 := i * ti.size) (o2 := (i + 1) * ti.size) (l1 := ncl) (l2 := tcl) (by omega) (by omega)
                    rw [hsc]
                    have hcells := ins_cells (A := A0) (off := 0) g4 g3 tv nv hnewl (fun j x hj hx => by
                      have hx' : (cs.take (i * ti.size))[j]? = some x := by rw [List.getElem?_take, if_pos hj]; exact hx
                      obtain ⟨y, hy, hv⟩ := ov.get hx'
                      refine ⟨y, ?_, hv⟩
                      rw [Nat.zero_add, hA0l j (by omega)]
                      exact hy) (by omega)
                    simp only [Nat.zero_add] at hcells
                    exact ins_grow_goes (k := w.drawn + 1 + 1) h hc g5 hsz h0 hcells (by rw [spl_size (by rw [spl_size (by omega)]; omega), spl_size (by omega)]; exact hA0s) (by rw [hfinl, ← hA0s]; exact hbig)
                · have hin : i = n := by omega
                  subst hin
                  have hdrop : cs.drop (i * sz) = [] := List.drop_of_length_le (by omega)
                  have htake : cs.take (i * sz) = cs := List.take_of_length_le (by omega)
                  have hlenv : ∀ w : World, (Builtin.lenOf (.slice (some ⟨qv.blk, qv.off + vo, none⟩) 1 (capOf qv uc))).run P w = .ok 1 w := fun w => rfl
                  have hnewr : ∀ w' : World, (∀ (j : Nat) (v : Value), ncl[j]? = some v → w'.cell? ⟨qv.blk, qv.off + vo + j, none⟩ = some v) → (Builtin.firstCells sz 1 (.slice (some ⟨qv.blk, qv.off + vo, none⟩) 1 (capOf qv uc))).run P w' = .ok ⟨ncl⟩ w' := by
                    intro w' hcl
                    have := run_loadCells_list (P := P) w' ⟨qv.blk, qv.off + vo, none⟩ ncl (fun j v hj => by rw [add_eq]; exact hcl j v hj)
                    rw [nl] at this
                    simp only [Builtin.firstCells, Nat.one_mul]
                    exact this
                  by_cases hfit : i + 1 ≤ q.cap
                  · obtain ⟨ti, hi, hs⟩ := size_info hsz
                    have hbig : q.off + (i + 1) * sz ≤ A.size := by
                      have : (i + 1) * sz ≤ q.cap * sz := Nat.mul_le_mul_right _ hfit
                      omega
                    have hst := run_storeCells_gen P q.blk (q.off + i * sz) e' fz ncl 0 A w hA (by omega) (hfz g7) hnone
                    simp only [Nat.add_zero] at hst
                    have hap := run_append_fit (P := P) (w := w) (w' := w.setRow q.blk (spl A (q.off + i * sz) ncl)) (ts := #[t, t]) (ty := t) rfl hu hi hni (b := some ⟨q.blk, q.off, none⟩) (sLen := i) (sCap := q.cap) (hlenv w) (by rw [hs]; exact hnewr w nc) hfit
                      (fun a ha => by cases ha; rw [add_eq, hs]; exact hst) (fun e => by cases e)
                    refine (hW.fin q.blk q.off i q.cap qv.blk (qv.off + vo) (capOf qv uc) w _ _ hap).mono ?_
                    rintro x w' ⟨rfl, rfl⟩
                    refine key q _ ?_
                    have hcells := ins_cells (A := A) (off := q.off) (tcl := []) g4 g3 (by rw [hdrop]; exact .nil) nv hnewl (fun j x _ hj => hvals j x hj) hbig
                    rw [spl_nil] at hcells
                    exact ins_place_goes (k := w.drawn) h g7 hc g5 hL hsz hA (spl_size (by omega)) hcells hsiz (by rw [hfinl]; exact Nat.mul_le_mul_right _ hfit)
                  · obtain ⟨ocl, ov, ol, oc⟩ := hq2.seg (o := 0) (n := i * sz) (by omega)
                    simp only [Nat.add_zero, List.drop_zero, htake] at ov oc
                    have hold := run_loadCells_list (P := P) w.drew ⟨q.blk, q.off, none⟩ ocl (fun j v hj => by rw [add_eq]; exact oc j v hj)
                    rw [ol] at hold
                    obtain ⟨arr, cp, hap, _, hsz2, hle2, hcells⟩ := append_more (P := P) (w := w) (ts := #[t, t]) (ty := t) rfl hu hsz hni (b := some ⟨q.blk, q.off, none⟩) (sLen := i) (sCap := q.cap) (n := 1) g12 (hlenv w) (old := cs) (by simp only [Builtin.firstCells]; exact hold) ov g3 (hnewr w.drew (fun j v hj => nc j v hj)) nv (by omega) (by omega)
                    refine (hW.fin q.blk q.off i q.cap qv.blk (qv.off + vo) (capOf qv uc) w _ _ hap).mono ?_
                    rintro x w' ⟨rfl, rfl⟩
                    refine key ⟨w.heap.size, 0, cp⟩ _ ?_
                    rw [hdrop, htake, List.append_nil]
                    exact ins_grow_goes (k := w.drawn + 1) h hc g5 hsz h0 hcells hsz2 hle2
  · cases hv
end Go.Ax

