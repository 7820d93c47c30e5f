import Derived.Test.YtifhpiilobkjiaaGreatDoorDa
import Derived.Great.FillDense
import Derived.ChangeKeysEq
namespace Go.Ax
open Go
section
variable {P : Program} {base : Nat} {ρ : Ren} {s s' : St} {w w' : World}

theorem alloc_at (w : World) (o : Obj) : (w.alloc o).heap[w.heap.size]? = some o := by
  show (w.heap.push o)[w.heap.size]? = _
  simp

theorem Goes.push (h : HR P base ρ s w) (r : Row) (l : Loc) (o : Obj)
    (hnext : s'.next = s.next + 1) (hheap : s'.heap = s.heap.set s.next r)
    (htags : ∀ i t, i ≠ s.next → s'.tag i = some t → s.tag i = some t)
    (hcells : ∀ i c, i ≠ s.next → s'.cells i = some c → s.cells i = some c)
    (hw : w'.heap = w.heap.push o) (hos : w'.os = w.os) (hta : w'.tape = w.tape) (hou : w'.output = w.output) (hl : l.blk = w.heap.size)
    (hfam : ∀ cs e f, r = .row cs e f → f ≤ s.next)
    (hrow : ∀ c, s'.cells s.next = some c → RowR P (ρ.set s.next l) w' s.next c.1 c.2.1 c.2.2 l)
    (hmap : ∀ es c, r = .map es c → ∃ es', o = .map es' c ∧ EsR (ρ.set s.next l) es es'.toList)
    (hloop : ∀ q, r = .loop q → ObjR (ρ.set s.next l) l q o) : Goes P base ρ s w (ρ.set s.next l) s' w' := by
  refine ⟨Ren.le_set h l, h.push r l o hnext hheap htags hcells hw hl hfam hrow hmap hloop, hos, hta, hou, by rw [hw]; simp, by omega, ?_, ?_, fun i hi => Ren.set_other ρ l (by omega)⟩
  · intro b hb _
    rw [hw, Array.getElem?_push, if_neg (by omega)]
  · rintro b ⟨i, q, a, hi, ht, hq, rfl⟩
    by_cases e : i = s.next
    · subst e
      rw [Ren.set_same] at hq
      cases hq
      right; omega
    · rw [Ren.set_other ρ l e] at hq
      exact .inl ⟨i, q, a, hi, htags i a e ht, hq, rfl⟩

/-- tags and cells where the families stay -/
theorem tag_set_other {t : Hp Row} {fams : Hp (List Nat)} {n k i : Nat} {r : Row} (hi : i ≠ k) : St.tag { heap := t.set k r, fams := fams, next := n } i = St.tag { heap := t, fams := fams, next := n } i := by
  unfold St.tag
  simp only [Hp.get_set_other _ _ hi]
theorem cells_set_other {t : Hp Row} {fams : Hp (List Nat)} {n k i : Nat} {r : Row} (hi : i ≠ k) : St.cells { heap := t.set k r, fams := fams, next := n } i = St.cells { heap := t, fams := fams, next := n } i := by
  unfold St.cells
  simp only [Hp.get_set_other _ _ hi]
theorem tag_next {t : Hp Row} {fams : Hp (List Nat)} {n m i : Nat} : St.tag { heap := t, fams := fams, next := n } i = St.tag { heap := t, fams := fams, next := m } i := rfl
theorem cells_next {t : Hp Row} {fams : Hp (List Nat)} {n m i : Nat} : St.cells { heap := t, fams := fams, next := n } i = St.cells { heap := t, fams := fams, next := m } i := rfl

/-- tags and cells where a family f is set to a list of which all but one id were alive in f -/
theorem tag_set_fam {t : Hp Row} {fams : Hp (List Nat)} {n k i f : Nat} {r : Row} {ch : List Nat} {a : Nat × Nat} (hi : i ≠ k)
    (hch : ∀ j, j ∈ ch → j ≠ k → ∃ l, fams.get f = some l ∧ j ∈ l)
    (h : St.tag { heap := t.set k r, fams := fams.set f ch, next := n } i = some a) : St.tag { heap := t, fams := fams, next := n } i = some a := by
  unfold St.tag at h ⊢
  simp only [Hp.get_set_other _ _ hi] at h
  cases hg : t.get i with
  | none => simp [hg] at h
  | some x =>
    simp only [hg] at h ⊢
    cases x with
    | row cs e g =>
      simp only at h ⊢
      by_cases h0 : g = 0
      · simpa [h0] using h
      · simp only [h0, if_false] at h ⊢
        by_cases hgf : g = f
        · subst hgf
          simp only [Hp.get_set_same] at h
          split at h
          · rename_i hm
            obtain ⟨l, hl, hj⟩ := hch i hm hi
            simpa [hl, hj] using h
          · cases h
        · simpa only [Hp.get_set_other _ _ hgf] using h
    | map es c => exact h
    | loop q => exact h
    | other => exact h
theorem cells_set_fam {t : Hp Row} {fams : Hp (List Nat)} {n k i f : Nat} {r : Row} {ch : List Nat} {c : List Value × TypeId × Nat} (hi : i ≠ k)
    (hch : ∀ j, j ∈ ch → j ≠ k → ∃ l, fams.get f = some l ∧ j ∈ l)
    (h : St.cells { heap := t.set k r, fams := fams.set f ch, next := n } i = some c) : St.cells { heap := t, fams := fams, next := n } i = some c := by
  obtain ⟨cs, e, g⟩ := c
  rw [cells_some] at h ⊢
  simp only [Hp.get_set_other _ _ hi] at h
  refine ⟨h.1, ?_⟩
  rcases h.2 with h2 | ⟨l, hl, hm⟩
  · exact .inl h2
  · by_cases hgf : g = f
    · subst hgf
      simp only [Hp.get_set_same] at hl
      cases hl
      exact .inr (hch i hm hi)
    · simp only [Hp.get_set_other _ _ hgf] at hl
      exact .inr ⟨l, hl, hm⟩

/-- A NEW BLOCK OF CELLS, known whole. -/
theorem Goes.newRow (h : HR P base ρ s w) {cs : List Value} {e : TypeId} {a : Array Value} (ha : VRs ρ cs a.toList) :
    Goes P base ρ s w (ρ.set s.next ⟨w.heap.size, 0, 0⟩) { heap := s.heap.set s.next (.row cs e 0), fams := s.fams, next := Nat.succ s.next } (w.alloc (.cells a e)) := by
  refine Goes.push h (.row cs e 0) ⟨w.heap.size, 0, 0⟩ (.cells a e) rfl rfl (fun i t hi ht => ?_) (fun i c hi hc => ?_) rfl rfl rfl rfl rfl ?_ ?_ (fun _ _ e => by cases e) (fun _ e => by cases e)
  · rw [tag_set_other hi] at ht; exact ht
  · rw [cells_set_other hi] at hc; exact hc
  · intro cs' e' f hr; cases hr; omega
  · rintro ⟨cs', e', f⟩ hc
    obtain ⟨h1, _⟩ := cells_some.1 hc
    rw [Hp.get_set_same] at h1
    cases h1
    have hlen := ha.length
    simp at hlen
    refine ⟨by rw [Ren.at_of h.next, Ren.set_same], a, (0, 0), alloc_at _ _, ?_, fun _ o _ => by omega, fun _ => ⟨rfl, hlen, fun _ hh => absurd hh.2 (Nat.not_lt_zero _)⟩, fun h0 => absurd rfl h0⟩
    intro j x hj
    obtain ⟨y, hy, hv⟩ := ha.get hj
    exact ⟨y, by simpa using hy, hv.mono (Ren.le_set h _)⟩

/-- A NEW ARRAY OF UNKNOWN CAPACITY. -/
theorem Goes.newFam (h : HR P base ρ s w) {cs : List Value} {e : TypeId} {a : Array Value} {cap n k : Nat} (hn : size P e = some n) (hn0 : 0 < n)
    (ha : ∀ (j : Nat) (x : Value), cs[j]? = some x → ∃ y, a[j]? = some y ∧ VR ρ x y) (hsz : a.size = cap * n) (hle : cs.length ≤ cap * n) :
    Goes P base ρ s w (ρ.set s.next ⟨w.heap.size, 0, cap⟩) { heap := s.heap.set s.next (.row cs e s.next), fams := s.fams.set s.next [s.next], next := Nat.succ s.next }
      ({ w with drawn := k }.alloc (.cells a e)) := by
  have hch : ∀ j, j ∈ [s.next] → j ≠ s.next → ∃ l, s.fams.get s.next = some l ∧ j ∈ l := fun j hj hne => absurd (by simpa using hj) hne
  refine Goes.push h (.row cs e s.next) ⟨w.heap.size, 0, cap⟩ (.cells a e) rfl rfl (fun i t hi ht => ?_) (fun i c hi hc => ?_) rfl rfl rfl rfl rfl ?_ ?_ (fun _ _ e => by cases e) (fun _ e => by cases e)
  · exact tag_set_fam hi hch ht
  · exact cells_set_fam hi hch hc
  · intro cs' e' f hr; cases hr; omega
  · rintro ⟨cs', e', f⟩ hc
    obtain ⟨h1, _⟩ := cells_some.1 hc
    rw [Hp.get_set_same] at h1
    cases h1
    have := h.next
    have hft : fixedTop = 64 := rfl
    refine ⟨by rw [Ren.at_of h.next, Ren.set_same], a, (0, 0), alloc_at { w with drawn := k } _, ?_, fun _ o _ => by omega, fun h0 => absurd (show s.next = 0 from h0) (by omega), fun _ => ⟨n, hn, hn0, by simp [hsz], hle⟩⟩
    intro j x hj
    obtain ⟨y, hy, hv⟩ := ha j x hj
    exact ⟨y, by simpa using hy, hv.mono (Ren.le_set h _)⟩

/-- A NEW MAP. -/
theorem Goes.newMap (h : HR P base ρ s w) : Goes P base ρ s w (ρ.set s.next ⟨w.heap.size, 0, 0⟩) { heap := s.heap.set s.next (.map [] 0), fams := s.fams, next := Nat.succ s.next } (w.alloc (.map #[] 0)) := by
  refine Goes.push h (.map [] 0) ⟨w.heap.size, 0, 0⟩ (.map #[] 0) rfl rfl (fun i t hi ht => ?_) (fun i c hi hc => ?_) rfl rfl rfl rfl rfl (fun _ _ _ e => by cases e) ?_ ?_ (fun _ e => by cases e)
  · rw [tag_set_other hi] at ht; exact ht
  · rw [cells_set_other hi] at hc; exact hc
  · rintro ⟨cs', e', f⟩ hc
    obtain ⟨h1, _⟩ := cells_some.1 hc
    rw [Hp.get_set_same] at h1
    cases h1
  · intro es c hr
    cases hr
    exact ⟨#[], rfl, .nil⟩

/-- A NEW OBJECT THAT IS NEVER LOOKED INTO. -/
theorem Goes.newOther (h : HR P base ρ s w) (o : Obj) : Goes P base ρ s w (ρ.set s.next ⟨w.heap.size, 0, 0⟩) { heap := s.heap.set s.next .other, fams := s.fams, next := Nat.succ s.next } (w.alloc o) := by
  refine Goes.push h .other ⟨w.heap.size, 0, 0⟩ o rfl rfl (fun i t hi ht => ?_) (fun i c hi hc => ?_) rfl rfl rfl rfl rfl (fun _ _ _ e => by cases e) ?_ (fun _ _ e => by cases e) (fun _ e => by cases e)
  · rw [tag_set_other hi] at ht; exact ht
  · rw [cells_set_other hi] at hc; exact hc
  · rintro ⟨cs', e', f⟩ hc
    obtain ⟨h1, _⟩ := cells_some.1 hc
    rw [Hp.get_set_same] at h1
    cases h1

/-- A NEW LOOP OVER A FUNCTION. -/
theorem Goes.newLoop (h : HR P base ρ s w) {r : ALoop} {q : Loop} (hr : LoopR ρ r q) : Goes P base ρ s w (ρ.set s.next ⟨w.heap.size, 0, 0⟩) { heap := s.heap.set s.next (.loop (.loop r)), fams := s.fams, next := Nat.succ s.next } (w.alloc (.loop q)) := by
  refine Goes.push h (.loop (.loop r)) ⟨w.heap.size, 0, 0⟩ (.loop q) rfl rfl (fun i t hi ht => ?_) (fun i c hi hc => ?_) rfl rfl rfl rfl rfl (fun _ _ _ e => by cases e) ?_ (fun _ _ e => by cases e) ?_
  · rw [tag_set_other hi] at ht; exact ht
  · rw [cells_set_other hi] at hc; exact hc
  · rintro ⟨cs', e', f⟩ hc
    obtain ⟨h1, _⟩ := cells_some.1 hc
    rw [Hp.get_set_same] at h1
    cases h1
  · intro q' e
    cases e
    exact .loop (hr.mono (Ren.le_set h _))

/-- A NEW ITERATOR OVER A MAP. -/
theorem Goes.newIter (h : HR P base ρ s w) {r : AIter} {m : Loc} (hm : ρ r.map = some m) : Goes P base ρ s w (ρ.set s.next ⟨w.heap.size, 0, 0⟩) { heap := s.heap.set s.next (.loop (.iter r)), fams := s.fams, next := Nat.succ s.next } (w.alloc (.mapIter (some m.blk) r.since ⟨r.seen⟩ r.stepped)) := by
  refine Goes.push h (.loop (.iter r)) ⟨w.heap.size, 0, 0⟩ (.mapIter (some m.blk) r.since ⟨r.seen⟩ r.stepped) rfl rfl (fun i t hi ht => ?_) (fun i c hi hc => ?_) rfl rfl rfl rfl rfl (fun _ _ _ e => by cases e) ?_ (fun _ _ e => by cases e) ?_
  · rw [tag_set_other hi] at ht; exact ht
  · rw [cells_set_other hi] at hc; exact hc
  · rintro ⟨cs', e', f⟩ hc
    obtain ⟨h1, _⟩ := cells_some.1 hc
    rw [Hp.get_set_same] at h1
    cases h1
  · intro q' e
    cases e
    exact .iter rfl (Ren.le_set h _ _ _ hm)

/-- STORED INTO: one block of cells is rewritten; of its family the others are looked at no more. -/
theorem Goes.put (h : HR P base ρ s w) {b : Nat} {cs cs' : List Value} {e : TypeId} {f : Nat} {l : Loc} (hb : fixedTop ≤ b) (hc : s.cells b = some (cs, e, f)) (hl : ρ.at b = some l)
    {a a' : Array Value} {fz : Nat × Nat} (ha : w.heap[l.blk]? = some (.cells a e fz)) (hlen : cs'.length = cs.length) (hsz : a'.size = a.size)
    (hv : ∀ (j : Nat) (x : Value), cs'[j]? = some x → ∃ y, a'[l.off + j]? = some y ∧ VR ρ x y) : Goes P base ρ s w ρ (putRow s b cs' e f) (w.setRow l.blk a') := by
  obtain ⟨hg, hlive⟩ := cells_some.1 hc
  have htb := tag_cells hc
  have hlt := h.blk_lt htb hl
  have hother : ∀ k, k ≠ l.blk → (w.setRow l.blk a').heap[k]? = w.heap[k]? := fun k hk => by
    simp only [World.setRow, Array.getElem?_modify]
    rw [if_neg (by omega)]
  have hsame : (w.setRow l.blk a').heap[l.blk]? = some (.cells a' e fz) := setRow_heap w l.blk a a' e fz ha
  have hsize : (w.setRow l.blk a').heap.size = w.heap.size := by simp [World.setRow]
  have hch : ∀ j, j ∈ [b] → j ≠ b → ∃ q, s.fams.get f = some q ∧ j ∈ q := fun j hj hne => absurd (by simpa using hj) hne
  have htags : ∀ i t, i ≠ b → (putRow s b cs' e f).tag i = some t → s.tag i = some t := by
    intro i t hi ht
    unfold putRow at ht
    by_cases h0 : f = 0
    · subst h0
      exact (tag_set_other (n := s.next) hi) ▸ ht
    · have : Nat.beq f 0 = false := by rw [← Bool.not_eq_true, Nat.beq_eq]; exact h0
      rw [this, sel_false] at ht
      exact tag_set_fam hi hch ht
  have hcells : ∀ i c, i ≠ b → (putRow s b cs' e f).cells i = some c → s.cells i = some c := by
    intro i c hi ht
    unfold putRow at ht
    by_cases h0 : f = 0
    · subst h0
      exact (cells_set_other (n := s.next) hi) ▸ ht
    · have : Nat.beq f 0 = false := by rw [← Bool.not_eq_true, Nat.beq_eq]; exact h0
      rw [this, sel_false] at ht
      exact cells_set_fam hi hch ht
  -- whoever else is alive bears another tag
  have hdiff : ∀ i t, i ≠ b → (putRow s b cs' e f).tag i = some t → t ≠ (if f = 0 then (0, b) else (1, f)) := by
    intro i t hi ht
    have ht' := htags i t hi ht
    unfold putRow at ht
    by_cases h0 : f = 0
    · subst h0
      simp only [if_true]
      rintro rfl
      unfold St.tag at ht'
      split at ht'
      · split at ht'
        · simp at ht'; exact hi ht'
        · split at ht'
          · split at ht' <;> simp at ht'
          · cases ht'
      · simp at ht'; exact hi ht'
      · simp at ht'; exact hi ht'
      · cases ht'
    · have hbf : Nat.beq f 0 = false := by rw [← Bool.not_eq_true, Nat.beq_eq]; exact h0
      rw [hbf, sel_false] at ht
      simp only [h0, if_false]
      rintro rfl
      unfold St.tag at ht
      simp only [Hp.get_set_other _ _ hi] at ht
      split at ht
      · rename_i cs1 e1 g1 hg1
        by_cases h1 : g1 = 0
        · simp [h1] at ht
        · simp only [h1, if_false] at ht
          by_cases hgf : g1 = f
          · subst hgf
            simp only [Hp.get_set_same, List.mem_singleton, hi, if_false] at ht
            cases ht
          · split at ht
            · split at ht
              · simp at ht; exact hgf ht
              · cases ht
            · cases ht
      · simp at ht
      · simp at ht
      · cases ht
  have hrow : ∀ i t q, i ≠ b → (putRow s b cs' e f).tag i = some t → ρ.at i = some q → q.blk ≠ l.blk := by
    intro i t q hi ht hq
    exact h.sep i b t _ q l (htags i t hi ht) htb (hdiff i t hi ht) hq hl
  have htb' : (putRow s b cs' e f).tag b = some (if f = 0 then (0, b) else (1, f)) := by
    unfold putRow St.tag
    simp only [Hp.get_set_same]
    by_cases h0 : f = 0
    · simp [h0]
    · have hbf : Nat.beq f 0 = false := by rw [← Bool.not_eq_true, Nat.beq_eq]; exact h0
      simp [h0, hbf, sel_false, Hp.get_set_same]
  have hHR : HR P base ρ (putRow s b cs' e f) (w.setRow l.blk a') := by
    refine ⟨fun i q hi => ?_, h.next, by rw [hsize]; exact h.base_le, fun i hi ht => ?_, fun i r hi => ?_, fun i cs1 e1 f1 hi => ?_, fun i cs1 e1 f1 hi => ?_, fun i es c hi => ?_, fun i r hi => ?_, fun i j x y u v hi hj hxy hu hv => ?_⟩
    · rw [hsize]; exact h.dom i q hi
    · have hib : i ≠ b := by omega
      cases ht' : (putRow s b cs' e f).tag i with
      | none => exact absurd ht' ht
      | some t => exact h.low i hi (by rw [htags i t hib ht']; simp)
    · by_cases hib : i = b
      · subst hib; exact h.heap_dom i _ hg
      · unfold putRow at hi
        simp only [Hp.get_set_other _ _ hib] at hi
        exact h.heap_dom i r hi
    · by_cases hib : i = b
      · subst hib
        unfold putRow at hi
        simp only [Hp.get_set_same] at hi
        cases hi
        exact h.fam_dom i _ _ _ hg
      · unfold putRow at hi
        simp only [Hp.get_set_other _ _ hib] at hi
        exact h.fam_dom i _ _ _ hi
    · by_cases hib : i = b
      · subst hib
        obtain ⟨h1, _⟩ := cells_some.1 hi
        unfold putRow at h1
        simp only [Hp.get_set_same] at h1
        cases h1
        obtain ⟨q, hq⟩ := h.rows i cs e f hc
        have hql : q = l := by have := hq.at_; rw [hl] at this; exact (Option.some.inj this).symm
        subst hql
        obtain ⟨_, a0, fz0, g1, g2, g3, g4, g5⟩ := hq
        rw [ha] at g1
        cases g1
        exact ⟨q, hl, a', fz, hsame, hv, fun hi o ho => g3 hi o (by omega), fun h0 => ⟨(g4 h0).1, by rw [hsz, (g4 h0).2.1, hlen], fun hi => by rw [hsz]; exact (g4 h0).2.2 hi⟩, fun h0 => by rw [hsz, hlen]; exact g5 h0⟩
      · have hi' := hcells i _ hib hi
        obtain ⟨q, hq⟩ := h.rows i cs1 e1 f1 hi'
        exact ⟨q, hq.move (Ren.le_refl ρ) (hother _ (hrow i _ q hib (tag_cells hi) hq.at_))⟩
    · have hib : i ≠ b := by
        rintro rfl
        unfold putRow at hi
        simp only [Hp.get_set_same] at hi
        cases hi
      have ht : (putRow s b cs' e f).tag i = some (0, i) := tag_map hi
      unfold putRow at hi
      simp only [Hp.get_set_other _ _ hib] at hi
      obtain ⟨q, hq, es', h1, h2⟩ := h.maps i es c hi
      exact ⟨q, hq, es', by rw [hother _ (hrow i _ q hib ht (by rw [Ren.at_of (h.dom i q hq).1]; exact hq))]; exact h1, h2⟩
    · have hib : i ≠ b := by
        rintro rfl
        unfold putRow at hi
        simp only [Hp.get_set_same] at hi
        cases hi
      have ht : (putRow s b cs' e f).tag i = some (0, i) := tag_loop hi
      unfold putRow at hi
      simp only [Hp.get_set_other _ _ hib] at hi
      obtain ⟨q, hq, es', h1, h2⟩ := h.loops i r hi
      exact ⟨q, hq, es', by rw [hother _ (hrow i _ q hib ht (by rw [Ren.at_of (h.dom i q hq).1]; exact hq))]; exact h1, h2⟩
    · have hi' : s.tag i = some x := by
        by_cases hib : i = b
        · subst hib; rw [htb'] at hi; rw [htb]; exact hi
        · exact htags i x hib hi
      have hj' : s.tag j = some y := by
        by_cases hjb : j = b
        · subst hjb; rw [htb'] at hj; rw [htb]; exact hj
        · exact htags j y hjb hj
      exact h.sep i j x y u v hi' hj' hxy hu hv
  refine ⟨Ren.le_refl ρ, hHR, rfl, rfl, rfl, by rw [hsize]; exact Nat.le_refl _, Nat.le_refl _, fun k hk hn => hother k ?_, ?_, fun _ _ => rfl⟩
  · rintro rfl
    exact hn ⟨b, l, _, hb, htb, by rwa [Ren.at_of hb] at hl, rfl⟩
  · rintro k ⟨i, q, t, hi, ht, hq, rfl⟩
    left
    by_cases hib : i = b
    · subst hib; rw [htb'] at ht; exact ⟨i, q, t, hi, by rw [htb]; exact ht, hq, rfl⟩
    · exact ⟨i, q, t, hi, htags i t hib ht, hq, rfl⟩

/-- ANOTHER SLICE OF A FAMILY, IN THE SAME BLOCK: of the family itself and the one that it came from stay. -/
theorem Goes.share (h : HR P base ρ s w) {b : Nat} {cs cells : List Value} {e : TypeId} {f : Nat} {l ln : Loc} (hb : fixedTop ≤ b) (hc : s.cells b = some (cs, e, f)) (hf : f ≠ 0) (hl : ρ.at b = some l)
    {a a' : Array Value} {fz : Nat × Nat} (ha : w.heap[l.blk]? = some (.cells a e fz)) (hsz : a'.size = a.size)
    (hv : ∀ (j : Nat) (x : Value), cs[j]? = some x → ∃ y, a'[l.off + j]? = some y ∧ VR ρ x y)
    (hln : ln.blk = l.blk) (hn : ∀ (j : Nat) (x : Value), cells[j]? = some x → ∃ y, a'[ln.off + j]? = some y ∧ VR ρ x y)
    (hcap : ∀ n, size P e = some n → ln.off + ln.cap * n ≤ a.size ∧ cells.length ≤ ln.cap * n) :
    Goes P base ρ s w (ρ.set s.next ln) { heap := s.heap.set s.next (.row cells e f), fams := s.fams.set f [s.next, b], next := Nat.succ s.next } (w.setRow l.blk a') := by
  obtain ⟨hg, hlive⟩ := cells_some.1 hc
  have hle := Ren.le_set h ln
  have htb := tag_cells hc
  have hlt := h.blk_lt htb hl
  have hbn : b < s.next := h.heap_dom b _ hg
  have hnx := h.next
  have hfn := h.fam_dom b _ _ _ hg
  have hlb : ρ b = some l := by rwa [Ren.at_of hb] at hl
  obtain ⟨q0, hq0⟩ := h.rows b cs e f hc
  have hql : q0 = l := by have := hq0.at_; rw [hl] at this; exact (Option.some.inj this).symm
  subst hql
  obtain ⟨_, a0, fz0, g1, g2, g3, g4, g5⟩ := hq0
  rw [ha] at g1
  cases g1
  obtain ⟨n, hn1, hn2, hn3, hn4⟩ := g5 hf
  have hother : ∀ k, k ≠ q0.blk → (w.setRow q0.blk a').heap[k]? = w.heap[k]? := fun k hk => by
    simp only [World.setRow, Array.getElem?_modify]
    rw [if_neg (by omega)]
  have hsame : (w.setRow q0.blk a').heap[q0.blk]? = some (.cells a' e fz) := setRow_heap w q0.blk a a' e fz ha
  have hsize : (w.setRow q0.blk a').heap.size = w.heap.size := by simp [World.setRow]
  obtain ⟨lst, hlst, hmem⟩ := hlive.resolve_left hf
  have hch : ∀ j, j ∈ [s.next, b] → j ≠ s.next → ∃ q, s.fams.get f = some q ∧ j ∈ q := fun j hj hne => by
    have : j = b := by simpa [hne] using hj
    subst this
    exact ⟨lst, hlst, hmem⟩
  generalize hs' : ({ heap := s.heap.set s.next (.row cells e f), fams := s.fams.set f [s.next, b], next := Nat.succ s.next } : St) = s'
  have hheap : s'.heap = s.heap.set s.next (.row cells e f) := by rw [← hs']
  have hnext' : s'.next = s.next + 1 := by rw [← hs']
  have htags : ∀ i t, i ≠ s.next → s'.tag i = some t → s.tag i = some t := by
    intro i t hi ht
    rw [← hs'] at ht
    exact tag_set_fam hi hch ht
  have hcells : ∀ i c, i ≠ s.next → s'.cells i = some c → s.cells i = some c := by
    intro i c hi ht
    rw [← hs'] at ht
    exact cells_set_fam hi hch ht
  have htn : s'.tag s.next = some (1, f) := by
    rw [← hs']; unfold St.tag
    simp [Hp.get_set_same, hf]
  have htb1 : s.tag b = some (1, f) := by rw [htb]; simp [hf]
  -- whoever is neither the new one nor b bears another tag
  have hdiff : ∀ i t, i ≠ s.next → i ≠ b → s'.tag i = some t → t ≠ (1, f) := by
    intro i t hi hib ht
    rw [← hs'] at ht
    rintro rfl
    unfold St.tag at ht
    simp only [Hp.get_set_other _ _ hi] at ht
    split at ht
    · rename_i cs1 e1 g1 hg1
      by_cases h1 : g1 = 0
      · simp [h1] at ht
      · simp only [h1, if_false] at ht
        by_cases hgf : g1 = f
        · subst hgf
          simp [Hp.get_set_same, hi, hib] at ht
        · split at ht
          · split at ht
            · simp at ht; exact hgf ht
            · cases ht
          · cases ht
    · simp at ht
    · simp at ht
    · cases ht
  have hblk : ∀ i t q, i ≠ s.next → i ≠ b → s'.tag i = some t → ρ.at i = some q → q.blk ≠ q0.blk := fun i t q hi hib ht hq =>
    h.sep i b t _ q q0 (htags i t hi ht) htb1 (hdiff i t hi hib ht) hq hl
  have hatn : (ρ.set s.next ln).at s.next = some ln := by rw [Ren.at_of hnx, Ren.set_same]
  have hato : ∀ i, i ≠ s.next → (ρ.set s.next ln).at i = ρ.at i := fun i hi => by
    by_cases hlo : i < fixedTop
    · rw [Ren.at_low hlo, Ren.at_low hlo]
    · rw [Ren.at_of (by omega), Ren.at_of (by omega), Ren.set_other ρ ln hi]
  have hHR : HR P base (ρ.set s.next ln) s' (w.setRow q0.blk a') := by
    refine ⟨fun i q hi => ?_, by omega, by rw [hsize]; exact h.base_le, fun i hi ht => ?_, fun i r hi => ?_, fun i cs1 e1 f1 hi => ?_, fun i cs1 e1 f1 hi => ?_, fun i es c hi => ?_, fun i r hi => ?_, fun i j x y u v hi hj hxy hu hv => ?_⟩
    · rw [hsize]
      by_cases e' : i = s.next
      · subst e'
        rw [Ren.set_same] at hi
        cases hi
        have := h.dom b q0 hlb
        exact ⟨hnx, by omega, by omega, by omega⟩
      · rw [Ren.set_other ρ ln e'] at hi
        obtain ⟨x, y, z, u⟩ := h.dom i q hi
        exact ⟨x, by omega, z, u⟩
    · have e' : i ≠ s.next := by omega
      cases ht' : s'.tag i with
      | none => exact absurd ht' ht
      | some t => exact h.low i hi (by rw [htags i t e' ht']; simp)
    · by_cases e' : i = s.next
      · omega
      · rw [hheap, Hp.get_set_other _ _ e'] at hi
        have := h.heap_dom i r hi
        omega
    · by_cases e' : i = s.next
      · subst e'
        rw [hheap, Hp.get_set_same] at hi
        cases hi
        omega
      · rw [hheap, Hp.get_set_other _ _ e'] at hi
        have := h.fam_dom i _ _ _ hi
        omega
    · by_cases e' : i = s.next
      · subst e'
        obtain ⟨h1, _⟩ := cells_some.1 hi
        rw [hheap, Hp.get_set_same] at h1
        cases h1
        obtain ⟨c1, c2⟩ := hcap n hn1
        exact ⟨ln, hatn, a', fz, by rw [hln]; exact hsame, fun j x hj => let ⟨y, hy, hv⟩ := hn j x hj; ⟨y, hy, hv.mono hle⟩, fun _ o ho => g3 hb o (by omega),
          fun h0 => absurd h0 hf, fun _ => ⟨n, hn1, hn2, by omega, c2⟩⟩
      · have hi' := hcells i _ e' hi
        by_cases hib : i = b
        · subst hib
          rw [hc] at hi'
          cases hi'
          exact ⟨q0, by rw [hato i e']; exact hl, a', fz, hsame, fun j x hj => let ⟨y, hy, hv⟩ := hv j x hj; ⟨y, hy, hv.mono hle⟩, fun hi o ho => g3 hi o (by omega),
            fun h0 => absurd h0 hf, fun _ => ⟨n, hn1, hn2, by omega, hn4⟩⟩
        · obtain ⟨q, hq⟩ := h.rows i cs1 e1 f1 hi'
          exact ⟨q, hq.move hle (hother _ (hblk i _ q e' hib (tag_cells hi) hq.at_))⟩
    · have e' : i ≠ s.next := by
        rintro rfl
        rw [hheap, Hp.get_set_same] at hi
        cases hi
      have ht : s'.tag i = some (0, i) := tag_map hi
      rw [hheap, Hp.get_set_other _ _ e'] at hi
      have hib : i ≠ b := by rintro rfl; rw [hg] at hi; cases hi
      obtain ⟨q, hq, es', h1, h2⟩ := h.maps i es c hi
      exact ⟨q, hle _ _ hq, es', by rw [hother _ (hblk i _ q e' hib ht (by rw [Ren.at_of (h.dom i q hq).1]; exact hq))]; exact h1, h2.mono hle⟩
    · have e' : i ≠ s.next := by
        rintro rfl
        rw [hheap, Hp.get_set_same] at hi
        cases hi
      have ht : s'.tag i = some (0, i) := tag_loop hi
      rw [hheap, Hp.get_set_other _ _ e'] at hi
      have hib : i ≠ b := by rintro rfl; rw [hg] at hi; cases hi
      obtain ⟨q, hq, es', h1, h2⟩ := h.loops i r hi
      exact ⟨q, hle _ _ hq, es', by rw [hother _ (hblk i _ q e' hib ht (by rw [Ren.at_of (h.dom i q hq).1]; exact hq))]; exact h1, h2.mono hle⟩
    · by_cases ei : i = s.next
      · subst ei
        rw [htn] at hi
        cases hi
        rw [hatn] at hu
        cases hu
        have ej : j ≠ s.next := by rintro rfl; rw [htn] at hj; cases hj; exact hxy rfl
        rw [hato j ej] at hv
        rw [hln]
        exact h.sep b j _ y q0 v htb1 (htags j y ej hj) hxy hl hv
      · rw [hato i ei] at hu
        by_cases ej : j = s.next
        · subst ej
          rw [htn] at hj
          cases hj
          rw [hatn] at hv
          cases hv
          rw [hln]
          exact h.sep i b x _ u q0 (htags i x ei hi) htb1 hxy hu hl
        · rw [hato j ej] at hv
          exact h.sep i j x y u v (htags i x ei hi) (htags j y ej hj) hxy hu hv
  refine ⟨hle, hHR, rfl, rfl, rfl, by rw [hsize]; exact Nat.le_refl _, by omega, fun k hk hn => hother k ?_, ?_, fun i hi => Ren.set_other ρ ln (by omega)⟩
  · rintro rfl
    exact hn ⟨b, q0, _, hb, htb, hlb, rfl⟩
  · rintro k ⟨i, q, t, hi, ht, hq, rfl⟩
    left
    by_cases e' : i = s.next
    · subst e'
      rw [Ren.set_same] at hq
      cases hq
      exact ⟨b, q0, _, hb, htb, hlb, hln.symm⟩
    · rw [Ren.set_other ρ ln e'] at hq
      exact ⟨i, q, t, hi, htags i t e' ht, hq, rfl⟩

/-- ANOTHER SLICE OF A FAMILY, IN A NEW BLOCK (the old one was too small). -/
theorem Goes.shareNew (h : HR P base ρ s w) {b : Nat} {cs cells : List Value} {e : TypeId} {f : Nat} {cap n k : Nat} (hc : s.cells b = some (cs, e, f)) (hf : f ≠ 0) {a : Array Value}
    (hn : size P e = some n) (hn0 : 0 < n) (ha : ∀ (j : Nat) (x : Value), cells[j]? = some x → ∃ y, a[j]? = some y ∧ VR ρ x y) (hsz : a.size = cap * n) (hle : cells.length ≤ cap * n) :
    Goes P base ρ s w (ρ.set s.next ⟨w.heap.size, 0, cap⟩) { heap := s.heap.set s.next (.row cells e f), fams := s.fams.set f [s.next, b], next := Nat.succ s.next }
      ({ w with drawn := k }.alloc (.cells a e)) := by
  obtain ⟨hg, hlive⟩ := cells_some.1 hc
  obtain ⟨lst, hlst, hmem⟩ := hlive.resolve_left hf
  have hfn := h.fam_dom b _ _ _ hg
  have hch : ∀ j, j ∈ [s.next, b] → j ≠ s.next → ∃ q, s.fams.get f = some q ∧ j ∈ q := fun j hj hne => by
    have : j = b := by simpa [hne] using hj
    subst this
    exact ⟨lst, hlst, hmem⟩
  refine Goes.push h (.row cells e f) ⟨w.heap.size, 0, cap⟩ (.cells a e) rfl rfl (fun i t hi ht => ?_) (fun i c hi hc => ?_) rfl rfl rfl rfl rfl ?_ ?_ (fun _ _ e => by cases e) (fun _ e => by cases e)
  · exact tag_set_fam hi hch ht
  · exact cells_set_fam hi hch hc
  · intro cs' e' f hr; cases hr; omega
  · rintro ⟨cs', e', f'⟩ hc
    obtain ⟨h1, _⟩ := cells_some.1 hc
    rw [Hp.get_set_same] at h1
    cases h1
    refine ⟨by rw [Ren.at_of h.next, Ren.set_same], a, (0, 0), alloc_at { w with drawn := k } _, ?_, fun _ o _ => by omega, fun h0 => absurd h0 hf, fun _ => ⟨n, hn, hn0, by simp [hsz], hle⟩⟩
    intro j x hj
    obtain ⟨y, hy, hv⟩ := ha j x hj
    exact ⟨y, by simpa using hy, hv.mono (Ren.le_set h _)⟩

/-- A map or a loop's record is written anew. -/
theorem Goes.putObj (h : HR P base ρ s w) {i : Nat} {l : Loc} {r : Row} {o : Obj} (ht : s.tag i = some (0, i)) (hl : ρ i = some l)
    (hr : (∃ es c, r = .map es c ∧ ∃ es', o = .map es' c ∧ EsR ρ es es'.toList) ∨ (∃ q, r = .loop q ∧ ObjR ρ l q o)) :
    Goes P base ρ s w ρ (s.put i r) { w with heap := w.heap.setIfInBounds l.blk o } := by
  obtain ⟨d1, d2, d3, d4⟩ := h.dom i l hl
  have hother : ∀ k, k ≠ l.blk → (w.heap.setIfInBounds l.blk o)[k]? = w.heap[k]? := fun k hk => by
    rw [Array.getElem?_setIfInBounds, if_neg (by omega)]
  have hsame : (w.heap.setIfInBounds l.blk o)[l.blk]? = some o := by
    rw [Array.getElem?_setIfInBounds, if_pos rfl, if_pos d4]
  have hsize : (w.heap.setIfInBounds l.blk o).size = w.heap.size := by simp
  have hget : ∀ j, j ≠ i → (s.put i r).heap.get j = s.heap.get j := fun j hj => Hp.get_set_other _ _ hj
  have hgets : (s.put i r).heap.get i = some r := Hp.get_set_same _ _ _
  have hti : (s.put i r).tag i = some (0, i) := by
    rcases hr with ⟨es, c, rfl, _⟩ | ⟨q, rfl, _⟩
    · exact tag_map hgets
    · exact tag_loop hgets
  have htags : ∀ j t, (s.put i r).tag j = some t → s.tag j = some t := by
    intro j t hj
    by_cases e : j = i
    · subst e; rw [hti] at hj; rw [ht]; exact hj
    · unfold St.tag at hj ⊢
      rw [hget j e] at hj
      exact hj
  have hcells : ∀ j c, (s.put i r).cells j = some c → j ≠ i ∧ s.cells j = some c := by
    rintro j ⟨cs, e, f⟩ hj
    have hj' := cells_some.1 hj
    have hji : j ≠ i := by
      rintro rfl
      rw [hgets] at hj'
      rcases hr with ⟨es, c, rfl, _⟩ | ⟨q, rfl, _⟩ <;> simp at hj'
    exact ⟨hji, cells_some.2 ⟨by rw [← hget j hji]; exact hj'.1, hj'.2⟩⟩
  have hblk : ∀ j t q, j ≠ i → s.tag j = some t → ρ.at j = some q → q.blk ≠ l.blk := by
    intro j t q hj htj hq
    refine h.sep j i t _ q l htj ht ?_ hq (by rw [Ren.at_of d1]; exact hl)
    rintro rfl
    unfold St.tag at htj
    split at htj
    · split at htj
      · simp at htj; exact hj htj
      · split at htj
        · split at htj <;> simp at htj
        · cases htj
    · simp at htj; exact hj htj
    · simp at htj; exact hj htj
    · cases htj
  refine ⟨Ren.le_refl ρ, ?_, rfl, rfl, rfl, by show _ ≤ (w.heap.setIfInBounds l.blk o).size; rw [hsize]; exact Nat.le_refl _, Nat.le_refl _, fun k hk hn => hother k ?_, ?_, fun _ _ => rfl⟩
  · refine ⟨fun j q hj => by show _ ∧ _ ∧ _ ∧ _ < (w.heap.setIfInBounds l.blk o).size; rw [hsize]; exact h.dom j q hj, h.next, by show base ≤ (w.heap.setIfInBounds l.blk o).size; rw [hsize]; exact h.base_le, fun j hj htj => ?_, fun j q hj => ?_, fun j cs e f hj => ?_,
      fun j cs e f hj => ?_, fun j es c hj => ?_, fun j q hj => ?_, fun j k x y u v hj hk hxy hu hv => h.sep j k x y u v (htags j x hj) (htags k y hk) hxy hu hv⟩
    · cases ht' : (s.put i r).tag j with
      | none => exact absurd ht' htj
      | some t => exact h.low j hj (by rw [htags j t ht']; simp)
    · by_cases e : j = i
      · subst e; exact d2
      · rw [hget j e] at hj; exact h.heap_dom j q hj
    · by_cases e' : j = i
      · subst e'; rw [hgets] at hj
        rcases hr with ⟨es, c, rfl, _⟩ | ⟨q, rfl, _⟩ <;> simp at hj
      · rw [hget j e'] at hj; exact h.fam_dom j cs e f hj
    · obtain ⟨hji, hj'⟩ := hcells j _ hj
      obtain ⟨q, hq⟩ := h.rows j cs e f hj'
      exact ⟨q, hq.move (Ren.le_refl ρ) (hother _ (hblk j _ q hji (tag_cells hj') hq.at_))⟩
    · by_cases e' : j = i
      · subst e'
        rw [hgets] at hj
        rcases hr with ⟨es0, c0, rfl, es', rfl, he⟩ | ⟨q, rfl, _⟩
        · cases hj
          exact ⟨l, hl, es', hsame, he⟩
        · cases hj
      · rw [hget j e'] at hj
        obtain ⟨q, hq, es', h1, h2⟩ := h.maps j es c hj
        exact ⟨q, hq, es', by show (w.heap.setIfInBounds l.blk o)[q.blk]? = _; rw [hother _ (hblk j _ q e' (tag_map hj) (by rw [Ren.at_of (h.dom j q hq).1]; exact hq))]; exact h1, h2⟩
    · by_cases e' : j = i
      · subst e'
        rw [hgets] at hj
        rcases hr with ⟨es0, c0, rfl, _⟩ | ⟨q0, rfl, he⟩
        · cases hj
        · cases hj
          exact ⟨l, hl, o, hsame, he⟩
      · rw [hget j e'] at hj
        obtain ⟨u, hu, q', h1, h2⟩ := h.loops j q hj
        exact ⟨u, hu, q', by show (w.heap.setIfInBounds l.blk o)[u.blk]? = _; rw [hother _ (hblk j _ u e' (tag_loop hj) (by rw [Ren.at_of (h.dom j u hu).1]; exact hu))]; exact h1, h2⟩
  · rintro rfl
    exact hn ⟨i, l, _, d1, ht, hl, rfl⟩
  · rintro k ⟨j, q, t, hj, htj, hq, rfl⟩
    exact .inl ⟨j, q, t, hj, htags j t htj, hq, rfl⟩
end
end Go.Ax

namespace Go.Ax
open Go

theorem run_storeCells_gen (P : Program) (g o : Nat) (t : TypeId) (fz : Nat × Nat) : ∀ (vs : List Value) (i : Nat) (cur : Array Value) (w : World), w.heap[g]? = some (.cells cur t fz) → o + i + vs.length ≤ cur.size →
    (∀ k, k < cur.size → ¬ (fz.1 ≤ k ∧ k < fz.2)) → (∀ v ∈ vs, v.oneCell' = true) →
    (Go.storeCells ⟨g, o, none⟩ vs i).run P w = .ok () (w.setRow g (cur.toList.take (o + i) ++ vs ++ cur.toList.drop (o + i + vs.length)).toArray)
  | [], i, cur, w, hg, _, _, _ => by
    simp only [Go.storeCells, List.append_nil, List.length_nil, Nat.add_zero, List.take_append_drop, Array.toArray_toList]
    rw [setRow_self w g cur t fz hg]
    rfl
  | v :: rest, i, cur, w, hg, hl, hz, h1 => by
    have hi : o + i < cur.size := by simp at hl; omega
    have hadd : (⟨g, o, none⟩ : Addr).add i = ⟨g, o + i, none⟩ := by unfold Addr.add; split <;> simp_all
    have hcell : w.cell? ⟨g, o + i, none⟩ = some cur[o + i] := by simp [World.cell?, hg, hi]
    have hz' := hz (o + i) hi
    have hfro : w.frozen? ⟨g, o + i, none⟩ = false := by
      have h2 : (decide (fz.1 ≤ o + i) && decide (o + i < fz.2)) = false := by
        rw [← Bool.not_eq_true]; simpa using hz'
      simp only [World.frozen?, hg]
      exact h2
    have hst : (Go.store ((⟨g, o, none⟩ : Addr).add i) v).run P w = .ok () (w.setRow g (cur.setIfInBounds (o + i) v)) := by
      rw [hadd, run_store P w _ v _ (h1 v (by simp)), hcell]
      simp [hfro, setCell_eq_setRow w g (o + i) cur t fz v hg]
    have ih := run_storeCells_gen P g o t fz rest (i + 1) (cur.setIfInBounds (o + i) v) (w.setRow g (cur.setIfInBounds (o + i) v)) (setRow_heap w g cur _ t _ hg) (by simp at hl ⊢; omega) (by simpa using hz) (fun x hx => h1 x (by simp [hx]))
    simp only [Go.storeCells, Sem.run_bind, hst, Result.andThen_ok, ih, setRow_setRow]
    congr 3
    have e := list_seg_step cur.toList (o + i) v rest (by simp at hl ⊢; omega)
    simpa [Array.toList_setIfInBounds, Nat.add_assoc] using e

section
variable {P : Program} {base : Nat} {ρ : Ren} {s s' : St} {w : World}

theorem isOne_vr {v c : Value} (h : VR ρ v c) (h1 : isOne v = true) : c.oneCell' = true := by
  cases h <;> first | rfl | cases h1

theorem allOne_cons (v : Value) (l : List Value) : allOne (v :: l) = sel (isOne v) (allOne l) false := rfl
theorem allOne_vrs {l l' : List Value} (h : VRs ρ l l') (h1 : allOne l = true) : ∀ c ∈ l', c.oneCell' = true := by
  induction l generalizing l' with
  | nil => cases h; simp
  | cons v t ih =>
    cases h with
    | cons hv ht =>
      rw [allOne_cons, sel_eq] at h1
      split at h1
      · rename_i h0
        intro c hc
        rcases List.mem_cons.1 hc with rfl | hc
        · exact isOne_vr hv h0
        · exact ih ht h1 c hc
      · cases h1

theorem cellsOf_vr {v c : Value} (h : VR ρ v c) : VRs ρ (cellsOf v) c.cells.toList := by
  cases h with
  | agg ha => exact ha
  | bool b => exact .cons (.bool b) .nil
  | int k n => exact .cons (.int k n) .nil
  | string s => exact .cons (.string s) .nil
  | ptrNil => exact .cons .ptrNil .nil
  | ptr h => exact .cons (.ptr h) .nil
  | sliceNil n c => exact .cons (.sliceNil n c) .nil
  | slice h => exact .cons (.slice h) .nil
  | dead a c => exact .cons (.dead a c) .nil
  | opq a n c => exact .cons (.opq a n c) .nil
  | tok i k n => exact .cons (.tok i k n) .nil
  | olen lo hi a n c h hh => exact .cons (.olen lo hi a n c h hh) .nil
  | rng lo hi n h hh => exact .cons (.rng lo hi n h hh) .nil
  | mapNil => exact .cons .mapNil .nil
  | map h => exact .cons (.map h) .nil
  | func h ha hb => exact .cons (.func h ha hb) .nil
  | nilFunc => exact .cons .nilFunc .nil
  | iface t h => exact .cons (.iface t h) .nil
  | nilIface => exact .cons .nilIface .nil
  | tuple h => exact .cons (.tuple h) .nil

/-- The cells of a row from o on, n of them, as the model has them. -/
theorem RowR.seg {i : Nat} {cs : List Value} {e : TypeId} {f : Nat} {l : Loc} (h : RowR P ρ w i cs e f l) {o n : Nat} (ho : o + n ≤ cs.length) :
    ∃ cl, VRs ρ ((cs.drop o).take n) cl ∧ cl.length = n ∧ ∀ (j : Nat) (v : Value), cl[j]? = some v → w.cell? ⟨l.blk, l.off + o + j, none⟩ = some v := by
  obtain ⟨_, a, fz, h1, h2, _⟩ := h
  refine ⟨(a.toList.drop (l.off + o)).take n, ?_, ?_, ?_⟩
  · refine VRs.of_get ?_ fun k v hk => ?_
    · have hsz : l.off + o + n ≤ a.size ∨ n = 0 := by
        by_cases h0 : n = 0
        · exact .inr h0
        · left
          have hlt : o + (n - 1) < cs.length := by omega
          obtain ⟨y, hy, _⟩ := h2 (o + (n - 1)) _ (List.getElem?_eq_getElem hlt)
          have := (Array.getElem?_eq_some_iff.1 hy).1
          omega
      rcases hsz with hsz | hsz
      · simp; omega
      · subst hsz; simp
    · rw [List.getElem?_take] at hk
      split at hk
      · rename_i hkn
        rw [List.getElem?_drop] at hk
        obtain ⟨y, hy, hv⟩ := h2 _ _ hk
        refine ⟨y, ?_, hv⟩
        rw [List.getElem?_take, if_pos hkn, List.getElem?_drop]
        have : l.off + o + k = l.off + (o + k) := by omega
        rw [this]
        simpa using hy
      · cases hk
  · by_cases h0 : n = 0
    · subst h0; simp
    · have hlt : o + (n - 1) < cs.length := by omega
      obtain ⟨y, hy, _⟩ := h2 (o + (n - 1)) _ (List.getElem?_eq_getElem hlt)
      have := (Array.getElem?_eq_some_iff.1 hy).1
      simp; omega
  · intro j v hj
    rw [List.getElem?_take] at hj
    split at hj
    · rw [List.getElem?_drop] at hj
      simp only [World.cell?, h1]
      simpa using hj
    · cases hj

theorem underlying_of {t : TypeId} {g : Bool} (h : isAgg P t = some g) : ∃ d, P.underlying t = some d ∧ g = descAgg d := by
  unfold isAgg at h
  obtain ⟨d, h1, h2⟩ := obind_some.1 h
  exact ⟨d, h1, (Option.some.inj h2).symm⟩

theorem run_isAgg {t : TypeId} {g : Bool} (h : isAgg P t = some g) : (Go.isAgg t).run P w = .ok g w := by
  obtain ⟨d, h1, rfl⟩ := underlying_of h
  simp only [Go.isAgg, Sem.run_bind, run_underlying h1, Result.andThen_ok]
  cases d <;> rfl

theorem size_info {t : TypeId} {n : Nat} (h : size P t = some n) : ∃ i, P.info? t = some i ∧ i.size = n := by
  unfold size at h
  cases hi : P.info? t with
  | none => simp [hi] at h
  | some i => simp [hi] at h; exact ⟨i, rfl, h⟩

theorem run_sizeOf {t : TypeId} {n : Nat} (h : size P t = some n) : (Go.sizeOf t).run P w = .ok n w := by
  obtain ⟨i, h1, rfl⟩ := size_info h
  simp [Go.sizeOf, Go.typeInfo, h1]

theorem add_eq (b o n : Nat) : (⟨b, o, none⟩ : Addr).add n = ⟨b, o + n, none⟩ := by
  unfold Addr.add; split <;> simp_all

/-- A LOAD. -/
theorem load_sound (h : HR P base ρ s w) {t : TypeId} {b o : Nat} {v : Value} {l : Loc} (hl : ρ.at b = some l) (hv : load P s t b o = some v) :
    ∃ c, (Go.loadVar t ⟨l.blk, l.off + o, none⟩).run P w = .ok c w ∧ VR ρ v c := by
  unfold load at hv
  obtain ⟨⟨cs, e, f⟩, hc, hv⟩ := obind_some.1 hv
  obtain ⟨q, hq⟩ := h.rows b cs e f hc
  have : q = l := by have := hq.at_; rw [hl] at this; exact (Option.some.inj this).symm
  subst this
  unfold loadCs at hv
  obtain ⟨g, hg, hv⟩ := obind_some.1 hv
  have hr := run_isAgg (P := P) (w := w) hg
  cases g with
  | true =>
    rw [sel_true] at hv
    obtain ⟨n, hn, hv⟩ := obind_some.1 hv
    obtain ⟨r, hr', hv⟩ := obind_some.1 hv
    cases hv
    rw [takeN_eq, dropL_eq] at hr'
    obtain ⟨h1, rfl⟩ := hr'
    by_cases ho : o ≤ cs.length
    · obtain ⟨cl, h2, h3, h4⟩ := hq.seg (o := o) (n := n) (by simp at h1; omega)
      refine ⟨.agg ⟨cl⟩, ?_, .agg h2⟩
      have hl' := run_loadCells_list (P := P) w ⟨q.blk, q.off + o, none⟩ cl (fun j v hj => by rw [add_eq]; exact h4 j v hj)
      rw [h3] at hl'
      simp [Go.loadVar, hr, run_sizeOf hn, hl']
    · have : n = 0 := by simp at h1; omega
      subst this
      refine ⟨.agg #[], ?_, by simpa [mkAgg] using VR.agg (VRs.nil (ρ := ρ))⟩
      have hl' := run_loadCells_list (P := P) w ⟨q.blk, q.off + o, none⟩ [] (fun j v hj => by simp at hj)
      simp at hl'
      simp [Go.loadVar, hr, run_sizeOf hn, hl']
  | false =>
    rw [sel_false, nth_eq] at hv
    obtain ⟨_, a, fz, h1, h2, _⟩ := hq
    obtain ⟨y, hy, hvy⟩ := h2 _ _ hv
    refine ⟨y, ?_, hvy⟩
    have hcell : w.cell? ⟨q.blk, q.off + o, none⟩ = some y := by simp only [World.cell?, h1]; simpa using hy
    simp [Go.loadVar, hr, hcell]

/-- CELLS WRITTEN. -/
theorem storeCells_sound (h : HR P base ρ s w) {b o : Nat} {vs cl : List Value} {l : Loc} (hl : ρ.at b = some l) (hs : storeCells s b o vs = some s') (hv : VRs ρ vs cl) :
    ∃ w', (Go.storeCells ⟨l.blk, l.off + o, none⟩ cl).run P w = .ok () w' ∧ Goes P base ρ s w ρ s' w' := by
  unfold storeCells at hs
  obtain ⟨hg, hs⟩ := guard_some.1 hs
  simp only [Bool.and_eq_true] at hg
  obtain ⟨hft, hone⟩ := hg
  have hb : fixedTop ≤ b := Nat.le_of_ble_eq_true hft
  obtain ⟨⟨cs, e, f⟩, hc, hs⟩ := obind_some.1 hs
  obtain ⟨cs', hcs', hs⟩ := obind_some.1 hs
  cases hs
  rw [splice_eq] at hcs'
  obtain ⟨hlen, rfl⟩ := hcs'
  dsimp only at hlen
  obtain ⟨q, hq⟩ := h.rows b cs e f hc
  have : q = l := by have := hq.at_; rw [hl] at this; exact (Option.some.inj this).symm
  subst this
  obtain ⟨_, a, fz, h1, h2, h3, h4⟩ := hq
  have hvl := hv.length
  have hsz : q.off + o + cl.length ≤ a.size := by
    by_cases h0 : vs.length = 0
    · -- nothing is written
      by_cases hcs : cs.length = 0
      · have ho : o = 0 := by omega
        by_cases hf : f = 0
        · have := (h4.1 hf); omega
        · obtain ⟨n, _, _, h5, _⟩ := h4.2 hf
          omega
      · have hlt : cs.length - 1 < cs.length := by omega
        obtain ⟨y, hy, _⟩ := h2 (cs.length - 1) _ (List.getElem?_eq_getElem hlt)
        have := (Array.getElem?_eq_some_iff.1 hy).1
        omega
    · have hlt : o + (vs.length - 1) < cs.length := by omega
      obtain ⟨y, hy, _⟩ := h2 (o + (vs.length - 1)) _ (List.getElem?_eq_getElem hlt)
      have := (Array.getElem?_eq_some_iff.1 hy).1
      omega
  have hrun := run_storeCells_gen P q.blk (q.off + o) e fz cl 0 a w h1 (by omega) (h3 hb) (allOne_vrs hv hone)
  refine ⟨_, hrun, Goes.put h hb hc hl h1 (by simp; omega) (by simp; omega) ?_⟩
  intro j x hj
  have hj' := List.getElem?_eq_some_iff.1 hj
  simp only [Nat.add_zero]
  by_cases hj1 : j < o
  · -- ahead of what is written
    have hx : cs[j]? = some x := by
      rw [List.append_assoc, List.getElem?_append_left (by simp; omega), List.getElem?_take, if_pos hj1] at hj
      exact hj
    obtain ⟨y, hy, hvy⟩ := h2 j x hx
    refine ⟨y, ?_, hvy⟩
    simp only [List.getElem?_toArray]
    rw [List.append_assoc, List.getElem?_append_left (by simp; omega), List.getElem?_take, if_pos (by omega)]
    simpa using hy
  · by_cases hj2 : j < o + vs.length
    · have hx : vs[j - o]? = some x := by
        rw [List.append_assoc, List.getElem?_append_right (by simp; omega), List.getElem?_append_left (by simp; omega)] at hj
        have : j - (List.take o cs).length = j - o := by simp; omega
        rw [this] at hj
        exact hj
      obtain ⟨y, hy, hvy⟩ := hv.get hx
      refine ⟨y, ?_, hvy⟩
      simp only [List.getElem?_toArray]
      rw [List.append_assoc, List.getElem?_append_right (by simp; omega), List.getElem?_append_left (by simp; omega)]
      have : q.off + j - (List.take (q.off + o) a.toList).length = j - o := by simp; omega
      rw [this]
      exact hy
    · have hx : cs[j]? = some x := by
        rw [List.getElem?_append_right (by simp; omega), List.getElem?_drop] at hj
        have : o + vs.length + (j - (List.take o cs ++ vs).length) = j := by simp; omega
        rw [this] at hj
        exact hj
      obtain ⟨y, hy, hvy⟩ := h2 j x hx
      refine ⟨y, ?_, hvy⟩
      simp only [List.getElem?_toArray]
      have hya := (Array.getElem?_eq_some_iff.1 hy).1
      rw [List.getElem?_append_right (by simp; omega), List.getElem?_drop]
      have : q.off + o + cl.length + (q.off + j - (List.take (q.off + o) a.toList ++ cl).length) = q.off + j := by simp; omega
      rw [this]
      simpa using hy

/-- A STORE. -/
theorem store_sound (h : HR P base ρ s w) {t : TypeId} {b o : Nat} {v c : Value} {l : Loc} (hl : ρ.at b = some l) (hs : store P s t b o (cellsOf v) = some s') (hv : VR ρ v c) :
    ∃ w', (Go.storeVar t ⟨l.blk, l.off + o, none⟩ c).run P w = .ok () w' ∧ Goes P base ρ s w ρ s' w' := by
  unfold store at hs
  obtain ⟨n, hn, hs⟩ := obind_some.1 hs
  obtain ⟨hg, hs⟩ := guard_some.1 hs
  have hlen : (cellsOf v).length = n := by rw [lenL_eq] at hg; exact Nat.eq_of_beq_eq_true hg
  have hcv := cellsOf_vr hv
  obtain ⟨w', hr, hgo⟩ := storeCells_sound h hl hs hcv
  refine ⟨w', ?_, hgo⟩
  have hcl : c.cells.size = n := by have := hcv.length; simp at this; omega
  simp [Go.storeVar, run_sizeOf hn, hcl, hr]
end
end Go.Ax

namespace Go.Ax
open Go

def EvR (ρ : Ren) (ev : Ev) (η : Operand → Value) : Prop := ∀ x v, ev x = some v → VR ρ v (η x)

theorem EvR.mono {ρ ρ' : Ren} (h : ρ.le ρ') {ev : Ev} {η : Operand → Value} (he : EvR ρ ev η) : EvR ρ' ev η := fun x v hx => (he x v hx).mono h

/-- A value, or nothing. -/
def Gives (P : Program) (base : Nat) (ρ : Ren) (s : St) (w : World) (run : Result Next) (v : Value) (s' : St) : Prop :=
  ∃ ρ' w' c, (run = .ok (.value c) w' ∨ (run = .ok .skip w' ∧ c = undef)) ∧ Goes P base ρ s w ρ' s' w' ∧ VR ρ' v c

def ResR (P : Program) (base : Nat) (ρ : Ren) (s : St) (w : World) (run : Result Next) : Res → Prop
  | .val v s' => Gives P base ρ s w run v s'
  | .call f args s' => s' = s ∧ ∃ cargs, run = .ok (.enter f ⟨cargs⟩) w ∧ VRs ρ args cargs
  | .yield l args s' => s' = s ∧ ∃ q cargs, ρ l = some q ∧ run = (Instr.yield q.blk ⟨cargs⟩).run P w ∧ VRs ρ args cargs
  | .defer f args s' => s' = s ∧ ∃ d first captured, run = .ok (.defer d) w ∧ d.target = .fn (.func f) ⟨captured⟩ ∧ d.args = ⟨first⟩ ∧ VRs ρ args (first ++ captured)

section
variable {P : Program} {base : Nat} {ρ : Ren} {s s' : St} {w w' : World} {ev : Ev} {η : Operand → Value}

theorem gives_pure (h : HR P base ρ s w) {v c : Value} (hv : VR ρ v c) : Gives P base ρ s w (.ok (.value c) w) v s := ⟨ρ, w, c, .inl rfl, Goes.refl h, hv⟩
theorem gives_val {ρ' : Ren} (h : Goes P base ρ s w ρ' s' w') {v c : Value} (hv : VR ρ' v c) : Gives P base ρ s w (.ok (.value c) w') v s' := ⟨ρ', w', c, .inl rfl, h, hv⟩
theorem gives_skip {ρ' : Ren} (h : Goes P base ρ s w ρ' s' w') : Gives P base ρ s w (.ok .skip w') unit s' := ⟨ρ', w', undef, .inr ⟨rfl, rfl⟩, h, .tuple .nil⟩

theorem ret_some {v : Value} {s : St} {r : Res} (h : ret v s = some r) : r = .val v s := (Option.some.inj h).symm

theorem evs_some (he : EvR ρ ev η) : ∀ {xs : List Operand} {vs : List Value}, evs ev xs = some vs → VRs ρ vs (xs.map η)
  | [], vs, h => by cases h; exact .nil
  | x :: xs, vs, h => by
    change obind (ev x) (fun v => obind (evs ev xs) fun r => some (v :: r)) = some vs at h
    obtain ⟨v, hv, h⟩ := obind_some.1 h
    obtain ⟨r, hr, h⟩ := obind_some.1 h
    cases h
    exact .cons (he x v hv) (evs_some he hr)

/-! ### moves, boxes -/
theorem oMove_sound (h : HR P base ρ s w) (he : EvR ρ ev η) (C : Cfg) {x : Operand} {r : Res} (hr : oMove C ev s x = some r) : ResR P base ρ s w (.ok (.value (η x)) w) r := by
  obtain ⟨v, hv, hr⟩ := obind_some.1 hr
  rw [ret_some hr]
  exact gives_pure h (he x v hv)

theorem oPick_sound (h : HR P base ρ s w) (he : EvR ρ ev η) (C : Cfg) {c a b : Operand} {r : Res} (hr : oPick C ev s c a b = some r) :
    ResR P base ρ s w (Sem.run P (do pure (.value (if ← asBool (η c) then η a else η b))) w) r := by
  obtain ⟨v, hv, hr⟩ := obind_some.1 hr
  have hc := he c v hv
  generalize η c = q at hc
  cases hc with
  | bool t =>
    cases t
    · simpa [asBool] using oMove_sound h he C (x := b) hr
    · simpa [asBool] using oMove_sound h he C (x := a) hr
  | _ => cases hr

theorem VR.handle {t : TypeId} (hP : P.globals.size < fixedTop) : VR ρ (Ax.handle P t) (typeHandle P t) := by
  have := VR.ptr (ρ := ρ) (b := P.globals.size) (o := t) (l := ⟨P.globals.size, 0, 0⟩) (Ren.at_low hP)
  simpa [Ax.handle, typeHandle] using this

/-- A pointer to the new block. -/
theorem VR.newPtr (h : HR P base ρ s w) (l : Loc) (hl : l.off = 0) : VR (ρ.set s.next l) (Ax.ptr s.next 0) (.pointer (some ⟨l.blk, 0, none⟩)) := by
  have := VR.ptr (ρ := ρ.set s.next l) (b := s.next) (o := 0) (l := l) (by rw [Ren.at_of h.next, Ren.set_same])
  simpa [Ax.ptr, hl] using this

/-- The zero value of a type: values without an address. -/
def Pure (v : Value) : Prop := ∀ ρ, VR ρ v v

theorem zero_lt {t : TypeId} {z : List Value} (hz : zero P t = some z) : t < P.types.size := Nat.le_of_ble_eq_true (guard_some.1 hz).1

theorem zero_info {t : TypeId} {z : List Value} (hz : zero P t = some z) : ∃ i v, P.info? t = some i ∧ i.zero = some v ∧ v.cells.toList = z := by
  have hz := (guard_some.1 hz).2
  cases hi : P.info? t with
  | none => simp [hi] at hz
  | some i =>
    cases hv : i.zero with
    | none => simp [hi, hv] at hz
    | some v => exact ⟨i, v, rfl, hv, by simpa [hi, hv] using hz⟩

/-- What the executor leans on: the zero values of the types bear no address. -/
def ZeroOk (P : Program) : Prop := ∀ (t : TypeId) (i : TypeInfo) (v : Value), t < P.types.size → P.info? t = some i → i.zero = some v → ∀ ρ : Ren, VR ρ v v

theorem oAlloc_sound (h : HR P base ρ s w) (hZ : ZeroOk P) {t : TypeId} (C : Cfg) (hC : C.P = P) {r : Res} (hr : oAlloc C s t = some r) :
    ResR P base ρ s w (Sem.run P (do pure (.value (← Instr.alloc t true (.tuple #[])))) w) r := by
  unfold oAlloc at hr
  rw [hC] at hr
  obtain ⟨z, hz, hr⟩ := obind_some.1 hr
  obtain ⟨i, v, h1, h2, rfl⟩ := zero_info hz
  rw [ret_some hr]
  have hv := hZ t i v (zero_lt hz) h1 h2 ρ
  have hg := Goes.newRow (e := t) h (a := v.cells) (cs := v.cells.toList) (by
    have := cellsOf_vr hv
    have e : cellsOf v = v.cells.toList := by cases v <;> rfl
    rwa [e] at this)
  have hrun : Sem.run P (do pure (Next.value (← Instr.alloc t true (.tuple #[])))) w = .ok (.value (.pointer (some ⟨w.heap.size, 0, none⟩))) (w.alloc (.cells v.cells t)) := by
    simp [Instr.alloc, zeroValue, Go.typeInfo, h1, h2, newVar, newRow]
  rw [hrun]
  exact gives_val hg (VR.newPtr h ⟨w.heap.size, 0, 0⟩ rfl)

theorem oBox_sound (h : HR P base ρ s w) (he : EvR ρ ev η) {t : TypeId} {x : Operand} (C : Cfg) {r : Res} (hr : oBox C ev s t x = some r) :
    ResR P base ρ s w (Sem.run P (do pure (.value (← Instr.box t (η x)))) w) r := by
  unfold oBox at hr
  obtain ⟨v, hv, hr⟩ := obind_some.1 hr
  rw [ret_some hr]
  have hg := Goes.newRow (e := t) h (a := (η x).cells) (cellsOf_vr (he x v hv))
  have hrun : Sem.run P (do pure (Next.value (← Instr.box t (η x)))) w = .ok (.value (.pointer (some ⟨w.heap.size, 0, none⟩))) (w.alloc (.cells (η x).cells t)) := by
    simp [Instr.box, newVar, newRow]
  rw [hrun]
  exact gives_val hg (VR.newPtr h ⟨w.heap.size, 0, 0⟩ rfl)

/-- An operand that holds a pointer. -/
theorem withPtr_some (he : EvR ρ ev η) {a : Operand} {k : Addr → Option Res} {r : Res} (hr : withPtr ev a k = some r) :
    ∃ b o l, ρ.at b = some l ∧ η a = .pointer (some ⟨l.blk, l.off + o, none⟩) ∧ k ⟨b, o, none⟩ = some r := by
  obtain ⟨v, hv, hr⟩ := obind_some.1 hr
  have hc := he a v hv
  generalize η a = q at hc
  cases hc <;> first | exact ⟨_, _, _, by assumption, rfl, hr⟩ | cases hr

theorem oLoad_sound (h : HR P base ρ s w) (he : EvR ρ ev η) {t : TypeId} {a : Operand} (C : Cfg) (hC : C.P = P) {r : Res} (hr : oLoad C ev s t a = some r) :
    ResR P base ρ s w (Sem.run P (do pure (.value (← Instr.loadAt t (η a)))) w) r := by
  obtain ⟨b, o, l, hl, hη, hr⟩ := withPtr_some he hr
  obtain ⟨v, hv, hr⟩ := obind_some.1 hr
  rw [ret_some hr]
  rw [hC] at hv
  obtain ⟨c, hrun, hc⟩ := load_sound h hl hv
  simp only [hη, Instr.loadAt, Instr.sureAddr, Sem.run_bind, Sem.run_pure, Result.andThen_ok, hrun]
  exact gives_pure h hc

theorem oStore_sound (h : HR P base ρ s w) (he : EvR ρ ev η) {t : TypeId} {a x : Operand} (C : Cfg) (hC : C.P = P) {r : Res} (hr : oStore C ev s t a x = some r) :
    ResR P base ρ s w (Sem.run P (do Instr.storeAt t (η a) (η x); pure .skip) w) r := by
  obtain ⟨b, o, l, hl, hη, hr⟩ := withPtr_some he hr
  obtain ⟨v, hv, hr⟩ := obind_some.1 hr
  obtain ⟨s', hs, hr⟩ := obind_some.1 hr
  rw [ret_some hr]
  rw [hC] at hs
  obtain ⟨w', hrun, hg⟩ := store_sound h hl hs (he x v hv)
  simp only [hη, Instr.storeAt, Instr.sureAddr, Sem.run_bind, Sem.run_pure, Result.andThen_ok, hrun]
  exact gives_skip hg

/-! ### fields, indices -/
theorem fieldInfo_some {t : TypeId} {i : Nat} {f : Field} (hf : fieldInfo P t i = some f) : ∃ fs, P.underlying t = some (.struct fs) ∧ fs[i]? = some f := by
  unfold fieldInfo at hf
  split at hf
  · rename_i fs hu
    rw [nth_eq] at hf
    exact ⟨fs, hu, by simpa using hf⟩
  · cases hf

theorem oFieldAddr_sound (h : HR P base ρ s w) (he : EvR ρ ev η) {t : TypeId} {x : Operand} {i : Nat} (C : Cfg) (hC : C.P = P) {r : Res} (hr : oFieldAddr C ev s t x i = some r) :
    ResR P base ρ s w (Sem.run P (do pure (.value (← Instr.fieldAt t (η x) i))) w) r := by
  obtain ⟨b, o, l, hl, hη, hr⟩ := withPtr_some he hr
  obtain ⟨f, hf, hr⟩ := obind_some.1 hr
  obtain ⟨n, hn, hr⟩ := obind_some.1 hr
  obtain ⟨hg, hr⟩ := guard_some.1 hr
  rw [ret_some hr]
  rw [hC] at hf hn
  obtain ⟨fs, hu, hfs⟩ := fieldInfo_some hf
  have hn0 : n ≠ 0 := by
    rintro rfl
    simp at hg
  simp only [hη, Instr.fieldAt, run_underlying hu, hfs, Instr.sureAddr, fieldPlace, run_sizeOf hn, hn0, if_false, Sem.run_bind, Sem.run_pure, Result.andThen_ok, add_eq]
  refine gives_pure h ?_
  have := VR.ptr (ρ := ρ) (b := b) (o := o + f.offset) (l := l) hl
  simpa [ptr, Nat.add_assoc] using this

/-- A part of an aggregate. -/
theorem part_sound {t : TypeId} {cs cl : List Value} {off : Nat} {v : Value} (hv : part P t cs off = some v) (hc : VRs ρ cs cl) : ∃ c, (Go.part t ⟨cl⟩ off).run P w = .ok c w ∧ VR ρ v c := by
  unfold Ax.part at hv
  obtain ⟨g, hg, hv⟩ := obind_some.1 hv
  have hr := run_isAgg (P := P) (w := w) hg
  cases g with
  | true =>
    rw [sel_true] at hv
    obtain ⟨n, hn, hv⟩ := obind_some.1 hv
    cases hv
    refine ⟨.agg ⟨(cl.drop off).take n⟩, ?_, ?_⟩
    · simp [Go.part, hr, run_sizeOf hn]
    · rw [takeL_eq, dropL_eq]
      exact .agg ((hc.drop off).take n)
  | false =>
    rw [sel_false, nth_eq] at hv
    obtain ⟨c, h1, h2⟩ := hc.get hv
    refine ⟨c, ?_, h2⟩
    simp [Go.part, hr, h1]

theorem oField_sound (h : HR P base ρ s w) (he : EvR ρ ev η) {t : TypeId} {x : Operand} {i : Nat} (C : Cfg) (hC : C.P = P) {r : Res} (hr : oField C ev s t x i = some r) :
    ResR P base ρ s w (Sem.run P (do pure (.value (← Instr.field t (η x) i))) w) r := by
  obtain ⟨v, hv, hr⟩ := obind_some.1 hr
  have hc := he x v hv
  cases hq : η x with
  | agg cl =>
    rw [hq] at hc
    cases hc with
    | agg ha =>
      obtain ⟨f, hf, hr⟩ := obind_some.1 hr
      obtain ⟨y, hy, hr⟩ := obind_some.1 hr
      rw [ret_some hr]
      rw [hC] at hf hy
      obtain ⟨fs, hu, hfs⟩ := fieldInfo_some hf
      obtain ⟨c, hrun, hcv⟩ := part_sound (w := w) hy ha
      simp only [Instr.field, run_underlying hu, hfs, asAgg, Sem.run_bind, Sem.run_pure, Result.andThen_ok, hrun]
      exact gives_pure h hcv
  | _ =>
    rw [hq] at hc
    cases hc <;> cases hr
end
end Go.Ax

namespace Go.Ax
open Go

/-- what 'fill' does with one part: its cells go in from off on -/
theorem foldl_splice (off : Nat) (vs cells : Array Value) (h : off + vs.size ≤ cells.size) :
    (vs.zipIdx.foldl (fun cs (x : Value × Nat) => cs.setIfInBounds (off + x.2) x.1) cells).toList = cells.toList.take off ++ vs.toList ++ cells.toList.drop (off + vs.size) := by
  rw [← Array.foldl_toList, Array.toList_zipIdx]
  obtain ⟨h1, h2⟩ := Great.foldl_set off vs.toList 0 cells
  apply List.ext_getElem?
  intro k
  rw [Array.getElem?_toList, h2 k]
  simp only [Nat.add_zero, Array.length_toList]
  by_cases ha : k < off
  · rw [if_neg (by omega), List.append_assoc, List.getElem?_append_left (by simp; omega), List.getElem?_take, if_pos ha]
    simp
  · by_cases hb : k < off + vs.size
    · rw [if_pos (by omega), List.append_assoc, List.getElem?_append_right (by simp; omega), List.getElem?_append_left (by simp; omega)]
      congr 1
      simp; omega
    · rw [if_neg (by omega), List.getElem?_append_right (by simp; omega), List.getElem?_drop]
      have : off + vs.size + (k - (List.take off cells.toList ++ vs.toList).length) = k := by simp; omega
      rw [this]
      simp

inductive PsR (ρ : Ren) : List (Nat × Value) → List (Nat × Value) → Prop
  | nil : PsR ρ [] []
  | cons {i : Nat} {v c : Value} {l l' : List (Nat × Value)} (h : VR ρ v c) (hl : PsR ρ l l') : PsR ρ ((i, v) :: l) ((i, c) :: l')

section
variable {P : Program} {base : Nat} {ρ : Ren} {s s' : St} {w w' : World} {ev : Ev} {η : Operand → Value}

theorem evParts_some (he : EvR ρ ev η) : ∀ {xs : List (Nat × Operand)} {vs : List (Nat × Value)}, evParts ev xs = some vs → PsR ρ vs (xs.map fun (i, x) => (i, η x))
  | [], vs, h => by cases h; exact .nil
  | (i, x) :: xs, vs, h => by
    change obind (ev x) (fun v => obind (evParts ev xs) fun r => some ((i, v) :: r)) = some vs at h
    obtain ⟨v, hv, h⟩ := obind_some.1 h
    obtain ⟨r, hr, h⟩ := obind_some.1 h
    cases h
    exact .cons (he x v hv) (evParts_some he hr)

theorem VRs.splice {vs vs' cs cs' r : List Value} {o : Nat} (hv : VRs ρ vs vs') (hc : VRs ρ cs cs') (h : Ax.splice vs o cs = some r) : VRs ρ r (cs'.take o ++ vs' ++ cs'.drop (o + vs'.length)) := by
  rw [splice_eq] at h
  obtain ⟨_, rfl⟩ := h
  rw [hv.length]
  exact ((hc.take o).append hv).append (hc.drop _)

theorem fill_sound {place : Nat → Option (Nat × Nat)} : ∀ {ps ps' : List (Nat × Value)} {z r : List Value} {zc : Array Value}, PsR ρ ps ps' → VRs ρ z zc.toList → Ax.fill place ps z = some r →
    ∃ rc, Instr.fill place zc ps' = some rc ∧ VRs ρ r rc.toList
  | [], _, z, r, zc, hp, hz, h => by
    cases hp
    cases h
    exact ⟨zc, rfl, hz⟩
  | (i, v) :: ps, _, z, r, zc, hp, hz, h => by
    cases hp with
    | cons hv hl =>
      rename_i c l'
      change obind (place i) (fun q => Ax.guard (Nat.beq (lenL (cellsOf v)) q.2) (obind (Ax.splice (cellsOf v) q.1 z) (Ax.fill place ps))) = some r at h
      obtain ⟨⟨off, n⟩, hpl, h⟩ := obind_some.1 h
      obtain ⟨hg, h⟩ := guard_some.1 h
      obtain ⟨z', hz', h⟩ := obind_some.1 h
      have hlen : (cellsOf v).length = n := by rw [lenL_eq] at hg; exact Nat.eq_of_beq_eq_true hg
      have hcv := cellsOf_vr hv
      have hcl := hcv.length
      have hzl := hz.length
      have hfit := (splice_eq _ _ _ _).1 hz'
      simp at hcl hzl
      dsimp only at hfit
      have e := foldl_splice off c.cells zc (by omega)
      have hz2 : VRs ρ z' (c.cells.zipIdx.foldl (fun cs (x : Value × Nat) => cs.setIfInBounds (off + x.2) x.1) zc).toList := by
        rw [e]
        have := VRs.splice hcv hz hz'
        simpa using this
      obtain ⟨rc, h1, h2⟩ := fill_sound hl hz2 h
      refine ⟨rc, ?_, h2⟩
      simp only [Instr.fill, hpl]
      rw [if_neg (by simp; omega)]
      exact h1

theorem fill_congr {p q : Nat → Option (Nat × Nat)} (h : ∀ i x, p i = some x → q i = some x) : ∀ {ps : List (Nat × Value)} {z r : List Value}, Ax.fill p ps z = some r → Ax.fill q ps z = some r
  | [], z, r, hr => hr
  | (i, v) :: ps, z, r, hr => by
    change obind (p i) (fun q => Ax.guard (Nat.beq (lenL (cellsOf v)) q.2) (obind (Ax.splice (cellsOf v) q.1 z) (Ax.fill p ps))) = some r at hr
    change obind (q i) (fun x => Ax.guard (Nat.beq (lenL (cellsOf v)) x.2) (obind (Ax.splice (cellsOf v) x.1 z) (Ax.fill q ps))) = some r
    obtain ⟨x, hx, hr⟩ := obind_some.1 hr
    obtain ⟨hg, hr⟩ := guard_some.1 hr
    obtain ⟨z', hz, hr⟩ := obind_some.1 hr
    exact obind_some.2 ⟨x, h i x hx, guard_some.2 ⟨hg, obind_some.2 ⟨z', hz, fill_congr h hr⟩⟩⟩

theorem zero_cells (hZ : ZeroOk P) {t : TypeId} {z : List Value} (hz : zero P t = some z) (ρ : Ren) : ∃ i v, P.info? t = some i ∧ i.zero = some v ∧ v.cells.toList = z ∧ VRs ρ z v.cells.toList := by
  obtain ⟨i, v, h1, h2, h3⟩ := zero_info hz
  refine ⟨i, v, h1, h2, h3, ?_⟩
  have := cellsOf_vr (hZ t i v (zero_lt hz) h1 h2 ρ)
  have e : cellsOf v = v.cells.toList := by cases v <;> rfl
  rw [e] at this
  rw [← h3]; exact this

theorem mapM_places : ∀ (l : List Field), (∀ f ∈ l, ∃ n, size P f.type = some n) → (l.mapM (m := Sem) fun f => do pure (f.offset, ← Go.sizeOf f.type)).run P w = .ok (l.map fun f => (f.offset, P.cellsOf f.type)) w
  | [], _ => rfl
  | f :: l, h => by
    obtain ⟨n, hn⟩ := h f (by simp)
    have ih := mapM_places l fun g hg => h g (by simp [hg])
    obtain ⟨i, h1, h2⟩ := size_info hn
    have hc : P.cellsOf f.type = n := by simp [Program.cellsOf, h1, h2]
    simp only [List.mapM_cons, Sem.run_bind, run_sizeOf hn, Result.andThen_ok, Sem.run_pure, ih, List.map_cons, hc]

/-- Each field's type has a size. (Of every struct type of the program.) -/
def FieldsOk (P : Program) : Prop := ∀ (t : TypeId) (fs : Array Field), t < P.types.size → P.underlying t = some (.struct fs) → ∀ f ∈ fs.toList, ∃ n, size P f.type = some n

theorem oBuild_sound (h : HR P base ρ s w) (he : EvR ρ ev η) (hZ : ZeroOk P) (hF : FieldsOk P) {t : TypeId} {parts : Array (Nat × Operand)} (C : Cfg) (hC : C.P = P) {r : Res} (hr : oBuild C ev s t parts = some r) :
    ResR P base ρ s w (Sem.run P (do pure (.value (← Instr.build t (parts.map fun (i, x) => (i, η x))))) w) r := by
  unfold oBuild at hr
  rw [hC] at hr
  obtain ⟨pl, hpl, hr⟩ := obind_some.1 hr
  obtain ⟨ps, hps, hr⟩ := obind_some.1 hr
  obtain ⟨z, hz, hr⟩ := obind_some.1 hr
  obtain ⟨l, hl, hr⟩ := obind_some.1 hr
  rw [ret_some hr]
  have hp := evParts_some he hps
  obtain ⟨i, v, h1, h2, h3, h4⟩ := zero_cells hZ hz ρ
  have hzv : (zeroValue t).run P w = .ok v w := by simp [zeroValue, Go.typeInfo, h1, h2]
  unfold placeT at hpl
  split at hpl
  · rename_i fs hu
    cases hpl
    have hl' : Ax.fill (fun i => (fs.map fun f => (f.offset, P.cellsOf f.type))[i]?) ps z = some l := by
      refine fill_congr (fun i x hx => ?_) hl
      obtain ⟨f, hf, hx⟩ := obind_some.1 hx
      obtain ⟨n, hn, hx⟩ := obind_some.1 hx
      cases hx
      rw [nth_eq] at hf
      obtain ⟨i', h1', h2'⟩ := size_info hn
      have hf' : fs[i]? = some f := by simpa using hf
      simp [hf', Program.cellsOf, h1', h2']
    obtain ⟨rc, h5, h6⟩ := fill_sound hp h4 hl'
    have hm : (fs.mapM (m := Sem) fun f => do pure (f.offset, ← Go.sizeOf f.type)).run P w = .ok (fs.map fun f => (f.offset, P.cellsOf f.type)) w := by
      have := mapM_places (P := P) (w := w) fs.toList (hF t fs (zero_lt hz) hu)
      rw [Array.mapM_eq_mapM_toList, Sem.run_map, this]
      show Result.ok _ w = _
      congr 1
      apply Array.ext'
      simp
    have hrun : Sem.run P (do pure (Next.value (← Instr.build t (parts.map fun (i, x) => (i, η x))))) w = .ok (.value (.agg rc)) w := by
      simp only [Instr.build, hzv, run_underlying hu, hm, Sem.run_bind, Result.andThen_ok, Sem.run_pure, Array.toList_map]
      rw [h5]
      rfl
    rw [hrun]
    exact gives_pure h (by
      have := VR.agg h6
      simpa [mkAgg] using this)
  · rename_i k e hu
    obtain ⟨n, hsz, hpl⟩ := obind_some.1 hpl
    cases hpl
    obtain ⟨rc, h5, h6⟩ := fill_sound hp h4 hl
    have hrun : Sem.run P (do pure (Next.value (← Instr.build t (parts.map fun (i, x) => (i, η x))))) w = .ok (.value (.agg rc)) w := by
      simp only [Instr.build, hzv, run_underlying hu, run_sizeOf hsz, Sem.run_bind, Result.andThen_ok, Sem.run_pure, Array.toList_map]
      rw [show (fun i => some (i * n, n)) = placeA n from rfl, h5]
      rfl
    rw [hrun]
    exact gives_pure h (by
      have := VR.agg h6
      simpa [mkAgg] using this)
  · cases hpl

theorem length_repeatL (n : Nat) (l : List Value) : (repeatL n l).length = n * l.length := by
  induction n with
  | zero => rw [Nat.zero_mul]; rfl
  | succ n ih => show (appL l (repeatL n l)).length = _; rw [appL_eq, List.length_append, ih, Nat.succ_mul]; omega

/-- 'n' zero values, side by side, as make and a slice's literal lay them. -/
theorem repeatL_get (n : Nat) (l : List Value) : ∀ k, k < n * l.length → (repeatL n l)[k]? = l[k % l.length]? := by
  induction n with
  | zero => intro k hk; omega
  | succ n ih =>
    intro k hk
    show (appL l (repeatL n l))[k]? = _
    rw [appL_eq]
    by_cases h : k < l.length
    · rw [List.getElem?_append_left h, Nat.mod_eq_of_lt h]
    · rw [List.getElem?_append_right (by omega), ih _ (by rw [Nat.succ_mul] at hk; omega)]
      rw [Nat.mod_eq_sub_mod (show l.length ≤ k by omega)]

theorem zeroCells_vrs {z : List Value} {zc : Array Value} (hz : VRs ρ z zc.toList) (n : Nat) (hpos : 0 < z.length ∨ n = 0) :
    VRs ρ (repeatL n z) ((Array.range (n * zc.size)).map fun i => zc[i % zc.size]!).toList := by
  have hl := hz.length
  simp at hl
  refine VRs.of_get (by simp [length_repeatL, hl]) fun k v hk => ?_
  have hlt := (List.getElem?_eq_some_iff.1 hk).1
  rw [length_repeatL] at hlt
  have hz0 : 0 < z.length := by
    rcases hpos with h | h
    · exact h
    · subst h; omega
  rw [repeatL_get n z k hlt] at hk
  obtain ⟨c, hc, hv⟩ := hz.get hk
  refine ⟨c, ?_, hv⟩
  have hlt2 : k % zc.size < zc.size := Nat.mod_lt _ (by omega)
  have hk2 : k < n * zc.size := by rw [hl]; exact hlt
  have hc' : zc[k % zc.size]? = some c := by rw [hl]; simpa using hc
  simp [hk2]
  rw [getElem!_def, hc']

theorem oBuildSlice_sound (h : HR P base ρ s w) (he : EvR ρ ev η) (hZ : ZeroOk P) {t : TypeId} {len : Nat} {parts : Array (Nat × Operand)} (C : Cfg) (hC : C.P = P) {r : Res} (hr : oBuildSlice C ev s t len parts = some r) :
    ResR P base ρ s w (Sem.run P (do pure (.value (← Instr.buildSlice t len (parts.map fun (i, x) => (i, η x))))) w) r := by
  unfold oBuildSlice at hr
  rw [hC] at hr
  split at hr
  · rename_i e hu
    obtain ⟨n, hn, hr⟩ := obind_some.1 hr
    obtain ⟨z, hz, hr⟩ := obind_some.1 hr
    obtain ⟨hg, hr⟩ := guard_some.1 hr
    obtain ⟨ps, hps, hr⟩ := obind_some.1 hr
    obtain ⟨l, hl, hr⟩ := obind_some.1 hr
    rw [ret_some hr]
    simp only [Bool.and_eq_true] at hg
    obtain ⟨⟨hg1, hg2⟩, hg3⟩ := hg
    have hzn : z.length = n := by rw [lenL_eq] at hg1; exact Nat.eq_of_beq_eq_true hg1
    have hn0 : 0 < n := Nat.le_of_ble_eq_true hg2
    have hbig : len * n ≤ 16777216 := Nat.le_of_ble_eq_true hg3
    have hp := evParts_some he hps
    obtain ⟨i, v, h1, h2, h3, h4⟩ := zero_cells hZ hz ρ
    have hzv : (zeroValue e).run P w = .ok v w := by simp [zeroValue, Go.typeInfo, h1, h2]
    have hvn : v.cells.size = n := by have := h4.length; simp at this; omega
    have hzz : VRs ρ (repeatL len z) ((Array.range (len * n)).map fun i => v.cells[i % v.cells.size]!).toList := by
      have := zeroCells_vrs h4 len (.inl (by omega))
      have e0 : len * v.cells.size = len * n := by rw [hvn]
      rwa [e0] at this
    obtain ⟨rc, h5, h6⟩ := fill_sound hp hzz hl
    have hrun : Sem.run P (do pure (Next.value (← Instr.buildSlice t len (parts.map fun (i, x) => (i, η x))))) w = .ok (.value (.slice (some ⟨w.heap.size, 0, none⟩) len len)) (w.alloc (.cells rc e)) := by
      have hb : ¬ (len * n > 2 ^ 24) := by omega
      by_cases h0 : len * n = 0
      · have hlen : len = 0 := by
          rcases Nat.mul_eq_zero.1 h0 with h | h
          · exact h
          · omega
        subst hlen
        simp only [Nat.zero_mul, Array.range_zero', Array.map_empty] at h5
        simp only [Instr.buildSlice, run_underlying hu, run_sizeOf hn, Sem.run_bind, Result.andThen_ok, Sem.run_pure, Array.toList_map, Nat.zero_mul, Array.range_zero', Array.map_empty]
        simp
        rw [show (fun i => some (i * n, n)) = placeA n from rfl, h5]
        simp [newRow]
      · simp only [Instr.buildSlice, run_underlying hu, run_sizeOf hn, hzv, Sem.run_bind, Result.andThen_ok, Sem.run_pure, Array.toList_map, if_neg hb, if_neg h0]
        rw [show (fun i => some (i * n, n)) = placeA n from rfl, h5]
        simp [newRow]
    rw [hrun]
    have hg := Goes.newRow (e := e) h h6
    refine gives_val hg ?_
    have := VR.slice (ρ := ρ.set s.next ⟨w.heap.size, 0, 0⟩) (b := s.next) (o := 0) (n := len) (c := len) (l := ⟨w.heap.size, 0, 0⟩) (by rw [Ren.at_of h.next, Ren.set_same])
    have hc : capOf ⟨w.heap.size, 0, 0⟩ len = len := by
      unfold capOf; rw [if_neg]; unfold halfCap
      have : len * 1 ≤ len * n := Nat.mul_le_mul_left _ hn0
      omega
    rw [hc] at this
    exact this
  · cases hr
end
end Go.Ax

namespace Go.Ax
open Go

theorem kindEq_eq {a b : IntKind} (h : kindEq a b = true) : a = b := by cases a <;> cases b <;> first | rfl | cases h

theorem wrap_ofNat_i64 {n : Nat} (h : n < 9223372036854775808) : IntKind.wrap .i64 (Int.ofNat n) = Int.ofNat n := by
  have e : (n : Int) % 18446744073709551616 = n := by omega
  have h2 : ¬ ((n : Int) ≥ 9223372036854775808) := by omega
  show (if (true && decide ((n : Int) % 18446744073709551616 ≥ 9223372036854775808)) = true then (n : Int) % 18446744073709551616 - 18446744073709551616 else (n : Int) % 18446744073709551616) = (n : Int)
  simp only [e, h2, decide_false, Bool.and_false, Bool.false_eq_true, if_false]

theorem wrap_ofNat_un {k : IntKind} (hk : k.signed = false) (n : Nat) : IntKind.wrap k (Int.ofNat n) = Int.ofNat (n % 2 ^ k.bits) := by
  unfold IntKind.wrap
  simp [hk]

theorem wrapPos_eq (k : IntKind) (n : Nat) : wrapPos k n = k.wrap (Int.ofNat n) := by
  match k with
  | .i64 =>
    show sel (Nat.ble 9223372036854775808 n) (IntKind.wrap .i64 (Int.ofNat n)) (Int.ofNat n) = _
    rw [sel_eq]
    by_cases h : Nat.ble 9223372036854775808 n = true
    · rw [if_pos h]
    · rw [if_neg h, wrap_ofNat_i64]
      have : ¬ (9223372036854775808 ≤ n) := fun h' => h (Nat.ble_eq_true_of_le h')
      omega
  | .u8 =>
    show Int.ofNat (Nat.mod n 256) = _
    rw [wrap_ofNat_un rfl]
    rfl
  | .u64 =>
    show Int.ofNat (Nat.mod n 18446744073709551616) = _
    rw [wrap_ofNat_un rfl]
    rfl
  | .i8 | .i16 | .i32 | .u16 | .u32 => rfl

theorem wrap_eq (k : IntKind) (n : Int) : wrap k n = k.wrap n := by
  cases n with
  | ofNat n => exact wrapPos_eq k n
  | negSucc n => rfl

theorem subNat_eq (a b : Nat) : subNat a b = (a : Int) - b := by
  unfold subNat
  rw [sel_eq]
  split
  · rename_i h
    have := Nat.le_of_ble_eq_true h
    show ((a - b : Nat) : Int) = _
    omega
  · rename_i h
    have : ¬ (b ≤ a) := fun h' => h (Nat.ble_eq_true_of_le h')
    show Int.negSucc ((b - a) - 1) = _
    rw [Int.negSucc_eq]
    omega

theorem addI_eq (a b : Int) : addI a b = a + b := by cases a <;> cases b <;> rfl
theorem subI_eq (a b : Int) : subI a b = a - b := by
  cases a <;> cases b <;> first | exact subNat_eq _ _ | rfl
theorem mulI_eq (a b : Int) : mulI a b = a * b := by
  cases a <;> cases b <;> first | rfl | skip
theorem quoI_eq (a b : Int) : quoI a b = a.tdiv b := by cases a <;> cases b <;> rfl
theorem remI_eq (a b : Int) : remI a b = a.tmod b := by cases a <;> cases b <;> rfl
theorem eqI_eq (a b : Int) : eqI a b = decide (a = b) := by
  cases a with
  | ofNat a => cases b with
    | ofNat b =>
      show Nat.beq a b = _
      rw [Bool.eq_iff_iff, Nat.beq_eq]
      simp
      omega
    | negSucc b => rfl
  | negSucc a => cases b <;> rfl
theorem ltI_eq (a b : Int) : ltI a b = decide (a < b) := by
  cases a with
  | ofNat a => cases b with
    | ofNat b =>
      show Nat.ble (a + 1) b = _
      rw [Bool.eq_iff_iff, Nat.ble_eq]
      simp
      omega
    | negSucc b => rfl
  | negSucc a => cases b <;> rfl
theorem leI_eq (a b : Int) : leI a b = decide (a ≤ b) := by
  cases a with
  | ofNat a => cases b with
    | ofNat b =>
      show Nat.ble a b = _
      rw [Bool.eq_iff_iff, Nat.ble_eq]
      simp
    | negSucc b => rfl
  | negSucc a => cases b <;> rfl

theorem topOf_eq {k : IntKind} {a : Nat} (h : a < topOf k) : topOf k = 2 ^ k.bits ∧ k.signed = false := by
  cases k <;> first | exact ⟨rfl, rfl⟩ | exact absurd h (Nat.not_lt_zero _)

theorem ofInt_nat {k : IntKind} {a : Nat} (h : a < topOf k) : (BitVec.ofInt k.bits (Int.ofNat a)).toNat = a := by
  rw [(topOf_eq h).1] at h
  simp
  exact Nat.mod_eq_of_lt h

theorem wrap_small {k : IntKind} {a : Nat} (h : a < topOf k) : k.wrap (a : Int) = a := by
  have := topOf_eq h
  rw [show (a : Int) = Int.ofNat a from rfl, wrap_ofNat_un this.2, Nat.mod_eq_of_lt (by rw [← this.1]; exact h)]

theorem wideKind_top {k : IntKind} (h : wideKind k = true) : topOf k = 2 ^ k.bits ∧ 0 < topOf k := by
  cases k <;> first | (exact Bool.noConfusion (show false = true from h)) | (constructor <;> decide)

theorem bitNat_some {op : Nat → Nat → Nat} {k : IntKind} {a b : Int} {v : Value} (h : bitNat op k a b = some v) :
    ∃ a' b' x y : Nat, a = Int.ofNat a' ∧ b = Int.ofNat b' ∧ a' % topOf k = x ∧ b' % topOf k = y ∧ x < topOf k ∧ y < topOf k ∧ wideKind k = true ∧ v = .int k (Int.ofNat (op x y)) := by
  cases a with
  | negSucc a => cases h
  | ofNat a => cases b with
    | negSucc b => cases h
    | ofNat b =>
      obtain ⟨hg, h⟩ := guard_some.1 h
      cases h
      exact ⟨a, b, _, _, rfl, rfl, rfl, rfl, Nat.mod_lt _ (wideKind_top hg).2, Nat.mod_lt _ (wideKind_top hg).2, hg, rfl⟩

theorem ofInt_mod {k : IntKind} {a : Nat} (hk : wideKind k = true) : BitVec.ofInt k.bits (Int.ofNat a) = BitVec.ofInt k.bits (Int.ofNat (a % topOf k)) := by
  apply BitVec.eq_of_toNat_eq
  rw [(wideKind_top hk).1]
  simp
  rw [show ((a : Int) % 2 ^ k.bits) = ((a % 2 ^ k.bits : Nat) : Int) by push_cast; rfl]
  rfl

section
variable {P : Program} {w : World}
theorem intOp_sound {op : BinOp} {k : IntKind} {a b : Int} {v : Value} (t : TypeId) (h : intOp op k a b = some v) (h1 : op ≠ .shl) (h2 : op ≠ .shr) :
    (Go.binOp op t (.int k a) (.int k b)).run P w = .ok v w ∧ ∀ ρ, VR ρ v v := by
  have hand : ∀ {x y : Nat}, x < topOf k → y < topOf k → x &&& y < topOf k := fun hx hy => by
    rw [(topOf_eq hx).1] at *; exact Nat.and_lt_two_pow _ hy
  cases op
  case add => cases h; refine ⟨?_, fun ρ => .int _ _⟩; simp [Go.binOp, Op.intArith, wrap_eq, addI_eq]
  case sub => cases h; refine ⟨?_, fun ρ => .int _ _⟩; simp [Go.binOp, Op.intArith, wrap_eq, subI_eq]
  case mul => cases h; refine ⟨?_, fun ρ => .int _ _⟩; simp [Go.binOp, Op.intArith, wrap_eq, mulI_eq]
  case quo =>
    obtain ⟨hg, h⟩ := guard_some.1 h
    cases h
    rw [eqI_eq] at hg
    refine ⟨?_, fun ρ => .int _ _⟩
    simp at hg
    simp [Go.binOp, Op.intDiv, wrap_eq, quoI_eq, hg]
  case rem =>
    obtain ⟨hg, h⟩ := guard_some.1 h
    cases h
    rw [eqI_eq] at hg
    refine ⟨?_, fun ρ => .int _ _⟩
    simp at hg
    simp [Go.binOp, Op.intDiv, remI_eq, hg]
  case and =>
    obtain ⟨a', b', x, y, rfl, rfl, ha', hb', hx, hy, hwk, rfl⟩ := bitNat_some h
    refine ⟨?_, fun ρ => .int _ _⟩
    have e : (BitVec.ofInt k.bits (Int.ofNat a') &&& BitVec.ofInt k.bits (Int.ofNat b')).toNat = x &&& y := by rw [BitVec.toNat_and, ofInt_mod hwk (a := a'), ofInt_mod hwk (a := b'), ha', hb', ofInt_nat hx, ofInt_nat hy]
    simp only [Go.binOp, Op.intBits, ne_eq, not_true_eq_false, if_false, e, Sem.run_pure, wrap_small (hand hx hy)]
    rfl
  case or =>
    obtain ⟨a', b', x, y, rfl, rfl, ha', hb', hx, hy, hwk, rfl⟩ := bitNat_some h
    refine ⟨?_, fun ρ => .int _ _⟩
    have hor : x ||| y < topOf k := by
      have := (topOf_eq hx).1
      rw [this] at hx hy ⊢; exact Nat.or_lt_two_pow hx hy
    have e : (BitVec.ofInt k.bits (Int.ofNat a') ||| BitVec.ofInt k.bits (Int.ofNat b')).toNat = x ||| y := by rw [BitVec.toNat_or, ofInt_mod hwk (a := a'), ofInt_mod hwk (a := b'), ha', hb', ofInt_nat hx, ofInt_nat hy]
    simp only [Go.binOp, Op.intBits, ne_eq, not_true_eq_false, if_false, e, Sem.run_pure, wrap_small hor]
    rfl
  case xor =>
    obtain ⟨a', b', x, y, rfl, rfl, ha', hb', hx, hy, hwk, rfl⟩ := bitNat_some h
    refine ⟨?_, fun ρ => .int _ _⟩
    have hor : x ^^^ y < topOf k := by
      have := (topOf_eq hx).1
      rw [this] at hx hy ⊢; exact Nat.xor_lt_two_pow hx hy
    have e : (BitVec.ofInt k.bits (Int.ofNat a') ^^^ BitVec.ofInt k.bits (Int.ofNat b')).toNat = x ^^^ y := by rw [BitVec.toNat_xor, ofInt_mod hwk (a := a'), ofInt_mod hwk (a := b'), ha', hb', ofInt_nat hx, ofInt_nat hy]
    simp only [Go.binOp, Op.intBits, ne_eq, not_true_eq_false, if_false, e, Sem.run_pure, wrap_small hor]
    rfl
  case andNot =>
    obtain ⟨a', b', x, y, rfl, rfl, ha', hb', hx, hy, hwk, rfl⟩ := bitNat_some (op := fun a b => Nat.xor a (Nat.land a b)) (show bitNat _ k a b = some v from h)
    refine ⟨?_, fun ρ => .int _ _⟩
    have hor : x ^^^ (x &&& y) < topOf k := by
      have := (topOf_eq hx).1
      have h3 := hand hx hy
      rw [this] at hx h3 ⊢; exact Nat.xor_lt_two_pow hx h3
    have hb := (topOf_eq hx).1
    have e : (BitVec.ofInt k.bits (Int.ofNat a') &&& ~~~ BitVec.ofInt k.bits (Int.ofNat b')).toNat = x ^^^ (x &&& y) := by
      rw [show (BitVec.ofInt k.bits (Int.ofNat a') &&& ~~~ BitVec.ofInt k.bits (Int.ofNat b')) = BitVec.ofInt k.bits (Int.ofNat a') ^^^ (BitVec.ofInt k.bits (Int.ofNat a') &&& BitVec.ofInt k.bits (Int.ofNat b')) from by
        ext i hi
        simp
        cases (BitVec.ofNat k.bits a')[i] <;> cases (BitVec.ofNat k.bits b')[i] <;> rfl]
      rw [BitVec.toNat_xor, BitVec.toNat_and, ofInt_mod hwk (a := a'), ofInt_mod hwk (a := b'), ha', hb', ofInt_nat hx, ofInt_nat hy]
    simp only [Go.binOp, Op.intBits, ne_eq, not_true_eq_false, if_false, e, Sem.run_pure, wrap_small hor]
    rfl
  case eql => cases h; refine ⟨?_, fun ρ => .bool _⟩; simp [Go.binOp, Op.intCmp, eqI_eq]; rfl
  case neq => cases h; refine ⟨?_, fun ρ => .bool _⟩; simp [Go.binOp, Op.intCmp, eqI_eq]; rfl
  case lss => cases h; refine ⟨?_, fun ρ => .bool _⟩; simp [Go.binOp, Op.intCmp, ltI_eq]
  case leq => cases h; refine ⟨?_, fun ρ => .bool _⟩; simp [Go.binOp, Op.intCmp, leI_eq]
  case gtr => cases h; refine ⟨?_, fun ρ => .bool _⟩; simp [Go.binOp, Op.intCmp, ltI_eq]
  case geq => cases h; refine ⟨?_, fun ρ => .bool _⟩; simp [Go.binOp, Op.intCmp, leI_eq]
  case shl => exact absurd rfl h1
  case shr => exact absurd rfl h2
end
end Go.Ax

namespace Go.Ax
open Go

theorem eqBytes_eq : ∀ (a b : List UInt8), eqBytes a b = (a == b)
  | [], [] => rfl
  | [], _ :: _ => rfl
  | _ :: _, [] => rfl
  | a :: s, b :: t => by
    show sel (Nat.beq a.toNat b.toNat) (eqBytes s t) false = _
    rw [eqBytes_eq s t, sel_eq]
    by_cases h : a = b
    · subst h; simp
    · have : ¬ (a.toNat = b.toNat) := fun e => h (UInt8.toNat_inj.1 e)
      simp [h, this, Nat.beq_eq]

theorem lessL_eq : ∀ (a b : List UInt8), lessL a b = Op.bytesLess a b
  | [], [] => rfl
  | [], _ :: _ => by simp [Op.bytesLess]; rfl
  | _ :: _, [] => by simp [Op.bytesLess]; rfl
  | a :: s, b :: t => by
    show sel (Nat.ble (a.toNat + 1) b.toNat) true (sel (Nat.beq a.toNat b.toNat) (lessL s t) false) = _
    rw [lessL_eq s t, sel_eq, sel_eq, Op.bytesLess]
    simp only [Nat.ble_eq, Nat.beq_eq]
    rw [show (decide (a < b)) = decide (a.toNat < b.toNat) from by rw [Bool.eq_iff_iff]; simp [UInt8.lt_iff_toNat_lt]]
    rw [show (a == b) = decide (a.toNat = b.toNat) from by rw [Bool.eq_iff_iff]; simp [UInt8.toNat_inj]]
    by_cases h : a.toNat < b.toNat
    · simp [h, Nat.succ_le_of_lt h]
    · have : ¬ (a.toNat + 1 ≤ b.toNat) := by omega
      by_cases h2 : a.toNat = b.toNat
      · have h3 : ¬ (b.toNat + 1 ≤ b.toNat) := by omega
        simp [h2, h3]
      · simp [h, h2, this]

/-- The order of bytes is total. -/
theorem bytesLess_total : ∀ (a b : List UInt8), (Op.bytesLess a b || (a == b)) = !Op.bytesLess b a
  | [], [] => by simp [Op.bytesLess]
  | [], _ :: _ => by simp [Op.bytesLess]
  | _ :: _, [] => by simp [Op.bytesLess]
  | a :: s, b :: t => by
    have ih := bytesLess_total s t
    simp only [Op.bytesLess, List.cons_beq_cons]
    rw [show (decide (a < b)) = decide (a.toNat < b.toNat) from by rw [Bool.eq_iff_iff]; simp [UInt8.lt_iff_toNat_lt]]
    rw [show (decide (b < a)) = decide (b.toNat < a.toNat) from by rw [Bool.eq_iff_iff]; simp [UInt8.lt_iff_toNat_lt]]
    rw [show (a == b) = decide (a.toNat = b.toNat) from by rw [Bool.eq_iff_iff]; simp [UInt8.toNat_inj]]
    rw [show (b == a) = decide (a.toNat = b.toNat) from by rw [Bool.eq_iff_iff]; simp only [beq_iff_eq, decide_eq_true_eq, ← UInt8.toNat_inj]; exact eq_comm]
    by_cases h2 : a.toNat = b.toNat
    · simp [h2, ih]
    · by_cases h : a.toNat < b.toNat
      · have : ¬ (b.toNat < a.toNat) := by omega
        simp [h2, h, this]
      · have : b.toNat < a.toNat := by omega
        simp [h2, h, this]

section
variable {P : Program} {w : World}
theorem strOp_sound {op : BinOp} {a b : ByteArray} {v : Value} (t : TypeId) (h : strOp op a.data.toList b.data.toList = some v) (h1 : op ≠ .shl) (h2 : op ≠ .shr) :
    (Go.binOp op t (.string a) (.string b)).run P w = .ok v w ∧ ∀ ρ, VR ρ v v := by
  have ta := ByteArray.toList_eq a
  have tb := ByteArray.toList_eq b
  cases op
  case add =>
    obtain ⟨hg, h⟩ := guard_some.1 h
    cases h
    refine ⟨?_, fun ρ => .string _⟩
    have hs : ¬ (((a.size + b.size : Nat) : Int) > IntKind.i64.max) := by
      have hg := Nat.le_of_ble_eq_true hg
      rw [lenL_eq, lenL_eq] at hg
      have e1 : a.size = a.data.toList.length := rfl
      have e2 : b.size = b.data.toList.length := rfl
      have e3 : IntKind.i64.max = 9223372036854775807 := rfl
      rw [e3, e1, e2]
      have : a.data.toList.length + b.data.toList.length ≤ 9223372036854775807 := hg
      omega
    have e : a ++ b = ⟨⟨appL a.data.toList b.data.toList⟩⟩ := by
      rw [appL_eq]
      apply ByteArray.ext
      rw [ByteArray.data_append]
      apply Array.ext'
      simp
    simp only [Go.binOp, Op.stringOp, if_neg hs, Sem.run_pure, e]
  case eql => cases h; refine ⟨?_, fun ρ => .bool _⟩; rw [eqBytes_eq, ← ta, ← tb]; rfl
  case neq => cases h; refine ⟨?_, fun ρ => .bool _⟩; rw [eqBytes_eq, ← ta, ← tb]; rfl
  case lss => cases h; refine ⟨?_, fun ρ => .bool _⟩; simp only [Go.binOp, Op.stringOp, lessL_eq, ta, tb, Sem.run_pure]
  case leq => cases h; refine ⟨?_, fun ρ => .bool _⟩; simp only [Go.binOp, Op.stringOp, lessL_eq, ta, tb, bytesLess_total, Sem.run_pure]
  case gtr => cases h; refine ⟨?_, fun ρ => .bool _⟩; simp only [Go.binOp, Op.stringOp, lessL_eq, ta, tb, bytesLess_total, Sem.run_pure, Bool.not_not]
  case geq => cases h; refine ⟨?_, fun ρ => .bool _⟩; simp only [Go.binOp, Op.stringOp, lessL_eq, ta, tb, Sem.run_pure]
  case shl => exact absurd rfl h1
  case shr => exact absurd rfl h2
  all_goals cases h

theorem shift_sound {left : Bool} {x y v : Value} (t : TypeId) (h : shift left x y = some v) :
    ∃ k a k' b, x = .int k a ∧ y = .int k' b ∧ (Go.binOp (if left then .shl else .shr) t (.int k a) (.int k' b)).run P w = .ok v w ∧ ∀ ρ, VR ρ v v := by
  obtain ⟨k, a, rfl⟩ : ∃ k a, x = .int k a := by cases x <;> first | exact ⟨_, _, rfl⟩ | cases h
  obtain ⟨k', b, rfl⟩ : ∃ k b, y = .int k b := by cases y <;> first | exact ⟨_, _, rfl⟩ | cases h
  cases a with
  | negSucc a => cases h
  | ofNat a => cases b with
    | negSucc b => cases h
    | ofNat b =>
      refine ⟨k, _, k', _, rfl, rfl, ?_⟩
      change shiftOp left k a b = some v at h
      have hmin : sel (Nat.ble b k.bits) b k.bits = min b k.bits := by
        rw [sel_eq]
        by_cases h : b ≤ k.bits
        · rw [if_pos (Nat.ble_eq_true_of_le h)]; omega
        · rw [if_neg (fun h' => h (Nat.le_of_ble_eq_true h'))]; omega
      have hneg : ¬ ((Int.ofNat b) < 0) := by simp only [Int.ofNat_eq_natCast]; omega
      cases left with
      | true =>
        unfold shiftOp at h
        rw [sel_true] at h
        obtain ⟨hg, h⟩ := guard_some.1 h
        cases h
        refine ⟨?_, fun ρ => .int _ _⟩
        have hs : k.signed = false := by cases k <;> first | rfl | cases hg
        have e : k.wrap ((Int.ofNat a) * 2 ^ (min b k.bits)) = Int.ofNat (Nat.mod (Nat.mul a (Nat.pow 2 (min b k.bits))) (Nat.pow 2 k.bits)) := by
          have : (Int.ofNat a) * 2 ^ (min b k.bits) = Int.ofNat (a * 2 ^ (min b k.bits)) := by simp
          rw [this, wrap_ofNat_un hs]
          rfl
        simp only [if_true, Go.binOp, Op.shift, if_neg hneg, Sem.run_pure, hmin]
        rw [show (Int.ofNat b).toNat = b from rfl, e]
      | false =>
        unfold shiftOp at h
        rw [sel_false] at h
        cases h
        refine ⟨?_, fun ρ => .int _ _⟩
        simp only [Bool.false_eq_true, if_false, Go.binOp, Op.shift, if_neg hneg, Sem.run_pure, hmin]
        rw [show (Int.ofNat b).toNat = b from rfl]
        have : (Int.ofNat a).fdiv (2 ^ (min b k.bits)) = Int.ofNat (a / 2 ^ (min b k.bits)) := by
          rw [show (2 : Int) ^ (min b k.bits) = Int.ofNat (2 ^ (min b k.bits)) from by simp]
          exact (Int.ofNat_fdiv a _).symm
        rw [this]
        rfl

theorem unOp_sound {op : UnOp} {x v : Value} (h : unOp op x = some v) : (Op.unary op x).run P w = .ok v w ∧ ∀ ρ, VR ρ v v := by
  cases x
  case bool b =>
    cases op <;> cases h
    exact ⟨by simp [Op.unary], fun ρ => .bool _⟩
  case int k n =>
    cases op
    case neg =>
      cases h
      refine ⟨?_, fun ρ => .int _ _⟩
      simp [Op.unary, Op.intArith, wrap_eq, subI_eq]
    case xor =>
      cases k <;> try (cases h)
      cases n with
      | negSucc n => cases h
      | ofNat n =>
        cases h
        refine ⟨?_, fun ρ => .int _ _⟩
        have h1 : (18446744073709551615 : Nat) < topOf .u64 := by decide
        have h2 : n % 18446744073709551616 < topOf .u64 := by show n % 18446744073709551616 < 18446744073709551616; omega
        have e : (BitVec.ofInt IntKind.u64.bits (Int.ofNat 18446744073709551615) ^^^ BitVec.ofInt IntKind.u64.bits (Int.ofNat n)).toNat = 18446744073709551615 - n % 18446744073709551616 := by
          have h3 := ofInt_nat h2
          have h4 := ofInt_mod (k := .u64) (a := n) rfl
          change BitVec.ofInt 64 (Int.ofNat n) = BitVec.ofInt 64 (Int.ofNat (n % 18446744073709551616)) at h4
          change (BitVec.ofInt 64 (Int.ofNat (n % 18446744073709551616))).toNat = n % 18446744073709551616 at h3
          show (BitVec.ofInt 64 (Int.ofNat 18446744073709551615) ^^^ BitVec.ofInt 64 (Int.ofNat n)).toNat = _
          have ha : BitVec.ofInt 64 (Int.ofNat 18446744073709551615) = BitVec.allOnes 64 := by rfl
          rw [h4, ha, BitVec.allOnes_xor, BitVec.toNat_not, h3]
        have e2 : (18446744073709551615 - n % 18446744073709551616) < topOf .u64 := by show _ < 18446744073709551616; omega
        simp only [Op.unary, Op.intBits]
        rw [show (if IntKind.u64.signed then (-1 : Int) else IntKind.u64.max) = Int.ofNat 18446744073709551615 from rfl, e, wrap_small e2]
        rfl
    all_goals cases h
  all_goals cases h
end
end Go.Ax

namespace Go.Ax
open Go

section
variable {P : Program} {ρ : Ren} {w : World}

theorem eqAddr_some {a b : Addr} {r : Bool} (h : eqAddr a b = some r) : a.block = b.block ∧ r = Nat.beq a.off b.off := by
  obtain ⟨hg, h⟩ := guard_some.1 h
  cases h
  exact ⟨Nat.eq_of_beq_eq_true hg, rfl⟩

theorem run_sameAddr_block (c o o' : Nat) : (sameAddr ⟨c, o, none⟩ ⟨c, o', none⟩).run P w = .ok (decide (o = o')) w := by
  have e : ((⟨c, o, none⟩ : Addr) == ⟨c, o', none⟩) = decide (o = o') := by
    rw [Bool.eq_iff_iff]; simp
  simp [sameAddr, e]

theorem eqPtr_sound {t e : TypeId} {a b : Option Addr} {r : Bool} {x' y' : Value} (hu : P.underlying t = some (.pointer e)) (h : eqPtr P e a b = some r) (hx : VR ρ (.pointer a) x') (hy : VR ρ (.pointer b) y') (D : Nat) :
    (Op.equalIn (D + 1) t x' y').run P w = .ok r w := by
  cases hx with
  | ptrNil =>
    cases h
    cases hy with
    | ptrNil => rw [Op.equalIn]; simp [run_underlying hu]
    | ptr hl => rw [Op.equalIn]; simp [run_underlying hu]
  | ptr hl =>
    cases hy with
    | ptrNil => cases h; rw [Op.equalIn]; simp [run_underlying hu]
    | ptr hl2 =>
      obtain ⟨n, hn, h⟩ := obind_some.1 h
      obtain ⟨hg, h⟩ := guard_some.1 h
      obtain ⟨hb, rfl⟩ := eqAddr_some h
      cases hb
      rw [hl] at hl2
      cases hl2
      have hn0 : n ≠ 0 := by rintro rfl; simp at hg
      rw [Op.equalIn]
      simp only [Sem.run_bind, run_underlying hu, Result.andThen_ok, run_sizeOf hn, ne_eq, hn0, not_false_eq_true, if_true, run_sameAddr_block]
      congr 1
      rw [Bool.eq_iff_iff, Nat.beq_eq]
      simp

theorem eqD_sound {t : TypeId} {d : TypeDesc} {x y x' y' : Value} {r : Bool} (hu : P.underlying t = some d) (h : eqD P d x y = some r) (hx : VR ρ x x') (hy : VR ρ y y') (D : Nat) :
    (Op.equalIn (D + 1) t x' y').run P w = .ok r w := by
  cases d <;> try (cases h; done)
  case bool =>
    cases hx <;> try (cases h; done)
    cases hy <;> try (cases h; done)
    cases h
    exact run_equalIn_bool w D t _ _ hu
  case int k0 =>
    cases hx <;> try (cases h; done)
    cases hy <;> try (cases h; done)
    obtain ⟨hg, h⟩ := guard_some.1 h
    cases h
    rw [kindEq_eq hg, run_equalIn_int w D t _ _ _ _ hu, eqI_eq]
    rfl
  case string =>
    cases hx <;> try (cases h; done)
    cases hy <;> try (cases h; done)
    cases h
    rw [run_equalIn_string w D t _ _ hu, eqBytes_eq, ByteArray.toList_eq, ByteArray.toList_eq]
  case pointer e =>
    cases x <;> try (cases h; done)
    cases y <;> try (cases h; done)
    exact eqPtr_sound hu h hx hy D
  case slice e =>
    cases hx <;> try (cases h; done)
    all_goals (cases hy <;> first | (cases h; done) | (cases h; rw [Op.equalIn]; simp [run_underlying hu]))
  case map k e =>
    cases hx <;> try (cases h; done)
    · cases hy <;> try (cases h; done)
      · cases h; rw [Op.equalIn]; simp [run_underlying hu]
      · cases h; rw [Op.equalIn]; simp [run_underlying hu]
    · cases hy <;> try (cases h; done)
      · cases h; rw [Op.equalIn]; simp [run_underlying hu]
  case func =>
    cases hx <;> try (cases h; done)
    · cases hy <;> try (cases h; done)
      cases h; rw [Op.equalIn]; simp [run_underlying hu]
    · cases hy <;> try (cases h; done)
      · cases h; rw [Op.equalIn]; simp [run_underlying hu]
      · cases h; rw [Op.equalIn]; simp [run_underlying hu]
  case interface ms =>
    cases hx <;> try (cases h; done)
    · cases hy <;> try (cases h; done)
      cases h; rw [Op.equalIn]; simp [run_underlying hu]
    · cases hy <;> try (cases h; done)
      · cases h; rw [Op.equalIn]; simp [run_underlying hu]
      · cases h; rw [Op.equalIn]; simp [run_underlying hu]
end
end Go.Ax

namespace Go.Ax
open Go

section
variable {P : Program} {ρ : Ren} {w : World}

/-- An equality of the executor at depths from d on. -/
def EqS (P : Program) (ih : EqF) (d : Nat) : Prop := ∀ (t : TypeId) (x y : Value) (r : Bool), ih t x y = some r → ∀ (ρ : Ren) (w : World) (x' y' : Value), VR ρ x x' → VR ρ y y' → ∀ D, (Op.equalIn (D + d) t x' y').run P w = .ok r w

def EqAtT (P : Program) (ih : EqF) (e : TypeId) (d : Nat) : Prop := ∀ (x y : Value) (r : Bool), ih e x y = some r → ∀ (ρ : Ren) (w : World) (x' y' : Value), VR ρ x x' → VR ρ y y' → ∀ D, (Op.equalIn (D + d) e x' y').run P w = .ok r w

theorem eqPart_sound {ih : EqF} {d : Nat} {t : TypeId} (hE : EqAtT P ih t d) {o : Nat} {xs ys xl yl : List Value} {r : Bool} (h : eqPart P ih t o xs ys = some r) (hx : VRs ρ xs xl) (hy : VRs ρ ys yl) (D : Nat) :
    ∃ a b, (Go.part t ⟨xl⟩ o).run P w = .ok a w ∧ (Go.part t ⟨yl⟩ o).run P w = .ok b w ∧ (Op.equalIn (D + d) t a b).run P w = .ok r w := by
  obtain ⟨x, h1, h⟩ := obind_some.1 h
  obtain ⟨y, h2, h⟩ := obind_some.1 h
  obtain ⟨a, h3, h4⟩ := part_sound (w := w) h1 hx
  obtain ⟨b, h5, h6⟩ := part_sound (w := w) h2 hy
  exact ⟨a, b, h3, h5, hE x y r h ρ w a b h4 h6 D⟩

theorem eqParts_sound {ih : EqF} {d : Nat} {e : TypeId} (hE : EqAtT P ih e d) {n : Nat} {xs ys xl yl : List Value} (hx : VRs ρ xs xl) (hy : VRs ρ ys yl) (D : Nat) : ∀ (k i : Nat) {r : Bool},
    eqParts P ih e n xs ys k i = some r → (Op.eqItems (D + d) e n ⟨xl⟩ ⟨yl⟩ (List.range' i k)).run P w = .ok r w
  | 0, i, r, h => by cases h; simp [Op.eqItems]
  | k + 1, i, r, h => by
    change obind (eqPart P ih e (Nat.mul i n) xs ys) (fun b => sel b (eqParts P ih e n xs ys k (i + 1)) (some false)) = some r at h
    obtain ⟨b, hb, h⟩ := obind_some.1 h
    obtain ⟨a', b', h1, h2, h3⟩ := eqPart_sound (w := w) hE hb hx hy D
    change (Go.part e ⟨xl⟩ (i * n)).run P w = _ at h1
    change (Go.part e ⟨yl⟩ (i * n)).run P w = _ at h2
    rw [List.range'_succ]
    simp only [Op.eqItems, Sem.run_bind, h1, h2, h3, Result.andThen_ok]
    cases b with
    | true =>
      rw [sel_true] at h
      simp only [Bool.not_true, Bool.false_eq_true, if_false]
      exact eqParts_sound hE hx hy D k (i + 1) h
    | false =>
      rw [sel_false] at h
      cases h
      simp

theorem eqArr_parts {e : TypeId} (he : isAgg P e = some false) {f : Value → Value → Option Bool} {xs ys : List Value} : ∀ (k i : Nat) {r : Bool},
    eqArr f k (xs.drop i) (ys.drop i) = some r → eqParts P (fun _ => f) e 1 xs ys k i = some r
  | 0, i, r, h => h
  | k + 1, i, r, h => by
    show obind (eqPart P (fun _ => f) e (Nat.mul i 1) xs ys) (fun b => sel b (eqParts P (fun _ => f) e 1 xs ys k (i + 1)) (some false)) = some r
    change lcase (xs.drop i) none (fun x xt => lcase (ys.drop i) none fun y yt => obind (f x y) fun b => sel b (eqArr f k xt yt) (some false)) = some r at h
    cases hx : xs.drop i with
    | nil => rw [hx] at h; cases h
    | cons x xt =>
      cases hy : ys.drop i with
      | nil => rw [hx, hy] at h; cases h
      | cons y yt =>
        rw [hx, hy] at h
        change obind (f x y) (fun b => sel b (eqArr f k xt yt) (some false)) = some r at h
        obtain ⟨b, hb, h⟩ := obind_some.1 h
        have gx : xs[i]? = some x := by have := congrArg List.head? hx; simpa using this
        have gy : ys[i]? = some y := by have := congrArg List.head? hy; simpa using this
        have px : part P e xs (Nat.mul i 1) = some x := by
          rw [show Nat.mul i 1 = i from Nat.mul_one i]
          simp only [Ax.part, he, obind, sel_false, nth_eq, gx]
        have py : part P e ys (Nat.mul i 1) = some y := by
          rw [show Nat.mul i 1 = i from Nat.mul_one i]
          simp only [Ax.part, he, obind, sel_false, nth_eq, gy]
        refine obind_some.2 ⟨b, ?_, ?_⟩
        · exact obind_some.2 ⟨x, px, obind_some.2 ⟨y, py, hb⟩⟩
        · have hxt : xt = xs.drop (i + 1) := by
            have := congrArg List.tail hx
            simpa using this.symm
          have hyt : yt = ys.drop (i + 1) := by
            have := congrArg List.tail hy
            simpa using this.symm
          cases b with
          | true => rw [sel_true] at h ⊢; exact eqArr_parts he k (i + 1) (by rw [← hxt, ← hyt]; exact h)
          | false => exact h

theorem eqFields_sound {ih : EqF} {d : Nat} (hE : EqS P ih d) {xs ys xl yl : List Value} (hx : VRs ρ xs xl) (hy : VRs ρ ys yl) (D : Nat) : ∀ (fs : List Field) {r : Bool}, (∀ f ∈ fs, f.name ≠ "_") →
    eqFields P ih xs ys fs = some r → (Op.eqFields (D + d) ⟨xl⟩ ⟨yl⟩ fs).run P w = .ok r w
  | [], r, _, h => by cases h; simp [Op.eqFields]
  | f :: fs, r, hn, h => by
    change obind (eqPart P ih f.type f.offset xs ys) (fun b => sel b (eqFields P ih xs ys fs) (some false)) = some r at h
    obtain ⟨b, hb, h⟩ := obind_some.1 h
    obtain ⟨a', b', h1, h2, h3⟩ := eqPart_sound (w := w) (fun x y r hr => hE f.type x y r hr) hb hx hy D
    simp only [Op.eqFields, if_pos (hn f (by simp)), Sem.run_bind, h1, h2, h3, Result.andThen_ok]
    cases b with
    | true =>
      rw [sel_true] at h
      simp only [Bool.not_true, Bool.false_eq_true, if_false]
      exact eqFields_sound hE hx hy D fs (fun g hg => hn g (by simp [hg])) h
    | false =>
      rw [sel_false] at h
      cases h
      simp

/-- The types that the executor may compare as aggregates. -/
structure EqOk (C : Cfg) : Prop where
  guard : ∀ t, C.eqOk t = true → C.P.eqGuardType C.P.depth t = false
  held : ∀ t fs, C.eqOk t = true → C.P.underlying t = some (.struct fs) → C.P.stoodInHeld t = false ∧ ∀ f ∈ fs.toList, f.name ≠ "_"

theorem aggs_some {x y : Value} {k : List Value → List Value → Option Bool} {r : Bool} (h : aggs x y k = some r) : ∃ xs ys, x = .agg ⟨xs⟩ ∧ y = .agg ⟨ys⟩ ∧ k xs ys = some r := by
  unfold aggs at h
  split at h
  · split at h
    · exact ⟨_, _, rfl, rfl, h⟩
    · cases h
  · cases h

theorem eqStep_sound {C : Cfg} (hC : C.P = P) (hO : EqOk C) {ih : EqF} {d : Nat} (hE : EqS P ih (d + 1)) : EqS P (eqStep C ih) (d + 1 + 1) := by
  intro t x y r h ρ w x' y' hx hy D
  unfold eqStep at h
  rw [hC] at h
  obtain ⟨de, hu, h⟩ := obind_some.1 h
  split at h
  · rename_i n e
    obtain ⟨xs, ys, rfl, rfl, h⟩ := aggs_some h
    obtain ⟨d', hd, h⟩ := obind_some.1 h
    obtain ⟨k, hk, h⟩ := obind_some.1 h
    cases hx with
    | agg hxs => cases hy with
      | agg hys =>
        obtain ⟨i, hi, hik⟩ := size_info hk
        have hcells : P.cellsOf e = k := by simp [Program.cellsOf, hi, hik]
        rw [show D + (d + 1 + 1) = (D + d + 1) + 1 from rfl, run_equalIn_array w (D + d + 1) _ _ hu hi, hcells, List.range_eq_range']
        rw [sel_eq] at h
        split at h
        · rename_i hg
          simp only [Bool.and_eq_true, Bool.not_eq_true'] at hg
          have hag : isAgg P e = some false := by simp only [isAgg, hd, obind]; rw [hg.1]
          have k1 : k = 1 := Nat.eq_of_beq_eq_true hg.2
          subst k1
          have := eqArr_parts hag n 0 (xs := xs) (ys := ys) (r := r) (by simpa using h)
          exact eqParts_sound (w := w) (ih := fun _ => eqD P d') (d := 1) (fun x y r hr ρ w x' y' hx hy D => eqD_sound hd hr hx hy D) hxs hys (D + d) n 0 this
        · exact eqParts_sound (fun x y r hr => hE e x y r hr) hxs hys D n 0 h
  · rename_i fs
    obtain ⟨hg, h⟩ := guard_some.1 h
    obtain ⟨xs, ys, rfl, rfl, h⟩ := aggs_some h
    cases hx with
    | agg hxs => cases hy with
      | agg hys =>
        have hf : P.fieldsOf t = fs := by simp [Program.fieldsOf, hu]
        have hh := hO.held t fs hg (by rw [hC]; exact hu)
        rw [hC] at hh
        rw [show D + (d + 1 + 1) = (D + d + 1) + 1 from rfl, run_equalIn_struct w (D + d + 1) t _ _ (by rw [hf]; exact hu) hh.1, hf]
        exact eqFields_sound hE hxs hys D fs.toList hh.2 h
  · exact eqD_sound hu h hx hy (D + d + 1)

theorem eqAt_sound {C : Cfg} (hC : C.P = P) (hO : EqOk C) : EqS P (eqAt C) 7 := by
  have h0 : EqS P (fun _ _ _ => none) (0 + 1) := fun t x y r h => by cases h
  exact eqStep_sound hC hO (eqStep_sound hC hO (eqStep_sound hC hO (eqStep_sound hC hO (eqStep_sound hC hO (eqStep_sound hC hO h0)))))

theorem equal_sound {C : Cfg} (hC : C.P = P) (hO : EqOk C) {t : TypeId} {x y x' y' : Value} {r : Bool} (h : eqAt C t x y = some r) (hx : VR ρ x x') (hy : VR ρ y y') : (Op.equal t x' y').run P w = .ok r w :=
  eqAt_sound hC hO t x y r h ρ w x' y' hx hy 9993

theorem eqT_sound {C : Cfg} (hC : C.P = P) (hO : EqOk C) {t : TypeId} {x y x' y' : Value} {r : Bool} (h : eqT C t x y = some r) (hx : VR ρ x x') (hy : VR ρ y y') : (Op.equal t x' y').run P w = .ok r w := by
  unfold eqT at h
  split at h
  · rename_i tx vx
    split at h
    · rename_i ty vy
      split at h
      · rename_i ms hu
        rw [hC] at hu h
        cases hx with
        | iface _ hvx => cases hy with
          | iface _ hvy =>
            rw [Op.equal, Op.maxDepth, show 10000 = 9999 + 1 from rfl, Op.equalIn]
            simp only [Sem.run_bind, run_underlying hu, Result.andThen_ok]
            rw [sel_eq] at h
            split at h
            · rename_i he
              have he := Nat.eq_of_beq_eq_true he
              subst he
              obtain ⟨hg, h⟩ := guard_some.1 h
              unfold comparable at hg
              cases hi : P.info? tx with
              | none => rw [hi] at hg; cases hg
              | some i =>
                rw [hi] at hg
                change i.comparable = true at hg
                have := eqAt_sound hC hO tx vx vy r h ρ w _ _ hvx hvy 9992
                simp only [ne_eq, not_true_eq_false, if_false, Go.typeInfo, Sem.run_bind, run_program, Result.andThen_ok, hi, Sem.run_pure, hg, Bool.not_true, Bool.false_eq_true]
                exact this
            · rename_i he
              have he : ¬ tx = ty := fun e => he (by rw [e]; exact Nat.beq_refl _)
              cases h
              simp [he]
      · cases h
    · exact equal_sound hC hO h hx hy
  · exact equal_sound hC hO h hx hy

/-- The guard ahead of an equality. -/
theorem eqGuard_sound {C : Cfg} (hC : C.P = P) (hO : EqOk C) {op : BinOp} {t : TypeId} {x y : Operand} {a b a' b' : Value} (h : nilsOk C t x y a b = true) (ha : VR ρ a a') (hb : VR ρ b b') : (eqGuard op t x y a' b').run P w = .ok () w := by
  have key : op = .eql ∨ op = .neq ∨ (eqGuard op t x y a' b').run P w = .ok () w := by
    cases op <;> first | exact .inl rfl | exact .inr (.inl rfl) | exact .inr (.inr (by simp [eqGuard]))
  rcases key with rfl | rfl | key
  · cases ha <;> try (simp [eqGuard]; done)
    · cases hb <;> try (simp [eqGuard]; done)
      have h : (isConst x || isConst y) = true := h
      cases x <;> cases y <;> first | (simp [eqGuard]; done) | cases h
    · have hg := hO.guard t h
      rw [hC] at hg
      cases hb <;> try (simp [eqGuard]; done)
      exact run_eqGuard_agg w _ t x y _ _ hg
  · cases ha <;> try (simp [eqGuard]; done)
    · cases hb <;> try (simp [eqGuard]; done)
      have h : (isConst x || isConst y) = true := h
      cases x <;> cases y <;> first | (simp [eqGuard]; done) | cases h
    · have hg := hO.guard t h
      rw [hC] at hg
      cases hb <;> try (simp [eqGuard]; done)
      exact run_eqGuard_agg w _ t x y _ _ hg
  · exact key
end
end Go.Ax

namespace Go.Ax
open Go

section
variable {P : Program} {base : Nat} {ρ : Ren} {s s' : St} {w w' : World} {ev : Ev} {η : Operand → Value}

theorem asNat_some {v : Value} {n : Nat} (h : asNat v = some n) : ∃ k, v = .int k (Int.ofNat n) := by
  cases v <;> try (cases h; done)
  rename_i k i
  cases i with
  | ofNat i => cases h; exact ⟨k, rfl⟩
  | negSucc i => cases h

theorem VR.nat {v c : Value} {n : Nat} (h : VR ρ v c) (hn : asNat v = some n) : ∃ k, c = .int k (Int.ofNat n) := by
  obtain ⟨k, rfl⟩ := asNat_some hn
  cases h
  exact ⟨k, rfl⟩

theorem eqD_chan {d : TypeDesc} {i : Option Nat} {y : Value} {b : Bool} (h : eqD P d (.chan i) y = some b) : False := by
  cases d <;> cases h

theorem eqAt_chan {C : Cfg} : ∀ (n : Nat) {t : TypeId} {i : Option Nat} {y : Value} {b : Bool}, (Nat.rec (fun _ _ _ => none) (fun _ ih => eqStep C ih) n : EqF) t (.chan i) y = some b → False
  | 0, _, _, _, _, h => by cases h
  | n + 1, t, i, y, b, h => by
    change eqStep C _ t (.chan i) y = some b at h
    unfold eqStep at h
    obtain ⟨d, _, h⟩ := obind_some.1 h
    split at h
    · cases h
    · obtain ⟨_, h⟩ := guard_some.1 h
      cases h
    · exact eqD_chan h

theorem eqOp_chan {C : Cfg} {t : TypeId} {op : BinOp} {i : Option Nat} {y v : Value} (h : binOp3 C t op (.chan i) y = some v) : False := by
  change eqOp C t op (.chan i) y = some v at h
  unfold eqOp at h
  split at h
  · obtain ⟨b, hb, _⟩ := obind_some.1 h
    exact eqAt_chan 6 hb
  · obtain ⟨b, hb, _⟩ := obind_some.1 h
    exact eqAt_chan 6 hb
  · cases h

theorem rngOp_some {op : BinOp} {k : FloatKind} {lo hi : Nat} {y v : Value} (h : rngOp op k lo hi y = some v) :
    k = .f64 ∧ ∃ c : Nat, y = .int .i64 (Int.ofNat c) ∧ op = .gtr ∧ ((v = .bool false ∧ hi ≤ c ∧ hi ≠ 0) ∨ (v = .bool true ∧ c < lo)) := by
  unfold rngOp at h
  split at h
  · rename_i c
    cases c with
    | negSucc c => cases h
    | ofNat c =>
      obtain ⟨hk, h⟩ := guard_some.1 h
      have hk : k = .f64 := by cases k <;> first | rfl | cases hk
      split at h
      · rw [sel_eq] at h
        split at h
        · rename_i hg
          cases h
          simp only [Bool.and_eq_true, Bool.not_eq_true'] at hg
          refine ⟨hk, c, rfl, rfl, .inl ⟨rfl, Nat.le_of_ble_eq_true hg.1, ?_⟩⟩
          intro e
          rw [e] at hg
          exact Bool.noConfusion hg.2
        · obtain ⟨hg, h⟩ := guard_some.1 h
          cases h
          exact ⟨hk, c, rfl, rfl, .inr ⟨rfl, Nat.le_of_ble_eq_true hg⟩⟩
      · cases h
  · cases h

theorem binOp_sound {C : Cfg} (hC : C.P = P) (hO : EqOk C) {op : BinOp} {t : TypeId} {a b a' b' v : Value} (h : binOp C t op a b = some v) (ha : VR ρ a a') (hb : VR ρ b b') :
    (Go.binOp op t a' b').run P w = .ok v w ∧ ∀ ρ, VR ρ v v := by
  have rest : ∀ op', op' ≠ BinOp.shl → op' ≠ BinOp.shr → binOp3 C t op' a b = some v → (Go.binOp op' t a' b').run P w = .ok v w ∧ ∀ ρ, VR ρ v v := by
    intro op h1 h2 h
    have eqs : eqOp C t op a b = some v → (∀ k x k' y, ¬ (a' = .int k x ∧ b' = .int k' y)) → (∀ x y, ¬ (a' = .string x ∧ b' = .string y)) → (Go.binOp op t a' b').run P w = .ok v w ∧ ∀ ρ, VR ρ v v := by
      intro h hni hns
      cases op <;> try (cases h; done)
      · obtain ⟨r, hr, h⟩ := obind_some.1 h
        cases h
        refine ⟨?_, fun ρ => .bool _⟩
        have := eqT_sound (w := w) hC hO hr ha hb
        cases ha <;> cases hb <;> first | exact absurd ⟨rfl, rfl⟩ (hni _ _ _ _) | exact absurd ⟨rfl, rfl⟩ (hns _ _) | simp [Go.binOp, this]
      · obtain ⟨r, hr, h⟩ := obind_some.1 h
        cases h
        refine ⟨?_, fun ρ => .bool _⟩
        have := eqT_sound (w := w) hC hO hr ha hb
        cases ha <;> cases hb <;> first | exact absurd ⟨rfl, rfl⟩ (hni _ _ _ _) | exact absurd ⟨rfl, rfl⟩ (hns _ _) | simp [Go.binOp, this]
    cases ha with
    | int k x =>
      cases hb with
      | int k' y =>
        obtain ⟨hg, h3⟩ := guard_some.1 h
        have hk := kindEq_eq hg
        subst hk
        exact intOp_sound t h3 h1 h2
      | _ => cases h
    | string x =>
      cases hb with
      | string y => exact strOp_sound t h h1 h2
      | _ => cases h
    | tok i k n => exact (eqOp_chan h).elim
    | olen lo hi a n c h1 h2 => exact Bool.noConfusion (show isF64 .f32 = true by rw [(rngOp_some h).1]; rfl)
    | rng lo hi n hlo hhi =>
      obtain ⟨_, c, rfl, rfl, hq⟩ := rngOp_some h
      cases hb
      rcases hq with ⟨rfl, h3, h4⟩ | ⟨rfl, h3⟩
      · have h5 : ¬ (c < n) := by rcases hhi with h6 | h6 <;> omega
        refine ⟨?_, fun ρ => .bool _⟩
        simp [Go.binOp, Op.intCmp, h5]
      · have h5 : c < n := Nat.lt_of_lt_of_le h3 hlo
        refine ⟨?_, fun ρ => .bool _⟩
        simp [Go.binOp, Op.intCmp, h5]
    | _ => exact eqs h (fun _ _ _ _ hh => by cases hh.1) (fun _ _ hh => by cases hh.1)
  cases op
  case shl =>
    obtain ⟨k, x, k', y, rfl, rfl, h1, h2⟩ := shift_sound (P := P) (w := w) t h
    cases ha; cases hb
    exact ⟨h1, h2⟩
  case shr =>
    obtain ⟨k, x, k', y, rfl, rfl, h1, h2⟩ := shift_sound (P := P) (w := w) t h
    cases ha; cases hb
    exact ⟨h1, h2⟩
  all_goals exact rest _ (by simp) (by simp) h

theorem oBin_sound (h : HR P base ρ s w) (he : EvR ρ ev η) {op : BinOp} {t : TypeId} {x y : Operand} (C : Cfg) (hC : C.P = P) (hO : EqOk C) {r : Res} (hr : oBin C ev s op t x y = some r) :
    ResR P base ρ s w (Sem.run P (do pure (.value (← do eqGuard op t x y (η x) (η y); Go.binOp op t (η x) (η y)))) w) r := by
  obtain ⟨a, ha, hr⟩ := obind_some.1 hr
  obtain ⟨b, hb, hr⟩ := obind_some.1 hr
  obtain ⟨hg, hr⟩ := guard_some.1 hr
  obtain ⟨v, hv, hr⟩ := obind_some.1 hr
  rw [ret_some hr]
  have h1 := eqGuard_sound (w := w) hC hO (op := op) hg (he x a ha) (he y b hb)
  have h2 := binOp_sound (w := w) hC hO hv (he x a ha) (he y b hb)
  simp only [Sem.run_bind, h1, Result.andThen_ok, h2.1, Sem.run_pure]
  exact gives_pure h (h2.2 ρ)

theorem oUn_sound (h : HR P base ρ s w) (he : EvR ρ ev η) {op : UnOp} {x : Operand} (C : Cfg) {r : Res} (hr : oUn C ev s op x = some r) :
    ResR P base ρ s w (Sem.run P (do pure (.value (← Op.unary op (η x)))) w) r := by
  obtain ⟨a, ha, hr⟩ := obind_some.1 hr
  obtain ⟨v, hv, hr⟩ := obind_some.1 hr
  rw [ret_some hr]
  have h2 := unOp_sound (P := P) (w := w) hv
  have hc := he x a ha
  have e : η x = a := by
    generalize η x = c at hc
    cases hc <;> first | rfl | cases hv
  simp only [e, Sem.run_bind, h2.1, Result.andThen_ok, Sem.run_pure]
  exact gives_pure h (h2.2 ρ)

theorem oIface_sound (h : HR P base ρ s w) (he : EvR ρ ev η) {t : TypeId} {x : Operand} (C : Cfg) (hC : C.P = P) {r : Res} (hr : oIface C ev s t x = some r) :
    ResR P base ρ s w (Sem.run P (do pure (.value (← Instr.makeInterface t (η x)))) w) r := by
  obtain ⟨hg, hr⟩ := guard_some.1 hr
  obtain ⟨a, ha, hr⟩ := obind_some.1 hr
  rw [ret_some hr]
  rw [hC] at hg
  simp only [Bool.and_eq_true, Bool.not_eq_true'] at hg
  obtain ⟨hg1, hg2⟩ := hg
  cases hu : P.underlying t with
  | none => rw [hu] at hg2; cases hg2
  | some d =>
    unfold isIface at hg1
    rw [hu] at hg1
    have : (Instr.makeInterface t (η x)).run P w = .ok (.iface t (η x)) w := by
      cases d <;> first | (simp [Instr.makeInterface, run_underlying hu]; done) | cases hg1
    simp only [Sem.run_bind, this, Result.andThen_ok, Sem.run_pure]
    exact gives_pure h (.iface t (he x a ha))

theorem oFunc_sound (h : HR P base ρ s w) (he : EvR ρ ev η) {fn : Fn} {first captured : Array Operand} (C : Cfg) {r : Res} (hr : oFunc C ev s fn first captured = some r) :
    ResR P base ρ s w (Sem.run P (do pure (.value (← Instr.makeFunc fn (first.map η) (captured.map η)))) w) r := by
  obtain ⟨hf, hr⟩ := guard_some.1 hr
  obtain ⟨a, ha, hr⟩ := obind_some.1 hr
  obtain ⟨b, hb, hr⟩ := obind_some.1 hr
  rw [ret_some hr]
  simp only [Instr.makeFunc, Sem.run_bind, Sem.run_pure, Result.andThen_ok]
  have e1 : first.map η = ⟨first.toList.map η⟩ := by apply Array.ext'; simp
  have e2 : captured.map η = ⟨captured.toList.map η⟩ := by apply Array.ext'; simp
  rw [e1, e2]
  have hfr : FR ρ fn fn := by
    cases fn with
    | func f => exact .func f
    | method n => exact .method n
    | methodOf t n => exact .methodOf t n
    | via t p f b => exact .via t p f b
    | yield l => cases hf
  exact gives_pure h (.func hfr (evs_some he ha) (evs_some he hb))

theorem oExtract_sound (h : HR P base ρ s w) (he : EvR ρ ev η) {x : Operand} {i : Nat} (C : Cfg) {r : Res} (hr : oExtract C ev s x i = some r) :
    ResR P base ρ s w (Sem.run P (do pure (.value (← Instr.extract (η x) i))) w) r := by
  obtain ⟨a, ha, hr⟩ := obind_some.1 hr
  have hc := he x a ha
  generalize η x = c at hc
  cases hc <;> try (cases hr; done)
  rename_i la lc hl
  obtain ⟨v, hv, hr⟩ := obind_some.1 hr
  rw [ret_some hr]
  rw [nth_eq] at hv
  obtain ⟨v', h1, h2⟩ := hl.get hv
  simp only [Instr.extract, List.getElem?_toArray, h1, Sem.run_bind, Sem.run_pure, Result.andThen_ok]
  exact gives_pure h h2

theorem ltN_some {a b : Nat} (h : ltN a b = true) : a < b := Nat.le_of_ble_eq_true h

theorem run_asIntOf (k : IntKind) (n : Int) : (asIntOf (.int k n)).run P w = .ok (k, n) w := by simp [asIntOf]

theorem oIndex_sound (h : HR P base ρ s w) (he : EvR ρ ev η) {t : TypeId} {x i : Operand} (C : Cfg) (hC : C.P = P) {r : Res} (hr : oIndex C ev s t x i = some r) :
    ResR P base ρ s w (Sem.run P (do pure (.value (← Instr.index t (η x) (η i)))) w) r := by
  obtain ⟨a, ha, hr⟩ := obind_some.1 hr
  obtain ⟨b, hb, hr⟩ := obind_some.1 hr
  obtain ⟨n, hn, hr⟩ := obind_some.1 hr
  obtain ⟨k, hk⟩ := (he i b hb).nat hn
  have hc := he x a ha
  rw [hk]
  generalize η x = c at hc
  rw [hC] at hr
  cases hc with
  | string bs =>
    change (match P.underlying t with | some .string => obind (nth bs.data.toList n) fun c => ret (.int .u8 (Int.ofNat c.toNat)) s | _ => none) = some r at hr
    split at hr
    · rename_i hu
      obtain ⟨c, hc, hr⟩ := obind_some.1 hr
      rw [ret_some hr]
      rw [nth_eq] at hc
      have hlt : n < bs.data.size := by
        have := (List.getElem?_eq_some_iff.1 hc).1
        simpa using this
      have hg : bs[n]? = some c := by
        rw [getElem?_pos bs n hlt]
        rw [List.getElem?_eq_getElem (by simpa using hlt)] at hc
        have hc' : bs.data[n] = c := by simpa using hc
        exact congrArg some hc'
      have hpos : (0 : Int) ≤ (n : Int) := by omega
      simp only [Instr.index, Sem.run_bind, run_asIntOf, run_underlying hu, Result.andThen_ok, Int.ofNat_eq_natCast, if_pos hpos, Int.toNat_natCast, hg, Sem.run_pure]
      exact gives_pure h (.int _ _)
    · cases hr
  | @agg la lc hl =>
    change (match P.underlying t with | some (.array len e) => guard (ltN n len) (obind (size P e) fun k => obind (part P e la (Nat.mul n k)) fun v => ret v s) | _ => none) = some r at hr
    split at hr
    · rename_i len e hu
      obtain ⟨hg, hr⟩ := guard_some.1 hr
      obtain ⟨sz, hsz, hr⟩ := obind_some.1 hr
      obtain ⟨v, hv, hr⟩ := obind_some.1 hr
      rw [ret_some hr]
      obtain ⟨c, hrun, hcv⟩ := part_sound (w := w) hv hl
      change (Go.part e ⟨lc⟩ (n * sz)).run P w = _ at hrun
      have hlt := ltN_some hg
      have hcond : (0 : Int) ≤ (n : Int) ∧ (n : Int) < (len : Int) := by omega
      simp only [Instr.index, Sem.run_bind, run_asIntOf, run_underlying hu, Result.andThen_ok, Int.ofNat_eq_natCast, if_pos hcond, Int.toNat_natCast, run_sizeOf hsz, hrun, Sem.run_pure]
      exact gives_pure h hcv
    · cases hr
  | _ => cases hr

theorem oIndexAddr_sound (h : HR P base ρ s w) (he : EvR ρ ev η) {t : TypeId} {x i : Operand} (C : Cfg) (hC : C.P = P) {r : Res} (hr : oIndexAddr C ev s t x i = some r) :
    ResR P base ρ s w (Sem.run P (do pure (.value (← Instr.indexAt t (η x) (η i)))) w) r := by
  obtain ⟨a, ha, hr⟩ := obind_some.1 hr
  obtain ⟨b, hb, hr⟩ := obind_some.1 hr
  obtain ⟨n, hn, hr⟩ := obind_some.1 hr
  obtain ⟨k, hk⟩ := (he i b hb).nat hn
  have hc := he x a ha
  rw [hk]
  generalize η x = c at hc
  rw [hC] at hr
  split at hr
  · rename_i e hu
    obtain ⟨bk, o, len, cap, l, hl, rfl, rfl⟩ : ∃ bk o len cap l, ρ.at bk = some l ∧ a = .slice (some ⟨bk, o, none⟩) len cap ∧ c = .slice (some ⟨l.blk, l.off + o, none⟩) len (capOf l cap) := by
      cases hc with
      | slice hl => exact ⟨_, _, _, _, _, hl, rfl, rfl⟩
      | dead => exact absurd (ltN_some (guard_some.1 hr).1) (Nat.not_lt_zero _)
      | _ => cases hr
    obtain ⟨hg, hr⟩ := guard_some.1 hr
    obtain ⟨sz, hsz, hr⟩ := obind_some.1 hr
    rw [ret_some hr]
    rw [hC] at hsz
    have hlt := ltN_some hg
    have hcond : (0 : Int) ≤ (n : Int) ∧ (n : Int) < (len : Int) := by omega
    simp only [Instr.indexAt, Sem.run_bind, run_asIntOf, run_underlying hu, Result.andThen_ok, Int.ofNat_eq_natCast, Sem.run_pure, if_pos hcond, run_sizeOf hsz, add_eq]
    simp only [Int.toNat_natCast]
    refine gives_pure h ?_
    have := VR.ptr (ρ := ρ) (b := bk) (o := o + n * sz) (l := l) hl
    simpa [ptr, Nat.add_assoc] using this
  · rename_i len e hu
    obtain ⟨bk, o, l, hl, rfl, rfl⟩ : ∃ bk o l, ρ.at bk = some l ∧ a = .pointer (some ⟨bk, o, none⟩) ∧ c = .pointer (some ⟨l.blk, l.off + o, none⟩) := by
      cases hc with
      | ptr hl => exact ⟨_, _, _, hl, rfl, rfl⟩
      | _ => cases hr
    obtain ⟨hg, hr⟩ := guard_some.1 hr
    obtain ⟨sz, hsz, hr⟩ := obind_some.1 hr
    rw [ret_some hr]
    rw [hC] at hsz
    have hlt := ltN_some hg
    have hcond : (0 : Int) ≤ (n : Int) ∧ (n : Int) < (len : Int) := by omega
    simp only [Instr.indexAt, Instr.sureAddr, Sem.run_bind, run_asIntOf, run_underlying hu, Result.andThen_ok, Int.ofNat_eq_natCast, Sem.run_pure, if_pos hcond, run_sizeOf hsz, add_eq]
    simp only [Int.toNat_natCast]
    refine gives_pure h ?_
    have := VR.ptr (ρ := ρ) (b := bk) (o := o + n * sz) (l := l) hl
    simpa [ptr, Nat.add_assoc] using this
  · cases hr

theorem oS2A_sound (h : HR P base ρ s w) (he : EvR ρ ev η) {arr : TypeId} {x : Operand} (C : Cfg) (hC : C.P = P) {r : Res} (hr : oS2A C ev s arr x = some r) :
    ResR P base ρ s w (Sem.run P (do pure (.value (← Instr.arrayAt arr (η x)))) w) r := by
  obtain ⟨a, ha, hr⟩ := obind_some.1 hr
  have hc := he x a ha
  generalize η x = c at hc
  rw [hC] at hr
  split at hr
  · rename_i n e a' len c' hu
    obtain ⟨hg, hr⟩ := guard_some.1 hr
    rw [ret_some hr]
    simp only [Bool.and_eq_true] at hg
    have h1n := Nat.le_of_ble_eq_true hg.1
    have hlt : ¬ (len < n) := by have := Nat.le_of_ble_eq_true hg.2; omega
    cases hc with
    | sliceNil n c =>
      simp only [Instr.arrayAt, Sem.run_bind, run_underlying hu, Result.andThen_ok, Sem.run_pure, if_neg hlt]
      exact gives_pure h .ptrNil
    | slice hl =>
      simp only [Instr.arrayAt, Sem.run_bind, run_underlying hu, Result.andThen_ok, Sem.run_pure, if_neg hlt]
      exact gives_pure h (.ptr hl)
    | dead => omega
  · cases hr

theorem oMakeMap_sound (h : HR P base ρ s w) (he : EvR ρ ev η) {t : TypeId} {x : Option Operand} (C : Cfg) (hC : C.P = P) {r : Res} (hr : oMakeMap C ev s t x = some r) :
    ResR P base ρ s w (Sem.run P (do pure (.value (← Instr.makeMap t (x.map η)))) w) r := by
  have hg := Goes.newMap h
  have hv : VR (ρ.set s.next ⟨w.heap.size, 0, 0⟩) (.map (some s.next)) (.map (some w.heap.size)) := VR.map (l := ⟨w.heap.size, 0, 0⟩) (Ren.set_same ρ _ _)
  cases x with
  | none =>
    rw [ret_some hr]
    have hrun : Sem.run P (do pure (Next.value (← Instr.makeMap t (Option.map η none)))) w = .ok (.value (.map (some w.heap.size))) (w.alloc (.map #[] 0)) := by
      simp [Instr.makeMap]
    rw [hrun]
    exact gives_val hg hv
  | some y =>
    obtain ⟨hg0, hr⟩ := guard_some.1 hr
    obtain ⟨v, hy, hr⟩ := obind_some.1 hr
    obtain ⟨n, hn, hr⟩ := obind_some.1 hr
    rw [ret_some hr]
    obtain ⟨k, hk⟩ := (he y v hy).nat hn
    obtain ⟨kt, e, hu⟩ : ∃ k e, P.underlying t = some (.map k e) := by
      unfold isMap at hg0
      rw [hC] at hg0
      split at hg0
      · exact ⟨_, _, by assumption⟩
      · cases hg0
    have hrun : Sem.run P (do pure (Next.value (← Instr.makeMap t (Option.map η (some y))))) w = .ok (.value (.map (some w.heap.size))) (w.alloc (.map #[] 0)) := by
      simp [Instr.makeMap, hk, run_underlying hu, asInt, run_asIntOf]
    rw [hrun]
    exact gives_val hg hv
end
end Go.Ax

namespace Go.Ax
open Go

section
variable {P : Program} {base : Nat} {ρ : Ren} {s s' : St} {w w' : World} {ev : Ev} {η : Operand → Value}

/-- Where a method's receiver is sought. -/
inductive PlR (ρ : Ren) : Pl → Place → Prop
  | val {v c : Value} (h : VR ρ v c) : PlR ρ (.val v) (.val c)
  | var {b o : Nat} {l : Loc} (h : ρ.at b = some l) : PlR ρ (.var b o) (.var ⟨l.blk, l.off + o, none⟩)

theorem get_sound (h : HR P base ρ s w) {t : TypeId} {x : Pl} {y : Place} {v : Value} (hxy : PlR ρ x y) (hv : x.get P s t = some v) : ∃ c, (y.get t).run P w = .ok c w ∧ VR ρ v c := by
  cases hxy with
  | val hvc => cases hv; exact ⟨_, by simp [Place.get], hvc⟩
  | var hl => exact load_sound h hl hv

theorem run_fieldPlace {a : Addr} {f : Field} {n : Nat} (hn : size P f.type = some n) (hg : (!Nat.beq n 0) = true) : (fieldPlace a f).run P w = .ok (a.add f.offset) w := by
  have hn0 : n ≠ 0 := by rintro rfl; simp at hg
  simp only [fieldPlace, run_sizeOf hn, hn0, if_false, Sem.run_bind, Sem.run_pure, Result.andThen_ok]

theorem follow_sound (h : HR P base ρ s w) : ∀ (st : List FieldStep) {t : TypeId} {x : Pl} {y : Place} {r : TypeId × Pl}, PlR ρ x y → follow P s st t x = some r →
    ∃ y', (Go.follow st t y).run P w = .ok (r.1, y') w ∧ PlR ρ r.2 y'
  | [], t, x, y, r, hxy, hr => by
    cases hr
    exact ⟨y, by simp [Go.follow], hxy⟩
  | st :: rest, t, x, y, r, hxy, hr => by
    change obind (follow1 P s st t x) (fun r => follow P s rest r.1 r.2) = some r at hr
    obtain ⟨q, hq, hr⟩ := obind_some.1 hr
    unfold follow1 at hq
    obtain ⟨f, hf, hq⟩ := obind_some.1 hq
    obtain ⟨n, hn, hq⟩ := obind_some.1 hq
    obtain ⟨fs, hu, hfs⟩ := fieldInfo_some hf
    cases hd : st.deref with
    | true =>
      rw [hd, sel_true] at hq
      split at hq
      · rename_i a hx
        obtain ⟨hg, hq⟩ := guard_some.1 hq
        cases hq
        obtain ⟨c, h1, h2⟩ := get_sound h hxy hx
        cases h2 with
        | @ptr b o l hl =>
          obtain ⟨y', h3, h4⟩ := follow_sound h rest (t := f.type) (y := .var ⟨l.blk, l.off + (o + f.offset), none⟩) (PlR.var hl) hr
          refine ⟨y', ?_, h4⟩
          simp only [Go.follow, run_underlying hu, hfs, hd, if_true, Sem.run_bind, Result.andThen_ok, h1, asAddr, Sem.run_pure, run_fieldPlace hn hg, add_eq]
          rw [Nat.add_assoc]
          exact h3
      · cases hq
    | false =>
      rw [hd, sel_false] at hq
      cases hxy with
      | @var b o l hl =>
        obtain ⟨hg, hq⟩ := guard_some.1 hq
        cases hq
        obtain ⟨y', h3, h4⟩ := follow_sound h rest (t := f.type) (y := .var ⟨l.blk, l.off + (o + f.offset), none⟩) (PlR.var hl) hr
        refine ⟨y', ?_, h4⟩
        simp only [Go.follow, run_underlying hu, hfs, hd, Bool.false_eq_true, if_false, Sem.run_bind, Result.andThen_ok, run_fieldPlace hn hg, add_eq]
        rw [Nat.add_assoc]
        exact h3
      | @val a0 c0 hv =>
        obtain ⟨la, lc, hl, rfl, rfl⟩ : ∃ la lc, VRs ρ la lc ∧ a0 = Value.agg ⟨la⟩ ∧ c0 = Value.agg ⟨lc⟩ := by
          cases hv with
          | agg hl => exact ⟨_, _, hl, rfl, rfl⟩
          | _ => cases hq
        change obind (part P f.type la f.offset) (fun v => some (f.type, Pl.val v)) = some q at hq
        obtain ⟨v, hv, hq⟩ := obind_some.1 hq
        cases hq
        obtain ⟨c, h1, h2⟩ := part_sound (w := w) hv hl
        obtain ⟨y', h3, h4⟩ := follow_sound h rest (t := f.type) (y := .val c) (PlR.val h2) hr
        refine ⟨y', ?_, h4⟩
        simp only [Go.follow, run_underlying hu, hfs, hd, Bool.false_eq_true, if_false, Sem.run_bind, Result.andThen_ok, h1]
        exact h3

theorem receiver_sound (h : HR P base ρ s w) {xt : TypeId} {x : Pl} {y : Place} {pr : Bool} {v : Value} (wrapper : Option String) (hxy : PlR ρ x y) (hr : receiver P s xt x pr = some v) :
    ∃ c, (receiverAt xt y pr wrapper).run P w = .ok c w ∧ VR ρ v c := by
  unfold receiver at hr
  split at hr
  · rename_i elem hu
    cases pr with
    | true =>
      rw [sel_true] at hr
      obtain ⟨c, h1, h2⟩ := get_sound h hxy hr
      exact ⟨c, by simp [receiverAt, run_underlying hu, h1], h2⟩
    | false =>
      rw [sel_false] at hr
      split at hr
      · rename_i a hx
        obtain ⟨c, h1, h2⟩ := get_sound h hxy hx
        cases h2 with
        | @ptr b o l hl =>
          obtain ⟨c', h3, h4⟩ := load_sound h hl hr
          refine ⟨c', ?_, h4⟩
          cases wrapper with
          | none => simp [receiverAt, run_underlying hu, h1, asAddr, h3]
          | some name =>
            have hs : (Builtin.ssaWrapNilChk_ #[xt] xt #[.pointer (some ⟨l.blk, l.off + o, none⟩), strVal "", strVal name]).run P w = .ok (.pointer (some ⟨l.blk, l.off + o, none⟩)) w := rfl
            simp [receiverAt, run_underlying hu, h1, asAddr, h3, hs]
      · cases hr
  · rename_i d hnp hu
    cases hxy with
    | @var b o l hl =>
      cases pr with
      | true =>
        change some (ptr b o) = some v at hr
        cases hr
        refine ⟨.pointer (some ⟨l.blk, l.off + o, none⟩), ?_, .ptr hl⟩
        cases d <;> first | exact absurd rfl (hnp _) | simp [receiverAt, run_underlying hu]
      | false =>
        change Pl.get P s xt (.var b o) = some v at hr
        obtain ⟨c, h1, h2⟩ := get_sound h (PlR.var hl) hr
        refine ⟨c, ?_, h2⟩
        cases d <;> first | exact absurd rfl (hnp _) | simp [receiverAt, run_underlying hu, h1]
    | val hv =>
      cases pr with
      | true => cases hr
      | false =>
        cases hr
        refine ⟨_, ?_, hv⟩
        cases d <;> first | exact absurd rfl (hnp _) | simp [receiverAt, run_underlying hu, Place.get]
  · cases hr

theorem findMethod_some {t : TypeId} {name : String} {m : Method} (h : findMethod P t name = some m) : ∃ i, P.info? t = some i ∧ i.methods.find? (·.name == name) = some m := by
  unfold findMethod at h
  cases hi : P.info? t with
  | none => simp [hi] at h
  | some i =>
    rw [hi] at h
    refine ⟨i, rfl, ?_⟩
    rw [← Array.find?_toList]
    exact h

theorem method_sound (h : HR P base ρ s w) {t : TypeId} {v c : Value} {name : String} {q : FuncId × Value} (hv : VR ρ v c) (hq : method P s t v name = some q) (fuel : Nat) :
    ∃ c', (Go.method (fuel + 1) t c name).run P w = .ok (q.1, c') w ∧ VR ρ q.2 c' := by
  unfold Ax.method at hq
  obtain ⟨m, hm, hq⟩ := obind_some.1 hq
  obtain ⟨r, hr, hq⟩ := obind_some.1 hq
  obtain ⟨i, hi, hfm⟩ := findMethod_some hm
  obtain ⟨y, h1, h2⟩ := follow_sound h m.path.toList (PlR.val hv) hr
  cases hf : m.func with
  | none => rw [hf] at hq; cases hq
  | some fp =>
    rw [hf] at hq
    change obind (receiver P s r.1 r.2 fp.2) (fun v => some (fp.1, v)) = some q at hq
    obtain ⟨u, hu, hq⟩ := obind_some.1 hq
    cases hq
    obtain ⟨c', h3, h4⟩ := receiver_sound h (if m.path.isEmpty then some ((name.splitOn ".").getLastD name) else none) h2 hu
    refine ⟨c', ?_, h4⟩
    obtain ⟨f, pr⟩ := fp
    simp only [Go.method, Go.typeInfo, Sem.run_bind, run_program, Result.andThen_ok, hi, Sem.run_pure, hfm, h1, hf, h3]
end
end Go.Ax

namespace Go.Ax
open Go

theorem least_none {l : List String} : Instr.least l = none ↔ l = [] := by cases l <;> simp [Instr.least]

theorem least_part (p : String → Bool) (g : String → String) (l : List String) : (Instr.least (l.partition p).2 <|> Instr.least ((l.partition p).1.map g)) = none ↔ l = [] := by
  rw [List.partition_eq_filter_filter]
  constructor
  · intro h
    have h3 : Instr.least (l.filter (not ∘ p)) = none ∧ Instr.least ((l.filter p).map g) = none := by
      cases hx : Instr.least (l.filter (not ∘ p)) with
      | none => rw [hx] at h; exact ⟨rfl, h⟩
      | some q => rw [hx] at h; cases h
    rw [least_none, least_none, List.map_eq_nil_iff, List.filter_eq_nil_iff, List.filter_eq_nil_iff] at h3
    cases l with
    | nil => rfl
    | cons a t =>
      have h1 := h3.1 a (by simp)
      have h2 := h3.2 a (by simp)
      cases hb : p a
      · simp only [Function.comp, hb] at h1; exact absurd rfl h1
      · exact absurd hb h2
  · rintro rfl
    simp [Instr.least]

theorem missingMethod_none (want : Array (String × TypeId)) (got : Array Method) :
    Instr.missingMethod want got = none ↔ (want.toList.any fun w => !(got.toList.any fun m => m.name == w.1 && m.sig == w.2)) = false := by
  unfold Instr.missingMethod
  generalize hl : (List.filter (fun x => match x with | (name, sig) => !got.any fun m => m.name == name && m.sig == sig) want.toList).map (·.1) = l
  have h1 : (want.toList.any fun w => !(got.toList.any fun m => m.name == w.1 && m.sig == w.2)) = false ↔ l = [] := by
    rw [← hl, List.map_eq_nil_iff, List.filter_eq_nil_iff, List.any_eq_false]
    constructor
    · intro h a ha
      have := h a ha
      simpa using this
    · intro h a ha
      have := h a ha
      simpa using this
  rw [h1]
  exact least_part _ _ l

section
variable {P : Program} {base : Nat} {ρ : Ren} {s s' : St} {w w' : World} {ev : Ev} {η : Operand → Value}

theorem zeroVal_some {t : TypeId} {z : Value} (h : zeroVal P t = some z) : ∃ i, P.info? t = some i ∧ i.zero = some z := by
  have h := (guard_some.1 h).2
  cases hi : P.info? t with
  | none => simp [hi] at h
  | some i => exact ⟨i, rfl, by simpa [hi] using h⟩

theorem run_zeroVal {t : TypeId} {z : Value} (h : zeroVal P t = some z) : (zeroValue t).run P w = .ok z w := by
  obtain ⟨i, h1, h2⟩ := zeroVal_some h
  simp [zeroValue, Go.typeInfo, h1, h2]

theorem ZeroOk.at (hZ : ZeroOk P) {t : TypeId} {z : Value} (h : zeroVal P t = some z) : VR ρ z z := by
  obtain ⟨i, h1, h2⟩ := zeroVal_some h
  exact hZ t i z (Nat.le_of_ble_eq_true (guard_some.1 h).1) h1 h2 ρ

theorem oAssert_sound (h : HR P base ρ s w) (he : EvR ρ ev η) (hZ : ZeroOk P) {x : Operand} {xt asserted : TypeId} {ok : Bool} (C : Cfg) (hC : C.P = P) {r : Res} (hr : oAssert C ev s x asserted ok = some r) :
    ResR P base ρ s w (Sem.run P (do pure (.value (← Instr.typeAssert (η x) xt asserted ok))) w) r := by
  obtain ⟨hg, hr⟩ := guard_some.1 hr
  obtain ⟨a, ha, hr⟩ := obind_some.1 hr
  have hc := he x a ha
  generalize η x = c at hc
  rw [hC] at hg
  obtain ⟨d, hd⟩ := Option.isSome_iff_exists.1 hg
  have hfail : ∀ {r}, failAssert C s asserted ok = some r → ∃ z, ok = true ∧ (zeroValue asserted).run P w = .ok z w ∧ VR ρ z z ∧ r = .val (.tuple #[z, .bool false]) s := by
    intro r hr
    obtain ⟨hok, hr⟩ := guard_some.1 hr
    obtain ⟨z, hz, hr⟩ := obind_some.1 hr
    rw [hC] at hz
    exact ⟨z, hok, run_zeroVal hz, hZ.at hz, ret_some hr⟩
  have htup : ∀ {z : Value}, VR ρ z z → VR ρ (.tuple #[z, .bool false]) (.tuple #[z, .bool false]) := fun hz => .tuple (.cons hz (.cons (.bool _) .nil))
  have hhold : ∀ {v c : Value}, VR ρ v c → VR ρ (sel ok (.tuple #[v, .bool true]) v) (if ok then .tuple #[c, .bool true] else c) := by
    intro v c hv
    cases ok
    · exact hv
    · exact .tuple (.cons hv (.cons (.bool _) .nil))
  cases hc with
  | nilIface =>
    obtain ⟨z, rfl, h1, h2, rfl⟩ := hfail hr
    have hrun : (Instr.typeAssert .nilIface xt asserted true).run P w = .ok (.tuple #[z, .bool false]) w := by
      cases d <;> simp [Instr.typeAssert, run_underlying hd, h1]
    simp only [Sem.run_bind, hrun, Result.andThen_ok, Sem.run_pure]
    exact gives_pure h (htup h2)
  | @iface t y y' hy =>
    change sel (isIface C.P asserted) (guard (C.P.info? t).isSome <| sel (missing C.P asserted t) (failAssert C s asserted ok) (holdAssert s (.iface t y) ok)) (sel (Nat.beq t asserted) (holdAssert s y ok) (failAssert C s asserted ok)) = some r at hr
    rw [hC, sel_eq] at hr
    split at hr
    · rename_i hi
      obtain ⟨want, rfl⟩ : ∃ want, d = .interface want := by
        unfold isIface at hi
        rw [hd] at hi
        cases d <;> first | exact ⟨_, rfl⟩ | cases hi
      obtain ⟨hg2, hr⟩ := guard_some.1 hr
      obtain ⟨i, hinf⟩ := Option.isSome_iff_exists.1 hg2
      have hmm := missingMethod_none want i.methods
      have hmis : missing P asserted t = (want.toList.any fun w => !(i.methods.toList.any fun m => m.name == w.1 && m.sig == w.2)) := by
        unfold missing; rw [hd, hinf]
      rw [← hmis] at hmm
      cases hm : missing P asserted t with
      | true =>
        rw [hm, sel_true] at hr
        obtain ⟨z, rfl, h1, h2, rfl⟩ := hfail hr
        rw [hm] at hmm
        cases hq : Instr.missingMethod want i.methods with
        | none => exact absurd (hmm.1 hq) (by simp)
        | some q =>
          have hrun : (Instr.typeAssert (.iface t y') xt asserted true).run P w = .ok (.tuple #[z, .bool false]) w := by
            simp [Instr.typeAssert, run_underlying hd, h1, Go.typeInfo, hinf, hq]
          simp only [Sem.run_bind, hrun, Result.andThen_ok, Sem.run_pure]
          exact gives_pure h (htup h2)
      | false =>
        rw [hm, sel_false] at hr
        rw [ret_some hr]
        have hq := hmm.2 hm
        have hrun : (Instr.typeAssert (.iface t y') xt asserted ok).run P w = .ok (if ok then .tuple #[.iface t y', .bool true] else .iface t y') w := by
          simp [Instr.typeAssert, run_underlying hd, Go.typeInfo, hinf, hq]
        simp only [Sem.run_bind, hrun, Result.andThen_ok, Sem.run_pure]
        exact gives_pure h (hhold (.iface t hy))
    · rename_i hi
      have hni : ∀ want, d ≠ .interface want := by
        rintro want rfl
        apply hi
        unfold isIface
        rw [hd]
      rw [sel_eq] at hr
      split at hr
      · rename_i hta
        have hta := Nat.eq_of_beq_eq_true hta
        have hr2 := ret_some hr
        rw [hr2]
        have hrun : (Instr.typeAssert (.iface t y') xt asserted ok).run P w = .ok (if ok then .tuple #[y', .bool true] else y') w := by
          cases d <;> first | exact absurd rfl (hni _) | simp [Instr.typeAssert, run_underlying hd, hta]
        simp only [Sem.run_bind, hrun, Result.andThen_ok, Sem.run_pure]
        exact gives_pure h (hhold hy)
      · rename_i hta
        have hta : t ≠ asserted := fun e => hta (by rw [e]; exact Nat.beq_refl _)
        obtain ⟨z, rfl, h1, h2, rfl⟩ := hfail hr
        have hrun : (Instr.typeAssert (.iface t y') xt asserted true).run P w = .ok (.tuple #[z, .bool false]) w := by
          cases d <;> first | exact absurd rfl (hni _) | simp [Instr.typeAssert, run_underlying hd, hta, h1]
        simp only [Sem.run_bind, hrun, Result.andThen_ok, Sem.run_pure]
        exact gives_pure h (htup h2)
  | _ => cases hr
end
end Go.Ax

namespace Go.Ax
open Go

section
variable {P : Program} {base : Nat} {ρ : Ren} {s s' : St} {w w' : World} {ev : Ev} {η : Operand → Value}

theorem okAhead_sound {t : TypeId} {v c : Value} {name : String} (hv : VR ρ v c) (h : okAhead P t v name = true) (fuel : Nat) : (nilAhead (fuel + 1) t c name).run P w = .ok (some false) w := by
  unfold okAhead at h
  split at h
  · cases h
  · rename_i m hm
    obtain ⟨i, hi, hfm⟩ := findMethod_some hm
    rw [sel_eq] at h
    split at h
    · rename_i hp
      have hp : m.path.toList = [] := by
        have : m.path = #[] := by simpa [Array.isEmpty_iff] using hp
        rw [this]
      have h0 : (followBlind m.path.toList t (some c)).run P w = .ok (.ok (t, some c)) w := by rw [hp]; simp [followBlind]
      split at h
      · rename_i f hf
        simp [nilAhead, Go.typeInfo, hi, hfm, h0, hf]
      · rename_i f e a hf hu
        cases hv with
        | ptr hl => simp [nilAhead, Go.typeInfo, hi, hfm, h0, hf, run_underlying hu]
      · cases h
      · rename_i f d hnp hf hu _
        have hd : ∀ e, d ≠ .pointer e := fun e h => hnp e h
        cases d <;> first | exact absurd rfl (hd _) | simp [nilAhead, Go.typeInfo, hi, hfm, h0, hf, run_underlying hu]
      · cases h
    · cases h

theorem oNilCheck_sound (h : HR P base ρ s w) (he : EvR ρ ev η) {x : Operand} (C : Cfg) (hC : C.P = P) {r : Res} {o : Oper} (ho : o.op = .nilCheck x) (hr : oNilCheck C ev s x = some r) :
    ResR P base ρ s w (Sem.run P (Go.execOp η o) w) r := by
  obtain ⟨a, ha, hr⟩ := obind_some.1 hr
  have hc := he x a ha
  unfold Go.execOp
  simp only [ho]
  generalize η x = c at hc
  cases hc with
  | ptr hl =>
    have hr2 := ret_some hr
    rw [hr2]
    simp only [Sem.run_pure]
    exact gives_pure h (.ptr hl)
  | iface t hv =>
    have hr2 := ret_some hr
    rw [hr2]
    simp only [Sem.run_pure]
    exact gives_pure h (.iface t hv)
  | @func f f' la lc lb lb' hf hfirst hcap =>
    change guard (okFunc C f la) (ret (.func f ⟨la⟩ ⟨lb⟩) s) = some r at hr
    obtain ⟨hg, hr⟩ := guard_some.1 hr
    have hr2 := ret_some hr
    rw [hr2]
    have hv := VR.func hf hfirst hcap
    cases hf with
    | method name =>
      unfold okFunc at hg
      cases hfirst with
      | nil => cases hg
      | @cons v v' l l' hv1 hl =>
        cases hv1 with
        | iface t hw =>
          change okAhead C.P t _ name = true at hg
          rw [hC] at hg
          have := okAhead_sound (w := w) hw hg (P.types.size + Made.depth - 1)
          have e : P.types.size + Made.depth - 1 + 1 = P.types.size + Made.depth := by
            have : 0 < Made.depth := by decide
            omega
          rw [e] at this
          simp [this]
          exact gives_pure h hv
        | _ => cases hg
    | func f => simp only [Sem.run_pure]; exact gives_pure h hv
    | methodOf t n => simp only [Sem.run_pure]; exact gives_pure h hv
    | via t p f b => simp only [Sem.run_pure]; exact gives_pure h hv
    | yield hl => simp only [Sem.run_pure]; exact gives_pure h hv
  | _ => cases hr

/-- What make of a slice comes to. -/
theorem makeSlice_run (hZ : ZeroOk P) {t e : TypeId} {l c : Nat} {i : TypeInfo} {z : List Value} (hu : P.underlying t = some (.slice e)) (hi : P.info? e = some i) (hz : zero P e = some z)
    (hg1 : lenL z = i.size) (hg2 : 1 ≤ i.size) (hg3 : l ≤ c) (hg4 : c ≤ 100000) (hg5 : i.bytes * c ≤ 281474976710656) {x y : Value} {k1 k2 : IntKind} (hk1 : x = .int k1 (l : Int)) (hk2 : y = .int k2 (c : Int)) :
    ∃ arr, VRs ρ (repeatL c z) arr.toList ∧ (Instr.makeSlice t x y).run P w = .ok (.slice (some ⟨w.heap.size, 0, none⟩) l c) (w.alloc (.cells arr e)) := by
  rw [lenL_eq] at hg1
  obtain ⟨i2, v, h1, h2, h3, h4⟩ := zero_cells hZ hz ρ
  rw [hi] at h1
  cases h1
  have hzv : (zeroValue e).run P w = .ok v w := by simp [zeroValue, Go.typeInfo, hi, h2]
  have hvn : v.cells.size = i.size := by
    have := h4.length
    simp at this
    omega
  have hsz : (Go.sizeOf e).run P w = .ok i.size w := by simp [Go.sizeOf, Go.typeInfo, hi]
  have hzz : VRs ρ (repeatL c z) ((Array.range (c * i.size)).map fun j => v.cells[j % v.cells.size]!).toList := by
    have := zeroCells_vrs h4 c (.inl (by omega))
    have e0 : c * v.cells.size = c * i.size := by rw [hvn]
    rwa [e0] at this
  have hw1 : IntKind.i64.wrap (l : Int) = (l : Int) := wrap_ofNat_i64 (by omega)
  have hw2 : IntKind.i64.wrap (c : Int) = (c : Int) := wrap_ofNat_i64 (by omega)
  have ht : ¬ ((c : Int) < 0 ∨ (i.bytes : Int) * (c : Int) > 2 ^ 48) := by
    have : (i.bytes : Int) * (c : Int) = ((i.bytes * c : Nat) : Int) := by simp
    omega
  have hlc : ¬ ((l : Int) < 0) := by omega
  have hlc2 : ¬ ((l : Int) > (c : Int)) := by omega
  have hrun : (Instr.makeSlice t x y).run P w = .ok (.slice (some ⟨w.heap.size, 0, none⟩) l c) (w.alloc (.cells ((Array.range (c * i.size)).map fun j => v.cells[j % v.cells.size]!) e)) := by
    rw [hk1, hk2]
    have hcond : ((decide ((c : Int) < 0) || decide ((i.bytes : Int) * (c : Int) > 2 ^ 48)) || decide ((l : Int) < 0) || decide ((l : Int) > (c : Int))) = false := by
      simp only [not_or] at ht
      simp only [ht.1, ht.2, hlc, hlc2, decide_false, Bool.or_false]
    simp only [Instr.makeSlice, run_underlying hu, Sem.run_bind, Result.andThen_ok, asInt, run_asIntOf, Sem.run_pure, Go.typeInfo, run_program, hi, hw1, hw2, hcond, Bool.false_eq_true, if_false, run_askRoom, Int.toNat_natCast, hsz]
    by_cases h0 : c * i.size = 0
    · have hc0 : c = 0 := by
        rcases Nat.mul_eq_zero.1 h0 with h | h
        · exact h
        · omega
      subst hc0
      have e0 : Array.range 0 = #[] := rfl
      simp [newRow, e0]
    · simp only [h0, if_false, Sem.run_bind, hzv, Result.andThen_ok, Sem.run_pure]
      simp [newRow]
  exact ⟨_, hzz, hrun⟩

theorem oMakeSlice_sound (h : HR P base ρ s w) (he : EvR ρ ev η) (hZ : ZeroOk P) {t : TypeId} {x y : Operand} (C : Cfg) (hC : C.P = P) {r : Res} (hr : oMakeSlice C ev s t x y = some r) :
    ResR P base ρ s w (Sem.run P (do pure (.value (← Instr.makeSlice t (η x) (η y)))) w) r := by
  unfold oMakeSlice at hr
  rw [hC] at hr
  split at hr
  · rename_i e hu
    obtain ⟨a, ha, hr⟩ := obind_some.1 hr
    obtain ⟨l, hl, hr⟩ := obind_some.1 hr
    obtain ⟨b, hb, hr⟩ := obind_some.1 hr
    obtain ⟨c, hc, hr⟩ := obind_some.1 hr
    obtain ⟨i, hi, hr⟩ := obind_some.1 hr
    obtain ⟨z, hz, hr⟩ := obind_some.1 hr
    obtain ⟨hg, hr⟩ := guard_some.1 hr
    have hr2 := ret_some hr
    rw [hr2]
    simp only [Bool.and_eq_true] at hg
    obtain ⟨⟨⟨⟨hg1, hg2⟩, hg3⟩, hg4⟩, hg5⟩ := hg
    have hg1 := Nat.eq_of_beq_eq_true hg1
    have hg2 := Nat.le_of_ble_eq_true hg2
    have hg3 := Nat.le_of_ble_eq_true hg3
    have hg4 := Nat.le_of_ble_eq_true hg4
    have hg5 := Nat.le_of_ble_eq_true hg5
    change i.bytes * c ≤ 281474976710656 at hg5
    rw [lenL_eq] at hg1
    obtain ⟨k1, hk1⟩ := (he x a ha).nat hl
    obtain ⟨k2, hk2⟩ := (he y b hb).nat hc
    obtain ⟨i2, v, h1, h2, h3, h4⟩ := zero_cells hZ hz ρ
    rw [hi] at h1
    cases h1
    have hzv : (zeroValue e).run P w = .ok v w := by simp [zeroValue, Go.typeInfo, hi, h2]
    have hvn : v.cells.size = i.size := by
      have := h4.length
      simp at this
      omega
    have hsz : (Go.sizeOf e).run P w = .ok i.size w := by simp [Go.sizeOf, Go.typeInfo, hi]
    have hzz : VRs ρ (repeatL c z) ((Array.range (c * i.size)).map fun j => v.cells[j % v.cells.size]!).toList := by
      have := zeroCells_vrs h4 c (.inl (by omega))
      have e0 : c * v.cells.size = c * i.size := by rw [hvn]
      rwa [e0] at this
    have hw1 : IntKind.i64.wrap (l : Int) = (l : Int) := wrap_ofNat_i64 (by omega)
    have hw2 : IntKind.i64.wrap (c : Int) = (c : Int) := wrap_ofNat_i64 (by omega)
    have ht : ¬ ((c : Int) < 0 ∨ (i.bytes : Int) * (c : Int) > 2 ^ 48) := by
      have : (i.bytes : Int) * (c : Int) = ((i.bytes * c : Nat) : Int) := by simp
      omega
    have hlc : ¬ ((l : Int) < 0) := by omega
    have hlc2 : ¬ ((l : Int) > (c : Int)) := by omega
    have hrun : (Instr.makeSlice t (η x) (η y)).run P w = .ok (.slice (some ⟨w.heap.size, 0, none⟩) l c) (w.alloc (.cells ((Array.range (c * i.size)).map fun j => v.cells[j % v.cells.size]!) e)) := by
      rw [hk1, hk2]
      have hcond : ((decide ((c : Int) < 0) || decide ((i.bytes : Int) * (c : Int) > 2 ^ 48)) || decide ((l : Int) < 0) || decide ((l : Int) > (c : Int))) = false := by
        simp only [not_or] at ht
        simp only [ht.1, ht.2, hlc, hlc2, decide_false, Bool.or_false]
      simp only [Instr.makeSlice, run_underlying hu, Sem.run_bind, Result.andThen_ok, asInt, run_asIntOf, Sem.run_pure, Go.typeInfo, run_program, hi, Int.ofNat_eq_natCast, hw1, hw2, hcond, Bool.false_eq_true, if_false, run_askRoom, Int.toNat_natCast, hsz]
      by_cases h0 : c * i.size = 0
      · have hc0 : c = 0 := by
          rcases Nat.mul_eq_zero.1 h0 with h | h
          · exact h
          · omega
        subst hc0
        have e0 : Array.range 0 = #[] := rfl
        simp [newRow, e0]
      · simp only [h0, if_false, Sem.run_bind, hzv, Result.andThen_ok, Sem.run_pure]
        simp [newRow]
    have hgo := Goes.newRow (e := e) h hzz
    simp only [Sem.run_bind, hrun, Result.andThen_ok, Sem.run_pure]
    refine gives_val hgo ?_
    have := VR.slice (ρ := ρ.set s.next ⟨w.heap.size, 0, 0⟩) (b := s.next) (o := 0) (n := l) (c := c) (l := ⟨w.heap.size, 0, 0⟩) (by rw [Ren.at_of h.next, Ren.set_same])
    have hcap : capOf ⟨w.heap.size, 0, 0⟩ c = c := by
      unfold capOf; rw [if_neg]; unfold halfCap; omega
    rw [hcap] at this
    exact this
  · cases hr
end
end Go.Ax

namespace Go.Ax
open Go

inductive OptR (ρ : Ren) : Option Value → Option Value → Prop
  | none : OptR ρ none none
  | some {v c : Value} (h : VR ρ v c) : OptR ρ (some v) (some c)

section
variable {P : Program} {base : Nat} {ρ : Ren} {s s' : St} {w w' : World} {ev : Ev} {η : Operand → Value}

theorem optEv_some (he : EvR ρ ev η) {x : Option Operand} {k : Option Value → Option Res} {r : Res} (hr : optEv ev x k = some r) : ∃ v, OptR ρ v (x.map η) ∧ k v = some r := by
  cases x with
  | none => exact ⟨none, .none, hr⟩
  | some x =>
    obtain ⟨v, hv, hr⟩ := obind_some.1 hr
    exact ⟨some v, .some (he x v hv), hr⟩

theorem run_sliceBound {v c : Value} {n y : Nat} (hv : VR ρ v c) (hn : asNat v = some n) (hy : n ≤ y) (code : BoundsCode) : (Instr.sliceBound c y code).run P w = .ok n w := by
  obtain ⟨k, rfl⟩ := hv.nat hn
  have : (0 : Int) ≤ (n : Int) ∧ (n : Int) ≤ (y : Int) := by omega
  simp only [Instr.sliceBound, Sem.run_bind, run_asIntOf, Result.andThen_ok, Int.ofNat_eq_natCast, if_pos this, Sem.run_pure, Int.toNat_natCast]

theorem bounds_some {β : Type} {lo hi mx : Option Value} {len cap : Nat} {k : Nat → Nat → Nat → Option β} {r : β} (h : bounds lo hi mx len cap k = some r) :
    ∃ l h m, bound lo 0 = some l ∧ bound hi len = some h ∧ bound mx cap = some m ∧ k l h m = some r := by
  obtain ⟨l, h1, h⟩ := obind_some.1 h
  obtain ⟨hh, h2, h⟩ := obind_some.1 h
  obtain ⟨m, h3, h⟩ := obind_some.1 h
  exact ⟨l, hh, m, h1, h2, h3, h⟩

/-- The bounds of a slice, as the model reads them. -/
theorem run_sliceBounds {lo hi mx lo' hi' mx' : Option Value} (hlo : OptR ρ lo lo') (hhi : OptR ρ hi hi') (hmx : OptR ρ mx mx') {isSlice : Bool} {len capA capM l h m M : Nat}
    (h1 : bound lo 0 = some l) (h2 : bound hi len = some h) (h3 : bound mx capA = some m) (hM : mx.isSome = true → M = m ∧ hi.isSome = true) (hM2 : mx = none → M = capM)
    (hl : l ≤ h) (hh : h ≤ M) (hm : M ≤ capM) : (Instr.sliceBounds isSlice len capM lo' hi' mx').run P w = .ok (l, h, M) w := by
  cases hmx with
  | none =>
    have hM2 := hM2 rfl
    subst hM2
    cases hhi with
    | none =>
      cases h2
      cases hlo with
      | none => cases h1; simp [Instr.sliceBounds]
      | some hv => simp [Instr.sliceBounds, run_sliceBound hv h1 hl]
    | some hv2 =>
      cases hlo with
      | none => cases h1; simp [Instr.sliceBounds, run_sliceBound hv2 h2 hh]
      | some hv => simp [Instr.sliceBounds, run_sliceBound hv h1 hl, run_sliceBound hv2 h2 hh]
  | some hv3 =>
    obtain ⟨rfl, hi1⟩ := hM rfl
    cases hhi with
    | none => cases hi1
    | some hv2 =>
      cases hlo with
      | none => cases h1; simp [Instr.sliceBounds, run_sliceBound hv2 h2 hh, run_sliceBound hv3 h3 hm]
      | some hv => simp [Instr.sliceBounds, run_sliceBound hv h1 hl, run_sliceBound hv2 h2 hh, run_sliceBound hv3 h3 hm]

theorem capOf_known {l : Loc} {c : Nat} (h : c < halfCap) : capOf l c = c := by unfold capOf; rw [if_neg (by omega)]
theorem capOf_open {l : Loc} {c : Nat} (h : halfCap ≤ c) : capOf l c = l.cap - (bigCap - c) := by unfold capOf; rw [if_pos h]

/-- What the cells of an open block tell of its capacity. -/
theorem open_cap (h : HR P base ρ s w) {b o cap n k : Nat} {cs : List Value} {e : TypeId} {f : Nat} {l : Loc} (hl : ρ.at b = some l) (hc : s.cells b = some (cs, e, f)) (hf : f ≠ 0) (hn : size P e = some n)
    (ho : o = (bigCap - cap) * n) (hk : o + k * n ≤ cs.length) (hn0 : 0 < n) : (bigCap - cap) + k ≤ l.cap := by
  obtain ⟨q, hq⟩ := h.rows b cs e f hc
  have hql : q = l := by have := hq.at_; rw [hl] at this; exact (Option.some.inj this).symm
  subst hql
  obtain ⟨_, a, fz, _, _, _, _, g5⟩ := hq
  obtain ⟨n', h1, h2, h3, h4⟩ := g5 hf
  rw [hn] at h1
  cases h1
  have : ((bigCap - cap) + k) * n ≤ q.cap * n := by rw [Nat.add_mul]; omega
  exact Nat.le_of_mul_le_mul_right this hn0
end
end Go.Ax

