import Derived.Test.YtifhpiilobkjiaaGreatDoorDe
import Derived.Test.YtifhpiilobkjiaaGreatDoorDa
import Derived.Test.YtifhpiilobkjiaaGreatDoorDc
import Derived.StillTail
namespace Go.Ax
open Go
section
variable {P : Program} {base : Nat} {ρ ρ' : Ren} {s s' s1 : St} {w w' : World}

theorem flat_eq {v c : Value} (h : flatOne v = true) (hv : VR ρ v c) : c = v := by
  cases hv <;> first | rfl | (exact Bool.noConfusion (show false = true from h))
theorem flat_vr (ρ : Ren) {v : Value} (h : flatOne v = true) : VR ρ v v := by
  cases v <;> first | exact .bool _ | exact .int _ _ | exact .string _ | (exact Bool.noConfusion (show false = true from h))
theorem flatAll_get : ∀ {l : List Value}, flatAll l = true → ∀ {j : Nat} {v : Value}, l[j]? = some v → flatOne v = true
  | [], _, j, v, hj => by simp at hj
  | a :: l, h, j, v, hj => by
    change sel (flatOne a) (flatAll l) false = true at h
    rw [sel_eq] at h
    split at h
    · rename_i ha
      cases j with
      | zero => simp at hj; subst hj; exact ha
      | succ j => simp at hj; exact flatAll_get h hj
    · cases h

/-- The state that knows one block alone. -/
noncomputable def oneSt (cs : List Value) (t : TypeId) : St := { heap := Hp.set (.s 15 0) 64 (.row cs t 0), fams := .s 15 0, next := 65 }
def oneRen (l : Loc) : Ren := fun i => if i = 64 then some l else none

theorem oneSt_get (cs : List Value) (t : TypeId) (i : Nat) : (oneSt cs t).heap.get i = if i = 64 then some (.row cs t 0) else none := by
  show (Hp.set (Hp.s 15 0) 64 (Row.row cs t 0)).get i = _
  rw [Hp.get_set, Hp.get_s]

theorem oneSt_cells (cs : List Value) (t : TypeId) : (oneSt cs t).cells 64 = some (cs, t, 0) := cells_some.2 ⟨by rw [oneSt_get]; rfl, .inl rfl⟩

theorem oneSt_tag {cs : List Value} {t : TypeId} {i : Nat} {a : Nat × Nat} (h : (oneSt cs t).tag i = some a) : i = 64 ∧ a = (0, 64) := by
  unfold St.tag at h
  rw [oneSt_get] at h
  by_cases hi : i = 64
  · rw [if_pos hi] at h
    simp at h
    exact ⟨hi, by rw [← h, hi]⟩
  · rw [if_neg hi] at h; cases h

theorem one_hr (h : HR P base ρ s w) {b : Nat} {cs : List Value} {t : TypeId} (hb : fixedTop ≤ b) (hc : s.cells b = some (cs, t, 0)) (hf : flatAll cs = true) : ∃ l, ρ b = some l ∧ l.off = 0 ∧ HR P base (oneRen l) (oneSt cs t) w := by
  obtain ⟨l, hrow⟩ := h.rows b _ _ _ hc
  have hl : ρ b = some l := by rw [← Ren.at_of (ρ := ρ) hb]; exact hrow.at_
  obtain ⟨d1, d2, d3, d4⟩ := h.dom b l hl
  have hl0 : l.off = 0 := by
    obtain ⟨_, a, fz, _, _, _, h0, _⟩ := hrow
    exact (h0 rfl).1
  refine ⟨l, hl, hl0, ⟨fun i q hi => ?_, by show 64 ≤ 65; omega, h.base_le, fun i hi ht => ?_, fun i r hi => ?_, fun i cs1 e1 f1 hi => ?_, fun i cs1 e1 f1 hi => ?_, fun i es c hi => ?_, fun i r hi => ?_, fun i j x y u v hi hj hxy hu hv => ?_⟩⟩
  · unfold oneRen at hi
    split at hi
    · rename_i e; cases hi; subst e; exact ⟨by decide, by show 64 < 65; omega, d3, d4⟩
    · cases hi
  · cases ht' : (oneSt cs t).tag i with
    | none => exact absurd ht' ht
    | some a =>
      have := (oneSt_tag ht').1
      have : fixedTop = 64 := rfl
      omega
  · rw [oneSt_get] at hi
    split at hi
    · rename_i e; subst e; show 64 < 65; omega
    · cases hi
  · rw [oneSt_get] at hi
    split at hi
    · cases hi; show 0 < 65; omega
    · cases hi
  · obtain ⟨h1, _⟩ := cells_some.1 hi
    rw [oneSt_get] at h1
    split at h1
    · rename_i e
      subst e
      cases h1
      obtain ⟨hat, a, fz, ha, hv, hz, h0, h1⟩ := hrow
      refine ⟨l, ?_, a, fz, ha, fun j x hj => ?_, fun _ => hz hb, fun _ => ?_, fun hn => absurd rfl hn⟩
      · show (oneRen l).at 64 = some l
        rw [Ren.at_of (by decide)]; rfl
      · obtain ⟨y, hy, hxy⟩ := hv j x hj
        have hfl := flatAll_get hf hj
        rw [flat_eq hfl hxy] at hy
        exact ⟨x, hy, flat_vr _ hfl⟩
      · obtain ⟨q1, q2, q3⟩ := h0 rfl
        exact ⟨q1, q2, fun _ => q3 hb⟩
    · cases h1
  · rw [oneSt_get] at hi
    split at hi <;> cases hi
  · rw [oneSt_get] at hi
    split at hi <;> cases hi
  · obtain ⟨_, rfl⟩ := oneSt_tag hi
    obtain ⟨_, rfl⟩ := oneSt_tag hj
    exact absurd rfl hxy

theorem putRow0 (s : St) (b : Nat) (cs : List Value) (t : TypeId) : putRow s b cs t 0 = { heap := s.heap.set b (.row cs t 0), fams := s.fams, next := s.next } := rfl

/-- What a call does that knows one block alone, it does to that block. -/
theorem one_goes (h : HR P base ρ s w) {b : Nat} {cs cs' : List Value} {t : TypeId} {l : Loc} (hb : fixedTop ≤ b) (hc : s.cells b = some (cs, t, 0)) (hl : ρ b = some l)
    (hg : Goes P base (oneRen l) (oneSt cs t) w ρ' s1 w') (hc1 : s1.cells 64 = some (cs', t, 0)) (hf : flatAll cs' = true) : Goes P base ρ s w ρ (putRow s b cs' t 0) w' := by
  rw [putRow0]
  obtain ⟨hg1, _⟩ := cells_some.1 hc
  have htb : s.tag b = some (0, b) := tag_cells hc
  have hlat : ρ.at b = some l := by rw [Ren.at_of hb]; exact hl
  have htb' : ({ heap := s.heap.set b (.row cs' t 0), fams := s.fams, next := s.next } : St).tag b = some (0, b) := by
    unfold St.tag; simp [Hp.get_set_same]
  have htag : ∀ i, ({ heap := s.heap.set b (.row cs' t 0), fams := s.fams, next := s.next } : St).tag i = s.tag i := by
    intro i
    by_cases hi : i = b
    · subst hi; rw [htb', htb]
    · exact tag_set_other (n := s.next) hi
  have hne : ∀ i q x, i ≠ b → s.tag i = some x → ρ.at i = some q → q.blk ≠ l.blk := by
    intro i q x hi hx hq
    refine h.sep i b x (0, b) q l hx htb ?_ hq hlat
    rintro rfl
    unfold St.tag at hx
    split at hx
    · split at hx
      · simp at hx; exact hi hx
      · split at hx
        · split at hx <;> simp at hx
        · cases hx
    · simp at hx; exact hi hx
    · simp at hx; exact hi hx
    · cases hx
  have hold : ∀ i q x, i ≠ b → s.tag i = some x → ρ.at i = some q → w'.heap[q.blk]? = w.heap[q.blk]? := by
    intro i q x hi hx hq
    refine hg.frame _ (h.blk_lt hx hq) ?_
    rintro ⟨j, u, y, _, hy, hu, e⟩
    obtain ⟨rfl, _⟩ := oneSt_tag hy
    have hu : some l = some u := hu
    cases hu
    exact hne i q x hi hx hq e.symm
  have hl1 : ρ'.at 64 = some l := by
    rw [Ren.at_of (by decide), hg.old 64 (by show 64 < 65; omega)]; rfl
  refine ⟨Ren.le_refl ρ, ⟨fun i q hi => ?_, h.next, Nat.le_trans h.base_le hg.grow, fun i hi ht => ?_, fun i r hi => ?_, fun i cs1 e1 f1 hi => ?_, fun i cs1 e1 f1 hi => ?_, fun i es c hi => ?_, fun i r hi => ?_, fun i j x y u v hi hj hxy hu hv => ?_⟩, hg.os, hg.tape, hg.output, hg.grow, Nat.le_refl _, fun k hk ho => ?_, fun k ho => ?_, fun _ _ => rfl⟩
  · obtain ⟨a, b, c, d⟩ := h.dom i q hi
    exact ⟨a, b, c, Nat.lt_of_lt_of_le d hg.grow⟩
  · rw [htag] at ht; exact h.low i hi ht
  · by_cases hi' : i = b
    · subst hi'; exact h.heap_dom i _ hg1
    · simp only [Hp.get_set_other _ _ hi'] at hi; exact h.heap_dom i r hi
  · by_cases hi' : i = b
    · subst hi'
      simp only [Hp.get_set_same] at hi
      cases hi
      exact h.fam_dom i _ _ _ hg1
    · simp only [Hp.get_set_other _ _ hi'] at hi; exact h.fam_dom i _ _ _ hi
  · by_cases hi' : i = b
    · subst hi'
      obtain ⟨h1, _⟩ := cells_some.1 hi
      simp only [Hp.get_set_same] at h1
      cases h1
      obtain ⟨l', hat, a, fz, ha, hv, hz, h0, h1⟩ := hg.hr.rows 64 _ _ _ hc1
      rw [hl1] at hat
      cases hat
      refine ⟨l, hlat, a, fz, ha, fun j x hj => ?_, fun _ => hz (by decide), fun _ => ?_, fun hn => absurd rfl hn⟩
      · obtain ⟨y, hy, hxy⟩ := hv j x hj
        have hfl := flatAll_get hf hj
        rw [flat_eq hfl hxy] at hy
        exact ⟨x, hy, flat_vr _ hfl⟩
      · obtain ⟨q1, q2, q3⟩ := h0 rfl
        exact ⟨q1, q2, fun _ => q3 (by decide)⟩
    · have hi2 : s.cells i = some (cs1, e1, f1) := (cells_set_other (n := s.next) hi') ▸ hi
      obtain ⟨q, hq⟩ := h.rows i cs1 e1 f1 hi2
      exact ⟨q, hq.move (Ren.le_refl ρ) (hold i q _ hi' (tag_cells hi2) hq.at_)⟩
  · by_cases hi' : i = b
    · subst hi'; simp only [Hp.get_set_same] at hi; cases hi
    · simp only [Hp.get_set_other _ _ hi'] at hi
      obtain ⟨q, hq, es', h1, h2⟩ := h.maps i es c hi
      exact ⟨q, hq, es', by rw [hold i q _ hi' (tag_map hi) (by rw [Ren.at_of (h.dom i q hq).1]; exact hq)]; exact h1, h2⟩
  · by_cases hi' : i = b
    · subst hi'; simp only [Hp.get_set_same] at hi; cases hi
    · simp only [Hp.get_set_other _ _ hi'] at hi
      obtain ⟨q, hq, q', h1, h2⟩ := h.loops i r hi
      exact ⟨q, hq, q', by rw [hold i q _ hi' (tag_loop hi) (by rw [Ren.at_of (h.dom i q hq).1]; exact hq)]; exact h1, h2⟩
  · rw [htag] at hi hj
    exact h.sep i j x y u v hi hj hxy hu hv
  · refine hg.frame k hk ?_
    rintro ⟨j, u, y, _, hy, hu, e⟩
    obtain ⟨rfl, _⟩ := oneSt_tag hy
    have hu : some l = some u := hu
    cases hu
    exact ho ⟨b, l, _, hb, htb, hl, e⟩
  · left
    obtain ⟨i, q, x, h1, h2, h3, h4⟩ := ho
    rw [htag] at h2
    exact ⟨i, q, x, h1, h2, h3, h4⟩

/-! ### contracts -/
theorem flatAll_vrs (ρ' : Ren) : ∀ {l c : List Value}, flatAll l = true → VRs ρ l c → VRs ρ' l c
  | [], _, _, .nil => .nil
  | a :: l, _, h, .cons hv hl => by
    change sel (flatOne a) (flatAll l) false = true at h
    rw [sel_eq] at h
    split at h
    · rename_i ha
      exact .cons (by rw [flat_eq ha hv]; exact flat_vr ρ' ha) (flatAll_vrs ρ' h hl)
    · cases h

theorem freeV_vr (ρ' : Ren) {v c : Value} (h : freeV v = true) (hv : VR ρ v c) : VR ρ' v c := by
  cases hv with
  | agg hl => exact .agg (flatAll_vrs ρ' h hl)
  | tuple hl => exact .tuple (flatAll_vrs ρ' h hl)
  | bool b => exact .bool b
  | int k n => exact .int k n
  | string s => exact .string s
  | _ => exact Bool.noConfusion (show false = true from h)

theorem freeAll_vrs (ρ' : Ren) : ∀ {l c : List Value}, freeAll l = true → VRs ρ l c → VRs ρ' l c
  | [], _, _, .nil => .nil
  | a :: l, _, h, .cons hv hl => by
    change sel (freeV a) (freeAll l) false = true at h
    rw [sel_eq] at h
    split at h
    · rename_i ha
      exact .cons (freeV_vr ρ' ha hv) (freeAll_vrs ρ' h hl)
    · cases h

/-- the place of a pointer or of a slice of known capacity: its block, and the same at block 64 -/
noncomputable def reloc (v : Value) : Option (Nat × Value) :=
  match v with
  | .pointer (some a) => guard a.spot.isNone (some (a.block, .pointer (some ⟨64, a.off, none⟩)))
  | .slice (some a) n c => guard (a.spot.isNone && !Nat.beq a.block deadId) (some (a.block, .slice (some ⟨64, a.off, none⟩) n c))
  | _ => none

theorem reloc_vr {v c x : Value} {b : Nat} {l : Loc} (h : reloc v = some (b, x)) (hb : fixedTop ≤ b) (hl : ρ b = some l) (hv : VR ρ v c) : VR (oneRen l) x c := by
  have hl1 : (oneRen l).at 64 = some l := by rw [Ren.at_of (by decide)]; rfl
  cases hv with
  | @ptr b' o l' hl' =>
    obtain ⟨_, h⟩ := guard_some.1 (show guard true (some (b', Value.pointer (some ⟨64, o, none⟩))) = some (b, x) from h)
    cases h
    rw [Ren.at_of (ρ := ρ) hb, hl] at hl'
    cases hl'
    exact .ptr hl1
  | @slice b' o n c l' hl' =>
    obtain ⟨_, h⟩ := guard_some.1 (show guard (true && !Nat.beq b' deadId) (some (b', Value.slice (some ⟨64, o, none⟩) n c)) = some (b, x) from h)
    cases h
    rw [Ren.at_of (ρ := ρ) hb, hl] at hl'
    cases hl'
    exact .slice hl1
  | dead a c =>
    have h : (none : Option (Nat × Value)) = some (b, x) := h
    cases h
  | _ => cases h

/-- a function of one argument that knows one block alone -/
noncomputable def conOne (G : Value → List Value → Option (Value × List Value)) (s : St) (args : List Value) : Option (Value × St) :=
  match args with
  | [x] => obind (reloc x) fun q => guard (Nat.ble fixedTop q.1) (obind (s.cells q.1) fun c => guard (Nat.beq c.2.2 0 && flatAll c.1) (obind (G q.2 c.1) fun r => guard (freeV r.1 && flatAll r.2) (some (r.1, putRow s q.1 r.2 c.2.1 0))))
  | _ => none

theorem conOne_sound {C : Cfg} (hK : CfgOk C P) {n : Nat} {f : FuncId} {G : Value → List Value → Option (Value × List Value)}
    (hrun : ∀ x cs t r, flatAll cs = true → G x cs = some r → ∃ s1, (runN C n).1 f [x] (oneSt cs t) = some (r.1, s1) ∧ s1.cells 64 = some (r.2, t, 0))
    {args : List Value} {v : Value} (hv : conOne G s args = some (v, s')) {cargs : List Value} (hr : HR P base ρ s w) (ha : VRs ρ args cargs) :
    Calls P f ⟨cargs⟩ w fun e w' => ∃ c ρ', e = .returned c ∧ Goes P base ρ s w ρ' s' w' ∧ VR ρ' v c := by
  unfold conOne at hv
  split at hv
  · rename_i x
    obtain ⟨⟨b, y⟩, hq, hv⟩ := obind_some.1 hv
    obtain ⟨hb, hv⟩ := guard_some.1 hv
    obtain ⟨⟨cs, t, fm⟩, hc, hv⟩ := obind_some.1 hv
    obtain ⟨h0, hv⟩ := guard_some.1 hv
    obtain ⟨⟨r, cs'⟩, hG, hv⟩ := obind_some.1 hv
    obtain ⟨hfr, hv⟩ := guard_some.1 hv
    simp only [Bool.and_eq_true] at h0 hfr
    have hfm : fm = 0 := Nat.eq_of_beq_eq_true h0.1
    subst hfm
    cases hv
    have hb : fixedTop ≤ b := Nat.le_of_ble_eq_true hb
    obtain ⟨l, hl, _, hone⟩ := one_hr hr hb hc h0.2
    obtain ⟨s1, hrun1, hc1⟩ := hrun y cs t (r, cs') h0.2 hG
    cases ha with
    | cons h1 h2 => cases h2 with
      | nil =>
        refine ((runN_ok hK n).1 f [y] _ _ s1 hrun1 base _ w _ hone (.cons (reloc_vr hq hb hl h1) .nil)).mono ?_
        rintro e w' ⟨c, ρ', rfl, hg, hvc⟩
        exact ⟨c, ρ, rfl, one_goes hr hb hc hl hg hc1 hfr.2, freeV_vr ρ hfr.1 hvc⟩
  · cases hv

noncomputable def noneSt : St := St.mk (.s 15 0) (.s 15 0) 64

theorem noneSt_tag (i : Nat) : noneSt.tag i = none := by
  unfold St.tag
  have : noneSt.heap.get i = none := Hp.get_s ..
  rw [this]

theorem none_hr (P : Program) (W : World) : HR P W.heap.size (fun _ => none) noneSt W where
  dom := fun _ _ h => by cases h
  next := Nat.le_refl 64
  base_le := Nat.le_refl _
  low := fun i _ h => absurd (noneSt_tag i) h
  heap_dom := fun i r h => by rw [show noneSt.heap.get i = none from Hp.get_s ..] at h; cases h
  fam_dom := fun i cs e f h => by rw [show noneSt.heap.get i = none from Hp.get_s ..] at h; cases h
  rows := fun i cs e f h => by
    obtain ⟨h1, _⟩ := cells_some.1 h
    rw [show noneSt.heap.get i = none from Hp.get_s ..] at h1; cases h1
  maps := fun i es c h => by rw [show noneSt.heap.get i = none from Hp.get_s ..] at h; cases h
  loops := fun i r h => by rw [show noneSt.heap.get i = none from Hp.get_s ..] at h; cases h
  sep := fun i j a b l l' hi _ _ _ _ => by rw [noneSt_tag] at hi; cases hi

theorem Goes.of_below' (h : HR P base ρ s w) (hb : RowKit.Below w.heap.size w w') : Goes P base ρ s w ρ s w' := by
  refine ⟨Ren.le_refl ρ, ?_, hb.os, hb.tape, hb.output, hb.size, Nat.le_refl _, fun b hlt _ => hb.block b hlt, fun b ho => .inl ho, fun _ _ => rfl⟩
  refine ⟨fun i l hl => ?_, h.next, Nat.le_trans h.base_le hb.size, h.low, h.heap_dom, h.fam_dom, fun i cs e f hc => ?_, fun i es c hi => ?_, fun i r hi => ?_, h.sep⟩
  · obtain ⟨a, b, c, d⟩ := h.dom i l hl
    exact ⟨a, b, c, Nat.lt_of_lt_of_le d hb.size⟩
  · obtain ⟨l, hq⟩ := h.rows i cs e f hc
    exact ⟨l, hq.move (Ren.le_refl ρ) (hb.block _ (h.blk_lt (tag_cells hc) hq.at_))⟩
  · obtain ⟨l, hl, es', h1, h2⟩ := h.maps i es c hi
    exact ⟨l, hl, es', by rw [hb.block _ (h.dom i l hl).2.2.2]; exact h1, h2⟩
  · obtain ⟨l, hl, q, h1, h2⟩ := h.loops i r hi
    exact ⟨l, hl, q, by rw [hb.block _ (h.dom i l hl).2.2.2]; exact h1, h2⟩

theorem conPure_sound {C : Cfg} (hK : CfgOk C P) {n : Nat} {f : FuncId} {G : List Value → Option Value}
    (hrun : ∀ args v, freeAll args = true → G args = some v → ∃ s1, (runN C n).1 f args noneSt = some (v, s1))
    {args : List Value} {v : Value} (hv : conPure G s args = some (v, s')) {cargs : List Value} (hr : HR P base ρ s w) (ha : VRs ρ args cargs) :
    Calls P f ⟨cargs⟩ w fun e w' => ∃ c ρ', e = .returned c ∧ Goes P base ρ s w ρ' s' w' ∧ VR ρ' v c := by
  unfold conPure conPureV at hv
  obtain ⟨u, hu, hv⟩ := obind_some.1 hv
  cases hv
  obtain ⟨hf, hv⟩ := guard_some.1 hu
  obtain ⟨u, hG, hv⟩ := obind_some.1 hv
  obtain ⟨hfv, hv⟩ := guard_some.1 hv
  cases hv
  obtain ⟨s1, hrun1⟩ := hrun args v hf hG
  refine ((runN_ok hK n).1 f args _ _ s1 hrun1 w.heap.size _ w _ (none_hr P w) (freeAll_vrs _ hf ha)).mono ?_
  rintro e w' ⟨c, ρ', rfl, hg, hvc⟩
  exact ⟨c, ρ, rfl, Goes.of_below' hr (hg.below (none_hr P w)), freeV_vr ρ hfv hvc⟩

/-- a table's entries, each by a run of its own -/
theorem memo_hrun {C : Cfg} {n : Nat} {f : FuncId} {T : List (List Value × Value)} (h : ∀ p ∈ T, ∃ s1, (runN C n).1 f p.1 noneSt = some (p.2, s1)) :
    ∀ args v, freeAll args = true → memoG T args = some v → ∃ s1, (runN C n).1 f args noneSt = some (v, s1) := by
  intro args v _ hm
  induction T with
  | nil => cases hm
  | cons p T ih =>
    have hm : sel (sameL (sameV 4) p.1 args) (some p.2) (memoG T args) = some v := hm
    rw [sel_eq] at hm
    split at hm
    · rename_i hs
      cases hm
      rw [← sameL_eq (fun a b => sameV_eq 4) hs]
      exact h p List.mem_cons_self
    · exact ih (fun q hq => h q (List.mem_cons_of_mem _ hq)) hm
end
end Go.Ax

set_option linter.unusedVariables false
namespace Go.Ax
open Go
noncomputable section

/-- What is made ready once: the kernel keeps what a closed one comes to. -/
inductive Box (α : Type) where
  | mk (x : α)
  | bad

def bbind {α β : Type} (b : Box α) (k : α → Box β) : Box β := Box.rec k .bad b
def bor {α : Type} (b c : Box α) : Box α := Box.rec .mk c b

/-- What a region's operations work with beside the frame and the state. -/
structure JE where
  call : CallT
  yield : YieldT
  base : Nat
  pend : List Pend
  cl : Bool

abbrev Loc' := List (Nat × Value)
abbrev Dfs := List (FuncId × List Value)
abbrev JK := JE → Tr Value → Loc' → Dfs → St → Option (Fr × St)
abbrev JV := Tr Value → Loc' → St → Option Value
abbrev JG := Tr Value → Loc' → Option Value
abbrev JRun := CallT → YieldT → Fr → St → Out

/-! paths -/
def jGetP {α : Type} : Path → Box (Tr α → Option α) := fun p =>
  List.rec (.mk fun t => Tr.rec none (fun v _ _ _ _ => v) t)
    (fun b _ ih => bbind ih fun g => Bool.rec (.mk fun t => Tr.rec none (fun _ x _ _ _ => g x) t) (.mk fun t => Tr.rec none (fun _ _ y _ _ => g y) t) b) p

def jSetP {α : Type} : Path → Box (α → Tr α → Tr α) := fun p =>
  List.rec (.mk fun a t => Tr.rec (.n (some a) .e .e) (fun _ x y _ _ => .n (some a) x y) t)
    (fun b _ ih => bbind ih fun g => Bool.rec
      (.mk fun a t => Tr.rec (.n none (g a .e) .e) (fun v x y _ _ => .n v (g a x) y) t)
      (.mk fun a t => Tr.rec (.n none .e (g a .e)) (fun v x y _ _ => .n v x (g a y)) t) b) p

def jNth : Nat → Box (Loc' → Option Value) := fun k =>
  Nat.rec (.mk fun l => List.rec none (fun p _ _ => some p.2) l) (fun _ ih => bbind ih fun g => .mk fun l => List.rec none (fun _ t _ => g t) l) k

def posOf (t : Nat) : List Nat → Option Nat := fun l => List.rec none (fun a _ ih => sel (Nat.beq a t) (some 0) (obind ih fun k => some (Nat.succ k))) l

def jGet (n : Nat) (ks : List Nat) (x : Operand) : Box JG :=
  match x with
  | .tmp t => sel (ltN t n) (bbind (jGetP (path t)) fun g => .mk fun vars _ => g vars) (Option.casesOn (posOf t ks) (.mk fun _ _ => none) fun k => bbind (jNth k) fun g => .mk fun _ loc => g loc)
  | .const v => .mk fun _ _ => some v
  | .global g => .mk fun _ _ => some (ptr g 0)
  | .func f => .mk fun _ _ => some (.func (.func f) #[] #[])

def jGets (n : Nat) (ks : List Nat) : List Operand → Box (Tr Value → Loc' → Option (List Value)) := fun l =>
  List.rec (.mk fun _ _ => some []) (fun x _ ih => bbind (jGet n ks x) fun g => bbind ih fun r => .mk fun vars loc => obind (g vars loc) fun v => obind (r vars loc) fun vs => some (v :: vs)) l

/-- a value laid into the frame, and what then -/
abbrev JP := JK → JE → Value → Tr Value → Loc' → Dfs → St → Option (Fr × St)

def jPut (n : Nat) (dst : Option Tmp) : Box JP :=
  Option.casesOn dst (.mk fun r e _ vars loc ds s => r e vars loc ds s) fun d => sel (ltN d n) (bbind (jSetP (path d)) fun g => .mk fun r e v vars loc ds s => r e (g v vars) loc ds s) (.mk fun r e v vars loc ds s => r e vars ((d, v) :: loc) ds s)

def jPush (n : Nat) (dst : Option Tmp) (ks : List Nat) : List Nat := Option.casesOn dst ks fun d => sel (ltN d n) ks (d :: ks)

/-! forced numbers -/
def forceN {β : Type} (n : Nat) (k : Nat → β) : β := Nat.rec (k 0) (fun m _ => k (Nat.succ m)) n
def forceI {β : Type} (z : Int) (k : Int → β) : β := Int.rec (fun n => forceN n fun n => k (Int.ofNat n)) (fun n => forceN n fun n => k (Int.negSucc n)) z

def forceV (v : Option Value) : Option Value :=
  match v with
  | some (.int k z) => forceI z fun z => some (.int k z)
  | v => v

/-! operations -/
def jInt (op : BinOp) : Box (IntKind → Int → Int → Option Value) :=
  match op with
  | .add => .mk fun k a b => forceI (wrap k (addI a b)) fun z => some (.int k z)
  | .sub => .mk fun k a b => forceI (wrap k (subI a b)) fun z => some (.int k z)
  | .mul => .mk fun k a b => forceI (wrap k (mulI a b)) fun z => some (.int k z)
  | .eql => .mk fun _ a b => some (.bool (eqI a b))
  | .neq => .mk fun _ a b => some (.bool (!eqI a b))
  | .lss => .mk fun _ a b => some (.bool (ltI a b))
  | .leq => .mk fun _ a b => some (.bool (leI a b))
  | .gtr => .mk fun _ a b => some (.bool (ltI b a))
  | .geq => .mk fun _ a b => some (.bool (leI b a))
  | .shl => .bad
  | .shr => .bad
  | op => .mk fun k a b => forceV (intOp op k a b)

def binGen (C : Cfg) (op : BinOp) (t : TypeId) (x y : Operand) (a b : Value) : Option Value := guard (nilsOk C t x y a b) (binOp C t op a b)

def jBin2 (C : Cfg) (op : BinOp) (t : TypeId) (x y : Operand) (f : IntKind → Int → Int → Option Value) (a b : Value) : Option Value :=
  match a with
  | .int k i => match b with
    | .int k' j => guard (kindEq k k') (f k i j)
    | b => binGen C op t x y a b
  | a => binGen C op t x y a b

def jBin (C : Cfg) (op : BinOp) (t : TypeId) (x y : Operand) : Box (Value → Value → Option Value) :=
  Box.rec (fun f => .mk (jBin2 C op t x y f)) (.mk (binGen C op t x y)) (jInt op)

def jLoad (P : Program) (t : TypeId) : Box (List Value → Nat → Option Value) :=
  Option.casesOn (isAgg P t) .bad fun g => sel g (Option.casesOn (size P t) .bad fun n => .mk fun cs o => obind (takeN n (dropL o cs)) fun l => some (mkAgg l)) (.mk fun cs o => nth cs o)

def ptrK {β : Type} (v : Value) (k : Addr → Option β) : Option β :=
  match v with
  | .pointer (some a) => k a
  | _ => none

def boolK {β : Type} (v : Value) (x y : Option β) : Option β :=
  match v with
  | .bool c => sel c x y
  | _ => none

def sliceK {β : Type} (v : Value) (k : Addr → Nat → Option β) : Option β :=
  match v with
  | .slice (some a) len _ => k a len
  | _ => none

def tupK {β : Type} (v : Value) (k : List Value → Option β) : Option β :=
  match v with
  | .tuple vs => k vs.toList
  | _ => none

def nilK (C : Cfg) (v : Value) : Option Value :=
  match v with
  | .pointer (some _) => some v
  | .func fn first _ => guard (okFunc C fn first.toList) (some v)
  | .iface _ _ => some v
  | _ => none

/-- the value of an operation that leaves the state as it is -/
def jVal (C : Cfg) (n : Nat) (ks : List Nat) (o : Op) : Box JV :=
  match o with
  | .move x => bbind (jGet n ks x) fun g => .mk fun vars loc _ => g vars loc
  | .assign x => bbind (jGet n ks x) fun g => .mk fun vars loc _ => g vars loc
  | .pick c a b => bbind (jGet n ks c) fun gc => bbind (jGet n ks a) fun ga => bbind (jGet n ks b) fun gb => .mk fun vars loc _ => obind (gc vars loc) fun v => boolK v (ga vars loc) (gb vars loc)
  | .binOp op t x y _ => bbind (jGet n ks x) fun gx => bbind (jGet n ks y) fun gy => bbind (jBin C op t x y) fun f => .mk fun vars loc _ => obind (gx vars loc) fun a => obind (gy vars loc) fun b => f a b
  | .unOp op _ x => bbind (jGet n ks x) fun g => .mk fun vars loc _ => obind (g vars loc) fun v => unOp op v
  | .load t a => bbind (jGet n ks a) fun g => bbind (jLoad C.P t) fun f => .mk fun vars loc s => obind (g vars loc) fun v => ptrK v fun a => obind (s.cells a.block) fun c => f c.1 a.off
  | .fieldAddr t x i => bbind (jGet n ks x) fun g => Option.casesOn (obind (fieldInfo C.P t i) fun f => obind (size C.P f.type) fun m => guard (!Nat.beq m 0) (some f.offset)) .bad fun off =>
      .mk fun vars loc _ => obind (g vars loc) fun v => ptrK v fun a => forceN (Nat.add a.off off) fun o => some (ptr a.block o)
  | .nilCheck x => bbind (jGet n ks x) fun g => .mk fun vars loc _ => obind (g vars loc) fun v => nilK C v
  | .indexAddr t x i => bbind (jGet n ks x) fun gx => bbind (jGet n ks i) fun gi => match C.P.underlying t with
    | some (.slice e) => Option.casesOn (size C.P e) .bad fun m => .mk fun vars loc _ =>
        obind (gx vars loc) fun x => obind (gi vars loc) fun i => obind (asNat i) fun i => sliceK x fun a len => guard (ltN i len) (forceN (Nat.add a.off (Nat.mul i m)) fun o => some (ptr a.block o))
    | _ => .bad
  | .extract x i => bbind (jGet n ks x) fun g => .mk fun vars loc _ => obind (g vars loc) fun v => tupK v fun vs => nth vs i
  | .makeFunc fn a b => sel (noYield fn) (bbind (jGets n ks a.toList) fun ga => bbind (jGets n ks b.toList) fun gb => .mk fun vars loc _ => obind (ga vars loc) fun a => obind (gb vars loc) fun b => some (.func fn ⟨a⟩ ⟨b⟩)) .bad
  | .makeInterface t x => sel (!isIface C.P t && (C.P.underlying t).isSome) (bbind (jGet n ks x) fun g => .mk fun vars loc _ => obind (g vars loc) fun v => some (.iface t v)) .bad
  | _ => .bad

/-- the operation itself, its destination's setter and what then -/
def jGen (C : Cfg) (rd : Bool) (n : Nat) (o : Oper) (r : JK) : JK := fun e vars loc ds s =>
  obind (execOp C (Fr.ev n { vars := vars, loc := loc, defers := ds }) s o.op) (afterOp e.call e.yield rd n { vars := vars, loc := loc, defers := ds } o.dst fun fr s => r e fr.vars fr.loc fr.defers s)

def jOp (C : Cfg) (rd : Bool) (n : Nat) (ks : List Nat) (o : Oper) (put : JP) (r : JK) : Box JK :=
  match o.op with
  | .alloc t => Option.casesOn (zero C.P t) (.mk (jGen C rd n o r)) fun z => .mk fun e vars loc ds s => forceN s.next fun b =>
      put r e (ptr b 0) vars loc ds { heap := s.heap.set b (.row z t 0), fams := s.fams, next := Nat.succ b }
  | .box t x => bbind (jGet n ks x) fun g => .mk fun e vars loc ds s => obind (g vars loc) fun v => forceN s.next fun b =>
      put r e (ptr b 0) vars loc ds { heap := s.heap.set b (.row (cellsOf v) t 0), fams := s.fams, next := Nat.succ b }
  | .store t a x => bbind (jGet n ks a) fun ga => bbind (jGet n ks x) fun gx => Option.casesOn (size C.P t) (.mk (jGen C rd n o r)) fun m => .mk fun e vars loc ds s =>
      obind (ga vars loc) fun v => ptrK v fun a => obind (gx vars loc) fun v => guard (Nat.beq (lenL (cellsOf v)) m) (obind (storeCells s a.block a.off (cellsOf v)) fun s => put r e unit vars loc ds s)
  | .call c => match c.callee with
    | .value (.func f) => Option.casesOn (C.ext f) (sel (C.body f).isSome (bbind (jGets n ks c.args.toList) fun gs => .mk fun e vars loc ds s => obind (gs vars loc) fun args => obind (e.call f args s) fun q => put r e q.1 vars loc ds q.2) (.mk (jGen C rd n o r))) fun _ => .mk (jGen C rd n o r)
    | _ => .mk (jGen C rd n o r)
  | _ => Box.rec (fun v => .mk fun e vars loc ds s => obind (v vars loc s) fun x => put r e x vars loc ds s) (.mk (jGen C rd n o r)) (jVal C n ks o.op)

def jGuard (n : Nat) (all : List Oper) (g : Option (Nat × Bool)) (put : JP) (f r : JK) : JK :=
  Option.casesOn g f fun _ => fun e vars loc ds s => obind (guardOk n all { vars := vars, loc := loc, defers := ds } g) fun b => sel b (f e vars loc ds s) (put r e unit vars loc ds s)

def jOne (C : Cfg) (rd : Bool) (n : Nat) (all : List Oper) (ks : List Nat) (o : Oper) (r : JK) : Box JK :=
  bbind (jPut n o.dst) fun put => bbind (jOp C rd n ks o put r) fun f => .mk (jGuard n all o.guard put f r)

def jEnd : JK := fun _ vars loc ds s => some ({ vars := vars, loc := loc, defers := ds }, s)

def jOps (C : Cfg) (rd : Bool) (n : Nat) (all : List Oper) : List Oper → List Nat → Box JK := fun ops =>
  List.rec (fun _ => .mk jEnd) (fun o _ ih ks => bbind (ih (jPush n o.dst ks)) fun r => jOne C rd n all ks o r) ops

/-! regions whose order is drawn -/
def withPend (e : JE) (l : List Pend) : JE := { call := e.call, yield := e.yield, base := e.base, pend := l, cl := e.cl }
def withCl (e : JE) (b : Bool) : JE := { call := e.call, yield := e.yield, base := e.base, pend := e.pend, cl := b }

/-- a call by name of a function that has a quiet contract -/
def mayQuiet (C : Cfg) (o : Op) : Bool :=
  match o with
  | .call c => match c.callee with
    | .value x => match x with
      | .func f => Option.casesOn (C.insert f) false fun t => match t with
        | .pure _ => true
        | _ => false
      | _ => true
    | _ => true
  | _ => true

/-- a loud operation: by the operation itself where it may be quiet -/
def jLoud (C : Cfg) (rd : Bool) (n : Nat) (a : Info) (rest : List Info) (r : JK) : JK := fun e vars loc ds s =>
  obind (execOp C (Fr.ev n { vars := vars, loc := loc, defers := ds }) s a.op.op) (drawLoud C e.call e.yield rd n e.base a rest (fun cl p fr s => r (withCl (withPend e p) cl) fr.vars fr.loc fr.defers s) e.cl e.pend { vars := vars, loc := loc, defers := ds })

/-- the value, by the operation itself -/
def jValGen (C : Cfg) (n : Nat) (o : Op) : JV := fun vars loc s => obind (execOp C (Fr.ev n { vars := vars, loc := loc, defers := [] }) s o) fun r => match r with
  | .val v _ => some v
  | _ => none

def jDraw1 (C : Cfg) (rd : Bool) (n : Nat) (ks : List Nat) (a : Info) (rest : List Info) (put : JP) (r : JK) : Box JK :=
  ncase a.cls
    (bbind (bor (jVal C n ks a.op.op) (.mk (jValGen C n a.op.op))) fun v => .mk fun e vars loc ds s => obind (v vars loc s) fun x => put r e x vars loc ds s)
    fun c1 => ncase c1
      (bbind (bor (jVal C n ks a.op.op) (.mk (jValGen C n a.op.op))) fun v => .mk fun e vars loc ds s => obind (v vars loc s) fun x => guard (quietV s x) (put r (withPend e ({ i := a.i, op := a.op.op, fr := { vars := vars, loc := loc, defers := ds }, v := x } :: e.pend)) x vars loc ds s))
      fun c2 => ncase c2
        (.mk fun e vars loc ds s => obind (aOp C (Fr.ev n { vars := vars, loc := loc, defers := ds }) a.op.op) fun q => forceN (Nat.add e.base a.i) fun id => put r (withCl e false) (q.2 id) vars loc ds { heap := s.heap.set id q.1, fams := s.fams, next := s.next })
        fun _ => sel (quietOp a.op.op && mayQuiet C a.op.op) (.mk (jLoud C rd n a rest r)) (jOp C rd n ks a.op put fun e vars loc ds s => guard (lookAll C n s a.mask e.pend && freeIds s e.base rest) (r (withCl e false) vars loc ds s))

def jDrawOne (C : Cfg) (rd : Bool) (n : Nat) (all : List Oper) (ks : List Nat) (a : Info) (rest : List Info) (r : JK) : Box JK :=
  bbind (jPut n a.op.dst) fun put => bbind (jDraw1 C rd n ks a rest put r) fun f => .mk (jGuard n all a.op.guard put f r)

def jDraw (C : Cfg) (rd : Bool) (n : Nat) (all : List Oper) : List Info → List Nat → Box JK := fun l =>
  List.rec (fun _ => .mk jEnd) (fun a rest ih ks => bbind (ih (jPush n a.op.dst ks)) fun r => jDrawOne C rd n all ks a rest r) l

def toOut (q : Fr × St) : Out := some (.normal, q)

def jCond (n : Nat) (x : Operand) : Box (Fr → Option Value) :=
  match x with
  | .tmp t => sel (ltN t n) (bbind (jGetP (path t)) fun g => .mk fun fr => g fr.vars) (.mk fun fr => fr.ev n x)
  | x => .mk fun fr => fr.ev n x

def jRegion (C : Cfg) (n : Nat) (fn : FuncId) (rd : Bool) (id : Nat) (ops : List Oper) (draw : Bool) : Box JRun :=
  sel draw (Option.casesOn (planOf ops (C.order fn id)) .bad fun l => bbind (jDraw C rd n ops l []) fun r => .mk fun call yield fr s =>
      obind (r { call := call, yield := yield, base := s.next, pend := [], cl := true } fr.vars [] fr.defers { heap := s.heap, fams := s.fams, next := Nat.add s.next (lenL ops) }) toOut)
    (bbind (jOps C rd n ops ops []) fun r => .mk fun call yield fr s => obind (r { call := call, yield := yield, base := 0, pend := [], cl := true } fr.vars [] fr.defers s) toOut)

def jCode (C : Cfg) (n : Nat) (fn : FuncId) (rd : Bool) (c : Code) : Box JRun :=
  Code.rec (motive := fun _ => Box JRun)
    (.mk fun _ _ fr s => some (.normal, fr, s))
    (fun id ops draw => jRegion C n fn rd id ops.toList draw)
    (fun _ _ a b => bbind a fun ra => bbind b fun rb => .mk fun call yield fr s => obind (ra call yield fr s) (iterNext (rb call yield)))
    (fun c _ _ a b => bbind (jCond n c) fun g => bbind a fun ra => bbind b fun rb => .mk fun call yield fr s => obind (g fr) fun v => boolK v (ra call yield fr s) (rb call yield fr s))
    (fun id _ a => bbind a fun ra => .mk fun call yield fr s => obind (ra call yield fr s) (blockEnd id))
    (fun _ a => bbind a fun ra => .mk fun call yield fr s => iter (ra call yield) 100000 fr s)
    (fun f params assign body _ _ => .mk fun call yield fr s => rangeFunc C call n fn rd f params assign body fr s)
    (fun id => .mk fun _ _ fr s => some (.exit id, fr, s))
    (fun _ a => sel rd (.mk fun _ _ _ _ => none) a)
    (fun _ => .mk fun _ _ fr s => some (.normal, fr, s))
    (fun _ => .mk fun _ _ _ _ => none)
    (.mk fun _ _ fr s => some (.ret, fr, s))
    (fun _ => .mk fun _ _ _ _ => none) c

def jFn (C : Cfg) (f : FuncId) : Box (CallT → YieldT → List Value → St → Option (Value × St)) :=
  Option.casesOn (C.body f) .bad fun c => bbind (jCode C (C.vars f) f false c) fun run => .mk fun call yield args s => obind (run call yield (startFr args) s) (finish C (callDR C call yield) f)

/-- a call of the function's own code -/
def jBody (C : Cfg) (call : CallT) (yield : YieldT) (f : FuncId) (args : List Value) (s : St) : Option (Value × St) :=
  Box.rec (fun run => run call yield args s) (callBody C call yield f args s) (jFn C f)

def jStep (C : Cfg) (call : CallT) (yield : YieldT) (f : FuncId) (args : List Value) (s : St) : Option (Value × St) :=
  Option.casesOn (C.insert f) (jBody C call yield f args s) fun t => Option.casesOn (runCon C t s args) (jBody C call yield f args s) some

def jRunN (C : Cfg) (n : Nat) : CallT × YieldT :=
  Nat.rec (fun _ _ _ => none, fun _ _ _ => none) (fun _ ih => (jStep C ih.1 ih.2, yieldStep C ih.1 ih.2)) n
end
end Go.Ax

namespace Go.Ax
open Go

theorem bbind_mk {α β : Type} {b : Box α} {k : α → Box β} {r : β} : bbind b k = .mk r ↔ ∃ a, b = .mk a ∧ k a = .mk r := by
  cases b with
  | mk a => constructor
            · intro h; exact ⟨a, rfl, h⟩
            · rintro ⟨a', h, h'⟩; cases h; exact h'
  | bad => constructor
           · intro h; cases h
           · rintro ⟨a', h, h'⟩; cases h

theorem bad_mk {α : Type} {r : α} (h : Box.bad = .mk r) : False := by cases h

theorem mk_inj {α : Type} {a b : α} (h : Box.mk a = .mk b) : a = b := by cases h; rfl

theorem jGetP_ok {α : Type} (p : Path) : ∀ (g : Tr α → Option α), jGetP p = .mk g → ∀ t, g t = Tr.getP p t := by
  induction p with
  | nil => intro g h t; have h := mk_inj h; subst h; cases t <;> rfl
  | cons b p ih =>
    intro g h t
    have h : bbind (jGetP p) (fun g => Bool.rec (motive := fun _ => Box (Tr α → Option α)) (.mk fun t => Tr.rec none (fun _ x _ _ _ => g x) t) (.mk fun t => Tr.rec none (fun _ _ y _ _ => g y) t) b) = .mk g := h
    obtain ⟨g', h1, h2⟩ := bbind_mk.1 h
    have ih := ih g' h1
    cases b <;> (have h2 := mk_inj h2; subst h2; cases t with
      | e => rfl
      | n v x y => exact ih _)

theorem jSetP_ok {α : Type} (p : Path) : ∀ (g : α → Tr α → Tr α), jSetP p = .mk g → ∀ a t, g a t = Tr.setP a p t := by
  induction p with
  | nil => intro g h a t; have h := mk_inj h; subst h; cases t <;> rfl
  | cons b p ih =>
    intro g h a t
    have h : bbind (jSetP p) (fun g => Bool.rec (motive := fun _ => Box (α → Tr α → Tr α))
      (.mk fun a t => Tr.rec (.n none (g a .e) .e) (fun v x y _ _ => .n v (g a x) y) t)
      (.mk fun a t => Tr.rec (.n none .e (g a .e)) (fun v x y _ _ => .n v x (g a y)) t) b) = .mk g := h
    obtain ⟨g', h1, h2⟩ := bbind_mk.1 h
    have ih := ih g' h1
    cases b <;> (have h2 := mk_inj h2; subst h2; cases t with
      | e => exact (by
          show Tr.n _ _ _ = Tr.n _ _ _
          rw [ih] <;> rfl)
      | n v x y => exact (by
          show Tr.n _ _ _ = Tr.n _ _ _
          rw [ih] <;> rfl))

noncomputable def keys (l : Loc') : List Nat := mapL (fun p => p.1) l

theorem keys_cons (d : Nat) (v : Value) (l : Loc') : keys ((d, v) :: l) = d :: keys l := rfl

theorem jNth_ok : ∀ (k : Nat) (g : Loc' → Option Value), jNth k = .mk g → ∀ t (l : Loc'), posOf t (keys l) = some k → g l = findLoc t l := by
  intro k
  induction k with
  | zero =>
    intro g h t l hp
    have h := mk_inj h; subst h
    cases l with
    | nil => cases hp
    | cons p l =>
      have hp : sel (Nat.beq p.1 t) (some 0) (obind (posOf t (keys l)) fun k => some (Nat.succ k)) = some 0 := hp
      show some p.2 = sel (Nat.beq p.1 t) (some p.2) (findLoc t l)
      cases hb : Nat.beq p.1 t with
      | true => rfl
      | false =>
        rw [hb] at hp
        obtain ⟨k, _, h⟩ := obind_some.1 (show obind (posOf t (keys l)) (fun k => some (Nat.succ k)) = some 0 from hp)
        cases h
  | succ k ih =>
    intro g h t l hp
    obtain ⟨g', h1, h2⟩ := bbind_mk.1 (show bbind (jNth k) (fun g => .mk fun l : Loc' => List.rec none (fun _ t _ => g t) l) = .mk g from h)
    have h2 := mk_inj h2; subst h2
    cases l with
    | nil => cases hp
    | cons p l =>
      have hp : sel (Nat.beq p.1 t) (some 0) (obind (posOf t (keys l)) fun k => some (Nat.succ k)) = some (k + 1) := hp
      show g' l = sel (Nat.beq p.1 t) (some p.2) (findLoc t l)
      cases hb : Nat.beq p.1 t with
      | true => rw [hb] at hp; cases hp
      | false =>
        rw [hb] at hp
        obtain ⟨k', h3, h⟩ := obind_some.1 (show obind (posOf t (keys l)) (fun k => some (Nat.succ k)) = some (k + 1) from hp)
        have h : k' + 1 = k + 1 := Option.some.inj h
        have : k' = k := by omega
        subst this
        exact ih g' h1 t l h3

theorem posOf_none (t : Nat) : ∀ (l : Loc'), posOf t (keys l) = none → findLoc t l = none := by
  intro l
  induction l with
  | nil => intro _; rfl
  | cons p l ih =>
    intro hp
    have hp : sel (Nat.beq p.1 t) (some 0) (obind (posOf t (keys l)) fun k => some (Nat.succ k)) = none := hp
    show sel (Nat.beq p.1 t) (some p.2) (findLoc t l) = none
    cases hb : Nat.beq p.1 t with
    | true => rw [hb] at hp; cases hp
    | false =>
      rw [hb] at hp
      cases hq : posOf t (keys l) with
      | none => exact ih hq
      | some k => rw [hq] at hp; cases hp

abbrev F (vars : Tr Value) (loc : Loc') (ds : Dfs) : Fr := { vars := vars, loc := loc, defers := ds }

theorem jGet_ok {n : Nat} {ks : List Nat} {x : Operand} {g : JG} (h : jGet n ks x = .mk g) (vars : Tr Value) (loc : Loc') (ds : Dfs) (hk : keys loc = ks) : g vars loc = Fr.ev n (F vars loc ds) x := by
  subst hk
  cases x with
  | tmp t =>
    have h : sel (ltN t n) (bbind (jGetP (path t)) fun g => .mk fun vars _ => g vars) (Option.casesOn (posOf t (keys loc)) (.mk fun _ _ => none) fun k => bbind (jNth k) fun g => .mk fun _ loc => g loc) = .mk g := h
    show _ = sel (ltN t n) (vars.get t) (findLoc t loc)
    cases hb : ltN t n with
    | true =>
      rw [hb] at h
      obtain ⟨g', h1, h2⟩ := bbind_mk.1 (show bbind (jGetP (path t)) (fun g => .mk fun (vars : Tr Value) (_ : Loc') => g vars) = .mk g from h)
      have h2 := mk_inj h2; subst h2
      exact jGetP_ok _ g' h1 vars
    | false =>
      rw [hb] at h
      cases hp : posOf t (keys loc) with
      | none =>
        rw [hp] at h
        have h := mk_inj h; subst h
        exact (posOf_none t loc hp).symm
      | some k =>
        rw [hp] at h
        obtain ⟨g', h1, h2⟩ := bbind_mk.1 (show bbind (jNth k) (fun g => .mk fun (_ : Tr Value) (loc : Loc') => g loc) = .mk g from h)
        have h2 := mk_inj h2; subst h2
        exact jNth_ok k g' h1 t loc hp
  | const v => have h := mk_inj h; subst h; rfl
  | global v => have h := mk_inj h; subst h; rfl
  | func v => have h := mk_inj h; subst h; rfl

theorem jGets_ok {n : Nat} {ks : List Nat} : ∀ {l : List Operand} {g : Tr Value → Loc' → Option (List Value)}, jGets n ks l = .mk g → ∀ (vars : Tr Value) (loc : Loc') (ds : Dfs), keys loc = ks → g vars loc = evs (Fr.ev n (F vars loc ds)) l := by
  intro l
  induction l with
  | nil => intro g h vars loc ds hk; have h := mk_inj h; subst h; rfl
  | cons x l ih =>
    intro g h vars loc ds hk
    obtain ⟨g1, h1, h⟩ := bbind_mk.1 (show bbind (jGet n ks x) (fun g => bbind (jGets n ks l) fun r => .mk fun vars loc => obind (g vars loc) fun v => obind (r vars loc) fun vs => some (v :: vs)) = .mk g from h)
    obtain ⟨g2, h2, h⟩ := bbind_mk.1 h
    have h := mk_inj h; subst h
    show obind (g1 vars loc) _ = obind (Fr.ev n (F vars loc ds) x) fun v => obind (evs (Fr.ev n (F vars loc ds)) l) fun r => some (v :: r)
    rw [jGet_ok h1 vars loc ds hk, ih h2 vars loc ds hk]

theorem jPut_ok {n : Nat} {dst : Option Tmp} {put : JP} (h : jPut n dst = .mk put) (r : JK) (e : JE) (v : Value) (vars : Tr Value) (loc : Loc') (ds : Dfs) (s : St) :
    put r e v vars loc ds s = r e (Fr.put n (F vars loc ds) dst v).vars (Fr.put n (F vars loc ds) dst v).loc ds s := by
  cases dst with
  | none => have h := mk_inj h; subst h; rfl
  | some d =>
    have h : sel (ltN d n) (bbind (jSetP (path d)) fun g => .mk fun r e v vars loc ds s => r e (g v vars) loc ds s) (.mk fun r e v vars loc ds s => r e vars ((d, v) :: loc) ds s) = .mk put := h
    show _ = r e (sel (ltN d n) (F (vars.set d v) loc ds) (F vars ((d, v) :: loc) ds)).vars (sel (ltN d n) (F (vars.set d v) loc ds) (F vars ((d, v) :: loc) ds)).loc ds s
    cases hb : ltN d n with
    | true =>
      rw [hb] at h
      obtain ⟨g', h1, h2⟩ := bbind_mk.1 (show bbind (jSetP (path d)) (fun g => .mk fun r e v vars loc ds s => r e (g v vars) loc ds s) = .mk put from h)
      have h2 := mk_inj h2; subst h2
      show r e (g' v vars) loc ds s = _
      rw [jSetP_ok _ g' h1]; rfl
    | false =>
      rw [hb] at h
      have h := mk_inj h; subst h; rfl

theorem put_defers (n : Nat) (vars : Tr Value) (loc : Loc') (ds : Dfs) (dst : Option Tmp) (v : Value) : (Fr.put n (F vars loc ds) dst v).defers = ds := by
  cases dst with
  | none => rfl
  | some d =>
    show (sel (ltN d n) (F (vars.set d v) loc ds) (F vars ((d, v) :: loc) ds)).defers = ds
    cases ltN d n <;> rfl

theorem put_keys (n : Nat) (vars : Tr Value) (loc : Loc') (ds : Dfs) (dst : Option Tmp) (v : Value) : keys (Fr.put n (F vars loc ds) dst v).loc = jPush n dst (keys loc) := by
  cases dst with
  | none => rfl
  | some d =>
    show keys (sel (ltN d n) (F (vars.set d v) loc ds) (F vars ((d, v) :: loc) ds)).loc = sel (ltN d n) (keys loc) (d :: keys loc)
    cases ltN d n <;> rfl

theorem forceN_eq {β : Type} (n : Nat) (k : Nat → β) : forceN n k = k n := by cases n <;> rfl
theorem forceI_eq {β : Type} (z : Int) (k : Int → β) : forceI z k = k z := by
  cases z with
  | ofNat n => show forceN n (fun n => k (Int.ofNat n)) = _; rw [forceN_eq]
  | negSucc n => show forceN n (fun n => k (Int.negSucc n)) = _; rw [forceN_eq]
end Go.Ax

namespace Go.Ax
open Go

/-- what an operation without effect comes to: as the interpreter has it -/
noncomputable def asVal (x : Option Value) (s : St) : Option Res := obind x fun v => ret v s

theorem asVal_obind {α : Type} (x : Option α) (k : α → Option Value) (s : St) : asVal (obind x k) s = obind x fun a => asVal (k a) s := by cases x <;> rfl
theorem asVal_guard (b : Bool) (k : Option Value) (s : St) : asVal (guard b k) s = guard b (asVal k s) := by cases b <;> rfl
theorem asVal_sel (b : Bool) (x y : Option Value) (s : St) : asVal (sel b x y) s = sel b (asVal x s) (asVal y s) := by cases b <;> rfl
theorem asVal_some (v : Value) (s : St) : asVal (some v) s = ret v s := rfl
theorem asVal_none (s : St) : asVal none s = none := rfl
theorem obind_assoc {α β γ : Type} (x : Option α) (k : α → Option β) (l : β → Option γ) : obind (obind x k) l = obind x fun a => obind (k a) l := by cases x <;> rfl
theorem guard_obind {α β : Type} (b : Bool) (x : Option α) (k : α → Option β) : obind (guard b x) k = guard b (obind x k) := by cases b <;> rfl
theorem obind_congr {α β : Type} (x : Option α) {k l : α → Option β} (h : ∀ a, k a = l a) : obind x k = obind x l := by cases x with
  | none => rfl
  | some a => exact h a

theorem forceV_eq (v : Option Value) : forceV v = v := by
  cases v with
  | none => rfl
  | some v =>
    cases v <;> first | rfl | skip
    rename_i k z
    exact forceI_eq z fun z => some (Value.int k z)

theorem intOp_eq (op : BinOp) (f : IntKind → Int → Int → Option Value) (h : jInt op = .mk f) (k : IntKind) (a b : Int) : f k a b = intOp op k a b := by
  cases op <;> first
    | exact (bad_mk h).elim
    | (have h := mk_inj h; subst h; first | rfl | exact forceI_eq _ _ | exact forceV_eq _)

theorem jInt_shift {op : BinOp} {f : IntKind → Int → Int → Option Value} (h : jInt op = .mk f) : op ≠ .shl ∧ op ≠ .shr := by
  constructor <;> (intro e; subst e; exact bad_mk h)

theorem binOp_int (C : Cfg) {op : BinOp} (h : op ≠ .shl ∧ op ≠ .shr) (t : TypeId) (k k' : IntKind) (i j : Int) : binOp C t op (.int k i) (.int k' j) = guard (kindEq k k') (intOp op k i j) := by
  cases op <;> first | rfl | exact absurd rfl h.1 | exact absurd rfl h.2

theorem jBin_ok {C : Cfg} {op : BinOp} {t : TypeId} {x y : Operand} {f : Value → Value → Option Value} (h : jBin C op t x y = .mk f) (a b : Value) : f a b = binGen C op t x y a b := by
  have h : Box.rec (motive := fun _ => Box (Value → Value → Option Value)) (fun f => .mk (jBin2 C op t x y f)) (.mk (binGen C op t x y)) (jInt op) = .mk f := h
  cases hj : jInt op with
  | bad => rw [hj] at h; have h := mk_inj h; subst h; rfl
  | mk g =>
    rw [hj] at h; have h := mk_inj h; subst h
    cases a <;> try rfl
    cases b <;> try rfl
    rename_i k i k' j
    show guard (kindEq k k') (g k i j) = guard (nilsOk C t x y (.int k i) (.int k' j)) (binOp C t op (.int k i) (.int k' j))
    rw [binOp_int C (jInt_shift hj), intOp_eq op g hj]; rfl

theorem jLoad_ok {P : Program} {t : TypeId} {f : List Value → Nat → Option Value} (h : jLoad P t = .mk f) (cs : List Value) (o : Nat) : f cs o = loadCs P t o cs := by
  have h : Option.casesOn (isAgg P t) .bad (fun g => sel g (Option.casesOn (size P t) .bad fun n => .mk fun cs o => obind (takeN n (dropL o cs)) fun l => some (mkAgg l)) (.mk fun cs o => nth cs o)) = Box.mk f := h
  show _ = obind (isAgg P t) fun g => sel g (obind (size P t) fun n => obind (takeN n (dropL o cs)) fun l => some (mkAgg l)) (nth cs o)
  cases hg : isAgg P t with
  | none => rw [hg] at h; cases h
  | some g =>
    rw [hg] at h
    cases g with
    | false => have h := mk_inj h; subst h; rfl
    | true =>
      have h : Option.casesOn (size P t) .bad (fun n => .mk fun cs o => obind (takeN n (dropL o cs)) fun l => some (mkAgg l)) = Box.mk f := h
      cases hs : size P t with
      | none => rw [hs] at h; cases h
      | some n => rw [hs] at h; have h := mk_inj h; subst h; rfl

theorem jVal_ok {C : Cfg} {n : Nat} {ks : List Nat} {o : Op} {v : JV} (h : jVal C n ks o = .mk v) (vars : Tr Value) (loc : Loc') (ds : Dfs) (s : St) (hk : keys loc = ks) :
    asVal (v vars loc s) s = execOp C (Fr.ev n (F vars loc ds)) s o := by
  cases o <;> try exact (bad_mk h).elim
  case move x =>
    obtain ⟨g, h1, h⟩ := bbind_mk.1 h
    have h := mk_inj h; subst h
    show asVal (g vars loc) s = obind (Fr.ev n (F vars loc ds) x) fun v => ret v s
    rw [jGet_ok h1 vars loc ds hk]; rfl
  case assign x =>
    obtain ⟨g, h1, h⟩ := bbind_mk.1 h
    have h := mk_inj h; subst h
    show asVal (g vars loc) s = obind (Fr.ev n (F vars loc ds) x) fun v => ret v s
    rw [jGet_ok h1 vars loc ds hk]; rfl
  case pick c a b =>
    obtain ⟨g, h1, h⟩ := bbind_mk.1 h
    obtain ⟨ga, h2, h⟩ := bbind_mk.1 h
    obtain ⟨gb, h3, h⟩ := bbind_mk.1 h
    have h := mk_inj h; subst h
    show asVal (obind (g vars loc) fun v => boolK v (ga vars loc) (gb vars loc)) s = _
    rw [jGet_ok h1 vars loc ds hk, jGet_ok h2 vars loc ds hk, jGet_ok h3 vars loc ds hk, asVal_obind]
    apply obind_congr
    intro v
    cases v <;> try rfl
    rename_i b
    cases b <;> rfl
  case load t a =>
    obtain ⟨g, h1, h⟩ := bbind_mk.1 h
    obtain ⟨f, h2, h⟩ := bbind_mk.1 h
    have h := mk_inj h; subst h
    show asVal (obind (g vars loc) fun v => ptrK v fun a => obind (s.cells a.block) fun c => f c.1 a.off) s = _
    rw [jGet_ok h1 vars loc ds hk, asVal_obind]
    apply obind_congr
    intro v
    cases v <;> try rfl
    rename_i p
    cases p with
    | none => rfl
    | some p =>
      show asVal (obind (s.cells p.block) fun c => f c.1 p.off) s = obind (obind (s.cells p.block) fun c => loadCs C.P t p.off c.1) fun v => ret v s
      rw [asVal_obind, obind_assoc]
      apply obind_congr
      intro c
      rw [jLoad_ok h2]; rfl
  case nilCheck x =>
    obtain ⟨g, h1, h⟩ := bbind_mk.1 h
    have h := mk_inj h; subst h
    show asVal (obind (g vars loc) fun v => nilK C v) s = _
    rw [jGet_ok h1 vars loc ds hk, asVal_obind]
    apply obind_congr
    intro v
    cases v <;> try rfl
    · rename_i p; cases p <;> rfl
    · exact asVal_guard _ _ _
  case binOp op t x y m =>
    obtain ⟨gx, h1, h⟩ := bbind_mk.1 h
    obtain ⟨gy, h2, h⟩ := bbind_mk.1 h
    obtain ⟨f, h3, h⟩ := bbind_mk.1 h
    have h := mk_inj h; subst h
    show asVal (obind (gx vars loc) fun a => obind (gy vars loc) fun b => f a b) s = obind (Fr.ev n (F vars loc ds) x) fun a => obind (Fr.ev n (F vars loc ds) y) fun b => guard (nilsOk C t x y a b) (obind (binOp C t op a b) fun v => ret v s)
    rw [jGet_ok h1 vars loc ds hk, jGet_ok h2 vars loc ds hk, asVal_obind]
    apply obind_congr; intro a
    rw [asVal_obind]
    apply obind_congr; intro b
    rw [jBin_ok h3]
    exact asVal_guard _ _ _
  case unOp op m x =>
    obtain ⟨g, h1, h⟩ := bbind_mk.1 h
    have h := mk_inj h; subst h
    show asVal (obind (g vars loc) fun v => unOp op v) s = _
    rw [jGet_ok h1 vars loc ds hk, asVal_obind]; rfl
  case makeInterface t x =>
    have h : sel (!isIface C.P t && (C.P.underlying t).isSome) (bbind (jGet n ks x) fun g => .mk fun vars loc _ => obind (g vars loc) fun v => some (.iface t v)) .bad = Box.mk v := h
    show _ = guard (!isIface C.P t && (C.P.underlying t).isSome) (obind (Fr.ev n (F vars loc ds) x) fun x => ret (.iface t x) s)
    cases hb : (!isIface C.P t && (C.P.underlying t).isSome) with
    | false => rw [hb] at h; cases h
    | true =>
      rw [hb] at h
      obtain ⟨g, h1, h⟩ := bbind_mk.1 h
      have h := mk_inj h; subst h
      show asVal (obind (g vars loc) fun v => some (.iface t v)) s = _
      rw [jGet_ok h1 vars loc ds hk, asVal_obind]; rfl
  case makeFunc fn a b =>
    have h : sel (noYield fn) (bbind (jGets n ks a.toList) fun ga => bbind (jGets n ks b.toList) fun gb => .mk fun vars loc _ => obind (ga vars loc) fun a => obind (gb vars loc) fun b => some (.func fn ⟨a⟩ ⟨b⟩)) .bad = Box.mk v := h
    show _ = guard (noYield fn) (obind (evs (Fr.ev n (F vars loc ds)) a.toList) fun a => obind (evs (Fr.ev n (F vars loc ds)) b.toList) fun b => ret (.func fn ⟨a⟩ ⟨b⟩) s)
    cases hb : noYield fn with
    | false => rw [hb] at h; cases h
    | true =>
      rw [hb] at h
      obtain ⟨ga, h1, h⟩ := bbind_mk.1 h
      obtain ⟨gb, h2, h⟩ := bbind_mk.1 h
      have h := mk_inj h; subst h
      show asVal (obind (ga vars loc) fun a => obind (gb vars loc) fun b => some (.func fn ⟨a⟩ ⟨b⟩)) s = _
      rw [jGets_ok h1 vars loc ds hk, jGets_ok h2 vars loc ds hk, asVal_obind]
      apply obind_congr; intro a
      rw [asVal_obind]; rfl
  case fieldAddr t x i =>
    obtain ⟨g, h1, h⟩ := bbind_mk.1 h
    cases hf : fieldInfo C.P t i with
    | none => rw [hf] at h; cases h
    | some fd =>
      rw [hf] at h
      cases hz : size C.P fd.type with
      | none =>
        have h : (Option.casesOn (obind (size C.P fd.type) fun m => guard (!Nat.beq m 0) (some fd.offset)) Box.bad fun off =>
            .mk fun vars loc _ => obind (g vars loc) fun v => ptrK v fun a => forceN (Nat.add a.off off) fun o => some (ptr a.block o) : Box JV) = .mk v := h
        rw [hz] at h
        cases h
      | some m =>
        have h : (Option.casesOn (obind (size C.P fd.type) fun m => guard (!Nat.beq m 0) (some fd.offset)) Box.bad fun off =>
            .mk fun vars loc _ => obind (g vars loc) fun v => ptrK v fun a => forceN (Nat.add a.off off) fun o => some (ptr a.block o) : Box JV) = .mk v := h
        rw [hz] at h
        show _ = obind (Fr.ev n (F vars loc ds) x) fun v => match v with
          | .pointer (some a) => obind (fieldInfo C.P t i) fun f => obind (size C.P f.type) fun n => guard (!Nat.beq n 0) (ret (ptr a.block (Nat.add a.off f.offset)) s)
          | _ => none
        have h : (Option.casesOn (guard (!Nat.beq m 0) (some fd.offset)) Box.bad fun off =>
            .mk fun vars loc _ => obind (g vars loc) fun v => ptrK v fun a => forceN (Nat.add a.off off) fun o => some (ptr a.block o) : Box JV) = .mk v := h
        cases hb : (!Nat.beq m 0) with
        | false => rw [hb] at h; cases h
        | true =>
          rw [hb] at h
          have h := mk_inj h; subst h
          show asVal (obind (g vars loc) fun v => ptrK v fun a => forceN (Nat.add a.off fd.offset) fun o => some (ptr a.block o)) s = _
          rw [jGet_ok h1 vars loc ds hk, asVal_obind]
          apply obind_congr; intro v
          cases v <;> try rfl
          rename_i p
          cases p with
          | none => rfl
          | some p =>
            show asVal (forceN (Nat.add p.off fd.offset) fun o => some (ptr p.block o)) s = obind (fieldInfo C.P t i) fun f => obind (size C.P f.type) fun n => guard (!Nat.beq n 0) (ret (ptr p.block (Nat.add p.off f.offset)) s)
            rw [forceN_eq, hf]
            show _ = obind (size C.P fd.type) fun n => guard (!Nat.beq n 0) (ret (ptr p.block (Nat.add p.off fd.offset)) s)
            rw [hz]
            show _ = guard (!Nat.beq m 0) (ret (ptr p.block (Nat.add p.off fd.offset)) s)
            rw [hb]; rfl
  case indexAddr t x i =>
    obtain ⟨gx, h1, h⟩ := bbind_mk.1 h
    obtain ⟨gi, h2, h⟩ := bbind_mk.1 h
    cases hu : C.P.underlying t with
    | none => rw [hu] at h; cases h
    | some d =>
      rw [hu] at h
      cases d <;> try exact (bad_mk h).elim
      rename_i e
      have h : (Option.casesOn (size C.P e) Box.bad fun m => .mk fun vars loc _ =>
        obind (gx vars loc) fun x => obind (gi vars loc) fun i => obind (asNat i) fun i => sliceK x fun a len => guard (ltN i len) (forceN (Nat.add a.off (Nat.mul i m)) fun o => some (ptr a.block o)) : Box JV) = .mk v := h
      cases hz : size C.P e with
      | none => rw [hz] at h; cases h
      | some m =>
        rw [hz] at h
        have h := mk_inj h; subst h
        show asVal (obind (gx vars loc) fun x => obind (gi vars loc) fun i => obind (asNat i) fun i => sliceK x fun a len => guard (ltN i len) (forceN (Nat.add a.off (Nat.mul i m)) fun o => some (ptr a.block o))) s = oIndexAddr C (Fr.ev n (F vars loc ds)) s t x i
        unfold oIndexAddr
        rw [hu, jGet_ok h1 vars loc ds hk, jGet_ok h2 vars loc ds hk, asVal_obind]
        apply obind_congr; intro x
        rw [asVal_obind]
        apply obind_congr; intro y
        rw [asVal_obind]
        apply obind_congr; intro j
        cases x <;> try rfl
        rename_i p len cap
        cases p with
        | none => rfl
        | some p =>
          show asVal (guard (ltN j len) (forceN (Nat.add p.off (Nat.mul j m)) fun o => some (ptr p.block o))) s = guard (ltN j len) (obind (size C.P e) fun n => ret (ptr p.block (Nat.add p.off (Nat.mul j n))) s)
          rw [hz, forceN_eq, asVal_guard]; rfl
  case extract x i =>
    obtain ⟨g, h1, h⟩ := bbind_mk.1 h
    have h := mk_inj h; subst h
    show asVal (obind (g vars loc) fun v => tupK v fun vs => nth vs i) s = _
    rw [jGet_ok h1 vars loc ds hk, asVal_obind]
    apply obind_congr; intro v
    cases v <;> try rfl
end Go.Ax

namespace Go.Ax
open Go

theorem ev_defers (n : Nat) (vars : Tr Value) (loc : Loc') (ds ds' : Dfs) : Fr.ev n (F vars loc ds) = Fr.ev n (F vars loc ds') := rfl

theorem fr_eta (fr : Fr) {ds : Dfs} (h : fr.defers = ds) : F fr.vars fr.loc ds = fr := by subst h; rfl

/-- what follows is rightly made -/
def NextOk (n : Nat) (dst : Option Tmp) (ks : List Nat) (r : JK) (K : JE → OpsK) : Prop :=
  ∀ e vars loc ds s, keys loc = jPush n dst ks → r e vars loc ds s = K e (F vars loc ds) s

theorem put_next {n : Nat} {dst : Option Tmp} {ks : List Nat} {put : JP} (hp : jPut n dst = .mk put) {r : JK} {K : JE → OpsK} (hr : NextOk n dst ks r K) (e : JE) (v : Value) (vars : Tr Value) (loc : Loc') (ds : Dfs) (s : St) (hk : keys loc = ks) :
    put r e v vars loc ds s = K e (Fr.put n (F vars loc ds) dst v) s := by
  rw [jPut_ok hp, hr e _ _ ds s (by rw [put_keys, hk])]
  rw [show F (Fr.put n (F vars loc ds) dst v).vars (Fr.put n (F vars loc ds) dst v).loc ds = Fr.put n (F vars loc ds) dst v from fr_eta _ (put_defers n vars loc ds dst v)]

theorem jGen_ok {C : Cfg} {rd : Bool} {n : Nat} {ks : List Nat} {o : Oper} {r : JK} {K : JE → OpsK} (hr : NextOk n o.dst ks r K) (e : JE) (vars : Tr Value) (loc : Loc') (ds : Dfs) (s : St) (hk : keys loc = ks) :
    jGen C rd n o r e vars loc ds s = obind (execOp C (Fr.ev n (F vars loc ds)) s o.op) (afterOp e.call e.yield rd n (F vars loc ds) o.dst (K e)) := by
  apply obind_congr
  intro q
  have hg : ∀ ds' v s', (fun (fr : Fr) s => r e fr.vars fr.loc fr.defers s) (Fr.put n (F vars loc ds') o.dst v) s' = K e (Fr.put n (F vars loc ds') o.dst v) s' := by
    intro ds' v s'
    have h := hr e (Fr.put n (F vars loc ds') o.dst v).vars (Fr.put n (F vars loc ds') o.dst v).loc (Fr.put n (F vars loc ds') o.dst v).defers s' (by rw [put_keys, hk])
    exact h
  cases q with
  | val v s => exact hg ds v s
  | call f args s => exact obind_congr _ fun q => hg ds q.1 q.2
  | yield l args s => exact obind_congr _ fun q => hg ds q.1 q.2
  | defer f args s =>
    show sel rd none _ = sel rd none _
    cases rd with
    | true => rfl
    | false => exact hg _ unit s

theorem appL_nil {α : Type} (l : List α) : appL l [] = l := by rw [appL_eq, List.append_nil]

theorem jOp_ok {C : Cfg} {rd : Bool} {n : Nat} {ks : List Nat} {o : Oper} {put : JP} (hp : jPut n o.dst = .mk put) {r : JK} {K : JE → OpsK} (hr : NextOk n o.dst ks r K) {f : JK} (h : jOp C rd n ks o put r = .mk f)
    (e : JE) (vars : Tr Value) (loc : Loc') (ds : Dfs) (s : St) (hk : keys loc = ks) :
    f e vars loc ds s = obind (execOp C (Fr.ev n (F vars loc ds)) s o.op) (afterOp e.call e.yield rd n (F vars loc ds) o.dst (K e)) := by
  have gen : Box.mk (jGen C rd n o r) = .mk f → f e vars loc ds s = obind (execOp C (Fr.ev n (F vars loc ds)) s o.op) (afterOp e.call e.yield rd n (F vars loc ds) o.dst (K e)) := by
    intro h; have h := mk_inj h; subst h; exact jGen_ok hr e vars loc ds s hk
  have val : Box.rec (motive := fun _ => Box JK) (fun v => .mk fun e vars loc ds s => obind (v vars loc s) fun x => put r e x vars loc ds s) (.mk (jGen C rd n o r)) (jVal C n ks o.op) = .mk f → f e vars loc ds s = obind (execOp C (Fr.ev n (F vars loc ds)) s o.op) (afterOp e.call e.yield rd n (F vars loc ds) o.dst (K e)) := by
    intro h
    cases hv : jVal C n ks o.op with
    | bad => rw [hv] at h; exact gen h
    | mk v =>
      rw [hv] at h
      have h := mk_inj h; subst h
      rw [← jVal_ok hv vars loc ds s hk]
      show (obind (v vars loc s) fun x => put r e x vars loc ds s) = obind (obind (v vars loc s) fun v => ret v s) _
      rw [obind_assoc]
      apply obind_congr; intro x
      exact put_next hp hr e x vars loc ds s hk
  unfold jOp at h
  cases ho : o.op <;> rw [ho] at h <;> rw [← ho] <;> try exact val (by rw [ho]; exact h)
  all_goals dsimp only at h
  case alloc t =>
    cases hz : zero C.P t with
    | none => rw [hz] at h; exact gen h
    | some z =>
      rw [hz] at h
      have h := mk_inj h; subst h
      rw [ho]
      show (forceN s.next fun b => put r e (ptr b 0) vars loc ds { heap := s.heap.set b (.row z t 0), fams := s.fams, next := Nat.succ b }) = obind (obind (zero C.P t) fun z => s.new (.row z t 0) fun id s => ret (ptr id 0) s) _
      rw [hz, forceN_eq]
      exact put_next hp hr e _ vars loc ds _ hk
  case box t x =>
    obtain ⟨g, h1, h⟩ := bbind_mk.1 h
    have h := mk_inj h; subst h
    rw [ho]
    show (obind (g vars loc) fun v => forceN s.next fun b => put r e (ptr b 0) vars loc ds { heap := s.heap.set b (.row (cellsOf v) t 0), fams := s.fams, next := Nat.succ b }) = obind (obind (Fr.ev n (F vars loc ds) x) fun v => s.new (.row (cellsOf v) t 0) fun id s => ret (ptr id 0) s) _
    rw [jGet_ok h1 vars loc ds hk, obind_assoc]
    apply obind_congr; intro v
    rw [forceN_eq]
    exact put_next hp hr e _ vars loc ds _ hk
  case store t a x =>
    obtain ⟨ga, h1, h⟩ := bbind_mk.1 h
    obtain ⟨gx, h2, h⟩ := bbind_mk.1 h
    cases hz : size C.P t with
    | none => rw [hz] at h; exact gen h
    | some m =>
      rw [hz] at h
      have h := mk_inj h; subst h
      rw [ho]
      show (obind (ga vars loc) fun v => ptrK v fun a => obind (gx vars loc) fun v => guard (Nat.beq (lenL (cellsOf v)) m) (obind (storeCells s a.block a.off (cellsOf v)) fun s => put r e unit vars loc ds s)) = obind (oStore C (Fr.ev n (F vars loc ds)) s t a x) _
      show _ = obind (obind (Fr.ev n (F vars loc ds) a) fun v => _) _
      rw [jGet_ok h1 vars loc ds hk, jGet_ok h2 vars loc ds hk, obind_assoc]
      apply obind_congr; intro v
      cases v <;> try rfl
      rename_i p
      cases p with
      | none => rfl
      | some p =>
        show (obind (Fr.ev n (F vars loc ds) x) fun v => guard (Nat.beq (lenL (cellsOf v)) m) (obind (storeCells s p.block p.off (cellsOf v)) fun s => put r e unit vars loc ds s)) = obind (obind (Fr.ev n (F vars loc ds) x) fun v => obind (obind (size C.P t) fun n => guard (Nat.beq (lenL (cellsOf v)) n) (storeCells s p.block p.off (cellsOf v))) fun s => ret unit s) _
        rw [obind_assoc]
        apply obind_congr; intro v
        rw [obind_assoc, hz]
        show _ = obind (guard _ _) _
        rw [guard_obind]
        cases Nat.beq (lenL (cellsOf v)) m with
        | false => rfl
        | true =>
          apply obind_congr; intro s'
          exact put_next hp hr e unit vars loc ds s' hk
  case call c =>
    cases hc : c.callee with
    | builtin b => simp only [hc] at h; exact gen h
    | invoke a b => simp only [hc] at h; exact gen h
    | value x =>
      simp only [hc] at h
      cases x with
      | tmp t => exact gen h
      | const t => exact gen h
      | global t => exact gen h
      | func g =>
        have h : Option.casesOn (C.ext g) (sel (C.body g).isSome (bbind (jGets n ks c.args.toList) fun gs => .mk fun e vars loc ds s => obind (gs vars loc) fun args => obind (e.call g args s) fun q => put r e q.1 vars loc ds q.2) (.mk (jGen C rd n o r))) (fun _ => .mk (jGen C rd n o r)) = Box.mk f := h
        cases he : C.ext g with
        | some x => rw [he] at h; exact gen h
        | none =>
          rw [he] at h
          have h : sel (C.body g).isSome (bbind (jGets n ks c.args.toList) fun gs => .mk fun e vars loc ds s => obind (gs vars loc) fun args => obind (e.call g args s) fun q => put r e q.1 vars loc ds q.2) (.mk (jGen C rd n o r)) = Box.mk f := h
          cases hb : (C.body g).isSome with
          | false => rw [hb] at h; exact gen h
          | true =>
            rw [hb] at h
            obtain ⟨gs, h1, h⟩ := bbind_mk.1 h
            have h := mk_inj h; subst h
            rw [ho]
            show (obind (gs vars loc) fun args => obind (e.call g args s) fun q => put r e q.1 vars loc ds q.2) = obind (oCall C (Fr.ev n (F vars loc ds)) s c) _
            unfold oCall
            rw [hc, jGets_ok h1 vars loc ds hk, obind_assoc]
            apply obind_congr; intro args
            show _ = obind (callAny C s g (appL [] (appL args []))) _
            rw [appL_nil]
            show _ = obind (Option.casesOn (C.ext g) (guard (C.body g).isSome (some (.call g args s))) fun e => obind (callExt C s e args) toRes) _
            rw [he, hb]
            show _ = obind (e.call g args s) fun q => K e (Fr.put n (F vars loc ds) o.dst q.1) q.2
            apply obind_congr; intro q
            exact put_next hp hr e q.1 vars loc ds q.2 hk

theorem jGuard_ok {n : Nat} {all : List Oper} {ks : List Nat} {dst : Option Tmp} {g : Option (Nat × Bool)} {put : JP} (hp : jPut n dst = .mk put) {f r : JK} {K : JE → OpsK} (hr : NextOk n dst ks r K)
    (e : JE) (vars : Tr Value) (loc : Loc') (ds : Dfs) (s : St) (hk : keys loc = ks) :
    jGuard n all g put f r e vars loc ds s = obind (guardOk n all (F vars loc ds) g) fun b => sel b (f e vars loc ds s) (K e (Fr.put n (F vars loc ds) dst unit) s) := by
  cases g with
  | none => rfl
  | some g =>
    apply obind_congr; intro b
    rw [put_next hp hr e unit vars loc ds s hk]

theorem jOne_ok {C : Cfg} {rd : Bool} {n : Nat} {all : List Oper} {ks : List Nat} {o : Oper} {r : JK} {K : JE → OpsK} (hr : NextOk n o.dst ks r K) {f : JK} (h : jOne C rd n all ks o r = .mk f)
    (e : JE) (vars : Tr Value) (loc : Loc') (ds : Dfs) (s : St) (hk : keys loc = ks) :
    f e vars loc ds s = oneOp C e.call e.yield rd n all o (K e) (F vars loc ds) s := by
  obtain ⟨put, hp, h⟩ := bbind_mk.1 h
  obtain ⟨f', h1, h⟩ := bbind_mk.1 h
  have h := mk_inj h; subst h
  rw [jGuard_ok hp hr e vars loc ds s hk]
  apply obind_congr; intro b
  rw [jOp_ok hp hr h1 e vars loc ds s hk]

theorem jOps_ok {C : Cfg} {rd : Bool} {n : Nat} {all : List Oper} : ∀ {ops : List Oper} {ks : List Nat} {f : JK}, jOps C rd n all ops ks = .mk f →
    ∀ e vars loc ds s, keys loc = ks → f e vars loc ds s = execOps C e.call e.yield rd n all ops (F vars loc ds) s := by
  intro ops
  induction ops with
  | nil => intro ks f h e vars loc ds s hk; have h := mk_inj h; subst h; rfl
  | cons o ops ih =>
    intro ks f h e vars loc ds s hk
    obtain ⟨r, h1, h⟩ := bbind_mk.1 (show bbind (jOps C rd n all ops (jPush n o.dst ks)) (fun r => jOne C rd n all ks o r) = .mk f from h)
    exact jOne_ok (K := fun e => execOps C e.call e.yield rd n all ops) (fun e vars loc ds s hk => ih h1 e vars loc ds s hk) h e vars loc ds s hk

/-! regions whose order is drawn -/
abbrev pureK {β : Type} (k : Value → Option β) (r : Res) : Option β :=
  match r with
  | .val v _ => k v
  | _ => none

theorem jVal_or {C : Cfg} {n : Nat} {ks : List Nat} {o : Op} {v : JV} (h : bor (jVal C n ks o) (.mk (jValGen C n o)) = .mk v) (vars : Tr Value) (loc : Loc') (ds : Dfs) (s : St) (hk : keys loc = ks) {β : Type} (k : Value → Option β) :
    obind (v vars loc s) k = obind (execOp C (Fr.ev n (F vars loc ds)) s o) (pureK k) := by
  cases hv : jVal C n ks o with
  | mk w =>
    rw [hv] at h
    have h := mk_inj h; subst h
    rw [← jVal_ok hv vars loc ds s hk]
    cases w vars loc s <;> rfl
  | bad =>
    rw [hv] at h
    have h := mk_inj h; subst h
    show obind (obind (execOp C (Fr.ev n (F vars loc ds)) s o) _) k = _
    rw [obind_assoc]
    apply obind_congr; intro r
    cases r <;> rfl

def NextD (n : Nat) (dst : Option Tmp) (ks : List Nat) (r : JK) (K : JE → DrawK) : Prop :=
  ∀ e vars loc ds s, keys loc = jPush n dst ks → r e vars loc ds s = K e e.cl e.pend (F vars loc ds) s

/-- what follows asks for nothing but the calls, the base and what is pending -/
def Same (K : JE → DrawK) : Prop := (∀ e l, K (withPend e l) = K e) ∧ ∀ e b, K (withCl e b) = K e

theorem afterOp_congr {call : CallT} {yield : YieldT} {rd : Bool} {n : Nat} {ks : List Nat} {dst : Option Tmp} {k l : OpsK} (h : ∀ vars loc ds s, keys loc = jPush n dst ks → k (F vars loc ds) s = l (F vars loc ds) s)
    (vars : Tr Value) (loc : Loc') (ds : Dfs) (hk : keys loc = ks) (q : Res) : afterOp call yield rd n (F vars loc ds) dst k q = afterOp call yield rd n (F vars loc ds) dst l q := by
  have hg : ∀ ds' v s', k (Fr.put n (F vars loc ds') dst v) s' = l (Fr.put n (F vars loc ds') dst v) s' := by
    intro ds' v s'
    exact h (Fr.put n (F vars loc ds') dst v).vars (Fr.put n (F vars loc ds') dst v).loc (Fr.put n (F vars loc ds') dst v).defers s' (by rw [put_keys, hk])
  cases q with
  | val v s => exact hg ds v s
  | call f args s => exact obind_congr _ fun q => hg ds q.1 q.2
  | yield l args s => exact obind_congr _ fun q => hg ds q.1 q.2
  | defer f args s =>
    show sel rd none _ = sel rd none _
    cases rd with
    | true => rfl
    | false => exact hg _ unit s

theorem noQuiet {C : Cfg} {n : Nat} {fr : Fr} {s : St} {o : Op} {q : Res} (hb : (quietOp o && mayQuiet C o) = false) (hx : execOp C (Fr.ev n fr) s o = some q) : (quietOp o && quietCall C q) = false := by
  cases hq : quietOp o with
  | false => rfl
  | true =>
    rw [hq, Bool.true_and] at hb
    rw [Bool.true_and]
    unfold quietOp at hq
    split at hq
    · rename_i c
      split at hq
      · rename_i x hcx
        unfold mayQuiet at hb
        simp only [hcx] at hb
        cases x with
        | func f =>
          have hb : Option.casesOn (C.insert f) false (fun t => match t with | .pure _ => true | _ => false) = false := hb
          change oCall C (Fr.ev n fr) s c = some q at hx
          unfold oCall at hx
          obtain ⟨xs, _, hx⟩ := obind_some.1 hx
          rw [hcx] at hx
          have hx : callAny C s f (appL [] (appL xs [])) = some q := hx
          unfold callAny at hx
          cases he : C.ext f with
          | none =>
            rw [he] at hx
            obtain ⟨_, hx⟩ := guard_some.1 hx
            cases hx
            show Option.casesOn (C.insert f) false (fun t => conQuiet t _) = false
            cases hi : C.insert f with
            | none => rfl
            | some t =>
              rw [hi] at hb
              cases t <;> first | rfl | (exact Bool.noConfusion hb)
          | some e =>
            rw [he] at hx
            obtain ⟨_, _, hx⟩ := obind_some.1 hx
            cases hx
            rfl
        | _ => exact Bool.noConfusion hb
      · cases hq
    · cases hq

theorem jDraw1_ok {C : Cfg} {rd : Bool} {n : Nat} {ks : List Nat} {a : Info} {rest : List Info} {all : List Oper} {put : JP} (hp : jPut n a.op.dst = .mk put) {r : JK} {K : JE → DrawK} (hs : Same K) (hr : NextD n a.op.dst ks r K) {f : JK} (h : jDraw1 C rd n ks a rest put r = .mk f)
    (e : JE) (vars : Tr Value) (loc : Loc') (ds : Dfs) (s : St) (hk : keys loc = ks) :
    (obind (guardOk n all (F vars loc ds) a.op.guard) fun b => sel b (f e vars loc ds s) (K e e.cl e.pend (Fr.put n (F vars loc ds) a.op.dst unit) s)) = drawOne C e.call e.yield rd n all e.base a rest (K e) e.cl e.pend (F vars loc ds) s := by
  have hr' : NextOk n a.op.dst ks r (fun e => K e e.cl e.pend) := hr
  unfold jDraw1 at h
  unfold drawOne
  apply obind_congr; intro b
  cases b with
  | false => rfl
  | true =>
    show f e vars loc ds s = ncase a.cls _ _
    generalize a.cls = c at h ⊢
    match c with
    | 0 =>
      obtain ⟨v, h1, h⟩ := bbind_mk.1 h
      have h := mk_inj h; subst h
      show (obind (v vars loc s) fun x => put r e x vars loc ds s) = _
      rw [jVal_or h1 vars loc ds s hk]
      apply obind_congr; intro q
      cases q <;> try rfl
      exact put_next hp hr' e _ vars loc ds s hk
    | 1 =>
      obtain ⟨v, h1, h⟩ := bbind_mk.1 h
      have h := mk_inj h; subst h
      show (obind (v vars loc s) fun x => guard (quietV s x) (put r (withPend e ({ i := a.i, op := a.op.op, fr := { vars := vars, loc := loc, defers := ds }, v := x } :: e.pend)) x vars loc ds s)) = _
      rw [jVal_or h1 vars loc ds s hk]
      apply obind_congr; intro q
      cases q <;> try rfl
      rename_i x s'
      show guard (quietV s x) _ = guard (quietV s x) _
      rw [put_next hp hr' _ x vars loc ds s hk, hs.1]
      rfl
    | 2 =>
      have h := mk_inj h; subst h
      apply obind_congr; intro q
      rw [forceN_eq, put_next hp hr' (withCl e false) _ vars loc ds _ hk, hs.2]
      rfl
    | k + 3 =>
      show _ = obind (execOp C (Fr.ev n (F vars loc ds)) s a.op.op) (drawLoud C e.call e.yield rd n e.base a rest (K e) e.cl e.pend (F vars loc ds))
      cases hb : (quietOp a.op.op && mayQuiet C a.op.op) with
      | true =>
        have h : (sel (quietOp a.op.op && mayQuiet C a.op.op) (.mk (jLoud C rd n a rest r)) (jOp C rd n ks a.op put fun e vars loc ds s => guard (lookAll C n s a.mask e.pend && freeIds s e.base rest) (r (withCl e false) vars loc ds s)) : Box JK) = .mk f := h
        rw [hb, sel_true] at h
        have h := mk_inj h; subst h
        apply obind_congr; intro q
        have hcl : ∀ cl (g : St → Bool), ∀ vars loc ds s, keys loc = jPush n a.op.dst ks → guard (g s) (r (withCl (withPend e e.pend) cl) vars loc ds s) = guard (g s) (K e cl e.pend (F vars loc ds) s) := by
          intro cl g vars loc ds s hk
          rw [hr (withCl (withPend e e.pend) cl) vars loc ds s hk, hs.2, hs.1]
          rfl
        unfold drawLoud
        rw [afterOp_congr (k := fun fr s => guard (freeIds s e.base rest) (r (withCl (withPend e e.pend) true) fr.vars fr.loc fr.defers s)) (l := fun fr s => guard (freeIds s e.base rest) (K e true e.pend fr s)) (hcl true fun s => freeIds s e.base rest) vars loc ds hk q,
          afterOp_congr (k := fun fr s => guard (lookAll C n s a.mask e.pend && freeIds s e.base rest) (r (withCl (withPend e e.pend) false) fr.vars fr.loc fr.defers s)) (l := fun fr s => guard (lookAll C n s a.mask e.pend && freeIds s e.base rest) (K e false e.pend fr s)) (hcl false fun s => lookAll C n s a.mask e.pend && freeIds s e.base rest) vars loc ds hk q]
      | false =>
        have h : (sel (quietOp a.op.op && mayQuiet C a.op.op) (.mk (jLoud C rd n a rest r)) (jOp C rd n ks a.op put fun e vars loc ds s => guard (lookAll C n s a.mask e.pend && freeIds s e.base rest) (r (withCl e false) vars loc ds s)) : Box JK) = .mk f := h
        rw [hb, sel_false] at h
        rw [jOp_ok hp (K := fun e fr s => guard (lookAll C n s a.mask e.pend && freeIds s e.base rest) (K e false e.pend fr s)) (fun e vars loc ds s hk => by
          show guard _ _ = guard _ _
          rw [hr (withCl e false) vars loc ds s hk, hs.2]
          rfl) h e vars loc ds s hk]
        cases hx : execOp C (Fr.ev n (F vars loc ds)) s a.op.op with
        | none => rfl
        | some q =>
          rw [show ∀ (f : Res → Option (Fr × St)), obind (some q) f = f q from fun _ => rfl, show ∀ (f : Res → Option (Fr × St)), obind (some q) f = f q from fun _ => rfl]
          unfold drawLoud
          rw [noQuiet hb hx, Bool.and_false, sel_false]

theorem jDraw_ok {C : Cfg} {rd : Bool} {n : Nat} {all : List Oper} : ∀ {l : List Info} {ks : List Nat} {f : JK}, jDraw C rd n all l ks = .mk f →
    ∀ e vars loc ds s, keys loc = ks → f e vars loc ds s = drawL C e.call e.yield rd n all e.base l e.cl e.pend (F vars loc ds) s := by
  intro l
  induction l with
  | nil => intro ks f h e vars loc ds s hk; have h := mk_inj h; subst h; rfl
  | cons a rest ih =>
    intro ks f h e vars loc ds s hk
    obtain ⟨r, h1, h⟩ := bbind_mk.1 (show bbind (jDraw C rd n all rest (jPush n a.op.dst ks)) (fun r => jDrawOne C rd n all ks a rest r) = .mk f from h)
    obtain ⟨put, hp, h⟩ := bbind_mk.1 h
    obtain ⟨f', h2, h⟩ := bbind_mk.1 h
    have h := mk_inj h; subst h
    have hr : NextD n a.op.dst ks r (fun e => drawL C e.call e.yield rd n all e.base rest) := fun e vars loc ds s hk => ih h1 e vars loc ds s hk
    rw [jGuard_ok hp (K := fun e => drawL C e.call e.yield rd n all e.base rest e.cl e.pend) hr e vars loc ds s hk]
    exact jDraw1_ok hp ⟨fun e l => rfl, fun e b => rfl⟩ hr h2 e vars loc ds s hk
end Go.Ax

namespace Go.Ax
open Go

theorem jRegion_ok {C : Cfg} {n : Nat} {fn : FuncId} {rd : Bool} {id : Nat} {ops : List Oper} {draw : Bool} {f : JRun} (h : jRegion C n fn rd id ops draw = .mk f) (call : CallT) (yield : YieldT) (fr : Fr) (s : St) :
    f call yield fr s = obind (sel draw (execDraw C call yield rd n ops (C.order fn id) fr.fresh s) (execOps C call yield rd n ops ops fr.fresh s)) fun r => some (.normal, r) := by
  cases draw with
  | false =>
    obtain ⟨r, h1, h⟩ := bbind_mk.1 (show bbind (jOps C rd n ops ops []) (fun r => .mk fun call yield fr s => obind (r { call := call, yield := yield, base := 0, pend := [], cl := true } fr.vars [] fr.defers s) toOut) = Box.mk f from h)
    have h := mk_inj h; subst h
    show obind (r _ fr.vars [] fr.defers s) toOut = obind (execOps C call yield rd n ops ops fr.fresh s) _
    rw [jOps_ok h1 _ _ _ _ _ rfl]; rfl
  | true =>
    have h : Option.casesOn (planOf ops (C.order fn id)) .bad (fun l => bbind (jDraw C rd n ops l []) fun r => .mk fun call yield fr s =>
      obind (r { call := call, yield := yield, base := s.next, pend := [], cl := true } fr.vars [] fr.defers { heap := s.heap, fams := s.fams, next := Nat.add s.next (lenL ops) }) toOut) = Box.mk f := h
    show _ = obind (obind (planOf ops (C.order fn id)) fun l => drawL C call yield rd n ops s.next l true [] fr.fresh { heap := s.heap, fams := s.fams, next := Nat.add s.next (lenL ops) }) _
    cases hp : planOf ops (C.order fn id) with
    | none => rw [hp] at h; cases h
    | some l =>
      rw [hp] at h
      obtain ⟨r, h1, h⟩ := bbind_mk.1 h
      have h := mk_inj h; subst h
      show obind (r _ fr.vars [] fr.defers _) toOut = obind (drawL C call yield rd n ops s.next l true [] fr.fresh _) _
      rw [jDraw_ok h1 _ _ _ _ _ rfl]; rfl

theorem jCond_ok {n : Nat} {x : Operand} {g : Fr → Option Value} (h : jCond n x = .mk g) (fr : Fr) : g fr = fr.ev n x := by
  cases x with
  | tmp t =>
    have h : sel (ltN t n) (bbind (jGetP (path t)) fun g => .mk fun fr => g fr.vars) (.mk fun fr => fr.ev n (.tmp t)) = Box.mk g := h
    cases hb : ltN t n with
    | true =>
      rw [hb] at h
      obtain ⟨g', h1, h⟩ := bbind_mk.1 (show bbind (jGetP (path t)) (fun g => .mk fun (fr : Fr) => g fr.vars) = Box.mk g from h)
      have h := mk_inj h; subst h
      show g' fr.vars = sel (ltN t n) (fr.vars.get t) (findLoc t fr.loc)
      rw [hb, jGetP_ok _ g' h1]; rfl
    | false => rw [hb] at h; have h := mk_inj h; subst h; rfl
  | const v => have h := mk_inj h; subst h; rfl
  | global v => have h := mk_inj h; subst h; rfl
  | func v => have h := mk_inj h; subst h; rfl

theorem boolK_cond (v : Value) (a b : Run) (fr : Fr) (s : St) : boolK v (a fr s) (b fr s) = condRun a b fr s v := by cases v <;> rfl

theorem jCode_ok {C : Cfg} {n : Nat} {fn : FuncId} {rd : Bool} : ∀ (c : Code) {f : JRun}, jCode C n fn rd c = .mk f → ∀ call yield, f call yield = exec C call yield n fn rd c := by
  intro c
  induction c with
  | skip => intro f h call yield; have h := mk_inj h; subst h; rfl
  | region id ops draw =>
    intro f h call yield
    funext fr s
    exact jRegion_ok h call yield fr s
  | seq a b iha ihb =>
    intro f h call yield
    obtain ⟨ra, h1, h⟩ := bbind_mk.1 (show bbind (jCode C n fn rd a) (fun ra => bbind (jCode C n fn rd b) fun rb => .mk fun call yield fr s => obind (ra call yield fr s) (iterNext (rb call yield))) = Box.mk f from h)
    obtain ⟨rb, h2, h⟩ := bbind_mk.1 h
    have h := mk_inj h; subst h
    funext fr s
    show obind (ra call yield fr s) (iterNext (rb call yield)) = obind (exec C call yield n fn rd a fr s) (iterNext (exec C call yield n fn rd b))
    rw [iha h1, ihb h2]
  | cond x a b iha ihb =>
    intro f h call yield
    obtain ⟨g, h0, h⟩ := bbind_mk.1 (show bbind (jCond n x) (fun g => bbind (jCode C n fn rd a) fun ra => bbind (jCode C n fn rd b) fun rb => .mk fun call yield fr s => obind (g fr) fun v => boolK v (ra call yield fr s) (rb call yield fr s)) = Box.mk f from h)
    obtain ⟨ra, h1, h⟩ := bbind_mk.1 h
    obtain ⟨rb, h2, h⟩ := bbind_mk.1 h
    have h := mk_inj h; subst h
    funext fr s
    show (obind (g fr) fun v => boolK v (ra call yield fr s) (rb call yield fr s)) = obind (fr.ev n x) (condRun (exec C call yield n fn rd a) (exec C call yield n fn rd b) fr s)
    rw [iha h1, ihb h2, jCond_ok h0]
    apply obind_congr; intro v
    exact boolK_cond _ _ _ _ _
  | block id a iha =>
    intro f h call yield
    obtain ⟨ra, h1, h⟩ := bbind_mk.1 (show bbind (jCode C n fn rd a) (fun ra => .mk fun call yield fr s => obind (ra call yield fr s) (blockEnd id)) = Box.mk f from h)
    have h := mk_inj h; subst h
    funext fr s
    show obind (ra call yield fr s) (blockEnd id) = obind (exec C call yield n fn rd a fr s) (blockEnd id)
    rw [iha h1]
  | loop a iha =>
    intro f h call yield
    obtain ⟨ra, h1, h⟩ := bbind_mk.1 (show bbind (jCode C n fn rd a) (fun ra => .mk fun call yield fr s => iter (ra call yield) 100000 fr s) = Box.mk f from h)
    have h := mk_inj h; subst h
    funext fr s
    show iter (ra call yield) 100000 fr s = iter (exec C call yield n fn rd a) 100000 fr s
    rw [iha h1]
  | scope a iha =>
    intro f h call yield
    have h : sel rd (.mk fun _ _ _ _ => none) (jCode C n fn rd a) = Box.mk f := h
    funext fr s
    show _ = sel rd none (exec C call yield n fn rd a fr s)
    cases rd with
    | true => have h := mk_inj h; subst h; rfl
    | false => rw [iha h]; rfl
  | _ => intro f h call yield; have h := mk_inj h; subst h; rfl

theorem jBody_eq (C : Cfg) (call : CallT) (yield : YieldT) (f : FuncId) (args : List Value) (s : St) : jBody C call yield f args s = callBody C call yield f args s := by
  unfold jBody
  cases hj : jFn C f with
  | bad => rfl
  | mk run =>
    show run call yield args s = callBody C call yield f args s
    have h : Option.casesOn (C.body f) .bad (fun c => bbind (jCode C (C.vars f) f false c) fun run => .mk fun call yield args s => obind (run call yield (startFr args) s) (finish C (callDR C call yield) f)) = Box.mk run := hj
    unfold callBody
    cases hb : C.body f with
    | none => rw [hb] at h; cases h
    | some c =>
      rw [hb] at h
      obtain ⟨ra, h1, h⟩ := bbind_mk.1 h
      have h := mk_inj h; subst h
      show obind (ra call yield (startFr args) s) _ = obind (exec C call yield (C.vars f) f false c (startFr args) s) _
      rw [jCode_ok c h1]

theorem jStep_eq (C : Cfg) (call : CallT) (yield : YieldT) : jStep C call yield = callStep C call yield := by
  funext f args s
  unfold jStep callStep
  rw [jBody_eq]

theorem jRunN_eq (C : Cfg) : ∀ n, jRunN C n = runN C n := by
  intro n
  induction n with
  | zero => rfl
  | succ n ih =>
    show (jStep C (jRunN C n).1 (jRunN C n).2, yieldStep C (jRunN C n).1 (jRunN C n).2) = (callStep C (runN C n).1 (runN C n).2, yieldStep C (runN C n).1 (runN C n).2)
    rw [ih, jStep_eq]
end Go.Ax

namespace Go.Ax
open Go Go.Extern
variable {P : Program} {base : Nat} {ρ : Ren} {s : St} {w : World}

theorem bang_eq (l : List UInt8) (i : Nat) (h : i < l.length) : (⟨⟨l⟩⟩ : ByteArray)[i]! = l[i] := by
  have hb : i < (⟨⟨l⟩⟩ : ByteArray).size := h
  rw [getElem!_pos (⟨⟨l⟩⟩ : ByteArray) i hb]
  rfl

theorem find_range (f : Nat → Bool) : ∀ n, (List.range (n + 1)).find? f = if f 0 = true then some 0 else ((List.range n).find? fun i => f (i + 1)).map (· + 1) := by
  intro n
  rw [List.range_succ_eq_map, List.find?_cons]
  cases h : f 0 with
  | true => simp
  | false =>
    simp only [Bool.false_eq_true, if_false, List.find?_map]
    rfl

theorem find_congr {α : Type} {p q : α → Bool} : ∀ {l : List α}, (∀ a ∈ l, p a = q a) → l.find? p = l.find? q
  | [], _ => rfl
  | a :: l, h => by
    rw [List.find?_cons, List.find?_cons, h a List.mem_cons_self, find_congr (l := l) fun b hb => h b (List.mem_cons_of_mem _ hb)]

theorem cmp_lists : ∀ (x y : List UInt8), BytealgCompare.cmp ⟨⟨x⟩⟩ ⟨⟨y⟩⟩ = sel (lessL x y) (-1) (sel (lessL y x) 1 0)
  | [], [] => rfl
  | [], b :: t => rfl
  | a :: s, [] => rfl
  | a :: s, b :: t => by
    have ih := cmp_lists s t
    have e1 : lessL (a :: s) (b :: t) = sel (Nat.ble (Nat.succ a.toNat) b.toNat) true (sel (Nat.beq a.toNat b.toNat) (lessL s t) false) := rfl
    have e2 : lessL (b :: t) (a :: s) = sel (Nat.ble (Nat.succ b.toNat) a.toNat) true (sel (Nat.beq b.toNat a.toNat) (lessL t s) false) := rfl
    have hsz : min (⟨⟨a :: s⟩⟩ : ByteArray).size (⟨⟨b :: t⟩⟩ : ByteArray).size = min s.length t.length + 1 := by
      show min (s.length + 1) (t.length + 1) = _
      omega
    have h0a : (⟨⟨a :: s⟩⟩ : ByteArray)[0]! = a := bang_eq (a :: s) 0 (by simp)
    have h0b : (⟨⟨b :: t⟩⟩ : ByteArray)[0]! = b := bang_eq (b :: t) 0 (by simp)
    unfold BytealgCompare.cmp
    rw [hsz, find_range]
    simp only [h0a, h0b]
    by_cases hab : a = b
    · subst hab
      simp only [bne_self_eq_false, Bool.false_eq_true, if_false]
      have hs : ∀ i, i < min s.length t.length → ((⟨⟨a :: s⟩⟩ : ByteArray)[i + 1]! = (⟨⟨s⟩⟩ : ByteArray)[i]! ∧ (⟨⟨a :: t⟩⟩ : ByteArray)[i + 1]! = (⟨⟨t⟩⟩ : ByteArray)[i]!) := by
        intro i hi
        rw [bang_eq (a :: s) (i + 1) (by simp; omega), bang_eq s i (by omega), bang_eq (a :: t) (i + 1) (by simp; omega), bang_eq t i (by omega)]
        exact ⟨rfl, rfl⟩
      have hf : ((List.range (min s.length t.length)).find? fun i => (⟨⟨a :: s⟩⟩ : ByteArray)[i + 1]! != (⟨⟨a :: t⟩⟩ : ByteArray)[i + 1]!) = (List.range (min s.length t.length)).find? fun i => (⟨⟨s⟩⟩ : ByteArray)[i]! != (⟨⟨t⟩⟩ : ByteArray)[i]! := by
        apply find_congr
        intro i hi
        obtain ⟨h1, h2⟩ := hs i (List.mem_range.1 hi)
        rw [h1, h2]
      rw [hf]
      have hr : sel (lessL (a :: s) (a :: t)) (-1 : Int) (sel (lessL (a :: t) (a :: s)) 1 0) = sel (lessL s t) (-1) (sel (lessL t s) 1 0) := by
        rw [e1, e2]
        have : Nat.ble (Nat.succ a.toNat) a.toNat = false := by
          cases h : Nat.ble (Nat.succ a.toNat) a.toNat with
          | false => rfl
          | true => have := Nat.le_of_ble_eq_true h; omega
        rw [this, Nat.beq_refl]
        rfl
      rw [hr, ← ih]
      unfold BytealgCompare.cmp
      have hsz2 : min (⟨⟨s⟩⟩ : ByteArray).size (⟨⟨t⟩⟩ : ByteArray).size = min s.length t.length := rfl
      rw [hsz2]
      cases hq : (List.range (min s.length t.length)).find? fun i => (⟨⟨s⟩⟩ : ByteArray)[i]! != (⟨⟨t⟩⟩ : ByteArray)[i]! with
      | none =>
        show (if (s.length + 1) < (t.length + 1) then (-1 : Int) else if (s.length + 1) > (t.length + 1) then 1 else 0) = if s.length < t.length then -1 else if s.length > t.length then 1 else 0
        simp
      | some i =>
        have hi := List.mem_range.1 (List.mem_of_find?_eq_some hq)
        obtain ⟨h1, h2⟩ := hs i hi
        show (if (⟨⟨a :: s⟩⟩ : ByteArray)[i + 1]! < (⟨⟨a :: t⟩⟩ : ByteArray)[i + 1]! then (-1 : Int) else 1) = if (⟨⟨s⟩⟩ : ByteArray)[i]! < (⟨⟨t⟩⟩ : ByteArray)[i]! then -1 else 1
        rw [h1, h2]
    · have hne : (a != b) = true := by simpa using hab
      rw [if_pos hne]
      simp only [h0a, h0b]
      have hn : a.toNat ≠ b.toNat := fun h => hab (UInt8.toNat_inj.1 h)
      have hbf : Nat.beq a.toNat b.toNat = false := by rw [← Bool.not_eq_true, Nat.beq_eq]; exact hn
      have hbf' : Nat.beq b.toNat a.toNat = false := by rw [← Bool.not_eq_true, Nat.beq_eq]; exact fun h => hn h.symm
      rw [e1, e2, hbf, hbf']
      by_cases hlt : a < b
      · have : Nat.ble (Nat.succ a.toNat) b.toNat = true := Nat.ble_eq_true_of_le (UInt8.lt_iff_toNat_lt.1 hlt)
        rw [if_pos hlt, this]; rfl
      · have h1 : Nat.ble (Nat.succ a.toNat) b.toNat = false := by
          cases h : Nat.ble (Nat.succ a.toNat) b.toNat with
          | false => rfl
          | true => exact absurd (UInt8.lt_iff_toNat_lt.2 (Nat.le_of_ble_eq_true h)) hlt
        have h2 : Nat.ble (Nat.succ b.toNat) a.toNat = true := Nat.ble_eq_true_of_le (by
          have h3 : ¬ a.toNat < b.toNat := fun h => hlt (UInt8.lt_iff_toNat_lt.2 h)
          show b.toNat + 1 ≤ a.toNat
          omega)
        rw [if_neg hlt, h1, h2]; rfl

/-- bytes one by one -/
theorem loadBytes_cells (w : World) (b : Nat) : ∀ (ns : List Int) (o : Nat) (acc : ByteArray), (∀ (j : Nat) (v : Value), (ns.map (Value.int .u8))[j]? = some v → w.cell? ⟨b, o + j, none⟩ = some v) →
    (Bytes.loadBytes ⟨b, o, none⟩ ns.length acc).run P w = .ok ⟨⟨acc.data.toList ++ ns.map fun n => UInt8.ofNat n.toNat⟩⟩ w
  | [], o, acc, _ => by simp [Bytes.loadBytes]
  | n :: ns, o, acc, h => by
    have h0 : w.cell? ⟨b, o, none⟩ = some (.int .u8 n) := by
      have := h 0 (.int .u8 n) rfl
      simpa using this
    have ih := loadBytes_cells w b ns (o + 1) (acc.push n.toNat.toUInt8) fun j v hj => by
      have := h (j + 1) v (by simpa using hj)
      rw [show o + 1 + j = o + (j + 1) by omega]
      exact this
    have e : (⟨b, o, none⟩ : Addr).add 1 = ⟨b, o + 1, none⟩ := add_eq ..
    show (Bytes.loadBytes ⟨b, o, none⟩ (ns.length + 1) acc).run P w = _
    simp only [Bytes.loadBytes, Sem.run_bind, run_load, h0, Result.andThen_ok, e]
    rw [ih]
    simp [ByteArray.push]

theorem bytes_sound (h : HR P base ρ s w) {a : Option Addr} {n k : Nat} {c : Value} {l : List Value} {bs : List UInt8} (hv : VR ρ (.slice a n k) c) (hl : firstCells s 1 n (.slice a n k) = some l) (hb : bytesOf l = some bs) :
    (Bytes.bytesOf c).run P w = .ok ⟨⟨bs⟩⟩ w := by
  cases hv with
  | sliceNil n c =>
    obtain ⟨_, hl⟩ := guard_some.1 (show guard (Nat.beq n 0) (some []) = some l from hl)
    cases hl
    cases hb
    rfl
  | dead A K =>
    have hl : sel (Nat.beq deadId deadId) (guard (Nat.beq 0 0) (some [])) (obind (s.cells deadId) fun c => takeN (Nat.mul 0 1) (dropL 0 c.1)) = some l := hl
    cases hl
    cases hb
    rfl
  | @slice b o _ _ L hL =>
    have hl : sel (Nat.beq b deadId) (guard (Nat.beq n 0) (some [])) (obind (s.cells b) fun c => takeN (Nat.mul n 1) (dropL o c.1)) = some l := hl
    rw [sel_eq] at hl
    split at hl
    · obtain ⟨hg, hl⟩ := guard_some.1 hl
      have hg := Nat.eq_of_beq_eq_true hg
      subst hg
      cases hl
      cases hb
      rfl
    · obtain ⟨⟨cs, e, f⟩, hc, hl2⟩ := obind_some.1 hl
      rw [takeN_eq, dropL_eq] at hl2
      obtain ⟨h1, rfl⟩ := hl2
      obtain ⟨q, hq⟩ := h.rows b cs e f hc
      have hql : q = L := by have := hq.at_; rw [hL] at this; exact (Option.some.inj this).symm
      subst hql
      have h1' : n ≤ cs.length - o := by simpa using h1
      have hm : Nat.mul n 1 = n := Nat.mul_one n
      rw [hm] at hb
      by_cases ho : o ≤ cs.length
      · obtain ⟨cl, h2, h3, h4⟩ := hq.seg (o := o) (n := n) (by omega)
        obtain ⟨ns, rfl, hns⟩ := bytesOf_vrs h2 hb
        have h3 : ns.length = n := by simpa using h3
        have := loadBytes_cells (P := P) w q.blk ns (q.off + o) .empty h4
        rw [h3, hns] at this
        exact this
      · have h0 : n = 0 := by omega
        subst h0
        cases hb
        rfl

theorem cmp_sound {C : Cfg} {f : FuncId} (h : extChk P f = true) (he : (P.funcs[f]?).bind Extern.find = some BytealgCompare.compare) : ExtSound C P f .cmp := by
  intro base ρ s s' w args cargs v hr ha hv
  have hv : extCmp s args = some (v, s') := hv
  unfold extCmp at hv
  split at hv
  · rename_i a la ca b lb cb
    obtain ⟨x, hx, hv⟩ := obind_some.1 hv
    obtain ⟨x', hx', hv⟩ := obind_some.1 hv
    obtain ⟨y, hy, hv⟩ := obind_some.1 hv
    obtain ⟨y', hy', hv⟩ := obind_some.1 hv
    cases hv
    cases ha with
    | cons h1 h2 => cases h2 with
      | cons h2 h3 => cases h3 with
        | nil =>
          refine ⟨_, ρ, w, ?_, Goes.refl hr, .int _ _⟩
          rw [run_ext h he]
          rename_i c1 c2
          show Result.andThen ((do pure (goInt (BytealgCompare.cmp (← Bytes.bytesOf c1) (← Bytes.bytesOf c2))) : Sem Value).run P w) _ = _
          simp only [Sem.run_bind, bytes_sound hr h1 hx hx', bytes_sound hr h2 hy hy', Result.andThen_ok, Sem.run_pure, cmp_lists]
          rfl
  · cases hv
end Go.Ax

namespace Go.Ax
open Go Go.Extern
variable {P : Program} {base : Nat} {ρ : Ren} {s : St} {w : World}

theorem indexB_find (c : Nat) (hc : c < 256) : ∀ (l : List UInt8) (k : Nat), indexB c l k = match (List.range l.length).find? (fun i => (⟨⟨l⟩⟩ : ByteArray)[i]! == c.toUInt8) with
    | some i => Int.ofNat (k + i)
    | none => -1
  | [], k => rfl
  | b :: l, k => by
    have ih := indexB_find c hc l (k + 1)
    have e1 : indexB c (b :: l) k = sel (Nat.beq b.toNat c) (Int.ofNat k) (indexB c l (k + 1)) := rfl
    have h0 : (⟨⟨b :: l⟩⟩ : ByteArray)[0]! = b := bang_eq (b :: l) 0 (by simp)
    have hcc : c.toUInt8.toNat = c := by
      show (UInt8.ofNat c).toNat = c
      rw [UInt8.toNat_ofNat']
      exact Nat.mod_eq_of_lt hc
    rw [show (b :: l).length = l.length + 1 from rfl, find_range]
    simp only [h0]
    rw [e1, sel_eq]
    by_cases hb : b.toNat = c
    · have h1 : Nat.beq b.toNat c = true := by rw [Nat.beq_eq]; exact hb
      have h2 : (b == c.toUInt8) = true := by
        have : b = c.toUInt8 := UInt8.toNat_inj.1 (by rw [hcc]; exact hb)
        simpa using this
      rw [if_pos h1, if_pos h2]; rfl
    · have h1 : ¬ Nat.beq b.toNat c = true := by rw [Nat.beq_eq]; exact hb
      have h2 : ¬ (b == c.toUInt8) = true := by
        intro h
        have : b = c.toUInt8 := by simpa using h
        exact hb (by rw [this, hcc])
      rw [if_neg h1, if_neg h2, ih]
      have hf : ((List.range l.length).find? fun i => (⟨⟨b :: l⟩⟩ : ByteArray)[i + 1]! == c.toUInt8) = (List.range l.length).find? fun i => (⟨⟨l⟩⟩ : ByteArray)[i]! == c.toUInt8 := by
        apply find_congr
        intro i hi
        have hi := List.mem_range.1 hi
        rw [bang_eq (b :: l) (i + 1) (by simp; omega), bang_eq l i hi]
        rfl
      rw [hf]
      cases (List.range l.length).find? fun i => (⟨⟨l⟩⟩ : ByteArray)[i]! == c.toUInt8 with
      | none => rfl
      | some i =>
        show Int.ofNat (k + 1 + i) = Int.ofNat (k + (i + 1))
        congr 1; omega

theorem indexByte_sound {C : Cfg} {f : FuncId} (h : extChk P f = true) (he : (P.funcs[f]?).bind Extern.find = some BytealgIndexByte.indexByte) : ExtSound C P f .indexByte := by
  intro base ρ s s' w args cargs v hr ha hv
  have hv : extIndexByte s args = some (v, s') := hv
  unfold extIndexByte at hv
  split at hv
  · rename_i b c x
    obtain ⟨hc, hv⟩ := guard_some.1 hv
    have hc : c < 256 := Nat.le_of_ble_eq_true hc
    cases hv
    cases ha with
    | cons h1 h2 => cases h2 with
      | cons h2 h3 => cases h3 with
        | nil =>
          cases h1
          cases h2
          refine ⟨_, ρ, w, ?_, Goes.refl hr, .int _ _⟩
          rw [run_ext h he]
          have hb : (⟨⟨b.data.toList⟩⟩ : ByteArray) = b := by cases b; rfl
          have hi := indexB_find c hc b.data.toList 0
          rw [hb] at hi
          have hs : b.data.toList.length = b.size := by cases b; rfl
          rw [hs] at hi
          show Result.andThen ((match (List.range b.size).find? (fun i => b[i]! == (Int.ofNat c).toNat.toUInt8) with
            | some i => pure (goInt i)
            | none => pure (goInt (-1)) : Sem Value).run P w) _ = _
          rw [hi]
          have ht : (Int.ofNat c).toNat.toUInt8 = c.toUInt8 := rfl
          rw [ht]
          cases (List.range b.size).find? fun i => b[i]! == c.toUInt8 with
          | none => rfl
          | some i =>
            have e0 : (0 + i : Nat) = i := Nat.zero_add i
            simp only [e0]; rfl
  · cases hv
end Go.Ax

namespace Go.Ax
open Go
section
variable {P : Program} {base : Nat} {ρ ρ' : Ren} {s s' s1 : St} {w w' : World}

/-- A BLOCK THAT LIES IN THE WORLD ALREADY, at the next id: a slice's, of a family of its own. -/
noncomputable def adoptSt (s : St) (cs : List Value) (e : TypeId) : St := { heap := s.heap.set s.next (.row cs e s.next), fams := s.fams.set s.next [s.next], next := Nat.succ s.next }

theorem HR.adopt (h : HR P base ρ s w) {N : Nat} (hN : ∀ i t q, s.tag i = some t → ρ.at i = some q → q.blk < N) {l : Loc} (hl0 : N ≤ l.blk) (hl1 : base ≤ l.blk) (hl2 : l.blk < w.heap.size)
    {cs : List Value} {e : TypeId} (hrow : RowR P (ρ.set s.next l) w s.next cs e s.next l) : HR P base (ρ.set s.next l) (adoptSt s cs e) w := by
  have hle := Ren.le_set h l
  have hnx := h.next
  have hch : ∀ j, j ∈ [s.next] → j ≠ s.next → ∃ l, s.fams.get s.next = some l ∧ j ∈ l := fun j hj hne => absurd (by simpa using hj) hne
  have htags : ∀ i t, i ≠ s.next → (adoptSt s cs e).tag i = some t → s.tag i = some t := fun i t hi ht => tag_set_fam hi hch ht
  have hcells : ∀ i c, i ≠ s.next → (adoptSt s cs e).cells i = some c → s.cells i = some c := fun i c hi hc => cells_set_fam hi hch hc
  have hother : ∀ i, i ≠ s.next → (adoptSt s cs e).heap.get i = s.heap.get i := fun i hi => Hp.get_set_other _ _ hi
  have hsame : (adoptSt s cs e).heap.get s.next = some (.row cs e s.next) := Hp.get_set_same _ _ _
  have hat : ∀ i q, i ≠ s.next → (ρ.set s.next l).at i = some q → ρ.at i = some q := by
    intro i q ei hu
    by_cases hlo : i < fixedTop
    · rw [Ren.at_low hlo] at hu ⊢; exact hu
    · rw [Ren.at_of (by omega)] at hu ⊢; rwa [Ren.set_other ρ l ei] at hu
  refine ⟨?_, by show fixedTop ≤ s.next + 1; omega, h.base_le, ?_, ?_, ?_, ?_, ?_, ?_, ?_⟩
  · intro i q hi
    by_cases e' : i = s.next
    · subst e'
      rw [Ren.set_same] at hi
      cases hi
      exact ⟨hnx, by show s.next < s.next + 1; omega, hl1, hl2⟩
    · rw [Ren.set_other ρ l e'] at hi
      obtain ⟨a, b, c, d⟩ := h.dom i q hi
      exact ⟨a, by show i < s.next + 1; omega, c, d⟩
  · intro i hi ht
    have e' : i ≠ s.next := by omega
    cases ht' : (adoptSt s cs e).tag i with
    | none => exact absurd ht' ht
    | some t => exact h.low i hi (by rw [htags i t e' ht']; simp)
  · intro i q hi
    by_cases e' : i = s.next
    · subst e'; show s.next < s.next + 1; omega
    · rw [hother i e'] at hi
      have := h.heap_dom i q hi
      show i < s.next + 1
      omega
  · intro i cs1 e1 f1 hi
    by_cases e' : i = s.next
    · subst e'
      rw [hsame] at hi
      cases hi
      show s.next < s.next + 1; omega
    · rw [hother i e'] at hi
      have := h.fam_dom i cs1 e1 f1 hi
      show f1 < s.next + 1
      omega
  · intro i cs1 e1 f1 hc
    by_cases e' : i = s.next
    · subst e'
      obtain ⟨h1, _⟩ := cells_some.1 hc
      rw [hsame] at h1
      cases h1
      exact ⟨l, hrow⟩
    · have hc' := hcells i _ e' hc
      obtain ⟨q, hq⟩ := h.rows i cs1 e1 f1 hc'
      exact ⟨q, hq.move hle rfl⟩
  · intro i es c hi
    by_cases e' : i = s.next
    · subst e'; rw [hsame] at hi; cases hi
    · rw [hother i e'] at hi
      obtain ⟨q, hq, es', h1, h2⟩ := h.maps i es c hi
      exact ⟨q, hle _ _ hq, es', h1, h2.mono hle⟩
  · intro i q hi
    by_cases e' : i = s.next
    · subst e'; rw [hsame] at hi; cases hi
    · rw [hother i e'] at hi
      obtain ⟨u, hu, q', h1, h2⟩ := h.loops i q hi
      exact ⟨u, hle _ _ hu, q', h1, h2.mono hle⟩
  · intro i j a b u v hi hj hab hu hv
    have hself : ∀ u, (ρ.set s.next l).at s.next = some u → u = l := by
      intro u hu
      rw [Ren.at_of hnx, Ren.set_same] at hu
      exact (Option.some.inj hu).symm
    by_cases ei : i = s.next
    · subst ei
      obtain rfl := hself u hu
      by_cases ej : j = s.next
      · subst ej
        rw [hi] at hj
        exact absurd (Option.some.inj hj) hab
      · have := hN j b v (htags j b ej hj) (hat j v ej hv)
        omega
    · by_cases ej : j = s.next
      · subst ej
        obtain rfl := hself v hv
        have := hN i a u (htags i a ei hi) (hat i u ei hu)
        omega
      · exact h.sep i j a b u v (htags i a ei hi) (htags j b ej hj) hab (hat i u ei hu) (hat j v ej hv)

/-- A function without arguments that hands back a slice of plain cells in new memory: what its run came to elsewhere. -/
theorem fresh_goes (h : HR P base ρ s w) {r1 : Ren} {s0 : St} (h0 : HR P w.heap.size (fun _ => none) s0 w) (hg : Goes P w.heap.size (fun _ => none) s0 w r1 s1 w') {b len : Nat} {cs : List Value} {e : TypeId} {f : Nat} {c : Value} (hb : fixedTop ≤ b)
    (hv : VR r1 (.slice (some ⟨b, 0, none⟩) len bigCap) c) (hc : s1.cells b = some (cs, e, f)) (hf : f ≠ 0) (hfl : flatAll cs = true) (hbd : b ≠ deadId) :
    ∃ l, Goes P base ρ s w (ρ.set s.next l) (adoptSt s cs e) w' ∧ VR (ρ.set s.next l) (.slice (some ⟨s.next, 0, none⟩) len bigCap) c := by
  have hbel := hg.below h0
  have g1 := Goes.of_below' h hbel
  cases hv with
  | dead A K => exact absurd rfl hbd
  | @slice _ _ _ _ L hL =>
    obtain ⟨l, hrow⟩ := hg.hr.rows b cs e f hc
    have hlL : l = L := by have := hrow.at_; rw [hL] at this; exact (Option.some.inj this).symm
    subst hlL
    have hr1 : r1 b = some l := by rw [← Ren.at_of (ρ := r1) hb]; exact hL
    obtain ⟨_, _, d3, d4⟩ := hg.hr.dom b l hr1
    obtain ⟨_, a, fz, ha, hcv, hz, _, hn⟩ := hrow
    have hat : (ρ.set s.next l).at s.next = some l := by rw [Ren.at_of h.next, Ren.set_same]
    have hadopt := g1.hr.adopt (N := w.heap.size) (fun i t q ht hq => h.blk_lt ht hq) d3 (Nat.le_trans h.base_le d3) d4 (cs := cs) (e := e)
      ⟨hat, a, fz, ha, fun j x hj => by
          obtain ⟨y, hy, hxy⟩ := hcv j x hj
          have hq := flatAll_get hfl hj
          rw [flat_eq hq hxy] at hy
          exact ⟨x, hy, flat_vr _ hq⟩, fun _ => hz hb, fun h0 => absurd h0 (by have := h.next; unfold fixedTop at this; omega), fun _ => hn hf⟩
    refine ⟨l, ⟨Ren.le_set h l, hadopt, g1.os, g1.tape, g1.output, g1.grow, Nat.le_succ _, g1.frame, ?_, ?_⟩, .slice hat⟩
    · rintro k ⟨i, q, x, h1, h2, h3, h4⟩
      by_cases e' : i = s.next
      · subst e'
        rw [Ren.set_same] at h3
        cases h3
        exact .inr (h4 ▸ d3)
      · rw [Ren.set_other ρ l e'] at h3
        have hch : ∀ j, j ∈ [s.next] → j ≠ s.next → ∃ l, s.fams.get s.next = some l ∧ j ∈ l := fun j hj hne => absurd (by simpa using hj) hne
        exact .inl ⟨i, q, x, h1, tag_set_fam e' hch h2, h3, h4⟩
    · intro i hi
      have hi : i < s.next := hi
      exact Ren.set_other ρ l (by omega)
end
end Go.Ax

namespace Go.Ax
open Go
section
variable {P : Program} {W : World}

/-- The start state that knows some low blocks: their numbers, cells, types. -/
noncomputable def rowsSt (L : List (Nat × List Value × TypeId)) : St := { heap := List.rec (.s 20 0) (fun x _ h => Hp.set h x.1 (.row x.2.1 x.2.2 0)) L, fams := .s 20 0, next := 64 }

theorem rowsSt_get : ∀ {L : List (Nat × List Value × TypeId)} {i : Nat} {r : Row}, (rowsSt L).heap.get i = some r → ∃ x ∈ L, x.1 = i ∧ r = .row x.2.1 x.2.2 0
  | [], i, r, h => by
    have h : (Hp.s 20 0 : Hp Row).get i = some r := h
    rw [Hp.get_s] at h
    cases h
  | x :: L, i, r, h => by
    have h : (Hp.set (rowsSt L).heap x.1 (Row.row x.2.1 x.2.2 0)).get i = some r := h
    rw [Hp.get_set] at h
    by_cases e : i = x.1
    · rw [if_pos e] at h
      exact ⟨x, List.mem_cons_self, e.symm, (Option.some.inj h).symm⟩
    · rw [if_neg e] at h
      obtain ⟨y, hy, h1, h2⟩ := rowsSt_get h
      exact ⟨y, List.mem_cons_of_mem _ hy, h1, h2⟩

theorem rowsSt_tag {L : List (Nat × List Value × TypeId)} {i : Nat} {a : Nat × Nat} (h : (rowsSt L).tag i = some a) : a = (0, i) ∧ ∃ x ∈ L, x.1 = i := by
  unfold St.tag at h
  cases hg : (rowsSt L).heap.get i with
  | none => rw [hg] at h; cases h
  | some r =>
    obtain ⟨x, hx, h1, rfl⟩ := rowsSt_get hg
    rw [hg] at h
    simp at h
    exact ⟨h.symm, x, hx, h1⟩

/-- The blocks that the state knows lie in the world. -/
theorem rowsSt_hr {L : List (Nat × List Value × TypeId)} (hlo : ∀ x ∈ L, x.1 < deadId) (hW : ∀ x ∈ L, ∃ (a : Array Value) (fz : Nat × Nat), W.heap[x.1]? = some (.cells a x.2.2 fz) ∧ VRs (fun _ => none) x.2.1 a.toList) :
    HR P W.heap.size (fun _ => none) (rowsSt L) W where
  dom := fun _ _ h => by cases h
  next := Nat.le_refl 64
  base_le := Nat.le_refl _
  low := fun i hi ht => by
    cases ht' : (rowsSt L).tag i with
    | none => exact absurd ht' ht
    | some a =>
      obtain ⟨_, x, hx, rfl⟩ := rowsSt_tag ht'
      obtain ⟨b, fz, hb, _⟩ := hW x hx
      exact ⟨(Array.getElem?_eq_some_iff.1 hb).1, Nat.ne_of_lt (hlo x hx)⟩
  heap_dom := fun i r h => by
    obtain ⟨x, hx, rfl, _⟩ := rowsSt_get h
    have := hlo x hx
    have e : deadId = 63 := rfl
    show x.1 < 64
    omega
  fam_dom := fun i cs e f h => by
    obtain ⟨x, hx, rfl, e⟩ := rowsSt_get h
    cases e
    show 0 < 64
    omega
  rows := fun i cs e f h => by
    obtain ⟨h1, _⟩ := cells_some.1 h
    obtain ⟨x, hx, rfl, e'⟩ := rowsSt_get h1
    cases e'
    have hx63 := hlo x hx
    have e : deadId = 63 := rfl
    have e2 : fixedTop = 64 := rfl
    obtain ⟨a, fz, ha, hv⟩ := hW x hx
    refine ⟨⟨x.1, 0, 0⟩, Ren.at_low (by omega), a, fz, ha, fun j y hj => ?_, fun h => absurd h (by omega), fun _ => ⟨rfl, ?_, fun h => absurd h (by omega)⟩, fun h => absurd rfl h⟩
    · obtain ⟨z, hz, hyz⟩ := hv.get hj
      refine ⟨z, ?_, hyz⟩
      simpa using hz
    · have := hv.length
      simpa using this
  maps := fun i es c h => by
    obtain ⟨x, hx, _, e⟩ := rowsSt_get h
    cases e
  loops := fun i r h => by
    obtain ⟨x, hx, _, e⟩ := rowsSt_get h
    cases e
  sep := fun i j a b l l' hi hj hab hl hl' => by
    obtain ⟨rfl, x, hx, e1⟩ := rowsSt_tag hi
    obtain ⟨rfl, y, hy, e2⟩ := rowsSt_tag hj
    have := hlo x hx
    have := hlo y hy
    have e : deadId = 63 := rfl
    have e3 : fixedTop = 64 := rfl
    rw [Ren.at_low (by omega)] at hl hl'
    cases hl
    cases hl'
    intro h
    apply hab
    have h : i = j := h
    rw [h]

theorem flat_vrs (ρ : Ren) : ∀ {l : List Value}, flatAll l = true → VRs ρ l l
  | [], _ => .nil
  | a :: l, h => by
    change sel (flatOne a) (flatAll l) false = true at h
    rw [sel_eq] at h
    split at h
    · rename_i ha
      exact .cons (flat_vr ρ ha) (flat_vrs ρ h)
    · cases h

theorem flat_eqs {ρ : Ren} : ∀ {l c : List Value}, flatAll l = true → VRs ρ l c → c = l
  | [], _, _, .nil => rfl
  | a :: l, _, h, .cons hv hl => by
    change sel (flatOne a) (flatAll l) false = true at h
    rw [sel_eq] at h
    split at h
    · rename_i ha
      rw [flat_eq ha hv, flat_eqs h hl]
    · cases h

/-- That a state knows a low block to hold these plain cells. -/
noncomputable def knowsRow (s : St) (k : Nat) (cs : List Value) : Bool := Option.casesOn (s.cells k) false fun c => sel (Nat.beq c.2.2 0) (sameL (sameV 4) c.1 cs) false

theorem knowsRow_heap {base : Nat} {ρ : Ren} {s : St} {w : World} (h : HR P base ρ s w) {k : Nat} {cs : List Value} (hf : flatAll cs = true) (hlo : k < fixedTop) (hk : knowsRow s k cs = true) : ∃ (t : TypeId) (fz : Nat × Nat), w.heap[k]? = some (.cells ⟨cs⟩ t fz) := by
  unfold knowsRow at hk
  cases hc : s.cells k with
  | none => rw [hc] at hk; cases hk
  | some c =>
    obtain ⟨cs', e, f⟩ := c
    rw [hc] at hk
    change sel (Nat.beq f 0) (sameL (sameV 4) cs' cs) false = true at hk
    rw [sel_eq] at hk
    split at hk
    · rename_i h0
      have h0 : f = 0 := Nat.eq_of_beq_eq_true h0
      subst h0
      have he := sameL_eq (fun a b => sameV_eq 4) hk
      subst he
      obtain ⟨l, hat, a, fz, ha, hv, _, h0, _⟩ := h.rows k _ _ _ hc
      rw [Ren.at_low hlo] at hat
      cases hat
      obtain ⟨_, hsz, _⟩ := h0 rfl
      refine ⟨e, fz, ?_⟩
      have hvs : VRs ρ cs' a.toList := VRs.of_get (by simpa using hsz) fun j x hj => by
        obtain ⟨y, hy, hxy⟩ := hv j x hj
        exact ⟨y, by simpa using hy, hxy⟩
      have := flat_eqs hf hvs
      rw [← this]
      exact ha
    · cases hk
end
end Go.Ax

set_option linter.unusedVariables false
namespace Go.Ax
open Go
noncomputable section

/-! ### a run that ends in a panic -/

def panVal (v : Value) (s : St) : Option (Value × St) :=
  match v with
  | .iface t u => some (.iface t u, s)
  | _ => none

def panRes (pcall : CallT) (r : Res) : Option (Value × St) :=
  match r with
  | .call f args s => pcall f args s
  | _ => none

/-- What an operation comes to that ends in a panic: the value, the state then. -/
def panOp (C : Cfg) (pcall : CallT) (ev : Ev) (s : St) (o : Op) : Option (Value × St) :=
  match o with
  | .panic (.tmp t) => obind (ev (.tmp t)) fun v => panVal v s
  | o => obind (execOp C ev s o) (panRes pcall)

abbrev PanK := Fr → St → Option (Value × Fr × St)

def panTry (C : Cfg) (call : CallT) (yield : YieldT) (n : Nat) (fr : Fr) (s : St) (o : Op) : Option (Value × St × Option (FuncId × List Value)) :=
  obind (execOp C (fr.ev n) s o) (aft call yield false)

/-- One operation, and what then. -/
def panOne (C : Cfg) (call : CallT) (yield : YieldT) (pcall : CallT) (n : Nat) (all : List Oper) (o : Oper) (k : PanK) : PanK := fun fr s =>
  obind (guardOk n all fr o.guard) fun g => sel g
    (Option.casesOn (panTry C call yield n fr s o.op) (obind (panOp C pcall (fr.ev n) s o.op) fun q => some (q.1, fr, q.2))
      fun q => k ((fr.more q.2.2).put n o.dst q.1) q.2.1)
    (k (fr.put n o.dst unit) s)

def panOps (C : Cfg) (call : CallT) (yield : YieldT) (pcall : CallT) (n : Nat) (all : List Oper) (ops : List Oper) : PanK :=
  List.rec (fun _ _ => none) (fun o _ ih => panOne C call yield pcall n all o ih) ops

/-- The last of a list, and what is ahead of it. -/
def splitLast : List Oper → Option (List Oper × Oper) := fun l =>
  List.rec none (fun o _ ih => Option.casesOn ih (some ([], o)) fun q => some (o :: q.1, q.2)) l

def lowE (i : Nat) (l : List Edge) : Bool := l.all fun e => !Region.binds .any e || ltN e.on i
/-- That no operation waits for a later one. -/
def lowAll : List Oper → Nat → Bool := fun l => List.rec (fun _ => true) (fun o _ ih i => sel (lowE i o.after.toList) (ih (Nat.succ i)) false) l
def lowGuard (n : Nat) (g : Option (Nat × Bool)) : Bool := Option.casesOn g true fun g => ltN g.1 n
def lowGuards (n : Nat) : List Oper → Bool := fun l => List.rec true (fun o _ ih => sel (lowGuard n o.guard) ih false) l

/-- A region whose order is drawn, its last operation waiting for all others and ending in a panic. -/
def panDraw (C : Cfg) (call : CallT) (yield : YieldT) (pcall : CallT) (n : Nat) (ops : List Oper) (order : List Nat) (fr : Fr) (s : St) : Option (Value × Fr × St) :=
  obind (splitLast ops) fun q => guard (Region.sinkB .any ops.toArray (lenL q.1) && (q.2.guard.isNone && (lowGuards (lenL q.1) q.1 && lowAll ops 0))) <|
    obind (execDraw C call yield false n q.1 order fr s) fun r => obind (panOp C pcall (r.1.ev n) r.2 q.2.op) fun p => some (p.1, r.1, p.2)

def panNext (k : PanK) (r : Ex × Fr × St) : Option (Value × Fr × St) :=
  match r.1 with
  | .normal => k r.2.1 r.2.2
  | _ => none
def panCond (a b : PanK) (fr : Fr) (s : St) (v : Value) : Option (Value × Fr × St) :=
  match v with
  | .bool c => sel c (a fr s) (b fr s)
  | _ => none
def panIter (f : Run) (g : PanK) : Nat → PanK := fun k =>
  Nat.rec (fun _ _ => none) (fun _ ih fr s => Option.casesOn (f fr s) (g fr s) (panNext ih)) k

/-- Code that ends in a panic: the value, the frame, the state then. order: of the drawn regions' own operations but the last. -/
def panCode (C : Cfg) (call : CallT) (yield : YieldT) (pcall : CallT) (order : FuncId → Nat → List Nat) (n : Nat) (fn : FuncId) (c : Code) : PanK :=
  Code.rec (motive := fun _ => PanK)
    (fun _ _ => none)
    (fun id ops draw fr s => sel draw (panDraw C call yield pcall n ops.toList (order fn id) fr.fresh s) (panOps C call yield pcall n ops.toList ops.toList fr.fresh s))
    (fun x _ a b fr s => Option.casesOn (exec C call yield n fn false x fr s) (a fr s) (panNext b))
    (fun c _ _ a b fr s => obind (fr.ev n c) (panCond a b fr s))
    (fun _ _ a => a)
    (fun x a fr s => panIter (exec C call yield n fn false x) a 100000 fr s)
    (fun _ _ _ _ _ _ _ _ => none)
    (fun _ _ _ => none)
    (fun _ _ _ _ => none)
    (fun _ _ _ => none)
    (fun _ _ _ => none)
    (fun _ _ => none)
    (fun _ _ _ => none) c

/-- A call that ends in a panic, of a function that defers nothing. -/
def panCall (C : Cfg) (call : CallT) (yield : YieldT) (pcall : CallT) (order : FuncId → Nat → List Nat) (f : FuncId) (args : List Value) (s : St) : Option (Value × St) :=
  obind (C.body f) fun c => guard (noRange c) (obind (panCode C call yield pcall order (C.vars f) f c (startFr args) s) fun q => lcase q.2.1.defers (some (q.1, q.2.2)) fun _ _ => none)

def panN (C : Cfg) (call : CallT) (yield : YieldT) (order : FuncId → Nat → List Nat) (n : Nat) : CallT :=
  Nat.rec (fun _ _ _ => none) (fun _ ih => panCall C call yield ih order) n

/-! ### a deferred function that recovers -/
abbrev RecK := Bool → Fr → St → Option (Bool × Fr × St)

def oneV (C : Cfg) (n : Nat) (v : Value) (all : List Oper) (o : Oper) (k : RecK) : RecK := fun b fr s =>
  obind (guardOk n all fr o.guard) fun g => sel g
    (sel (isRecover o.op) (sel b none (k true (fr.put n o.dst v) s)) (obind (execOp C (fr.ev n) s o.op) fun r => match r with
      | .val u s => k b (fr.put n o.dst u) s
      | _ => none))
    (k b (fr.put n o.dst unit) s)
def opsV (C : Cfg) (n : Nat) (v : Value) (all : List Oper) (ops : List Oper) : RecK :=
  List.rec (fun b fr s => some (b, fr, s)) (fun o _ ih => oneV C n v all o ih) ops

abbrev OutV := Option (Ex × Bool × Fr × St)
abbrev RunV := Bool → Fr → St → OutV
def nextV (k : RunV) (r : Ex × Bool × Fr × St) : OutV :=
  match r.1 with
  | .normal => k r.2.1 r.2.2.1 r.2.2.2
  | _ => some r
def condV (a c : RunV) (b : Bool) (fr : Fr) (s : St) (v : Value) : OutV :=
  match v with
  | .bool t => sel t (a b fr s) (c b fr s)
  | _ => none

def execV (C : Cfg) (n : Nat) (v : Value) (c : Code) : RunV :=
  Code.rec (motive := fun _ => RunV)
    (fun b fr s => some (.normal, b, fr, s))
    (fun _ ops draw b fr s => sel draw none (obind (opsV C n v ops.toList ops.toList b fr.fresh s) fun r => some (.normal, r)))
    (fun _ _ x y b fr s => obind (x b fr s) (nextV y))
    (fun c _ _ x y b fr s => obind (fr.ev n c) (condV x y b fr s))
    (fun _ _ _ _ _ _ => none)
    (fun _ _ _ _ _ => none)
    (fun _ _ _ _ _ _ _ _ _ => none)
    (fun _ _ _ _ => none)
    (fun _ _ _ _ _ => none)
    (fun _ _ _ _ => none)
    (fun _ _ _ _ => none)
    (fun b fr s => some (.ret, b, fr, s))
    (fun _ _ _ _ => none) c

def finishV (C : Cfg) (f : FuncId) (r : Ex × Bool × Fr × St) : Option St :=
  match r.1 with
  | .exit _ => none
  | _ => guard r.2.1 (lcase r.2.2.1.defers (obind (results C.P (C.vars f) r.2.2.1 r.2.2.2 (C.results f)) fun _ => some r.2.2.2) fun _ _ => none)

def recBody (C : Cfg) (g : FuncId) (args : List Value) (v : Value) (s : St) : Option St :=
  obind (C.body g) fun c => obind (execV C (C.vars g) v c false (startFr args) s) (finishV C g)

/-- A call of a function that defers one function, panics, and is recovered by that. -/
def recCall (C : Cfg) (call : CallT) (yield : YieldT) (pcall : CallT) (order : FuncId → Nat → List Nat) (f : FuncId) (args : List Value) (s : St) : Option (Value × St) :=
  obind (C.body f) fun c => guard (noRange c) (obind (panCode C call yield pcall order (C.vars f) f c (startFr args) s) fun q =>
    lcase q.2.1.defers none fun d ds => lcase ds (obind (recBody C d.1 d.2 q.1 q.2.2) fun s2 => obind (results C.P (C.vars f) q.2.1 s2 (C.results f)) fun vs => some (tuple vs, s2)) fun _ _ => none)

/-- A call of such a function, whatever comes of it. -/
def tryCall (C : Cfg) (call : CallT) (yield : YieldT) (pcall : CallT) (order : FuncId → Nat → List Nat) (f : FuncId) (args : List Value) (s : St) : Option (Value × St) :=
  Option.casesOn (call f args s) (recCall C call yield pcall order f args s) some
end
end Go.Ax

namespace Go.Ax
open Go
noncomputable section

section
variable {P : Program} {B : Nat} {C : Cfg}

/-- What a call that ends in a panic may be counted on for. -/
def PanOk (P : Program) (pcall : CallT) : Prop :=
  ∀ f args s v s', pcall f args s = some (v, s') → ∀ B ρ w cargs, HR P B ρ s w → VRs ρ args cargs →
    Calls P f ⟨cargs⟩ w fun e w' => ∃ c ρ', e = .panicked [{ v := c, recovered := false }] ∧ Goes P B ρ s w ρ' s' w' ∧ VR ρ' v c

theorem panOp_wp (hK : CfgOk C P) {pcall : CallT} (hp : PanOk P pcall) {mk : Option Nat} {m n nt : Nat} {fr : Fr} {o : Oper} {a : Act} {K : Act → World → Prop} {Q : Exit → Act → World → Prop} {ρ : Ren} {s : St} {w : World}
    (h : HR P B ρ s w) (hf : FrR mk n nt ρ s w fr a) (hopn : okOpnds (opnds o.op) = true) {v : Value} {s' : St} (hr : panOp C pcall (fr.ev n) s o.op = some (v, s'))
    (hq : ∀ ρ' w' c, Goes P B ρ s w ρ' s' w' → VR ρ' v c → Q (.panic [{ v := c, recovered := false }]) a w') : o.wpIn (Fro none) m P a w K Q := by
  have e : o.semAt (Fro none).round a.eval = Go.execOp a.eval o := rfl
  refine ⟨fun _ _ => trivial, ?_⟩
  rw [e]
  unfold panOp at hr
  split at hr
  · rename_i t hop
    obtain ⟨u, hu, hr⟩ := obind_some.1 hr
    unfold panVal at hr
    split at hr
    · rename_i ty x
      cases hr
      have hv : VR ρ (.iface ty x) (a.tmps.getD t undef) := hf.tmps t _ hu
      have hrun : (Go.execOp a.eval o).run P w = .halt (.panic (a.tmps.getD t undef)) w := by
        have hev : a.eval (.tmp t) = a.tmps.getD t undef := rfl
        unfold Go.execOp
        simp only [hop, hev]
        generalize a.tmps.getD t undef = cv at hv
        cases hv
        rfl
      rw [hrun]
      exact hq ρ w _ (Goes.refl h) hv
    · cases hr
  · obtain ⟨r, hr0, hr1⟩ := obind_some.1 hr
    cases r with
    | call f args s2 =>
      have hr1 : pcall f args s2 = some (v, s') := hr1
      have he := evR_restr (ρ := ρ) (n := n) (fr := fr) (a := a) hopn (fun t v _ ht => hf.tmps t v ht)
      rw [← execOp_restr] at hr0
      have hs := op_sound hK h he hr0
      obtain ⟨rfl, cargs, hrun, hargs⟩ := hs
      rw [hrun]
      refine ⟨(fun h => by cases h), callsIn_fro ((hp f args _ _ _ hr1 B ρ w cargs h hargs).mono ?_)⟩
      rintro e' w' ⟨c, ρ', rfl, hgo, hv⟩
      exact hq ρ' w' c hgo hv
    | val v2 s2 => cases hr1
    | yield l args s2 => cases hr1
    | defer f args s2 => cases hr1

theorem panOps_cons (call : CallT) (yield : YieldT) (pcall : CallT) (n : Nat) (all : List Oper) (o : Oper) (rest : List Oper) (fr : Fr) (s : St) :
    panOps C call yield pcall n all (o :: rest) fr s = obind (guardOk n all fr o.guard) fun g => sel g
      (Option.casesOn (panTry C call yield n fr s o.op) (obind (panOp C pcall (fr.ev n) s o.op) fun q => some (q.1, fr, q.2)) fun q => panOps C call yield pcall n all rest ((fr.more q.2.2).put n o.dst q.1) q.2.1)
      (panOps C call yield pcall n all rest (fr.put n o.dst unit) s) := rfl

theorem panOps_wp (hK : CfgOk C P) {call : CallT} {yield : YieldT} {pcall : CallT} (hc : CallOk P call) (hy : YieldOk P yield) (hp : PanOk P pcall) {mk : Option Nat} {m n nt : Nat} {ops : Array Oper} {Q : Exit → Act → World → Prop}
    (hok : okOpers nt ops.toList = true) : ∀ (rest : List Oper) (k : Nat), ops.toList.drop k = rest → ∀ (fr : Fr) (s : St) (v : Value) (fr' : Fr) (s' : St) (ρ : Ren) (a : Act) (w : World),
      panOps C call yield pcall n ops.toList rest fr s = some (v, fr', s') → HR P B ρ s w → FrR mk n nt ρ s w fr a →
      (∀ ρ' w' a' c, Goes P B ρ s w ρ' s' w' → FrR mk n nt ρ' s' w' fr' a' → VR ρ' v c → Q (.panic [{ v := c, recovered := false }]) a' w') → wpOpsIn (Fro none) m P ops Q (List.range' k rest.length) a w
  | [], k, _, fr, s, v, fr', s', ρ, a, w, h, hh, hf, hq => by cases h
  | o :: rest, k, hd, fr, s, v, fr', s', ρ, a, w, h, hh, hf, hq => by
    have ho : ops[k]? = some o := by
      have : (ops.toList.drop k)[0]? = some o := by rw [hd]; rfl
      simpa using this
    have hd' : ops.toList.drop (k + 1) = rest := by
      rw [← List.drop_drop, hd]; rfl
    have hmem : o ∈ ops.toList := List.mem_of_getElem? (by simpa using ho)
    obtain ⟨hdst, hopn⟩ := okOper_some (okOpers_mem hok o hmem)
    rw [panOps_cons] at h
    obtain ⟨g, hg, h⟩ := obind_some.1 h
    have hw := wanted_eq (ρ := ρ) (a := a) hg (fun j o' d b v _ _ _ hv => hf.tmps d v hv)
    show wpOpsIn (Fro none) m P ops Q (k :: List.range' (k + 1) rest.length) a w
    simp only [wpOpsIn, ho, hw]
    cases g with
    | false =>
      rw [sel_false] at h
      refine ⟨fun _ _ => trivial, ?_⟩
      exact panOps_wp hK hc hy hp hok rest (k + 1) hd' _ s v fr' s' ρ _ w h hh (hf.skip hdst) hq
    | true =>
      rw [sel_true] at h
      show o.wpIn (Fro none) m P a w (wpOpsIn (Fro none) m P ops Q (List.range' (k + 1) rest.length)) Q
      cases ht : panTry C call yield n fr s o.op with
      | none =>
        rw [ht] at h
        obtain ⟨⟨v2, s2⟩, hpo, h⟩ := obind_some.1 h
        cases h
        exact panOp_wp hK hp hh hf hopn hpo fun ρ' w' c hg hv => hq ρ' w' a c hg (hf.goes hg) hv
      | some q =>
        rw [ht] at h
        obtain ⟨v2, s2, df⟩ := q
        have h : panOps C call yield pcall n ops.toList rest ((fr.more df).put n o.dst v2) s2 = some (v, fr', s') := h
        unfold panTry at ht
        obtain ⟨r, hr, ha⟩ := obind_some.1 ht
        have he := evR_restr (ρ := ρ) (n := n) (fr := fr) (a := a) hopn (fun t v _ ht => hf.tmps t v ht)
        rw [← execOp_restr] at hr
        refine op_wp hK hc hy (ro := none) hh he hr ha ?_
        intro ρ' w' c ds hgo hv hn
        refine panOps_wp hK hc hy hp hok rest (k + 1) hd' _ s2 v fr' s' ρ' _ w' h hgo.hr ((hf.goes hgo).put hdst hv hn) ?_
        intro ρ'' w'' a'' c'' hgo2 hf2 hv2
        exact hq ρ'' w'' a'' c'' (hgo.trans hgo2) hf2 hv2

/-! ### a region whose last operation waits for all others -/
def lastQ (F : Fence) (m : Nat) (P : Program) (o : Oper) (Q : Exit → Act → World → Prop) : Exit → Act → World → Prop
  | .normal, a, w => ∀ K, o.wpIn F m P a w K Q
  | e, a, w => Q e a w

theorem wpIn_lastQ {F : Fence} {m : Nat} {o o' : Oper} {Q : Exit → Act → World → Prop} {a : Act} {w : World} {K : Act → World → Prop} (hh : o'.wpIn F m P a w K (lastQ F m P o Q)) : o'.wpIn F m P a w K Q := by
  unfold Oper.wpIn at *
  refine ⟨hh.1, ?_⟩
  have hh := hh.2
  generalize (o'.semAt F.round a.eval).run P w = r at *
  cases r with
  | ok x w' =>
    cases x <;> simp only [Oper.uponIn] at hh ⊢ <;>
      first
        | exact hh
        | exact ⟨hh.1, CallsIn.mono hh.2 (fun e w'' he => by cases e <;> exact he)⟩
        | exact ⟨hh.1, RoundIn.mono hh.2 (fun e w'' he => by cases e <;> exact he)⟩
  | halt x w' => cases x <;> simp only [Oper.uponIn] at hh ⊢ <;> exact hh

theorem wpOpIn_push {F : Fence} {m : Nat} {pre : Array Oper} {o : Oper} {Q : Exit → Act → World → Prop} (hlg : ∀ o' ∈ pre.toList, lowGuard pre.size o'.guard = true) {i : Nat} (hi : i < pre.size) {K : Act → World → Prop} {a : Act} {w : World}
    (h : wpOpIn F m P pre (lastQ F m P o Q) i K a w) : wpOpIn F m P (pre.push o) Q i K a w := by
  unfold wpOpIn at *
  have e : (pre.push o)[i]? = pre[i]? := by rw [Array.getElem?_push]; simp; omega
  rw [e]
  have hg : pre[i]? = some pre[i] := Array.getElem?_eq_getElem hi
  simp only [hg] at h ⊢
  have hlow := hlg pre[i] (by simp)
  have hw : Region.wanted pre[i] (yielded (pre.push o) a.tmps) = Region.wanted pre[i] (yielded pre a.tmps) := by
    unfold Region.wanted
    cases hgd : pre[i].guard with
    | none => rfl
    | some q =>
      rw [hgd] at hlow
      have hlt : q.1 < pre.size := ltN_some hlow
      have : (pre.push o)[q.1]? = pre[q.1]? := by rw [Array.getElem?_push]; simp; omega
      simp only [yielded, this]
  rw [hw]
  split
  · rename_i hh
    rw [if_pos hh] at h
    exact wpIn_lastQ h
  · rename_i hh
    rw [if_neg hh] at h
    exact h

theorem wpAny_last {F : Fence} {m : Nat} {pre : Array Oper} {o : Oper} {Q : Exit → Act → World → Prop} (hs : Region.sinkB .any (pre.push o) pre.size = true) (hg : o.guard = none)
    (hlg : ∀ o' ∈ pre.toList, lowGuard pre.size o'.guard = true) (hlow : ∀ i o', (pre.push o)[i]? = some o' → ∀ e ∈ o'.after, Region.binds .any e = true → e.on < i) :
    ∀ (f : Nat) (listed : Array Bool) (a : Act) (w : World), listed.size = pre.size →
      (∀ j oj, pre[j]? = some oj → listed.getD j false = true → ∀ e ∈ oj.after, Region.binds .any e = true → listed.getD e.on false = true) →
      wpAnyIn F m P .any pre (lastQ F m P o Q) f listed a w → wpAnyIn F m P .any (pre.push o) Q (f + 1) (listed.push false) a w := by
  have hop : ∀ i, i < pre.size → (pre.push o)[i]? = pre[i]? := fun i hi => by rw [Array.getElem?_push]; simp; omega
  have hopM : (pre.push o)[pre.size]? = some o := by simp
  have hin : ∀ (listed : Array Bool) (d : Bool) (i : Nat), listed.size = pre.size → i < pre.size → (listed.push false).getD i d = listed.getD i d := by
    intro listed d i hsz hi
    rw [Array.getD_eq_getD_getElem?, Array.getD_eq_getD_getElem?, Array.getElem?_push]
    rw [if_neg (by omega)]
  have hM : ∀ (listed : Array Bool) (d : Bool), listed.size = pre.size → (listed.push false).getD pre.size d = false := by
    intro listed d hsz
    rw [Array.getD_eq_getD_getElem?, ← hsz]
    simp
  -- what is ready of the first ones
  have hrel : ∀ (listed : Array Bool) (i : Nat), listed.size = pre.size → i < pre.size → (i ∈ Region.ready .any (pre.push o) (listed.push false) ↔ i ∈ Region.ready .any pre listed) := by
    intro listed i hsz hi
    rw [mem_ready, mem_ready, hin listed true i hsz hi, hop i hi]
    constructor
    · rintro ⟨h1, o', h2, h3⟩
      refine ⟨h1, o', h2, fun e he hb => ?_⟩
      have := h3 e he hb
      rwa [hin listed false _ hsz (Nat.lt_trans (hlow i o' (by rw [hop i hi]; exact h2) e he hb) hi)] at this
    · rintro ⟨h1, o', h2, h3⟩
      refine ⟨h1, o', h2, fun e he hb => ?_⟩
      rw [hin listed false _ hsz (Nat.lt_trans (hlow i o' (by rw [hop i hi]; exact h2) e he hb) hi)]
      exact h3 e he hb
  have hbound : ∀ (listed : Array Bool) (i : Nat), i ∈ Region.ready .any (pre.push o) (listed.push false) → i < pre.size ∨ i = pre.size := by
    intro listed i hi
    obtain ⟨_, o', h2, _⟩ := mem_ready.1 hi
    have := (Array.getElem?_eq_some_iff.1 h2).1
    simp at this
    omega
  -- if none is ready, all are listed
  have hall : ∀ (listed : Array Bool), listed.size = pre.size → Region.ready .any pre listed = [] → ∀ j, j < pre.size → listed.getD j false = true := by
    intro listed hsz hnil j
    induction j using Nat.strongRecOn with
    | _ j ih =>
      intro hj
      apply Classical.byContradiction
      intro hno
      have hmem : j ∈ Region.ready .any pre listed := by
        refine mem_ready.2 ⟨?_, pre[j], Array.getElem?_eq_getElem hj, fun e he hb => ?_⟩
        · rw [Array.getD_eq_getD_getElem?] at hno ⊢
          have hx : listed[j]? = some listed[j] := Array.getElem?_eq_getElem (by omega)
          rw [hx] at hno ⊢
          simpa using hno
        · have := hlow j pre[j] (by rw [hop j hj]; exact Array.getElem?_eq_getElem hj) e he hb
          exact ih e.on this (by omega)
      rw [hnil] at hmem
      cases hmem
  have hlastReady : ∀ (listed : Array Bool), listed.size = pre.size → Region.ready .any pre listed = [] → pre.size ∈ Region.ready .any (pre.push o) (listed.push false) := by
    intro listed hsz hnil
    refine mem_ready.2 ⟨hM listed true hsz, o, hopM, fun e he hb => ?_⟩
    have hlt := hlow _ o hopM e he hb
    rw [hin listed false _ hsz hlt]
    exact hall listed hsz hnil _ hlt
  -- the last one is ready behind all others alone
  have hlastOnly : ∀ (listed : Array Bool), listed.size = pre.size → (∀ j oj, pre[j]? = some oj → listed.getD j false = true → ∀ e ∈ oj.after, Region.binds .any e = true → listed.getD e.on false = true) →
      pre.size ∈ Region.ready .any (pre.push o) (listed.push false) → ∀ i, i < pre.size → listed.getD i true = true := by
    intro listed hsz hcl hr i hi
    apply Classical.byContradiction
    intro hno
    have hch : Region.chainB .any (pre.push o) pre.size = true := by
      unfold Region.chainB
      rw [List.all_eq_true]
      intro t ht
      have := List.mem_range.1 ht
      simp at this
      simp only [Bool.or_eq_true, decide_eq_true_eq]
      exact .inl (by omega)
    have inv : HeadInv .any (pre.push o) pre.size (listed.push false) := by
      refine ⟨by simp [hsz], fun j oj hj hl e he hb => ?_, fun t h1 h2 => ?_⟩
      · have hjl : j < pre.size := by
          have := (Array.getElem?_eq_some_iff.1 hj).1
          simp at this
          rcases Nat.lt_or_ge j pre.size with h | h
          · exact h
          · have : j = pre.size := by omega
            subst this
            rw [hM listed false hsz] at hl
            cases hl
        have hlt := hlow j oj hj e he hb
        rw [hin listed false j hsz hjl] at hl
        rw [hop j hjl] at hj
        rw [hin listed false _ hsz (by omega)]
        exact hcl j oj hj hl e he hb
      · simp at h2
        have : t = pre.size := by omega
        subst this
        exact hM listed true hsz
    exact tail_waits hs hch (by simp) inv _ i rfl hi (by rw [hin listed true i hsz hi]; simpa using hno) _ (Nat.le_refl _) hr
  have step : ∀ (f : Nat) (listed : Array Bool) (a : Act) (w : World), listed.size = pre.size → Region.ready .any pre listed = [] → (∀ K, o.wpIn F m P a w K Q) → wpAnyIn F m P .any (pre.push o) Q (f + 1) (listed.push false) a w := by
    intro f listed a w hsz hnil hN
    refine ⟨fun h0 => ?_, fun i hi => ?_⟩
    · have := hlastReady listed hsz hnil
      rw [h0] at this
      cases this
    · rcases hbound listed i hi with hlt | rfl
      · have := (hrel listed i hsz hlt).1 hi
        rw [hnil] at this
        cases this
      · unfold wpOpIn
        simp only [hopM]
        rw [if_pos (by unfold Region.wanted; rw [hg])]
        exact hN _
  intro f
  induction f with
  | zero =>
    intro listed a w hsz _ h
    exact step 0 listed a w hsz h.1 h.2
  | succ f ih =>
    intro listed a w hsz hcl h
    by_cases hnil : Region.ready .any pre listed = []
    · exact step (f + 1) listed a w hsz hnil (h.1 hnil)
    · obtain ⟨i0, hi0⟩ := List.exists_mem_of_ne_nil _ hnil
      have hi0l : i0 < pre.size := by
        obtain ⟨_, o', h2, _⟩ := mem_ready.1 hi0
        exact (Array.getElem?_eq_some_iff.1 h2).1
      refine ⟨fun h0 => ?_, fun i hi => ?_⟩
      · have := (hrel listed i0 hsz hi0l).2 hi0
        rw [h0] at this
        cases this
      · rcases hbound listed i hi with hlt | rfl
        · have hi' := (hrel listed i hsz hlt).1 hi
          have h1 := wpOpIn_push hlg hlt (h.2 i hi')
          refine wpOpIn_mono (fun a' w' h2 => ?_) h1
          have harr : (listed.push false).setIfInBounds i true = (listed.setIfInBounds i true).push false := by
            refine Array.ext_getElem? fun k => ?_
            rw [Array.getElem?_setIfInBounds, Array.getElem?_push, Array.getElem?_push, Array.getElem?_setIfInBounds, Array.size_setIfInBounds, Array.size_push]
            by_cases hik : i = k
            · subst hik
              rw [if_pos rfl, if_pos (by omega), if_neg (by omega), if_pos rfl, if_pos (by omega)]
            · rw [if_neg hik, if_neg hik]
          rw [harr]
          clear harr
          refine ih _ a' w' (by simpa using hsz) ?_ h2
          intro j oj hj hl e he hb
          obtain ⟨_, o', g2, g3⟩ := mem_ready.1 hi'
          have hset : ∀ k, (listed.setIfInBounds i true).getD k false = true ↔ (listed.getD k false = true ∨ k = i) := by
            intro k
            rw [Array.getD_eq_getD_getElem?, Array.getD_eq_getD_getElem?, Array.getElem?_setIfInBounds]
            by_cases e : i = k
            · subst e
              rw [if_pos rfl, if_pos (by omega)]
              simp
            · rw [if_neg e]
              constructor
              · exact fun h => .inl h
              · rintro (h | h)
                · exact h
                · exact absurd h.symm e
          rw [hset] at hl ⊢
          rcases hl with hl | rfl
          · exact .inl (hcl j oj hj hl e he hb)
          · have : oj = o' := Option.some.inj (hj.symm.trans g2)
            subst this
            exact .inl (g3 e he hb)
        · have := hlastOnly listed hsz hcl hi i0 hi0l
          have h2 := (mem_ready.1 hi0).1
          rw [this] at h2
          cases h2

theorem splitLast_some : ∀ {l pre : List Oper} {o : Oper}, splitLast l = some (pre, o) → l = pre ++ [o]
  | [], pre, o, h => by cases h
  | a :: l, pre, o, h => by
    change (Option.casesOn (splitLast l) (some ([], a)) fun q => some (a :: q.1, q.2)) = some (pre, o) at h
    cases hl : splitLast l with
    | none =>
      rw [hl] at h
      cases l with
      | nil => cases h; rfl
      | cons b l =>
        exfalso
        change (Option.casesOn (splitLast l) (some ([], b)) fun q => some (b :: q.1, q.2)) = none at hl
        cases h2 : splitLast l <;> rw [h2] at hl <;> cases hl
    | some q =>
      rw [hl] at h
      obtain ⟨pre', o'⟩ := q
      cases h
      rw [splitLast_some hl]
      rfl

theorem lowAll_at : ∀ {l : List Oper} {k : Nat}, lowAll l k = true → ∀ (i : Nat) (o : Oper), l[i]? = some o → ∀ e ∈ o.after, Region.binds .any e = true → e.on < k + i
  | [], k, _, i, o, h => by simp at h
  | a :: l, k, hl, i, o, h => by
    change sel (lowE k a.after.toList) (lowAll l (k + 1)) false = true at hl
    obtain ⟨h1, h2⟩ := sel_and hl
    cases i with
    | zero =>
      have : a = o := by simpa using h
      subst this
      intro e he hb
      have := List.all_eq_true.1 h1 e (by simpa using he)
      rw [hb] at this
      simp only [Bool.not_true, Bool.false_or] at this
      exact ltN_some this
    | succ i =>
      intro e he hb
      have := lowAll_at h2 i o (by simpa using h) e he hb
      omega

theorem lowGuards_mem {n : Nat} : ∀ {l : List Oper}, lowGuards n l = true → ∀ o ∈ l, lowGuard n o.guard = true
  | [], _, o, ho => by cases ho
  | a :: l, h, o, ho => by
    change sel (lowGuard n a.guard) (lowGuards n l) false = true at h
    obtain ⟨h1, h2⟩ := sel_and h
    rcases List.mem_cons.1 ho with rfl | ho
    · exact h1
    · exact lowGuards_mem h2 o ho

theorem okOpers_of {nt : Nat} : ∀ {l : List Oper}, (∀ o ∈ l, okOper nt o = true) → okOpers nt l = true
  | [], _ => rfl
  | a :: l, h => by
    show sel (okOper nt a) (okOpers nt l) false = true
    rw [h a (by simp)]
    exact okOpers_of fun o ho => h o (by simp [ho])

theorem panDraw_wp (hK : CfgOk C P) {call : CallT} {yield : YieldT} {pcall : CallT} (hc : CallOk P call) (hy : YieldOk P yield) (hQ : QuietOk C call) (hp : PanOk P pcall) (hmix : P.follows .mixedOrders = true)
    {mk : Option Nat} {m n nt : Nat} {ops : Array Oper} {id : Nat} {order : List Nat} {Q : Exit → Act → World → Prop} (hok : okOpers nt ops.toList = true) {fr fr' : Fr} {s s' : St} {v : Value} {ρ : Ren} {a : Act} {w : World}
    (h : panDraw C call yield pcall n ops.toList order fr s = some (v, fr', s')) (hr : HR P B ρ s w) (hf : FrR mk n nt ρ s w fr a)
    (hq : ∀ ρ' w' a' c, Goes P B ρ s w ρ' s' w' → FrR mk n nt ρ' s' w' fr' a' → VR ρ' v c → Q (.panic [{ v := c, recovered := false }]) a' w') : (Code.region id ops true).wpIn (Fro none) m P Q a w := by
  unfold panDraw at h
  obtain ⟨⟨pre, o⟩, hsp, h⟩ := obind_some.1 h
  obtain ⟨hg, h⟩ := guard_some.1 h
  obtain ⟨⟨fr1, s1⟩, hex, h⟩ := obind_some.1 h
  obtain ⟨⟨v1, s2⟩, hpo, h⟩ := obind_some.1 h
  obtain ⟨rfl, rfl, rfl⟩ : v1 = v ∧ fr1 = fr' ∧ s2 = s' := by cases h; exact ⟨rfl, rfl, rfl⟩
  simp only [Bool.and_eq_true] at hg
  obtain ⟨hs, hgd, hlg, hlow⟩ := hg
  have hl := splitLast_some hsp
  have hops : ops = pre.toArray.push o := by
    apply Array.ext'
    rw [hl]
    simp
  have hlen : lenL pre = pre.toArray.size := by rw [lenL_eq]; simp
  rw [hl] at hlow hs
  have hlow' := lowAll_at hlow
  have hokp : okOpers nt pre.toArray.toList = true := okOpers_of fun x hx => okOpers_mem hok x (by rw [hl]; simpa using .inl hx)
  obtain ⟨hdst, hopn⟩ := okOper_some (okOpers_mem hok o (by rw [hl]; simp))
  subst hops
  refine wpIn_region_any hmix ?_
  have e1 : (pre.toArray.push o).size = pre.toArray.size + 1 := by simp
  have e2 : Array.replicate (pre.toArray.size + 1) false = (Array.replicate pre.toArray.size false).push false := by
    apply Array.ext'
    simp [List.replicate_succ']
  rw [e1, e2]
  refine wpAny_last ?_ ?_ ?_ ?_ _ _ _ _ (by simp) ?_ ?_
  · rw [← hlen]
    have e3 : (pre ++ [o]).toArray = pre.toArray.push o := by simp
    rw [← e3]
    exact hs
  · cases hgd0 : o.guard with
    | none => rfl
    | some q => rw [hgd0] at hgd; cases hgd
  · intro o' ho'
    rw [← hlen]
    exact lowGuards_mem hlg o' (by simpa using ho')
  · intro i o' ho' e he hb
    have := hlow' i o' (by
      have e3 : (pre ++ [o]).toArray = pre.toArray.push o := by simp
      rw [← e3] at ho'
      simpa using ho') e he hb
    omega
  · intro j oj _ hl0
    rw [Array.getD_eq_getD_getElem?, Array.getElem?_replicate] at hl0
    split at hl0 <;> simp at hl0
  · refine draw_any hK hc hy hQ (ro := none) hokp (order := order) (fr := fr) (fr' := fr1) (s := s) (s' := s1) (by simpa using hex) hr hf ?_
    intro ρ' w' a' hg' hf' K
    exact panOp_wp hK hp hg'.hr hf' hopn hpo fun ρ2 w2 c hg2 hv => hq ρ2 w2 a' c (hg'.trans hg2) (hf'.goes hg2) hv
end
end
end Go.Ax

