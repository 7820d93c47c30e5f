import Derived.Test.YtifhpiilobkjiaaGreatDoorDb
import Derived.Laws.Append
import Derived.Laws.IdiomStrings
import Derived.Laws.BytesString
import Derived.Lib.Builder
import Derived.Lib.UnsafeStr
import Derived.Calls
namespace Go.Ax
open Go

section
variable {P : Program} {base : Nat} {ρ : Ren} {s s' : St} {w w' : World}

/-- A slice of a slice: what the executor gives is what the model gives. -/
theorem cutOpen_sound (hH : HR P base ρ s w) {b o cap l h m n M : Nat} {e : TypeId} {L : Loc} {v : Value} (hL : ρ.at b = some L) (hcap : halfCap ≤ cap) (hn : size P e = some n)
    (hlh : l ≤ h) (hhm : h ≤ m) (hmc : m ≤ cap) (hM : (m < halfCap ∧ M = m) ∨ (m = cap ∧ M = capOf L cap)) (hr : cutOpen s ⟨b, o, none⟩ e cap l h m n = some (v, s')) :
    h ≤ M ∧ M ≤ capOf L cap ∧ ∃ ρ', Goes P base ρ s w ρ' s' w ∧
      VR ρ' v (.slice (some (if M = l then ⟨L.blk, L.off + o, none⟩ else ⟨L.blk, L.off + o + l * n, none⟩)) (h - l) (M - l)) := by
  unfold cutOpen at hr
  obtain ⟨⟨cs, e', f⟩, hc, hr2⟩ := obind_some.1 hr
  clear hr
  obtain ⟨hg, hr⟩ := guard_some.1 hr2
  clear hr2
  simp only [Bool.and_eq_true, Bool.not_eq_true', Bool.or_eq_true] at hg
  obtain ⟨⟨⟨⟨⟨⟨g1, g2⟩, g3⟩, g4⟩, g5⟩, g6⟩, g7⟩ := hg
  have g1 := Nat.eq_of_beq_eq_true g1
  subst g1
  have g2 : o = (bigCap - cap) * n := Nat.eq_of_beq_eq_true g2
  have g3 := Nat.le_of_ble_eq_true g3
  have g4 : f ≠ 0 := by rintro rfl; simp at g4
  have g5 := Nat.le_of_ble_eq_true g5
  have g7 := Nat.le_of_ble_eq_true g7
  rw [lenL_eq] at g7
  change o + (sel (Nat.ble halfCap m) h m) * n ≤ cs.length at g7
  rw [capOf_open hcap] at hM ⊢
  have hd : ∀ k, o + k * n ≤ cs.length → (bigCap - cap) + k ≤ L.cap := fun k hk => open_cap hH hL hc g4 hn g2 hk (by omega)
  obtain ⟨q, hq⟩ := hH.rows b cs e' f hc
  have hql : q = L := by have := hq.at_; rw [hL] at this; exact (Option.some.inj this).symm
  subst hql
  obtain ⟨_, a, fz, ha, hvals, hfz, h0, h1⟩ := hq
  obtain ⟨n', hn', _, hsz, hlen⟩ := h1 g4
  rw [hn] at hn'
  cases hn'
  -- the bounds
  have hb : h ≤ M ∧ M ≤ q.cap - (bigCap - cap) := by
    rcases hM with ⟨hm, rfl⟩ | ⟨rfl, rfl⟩
    · have : Nat.ble halfCap M = false := by
        rw [← Bool.not_eq_true]; intro hb; have := Nat.le_of_ble_eq_true hb; omega
      rw [this, sel_false] at g7
      have := hd M g7
      exact ⟨hhm, by omega⟩
    · rw [Nat.ble_eq_true_of_le hcap, sel_true] at g7
      have := hd h g7
      exact ⟨by omega, Nat.le_refl _⟩
  refine ⟨hb.1, hb.2, ?_⟩
  rw [sel_eq] at hr
  split at hr
  · rename_i hcond
    cases hr
    refine ⟨ρ, Goes.refl hH, ?_⟩
    rcases hM with ⟨hm, rfl⟩ | ⟨rfl, rfl⟩
    · -- a known capacity
      have hk : M - l < halfCap := by omega
      rw [sel_eq]
      by_cases hml : M = l
      · subst hml
        rw [if_pos (Nat.beq_refl _), if_pos rfl]
        have := VR.slice (ρ := ρ) (b := b) (o := o) (n := h - M) (c := M - M) hL
        rw [capOf_known hk] at this
        exact this
      · rw [if_neg (fun hh => hml (Nat.eq_of_beq_eq_true hh)), if_neg hml]
        have := VR.slice (ρ := ρ) (b := b) (o := o + l * n) (n := h - l) (c := M - l) hL
        rw [capOf_known hk, ← Nat.add_assoc] at this
        exact this
    · have hge : halfCap ≤ m - l := by
        rcases g6 with g6 | g6
        · have := ltN_some g6; omega
        · exact Nat.le_of_ble_eq_true g6
      have hml : m ≠ l := by unfold halfCap at hge; omega
      rw [sel_eq, if_neg (fun hh => hml (Nat.eq_of_beq_eq_true hh))]
      have hcp : capOf q (Nat.sub m l) = q.cap - (bigCap - m) - l := by
        rw [capOf_open (by exact hge)]
        show q.cap - (bigCap - (m - l)) = _
        omega
      have key := VR.slice (ρ := ρ) (b := b) (o := o + l * n) (n := h - l) (c := Nat.sub m l) hL
      rw [hcp, ← Nat.add_assoc] at key
      by_cases hMl : q.cap - (bigCap - m) = l
      · rw [if_pos hMl]
        have hl0 : l = 0 := by
          simp only [Bool.or_eq_true] at hcond
          rcases hcond with ((hc1 | hc1) | hc1) | hc1
          · have := ltN_some hc1; omega
          · have := ltN_some hc1; omega
          · have hc1 := ltN_some hc1
            rw [lenL_eq] at hc1
            change o + l * n < cs.length at hc1
            have := hd (l) (by omega)
            have hlt : ((bigCap - m) + l) * n < q.cap * n := by rw [Nat.add_mul]; omega
            have := Nat.lt_of_mul_lt_mul_right hlt
            omega
          · exact Nat.eq_of_beq_eq_true hc1
        subst hl0
        simpa using key
      · rw [if_neg hMl]
        exact key
  · rename_i hcond
    simp only [Bool.or_eq_true, not_or] at hcond
    obtain ⟨⟨⟨hc1, hc2⟩, hc3⟩, hc4⟩ := hcond
    have hlh2 : h - l = 0 := by
      have : ¬ (l < h) := fun hh => hc2 (Nat.ble_eq_true_of_le hh)
      omega
    cases hr
    refine ⟨ρ, Goes.refl hH, ?_⟩
    rw [hlh2]
    exact .dead _ _
end
end Go.Ax

namespace Go.Ax
open Go

section
variable {P : Program} {base : Nat} {ρ : Ren} {s s' : St} {w w' : World} {ev : Ev} {η : Operand → Value}

theorem cutKnown_vr {b o l h m n : Nat} {L : Loc} {v : Value} (hL : ρ.at b = some L) (hm : m < halfCap) (hr : cutKnown ⟨b, o, none⟩ l h m n s = some (v, s')) :
    s' = s ∧ VR ρ v (.slice (some (if m = l then ⟨L.blk, L.off + o, none⟩ else ⟨L.blk, L.off + o + l * n, none⟩)) (h - l) (m - l)) := by
  cases hr
  refine ⟨rfl, ?_⟩
  have hk : m - l < halfCap := by omega
  rw [sel_eq]
  by_cases hml : m = l
  · subst hml
    rw [if_pos (Nat.beq_refl _), if_pos rfl]
    have := VR.slice (ρ := ρ) (b := b) (o := o) (n := h - m) (c := m - m) hL
    rw [capOf_known hk] at this
    exact this
  · rw [if_neg (fun hh => hml (Nat.eq_of_beq_eq_true hh)), if_neg hml]
    have := VR.slice (ρ := ρ) (b := b) (o := o + l * n) (n := h - l) (c := m - l) hL
    rw [capOf_known hk, ← Nat.add_assoc] at this
    exact this

theorem addr_ite (M l n o c : Nat) : (if M = l then (⟨c, o, none⟩ : Addr) else ⟨c, o + l * n, none⟩) = (if M = l then ⟨c, o, none⟩ else (⟨c, o, none⟩ : Addr).add (l * n)) := by
  rw [add_eq]

theorem isNone_of {α : Type} {x : Option α} (h : x.isNone = true) : x = none := by cases x <;> first | rfl | cases h

/-- A slice of length 0 cut from one of which nothing is asked. -/
theorem deadCut_sound (hH : HR P base ρ s w) {t e : TypeId} {n : Nat} (hu : P.underlying t = some (.slice e)) (hn : size P e = some n) {A : Addr} {len K l h m : Nat} {lo hi mx lo' hi' mx' : Option Value} {v : Value}
    (hlo : OptR ρ lo lo') (hhi : OptR ρ hi hi') (hmx : OptR ρ mx mx') (h1 : bound lo 0 = some l) (h2 : bound hi len = some h) (h3 : bound mx bigCap = some m)
    (hg : mx.isNone = true ∨ hi.isSome = true ∧ ltN m halfCap = true) (hhi' : mx.isSome = true → hi.isSome = true) (g1 : l ≤ h)
    (hr : guard (Nat.beq h 0 && Nat.beq bigCap bigCap && (Nat.beq m 0 || Nat.beq m bigCap)) (some (deadV, s)) = some (v, s')) :
    ∃ ρ' c', (Instr.sliceAt t (.slice (some A) len K) lo' hi' mx').run P w = .ok c' w ∧ Goes P base ρ s w ρ' s' w ∧ VR ρ' v c' := by
  obtain ⟨hq, hr⟩ := guard_some.1 hr
  cases hr
  simp only [Bool.and_eq_true, Bool.or_eq_true] at hq
  have h0 : h = 0 := Nat.eq_of_beq_eq_true hq.1.1
  subst h0
  have l0 : l = 0 := by omega
  subst l0
  have hMex : ∃ M, (mx.isSome = true → M = m) ∧ (mx = none → M = K) ∧ M ≤ K := by
    cases mx with
    | none => exact ⟨K, fun hs => (by cases hs), fun _ => rfl, Nat.le_refl _⟩
    | some q =>
      refine ⟨m, fun _ => rfl, fun hs => (by cases hs), ?_⟩
      rcases hg with hg | hg
      · cases hg
      · have hlt := ltN_some hg.2
        rcases hq.2 with hm | hm
        · have := Nat.eq_of_beq_eq_true hm; omega
        · have := Nat.eq_of_beq_eq_true hm
          unfold halfCap at hlt
          unfold bigCap at this
          omega
  obtain ⟨M, hM1, hM2, hM3⟩ := hMex
  have hb := run_sliceBounds (P := P) (w := w) hlo hhi hmx (isSlice := true) (len := len) (capM := K) (M := M) h1 h2 h3 (fun hs => ⟨hM1 hs, hhi' hs⟩) hM2 g1 (Nat.zero_le _) hM3
  refine ⟨ρ, .slice (if M = 0 then some A else some (A.add (0 * n))) 0 M, ?_, Goes.refl hH, ?_⟩
  · simp only [Instr.sliceAt, Instr.slice, run_underlying hu, Sem.run_bind, Result.andThen_ok, hb, run_sizeOf hn, Sem.run_pure]
    by_cases hMl : M = 0 <;> simp [hMl]
  · split <;> exact .dead _ _

/-- A slice cut from a slice. -/
theorem sliceSlice_sound (hH : HR P base ρ s w) {t : TypeId} {a : Option Addr} {len cap : Nat} {lo hi mx lo' hi' mx' : Option Value} {v c : Value} (hx : VR ρ (.slice a len cap) c)
    (hlo : OptR ρ lo lo') (hhi : OptR ρ hi hi') (hmx : OptR ρ mx mx') (hr : sliceSlice P s t a len cap lo hi mx = some (v, s')) :
    ∃ ρ' c', (Instr.sliceAt t c lo' hi' mx').run P w = .ok c' w ∧ Goes P base ρ s w ρ' s' w ∧ VR ρ' v c' := by
  unfold sliceSlice at hr
  split at hr
  · rename_i e hu
    obtain ⟨n, hn, hr1⟩ := obind_some.1 hr
    obtain ⟨l, h, m, h1, h2, h3, hr2⟩ := bounds_some hr1
    obtain ⟨hg, hr3⟩ := guard_some.1 hr2
    unfold cutSlice at hr3
    obtain ⟨hg2, hr4⟩ := guard_some.1 hr3
    clear hr hr1 hr2 hr3
    have hr := hr4
    clear hr4
    simp only [Bool.and_eq_true] at hg2
    obtain ⟨⟨g1, g2⟩, g3⟩ := hg2
    have g1 := Nat.le_of_ble_eq_true g1
    have g2 := Nat.le_of_ble_eq_true g2
    have g3 := Nat.le_of_ble_eq_true g3
    simp only [Bool.or_eq_true, Bool.and_eq_true] at hg
    have hhi' : mx.isSome = true → hi.isSome = true := fun hs => by
      rcases hg with hg | hg
      · rw [isNone_of hg] at hs; cases hs
      · exact hg.1
    cases hx with
    | sliceNil =>
      cases hr
      have hb := run_sliceBounds (P := P) (w := w) hlo hhi hmx (isSlice := true) (len := len) (capM := cap) (M := m) h1 h2 h3 (fun hs => ⟨rfl, hhi' hs⟩) (fun hs => by subst hs; cases h3; rfl) g1 g2 g3
      refine ⟨ρ, _, ?_, Goes.refl hH, .sliceNil _ _⟩
      simp [Instr.sliceAt, Instr.slice, run_underlying hu, hb, run_sizeOf hn]
    | dead A K =>
      change sel (Nat.beq deadId deadId) (guard (Nat.beq h 0 && Nat.beq bigCap bigCap && (Nat.beq m 0 || Nat.beq m bigCap)) (some (deadV, s))) _ = some (v, s') at hr
      rw [Nat.beq_refl, sel_true] at hr
      exact deadCut_sound hH hu hn (A := A) (K := K) hlo hhi hmx h1 h2 h3 hg hhi' g1 hr
    | @slice b o _ _ L hL =>
      change sel (Nat.beq b deadId) (guard (Nat.beq h 0 && Nat.beq cap bigCap && (Nat.beq m 0 || Nat.beq m bigCap)) (some (deadV, s))) (sel (Nat.ble halfCap cap) (cutOpen s ⟨b, o, none⟩ e cap l h m n) (cutKnown ⟨b, o, none⟩ l h m n s)) = some (v, s') at hr
      rw [sel_eq] at hr
      split at hr
      · have hcb : cap = bigCap := by
          obtain ⟨hq, _⟩ := guard_some.1 hr
          simp only [Bool.and_eq_true] at hq
          exact Nat.eq_of_beq_eq_true hq.1.2
        subst hcb
        exact deadCut_sound hH hu hn hlo hhi hmx h1 h2 h3 hg hhi' g1 hr
      rw [sel_eq] at hr
      split at hr
      · rename_i hcap
        have hcap := Nat.le_of_ble_eq_true hcap
        have hMex : ∃ M, ((m < halfCap ∧ M = m) ∨ (m = cap ∧ M = capOf L cap)) ∧ (mx.isSome = true → M = m) ∧ (mx = none → M = capOf L cap) := by
          cases mx with
          | none => cases h3; exact ⟨_, .inr ⟨rfl, rfl⟩, fun hs => (by cases hs), fun _ => rfl⟩
          | some q =>
            rcases hg with hg | hg
            · cases hg
            · exact ⟨m, .inl ⟨ltN_some hg.2, rfl⟩, fun _ => rfl, fun hs => by cases hs⟩
        obtain ⟨M, hM, hM1, hM2⟩ := hMex
        obtain ⟨b1, b2, ρ', hgo, hv⟩ := cutOpen_sound hH hL hcap hn g1 g2 g3 hM hr
        have hb := run_sliceBounds (P := P) (w := w) hlo hhi hmx (isSlice := true) (len := len) (capM := capOf L cap) (M := M) h1 h2 h3 (fun hs => ⟨hM1 hs, hhi' hs⟩) hM2 g1 b1 b2
        rw [addr_ite] at hv
        refine ⟨ρ', _, ?_, hgo, hv⟩
        simp only [Instr.sliceAt, Instr.slice, run_underlying hu, Sem.run_bind, Result.andThen_ok, hb, run_sizeOf hn, Sem.run_pure]
        by_cases hMl : M = l <;> simp [hMl]
      · rename_i hcap
        have hcap : cap < halfCap := by
          have : ¬ (halfCap ≤ cap) := fun hh => hcap (Nat.ble_eq_true_of_le hh)
          omega
        obtain ⟨rfl, hv⟩ := cutKnown_vr hL (by omega) hr
        rw [capOf_known hcap]
        have hb := run_sliceBounds (P := P) (w := w) hlo hhi hmx (isSlice := true) (len := len) (capM := cap) (M := m) h1 h2 h3 (fun hs => ⟨rfl, hhi' hs⟩) (fun hs => by subst hs; cases h3; rfl) g1 g2 g3
        rw [addr_ite] at hv
        refine ⟨ρ, _, ?_, Goes.refl hH, hv⟩
        simp only [Instr.sliceAt, Instr.slice, run_underlying hu, Sem.run_bind, Result.andThen_ok, hb, run_sizeOf hn, Sem.run_pure]
        by_cases hMl : m = l <;> simp [hMl]
  · cases hr

/-- A slice cut from an array's variable. -/
theorem sliceArr_sound {k : Nat} {e : TypeId} {b o : Nat} {L : Loc} (hL : ρ.at b = some L) {lo hi mx lo' hi' mx' : Option Value} {v : Value}
    (hlo : OptR ρ lo lo') (hhi : OptR ρ hi hi') (hmx : OptR ρ mx mx') (hr : sliceArr P k e s ⟨b, o, none⟩ lo hi mx = some (v, s')) :
    s' = s ∧ ∃ l h m n c, (Instr.sliceBounds false k k lo' hi' mx').run P w = .ok (l, h, m) w ∧ (Go.sizeOf e).run P w = .ok n w ∧ VR ρ v c ∧
      c = .slice (some (if m = l then ⟨L.blk, L.off + o, none⟩ else (⟨L.blk, L.off + o, none⟩ : Addr).add (l * n))) (h - l) (m - l) := by
  unfold sliceArr at hr
  obtain ⟨n, hn, hr⟩ := obind_some.1 hr
  obtain ⟨l, h, m, h1, h2, h3, hr⟩ := bounds_some hr
  obtain ⟨hg, hr⟩ := guard_some.1 hr
  unfold cutSlice at hr
  obtain ⟨hg2, hr⟩ := guard_some.1 hr
  simp only [Bool.and_eq_true] at hg2
  obtain ⟨⟨g1, g2⟩, g3⟩ := hg2
  have g1 := Nat.le_of_ble_eq_true g1
  have g2 := Nat.le_of_ble_eq_true g2
  have g3 := Nat.le_of_ble_eq_true g3
  simp only [Bool.or_eq_true, Bool.and_eq_true] at hg
  have hk := ltN_some hg.2
  have hhi' : mx.isSome = true → hi.isSome = true := fun hs => by
    rcases hg.1 with hg | hg
    · rw [isNone_of hg] at hs; cases hs
    · exact hg
  change sel (Nat.beq b deadId) (guard (Nat.beq h 0 && Nat.beq k bigCap && (Nat.beq m 0 || Nat.beq m bigCap)) (some (deadV, s))) (sel (Nat.ble halfCap k) (cutOpen s ⟨b, o, none⟩ e k l h m n) (cutKnown ⟨b, o, none⟩ l h m n s)) = some (v, s') at hr
  have hr : sel (Nat.ble halfCap k) (cutOpen s ⟨b, o, none⟩ e k l h m n) (cutKnown ⟨b, o, none⟩ l h m n s) = some (v, s') := by
    rw [sel_eq] at hr
    split at hr
    · obtain ⟨hq, _⟩ := guard_some.1 hr
      simp only [Bool.and_eq_true] at hq
      have := Nat.eq_of_beq_eq_true hq.1.2
      unfold halfCap at hk
      unfold bigCap at this
      omega
    · exact hr
  have hkn : Nat.ble halfCap k = false := by
    rw [← Bool.not_eq_true]; intro hb; have := Nat.le_of_ble_eq_true hb; omega
  rw [hkn, sel_false] at hr
  obtain ⟨rfl, hv⟩ := cutKnown_vr hL (by omega) hr
  have hb := run_sliceBounds (P := P) (w := w) hlo hhi hmx (isSlice := false) (len := k) (capM := k) (M := m) h1 h2 h3 (fun hs => ⟨rfl, hhi' hs⟩) (fun hs => by subst hs; cases h3; rfl) g1 g2 g3
  rw [addr_ite] at hv
  exact ⟨rfl, l, h, m, n, _, hb, run_sizeOf hn, hv, rfl⟩

theorem oSlice_sound (hH : HR P base ρ s w) (he : EvR ρ ev η) {t : TypeId} {x : Operand} {lo hi mx : Option Operand} (C : Cfg) (hC : C.P = P) {r : Res} (hr : oSlice C ev s t x lo hi mx = some r) :
    ResR P base ρ s w (Sem.run P (do pure (.value (← Instr.sliceAt t (η x) (lo.map η) (hi.map η) (mx.map η)))) w) r := by
  unfold oSlice at hr
  obtain ⟨a, ha, hr1⟩ := obind_some.1 hr
  obtain ⟨vlo, hlo, hr2⟩ := optEv_some he hr1
  obtain ⟨vhi, hhi, hr3⟩ := optEv_some he hr2
  obtain ⟨vmx, hmx, hr4⟩ := optEv_some he hr3
  obtain ⟨⟨v, s'⟩, hr5, hres⟩ := obind_some.1 hr4
  clear hr hr1 hr2 hr3 hr4
  cases hres
  have hr := hr5
  clear hr5
  rw [hC] at hr
  have hc := he x a ha
  generalize η x = c at hc
  show Gives P base ρ s w _ v s'
  cases hc with
  | sliceNil n k =>
    obtain ⟨ρ', c', h1, h2, h3⟩ := sliceSlice_sound hH (.sliceNil n k) hlo hhi hmx hr
    simp only [Sem.run_bind, h1, Result.andThen_ok, Sem.run_pure]
    exact gives_val h2 h3
  | dead A K =>
    obtain ⟨ρ', c', h1, h2, h3⟩ := sliceSlice_sound hH (.dead A K) hlo hhi hmx hr
    simp only [Sem.run_bind, h1, Result.andThen_ok, Sem.run_pure]
    exact gives_val h2 h3
  | slice hL =>
    obtain ⟨ρ', c', h1, h2, h3⟩ := sliceSlice_sound hH (.slice hL) hlo hhi hmx hr
    simp only [Sem.run_bind, h1, Result.andThen_ok, Sem.run_pure]
    exact gives_val h2 h3
  | @ptr b o L hL =>
    change slicePtr P s t ⟨b, o, none⟩ vlo vhi vmx = some (v, s') at hr
    unfold slicePtr at hr
    split at hr
    · rename_i k e hu
      obtain ⟨rfl, l, h, m, n, c, h1, h2, h3, rfl⟩ := sliceArr_sound (w := w) hL hlo hhi hmx hr
      simp only [Instr.sliceAt, Instr.sureAddr, run_underlying hu, Sem.run_bind, Sem.run_pure, h1, h2, Result.andThen_ok]
      exact gives_pure hH h3
    · rename_i arr hu
      split at hr
      · rename_i k e hu2
        obtain ⟨rfl, l, h, m, n, c, h1, h2, h3, rfl⟩ := sliceArr_sound (w := w) hL hlo hhi hmx hr
        simp only [Instr.sliceAt, Instr.slice, asAddr, run_underlying hu, run_underlying hu2, Sem.run_bind, Sem.run_pure, h1, h2, Result.andThen_ok]
        exact gives_pure hH h3
      · cases hr
    · cases hr
  | string bs =>
    change (match P.underlying t with | some .string => Option.casesOn vmx (bounds vlo vhi none (lenL bs.data.toList) 0 fun l h _ => obind (cutString bs.data.toList l h) fun v => some (v, s)) (fun _ => none) | _ => none) = some (v, s') at hr
    split at hr
    · rename_i hu
      cases hmxe : vmx with
      | some q => rw [hmxe] at hr; cases hr
      | none =>
        rw [hmxe] at hr hmx
        obtain ⟨l, h, m, h1, h2, h3, hr⟩ := bounds_some hr
        obtain ⟨v', hv', hr⟩ := obind_some.1 hr
        cases hr
        rw [cutString_eq] at hv'
        obtain ⟨hg, hv'⟩ := guard_some.1 hv'
        simp only [Bool.and_eq_true] at hg
        have g1 := Nat.le_of_ble_eq_true hg.1
        have g2 := Nat.le_of_ble_eq_true hg.2
        rw [lenL_eq] at g2 h2
        have hsz : bs.data.toList.length = bs.size := rfl
        rw [hsz] at g2 h2
        have hnone : mx.map η = none := by
          generalize mx.map η = q at hmx
          cases hmx
          rfl
        have hb := run_sliceBounds (P := P) (w := w) hlo hhi (OptR.none (ρ := ρ)) (isSlice := false) (len := bs.size) (capA := bs.size) (capM := bs.size) (M := bs.size) h1 h2 rfl (fun hs => by cases hs) (fun _ => rfl) g1 g2 (Nat.le_refl _)
        cases hv'
        rw [hnone]
        simp only [Instr.sliceAt, Instr.slice, run_underlying hu, Sem.run_bind, Sem.run_pure, hb, Result.andThen_ok, Option.isSome_none, Bool.false_eq_true, if_false]
        have e : bs.extract l h = ⟨⟨takeL (h - l) (dropL l bs.data.toList)⟩⟩ := by
          rw [takeL_eq, dropL_eq]
          apply ByteArray.ext
          rw [ByteArray.data_extract]
          apply Array.ext'
          simp [List.extract]
        rw [e]
        exact gives_pure hH (.string _)
    · cases hr
  | _ => cases hr
end
end Go.Ax

namespace Go.Ax
open Go

section
variable {P : Program} {base : Nat} {ρ : Ren} {s s' : St} {w w' : World} {ev : Ev} {η : Operand → Value}

theorem EsR.length {l l' : List MapEntry} (h : EsR ρ l l') : l'.length = l.length := by
  induction h with
  | nil => rfl
  | cons _ _ _ _ ih => simp [ih]

/-- A map of the executor's, as the model has it. -/
theorem getMap_sound (h : HR P base ρ s w) {r c : Nat} {es : List MapEntry} (hg : getMap s r = some (es, c)) : ∃ l, ρ r = some l ∧ s.tag r = some (0, r) ∧ ∃ es', w.heap[l.blk]? = some (.map es' c) ∧ EsR ρ es es'.toList := by
  unfold getMap at hg
  split at hg
  · rename_i es' c' hh
    cases hg
    obtain ⟨l, h1, es2, h2, h3⟩ := h.maps _ _ _ hh
    exact ⟨l, h1, tag_map hh, es2, h2, h3⟩
  · cases hg

theorem run_getObj {r : Nat} {o : Obj} (h : w.heap[r]? = some o) (hn : ∀ c e f, o ≠ .cells c e f) : (getObj r).run P w = .ok o w := by
  simp only [getObj, Sem.run, h]

theorem bLen_sound (h : HR P base ρ s w) {t : TypeId} {v c : Value} (hv : VR ρ v c) (ts : Array TypeId) (ty : TypeId) (ht : ts[0]? = some t) {r : Res} (hr : bLen P s t v = some r) :
    ResR P base ρ s w (Sem.run P (do pure (.value (← Builtin.len_ ts ty #[c]))) w) r := by
  have hi : ∀ (n : Nat) (x : Value), (Builtin.len_ ts ty #[c]).run P w = .ok (goInt n) w → r = .val (i64 n) s → ResR P base ρ s w (Sem.run P (do pure (.value (← Builtin.len_ ts ty #[c]))) w) r := by
    intro n x h1 h2
    rw [h2]
    simp only [Sem.run_bind, h1, Result.andThen_ok, Sem.run_pure]
    exact gives_pure h (.int _ _)
  unfold bLen at hr
  split at hr
  · rename_i hu
    split at hr
    · rename_i b
      cases hv
      refine hi (lenL b.data.toList) undef ?_ (ret_some hr)
      rw [lenL_eq]
      have e : b.data.toList.length = b.size := rfl
      rw [e]
      simp [Builtin.len_, ht, run_underlying hu]
    · cases hr
  · rename_i e hu
    split at hr
    · rename_i a n k
      cases hv with
      | sliceNil n c => exact hi n undef (by simp [Builtin.len_, ht, run_underlying hu]) (ret_some hr)
      | slice hl => exact hi n undef (by simp [Builtin.len_, ht, run_underlying hu]) (ret_some hr)
      | dead A K => exact hi 0 undef (by simp [Builtin.len_, ht, run_underlying hu]) (ret_some hr)
    · rename_i k n
      cases hv with
      | opq A n K => exact hi n undef (by simp [Builtin.len_, ht, run_underlying hu]) (ret_some hr)
    · rename_i k lo up
      obtain ⟨hg, hr⟩ := guard_some.1 hr
      rw [ret_some hr]
      cases hv with
      | olen _ _ A n K h1 h2 =>
        have hrun : (Builtin.len_ ts ty #[Value.slice (some A) n K]).run P w = .ok (goInt (n : Int)) w := by simp [Builtin.len_, ht, run_underlying hu]
        simp only [Sem.run_bind, hrun, Result.andThen_ok, Sem.run_pure]
        exact gives_pure h (.rng lo up n h1 h2)
      | rng _ _ n h1 h2 => cases hg
    · cases hr
  · rename_i k e hu
    split at hr
    · cases hv
      exact hi 0 undef (by simp [Builtin.len_, ht, run_underlying hu]) (ret_some hr)
    · rename_i m
      obtain ⟨⟨es, ck⟩, hg, hr2⟩ := obind_some.1 hr
      cases hv with
      | map hl =>
        obtain ⟨l, h1, _, es', h2, h3⟩ := getMap_sound h hg
        rw [hl] at h1
        cases h1
        refine hi (lenL es) undef ?_ (ret_some hr2)
        have := h3.length
        simp at this
        simp [Builtin.len_, ht, run_underlying hu, run_getObj h2 (by simp), lenL_eq, this]
    · cases hr
  · rename_i n e hu
    exact hi n undef (by simp [Builtin.len_, ht, run_underlying hu]) (ret_some hr)
  · rename_i a hu
    obtain ⟨n, hn, hr2⟩ := obind_some.1 hr
    unfold lenT at hn
    split at hn
    · rename_i n' e hu2
      cases hn
      exact hi n undef (by simp [Builtin.len_, ht, run_underlying hu, run_underlying hu2]) (ret_some hr2)
    · cases hn
  · cases hr

theorem bCap_sound (h : HR P base ρ s w) {t : TypeId} {v c : Value} (hv : VR ρ v c) (ts : Array TypeId) (ty : TypeId) (ht : ts[0]? = some t) {r : Res} (hr : bCap P s t v = some r) :
    ResR P base ρ s w (Sem.run P (do pure (.value (← Builtin.cap_ ts ty #[c]))) w) r := by
  unfold bCap at hr
  split at hr
  · rename_i e hu
    split at hr
    · rename_i y n c
      obtain ⟨hg, hr2⟩ := guard_some.1 hr
      have hg := ltN_some hg
      rw [ret_some hr2]
      cases hv with
      | sliceNil =>
        have h1 : (Builtin.cap_ ts ty #[.slice none n c]).run P w = .ok (goInt c) w := by simp [Builtin.cap_, ht, run_underlying hu]
        simp only [Sem.run_bind, h1, Result.andThen_ok, Sem.run_pure]
        exact gives_pure h (.int _ _)
      | dead A K => exact absurd hg (by unfold halfCap bigCap; omega)
      | @slice b o _ _ l hl =>
        rw [capOf_known hg]
        have h1 : (Builtin.cap_ ts ty #[.slice (some ⟨l.blk, l.off + o, none⟩) n c]).run P w = .ok (goInt c) w := by simp [Builtin.cap_, ht, run_underlying hu]
        simp only [Sem.run_bind, h1, Result.andThen_ok, Sem.run_pure]
        exact gives_pure h (.int _ _)
    · cases hr
  · cases hr

theorem bMinMax_sound (h : HR P base ρ s w) {mx : Bool} {x y x' y' : Value} (hx : VR ρ x x') (hy : VR ρ y y') (ts : Array TypeId) (ty : TypeId) {r : Res} (hr : bMinMax mx s x y = some r) :
    ResR P base ρ s w (Sem.run P (do pure (.value (← if mx then Builtin.max_ ts ty #[x', y'] else Builtin.min_ ts ty #[x', y']))) w) r := by
  unfold bMinMax at hr
  split at hr
  · rename_i k a
    split at hr
    · rename_i k' b
      rw [ret_some hr]
      cases hx
      cases hy
      cases mx
      · have h1 : (Builtin.min_ ts ty #[.int k a, .int k' b]).run P w = .ok (.int k (sel (sel false (ltI a b) (ltI b a)) b a)) w := by
          rw [sel_false, ltI_eq, sel_eq]
          simp [Builtin.min_, Builtin.min2]
        simp only [Bool.false_eq_true, if_false, Sem.run_bind, h1, Result.andThen_ok, Sem.run_pure]
        exact gives_pure h (.int _ _)
      · have h1 : (Builtin.max_ ts ty #[.int k a, .int k' b]).run P w = .ok (.int k (sel (sel true (ltI a b) (ltI b a)) b a)) w := by
          rw [sel_true, ltI_eq, sel_eq]
          simp [Builtin.max_, Builtin.max2]
        simp only [if_true, Sem.run_bind, h1, Result.andThen_ok, Sem.run_pure]
        exact gives_pure h (.int _ _)
    · cases hr
  · cases hr
end
end Go.Ax

namespace Go.Ax
open Go

section
variable {P : Program} {base : Nat} {ρ : Ren} {s s' : St} {w w' : World}

theorem lenOf_sound {v c : Value} {n : Nat} (hv : VR ρ v c) (hn : lenOf v = some n) : (Builtin.lenOf c).run P w = .ok n w := by
  unfold Ax.lenOf at hn
  split at hn
  · cases hn
    cases hv <;> simp [Builtin.lenOf]
  · rename_i b
    cases hn
    cases hv
    rw [lenL_eq]
    have e : b.data.toList.length = b.size := rfl
    rw [e]
    simp [Builtin.lenOf]
  · cases hn

theorem byteVals_vrs (l : List UInt8) : VRs ρ (byteVals l) (l.map fun b => .int .u8 (b.toNat : Int)) := by
  unfold byteVals
  rw [mapL_eq]
  induction l with
  | nil => exact .nil
  | cons a t ih => exact .cons (.int _ _) ih

/-- The first cells of what is appended or copied. -/
theorem firstCells_sound (h : HR P base ρ s w) {v c : Value} {sz n : Nat} {l : List Value} (hv : VR ρ v c) (hl : firstCells s sz n v = some l) :
    ∃ cl, (Builtin.firstCells sz n c).run P w = .ok ⟨cl⟩ w ∧ VRs ρ l cl ∧ ((∃ a k j, v = .slice (some a) k j) → l.length = n * sz) := by
  unfold Ax.firstCells at hl
  split at hl
  · rw [sel_eq] at hl
    split at hl
    · obtain ⟨hg, hl⟩ := guard_some.1 hl
      have hg := Nat.eq_of_beq_eq_true hg
      subst hg
      cases hl
      have hl0 : ∀ A : Addr, (Go.loadCells A 0).run P w = .ok ⟨[]⟩ w := fun A => by
        have := run_loadCells_list (P := P) w A [] (fun j v hj => by simp at hj)
        simpa using this
      cases hv with
      | dead A K => exact ⟨[], by simp [Builtin.firstCells, hl0], .nil, fun _ => by simp⟩
      | slice hL => exact ⟨[], by simp [Builtin.firstCells, hl0], .nil, fun _ => by simp⟩
    obtain ⟨⟨cs, e, f⟩, hc, hl2⟩ := obind_some.1 hl
    rw [takeN_eq, dropL_eq] at hl2
    obtain ⟨h1, rfl⟩ := hl2
    cases hv with
    | dead A K => exact (h.no_dead hc).elim
    | @slice b o _ _ L hL =>
      obtain ⟨q, hq⟩ := h.rows b cs e f hc
      have hql : q = L := by have := hq.at_; rw [hL] at this; exact (Option.some.inj this).symm
      subst hql
      have h1' : n * sz ≤ cs.length - o := by simpa using h1
      by_cases ho : o ≤ cs.length
      · obtain ⟨cl, h2, h3, h4⟩ := hq.seg (o := o) (n := n * sz) (by omega)
        have hl' := run_loadCells_list (P := P) w ⟨q.blk, q.off + o, none⟩ cl (fun j v hj => by rw [add_eq]; exact h4 j v hj)
        rw [h3] at hl'
        exact ⟨cl, by simp [Builtin.firstCells, hl'], h2, fun _ => by simp; exact Nat.min_eq_left h1'⟩
      · have h0 : n * sz = 0 := by omega
        have hl' := run_loadCells_list (P := P) w ⟨q.blk, q.off + o, none⟩ [] (fun j v hj => by simp at hj)
        simp at hl'
        refine ⟨[], by simp [Builtin.firstCells, h0, hl'], ?_, fun _ => by simp; exact Nat.min_eq_left h1'⟩
        rw [show Nat.mul n sz = 0 from h0]
        simpa using VRs.nil (ρ := ρ)
  · obtain ⟨_, hl⟩ := guard_some.1 hl
    cases hl
    cases hv
    exact ⟨[], by simp [Builtin.firstCells], .nil, fun ⟨_, _, _, e⟩ => by cases e⟩
  · rename_i b
    obtain ⟨_, hl⟩ := guard_some.1 hl
    cases hl
    cases hv
    refine ⟨((takeL n b.data.toList).map fun b => .int .u8 (b.toNat : Int)), ?_, byteVals_vrs _, fun ⟨_, _, _, e⟩ => by cases e⟩
    rw [takeL_eq]
    simp only [Builtin.firstCells, Sem.run_pure]
    congr 1
    apply Array.ext'
    simp
  · cases hl

theorem bCopy_sound (h : HR P base ρ s w) {t : TypeId} {d x d' x' : Value} (hd : VR ρ d d') (hx : VR ρ x x') (ts : Array TypeId) (ty : TypeId) (ht : ts[0]? = some t) {r : Res} (hr : bCopy P s t d x = some r) :
    ResR P base ρ s w (Sem.run P (do pure (.value (← Builtin.copy_ ts ty #[d', x']))) w) r := by
  unfold bCopy at hr
  split at hr
  · rename_i e hu
    split at hr
    · rename_i bs dLen k
      obtain ⟨sl, hsl, hr1⟩ := obind_some.1 hr
      obtain ⟨sz, hsz, hr2⟩ := obind_some.1 hr1
      obtain ⟨new, hnew, hr3⟩ := obind_some.1 hr2
      clear hr hr1 hr2
      have hmin : sel (Nat.ble sl dLen) sl dLen = Nat.min sl dLen := by
        rw [sel_eq]
        by_cases hh : sl ≤ dLen
        · rw [if_pos (Nat.ble_eq_true_of_le hh)]; exact (Nat.min_eq_left hh).symm
        · rw [if_neg (fun h' => hh (Nat.le_of_ble_eq_true h'))]; exact (Nat.min_eq_right (by omega)).symm
      rw [hmin] at hnew hr3
      generalize hn : Nat.min sl dLen = n at hnew hr3
      obtain ⟨cl, h1, h2, h3⟩ := firstCells_sound h hx hnew
      have hlen := lenOf_sound (P := P) (w := w) hx hsl
      rw [sel_eq] at hr3
      split at hr3
      · rename_i h0
        have h0 : n = 0 := Nat.eq_of_beq_eq_true h0
        subst h0
        rw [ret_some hr3]
        have hcl : cl = [] := by
          unfold Ax.firstCells at hnew
          split at hnew
          · have := h3 ⟨_, _, _, rfl⟩
            have h4 := h2.length
            rw [this] at h4
            simpa using h4
          · obtain ⟨_, hnew⟩ := guard_some.1 hnew
            cases hnew
            cases h2
            rfl
          · obtain ⟨_, hnew⟩ := guard_some.1 hnew
            cases hnew
            cases h2
            rfl
          · cases hnew
        subst hcl
        have hrun : (Builtin.copy_ ts ty #[d', x']).run P w = .ok (goInt 0) w := by
          cases hd <;> simp [Builtin.copy_, ht, run_underlying hu, hlen, run_sizeOf hsz, hn, h1, Go.storeCells]
        simp only [Sem.run_bind, hrun, Result.andThen_ok, Sem.run_pure]
        exact gives_pure h (.int _ _)
      · rename_i h0
        cases hd with
        | dead A K => exact absurd (show Nat.beq n 0 = true by rw [← hn]; simp) h0
        | sliceNil => cases hr3
        | @slice b o _ _ l hl =>
          change obind (storeCells s b o new) (fun s => ret (i64 n) s) = some r at hr3
          obtain ⟨s2, hs2, hr4⟩ := obind_some.1 hr3
          rw [ret_some hr4]
          obtain ⟨w2, h5, h6⟩ := storeCells_sound h hl hs2 h2
          have hrun : (Builtin.copy_ ts ty #[.slice (some ⟨l.blk, l.off + o, none⟩) dLen (capOf l k), x']).run P w = .ok (goInt n) w2 := by
            simp [Builtin.copy_, ht, run_underlying hu, hlen, run_sizeOf hsz, hn, h1, h5]
          simp only [Sem.run_bind, hrun, Result.andThen_ok, Sem.run_pure]
          exact gives_val h6 (.int _ _)
    · cases hr
  · cases hr

theorem bClear_sound (h : HR P base ρ s w) (hZ : ZeroOk P) {t : TypeId} {d d' : Value} (hd : VR ρ d d') (ts : Array TypeId) (ty : TypeId) (ht : ts[0]? = some t) {r : Res} (hr : bClear P s t d = some r) :
    ResR P base ρ s w (Sem.run P (do pure (.value (← Builtin.clear_ ts ty #[d']))) w) r := by
  unfold bClear at hr
  obtain ⟨hg, hr0⟩ := guard_some.1 hr
  clear hr
  rename _ = some r => hr
  obtain ⟨td, hu⟩ := Option.isSome_iff_exists.1 hg
  have hunit : VR ρ unit (.tuple #[]) := .tuple .nil
  split at hr
  · rename_i bs n k
    rw [sel_eq] at hr
    split at hr
    · rename_i h0
      have h0 : n = 0 := Nat.eq_of_beq_eq_true h0
      subst h0
      rw [ret_some hr]
      have hrun : (Builtin.clear_ ts ty #[d']).run P w = .ok (.tuple #[]) w := by
        cases hd <;> simp [Builtin.clear_, ht, run_underlying hu]
      simp only [Sem.run_bind, hrun, Result.andThen_ok, Sem.run_pure]
      exact gives_pure h hunit
    · rename_i h0
      cases hd with
      | dead A K => exact absurd rfl h0
      | sliceNil =>
        have hr := ret_some hr
        rw [hr]
        have hrun : (Builtin.clear_ ts ty #[.slice none n k]).run P w = .ok (.tuple #[]) w := by
          simp [Builtin.clear_, ht, run_underlying hu]
        simp only [Sem.run_bind, hrun, Result.andThen_ok, Sem.run_pure]
        exact gives_pure h hunit
      | @slice b o _ _ l hl =>
        change (match P.underlying t with | some (.slice e) => obind (zero P e) fun z => guard (Nat.ble 1 (lenL z)) (obind (storeCells s b o (repeatL n z)) fun s => ret unit s) | _ => none) = some r at hr
        split at hr
        · rename_i e hu2
          rw [hu] at hu2
          cases hu2
          obtain ⟨z, hz, hr⟩ := obind_some.1 hr
          obtain ⟨hg, hr⟩ := guard_some.1 hr
          obtain ⟨s2, hs2, hr⟩ := obind_some.1 hr
          have hr := ret_some hr
          rw [hr]
          have hg := Nat.le_of_ble_eq_true hg
          rw [lenL_eq] at hg
          obtain ⟨i, v, h1, h2, h3, h4⟩ := zero_cells hZ hz ρ
          have hzv : (zeroValue e).run P w = .ok v w := by simp [zeroValue, Go.typeInfo, h1, h2]
          have hzz := zeroCells_vrs h4 n (.inl (by omega))
          obtain ⟨w2, h5, h6⟩ := storeCells_sound h hl hs2 hzz
          have hn0 : n ≠ 0 := by rintro rfl; exact h0 rfl
          have hrun : (Builtin.clear_ ts ty #[.slice (some ⟨l.blk, l.off + o, none⟩) n (capOf l k)]).run P w = .ok (.tuple #[]) w2 := by
            have e : Builtin.zeroCells v.cells n = (Array.range (n * v.cells.size)).map fun i => v.cells[i % v.cells.size]! := rfl
            cases n with
            | zero => exact absurd rfl hn0
            | succ n => simp only [Builtin.clear_, ht, run_underlying hu, hzv, e, h5, Sem.run_bind, Result.andThen_ok, Sem.run_pure, List.getElem?_toArray, List.getElem?_cons_zero]
          simp only [Sem.run_bind, hrun, Result.andThen_ok, Sem.run_pure]
          exact gives_val h6 (.tuple .nil)
        · cases hr
  · cases hr
end
end Go.Ax

namespace Go.Ax
open Go

theorem growBy_le (need : Nat) : ∀ (r c : Nat), c ≤ 2 * need + 768 → Builtin.growBy need r c ≤ 2 * need + 768
  | 0, c, h => h
  | r + 1, c, h => by
    unfold Builtin.growBy
    split
    · exact h
    · exact growBy_le need r _ (by omega)

theorem nextslicecap_le {need old : Nat} (h : old < need) : Builtin.nextslicecap need old ≤ 2 * need + 768 := by
  unfold Builtin.nextslicecap
  split
  · omega
  · split
    · omega
    · exact growBy_le need 4 old (by omega)
end Go.Ax

namespace Go.Ax
open Go

section
variable {P : Program} {base : Nat} {ρ : Ren} {s s' : St} {w w' : World}

theorem noInt_cases {T : Option TypeId} (h : noInt P T = true) : T = none ∨ ∃ u d, T = some u ∧ P.underlying u = some d ∧ ∀ k, d = .int k → False := by
  cases T with
  | none => exact .inl rfl
  | some t =>
    right
    change (match P.underlying t with | none => false | some (.int _) => false | _ => true) = true at h
    split at h
    · cases h
    · cases h
    · rename_i d hn hi
      cases hu : P.underlying t with
      | none => exact absurd hu (by simpa using hn)
      | some d =>
        exact ⟨t, d, rfl, hu, fun k e => by subst e; exact absurd hu (hi _)⟩

theorem run_append_fit {ts : Array TypeId} {t ty e : TypeId} {i : TypeInfo} (ht : ts[0]? = some t) (hu : P.underlying t = some (.slice e)) (hi : P.info? e = some i) (hni : noInt P ts[1]? = true)
    {b : Option Addr} {sLen sCap n : Nat} {x : Value} {new : List Value} (hlen : (Builtin.lenOf x).run P w = .ok n w) (hnew : (Builtin.firstCells i.size n x).run P w = .ok ⟨new⟩ w) (hfit : sLen + n ≤ sCap)
    (hst : ∀ a, b = some a → (Go.storeCells (a.add (sLen * i.size)) new).run P w = .ok () w') (hnone : b = none → w' = w) :
    (Builtin.append_ ts ty #[.slice b sLen sCap, x]).run P w = .ok (.slice b (sLen + n) sCap) w' := by
  have hsz : (Go.sizeOf e).run P w = .ok i.size w := by simp [Go.sizeOf, Go.typeInfo, hi]
  rcases noInt_cases hni with h1 | ⟨u, d, h1, h2, h3⟩
  · cases b with
    | none => rw [hnone rfl]; simp [Builtin.append_, ht, run_underlying hu, hsz, h1, hlen, hfit, hnew]
    | some a => simp [Builtin.append_, ht, run_underlying hu, hsz, h1, hlen, hfit, hnew, hst a rfl]
  · cases b with
    | none => rw [hnone rfl]; simp [Builtin.append_, ht, run_underlying hu, run_underlying h2, hsz, h1, hlen, hfit, hnew]
    | some a => simp [Builtin.append_, ht, run_underlying hu, run_underlying h2, hsz, h1, hlen, hfit, hnew, hst a rfl]

theorem run_append_more {ts : Array TypeId} {t ty e : TypeId} {i : TypeInfo} {z : Value} (ht : ts[0]? = some t) (hu : P.underlying t = some (.slice e)) (hi : P.info? e = some i) (hz : i.zero = some z) (hni : noInt P ts[1]? = true)
    {b : Option Addr} {sLen sCap n : Nat} {x : Value} {old new : List Value} (hlen : (Builtin.lenOf x).run P w = .ok n w) (hold : (Builtin.firstCells i.size sLen (.slice b sLen sCap)).run P w.drew = .ok ⟨old⟩ w.drew)
    (hnew : (Builtin.firstCells i.size n x).run P w.drew = .ok ⟨new⟩ w.drew) (hfit : sCap < sLen + n) (h63 : sLen + n ≤ 281474976710656) (h48 : Builtin.nextslicecap (sLen + n) sCap * i.bytes ≤ 281474976710656) :
    (Builtin.append_ ts ty #[.slice b sLen sCap, x]).run P w =
      .ok (.slice (some ⟨w.heap.size, 0, none⟩) (sLen + n) (grownCap w (sLen + n) sCap e))
        (w.drew.alloc (.cells ((⟨old⟩ : Array Value) ++ ⟨new⟩ ++ Builtin.zeroCells z.cells (grownCap w (sLen + n) sCap e - (sLen + n))) e)) := by
  have hn : ¬ (sLen + n ≤ sCap) := by omega
  have h63' : ¬ (9223372036854775807 < ((sLen : Int) + (n : Int))) := by omega
  have h48' : ¬ (281474976710656 < Builtin.nextslicecap (sLen + n) sCap * i.bytes) := by omega
  rcases noInt_cases hni with h1 | ⟨u, d, h1, h2, h3⟩
  · simp [Builtin.append_, ht, run_underlying hu, sizeOf, typeInfo, zeroValue, hi, hz, h1, hlen, hn, h63', h48', Question.forced, hold, hnew, newRow, grownCap]
    congr 2
    apply Array.ext'
    simp [List.append_assoc]
  · simp [Builtin.append_, ht, run_underlying hu, run_underlying h2, sizeOf, typeInfo, zeroValue, hi, hz, h1, hlen, hn, h63', h48', Question.forced, hold, hnew, newRow, grownCap]
    congr 2
    apply Array.ext'
    simp [List.append_assoc]
end
end Go.Ax

namespace Go.Ax
open Go

section
variable {P : Program} {base : Nat} {ρ : Ren} {s s' : St} {w w' : World}

theorem firstCells_len {v : Value} {sz n m : Nat} {l : List Value} (hl : firstCells s sz n v = some l) (hn : lenOf v = some m) (hm : n ≤ m) : l.length = n * sz := by
  unfold Ax.firstCells at hl
  split at hl
  · rw [sel_eq] at hl
    split at hl
    · obtain ⟨hg, hl⟩ := guard_some.1 hl
      cases hl
      rw [Nat.eq_of_beq_eq_true hg]
      simp
    obtain ⟨c, hc, hl2⟩ := obind_some.1 hl
    rw [takeN_eq] at hl2
    obtain ⟨h1, rfl⟩ := hl2
    rw [List.length_take]
    exact Nat.min_eq_left h1
  · obtain ⟨hg, hl⟩ := guard_some.1 hl
    cases hl
    rw [Nat.eq_of_beq_eq_true hg]
    simp
  · rename_i b
    obtain ⟨hg, hl⟩ := guard_some.1 hl
    cases hl
    cases hn
    rw [lenL_eq] at hm
    rw [Nat.eq_of_beq_eq_true hg, byteVals, mapL_eq, takeL_eq]
    simp at hm ⊢
    omega
  · cases hl

theorem firstCells_zero {v : Value} {sz : Nat} {l cl : List Value} (hl : firstCells s sz 0 v = some l) (hv : VRs ρ l cl) : cl = [] := by
  unfold Ax.firstCells at hl
  split at hl
  · rw [sel_eq] at hl
    split at hl
    · obtain ⟨hg, hl⟩ := guard_some.1 hl
      cases hl
      cases hv
      rfl
    obtain ⟨c, hc, hl2⟩ := obind_some.1 hl
    rw [takeN_eq] at hl2
    obtain ⟨h1, rfl⟩ := hl2
    have := hv.length
    simpa using this
  · obtain ⟨hg, hl⟩ := guard_some.1 hl
    cases hl
    cases hv
    rfl
  · obtain ⟨hg, hl⟩ := guard_some.1 hl
    cases hl
    have := hv.length
    simpa [byteVals, mapL_eq, takeL_eq] using this
  · cases hl

theorem growOk_some {e : TypeId} {need : Nat} (h : growOk P e need = true) : ∃ i z, P.info? e = some i ∧ i.zero = some z ∧ z.cells.size = i.size ∧ 1 ≤ i.size ∧ need ≤ 281474976710656 ∧ (2 * need + 768) * i.bytes ≤ 281474976710656 := by
  unfold growOk at h
  cases hi : P.info? e with
  | none => rw [hi] at h; cases h
  | some i =>
    rw [hi] at h
    simp only [Bool.and_eq_true] at h
    obtain ⟨⟨⟨h1, h2⟩, h3⟩, h4⟩ := h
    cases hz : i.zero with
    | none => rw [hz] at h4; cases h4
    | some z =>
      rw [hz] at h4
      have h4 := Nat.eq_of_beq_eq_true h4
      rw [lenL_eq] at h4
      exact ⟨i, z, rfl, hz, by simpa using h4, Nat.le_of_ble_eq_true h3, Nat.le_of_ble_eq_true h1, Nat.le_of_ble_eq_true h2⟩

/-- AN APPEND THAT MAKES A NEW ARRAY. -/
theorem append_more {ts : Array TypeId} {t ty e : TypeId} {sz : Nat} (ht : ts[0]? = some t) (hu : P.underlying t = some (.slice e)) (hsz : size P e = some sz) (hni : noInt P ts[1]? = true)
    {b : Option Addr} {sLen sCap n : Nat} {x : Value} {old new ocl ncl : List Value} (hg : growOk P e (sLen + n) = true) (hlen : (Builtin.lenOf x).run P w = .ok n w)
    (hold : (Builtin.firstCells sz sLen (.slice b sLen sCap)).run P w.drew = .ok ⟨ocl⟩ w.drew) (ho : VRs ρ old ocl) (hol : old.length = sLen * sz)
    (hnew : (Builtin.firstCells sz n x).run P w.drew = .ok ⟨ncl⟩ w.drew) (hn : VRs ρ new ncl) (hnl : new.length = n * sz) (hfit : sCap < sLen + n) :
    ∃ arr cap, (Builtin.append_ ts ty #[.slice b sLen sCap, x]).run P w = .ok (.slice (some ⟨w.heap.size, 0, none⟩) (sLen + n) cap) (w.drew.alloc (.cells arr e)) ∧ 0 < sz ∧ arr.size = cap * sz ∧
      (old ++ new).length ≤ cap * sz ∧ ∀ (j : Nat) (y : Value), (old ++ new)[j]? = some y → ∃ y', arr[j]? = some y' ∧ VR ρ y y' := by
  obtain ⟨i, z, hi, hz, hzs, h1, h63, h48⟩ := growOk_some hg
  obtain ⟨i', hi', hs⟩ := size_info hsz
  rw [hi] at hi'
  cases hi'
  subst hs
  have hcap := nextslicecap_le hfit
  have h48' : Builtin.nextslicecap (sLen + n) sCap * i.bytes ≤ 281474976710656 := Nat.le_trans (Nat.mul_le_mul_right _ hcap) h48
  have hrun := run_append_more (ty := ty) ht hu hi hz hni hlen hold hnew hfit h63 h48'
  have hge := grownCap_ge w (sLen + n) sCap e
  have hol' := ho.length
  have hnl' := hn.length
  have hap := ho.append hn
  refine ⟨_, _, hrun, by omega, ?_, ?_, ?_⟩
  · have hzc : (Builtin.zeroCells z.cells (grownCap w (sLen + n) sCap e - (sLen + n))).size = (grownCap w (sLen + n) sCap e - (sLen + n)) * i.size := by
      simp [Builtin.zeroCells, hzs]
    simp only [Array.size_append, List.size_toArray, hzc]
    rw [hol', hnl', hol, hnl, ← Nat.add_mul, ← Nat.add_mul]
    congr 1
    omega
  · rw [List.length_append, hol, hnl, ← Nat.add_mul]
    exact Nat.mul_le_mul_right _ hge
  · intro j y hj
    obtain ⟨y', h2, h3⟩ := hap.get hj
    refine ⟨y', ?_, h3⟩
    have hjl := (List.getElem?_eq_some_iff.1 h2).1
    rw [Array.getElem?_append_left (by simpa using hjl)]
    simpa using h2
end
end Go.Ax

namespace Go.Ax
open Go

section
variable {P : Program} {base : Nat} {ρ : Ren} {s s' : St} {w w' : World}

def AppR (P : Program) (base : Nat) (ρ : Ren) (s : St) (w : World) (run : Result Value) (v : Value) (s' : St) : Prop :=
  ∃ c ρ' w', run = .ok c w' ∧ Goes P base ρ s w ρ' s' w' ∧ VR ρ' v c

theorem capOf_big (b o c : Nat) : capOf ⟨b, o, c⟩ bigCap = c := by rw [capOf_open (by unfold halfCap bigCap; omega)]; simp

theorem storeCells_nil (a : Addr) : (Go.storeCells a []).run P w = .ok () w := by simp [Go.storeCells]

theorem appendNone_sound (h : HR P base ρ s w) {ts : Array TypeId} {t ty e : TypeId} {i : TypeInfo} (ht : ts[0]? = some t) (hu : P.underlying t = some (.slice e)) (hi : P.info? e = some i) (hni : noInt P ts[1]? = true)
    {b : Option Addr} {len cap : Nat} {a' x : Value} {v : Value} (ha : VR ρ (.slice b len cap) a') (hlen : (Builtin.lenOf x).run P w = .ok 0 w) (hnew : (Builtin.firstCells i.size 0 x).run P w = .ok #[] w)
    (hr : appendNone s e b len cap i.size (.slice b len cap) = some (v, s')) : AppR P base ρ s w ((Builtin.append_ ts ty #[a', x]).run P w) v s' := by
  unfold appendNone at hr
  rw [sel_eq] at hr
  split at hr
  · rename_i hc
    obtain ⟨hg, hr⟩ := guard_some.1 hr
    cases hr
    have hg := Nat.le_of_ble_eq_true hg
    cases ha with
    | sliceNil =>
      have hrun := run_append_fit (ty := ty) (w := w) (w' := w) (b := none) (sLen := len) (sCap := cap) ht hu hi hni hlen hnew (by omega) (fun _ e => by cases e) (fun _ => rfl)
      exact ⟨_, ρ, w, hrun, Goes.refl h, .sliceNil _ _⟩
    | dead A K =>
      exfalso
      simp only [Bool.or_eq_true] at hc
      rcases hc with hc | hc
      · have := ltN_some hc
        unfold halfCap bigCap at this
        omega
      · cases hc
    | @slice b o _ _ l hl =>
      have hcap : cap < halfCap := by
        simp only [Bool.or_eq_true] at hc
        rcases hc with hc | hc
        · exact ltN_some hc
        · cases hc
      have hv := VR.slice (o := o) (n := len) (c := cap) hl
      rw [capOf_known hcap] at hv ⊢
      have hrun := run_append_fit (ty := ty) (w := w) (w' := w) (b := some ⟨l.blk, l.off + o, none⟩) (sLen := len) (sCap := cap) ht hu hi hni hlen hnew (by omega) (fun _ _ => storeCells_nil _) (fun e => by cases e)
      exact ⟨_, ρ, w, hrun, Goes.refl h, hv⟩
  · rename_i hc
    cases b with
    | none => cases hr
    | some p =>
      have hr : sel (Nat.beq p.block deadId) (guard (Nat.beq len 0) (some (.slice (some p) len cap, s))) (obind (s.cells p.block) fun c =>
        guard (Nat.beq c.2.1 e && openOk p.off cap i.size && Nat.ble 1 i.size && !Nat.beq c.2.2 0 && Nat.ble (Nat.add p.off (Nat.mul len i.size)) (lenL c.1)) (some (.slice (some p) len cap, s))) = some (v, s') := hr
      rw [sel_eq] at hr
      split at hr
      · obtain ⟨hg, hr⟩ := guard_some.1 hr
        have hg := Nat.eq_of_beq_eq_true hg
        subst hg
        cases hr
        cases ha with
        | dead A K =>
          have hrun := run_append_fit (ty := ty) (w := w) (w' := w) (b := some A) (sLen := 0) (sCap := K) ht hu hi hni hlen hnew (by omega) (fun _ _ => storeCells_nil _) (fun e => by cases e)
          exact ⟨_, ρ, w, hrun, Goes.refl h, .dead _ _⟩
        | @slice b o _ _ l hl =>
          have hrun := run_append_fit (ty := ty) (w := w) (w' := w) (b := some ⟨l.blk, l.off + o, none⟩) (sLen := 0) (sCap := capOf l cap) ht hu hi hni hlen hnew (by omega) (fun _ _ => storeCells_nil _) (fun e => by cases e)
          exact ⟨_, ρ, w, hrun, Goes.refl h, VR.slice hl⟩
      obtain ⟨⟨cs, e', f⟩, hcs, hr2⟩ := obind_some.1 hr
      obtain ⟨hg, hr⟩ := guard_some.1 hr2
      clear hr2
      cases hr
      simp only [Bool.and_eq_true, Bool.not_eq_true'] at hg
      obtain ⟨⟨⟨⟨g1, g2⟩, g3⟩, g4⟩, g5⟩ := hg
      have g1 := Nat.eq_of_beq_eq_true g1
      subst g1
      have g4 : f ≠ 0 := by rintro rfl; simp at g4
      have g5 := Nat.le_of_ble_eq_true g5
      have g3 := Nat.le_of_ble_eq_true g3
      rw [lenL_eq] at g5
      cases ha with
      | dead A K => exact (h.no_dead hcs).elim
      | @slice b o _ _ l hl =>
        have g2 : o = (bigCap - cap) * i.size := Nat.eq_of_beq_eq_true g2
        have hcap : halfCap ≤ cap := by
          simp only [Bool.or_eq_true, not_or] at hc
          have : ¬ (cap < halfCap) := fun hh => hc.1 (Nat.ble_eq_true_of_le hh)
          omega
        have hsz : size P e' = some i.size := by unfold size; rw [hi]; rfl
        have hop := open_cap h hl hcs g4 hsz g2 g5 (by omega)
        have hv := VR.slice (o := o) (n := len) (c := cap) hl
        rw [capOf_open hcap] at hv ⊢
        have hrun := run_append_fit (ty := ty) (w := w) (w' := w) (b := some ⟨l.blk, l.off + o, none⟩) (sLen := len) (sCap := l.cap - (bigCap - cap)) ht hu hi hni hlen hnew (by omega) (fun _ _ => storeCells_nil _) (fun e => by cases e)
        exact ⟨_, ρ, w, hrun, Goes.refl h, hv⟩

/-- The run of what makes a new array, in the world behind the draw. -/
theorem appendGrow_sound (h : HR P base ρ s w) {ts : Array TypeId} {t ty e : TypeId} {sz : Nat} (ht : ts[0]? = some t) (hu : P.underlying t = some (.slice e)) (hsz : size P e = some sz) (hni : noInt P ts[1]? = true)
    {b : Option Addr} {sLen sCap n : Nat} {x : Value} {old new ocl ncl : List Value} (hg : growOk P e (sLen + n) = true) (hlen : (Builtin.lenOf x).run P w = .ok n w)
    (hold : (Builtin.firstCells sz sLen (.slice b sLen sCap)).run P w.drew = .ok ⟨ocl⟩ w.drew) (ho : VRs ρ old ocl) (hol : old.length = sLen * sz)
    (hnew : (Builtin.firstCells sz n x).run P w.drew = .ok ⟨ncl⟩ w.drew) (hn : VRs ρ new ncl) (hnl : new.length = n * sz) (hfit : sCap < sLen + n) :
    AppR P base ρ s w ((Builtin.append_ ts ty #[.slice b sLen sCap, x]).run P w) (grow s e (old ++ new) (sLen + n)).1 (grow s e (old ++ new) (sLen + n)).2 := by
  obtain ⟨arr, cap, hrun, h0, hsize, hle, hcells⟩ := append_more (ty := ty) ht hu hsz hni hg hlen hold ho hol hnew hn hnl hfit
  have hgo := Goes.newFam (k := w.drawn + 1) h hsz h0 hcells hsize hle
  refine ⟨_, _, _, hrun, hgo, ?_⟩
  have key := VR.slice (ρ := ρ.set s.next ⟨w.heap.size, 0, cap⟩) (b := s.next) (o := 0) (n := sLen + n) (c := bigCap) (l := ⟨w.heap.size, 0, cap⟩) (by rw [Ren.at_of h.next, Ren.set_same])
  have hbc := capOf_big w.heap.size 0 cap
  rw [hbc] at key
  exact key

/-- ANOTHER SLICE OF THE FAMILY: in place where there is room, else in a new array. -/
theorem appendBranch_sound (h : HR P base ρ s w) {ts : Array TypeId} {t ty e : TypeId} {sz : Nat} {i : TypeInfo} (ht : ts[0]? = some t) (hu : P.underlying t = some (.slice e)) (hi : P.info? e = some i) (hsz : i.size = sz) (hni : noInt P ts[1]? = true)
    {b o len cap n f : Nat} {l : Loc} {x : Value} {cs old new ocl ncl ncl' : List Value} (hl : ρ.at b = some l) (hc : s.cells b = some (cs, e, f)) (hf : f ≠ 0) (hcap : halfCap ≤ cap) (hop : o = (bigCap - cap) * sz) (h1 : 1 ≤ sz)
    (hb : fixedTop ≤ b) (hone : allOne new = true) (hend : o + len * sz = cs.length) (hold0 : old = (cs.drop o).take (len * sz))
    (hg : growOk P e (len + n) = true) (hlen : (Builtin.lenOf x).run P w = .ok n w)
    (hold : (Builtin.firstCells sz len (.slice (some ⟨l.blk, l.off + o, none⟩) len (capOf l cap))).run P w.drew = .ok ⟨ocl⟩ w.drew) (ho : VRs ρ old ocl)
    (hnewd : (Builtin.firstCells sz n x).run P w.drew = .ok ⟨ncl'⟩ w.drew) (hn' : VRs ρ new ncl') (hnew : (Builtin.firstCells sz n x).run P w = .ok ⟨ncl⟩ w) (hn : VRs ρ new ncl) (hnl : new.length = n * sz) :
    AppR P base ρ s w ((Builtin.append_ ts ty #[.slice (some ⟨l.blk, l.off + o, none⟩) len (capOf l cap), x]).run P w) (branch s b (old ++ new) e f (len + n)).1 (branch s b (old ++ new) e f (len + n)).2 := by
  have hsz' : size P e = some sz := by unfold size; rw [hi]; exact congrArg some hsz
  have hol : old.length = len * sz := by rw [hold0]; simp; omega
  have hopc := open_cap h hl hc hf hsz' hop (k := len) (by omega) (by omega)
  by_cases hfit : len + n ≤ capOf l cap
  · -- in place
    obtain ⟨q, hq⟩ := h.rows b cs e f hc
    have hql : q = l := by have := hq.at_; rw [hl] at this; exact (Option.some.inj this).symm
    subst hql
    obtain ⟨_, a, fz, ha, hvals, hfz, _, h4⟩ := hq
    obtain ⟨n', hn', h0, hsiz, hlenc⟩ := h4 hf
    rw [hsz'] at hn'
    cases hn'
    clear h4
    have hccap := capOf_open (l := q) hcap
    rw [hccap] at hfit
    have hmul : (len + n) * sz ≤ (q.cap - (bigCap - cap)) * sz := Nat.mul_le_mul_right _ hfit
    have hall : o + (q.cap - (bigCap - cap)) * sz = q.cap * sz := by
      rw [hop, ← Nat.add_mul]; congr 1; omega
    have hsum : (len + n) * sz = len * sz + n * sz := Nat.add_mul _ _ _
    have hnc := hn.length
    have hwrite := run_storeCells_gen P q.blk (q.off + o + len * sz) e fz ncl 0 a w ha (by omega) (hfz hb) (allOne_vrs hn hone)
    let a' : Array Value := (a.toList.take (q.off + o + len * sz + 0) ++ ncl ++ a.toList.drop (q.off + o + len * sz + 0 + ncl.length)).toArray
    have hsa : a'.size = a.size := by simp [a']; omega
    have hlow : ∀ j, j < q.off + o + len * sz → a'[j]? = a[j]? := by
      intro j hj
      simp only [a', List.getElem?_toArray, Nat.add_zero]
      rw [List.append_assoc, List.getElem?_append_left (by simp; omega), List.getElem?_take, if_pos hj]
      simp
    have hmid : ∀ j, j < ncl.length → a'[q.off + o + len * sz + j]? = ncl[j]? := by
      intro j hj
      simp only [a', List.getElem?_toArray, Nat.add_zero]
      rw [List.append_assoc, List.getElem?_append_right (by simp; omega), List.getElem?_append_left (by simp; omega)]
      congr 1
      simp; omega
    have hrun := run_append_fit (ty := ty) (w := w) (w' := w.setRow q.blk a') (b := some ⟨q.blk, q.off + o, none⟩) (sLen := len) (sCap := capOf q cap) ht hu hi hni hlen (by rw [hsz]; exact hnew) (by rw [hccap]; exact hfit)
      (fun p hp => by cases hp; rw [hsz, add_eq]; exact hwrite) (fun e => by cases e)
    let ln : Loc := ⟨q.blk, q.off + o, q.cap - (bigCap - cap)⟩
    have hgo := Goes.share (cells := old ++ new) (ln := ln) h hb hc hf hl ha hsa (fun j x hj => by
        have hjl := (List.getElem?_eq_some_iff.1 hj).1
        rw [hlow (q.off + j) (by omega)]
        exact hvals j x hj) rfl (fun j x hj => by
        show ∃ y, a'[q.off + o + j]? = some y ∧ _
        by_cases hjo : j < old.length
        · rw [List.getElem?_append_left hjo, hold0, List.getElem?_take, if_pos (by omega), List.getElem?_drop] at hj
          rw [hlow _ (by omega), Nat.add_assoc]
          exact hvals _ x hj
        · rw [List.getElem?_append_right (by omega)] at hj
          have hjl := (List.getElem?_eq_some_iff.1 hj).1
          obtain ⟨y, hy, hv⟩ := hn.get hj
          refine ⟨y, ?_, hv⟩
          have := hmid (j - old.length) (by omega)
          rw [hy] at this
          rw [← this]
          congr 1
          omega) (fun n2 hn2 => by
        rw [hsz'] at hn2
        cases hn2
        refine ⟨?_, ?_⟩
        · show q.off + o + (q.cap - (bigCap - cap)) * sz ≤ a.size
          omega
        · show (old ++ new).length ≤ (q.cap - (bigCap - cap)) * sz
          rw [List.length_append, hol, hnl]
          omega)
    refine ⟨_, _, _, hrun, hgo, ?_⟩
    have key := VR.slice (ρ := ρ.set s.next ln) (b := s.next) (o := 0) (n := len + n) (c := bigCap) (l := ln) (by rw [Ren.at_of h.next, Ren.set_same])
    have hbc : capOf ln bigCap = ln.cap := capOf_big _ _ _
    rw [hbc] at key
    rw [hccap]
    exact key
  · obtain ⟨arr, cp, hrun, h0, hsize, hle, hcells⟩ := append_more (ty := ty) ht hu hsz' hni hg hlen hold ho hol hnewd hn' hnl (by omega)
    have hgo := Goes.shareNew (k := w.drawn + 1) h hc hf hsz' h0 hcells hsize hle
    refine ⟨_, _, _, hrun, hgo, ?_⟩
    have key := VR.slice (ρ := ρ.set s.next ⟨w.heap.size, 0, cp⟩) (b := s.next) (o := 0) (n := len + n) (c := bigCap) (l := ⟨w.heap.size, 0, cp⟩) (by rw [Ren.at_of h.next, Ren.set_same])
    have hbc := capOf_big w.heap.size 0 cp
    rw [hbc] at key
    exact key

theorem append_sound (h : HR P base ρ s w) {ts : Array TypeId} {sT ty : TypeId} {a b a' b' v : Value} (ha : VR ρ a a') (hb : VR ρ b b') (ht : ts[0]? = some sT) (hr : append P s sT ts[1]? a b = some (v, s')) :
    AppR P base ρ s w ((Builtin.append_ ts ty #[a', b']).run P w) v s' := by
  unfold append at hr
  obtain ⟨hni, hr1⟩ := guard_some.1 hr
  clear hr
  split at hr1
  · rename_i e hu
    split at hr1
    · rename_i bs len cap
      obtain ⟨n, hn, hr2⟩ := obind_some.1 hr1
      obtain ⟨sz, hsz, hr3⟩ := obind_some.1 hr2
      obtain ⟨new, hnew, hr⟩ := obind_some.1 hr3
      clear hr1 hr2 hr3
      obtain ⟨i, hi, hsi⟩ := size_info hsz
      subst hsi
      have hlen := lenOf_sound (P := P) (w := w) hb hn
      obtain ⟨ncl, hf1, hf2, hf3⟩ := firstCells_sound h hb hnew
      have hd : HR P base ρ s w.drew := h.drew _
      obtain ⟨ncl', hf1', hf2', _⟩ := firstCells_sound hd hb hnew
      have hnl := firstCells_len hnew hn (Nat.le_refl _)
      unfold appendTo at hr
      rw [sel_eq] at hr
      split at hr
      · rename_i h0
        have h0 : n = 0 := Nat.eq_of_beq_eq_true h0
        subst h0
        have := firstCells_zero hnew hf2
        subst this
        exact appendNone_sound h ht hu hi hni ha hlen hf1 hr
      · rename_i hne
        cases bs with
        | none =>
          obtain ⟨hg, hr9⟩ := guard_some.1 hr
          clear hr
          have hr := Option.some.inj hr9
          simp only [Bool.and_eq_true] at hg
          obtain ⟨⟨g1, g2⟩, g3⟩ := hg
          have g1 : len = 0 := Nat.eq_of_beq_eq_true g1
          have g2 : cap = 0 := Nat.eq_of_beq_eq_true g2
          subst g1 g2
          have h0 : n ≠ 0 := by rintro rfl; exact hne rfl
          cases ha
          have := appendGrow_sound (ty := ty) (old := []) (ocl := []) (sLen := 0) (sCap := 0) (b := none) h ht hu hsz hni (by simpa using g3) hlen (by simp [Builtin.firstCells]) .nil (by simp) hf1' hf2' hnl (by omega)
          rw [Nat.zero_add, List.nil_append] at this
          rw [hr] at this
          exact this
        | some p =>
          change appendAt P s e p len cap n i.size new = some (v, s') at hr
          unfold appendAt at hr
          obtain ⟨⟨cs, e', f⟩, hc, hr2⟩ := obind_some.1 hr
          clear hr
          obtain ⟨hg, hr⟩ := guard_some.1 hr2
          clear hr2
          simp only [Bool.and_eq_true, Bool.or_eq_true, Bool.not_eq_true'] at hg
          obtain ⟨⟨g1, g2⟩, g3⟩ := hg
          have g1 : e' = e := Nat.eq_of_beq_eq_true g1
          subst g1
          have g2 := Nat.le_of_ble_eq_true g2
          cases ha with
          | dead A K => exact (h.no_dead hc).elim
          | @slice bb o _ _ l hl =>
            rw [sel_eq] at hr
            split at hr
            · rename_i hcnd
              simp only [Bool.and_eq_true] at hcnd
              obtain ⟨c1, c2⟩ := hcnd
              have c1 : len + n ≤ cap := Nat.le_of_ble_eq_true c1
              have c2 : o + len * i.size + n * i.size ≤ cs.length := by have := Nat.le_of_ble_eq_true c2; rw [lenL_eq] at this; exact this
              unfold appendIn at hr
              obtain ⟨s2, hs2, hr2⟩ := obind_some.1 hr
              have hr := Option.some.inj hr2
              cases hr
              obtain ⟨w2, h5, h6⟩ := storeCells_sound h hl hs2 hf2
              have hfit : len + n ≤ capOf l cap := by
                by_cases hk : cap < halfCap
                · rw [capOf_known hk]; exact c1
                · have hk' : halfCap ≤ cap := by omega
                  rcases g3 with g3 | ⟨g3, g4⟩
                  · exact absurd (ltN_some g3) hk
                  · have g3 : o = (bigCap - cap) * i.size := Nat.eq_of_beq_eq_true g3
                    have g4 : f ≠ 0 := by rintro rfl; simp at g4
                    have := open_cap h hl hc g4 hsz g3 (k := len + n) (by rw [Nat.add_mul]; omega) (by omega)
                    rw [capOf_open hk']
                    omega
              have hrun := run_append_fit (ty := ty) (w := w) (w' := w2) (b := some ⟨l.blk, l.off + o, none⟩) (sLen := len) (sCap := capOf l cap) ht hu hi hni hlen hf1 hfit
                (fun p hp => by cases hp; rw [add_eq, Nat.add_assoc]; exact h5) (fun e => by cases e)
              exact ⟨_, ρ, w2, hrun, h6, .slice (h6.le |> fun hle => Ren.at_le hle hl)⟩
            · unfold appendOut at hr
              rw [takeF_eq] at hr
              obtain ⟨hgo, hr2⟩ := guard_some.1 hr
              obtain ⟨old, hold, hr⟩ := obind_some.1 hr2
              clear hr2
              have hgo : growOk P e' (len + n) = true := hgo
              have hold2 := hold
              rw [takeN_eq, dropL_eq] at hold2
              obtain ⟨ho1, ho2⟩ := hold2
              have ho1 : len * i.size ≤ cs.length - o := by simpa using ho1
              have ho2 : old = (cs.drop o).take (len * i.size) := ho2
              have hbd : Nat.beq bb deadId = false := by
                cases hq : Nat.beq bb deadId with
                | false => rfl
                | true =>
                  have := Nat.eq_of_beq_eq_true hq
                  subst this
                  exact (h.no_dead hc).elim
              have hfc : firstCells s i.size len (.slice (some ⟨bb, o, none⟩) len cap) = some old := by
                show sel (Nat.beq bb deadId) _ (obind (s.cells bb) _) = _
                rw [hbd, sel_false]
                show obind (s.cells bb) _ = _
                rw [hc]
                exact hold
              obtain ⟨ocl, hoc1, hoc2, hoc3⟩ := firstCells_sound hd (VR.slice (n := len) (c := cap) hl) hfc
              have hol := hoc3 ⟨_, _, _, rfl⟩
              rw [sel_eq] at hr
              split at hr
              · rename_i hk
                have hk := ltN_some hk
                obtain ⟨hlt, hr⟩ := guard_some.1 hr
                have hlt : cap < len + n := ltN_some hlt
                have hr := Option.some.inj hr
                rw [capOf_known hk] at hoc1 ⊢
                have := appendGrow_sound (ty := ty) h ht hu hsz hni hgo hlen hoc1 hoc2 hol hf1' hf2' hnl hlt
                rw [appL_eq] at hr
                have e : grow s e' (old ++ new) (len + n) = (v, s') := hr
                rw [e] at this
                exact this
              · rename_i hk
                have hk : halfCap ≤ cap := by
                  have : ¬ (cap < halfCap) := fun hh => hk (Nat.ble_eq_true_of_le hh)
                  omega
                obtain ⟨hgg, hr⟩ := guard_some.1 hr
                simp only [Bool.and_eq_true] at hgg
                obtain ⟨⟨k1, k2⟩, k3⟩ := hgg
                have k1 : o + len * i.size = cs.length := by have := Nat.eq_of_beq_eq_true k1; rw [lenL_eq] at this; exact this
                have k2 : fixedTop ≤ bb := Nat.le_of_ble_eq_true k2
                rcases g3 with g3 | ⟨g3, g4⟩
                · exact absurd (ltN_some g3) (by omega)
                have g3 : o = (bigCap - cap) * i.size := Nat.eq_of_beq_eq_true g3
                have g4 : f ≠ 0 := by rintro rfl; simp at g4
                have hr := Option.some.inj hr
                have := appendBranch_sound (ty := ty) h ht hu hi rfl hni hl hc g4 hk g3 g2 k2 k3 k1 ho2 hgo hlen hoc1 hoc2 hf1' hf2' hf1 hf2 hnl
                rw [appL_eq] at hr
                have e : branch s bb (old ++ new) e' f (len + n) = (v, s') := hr
                rw [e] at this
                exact this
    · cases hr1
  · cases hr1
end
end Go.Ax

namespace Go.Ax
open Go

section
variable {P : Program} {base : Nat} {ρ : Ren} {s s' : St} {w w' : World}

/-- A new array of unknown capacity, its end marked. -/
theorem Goes.newFamMark (h : HR P base ρ s w) {cs : List Value} {e : TypeId} {a : Array Value} {cap n k : Nat} {fz : Nat × Nat} (hn : size P e = some n) (hn0 : 0 < n)
    (ha : ∀ (j : Nat) (x : Value), cs[j]? = some x → ∃ y, a[j]? = some y ∧ VR ρ x y) (hsz : a.size = cap * n) (hle : cs.length ≤ cap * n) (hfz : ∀ o, o < a.size → ¬ (fz.1 ≤ o ∧ o < fz.2)) :
    Goes P base ρ s w (ρ.set s.next ⟨w.heap.size, 0, cap⟩) { heap := s.heap.set s.next (.row cs e s.next), fams := s.fams.set s.next [s.next], next := Nat.succ s.next }
      ({ w with drawn := k }.alloc (.cells a e fz)) := by
  have hch : ∀ j, j ∈ [s.next] → j ≠ s.next → ∃ l, s.fams.get s.next = some l ∧ j ∈ l := fun j hj hne => absurd (by simpa using hj) hne
  refine Goes.push h (.row cs e s.next) ⟨w.heap.size, 0, cap⟩ (.cells a e fz) rfl rfl (fun i t hi ht => ?_) (fun i c hi hc => ?_) rfl rfl rfl rfl rfl ?_ ?_ (fun _ _ e => by cases e) (fun _ e => by cases e)
  · exact tag_set_fam hi hch ht
  · exact cells_set_fam hi hch hc
  · intro cs' e' f hr; cases hr; omega
  · rintro ⟨cs', e', f⟩ hc
    obtain ⟨h1, _⟩ := cells_some.1 hc
    rw [Hp.get_set_same] at h1
    cases h1
    have := h.next
    have hft : fixedTop = 64 := rfl
    refine ⟨by rw [Ren.at_of h.next, Ren.set_same], a, fz, alloc_at { w with drawn := k } _, ?_, fun _ o ho => hfz o ho, fun h0 => absurd (show s.next = 0 from h0) (by omega), fun _ => ⟨n, hn, hn0, by simp [hsz], hle⟩⟩
    intro j x hj
    obtain ⟨y, hy, hv⟩ := ha j x hj
    exact ⟨y, by simpa using hy, hv.mono (Ren.le_set h _)⟩

theorem isBytes_some {e : TypeId} (h : isBytes P e = true) : P.underlying e = some (.int .u8) := by
  unfold isBytes at h
  split at h
  · assumption
  · cases h

theorem isStr_some {e : TypeId} (h : isStr P e = true) : P.underlying e = some .string := by
  unfold isStr at h
  split at h
  · assumption
  · cases h

theorem byteOf_vr {v c : Value} {b : UInt8} (hv : VR ρ v c) (h : byteOf v = some b) : ∃ n : Int, c = .int .u8 n ∧ UInt8.ofNat n.toNat = b := by
  unfold byteOf at h
  split at h
  · rename_i n
    cases hv
    cases n with
    | ofNat n => exact ⟨_, rfl, Option.some.inj h⟩
    | negSucc n => cases h
  · cases h

theorem bytesOf_vrs : ∀ {l cl : List Value} {bs : List UInt8}, VRs ρ l cl → bytesOf l = some bs → ∃ ns : List Int, cl = ns.map (Value.int .u8) ∧ ns.map (fun n => UInt8.ofNat n.toNat) = bs
  | [], cl, bs, hv, h => by
    cases hv
    cases h
    exact ⟨[], rfl, rfl⟩
  | v :: l, cl, bs, hv, h => by
    change obind (byteOf v) (fun b => obind (bytesOf l) fun r => some (b :: r)) = some bs at h
    obtain ⟨b, hb, h2⟩ := obind_some.1 h
    obtain ⟨r, hr, h3⟩ := obind_some.1 h2
    cases h3
    cases hv with
    | cons h1 ht =>
      obtain ⟨n, rfl, hn⟩ := byteOf_vr h1 hb
      obtain ⟨ns, rfl, hns⟩ := bytesOf_vrs ht hr
      exact ⟨n :: ns, rfl, by simp [hn, hns]⟩

theorem foldl_push_ints : ∀ (ns : List Int) (r : ByteArray), (ns.foldl (fun r n => r.push (UInt8.ofNat n.toNat)) r) = ⟨r.data ++ (ns.map (fun n => UInt8.ofNat n.toNat)).toArray⟩
  | [], r => by simp
  | n :: ns, r => by
    simp only [List.foldl_cons]
    rw [foldl_push_ints ns]
    simp [ByteArray.push]

theorem convert_sound (h : HR P base ρ s w) (hB : ∀ e, P.underlying e = some (.int .u8) → size P e = some 1) {src dst : TypeId} {x c v : Value} (hx : VR ρ x c) (hr : convert P s src dst x = some (v, s')) :
    AppR P base ρ s w ((Go.convert src dst c).run P w) v s' := by
  unfold Ax.convert at hr
  obtain ⟨hg, hr1⟩ := guard_some.1 hr
  clear hr
  obtain ⟨ds, hds⟩ := Option.isSome_iff_exists.1 hg
  split at hr1
  · rename_i k hd
    split at hr1
    · rename_i k' n
      cases hr1
      cases hx
      refine ⟨.int k (k.wrap n), ρ, w, ?_, Goes.refl h, by rw [wrap_eq]; exact .int _ _⟩
      simp [Go.convert, run_underlying hds, run_underlying hd, Conv.intToInt]
    · cases hr1
  · rename_i hd
    split at hr1
    · rename_i b
      cases hr1
      cases hx
      refine ⟨.string b, ρ, w, ?_, Goes.refl h, .string _⟩
      simp [Go.convert, run_underlying hds, run_underlying hd]
    · rename_i k n
      cases hr1
      cases hx
      refine ⟨_, ρ, w, ?_, Goes.refl h, .string _⟩
      simp [Go.convert, run_underlying hds, run_underlying hd, Conv.intToString]
    · rename_i a n k
      split at hr1
      · rename_i e hs
        rw [hds] at hs
        cases hs
        obtain ⟨hb, hr⟩ := guard_some.1 hr1
        clear hr1
        have hb := isBytes_some hb
        cases a with
        | none =>
          cases hr
          cases hx
          refine ⟨.string .empty, ρ, w, ?_, Goes.refl h, .string _⟩
          simp [Go.convert, run_underlying hds, run_underlying hd, run_underlying hb, Conv.bytesToString]
        | some p =>
          change toStr s n (.slice (some p) n k) = some (v, s') at hr
          unfold toStr at hr
          obtain ⟨l, hl, hr2⟩ := obind_some.1 hr
          obtain ⟨bs, hbs, hr3⟩ := obind_some.1 hr2
          cases hr3
          obtain ⟨cl, h1, h2, h3⟩ := firstCells_sound h hx hl
          obtain ⟨ns, rfl, hns⟩ := bytesOf_vrs h2 hbs
          cases hx with
          | dead A K =>
            have hlc : (loadCells A 0).run P w = .ok (ns.map (Value.int .u8)).toArray w := by
              have e1 : (Builtin.firstCells 1 0 (.slice (some A) 0 K)).run P w = .ok (ns.map (Value.int .u8)).toArray w := h1
              simpa only [Builtin.firstCells, Nat.zero_mul] using e1
            refine ⟨.string ⟨bs.toArray⟩, ρ, w, ?_, Goes.refl h, .string _⟩
            rw [run_convert_bytes_string w src dst e (some A) 0 K hds hb hd, run_bytesToString w _ 0 _ ns hlc, foldl_push_ints, hns]
            have he0 : ByteArray.empty.data = #[] := rfl
            rw [he0]
            simp
          | @slice b o _ _ L hL =>
            have hlc : (loadCells ⟨L.blk, L.off + o, none⟩ n).run P w = .ok (ns.map (Value.int .u8)).toArray w := by
              have e1 : (Builtin.firstCells 1 n (.slice (some ⟨L.blk, L.off + o, none⟩) n (capOf L k))).run P w = .ok (ns.map (Value.int .u8)).toArray w := h1
              simpa only [Builtin.firstCells, Nat.mul_one] using e1
            refine ⟨.string ⟨bs.toArray⟩, ρ, w, ?_, Goes.refl h, .string _⟩
            rw [run_convert_bytes_string w src dst e (some ⟨L.blk, L.off + o, none⟩) n (capOf L k) hds hb hd, run_bytesToString w _ n _ ns hlc, foldl_push_ints, hns]
            have he0 : ByteArray.empty.data = #[] := rfl
            rw [he0]
            simp
      · cases hr1
    · cases hr1
  · rename_i e hd
    split at hr1
    · rename_i b
      obtain ⟨hb, hr⟩ := guard_some.1 hr1
      clear hr1
      have hr := Option.some.inj hr
      cases hx
      simp only [Bool.and_eq_true] at hb
      have hb' := isBytes_some hb.1
      have hs := isStr_some hb.2
      have hrun := run_bytes_of_string w src dst e b hs hd hb'
      have hge := grownCap_ge w b.size 0 e
      have hi := hB e hb'
      have hcl : b.data.toList.length = b.size := rfl
      have hsize : (bytesRow b (grownCap w b.size 0 e)).size = grownCap w b.size 0 e * 1 := by
        simp [bytesRow]
        have : b.data.size = b.size := rfl
        omega
      have hvs := byteVals_vrs (ρ := ρ) b.data.toList
      have hgo := Goes.newFamMark (k := w.drawn + 1) (cs := byteVals b.data.toList) (e := e) (a := bytesRow b (grownCap w b.size 0 e)) (cap := grownCap w b.size 0 e) (fz := ((bytesRow b (grownCap w b.size 0 e)).size, (bytesRow b (grownCap w b.size 0 e)).size + 1)) h hi (by omega)
        (fun j x hj => by
          obtain ⟨y, hy, hv⟩ := hvs.get hj
          refine ⟨y, ?_, hv⟩
          rw [List.getElem?_map] at hy
          cases hq : b.data.toList[j]? with
          | none => rw [hq] at hy; cases hy
          | some u =>
            rw [hq] at hy
            have hjl := (List.getElem?_eq_some_iff.1 hq).1
            have hju : b.data[j]'(by simpa using hjl) = u := by
              have := (List.getElem?_eq_some_iff.1 hq).2
              simpa using this
            rw [bytesRow_at b _ j (by simpa using hjl), hju]
            exact hy) hsize (by rw [byteVals, mapL_eq, List.length_map, hcl]; omega) (fun o ho => by omega)
      have e : grow s e (byteVals b.data.toList) (lenL b.data.toList) = (v, s') := hr
      cases e
      refine ⟨_, _, _, hrun, hgo, ?_⟩
      have key := VR.slice (ρ := ρ.set s.next ⟨w.heap.size, 0, grownCap w b.size 0 e⟩) (b := s.next) (o := 0) (n := lenL b.data.toList) (c := bigCap) (l := ⟨w.heap.size, 0, grownCap w b.size 0 e⟩) (by rw [Ren.at_of h.next, Ren.set_same])
      rw [capOf_big, lenL_eq, hcl] at key
      rw [lenL_eq, hcl]
      exact key
    · cases hr1
  · cases hr1
end
end Go.Ax

namespace Go.Ax
open Go

section
variable {P : Program} {base : Nat} {ρ : Ren} {s s' : St} {w w' : World}

theorem run_forIn_unit {α : Type} (f : α → PUnit → Sem (ForInStep PUnit)) : ∀ (l : List α), (∀ x ∈ l, ∀ u, (f x u).run P w = .ok (.yield ⟨⟩) w) → (forIn (m := Sem) l PUnit.unit f).run P w = .ok ⟨⟩ w
  | [], _ => by simp
  | x :: l, h => by
    rw [List.forIn_cons, Sem.run_bind, h x (by simp)]
    exact run_forIn_unit f l (fun y hy => h y (by simp [hy]))

theorem plainT_some {t : TypeId} (h : plainT P t = true) : ∃ d, P.underlying t = some d ∧ plainD d = true := by
  unfold plainT at h
  cases hu : P.underlying t with
  | none => rw [hu] at h; cases h
  | some d => rw [hu] at h; exact ⟨d, rfl, h⟩

theorem checkKey_plain {t : TypeId} {d : TypeDesc} (hu : P.underlying t = some d) (hd : plainD d = true) (b : Bool) (n : Nat) (v : Value) : (Instr.checkKey b (n + 1) t v).run P w = .ok () w := by
  unfold Instr.checkKey
  cases d <;> first | (exact Bool.noConfusion (show false = true from hd)) | (simp only [Sem.run_bind, run_underlying hu, Result.andThen_ok, Sem.run_pure])

theorem part_plain {t : TypeId} {d : TypeDesc} (hu : P.underlying t = some d) (hd : plainD d = true) (cs : Array Value) (o : Nat) (ho : o < cs.size) : (Go.part t cs o).run P w = .ok cs[o] w := by
  have hg : isAgg P t = some false := by
    unfold isAgg
    rw [hu]
    show some (descAgg d) = _
    cases d <;> first | rfl | exact Bool.noConfusion (show false = true from hd)
  have h1 := run_isAgg (w := w) hg
  simp [Go.part, h1, ho]

theorem plainFs_mem {n : Nat} : ∀ {fs : List Field}, plainFs P n fs = true → ∀ f ∈ fs, plainT P f.type = true ∧ f.offset < n
  | [], _, f, hf => by cases hf
  | g :: fs, h, f, hf => by
    change sel (plainT P g.type && ltN g.offset n) (plainFs P n fs) false = true at h
    rw [sel_eq] at h
    split at h
    · rename_i hh
      simp only [Bool.and_eq_true] at hh
      rcases List.mem_cons.1 hf with rfl | hf
      · exact ⟨hh.1, ltN_some hh.2⟩
      · exact plainFs_mem h f hf
    · cases h

theorem checkKey_sound {t : TypeId} {d : TypeDesc} {k k' : Value} (hu : P.underlying t = some d) (h : keyOk P d k = true) (hk : VR ρ k k') (b : Bool) (n : Nat) : (Instr.checkKey b (n + 2) t k').run P w = .ok () w := by
  unfold keyOk at h
  split at h
  · rename_i len e
    split at h
    · rename_i cs
      cases hk with
      | @agg _ cl hcs =>
        simp only [Bool.and_eq_true] at h
        obtain ⟨⟨h1, h2⟩, h3⟩ := h
        have h1 := Nat.le_of_ble_eq_true h1
        rw [lenL_eq] at h1
        have h1 : len ≤ cs.length := h1
        obtain ⟨d2, hu2, hd2⟩ := plainT_some h2
        have hsz : (Go.sizeOf e).run P w = .ok 1 w := by
          cases hs : size P e with
          | none => rw [hs] at h3; cases h3
          | some m => rw [hs] at h3; have := Nat.eq_of_beq_eq_true h3; subst this; exact run_sizeOf hs
        have hlen := hcs.length
        unfold Instr.checkKey
        simp only [Sem.run_bind, run_underlying hu, Result.andThen_ok]
        rw [Std.Legacy.Range.forIn_eq_forIn_range']
        rw [run_forIn_unit]
        · rfl
        · intro i hi u
          simp [Std.Legacy.Range.size] at hi
          have hp := part_plain (w := w) hu2 hd2 ⟨cl⟩ i (by simp; omega)
          simp [hsz, hp, checkKey_plain hu2 hd2]
    · cases h
  · rename_i fs
    split at h
    · rename_i cs
      cases hk with
      | @agg _ cl hcs =>
        have hlen := hcs.length
        unfold Instr.checkKey
        simp only [Sem.run_bind, run_underlying hu, Result.andThen_ok]
        rw [← Array.forIn_toList, run_forIn_unit]
        · rfl
        · intro f hf u
          obtain ⟨h1, h2⟩ := plainFs_mem h f hf
          rw [lenL_eq] at h2
          obtain ⟨d2, hu2, hd2⟩ := plainT_some h1
          have hp := part_plain (w := w) hu2 hd2 ⟨cl⟩ f.offset (by simp; omega)
          split
          · simp [hp, checkKey_plain hu2 hd2]
          · rfl
    · cases h
  · exact checkKey_plain hu h b (n + 1) k'
end
end Go.Ax

namespace Go.Ax
open Go

section
variable {P : Program} {base : Nat} {ρ : Ren} {s s' : St} {w w' : World}

theorem eqAt_at {C : Cfg} (hC : C.P = P) {t : TypeId} {d : TypeDesc} (hu : P.underlying t = some d) (x y : Value) (hd : plainD d = true) : eqAt C t x y = eqD P d x y := by
  subst hC
  show eqStep C (Nat.rec (fun _ _ _ => none) (fun _ ih => eqStep C ih) 5) t x y = _
  unfold eqStep
  rw [hu]
  cases d <;> first | rfl | exact Bool.noConfusion (show false = true from hd)

theorem byteArray_beq (a b : ByteArray) : (a == b) = (a.data.toList == b.data.toList) := by
  have h1 : (a == b) = (a.data == b.data) := by
    first | rfl | (cases a; cases b; rfl)
  rw [h1]
  rw [Bool.eq_iff_iff]
  simp only [beq_iff_eq]
  exact ⟨fun h => by rw [h], fun h => Array.ext' h⟩

theorem sameNow_ok {C : Cfg} (hC : C.P = P) {t : TypeId} {d : TypeDesc} (hu : P.underlying t = some d) {k e k' e' : Value} (hk : VR ρ k k') (he : VR ρ e e') {b : Bool} (h : eqAt C t k e = some b) :
    Instr.sameNow d k' e' = some b ∨ Instr.sameNow d k' e' = none := by
  cases d with
  | int q =>
    rw [eqAt_at hC hu _ _ rfl] at h
    unfold eqD at h
    simp only at h
    split at h
    · split at h
      · cases hk
        cases he
        have hg := kindEq_eq (guard_some.1 h).1
        have h2 := Option.some.inj (guard_some.1 h).2
        subst hg
        left
        rw [eqI_eq] at h2
        rw [← h2]
        simp [Instr.sameNow]
        rw [Bool.eq_iff_iff]; simp
      · cases h
    · cases h
  | bool =>
    rw [eqAt_at hC hu _ _ rfl] at h
    unfold eqD at h
    simp only at h
    split at h
    · split at h
      · cases hk
        cases he
        left
        exact h
      · cases h
    · cases h
  | string =>
    rw [eqAt_at hC hu _ _ rfl] at h
    unfold eqD at h
    simp only at h
    split at h
    · split at h
      · cases hk
        cases he
        left
        rw [eqBytes_eq] at h
        rw [← h]
        simp only [Instr.sameNow, byteArray_beq]
      · cases h
    · cases h
  | _ => right; simp [Instr.sameNow]

inductive FoundR (ρ : Ren) : Option (Nat × Value) → Option (Nat × Value) → Prop
  | none : FoundR ρ none none
  | some (i : Nat) {v v' : Value} (h : VR ρ v v') : FoundR ρ (some (i, v)) (some (i, v'))

theorem findKey_cons (C : Cfg) (t : TypeId) (k : Value) (e : MapEntry) (l : List MapEntry) (i : Nat) :
    findKey C t k (e :: l) i = obind (eqAt C t k e.key) fun b => sel b (some (some (i, e.val))) (findKey C t k l (Nat.succ i)) := rfl

theorem findAsking_sound {C : Cfg} (hC : C.P = P) (hO : EqOk C) {t : TypeId} {k k' : Value} (hk : VR ρ k k') : ∀ {es es' : List MapEntry} (i : Nat) {q : Option (Nat × Value)}, EsR ρ es es' → findKey C t k es i = some q →
    ∃ q', (Instr.findAsking t k' es' i).run P w = .ok q' w ∧ FoundR ρ q q'
  | _, _, i, q, .nil, h => by
    cases h
    exact ⟨none, by simp [Instr.findAsking], .none⟩
  | _, _, i, q, .cons hke hv hb hes, h => by
    rw [findKey_cons] at h
    obtain ⟨b, hbb, h2⟩ := obind_some.1 h
    have heq := equal_sound (w := w) hC hO hbb hk hke
    cases b with
    | true =>
      cases h2
      exact ⟨_, by simp [Instr.findAsking, heq], .some i hv⟩
    | false =>
      obtain ⟨q', h3, h4⟩ := findAsking_sound hC hO hk (i + 1) hes h2
      exact ⟨q', by simp [Instr.findAsking, heq, h3], h4⟩

theorem findNow_sound {C : Cfg} (hC : C.P = P) {t : TypeId} {d : TypeDesc} (hu : P.underlying t = some d) {k k' : Value} (hk : VR ρ k k') : ∀ {es es' : List MapEntry} (i : Nat) {q : Option (Nat × Value)}, EsR ρ es es' → findKey C t k es i = some q →
    Instr.findNow d k' es' i = none ∨ ∃ q', Instr.findNow d k' es' i = some q' ∧ FoundR ρ q q'
  | _, _, i, q, .nil, h => by
    cases h
    exact .inr ⟨none, rfl, .none⟩
  | _, _, i, q, .cons hke hv hb hes, h => by
    rw [findKey_cons] at h
    obtain ⟨b, hbb, h2⟩ := obind_some.1 h
    rcases sameNow_ok hC hu hk hke hbb with hs | hs
    · cases b with
      | true =>
        cases h2
        exact .inr ⟨_, by simp only [Instr.findNow, hs], .some i hv⟩
      | false =>
        rcases findNow_sound hC hu hk (i + 1) hes h2 with h3 | ⟨q', h3, h4⟩
        · left; simp only [Instr.findNow, hs, h3]
        · exact .inr ⟨q', by simp only [Instr.findNow, hs, h3], h4⟩
    · left
      simp only [Instr.findNow, hs]

theorem seek_sound {C : Cfg} (hC : C.P = P) (hO : EqOk C) {t : TypeId} {k k' : Value} (hk : VR ρ k k') {es : List MapEntry} {es' : Array MapEntry} (hes : EsR ρ es es'.toList) {q : Option (Nat × Value)} (h : seek C t k es = some q) :
    (∀ b, (Instr.checkKey b 10000 t k').run P w = .ok () w) ∧ ∃ q', (Instr.findKey t k' es'.toList).run P w = .ok q' w ∧ FoundR ρ q q' := by
  unfold seek at h
  obtain ⟨d, hu, h⟩ := obind_some.1 h
  obtain ⟨hg, h⟩ := guard_some.1 h
  rw [hC] at hu hg
  refine ⟨fun b => checkKey_sound hu hg hk b 9998, ?_⟩
  rcases findNow_sound hC hu hk 0 hes h with h1 | ⟨q', h1, h2⟩
  · obtain ⟨q', h3, h4⟩ := findAsking_sound (w := w) hC hO hk 0 hes h
    exact ⟨q', by simp [Instr.findKey, run_underlying hu, h1, h3], h4⟩
  · exact ⟨q', by simp [Instr.findKey, run_underlying hu, h1], h2⟩

theorem lookup_sound (h : HR P base ρ s w) {C : Cfg} (hC : C.P = P) (hO : EqOk C) (hZ : ZeroOk P) {t : TypeId} {m k m' k' : Value} {ok : Bool} (hm : VR ρ m m') (hk : VR ρ k k') {r : Res} (hr : lookup C s t m k ok = some r) :
    ResR P base ρ s w (Sem.run P (do pure (.value (← Instr.lookup t m' k' ok))) w) r := by
  unfold Ax.lookup at hr
  rw [hC] at hr
  split at hr
  · rename_i kt e hu
    obtain ⟨q, hq, hr⟩ := obind_some.1 hr
    have key : ∀ (es : List MapEntry) (es' : Array MapEntry), EsR ρ es es'.toList → seek C kt k es = some q →
        ∃ x v, Sem.run P (do
          Instr.checkKey es'.isEmpty 10000 kt k'
          let (v, b) ← match ← Instr.findKey kt k' es'.toList with
            | some (_, v) => pure (v, true)
            | none => pure (← zeroValue e, false)
          pure (if ok then .tuple #[v, .bool b] else v)) w = .ok x w ∧ r = .val v s ∧ VR ρ v x := by
      intro es es' he hs
      obtain ⟨h1, q', h2, h3⟩ := seek_sound (w := w) hC hO hk he hs
      cases h3 with
      | none =>
        obtain ⟨z, hz, hr⟩ := obind_some.1 hr
        have hr := ret_some hr
        have hzr := run_zeroVal (w := w) hz
        have hzv := ZeroOk.at (ρ := ρ) hZ hz
        cases ok
        · exact ⟨z, z, by simp [h1, h2, hzr], hr, hzv⟩
        · exact ⟨_, _, by simp [h1, h2, hzr], hr, .tuple (.cons hzv (.cons (.bool _) .nil))⟩
      | some i hv =>
        have hr := ret_some hr
        cases ok
        · exact ⟨_, _, by simp [h1, h2], hr, hv⟩
        · exact ⟨_, _, by simp [h1, h2], hr, .tuple (.cons hv (.cons (.bool _) .nil))⟩
    split at hq
    · cases hm
      obtain ⟨x, v, h1, h2, h3⟩ := key [] #[] .nil hq
      rw [h2]
      have hrun : (Instr.lookup t (.map none) k' ok).run P w = .ok x w := by
        unfold Instr.lookup
        simp only [Sem.run_bind, run_underlying hu, Result.andThen_ok, Sem.run_pure] at h1 ⊢
        exact h1
      simp only [Sem.run_bind, hrun, Result.andThen_ok, Sem.run_pure]
      exact gives_pure h h3
    · obtain ⟨⟨es, c⟩, hg, hq⟩ := obind_some.1 hq
      cases hm with
      | @map _ l hl =>
        obtain ⟨l2, h1, _, es', h2, h3⟩ := getMap_sound h hg
        obtain rfl : l2 = l := by rw [hl] at h1; exact (Option.some.inj h1).symm
        obtain ⟨x, v, h1, h4, h5⟩ := key es es' h3 hq
        rw [h4]
        have hrun : (Instr.lookup t (.map (some l2.blk)) k' ok).run P w = .ok x w := by
          unfold Instr.lookup
          simp only [Sem.run_bind, run_underlying hu, Result.andThen_ok, Sem.run_pure, run_getObj h2 (by simp)] at h1 ⊢
          exact h1
        simp only [Sem.run_bind, hrun, Result.andThen_ok, Sem.run_pure]
        exact gives_pure h h5
    · cases hq
  · cases hr
end
end Go.Ax

namespace Go.Ax
open Go

/-! ### values that are the same -/
theorem sameLoc_eq {a b : Addr} (h : sameLoc a b = true) : a = b := by
  unfold sameLoc at h
  simp only [Bool.and_eq_true] at h
  obtain ⟨⟨⟨h1, h2⟩, h3⟩, h4⟩ := h
  have h1 := Nat.eq_of_beq_eq_true h1
  have h2 := Nat.eq_of_beq_eq_true h2
  cases a with
  | mk b1 o1 s1 => cases b with
    | mk b2 o2 s2 =>
      cases s1 <;> first | cases h3 | skip
      cases s2 <;> first | cases h4 | skip
      congr
theorem sameOpt_eq {a b : Option Addr} (h : sameOpt a b = true) : a = b := by
  cases a with
  | none => cases b with
    | none => rfl
    | some b => cases h
  | some a => cases b with
    | none => cases h
    | some b => rw [sameLoc_eq h]
theorem sameOptN_eq {a b : Option Nat} (h : sameOptN a b = true) : a = b := by
  cases a with
  | none => cases b with
    | none => rfl
    | some b => cases h
  | some a => cases b with
    | none => cases h
    | some b => rw [Nat.eq_of_beq_eq_true (show Nat.beq a b = true from h)]
theorem sameL_eq {f : Value → Value → Bool} (hf : ∀ a b, f a b = true → a = b) : ∀ {l r : List Value}, sameL f l r = true → l = r
  | [], [], _ => rfl
  | [], _ :: _, h => by cases h
  | _ :: _, [], h => by cases h
  | a :: l, b :: r, h => by
    change sel (f a b) (sameL f l r) false = true at h
    rw [sel_eq] at h
    split at h
    · rename_i hh
      rw [hf a b hh, sameL_eq hf h]
    · cases h
theorem sameStep_eq {f : Value → Value → Bool} (hf : ∀ a b, f a b = true → a = b) {x y : Value} (h : sameStep f x y = true) : x = y := by
  cases x <;> cases y <;> first | (exact Bool.noConfusion (show false = true from h)) | skip
  case bool a b => exact congrArg Value.bool (by simpa [sameStep] using h)
  case int j a k b =>
    have h : (kindEq j k && eqI a b) = true := h
    simp only [Bool.and_eq_true, eqI_eq, decide_eq_true_eq] at h
    rw [kindEq_eq h.1, h.2]
  case string a b =>
    have h : eqBytes a.data.toList b.data.toList = true := h
    rw [eqBytes_eq] at h
    have h : a.data.toList = b.data.toList := by simpa using h
    exact congrArg Value.string (ByteArray.ext (Array.ext' h))
  case pointer a b => exact congrArg Value.pointer (sameOpt_eq h)
  case slice a n c b m d =>
    have h : (sameOpt a b && Nat.beq n m && Nat.beq c d) = true := h
    simp only [Bool.and_eq_true] at h
    rw [sameOpt_eq h.1.1, Nat.eq_of_beq_eq_true h.1.2, Nat.eq_of_beq_eq_true h.2]
  case map a b => exact congrArg Value.map (sameOptN_eq h)
  case nilFunc => rfl
  case func g a b h' c d =>
    have h : (sameFn g h' && sameL f a.toList c.toList && sameL f b.toList d.toList) = true := h
    simp only [Bool.and_eq_true] at h
    have e1 : g = h' := by
      have hq := h.1.1
      cases g <;> cases h' <;> first | (exact Bool.noConfusion (show false = true from hq)) | (rw [Nat.eq_of_beq_eq_true hq])
    have e2 := Array.ext' (sameL_eq hf h.1.2)
    have e3 := Array.ext' (sameL_eq hf h.2)
    rw [e1, e2, e3]
  case chan a b => exact congrArg Value.chan (sameOptN_eq h)
  case complex k a b k' c d =>
    have h : (isF64 k && isF64 k' && Nat.beq a c && Nat.beq b d) = true := h
    simp only [Bool.and_eq_true] at h
    cases k <;> cases k' <;> first | (exact Bool.noConfusion h.1.1.1) | (exact Bool.noConfusion h.1.1.2) | (rw [Nat.eq_of_beq_eq_true h.1.2, Nat.eq_of_beq_eq_true h.2])
  case float k a k' b =>
    have h : (isF64 k && isF64 k' && Nat.beq a b) = true := h
    simp only [Bool.and_eq_true] at h
    cases k <;> cases k' <;> first | (exact Bool.noConfusion h.1.1) | (exact Bool.noConfusion h.1.2) | (rw [Nat.eq_of_beq_eq_true h.2])
  case iface t v u w =>
    have h : (Nat.beq t u && f v w) = true := h
    simp only [Bool.and_eq_true] at h
    rw [Nat.eq_of_beq_eq_true h.1, hf _ _ h.2]
  case nilIface => rfl
  case agg a b =>
    cases a with
    | mk a => cases b with
      | mk b => rw [sameL_eq hf (show sameL f a b = true from h)]
  case tuple a b =>
    cases a with
    | mk a => cases b with
      | mk b => rw [sameL_eq hf (show sameL f a b = true from h)]
theorem sameV_eq : ∀ (n : Nat) {x y : Value}, sameV n x y = true → x = y
  | 0, _, _, h => by cases h
  | n + 1, _, _, h => sameStep_eq (fun a b => sameV_eq n) h

section
variable {P : Program} {base : Nat} {ρ : Ren} {s s' : St} {w w' : World}

theorem bitsOne_refl {v c : Value} (hv : VR ρ v c) (h : bitsOne v = true) (n : Nat) : Instr.sameBits n c c = true := by
  cases hv <;> first | (exact Bool.noConfusion (show false = true from h)) | skip
  · simp [Instr.sameBits]
  · simp [Instr.sameBits]
  · simp only [Instr.sameBits, byteArray_beq]; simp

theorem bitsAll_mem {l cl : List Value} (hv : VRs ρ l cl) (h : bitsAll l = true) : ∀ c ∈ cl, ∀ n, Instr.sameBits n c c = true := by
  induction l generalizing cl with
  | nil => cases hv; intro c hc; cases hc
  | cons a t ih =>
    cases hv with
    | cons h1 ht =>
      change sel (bitsOne a) (bitsAll t) false = true at h
      rw [sel_eq] at h
      split at h
      · rename_i hh
        intro c hc n
        rcases List.mem_cons.1 hc with rfl | hc
        · exact bitsOne_refl h1 hh n
        · exact ih ht h c hc n
      · cases h

theorem all_zip_self (l : List Value) (f : Value → Value → Bool) (h : ∀ c ∈ l, f c c = true) : (l.zip l).all (fun (x, y) => f x y) = true := by
  induction l with
  | nil => rfl
  | cons a t ih =>
    simp only [List.zip_cons_cons, List.all_cons, Bool.and_eq_true]
    exact ⟨h a (by simp), ih fun c hc => h c (by simp [hc])⟩

theorem bitsKey_refl {v c : Value} (hv : VR ρ v c) (h : bitsKey v = true) : Instr.sameBits 10000 c c = true := by
  unfold bitsKey at h
  split at h
  · cases hv with
    | @agg _ cl hl =>
      show Instr.sameBits (9999 + 1) (.agg ⟨cl⟩) (.agg ⟨cl⟩) = true
      simp only [Instr.sameBits, beq_self_eq_true, Bool.true_and]
      exact all_zip_self cl _ fun c hc => bitsAll_mem hl h c hc 9999
  · exact bitsOne_refl hv h _

/-- A value of the executor's has one value of the model's. -/
theorem FR.unique {f g g' : Fn} (h : FR ρ f g) (h' : FR ρ f g') : g = g' := by
  cases h <;> cases h' <;> first | rfl | skip
  rename_i l q hq q' hq'
  rw [hq] at hq'
  cases hq'
  rfl
theorem bitsOne_unique {v c c' : Value} (hv : VR ρ v c) (hv' : VR ρ v c') (h : bitsOne v = true) : c = c' := by
  cases hv <;> first | (exact Bool.noConfusion (show false = true from h)) | (cases hv'; rfl)

theorem bitsAll_unique {l c c' : List Value} (hv : VRs ρ l c) (hv' : VRs ρ l c') (h : bitsAll l = true) : c = c' := by
  induction l generalizing c c' with
  | nil => cases hv; cases hv'; rfl
  | cons a t ih =>
    cases hv with
    | cons h1 ht => cases hv' with
      | cons h1' ht' =>
        change sel (bitsOne a) (bitsAll t) false = true at h
        rw [sel_eq] at h
        split at h
        · rename_i hh
          rw [bitsOne_unique h1 h1' hh, ih ht ht' h]
        · cases h

theorem bitsKey_unique {v c c' : Value} (hv : VR ρ v c) (hv' : VR ρ v c') (h : bitsKey v = true) : c = c' := by
  unfold bitsKey at h
  split at h
  · cases hv with
    | agg hl => cases hv' with
      | agg hl' => rw [bitsAll_unique hl hl' h]
  · exact bitsOne_unique hv hv' h

theorem EsR.get {es es' : List MapEntry} (h : EsR ρ es es') : ∀ {i : Nat} {e : MapEntry}, es[i]? = some e → ∃ e', es'[i]? = some e' ∧ VR ρ e.key e'.key ∧ VR ρ e.val e'.val ∧ e.born = e'.born := by
  induction h with
  | nil => intro i e hi; simp at hi
  | cons hk hv hb _ ih =>
    intro i e hi
    cases i with
    | zero => simp at hi; subst hi; exact ⟨_, rfl, hk, hv, hb⟩
    | succ i => simp at hi; simpa using ih hi

theorem keepsKey_sound {es : List MapEntry} {es' : Array MapEntry} (h : EsR ρ es es'.toList) {i : Nat} {k k' : Value} (hk : VR ρ k k') (hg : keepsKey es i k = true) :
    (Instr.keyThatStays (((es'[i]?).map (·.key)).getD k') k').run P w = .ok k' w := by
  unfold keepsKey at hg
  rw [nth_eq] at hg
  cases he : es[i]? with
  | none => rw [he] at hg; cases hg
  | some e =>
    rw [he] at hg
    change (bitsKey k && sameV 2 e.key k) = true at hg
    simp only [Bool.and_eq_true] at hg
    obtain ⟨e', h1, h2, _, _⟩ := h.get he
    have := sameV_eq 2 hg.2
    rw [this] at h2
    have hu := bitsKey_unique h2 hk hg.1
    have h1 : es'[i]? = some e' := by simpa using h1
    have hb := bitsKey_refl hk hg.1
    simp [Instr.keyThatStays, h1, hu, hb]

theorem EsR.snoc {es es' : List MapEntry} {e e' : MapEntry} (h : EsR ρ es es') (hk : VR ρ e.key e'.key) (hv : VR ρ e.val e'.val) (hb : e.born = e'.born) : EsR ρ (es ++ [e]) (es' ++ [e']) := by
  induction h with
  | nil => exact .cons hk hv hb .nil
  | cons hk' hv' hb' _ ih => exact .cons hk' hv' hb' ih

theorem modL_eq (f : MapEntry → MapEntry) (n : Nat) : ∀ (l : List MapEntry), modL f l n = l.modify n f := by
  induction n with
  | zero => intro l; cases l <;> rfl
  | succ n ih => intro l; cases l with
    | nil => rfl
    | cons a t =>
      show a :: modL f t n = _
      rw [ih]; rfl

theorem EsR.modify {es es' : List MapEntry} {f f' : MapEntry → MapEntry} (h : EsR ρ es es') (hf : ∀ e e', VR ρ e.key e'.key → VR ρ e.val e'.val → e.born = e'.born → VR ρ (f e).key (f' e').key ∧ VR ρ (f e).val (f' e').val ∧ (f e).born = (f' e').born) :
    ∀ (n : Nat), EsR ρ (es.modify n f) (es'.modify n f') := by
  induction h with
  | nil => intro n; cases n <;> exact .nil
  | cons hk hv hb ht ih =>
    intro n
    cases n with
    | zero =>
      obtain ⟨h1, h2, h3⟩ := hf _ _ hk hv hb
      exact .cons h1 h2 h3 ht
    | succ n => exact .cons hk hv hb (ih n)

theorem run_setMap {r : Nat} {es : Array MapEntry} {c : Nat} (o : Obj) (h : w.heap[r]? = some (.map es c)) : (setObj r o).run P w = .ok () { w with heap := w.heap.setIfInBounds r o } := by
  simp [setObj, Sem.run, h]

theorem toList_modify (a : Array MapEntry) (i : Nat) (f : MapEntry → MapEntry) : (a.modify i f).toList = a.toList.modify i f := by
  apply List.ext_getElem?
  intro j
  simp [List.getElem?_modify]

theorem withMap_some {m m' : Value} {k : Nat → List MapEntry → Nat → Option Res} {r : Res} (h : HR P base ρ s w) (hm : VR ρ m m') (hr : withMap s m k = some r) :
    ∃ i l es c es', m' = .map (some l.blk) ∧ ρ i = some l ∧ s.tag i = some (0, i) ∧ w.heap[l.blk]? = some (.map es' c) ∧ EsR ρ es es'.toList ∧ k i es c = some r := by
  unfold withMap at hr
  split at hr
  · obtain ⟨⟨es, c⟩, hg, hr⟩ := obind_some.1 hr
    cases hm with
    | @map _ l hl =>
      obtain ⟨l2, h1, h2, es', h3, h4⟩ := getMap_sound h hg
      obtain rfl : l2 = l := by rw [hl] at h1; exact (Option.some.inj h1).symm
      exact ⟨_, l2, es, c, es', rfl, hl, h2, h3, h4, hr⟩
  · cases hr

theorem mapUpdate_sound (h : HR P base ρ s w) {C : Cfg} (hC : C.P = P) (hO : EqOk C) {t kt e : TypeId} (hu : P.underlying t = some (.map kt e)) {m k x m' k' x' : Value} (hm : VR ρ m m') (hk : VR ρ k k') (hx : VR ρ x x') {r : Res} (hr : mapUpdate C s kt m k x = some r) :
    ResR P base ρ s w (Sem.run P (do Instr.mapUpdate t m' k' x'; pure .skip) w) r := by
  unfold Ax.mapUpdate at hr
  obtain ⟨i, l, es, c, es', rfl, hl, ht, hw, he, hr⟩ := withMap_some h hm hr
  obtain ⟨q, hq, hr⟩ := obind_some.1 hr
  obtain ⟨h1, q', h2, h3⟩ := seek_sound (w := w) hC hO hk he hq
  cases h3 with
  | none =>
    have hr := ret_some hr
    rw [hr, appL_eq]
    have hgo := Goes.putObj (r := .map (es ++ [{ key := k, val := x, born := c }]) (Nat.succ c)) (o := .map (es'.push { key := k', val := x', born := c }) (c + 1)) h ht hl (.inl ⟨_, _, rfl, _, rfl, by
      rw [Array.toList_push]
      exact he.snoc hk hx rfl⟩)
    have hrun : (Instr.mapUpdate t (.map (some l.blk)) k' x').run P w = .ok () { w with heap := w.heap.setIfInBounds l.blk (.map (es'.push { key := k', val := x', born := c }) (c + 1)) } := by
      simp [Instr.mapUpdate, run_underlying hu, run_getObj hw (by simp), h1, h2, run_setMap _ hw]
    simp only [Sem.run_bind, hrun, Result.andThen_ok, Sem.run_pure]
    exact gives_skip hgo
  | some j hv =>
    obtain ⟨hg, hr⟩ := guard_some.1 hr
    have hr := ret_some hr
    rw [hr, modL_eq]
    have hst := keepsKey_sound (P := P) (w := w) he hk hg
    have hgo := Goes.putObj (r := .map (es.modify j (setKV k x)) c) (o := .map (es'.modify j fun e => { e with key := k', val := x' }) c) h ht hl (.inl ⟨_, _, rfl, _, rfl, by
      rw [toList_modify]
      exact he.modify (f := setKV k x) (f' := fun e => { e with key := k', val := x' }) (fun e e' _ _ hb => ⟨hk, hx, hb⟩) j⟩)
    have hrun : (Instr.mapUpdate t (.map (some l.blk)) k' x').run P w = .ok () { w with heap := w.heap.setIfInBounds l.blk (.map (es'.modify j fun e => { e with key := k', val := x' }) c) } := by
      simp [Instr.mapUpdate, run_underlying hu, run_getObj hw (by simp), h1, h2, hst, run_setMap _ hw]
    simp only [Sem.run_bind, hrun, Result.andThen_ok, Sem.run_pure]
    exact gives_skip hgo

theorem bornAt_eq {es : List MapEntry} {es' : Array MapEntry} (h : EsR ρ es es'.toList) (i : Nat) : i64 (bornAt es i) = goInt (((es'[i]?).map (·.born)).getD 0) := by
  unfold bornAt
  rw [nth_eq]
  cases he : es[i]? with
  | none =>
    have hl : es'.toList[i]? = none := by
      rw [List.getElem?_eq_none_iff] at he ⊢
      have := h.length
      omega
    have : es'[i]? = none := by simpa using hl
    rw [this]; rfl
  | some e =>
    obtain ⟨e', h1, _, _, h2⟩ := h.get he
    have : es'[i]? = some e' := by simpa using h1
    rw [this]
    show i64 e.born = goInt e'.born
    rw [h2]; rfl

theorem mapEntry_sound (h : HR P base ρ s w) {C : Cfg} (hC : C.P = P) (hO : EqOk C) (hZ : ZeroOk P) {t kt e : TypeId} (hu : P.underlying t = some (.map kt e)) {m k m' k' : Value} (hm : VR ρ m m') (hk : VR ρ k k') {r : Res} (hr : mapEntry C s kt e m k = some r) :
    ResR P base ρ s w (Sem.run P (do pure (.value (← Instr.mapEntry t m' k'))) w) r := by
  unfold Ax.mapEntry at hr
  obtain ⟨i, l, es, c, es', rfl, hl, ht, hw, he, hr⟩ := withMap_some h hm hr
  obtain ⟨q, hq, hr⟩ := obind_some.1 hr
  obtain ⟨h1, q', h2, h3⟩ := seek_sound (w := w) hC hO hk he hq
  rw [hC] at hr
  cases h3 with
  | none =>
    obtain ⟨z, hz, hr⟩ := obind_some.1 hr
    have hr := ret_some hr
    rw [hr, appL_eq]
    have hzr := run_zeroVal (w := w) hz
    have hzv := ZeroOk.at (ρ := ρ) hZ hz
    have hgo := Goes.putObj (r := .map (es ++ [{ key := k, val := z, born := c }]) (Nat.succ c)) (o := .map (es'.push { key := k', val := z, born := c }) (c + 1)) h ht hl (.inl ⟨_, _, rfl, _, rfl, by
      rw [Array.toList_push]
      exact he.snoc hk hzv rfl⟩)
    have hrun : (Instr.mapEntry t (.map (some l.blk)) k').run P w = .ok (.tuple #[z, goInt c]) { w with heap := w.heap.setIfInBounds l.blk (.map (es'.push { key := k', val := z, born := c }) (c + 1)) } := by
      simp [Instr.mapEntry, run_underlying hu, run_getObj hw (by simp), h1, h2, hzr, run_setMap _ hw]
    simp only [Sem.run_bind, hrun, Result.andThen_ok, Sem.run_pure]
    exact gives_val hgo (.tuple (.cons hzv (.cons (.int _ _) .nil)))
  | some j hv =>
    obtain ⟨hg, hr⟩ := guard_some.1 hr
    have hr := ret_some hr
    rw [hr, modL_eq]
    have hst := keepsKey_sound (P := P) (w := w) he hk hg
    have hgo := Goes.putObj (r := .map (es.modify j (setKey k)) c) (o := .map (es'.modify j fun e => { e with key := k' }) c) h ht hl (.inl ⟨_, _, rfl, _, rfl, by
      rw [toList_modify]
      exact he.modify (f := setKey k) (f' := fun e => { e with key := k' }) (fun e e' _ hv hb => ⟨hk, hv, hb⟩) j⟩)
    have hrun := (show (Instr.mapEntry t (.map (some l.blk)) k').run P w = .ok (.tuple #[_, goInt (((es'[j]?).map (·.born)).getD 0)]) { w with heap := w.heap.setIfInBounds l.blk (.map (es'.modify j fun e => { e with key := k' }) c) } from by
      simp [Instr.mapEntry, run_underlying hu, run_getObj hw (by simp), h1, h2, hst, run_setMap _ hw]
      rfl)
    simp only [Sem.run_bind, hrun, Result.andThen_ok, Sem.run_pure]
    exact gives_val hgo (.tuple (.cons hv (.cons (by first | exact .int _ _ | (rw [bornAt_eq he]; exact .int _ _)) .nil)))
end
end Go.Ax

namespace Go.Ax
open Go

section
variable {P : Program} {base : Nat} {ρ : Ren} {s s' : St} {w w' : World} {C : Cfg}

/-! ### pointers seen as unsafe.Pointer, and back -/
theorem liesIn_mem {l : List (Nat × Nat × Nat × Nat)} {e n o u : Nat} (h : liesIn l e n o u = true) : (e, n, o, u) ∈ l := by
  induction l with
  | nil => cases h
  | cons p t ih =>
    have h : sel (Nat.beq p.1 e && (Nat.beq p.2.1 n && (Nat.beq p.2.2.1 o && Nat.beq p.2.2.2 u))) true (liesIn t e n o u) = true := h
    rw [sel_eq] at h
    split at h
    · rename_i hb
      simp only [Bool.and_eq_true] at hb
      obtain ⟨a, b, c, d⟩ := p
      simp only at hb
      rw [Nat.eq_of_beq_eq_true hb.1, Nat.eq_of_beq_eq_true hb.2.1, Nat.eq_of_beq_eq_true hb.2.2.1, Nat.eq_of_beq_eq_true hb.2.2.2]
      exact List.mem_cons_self
    · exact List.mem_cons_of_mem _ (ih h)

theorem convPtr_sound (h : HR P base ρ s w) (hP : C.P = P) (hl : ∀ q, q ∈ C.lies → liesAt P P.depth q.1 (q.2.1 / P.cellsOf q.1) q.2.2.1 q.2.2.2 1 = true) {src dst : TypeId} {x c v : Value} (hx : VR ρ x c) (hr : convPtr C s src dst x = some v) :
    VR ρ v c ∧ (Go.convert src dst c).run P w = .ok c w := by
  unfold convPtr at hr
  split at hr
  · rename_i a
    obtain ⟨⟨cs, e, f⟩, hc, hr⟩ := obind_some.1 hr
    obtain ⟨h0, hr⟩ := guard_some.1 hr
    have h0 : f = 0 := Nat.eq_of_beq_eq_true h0
    subst h0
    rw [hP] at hr
    obtain ⟨l, hrow⟩ := h.rows _ _ _ _ hc
    obtain ⟨hat, arr, fz, ha, _, _, h0, _⟩ := hrow
    obtain ⟨h1, h2, _⟩ := h0 rfl
    cases hx with
    | @ptr b o L hL =>
      have hLl : L = l := by
        have hat : ρ.at b = some l := hat
        rw [hL] at hat
        exact Option.some.inj hat
      subst hLl
      have hsh : w.shape? L.blk = some (e, arr.size) := by simp [World.shape?, ha]
      split at hr
      · rename_i hd
        unfold ptrTo at hr
        rw [hP] at hr
        split at hr
        · rename_i t hs
          obtain ⟨n, hn, hr⟩ := obind_some.1 hr
          obtain ⟨hg, hr⟩ := guard_some.1 hr
          cases hr
          simp only [Bool.and_eq_true] at hg
          have g1 := Nat.le_of_ble_eq_true hg.1
          have g2 := ltN_some hg.2
          rw [lenL_eq] at g2
          obtain ⟨j, hj, hjn⟩ := Option.map_eq_some_iff.1 (show (P.info? t).map (·.size) = some n from hn)
          refine ⟨.ptr hL, Lib.run_to_unsafe w ⟨L.blk, L.off + o, none⟩ hs hd hj (by omega) hsh ?_⟩
          show L.off + o < arr.size
          have g2 : o < cs.length := g2
          omega
        · cases hr
      · rename_i u hd
        unfold ptrFrom at hr
        rw [hP] at hr
        split at hr
        · rename_i hs
          obtain ⟨hg, hr⟩ := guard_some.1 hr
          cases hr
          simp only [Bool.and_eq_true] at hg
          obtain ⟨j, hj⟩ := Option.isSome_iff_exists.1 hg.2
          have hm := hl _ (liesIn_mem hg.1)
          refine ⟨.ptr hL, Lib.run_from_unsafe w ⟨L.blk, L.off + o, none⟩ hs hd hj hsh ?_⟩
          have hm : liesAt P P.depth e (lenL cs / P.cellsOf e) o u 1 = true := hm
          rw [lenL_eq, ← h2] at hm
          rw [h1, Nat.zero_add]
          exact hm
        · cases hr
      · cases hr
  · cases hr

/-! ### unsafe.SliceData -/
theorem bSliceData_sound (h : HR P base ρ s w) {x c : Value} (hx : VR ρ x c) (ts : Array TypeId) (ty : TypeId) {r : Res} (hr : bSliceData s x = some r) :
    ResR P base ρ s w (Sem.run P (do pure (.value (← Builtin.unsafeSliceData_ ts ty #[c]))) w) r := by
  unfold bSliceData at hr
  split at hr
  · rw [ret_some hr]
    cases hx
    simp only [Sem.run_bind, Lib.run_unsafeSliceData_nil, Result.andThen_ok, Sem.run_pure]
    exact gives_pure h .ptrNil
  · rename_i a n k
    obtain ⟨hg, hr⟩ := guard_some.1 hr
    simp only [Bool.and_eq_true] at hg
    cases hx with
    | dead A K => exact Bool.noConfusion hg.2
    | @slice b o _ _ L hL =>
      rw [sel_eq] at hr
      split at hr
      · rename_i hk
        obtain ⟨h1, hr⟩ := guard_some.1 hr
        rw [ret_some hr]
        have h1 := Nat.le_of_ble_eq_true h1
        have hk := ltN_some hk
        rw [capOf_known hk]
        simp only [Sem.run_bind, Lib.run_unsafeSliceData_row w ts ty _ _ _ (show k ≠ 0 by omega), Result.andThen_ok, Sem.run_pure]
        exact gives_pure h (.ptr hL)
      · obtain ⟨⟨cs, e, f⟩, hc, hr1⟩ := obind_some.1 hr
        obtain ⟨hg2, hr2⟩ := guard_some.1 hr1
        simp only [Bool.and_eq_true] at hg2
        have e1 : k = bigCap := Nat.eq_of_beq_eq_true hg2.1
        subst e1
        have hf : f ≠ 0 := by
          rintro rfl
          exact Bool.noConfusion hg2.2.1
        have hlen : 1 ≤ cs.length := by
          have := Nat.le_of_ble_eq_true hg2.2.2
          rwa [lenL_eq] at this
        rw [ret_some hr2]
        obtain ⟨l, hrow⟩ := h.rows _ _ _ _ hc
        obtain ⟨hat, arr, fz, ha, _, _, _, hn⟩ := hrow
        have hLl : L = l := by
          have hat : ρ.at b = some l := hat
          rw [hL] at hat
          exact Option.some.inj hat
        subst hLl
        obtain ⟨m, hm, hm0, hm1, hm2⟩ := hn hf
        have hcap : L.cap ≠ 0 := by
          intro h0
          rw [h0] at hm2
          omega
        rw [capOf_big]
        simp only [Sem.run_bind, Lib.run_unsafeSliceData_row w ts ty _ _ _ hcap, Result.andThen_ok, Sem.run_pure]
        exact gives_pure h (.ptr hL)
  · cases hr

/-! ### unsafe.String -/
theorem liesAt_at {e : TypeId} (hc : P.cellsOf e = 1) (count off n : Nat) (hn : off + n ≤ count) : liesAt P P.depth e count off e n = true := by
  have hd : P.depth = (2 * (P.types.size + Made.depth) + 1) + 1 := rfl
  rw [hd]
  simp only [liesAt, Bool.or_eq_true]
  left
  rw [hd]
  simp [rowAt, hc, hn, sameLayout, Nat.mod_one]

theorem run_loadBytes_ints (w : World) : ∀ (l : List Int) (a : Addr) (acc : ByteArray), (∀ (j : Nat) (x : Int), l[j]? = some x → w.cell? (a.add j) = some (.int .u8 x)) →
    (loadBytes a acc l.length).run P w = .ok ⟨acc.data ++ (l.map fun x => UInt8.ofNat x.toNat).toArray⟩ w
  | [], a, acc, _ => by simp [loadBytes]
  | x :: l, a, acc, h => by
    have h0 : w.cell? a = some (.int .u8 x) := by
      have := h 0 x rfl
      simpa [Addr.add] using this
    have ih := run_loadBytes_ints w l (a.add 1) (acc.push x.toNat.toUInt8) (fun j y hy => by
      have := h (j + 1) y (by simpa using hy)
      have e : (a.add 1).add j = a.add (j + 1) := by
        unfold Addr.add
        by_cases hj : j = 0
        · subst hj; simp
        · simp [hj]; omega
      rw [e]; exact this)
    simp only [List.length_cons, loadBytes, Sem.run_bind, run_load, h0, Result.andThen]
    rw [ih]
    congr 1
    apply ByteArray.ext
    simp [ByteArray.push]

theorem run_unsafeString_at (w : World) (ts : Array TypeId) (pt ty e : TypeId) (ht : ts[0]? = some pt) (hp : P.underlying pt = some (.pointer e)) (hc : P.cellsOf e = 1) (g o cells : Nat) (hsh : w.shape? g = some (e, cells)) (l : List Int) (h0 : l ≠ []) (hn : o + l.length ≤ cells) (h63 : l.length ≤ 9223372036854775807)
    (hcell : ∀ (j : Nat) (x : Int), l[j]? = some x → w.cell? ((⟨g, o, none⟩ : Addr).add j) = some (.int .u8 x)) :
    (Builtin.unsafeString_ ts ty #[.pointer (some ⟨g, o, none⟩), .int .i64 l.length]).run P w = .ok (.string ⟨(l.map fun x => UInt8.ofNat x.toNat).toArray⟩) (w.freeze ⟨g, o, none⟩ l.length) := by
  have hl : l.length ≠ 0 := by simpa using h0
  have hlb := run_loadBytes_ints (P := P) w l ⟨g, o, none⟩ .empty hcell
  have hlies := liesAt_at (P := P) hc (cells / P.cellsOf e) o l.length (by rw [hc]; simpa using hn)
  have h63' : ¬ (9223372036854775807 : Int) < (l.length : Int) := by omega
  obtain ⟨m1, m2, hdef⟩ : ∃ m1 m2 : String, Builtin.unsafeString_ ts ty #[.pointer (some ⟨g, o, none⟩), .int .i64 l.length] =
      (do
        let n ← asInt (.int .i64 l.length)
        let some pt := ts[0]? | stuck m1
        if n < 0 then runtimePanic (.error m2)
        if n > IntKind.i64.max then unsupported (.unsafePointer "String: a length above the largest int")
        if n = 0 then pure (.string .empty)
        else if ← variablesAt ⟨g, o, none⟩ (← elemOf pt) n.toNat then do
          let s ← loadBytes ⟨g, o, none⟩ .empty n.toNat
          freeze ⟨g, o, none⟩ n.toNat
          pure (.string s)
        else unsupported (.unsafePointer "String: not so many bytes at ptr")) := ⟨_, _, rfl⟩
  rw [hdef]
  have hmax : IntKind.i64.max = 9223372036854775807 := rfl
  have hneg : ¬ (l.length : Int) < 0 := by omega
  simp [ht, asInt, asIntOf, hmax, h63', hneg, hl, variablesAt, hsh, elemOf, run_underlying hp, hlies, hlb]

theorem run_unsafeString_nil (w : World) (ts : Array TypeId) (pt ty : TypeId) (ht : ts[0]? = some pt) : (Builtin.unsafeString_ ts ty #[.pointer none, .int .i64 0]).run P w = .ok (.string .empty) w := by
  have hmax : IntKind.i64.max = 9223372036854775807 := rfl
  obtain ⟨m1, m2, m3, hdef⟩ : ∃ m1 m2 m3 : String, Builtin.unsafeString_ ts ty #[.pointer none, .int .i64 0] =
      (do
        let n ← asInt (.int .i64 0)
        let some _ := ts[0]? | stuck m1
        if n < 0 then runtimePanic (.error m2)
        if n > IntKind.i64.max then unsupported (.unsafePointer "String: a length above the largest int")
        if n = 0 then pure (.string .empty)
        else runtimePanic (.error m3)) := ⟨_, _, _, rfl⟩
  rw [hdef]
  simp [ht, asInt, asIntOf, hmax]

/-- What is frozen is looked at no more. -/
theorem Goes.freeze (h : HR P base ρ s w) {b : Nat} {cs : List Value} {e : TypeId} {f : Nat} {l : Loc} (hb : fixedTop ≤ b) (hc : s.cells b = some (cs, e, f)) (hl : ρ.at b = some l) (o n : Nat) :
    Goes P base ρ s w ρ (killed s b f) (w.freeze ⟨l.blk, o, none⟩ n) := by
  obtain ⟨hg, hlive⟩ := cells_some.1 hc
  have htb := tag_cells hc
  have hos : (w.freeze ⟨l.blk, o, none⟩ n).os = w.os ∧ (w.freeze ⟨l.blk, o, none⟩ n).tape = w.tape ∧ (w.freeze ⟨l.blk, o, none⟩ n).output = w.output ∧ (w.freeze ⟨l.blk, o, none⟩ n).heap.size = w.heap.size ∧
      ∀ k, k ≠ l.blk → (w.freeze ⟨l.blk, o, none⟩ n).heap[k]? = w.heap[k]? := by
    unfold World.freeze
    split
    · exact ⟨rfl, rfl, rfl, rfl, fun _ _ => rfl⟩
    · refine ⟨rfl, rfl, rfl, by simp, fun k hk => ?_⟩
      simp only [Array.getElem?_modify]
      rw [if_neg (by omega)]
  obtain ⟨h1, h2, h3, hsize, hother⟩ := hos
  have hch : ∀ j, j ∈ ([] : List Nat) → j ≠ b → ∃ q, s.fams.get f = some q ∧ j ∈ q := fun j hj => absurd hj List.not_mem_nil
  have hgb : (killed s b f).heap.get b = some .other := Hp.get_set_same _ _ _
  have hgo : ∀ i, i ≠ b → (killed s b f).heap.get i = s.heap.get i := fun i hi => Hp.get_set_other _ _ hi
  have htb0 : (killed s b f).tag b = none := by unfold St.tag; rw [hgb]
  have htags : ∀ i t, (killed s b f).tag i = some t → i ≠ b ∧ s.tag i = some t ∧ t ≠ (if f = 0 then (0, b) else (1, f)) := by
    intro i t ht
    have hi : i ≠ b := by rintro rfl; rw [htb0] at ht; cases ht
    refine ⟨hi, ?_, ?_⟩
    · unfold killed at ht
      by_cases h0 : f = 0
      · subst h0
        exact (tag_set_other (n := s.next) hi) ▸ ht
      · have : Nat.beq f 0 = false := by rw [← Bool.not_eq_true, Nat.beq_eq]; exact h0
        rw [this, sel_false] at ht
        exact tag_set_fam hi hch ht
    · rintro rfl
      unfold St.tag at ht
      rw [hgo i hi] at ht
      by_cases h0 : f = 0
      · subst h0
        simp only [if_true] at ht
        split at ht
        · split at ht
          · simp at ht; exact hi ht
          · split at ht
            · split at ht <;> simp at ht
            · cases ht
        · simp at ht; exact hi ht
        · simp at ht; exact hi ht
        · cases ht
      · simp only [h0, if_false] at ht
        split at ht
        · rename_i cs1 e1 g1 _
          by_cases h1 : g1 = 0
          · simp [h1] at ht
          · simp only [h1, if_false] at ht
            have hkf : (killed s b f).fams = s.fams.set f [] := by
              have : Nat.beq f 0 = false := by rw [← Bool.not_eq_true, Nat.beq_eq]; exact h0
              unfold killed; rw [this]; rfl
            rw [hkf] at ht
            by_cases hgf : g1 = f
            · subst hgf
              simp [Hp.get_set_same] at ht
            · split at ht
              · split at ht
                · simp at ht; exact hgf ht
                · cases ht
              · cases ht
        · simp at ht
        · simp at ht
        · cases ht
  have hcells : ∀ i c, (killed s b f).cells i = some c → i ≠ b ∧ s.cells i = some c := by
    intro i c hi
    have hib : i ≠ b := (htags i _ (tag_cells (cs := c.1) (e := c.2.1) (f := c.2.2) hi)).1
    refine ⟨hib, ?_⟩
    unfold killed at hi
    by_cases h0 : f = 0
    · subst h0
      exact (cells_set_other (n := s.next) hib) ▸ hi
    · have : Nat.beq f 0 = false := by rw [← Bool.not_eq_true, Nat.beq_eq]; exact h0
      rw [this, sel_false] at hi
      exact cells_set_fam hib hch hi
  have hrow : ∀ i t q, (killed s b f).tag i = some t → ρ.at i = some q → q.blk ≠ l.blk := by
    intro i t q ht hq
    obtain ⟨_, ht2, hne⟩ := htags i t ht
    exact h.sep i b t _ q l ht2 htb hne hq hl
  have hHR : HR P base ρ (killed s b f) (w.freeze ⟨l.blk, o, none⟩ n) := by
    refine ⟨fun i q hi => ?_, h.next, by rw [hsize]; exact h.base_le, fun i hi ht => ?_, fun i r hi => ?_, fun i cs1 e1 f1 hi => ?_, fun i cs1 e1 f1 hi => ?_, fun i es c hi => ?_, fun i r hi => ?_, fun i j x y u v hi hj hxy hu hv => ?_⟩
    · rw [hsize]; exact h.dom i q hi
    · cases ht' : (killed s b f).tag i with
      | none => exact absurd ht' ht
      | some t => exact h.low i hi (by rw [(htags i t ht').2.1]; simp)
    · by_cases hib : i = b
      · subst hib; exact h.heap_dom i _ hg
      · rw [hgo i hib] at hi; exact h.heap_dom i r hi
    · by_cases hib : i = b
      · subst hib; rw [hgb] at hi; cases hi
      · rw [hgo i hib] at hi; exact h.fam_dom i _ _ _ hi
    · obtain ⟨_, hi'⟩ := hcells i _ hi
      obtain ⟨q, hq⟩ := h.rows i cs1 e1 f1 hi'
      exact ⟨q, hq.move (Ren.le_refl ρ) (hother _ (hrow i _ q (tag_cells hi) hq.at_))⟩
    · have hib : i ≠ b := by rintro rfl; rw [hgb] at hi; cases hi
      have ht : (killed s b f).tag i = some (0, i) := tag_map hi
      rw [hgo i hib] at hi
      obtain ⟨q, hq, es', g1, g2⟩ := h.maps i es c hi
      exact ⟨q, hq, es', by rw [hother _ (hrow i _ q ht (by rw [Ren.at_of (h.dom i q hq).1]; exact hq))]; exact g1, g2⟩
    · have hib : i ≠ b := by rintro rfl; rw [hgb] at hi; cases hi
      have ht : (killed s b f).tag i = some (0, i) := tag_loop hi
      rw [hgo i hib] at hi
      obtain ⟨q, hq, es', g1, g2⟩ := h.loops i r hi
      exact ⟨q, hq, es', by rw [hother _ (hrow i _ q ht (by rw [Ren.at_of (h.dom i q hq).1]; exact hq))]; exact g1, g2⟩
    · exact h.sep i j x y u v (htags i x hi).2.1 (htags j y hj).2.1 hxy hu hv
  refine ⟨Ren.le_refl ρ, hHR, h1, h2, h3, by rw [hsize]; exact Nat.le_refl _, Nat.le_refl _, fun k hk hn => hother k ?_, ?_, fun _ _ => rfl⟩
  · rintro rfl
    exact hn ⟨b, l, _, hb, htb, by rwa [Ren.at_of hb] at hl, rfl⟩
  · rintro k ⟨i, q, t, hi, ht, hq, rfl⟩
    exact .inl ⟨i, q, t, hi, (htags i t ht).2.1, hq, rfl⟩

theorem takeN_get : ∀ (n : Nat) {l r : List Value}, takeN n l = some r → r.length = n ∧ ∀ (j : Nat) (x : Value), r[j]? = some x → l[j]? = some x
  | 0, l, r, h => by
    have h : some [] = some r := h
    cases h
    exact ⟨rfl, fun j x hj => by simp at hj⟩
  | n + 1, [], r, h => by cases h
  | n + 1, a :: l, r, h => by
    obtain ⟨q, hq, h⟩ := obind_some.1 (show obind (takeN n l) (fun r => some (a :: r)) = some r from h)
    cases h
    obtain ⟨h1, h2⟩ := takeN_get n hq
    refine ⟨by simp [h1], fun j x hj => ?_⟩
    cases j with
    | zero => simpa using hj
    | succ j => simpa using h2 j x (by simpa using hj)

theorem bString_sound (h : HR P base ρ s w) {x y c d : Value} (hx : VR ρ x c) (hy : VR ρ y d) (ts : Array TypeId) (ty : TypeId) {t : TypeId} (ht : ts[0]? = some t) {r : Res} (hr : bString P s t x y = some r) :
    ResR P base ρ s w (Sem.run P (do pure (.value (← Builtin.unsafeString_ ts ty #[c, d]))) w) r := by
  unfold bString at hr
  split at hr
  · split at hr
    · rename_i n
      obtain ⟨hg, hr⟩ := guard_some.1 hr
      rw [ret_some hr]
      rw [eqI_eq] at hg
      have hg : n = 0 := by simpa using hg
      subst hg
      cases hx
      cases hy
      simp only [Sem.run_bind, run_unsafeString_nil w ts t ty ht, Result.andThen_ok, Sem.run_pure]
      exact gives_pure h (.string _)
    · cases hr
  · rename_i a
    split at hr
    · rename_i n
      obtain ⟨m, hm, hr1⟩ := obind_some.1 hr
      clear hr
      obtain ⟨⟨cs, e, f⟩, hc, hr2⟩ := obind_some.1 hr1
      clear hr1
      split at hr2
      · rename_i e' hu
        obtain ⟨hg, hr3⟩ := guard_some.1 hr2
        clear hr2
        obtain ⟨k, hk, hr4⟩ := obind_some.1 hr3
        clear hr3
        obtain ⟨hk1, hr5⟩ := guard_some.1 hr4
        clear hr4
        obtain ⟨l, hl, hr6⟩ := obind_some.1 hr5
        clear hr5
        obtain ⟨bs, hbs, hr7⟩ := obind_some.1 hr6
        clear hr6
        have hr8 := Option.some.inj hr7
        clear hr7
        simp only [Bool.and_eq_true] at hg
        have he : e' = e := Nat.eq_of_beq_eq_true hg.1
        subst he
        have hm1 := Nat.le_of_ble_eq_true hg.2.1
        have hm2 := Nat.le_of_ble_eq_true hg.2.2.1
        have hft := Nat.le_of_ble_eq_true hg.2.2.2
        have hk1 : k = 1 := Nat.eq_of_beq_eq_true hk1
        subst hk1
        have hcell1 : P.cellsOf e' = 1 := by
          unfold Program.cellsOf
          rw [show (P.info? e').map (·.size) = some 1 from hk]
          rfl
        obtain ⟨L, hrow⟩ := h.rows _ _ _ _ hc
        obtain ⟨hat, arr, fz, ha, hv, _, _, _⟩ := hrow
        cases hy
        have hn : n = (m : Int) := by
          cases n with
          | ofNat q => cases hm; rfl
          | negSucc q => cases hm
        subst hn
        cases hx with
        | @ptr b o L' hL =>
          have hLl : L' = L := by
            have hat : ρ.at b = some L := hat
            rw [hL] at hat
            exact Option.some.inj hat
          subst hLl
          obtain ⟨hlen, hget⟩ := takeN_get m hl
          have hvs : VRs ρ l (l.map id) → True := fun _ => trivial
          -- the cells, as the model has them
          have hcells : ∀ (j : Nat) (x : Value), l[j]? = some x → ∃ y, arr[L'.off + (o + j)]? = some y ∧ VR ρ x y := by
            intro j x hj
            have hj2 := hget j x hj
            rw [dropL_eq, List.getElem?_drop] at hj2
            exact hv (o + j) x hj2
          have hcl : ∃ cl, VRs ρ l cl ∧ ∀ (j : Nat) (y : Value), cl[j]? = some y → arr[L'.off + (o + j)]? = some y := by
            have key : ∀ (l : List Value) (k : Nat), (∀ (j : Nat) (x : Value), l[j]? = some x → ∃ y, arr[k + j]? = some y ∧ VR ρ x y) → ∃ cl, VRs ρ l cl ∧ ∀ (j : Nat) (y : Value), cl[j]? = some y → arr[k + j]? = some y := by
              intro l
              induction l with
              | nil => intro k _; exact ⟨[], .nil, fun j y hj => by simp at hj⟩
              | cons a t ih =>
                intro k hh
                obtain ⟨y, hy, hxy⟩ := hh 0 a rfl
                obtain ⟨cl, h1, h2⟩ := ih (k + 1) (fun j x hj => by
                  obtain ⟨z, hz, hxz⟩ := hh (j + 1) x (by simpa using hj)
                  exact ⟨z, by rw [← hz]; congr 1; omega, hxz⟩)
                refine ⟨y :: cl, .cons hxy h1, fun j z hj => ?_⟩
                cases j with
                | zero => simp at hj; subst hj; exact hy
                | succ j =>
                  have := h2 j z (by simpa using hj)
                  rw [← this]; congr 1; omega
            obtain ⟨cl, h1, h2⟩ := key l (L'.off + o) (fun j x hj => by
              obtain ⟨y, hy, hxy⟩ := hcells j x hj
              exact ⟨y, by rw [← hy]; congr 1; omega, hxy⟩)
            exact ⟨cl, h1, fun j y hj => by rw [← h2 j y hj]; congr 1; omega⟩
          obtain ⟨cl, hcv, hcg⟩ := hcl
          obtain ⟨ns, rfl, hns⟩ := bytesOf_vrs hcv hbs
          have hnl : ns.length = m := by
            have := hcv.length
            simp at this
            omega
          have hsz : L'.off + o + ns.length ≤ arr.size := by
            by_cases h0 : ns.length = 0
            · omega
            · have hlast : (ns.map (Value.int .u8))[ns.length - 1]? = some (.int .u8 (ns[ns.length - 1]'(by omega))) := by simp
              have := hcg _ _ hlast
              have := (Array.getElem?_eq_some_iff.1 this).1
              omega
          have hsh : w.shape? L'.blk = some (e', arr.size) := by simp [World.shape?, ha]
          have hrun := run_unsafeString_at (P := P) w ts t ty e' ht hu hcell1 L'.blk (L'.off + o) arr.size hsh ns (by rintro rfl; simp at hnl; omega) hsz (by omega) (fun j x hj => by
            have hj2 : (ns.map (Value.int .u8))[j]? = some (.int .u8 x) := by simp [hj]
            have := hcg j _ hj2
            have hadd : (⟨L'.blk, L'.off + o, none⟩ : Addr).add j = ⟨L'.blk, L'.off + o + j, none⟩ := by
              unfold Addr.add
              split
              · rename_i h0; subst h0; rfl
              · rfl
            rw [hadd]
            simp only [World.cell?, ha, Option.isSome_none, Bool.false_eq_true, if_false]
            rw [← this]; congr 1; omega)
          rw [hnl] at hrun
          rw [← hr8]
          simp only [Sem.run_bind, hrun, Result.andThen_ok, Sem.run_pure]
          rw [hns]
          exact gives_val (Goes.freeze h hft hc hL (L'.off + o) m) (.string _)
      · cases hr2
    · cases hr
  · cases hr
end
end Go.Ax

namespace Go.Ax
open Go

section
variable {P : Program} {base : Nat} {ρ : Ren} {s s' : St} {w w' : World} {ev : Ev} {η : Operand → Value}

/-- What is asked of a function of the library's without a body. -/
def ExtSound (C : Cfg) (P : Program) (f : FuncId) (e : Ext) : Prop :=
  ∀ (base : Nat) (ρ : Ren) (s s' : St) (w : World) (args cargs : List Value) (v : Value), HR P base ρ s w → VRs ρ args cargs → callExt C s e args = some (v, s') →
    ∃ c ρ' w', (callFunc f ⟨cargs⟩).run P w = .ok (.value c) w' ∧ Goes P base ρ s w ρ' s' w' ∧ VR ρ' v c

/-- What the executor leans on. -/
structure CfgOk (C : Cfg) (P : Program) : Prop where
  prog : C.P = P
  zero : ZeroOk P
  fields : FieldsOk P
  eq : EqOk C
  byte : ∀ e, P.underlying e = some (.int .u8) → size P e = some 1
  globals : P.globals.size < fixedTop
  body : ∀ f c, C.body f = some c → ∃ fn, P.funcs[f]? = some fn ∧ fn.body = some c ∧ (fn.name == "runtime.NumGoroutine") = false ∧ okCode fn.ntmps c = true ∧ C.results f = fn.results.toList
  mix : P.follows .mixedOrders = true
  insert : ∀ f t, C.insert f = some t → ∀ args s v s', runCon C t s args = some (v, s') → ∀ base ρ w cargs, HR P base ρ s w → VRs ρ args cargs →
    Calls P f ⟨cargs⟩ w fun e w' => ∃ c ρ', e = .returned c ∧ Goes P base ρ s w ρ' s' w' ∧ VR ρ' v c
  ext : ∀ f e, C.ext f = some e → ExtSound C P f e
  lies : ∀ q, q ∈ C.lies → liesAt P P.depth q.1 (q.2.1 / P.cellsOf q.1) q.2.2.1 q.2.2.2 1 = true := by intro q h; cases h

variable {C : Cfg}

theorem callAny_sound (hK : CfgOk C P) (h : HR P base ρ s w) {f : FuncId} {args cargs : List Value} (ha : VRs ρ args cargs) {r : Res} (hr : callAny C s f args = some r) :
    ResR P base ρ s w ((callFunc f ⟨cargs⟩).run P w) r := by
  unfold callAny at hr
  cases he : C.ext f with
  | none =>
    rw [he] at hr
    obtain ⟨hg, hr⟩ := guard_some.1 hr
    cases hr
    obtain ⟨c, hc⟩ := Option.isSome_iff_exists.1 hg
    obtain ⟨fn, h1, h2, h3, _⟩ := hK.body f c hc
    refine ⟨rfl, cargs, ?_, ha⟩
    have h3' : ¬ fn.name = "runtime.NumGoroutine" := by simpa using h3
    simp [callFunc, h1, h2, h3']
  | some e =>
    rw [he] at hr
    obtain ⟨⟨v, s2⟩, hv, hr⟩ := obind_some.1 hr
    cases hr
    obtain ⟨c, ρ', w', h1, h2, h3⟩ := hK.ext f e he base ρ s s2 w args cargs v h ha hv
    exact ⟨ρ', w', c, .inl h1, h2, h3⟩

theorem callMethod_sound (hK : CfgOk C P) (h : HR P base ρ s w) {t : TypeId} {v c : Value} {name : String} {args cargs : List Value} (hv : VR ρ v c) (ha : VRs ρ args cargs) {r : Res} (hr : callMethod C s t v name args = some r) :
    ResR P base ρ s w ((Go.callMethod (.iface t c) name ⟨cargs⟩).run P w) r := by
  unfold Ax.callMethod at hr
  rw [hK.prog] at hr
  obtain ⟨q, hq, hr⟩ := obind_some.1 hr
  obtain ⟨c', h1, h2⟩ := method_sound h hv hq (P.types.size + Made.depth - 1)
  have e : P.types.size + Made.depth - 1 + 1 = P.types.size + Made.depth := by
    have : 0 < Made.depth := by decide
    omega
  rw [e] at h1
  have := callAny_sound hK h (VRs.cons h2 ha) hr
  unfold Go.callMethod
  simp only [Sem.run_bind, run_program, Result.andThen_ok, h1]
  have e2 : (#[c'] ++ ⟨cargs⟩ : Array Value) = ⟨c' :: cargs⟩ := by simp
  rw [e2]
  exact this

theorem callName_sound (hK : CfgOk C P) (h : HR P base ρ s w) {name : String} {args cargs : List Value} (ha : VRs ρ args cargs) {r : Res} (hr : callName C s name args = some r) :
    ∃ recv rest, cargs = recv :: rest ∧ ResR P base ρ s w ((Go.callMethod recv name ⟨rest⟩).run P w) r := by
  unfold callName at hr
  split at hr
  · cases ha with
    | cons h1 h2 =>
      cases h1 with
      | iface t hv => exact ⟨_, _, rfl, callMethod_sound hK h hv h2 hr⟩
  · cases hr

theorem callVia_sound (hK : CfgOk C P) (h : HR P base ρ s w) {t : TypeId} {path : Array FieldStep} {f : FuncId} {pr : Bool} {args cargs : List Value} (ha : VRs ρ args cargs) {r : Res} (hr : callVia C s t path.toList f pr args = some r) :
    ∃ x rest, cargs = x :: rest ∧ ResR P base ρ s w (Sem.run P (do callFunc f (#[← receiverVia t x path pr] ++ ⟨rest⟩)) w) r := by
  unfold callVia at hr
  split at hr
  · rw [hK.prog] at hr
    obtain ⟨q, hq, hr⟩ := obind_some.1 hr
    obtain ⟨v, hv, hr⟩ := obind_some.1 hr
    cases ha with
    | @cons _ c _ rest h1 h2 =>
      obtain ⟨y, h3, h4⟩ := follow_sound h path.toList (PlR.val h1) hq
      obtain ⟨c', h5, h6⟩ := receiver_sound h none h4 hv
      refine ⟨_, _, rfl, ?_⟩
      have := callAny_sound hK h (VRs.cons h6 h2) hr
      simp only [receiverVia, Sem.run_bind, h3, Result.andThen_ok, h5]
      have e2 : (#[c'] ++ ⟨rest⟩ : Array Value) = ⟨c' :: rest⟩ := by simp
      rw [e2]
      exact this
  · cases hr

theorem callFn_sound (hK : CfgOk C P) (h : HR P base ρ s w) {fn fn' : Fn} {a a' b b' args cargs : List Value} (hf : FR ρ fn fn') (ha : VRs ρ a a') (hb : VRs ρ b b') (hg : VRs ρ args cargs) {r : Res} (hr : callFn C s fn a b args = some r) :
    ResR P base ρ s w ((Go.invoke (.fn fn' ⟨b'⟩) (⟨a'⟩ ++ ⟨cargs⟩)).run P w) r := by
  have e1 : (⟨a'⟩ ++ ⟨cargs⟩ : Array Value) = ⟨a' ++ cargs⟩ := by simp
  rw [e1]
  unfold callFn at hr
  simp only [appL_eq] at hr
  cases hf with
  | func f =>
    have := callAny_sound hK h (ha.append (hg.append hb)) hr
    have e2 : (⟨a' ++ cargs⟩ ++ ⟨b'⟩ : Array Value) = ⟨a' ++ (cargs ++ b')⟩ := by simp
    simp only [Go.invoke, e2]
    exact this
  | yield hl =>
    cases hr
    exact ⟨rfl, _, _, hl, rfl, ha.append hg⟩
  | method name =>
    obtain ⟨recv, rest, h1, h2⟩ := callName_sound hK h (ha.append hg) hr
    rw [h1]
    have e2 : (⟨recv :: rest⟩ : Array Value).extract 1 (⟨recv :: rest⟩ : Array Value).size = ⟨rest⟩ := by simp
    simp only [Go.invoke, List.getElem?_toArray, List.getElem?_cons_zero, e2]
    exact h2
  | methodOf t n => cases hr
  | via t p f b =>
    obtain ⟨x, rest, h1, h2⟩ := callVia_sound hK h (ha.append hg) hr
    rw [h1]
    have e2 : (⟨x :: rest⟩ : Array Value).extract 1 (⟨x :: rest⟩ : Array Value).size = ⟨rest⟩ := by simp
    simp only [Go.invoke, List.getElem?_toArray, List.getElem?_cons_zero, e2]
    exact h2

theorem invoke_sound (hK : CfgOk C P) (h : HR P base ρ s w) {f cf : Value} {args cargs : List Value} (hf : VR ρ f cf) (ha : VRs ρ args cargs) {r : Res} (hr : invoke C s f args = some r) :
    ResR P base ρ s w (Sem.run P (do let d ← Deferred.ofValue cf ⟨cargs⟩; Go.invoke d.target d.args) w) r := by
  unfold Ax.invoke at hr
  split at hr
  · cases hf with
    | func hfn h1 h2 =>
      have := callFn_sound hK h hfn h1 h2 ha hr
      simpa only [Deferred.ofValue, Sem.run_bind, Sem.run_pure, Result.andThen_ok] using this
  · cases hr

theorem builtin_sound (hK : CfgOk C P) (h : HR P base ρ s w) {b : Builtin} {ts : Array TypeId} {ty : TypeId} {consts : Array Bool} {args cargs : List Value} (ha : VRs ρ args cargs) {r : Res}
    (hr : builtin C s b (nth ts.toList 0) (nth ts.toList 1) args = some r) : ResR P base ρ s w ((Go.builtin b ts ty consts ⟨cargs⟩).run P w) r := by
  have h0 : nth ts.toList 0 = ts[0]? := by rw [nth_eq]; simp
  have h1 : nth ts.toList 1 = ts[1]? := by rw [nth_eq]; simp
  rw [h0, h1] at hr
  unfold Ax.builtin at hr
  split at hr
  · cases ha with
    | cons hx hn =>
      cases hn
      split at hr
      · obtain ⟨t, ht, hr⟩ := obind_some.1 hr
        rw [hK.prog] at hr
        exact bLen_sound h hx ts ty ht hr
      · obtain ⟨t, ht, hr⟩ := obind_some.1 hr
        rw [hK.prog] at hr
        exact bCap_sound h hx ts ty ht hr
      · obtain ⟨t, ht, hr⟩ := obind_some.1 hr
        rw [hK.prog] at hr
        exact bClear_sound h hK.zero hx ts ty ht hr
      · exact bSliceData_sound h hx ts ty hr
      · cases hr
  · cases ha with
    | cons hx hn =>
      cases hn with
      | cons hy hn =>
        cases hn
        split at hr
        · obtain ⟨t, ht, hr⟩ := obind_some.1 hr
          rw [hK.prog] at hr
          obtain ⟨⟨v, s2⟩, hv, hr⟩ := obind_some.1 hr
          cases hr
          obtain ⟨c, ρ', w', h2, h3, h4⟩ := append_sound (ty := ty) h hx hy ht hv
          refine ⟨ρ', w', c, .inl ?_, h3, h4⟩
          simp only [Go.builtin, Sem.run_bind, h2, Result.andThen_ok, Sem.run_pure]
        · obtain ⟨t, ht, hr⟩ := obind_some.1 hr
          rw [hK.prog] at hr
          exact bCopy_sound h hx hy ts ty ht hr
        · have := bMinMax_sound h hx hy ts ty hr
          simpa only [Bool.false_eq_true, if_false, Go.builtin] using this
        · have := bMinMax_sound h hx hy ts ty hr
          simpa only [if_true, Go.builtin] using this
        · obtain ⟨t, ht, hr⟩ := obind_some.1 hr
          rw [hK.prog] at hr
          exact bString_sound h hx hy ts ty ht hr
        · cases hr
  · cases hr
end
end Go.Ax

