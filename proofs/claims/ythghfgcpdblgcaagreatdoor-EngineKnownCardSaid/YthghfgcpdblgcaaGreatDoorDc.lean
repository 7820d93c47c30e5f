import Derived.Test.YthghfgcpdblgcaaGreatDoorDb
import Derived.Lib.Builder
import Derived.Lib.UnsafeStr
import Derived.Calls
import Derived.OrdersIn
set_option linter.unusedSectionVars false
namespace Go.Ax
variable [Lo]
open Go
section
variable {P : Program} {base : Nat} {ρ : Ren} {s s' : St} {w w' : World} {C : Cfg}
theorem liesIn_mem {l : List (Nat × Nat × Nat × Nat)} {e n o u : Nat} (h : liesIn l e n o u = true) : (e, n, o, u) ∈ l := by
  induction l with
  | nil => cases h
  | cons p t ih =>
    have h : sel (Nat.beq p.1 e && (Nat.beq p.2.1 n && (Nat.beq p.2.2.1 o && Nat.beq p.2.2.2 u))) true (liesIn t e n o u) = true := h
    rw [sel_eq] at h
    split at h
    · rename_i hb
      simp only [Bool.and_eq_true] at hb
      obtain ⟨a, b, c, d⟩ := p
      simp only at hb
      rw [Nat.eq_of_beq_eq_true hb.1, Nat.eq_of_beq_eq_true hb.2.1, Nat.eq_of_beq_eq_true hb.2.2.1, Nat.eq_of_beq_eq_true hb.2.2.2]
      exact List.mem_cons_self
    · exact List.mem_cons_of_mem _ (ih h)
theorem convPtr_sound (h : HR P base ρ s w) (hP : C.P = P) (hl : ∀ q, q ∈ C.lies → liesAt P P.depth q.1 (q.2.1 / P.cellsOf q.1) q.2.2.1 q.2.2.2 1 = true) {src dst : TypeId} {x c v : Value} (hx : VR ρ x c) (hr : convPtr C s src dst x = some v) :
    VR ρ v c ∧ (Go.convert src dst c).run P w = .ok c w := by
  unfold convPtr at hr
  split at hr
  · rename_i a
    obtain ⟨⟨cs, e, f⟩, hc, hr⟩ := obind_some.1 hr
    obtain ⟨h0, hr⟩ := guard_some.1 hr
    have h0 : f = 0 := Nat.eq_of_beq_eq_true h0
    subst h0
    rw [hP] at hr
    obtain ⟨l, hrow⟩ := h.rows _ _ _ _ hc
    obtain ⟨hat, arr, fz, ⟨e9, ha, he9⟩, _, _, h0, _⟩ := hrow
    have he9 := (he9 (.inl rfl)).symm
    subst he9
    obtain ⟨h1, h2, _⟩ := h0 rfl
    cases hx with
    | @ptr b o L hL =>
      have hLl : L = l := by
        have hat : ρ.at b = some l := hat
        rw [hL] at hat
        exact Option.some.inj hat
      subst hLl
      have hsh : w.shape? L.blk = some (e, arr.size) := by simp [World.shape?, ha]
      split at hr
      · rename_i hd
        unfold ptrTo at hr
        rw [hP] at hr
        split at hr
        · rename_i t hs
          obtain ⟨n, hn, hr⟩ := obind_some.1 hr
          obtain ⟨hg, hr⟩ := guard_some.1 hr
          cases hr
          simp only [Bool.and_eq_true] at hg
          have g1 := Nat.le_of_ble_eq_true hg.1
          have g2 := ltN_some hg.2
          rw [lenL_eq] at g2
          obtain ⟨j, hj, hjn⟩ := Option.map_eq_some_iff.1 (show (P.info? t).map (·.size) = some n from hn)
          refine ⟨.ptr hL, Lib.run_to_unsafe w ⟨L.blk, L.off + o, none⟩ hs hd hj (by omega) hsh ?_⟩
          show L.off + o < arr.size
          have g2 : o < cs.length := g2
          omega
        · cases hr
      · rename_i u hd
        unfold ptrFrom at hr
        rw [hP] at hr
        split at hr
        · rename_i hs
          obtain ⟨hg, hr⟩ := guard_some.1 hr
          cases hr
          simp only [Bool.and_eq_true] at hg
          obtain ⟨j, hj⟩ := Option.isSome_iff_exists.1 hg.2
          have hm := hl _ (liesIn_mem hg.1)
          refine ⟨.ptr hL, Lib.run_from_unsafe w ⟨L.blk, L.off + o, none⟩ hs hd hj hsh ?_⟩
          have hm : liesAt P P.depth e (lenL cs / P.cellsOf e) o u 1 = true := hm
          rw [lenL_eq, ← h2] at hm
          rw [h1, Nat.zero_add]
          exact hm
        · cases hr
      · cases hr
  · cases hr
theorem bSliceData_sound (h : HR P base ρ s w) {x c : Value} (hx : VR ρ x c) (ts : Array TypeId) (ty : TypeId) {r : Res} (hr : bSliceData s x = some r) :
    ResR P base ρ s w (Sem.run P (do pure (.value (← Builtin.unsafeSliceData_ ts ty #[c]))) w) r := by
  unfold bSliceData at hr
  split at hr
  · rw [ret_some hr]
    cases hx
    simp only [Sem.run_bind, Lib.run_unsafeSliceData_nil, Result.andThen_ok, Sem.run_pure]
    exact gives_pure h .ptrNil
  · rename_i a n k
    obtain ⟨hg, hr⟩ := guard_some.1 hr
    simp only [Bool.and_eq_true] at hg
    cases hx with
    | dead A K => exact Bool.noConfusion hg.2
    | @slice b o _ _ L hL =>
      rw [sel_eq] at hr
      split at hr
      · rename_i hk
        obtain ⟨h1, hr⟩ := guard_some.1 hr
        rw [ret_some hr]
        have h1 := Nat.le_of_ble_eq_true h1
        have hk := ltN_some hk
        rw [capOf_known hk]
        simp only [Sem.run_bind, Lib.run_unsafeSliceData_row w ts ty _ _ _ (show k ≠ 0 by omega), Result.andThen_ok, Sem.run_pure]
        exact gives_pure h (.ptr hL)
      · obtain ⟨⟨cs, e, f⟩, hc, hr1⟩ := obind_some.1 hr
        obtain ⟨hg2, hr2⟩ := guard_some.1 hr1
        simp only [Bool.and_eq_true] at hg2
        have e1 : k = bigCap := Nat.eq_of_beq_eq_true hg2.1
        subst e1
        have hf : f ≠ 0 := by
          rintro rfl
          exact Bool.noConfusion hg2.2.1
        have hlen : 1 ≤ cs.length := by
          have := Nat.le_of_ble_eq_true hg2.2.2
          rwa [lenL_eq] at this
        rw [ret_some hr2]
        obtain ⟨l, hrow⟩ := h.rows _ _ _ _ hc
        obtain ⟨hat, arr, fz, ha, _, _, _, hn⟩ := hrow
        have hLl : L = l := by
          have hat : ρ.at b = some l := hat
          rw [hL] at hat
          exact Option.some.inj hat
        subst hLl
        obtain ⟨m, hm, hm0, hm1, hm2⟩ := hn hf
        have hcap : L.cap ≠ 0 := by
          intro h0
          rw [h0] at hm2
          omega
        rw [capOf_big]
        simp only [Sem.run_bind, Lib.run_unsafeSliceData_row w ts ty _ _ _ hcap, Result.andThen_ok, Sem.run_pure]
        exact gives_pure h (.ptr hL)
  · cases hr
theorem liesAt_at {e : TypeId} (hc : P.cellsOf e = 1) (count off n : Nat) (hn : off + n ≤ count) : liesAt P P.depth e count off e n = true := by
  have hd : P.depth = (2 * (P.types.size + Made.depth) + 1) + 1 := rfl
  rw [hd]
  simp only [liesAt, Bool.or_eq_true]
  left
  rw [hd]
  simp [rowAt, hc, hn, sameLayout, Nat.mod_one]
theorem run_loadBytes_ints (w : World) : ∀ (l : List Int) (a : Addr) (acc : ByteArray), (∀ (j : Nat) (x : Int), l[j]? = some x → w.cell? (a.add j) = some (.int .u8 x)) →
    (loadBytes a acc l.length).run P w = .ok ⟨acc.data ++ (l.map fun x => UInt8.ofNat x.toNat).toArray⟩ w
  | [], a, acc, _ => by simp [loadBytes]
  | x :: l, a, acc, h => by
    have h0 : w.cell? a = some (.int .u8 x) := by
      have := h 0 x rfl
      simpa [Addr.add] using this
    have ih := run_loadBytes_ints w l (a.add 1) (acc.push x.toNat.toUInt8) (fun j y hy => by
      have := h (j + 1) y (by simpa using hy)
      have e : (a.add 1).add j = a.add (j + 1) := by
        unfold Addr.add
        by_cases hj : j = 0
        · subst hj; simp
        · simp [hj]; omega
      rw [e]; exact this)
    simp only [List.length_cons, loadBytes, Sem.run_bind, run_load, h0, Result.andThen]
    rw [ih]
    congr 1
    apply ByteArray.ext
    simp [ByteArray.push]
theorem run_unsafeString_at (w : World) (ts : Array TypeId) (pt ty e : TypeId) (ht : ts[0]? = some pt) (hp : P.underlying pt = some (.pointer e)) (hc : P.cellsOf e = 1) (g o cells : Nat) (hsh : w.shape? g = some (e, cells)) (l : List Int) (h0 : l ≠ []) (hn : o + l.length ≤ cells) (h63 : l.length ≤ 9223372036854775807)
    (hcell : ∀ (j : Nat) (x : Int), l[j]? = some x → w.cell? ((⟨g, o, none⟩ : Addr).add j) = some (.int .u8 x)) :
    (Builtin.unsafeString_ ts ty #[.pointer (some ⟨g, o, none⟩), .int .i64 l.length]).run P w = .ok (.string ⟨(l.map fun x => UInt8.ofNat x.toNat).toArray⟩) (w.freeze ⟨g, o, none⟩ l.length) := by
  have hl : l.length ≠ 0 := by simpa using h0
  have hlb := run_loadBytes_ints (P := P) w l ⟨g, o, none⟩ .empty hcell
  have hlies := liesAt_at (P := P) hc (cells / P.cellsOf e) o l.length (by rw [hc]; simpa using hn)
  have h63' : ¬ (9223372036854775807 : Int) < (l.length : Int) := by omega
  obtain ⟨m1, m2, hdef⟩ : ∃ m1 m2 : String, Builtin.unsafeString_ ts ty #[.pointer (some ⟨g, o, none⟩), .int .i64 l.length] =
      (do
        let n ← asInt (.int .i64 l.length)
        let some pt := ts[0]? | stuck m1
        if n < 0 then runtimePanic (.error m2)
        if n > IntKind.i64.max then unsupported (.unsafePointer "String: a length above the largest int")
        if n = 0 then pure (.string .empty)
        else if ← variablesAt ⟨g, o, none⟩ (← elemOf pt) n.toNat then do
          let s ← loadBytes ⟨g, o, none⟩ .empty n.toNat
          freeze ⟨g, o, none⟩ n.toNat
          pure (.string s)
        else unsupported (.unsafePointer "String: not so many bytes at ptr")) := ⟨_, _, rfl⟩
  rw [hdef]
  have hmax : IntKind.i64.max = 9223372036854775807 := rfl
  have hneg : ¬ (l.length : Int) < 0 := by omega
  simp [ht, asInt, asIntOf, hmax, h63', hneg, hl, variablesAt, hsh, elemOf, run_underlying hp, hlies, hlb]
theorem run_unsafeString_nil (w : World) (ts : Array TypeId) (pt ty : TypeId) (ht : ts[0]? = some pt) : (Builtin.unsafeString_ ts ty #[.pointer none, .int .i64 0]).run P w = .ok (.string .empty) w := by
  have hmax : IntKind.i64.max = 9223372036854775807 := rfl
  obtain ⟨m1, m2, m3, hdef⟩ : ∃ m1 m2 m3 : String, Builtin.unsafeString_ ts ty #[.pointer none, .int .i64 0] =
      (do
        let n ← asInt (.int .i64 0)
        let some _ := ts[0]? | stuck m1
        if n < 0 then runtimePanic (.error m2)
        if n > IntKind.i64.max then unsupported (.unsafePointer "String: a length above the largest int")
        if n = 0 then pure (.string .empty)
        else runtimePanic (.error m3)) := ⟨_, _, _, rfl⟩
  rw [hdef]
  simp [ht, asInt, asIntOf, hmax]
theorem Goes.freeze (h : HR P base ρ s w) {b : Nat} {cs : List Value} {e : TypeId} {f : Nat} {l : Loc} (hb : fixedTop ≤ b) (hc : s.cells b = some (cs, e, f)) (hl : ρ.at b = some l) (o n : Nat) :
    Goes P base ρ s w ρ (killed s b f) (w.freeze ⟨l.blk, o, none⟩ n) := by
  obtain ⟨hg, hlive⟩ := cells_some.1 hc
  have htb := tag_cells hc
  have hos : (w.freeze ⟨l.blk, o, none⟩ n).os = w.os ∧ (w.freeze ⟨l.blk, o, none⟩ n).tape = w.tape ∧ (w.freeze ⟨l.blk, o, none⟩ n).output = w.output ∧ (w.freeze ⟨l.blk, o, none⟩ n).heap.size = w.heap.size ∧
      ∀ k, k ≠ l.blk → (w.freeze ⟨l.blk, o, none⟩ n).heap[k]? = w.heap[k]? := by
    unfold World.freeze
    split
    · exact ⟨rfl, rfl, rfl, rfl, fun _ _ => rfl⟩
    · refine ⟨rfl, rfl, rfl, by simp, fun k hk => ?_⟩
      simp only [Array.getElem?_modify]
      rw [if_neg (by omega)]
  obtain ⟨h1, h2, h3, hsize, hother⟩ := hos
  have hch : ∀ j, j ∈ ([] : List Nat) → j ≠ b → ∃ q, s.fams.get f = some q ∧ j ∈ q := fun j hj => absurd hj List.not_mem_nil
  have hgb : (killed s b f).heap.get b = some .other := Hp.get_set_same _ _ _
  have hgo : ∀ i, i ≠ b → (killed s b f).heap.get i = s.heap.get i := fun i hi => Hp.get_set_other _ _ hi
  have htb0 : (killed s b f).tag b = none := by unfold St.tag; rw [hgb]
  have htags : ∀ i t, (killed s b f).tag i = some t → i ≠ b ∧ s.tag i = some t ∧ t ≠ (if f = 0 then (0, b) else (1, f)) := by
    intro i t ht
    have hi : i ≠ b := by rintro rfl; rw [htb0] at ht; cases ht
    refine ⟨hi, ?_, ?_⟩
    · unfold killed at ht
      by_cases h0 : f = 0
      · subst h0
        exact (tag_set_other (n := s.next) hi) ▸ ht
      · have : Nat.beq f 0 = false := by rw [← Bool.not_eq_true, Nat.beq_eq]; exact h0
        rw [this, sel_false] at ht
        exact tag_set_fam hi hch ht
    · rintro rfl
      unfold St.tag at ht
      rw [hgo i hi] at ht
      by_cases h0 : f = 0
      · subst h0
        simp only [if_true] at ht
        split at ht
        · split at ht
          · simp at ht; exact hi ht
          · split at ht
            · split at ht <;> simp at ht
            · cases ht
        · simp at ht; exact hi ht
        · simp at ht; exact hi ht
        · cases ht
      · simp only [h0, if_false] at ht
        split at ht
        · rename_i cs1 e1 g1 _
          by_cases h1 : g1 = 0
          · simp [h1] at ht
          · simp only [h1, if_false] at ht
            have hkf : (killed s b f).fams = s.fams.set f [] := by
              have : Nat.beq f 0 = false := by rw [← Bool.not_eq_true, Nat.beq_eq]; exact h0
              unfold killed; rw [this]; rfl
            rw [hkf] at ht
            by_cases hgf : g1 = f
            · subst hgf
              simp [Hp.get_set_same] at ht
            · split at ht
              · split at ht
                · simp at ht; exact hgf ht
                · cases ht
              · cases ht
        · simp at ht
        · simp at ht
        · cases ht
  have hcells : ∀ i c, (killed s b f).cells i = some c → i ≠ b ∧ s.cells i = some c := by
    intro i c hi
    have hib : i ≠ b := (htags i _ (tag_cells (cs := c.1) (e := c.2.1) (f := c.2.2) hi)).1
    refine ⟨hib, ?_⟩
    unfold killed at hi
    by_cases h0 : f = 0
    · subst h0
      exact (cells_set_other (n := s.next) hib) ▸ hi
    · have : Nat.beq f 0 = false := by rw [← Bool.not_eq_true, Nat.beq_eq]; exact h0
      rw [this, sel_false] at hi
      exact cells_set_fam hib hch hi
  have hrow : ∀ i t q, (killed s b f).tag i = some t → ρ.at i = some q → q.blk ≠ l.blk := by
    intro i t q ht hq
    obtain ⟨_, ht2, hne⟩ := htags i t ht
    exact h.sep i b t _ q l ht2 htb hne hq hl (.inr hb)
  have hHR : HR P base ρ (killed s b f) (w.freeze ⟨l.blk, o, none⟩ n) := by
    refine ⟨fun i q hi => ?_, h.next, by rw [hsize]; exact h.base_le, fun i hi ht => ?_, fun i r hi => ?_, fun i cs1 e1 f1 hi => ?_, fun i cs1 e1 f1 hi => ?_, fun i es c hi => ?_, fun i r hi => ?_, fun i j x y u v hi hj hxy hu hv => ?_⟩
    · rw [hsize]; exact h.dom i q hi
    · cases ht' : (killed s b f).tag i with
      | none => exact absurd ht' ht
      | some t => exact h.low i hi (by rw [(htags i t ht').2.1]; simp)
    · by_cases hib : i = b
      · subst hib; exact h.heap_dom i _ hg
      · rw [hgo i hib] at hi; exact h.heap_dom i r hi
    · by_cases hib : i = b
      · subst hib; rw [hgb] at hi; cases hi
      · rw [hgo i hib] at hi; exact h.fam_dom i _ _ _ hi
    · obtain ⟨_, hi'⟩ := hcells i _ hi
      obtain ⟨q, hq⟩ := h.rows i cs1 e1 f1 hi'
      exact ⟨q, hq.move (Ren.le_refl ρ) (hother _ (hrow i _ q (tag_cells hi) hq.at_))⟩
    · have hib : i ≠ b := by rintro rfl; rw [hgb] at hi; cases hi
      have ht : (killed s b f).tag i = some (0, i) := tag_map hi
      rw [hgo i hib] at hi
      obtain ⟨q, hq, es', g1, g2⟩ := h.maps i es c hi
      exact ⟨q, hq, es', by rw [hother _ (hrow i _ q ht (by rw [Ren.at_of (h.dom i q hq).1]; exact hq))]; exact g1, g2⟩
    · have hib : i ≠ b := by rintro rfl; rw [hgb] at hi; cases hi
      have ht : (killed s b f).tag i = some (0, i) := tag_loop hi
      rw [hgo i hib] at hi
      obtain ⟨q, hq, es', g1, g2⟩ := h.loops i r hi
      exact ⟨q, hq, es', by rw [hother _ (hrow i _ q ht (by rw [Ren.at_of (h.dom i q hq).1]; exact hq))]; exact g1, g2⟩
    · exact h.sep i j x y u v (htags i x hi).2.1 (htags j y hj).2.1 hxy hu hv
  refine ⟨Ren.le_refl ρ, hHR, h1, h2, h3, by rw [hsize]; exact Nat.le_refl _, Nat.le_refl _, fun k hk hn => hother k ?_, ?_, fun _ _ => rfl⟩
  · rintro rfl
    exact hn ⟨b, l, _, hb, htb, by rwa [Ren.at_of hb] at hl, rfl⟩
  · rintro k ⟨i, q, t, hi, ht, hq, rfl⟩
    exact .inl ⟨i, q, t, hi, (htags i t ht).2.1, hq, rfl⟩
theorem takeN_get : ∀ (n : Nat) {l r : List Value}, takeN n l = some r → r.length = n ∧ ∀ (j : Nat) (x : Value), r[j]? = some x → l[j]? = some x
  | 0, l, r, h => by
    have h : some [] = some r := h
    cases h
    exact ⟨rfl, fun j x hj => by simp at hj⟩
  | n + 1, [], r, h => by cases h
  | n + 1, a :: l, r, h => by
    obtain ⟨q, hq, h⟩ := obind_some.1 (show obind (takeN n l) (fun r => some (a :: r)) = some r from h)
    cases h
    obtain ⟨h1, h2⟩ := takeN_get n hq
    refine ⟨by simp [h1], fun j x hj => ?_⟩
    cases j with
    | zero => simpa using hj
    | succ j => simpa using h2 j x (by simpa using hj)
theorem bString_sound (h : HR P base ρ s w) {x y c d : Value} (hx : VR ρ x c) (hy : VR ρ y d) (ts : Array TypeId) (ty : TypeId) {t : TypeId} (ht : ts[0]? = some t) {r : Res} (hr : bString P s t x y = some r) :
    ResR P base ρ s w (Sem.run P (do pure (.value (← Builtin.unsafeString_ ts ty #[c, d]))) w) r := by
  unfold bString at hr
  split at hr
  · split at hr
    · rename_i n
      obtain ⟨hg, hr⟩ := guard_some.1 hr
      rw [ret_some hr]
      rw [eqI_eq] at hg
      have hg : n = 0 := by simpa using hg
      subst hg
      cases hx
      cases hy
      simp only [Sem.run_bind, run_unsafeString_nil w ts t ty ht, Result.andThen_ok, Sem.run_pure]
      exact gives_pure h (.string _)
    · cases hr
  · rename_i a
    split at hr
    · rename_i n
      obtain ⟨m, hm, hr1⟩ := obind_some.1 hr
      clear hr
      obtain ⟨⟨cs, e, f⟩, hc, hr2⟩ := obind_some.1 hr1
      clear hr1
      split at hr2
      · rename_i e' hu
        obtain ⟨hg, hr3⟩ := guard_some.1 hr2
        clear hr2
        obtain ⟨k, hk, hr4⟩ := obind_some.1 hr3
        clear hr3
        obtain ⟨hk1, hr5⟩ := guard_some.1 hr4
        clear hr4
        obtain ⟨l, hl, hr6⟩ := obind_some.1 hr5
        clear hr5
        obtain ⟨bs, hbs, hr7⟩ := obind_some.1 hr6
        clear hr6
        have hr8 := Option.some.inj hr7
        clear hr7
        simp only [Bool.and_eq_true] at hg
        have he : e' = e := Nat.eq_of_beq_eq_true hg.1
        subst he
        have hm1 := Nat.le_of_ble_eq_true hg.2.1
        have hm2 := Nat.le_of_ble_eq_true hg.2.2.1
        have hft := Nat.le_of_ble_eq_true hg.2.2.2
        have hk1 : k = 1 := Nat.eq_of_beq_eq_true hk1
        subst hk1
        have hcell1 : P.cellsOf e' = 1 := by
          unfold Program.cellsOf
          rw [show (P.info? e').map (·.size) = some 1 from hk]
          rfl
        obtain ⟨L, hrow⟩ := h.rows _ _ _ _ hc
        obtain ⟨hat, arr, fz, ⟨e9, ha, he9⟩, hv, _, _, _⟩ := hrow
        have he9 := (he9 (.inr hft)).symm
        subst he9
        cases hy
        have hn : n = (m : Int) := by
          cases n with
          | ofNat q => cases hm; rfl
          | negSucc q => cases hm
        subst hn
        cases hx with
        | @ptr b o L' hL =>
          have hLl : L' = L := by
            have hat : ρ.at b = some L := hat
            rw [hL] at hat
            exact Option.some.inj hat
          subst hLl
          obtain ⟨hlen, hget⟩ := takeN_get m hl
          have hvs : VRs ρ l (l.map id) → True := fun _ => trivial
          have hcells : ∀ (j : Nat) (x : Value), l[j]? = some x → ∃ y, arr[L'.off + (o + j)]? = some y ∧ VR ρ x y := by
            intro j x hj
            have hj2 := hget j x hj
            rw [dropL_eq, List.getElem?_drop] at hj2
            exact hv (o + j) x hj2
          have hcl : ∃ cl, VRs ρ l cl ∧ ∀ (j : Nat) (y : Value), cl[j]? = some y → arr[L'.off + (o + j)]? = some y := by
            have key : ∀ (l : List Value) (k : Nat), (∀ (j : Nat) (x : Value), l[j]? = some x → ∃ y, arr[k + j]? = some y ∧ VR ρ x y) → ∃ cl, VRs ρ l cl ∧ ∀ (j : Nat) (y : Value), cl[j]? = some y → arr[k + j]? = some y := by
              intro l
              induction l with
              | nil => intro k _; exact ⟨[], .nil, fun j y hj => by simp at hj⟩
              | cons a t ih =>
                intro k hh
                obtain ⟨y, hy, hxy⟩ := hh 0 a rfl
                obtain ⟨cl, h1, h2⟩ := ih (k + 1) (fun j x hj => by
                  obtain ⟨z, hz, hxz⟩ := hh (j + 1) x (by simpa using hj)
                  exact ⟨z, by rw [← hz]; congr 1; omega, hxz⟩)
                refine ⟨y :: cl, .cons hxy h1, fun j z hj => ?_⟩
                cases j with
                | zero => simp at hj; subst hj; exact hy
                | succ j =>
                  have := h2 j z (by simpa using hj)
                  rw [← this]; congr 1; omega
            obtain ⟨cl, h1, h2⟩ := key l (L'.off + o) (fun j x hj => by
              obtain ⟨y, hy, hxy⟩ := hcells j x hj
              exact ⟨y, by rw [← hy]; congr 1; omega, hxy⟩)
            exact ⟨cl, h1, fun j y hj => by rw [← h2 j y hj]; congr 1; omega⟩
          obtain ⟨cl, hcv, hcg⟩ := hcl
          obtain ⟨ns, rfl, hns⟩ := bytesOf_vrs hcv hbs
          have hnl : ns.length = m := by
            have := hcv.length
            simp at this
            omega
          have hsz : L'.off + o + ns.length ≤ arr.size := by
            by_cases h0 : ns.length = 0
            · omega
            · have hlast : (ns.map (Value.int .u8))[ns.length - 1]? = some (.int .u8 (ns[ns.length - 1]'(by omega))) := by simp
              have := hcg _ _ hlast
              have := (Array.getElem?_eq_some_iff.1 this).1
              omega
          have hsh : w.shape? L'.blk = some (e', arr.size) := by simp [World.shape?, ha]
          have hrun := run_unsafeString_at (P := P) w ts t ty e' ht hu hcell1 L'.blk (L'.off + o) arr.size hsh ns (by rintro rfl; simp at hnl; omega) hsz (by omega) (fun j x hj => by
            have hj2 : (ns.map (Value.int .u8))[j]? = some (.int .u8 x) := by simp [hj]
            have := hcg j _ hj2
            have hadd : (⟨L'.blk, L'.off + o, none⟩ : Addr).add j = ⟨L'.blk, L'.off + o + j, none⟩ := by
              unfold Addr.add
              split
              · rename_i h0; subst h0; rfl
              · rfl
            rw [hadd]
            simp only [World.cell?, ha, Option.isSome_none, Bool.false_eq_true, if_false]
            rw [← this]; congr 1; omega)
          rw [hnl] at hrun
          rw [← hr8]
          simp only [Sem.run_bind, hrun, Result.andThen_ok, Sem.run_pure]
          rw [hns]
          exact gives_val (Goes.freeze h hft hc hL (L'.off + o) m) (.string _)
      · cases hr2
    · cases hr
  · cases hr
end
end Go.Ax
namespace Go.Ax
variable [Lo]
open Go
section
variable {P : Program} {base : Nat} {ρ : Ren} {s s' : St} {w w' : World} {ev : Ev} {η : Operand → Value}
def ExtSound (C : Cfg) (P : Program) (f : FuncId) (e : Ext) : Prop :=
  ∀ (base : Nat) (ρ : Ren) (s s' : St) (w : World) (args cargs : List Value) (v : Value), HR P base ρ s w → VRs ρ args cargs → callExt C s e args = some (v, s') →
    ∃ c ρ' w', (callFunc f ⟨cargs⟩).run P w = .ok (.value c) w' ∧ Goes P base ρ s w ρ' s' w' ∧ VR ρ' v c
structure CfgOk (C : Cfg) (P : Program) : Prop where
  prog : C.P = P
  zero : ZeroOk P
  fields : FieldsOk P
  eq : EqOk C
  byte : ∀ e, P.underlying e = some (.int .u8) → size P e = some 1
  globals : P.globals.size < lowTop
  body : ∀ f c, C.body f = some c → ∃ fn, P.funcs[f]? = some fn ∧ fn.body = some c ∧ (fn.name == "runtime.NumGoroutine") = false ∧ okCode fn.ntmps c = true ∧ C.results f = fn.results.toList
  mix : P.follows .mixedOrders = true
  insert : ∀ f t, C.insert f = some t → ∀ args s v s', runCon C t s args = some (v, s') → ∀ base ρ w cargs, HR P base ρ s w → VRs ρ args cargs →
    Calls P f ⟨cargs⟩ w fun e w' => ∃ c ρ', e = .returned c ∧ Goes P base ρ s w ρ' s' w' ∧ VR ρ' v c
  ext : ∀ f e, C.ext f = some e → ExtSound C P f e
  lies : ∀ q, q ∈ C.lies → liesAt P P.depth q.1 (q.2.1 / P.cellsOf q.1) q.2.2.1 q.2.2.2 1 = true := by intro q h; cases h
  loops : ∀ fn c body, C.body fn = some c → PartOf c (.loop body) → LoopHolds P C fn body := by intro fn c body _ _ F h; cases h
variable {C : Cfg}
theorem callAny_sound (hK : CfgOk C P) (h : HR P base ρ s w) {f : FuncId} {args cargs : List Value} (ha : VRs ρ args cargs) {r : Res} (hr : callAny C s f args = some r) :
    ResR P base ρ s w ((callFunc f ⟨cargs⟩).run P w) r := by
  unfold callAny at hr
  cases he : C.ext f with
  | none =>
    rw [he] at hr
    obtain ⟨hg, hr⟩ := guard_some.1 hr
    cases hr
    obtain ⟨c, hc⟩ := Option.isSome_iff_exists.1 hg
    obtain ⟨fn, h1, h2, h3, _⟩ := hK.body f c hc
    refine ⟨rfl, cargs, ?_, ha⟩
    have h3' : ¬ fn.name = "runtime.NumGoroutine" := by simpa using h3
    simp [callFunc, h1, h2, h3']
  | some e =>
    rw [he] at hr
    obtain ⟨⟨v, s2⟩, hv, hr⟩ := obind_some.1 hr
    cases hr
    obtain ⟨c, ρ', w', h1, h2, h3⟩ := hK.ext f e he base ρ s s2 w args cargs v h ha hv
    exact ⟨ρ', w', c, .inl h1, h2, h3⟩
theorem callMethod_sound (hK : CfgOk C P) (h : HR P base ρ s w) {t : TypeId} {v c : Value} {name : String} {args cargs : List Value} (hv : VR ρ v c) (ha : VRs ρ args cargs) {r : Res} (hr : callMethod C s t v name args = some r) :
    ResR P base ρ s w ((Go.callMethod (.iface t c) name ⟨cargs⟩).run P w) r := by
  unfold Ax.callMethod at hr
  rw [hK.prog] at hr
  obtain ⟨q, hq, hr⟩ := obind_some.1 hr
  obtain ⟨c', h1, h2⟩ := method_sound h hv hq (P.types.size + Made.depth - 1)
  have e : P.types.size + Made.depth - 1 + 1 = P.types.size + Made.depth := by
    have : 0 < Made.depth := by decide
    omega
  rw [e] at h1
  have := callAny_sound hK h (VRs.cons h2 ha) hr
  unfold Go.callMethod
  simp only [Sem.run_bind, run_program, Result.andThen_ok, h1]
  have e2 : (#[c'] ++ ⟨cargs⟩ : Array Value) = ⟨c' :: cargs⟩ := by simp
  rw [e2]
  exact this
theorem callName_sound (hK : CfgOk C P) (h : HR P base ρ s w) {name : String} {args cargs : List Value} (ha : VRs ρ args cargs) {r : Res} (hr : callName C s name args = some r) :
    ∃ recv rest, cargs = recv :: rest ∧ ResR P base ρ s w ((Go.callMethod recv name ⟨rest⟩).run P w) r := by
  unfold callName at hr
  split at hr
  · cases ha with
    | cons h1 h2 =>
      cases h1 with
      | iface t hv => exact ⟨_, _, rfl, callMethod_sound hK h hv h2 hr⟩
  · cases hr
theorem callVia_sound (hK : CfgOk C P) (h : HR P base ρ s w) {t : TypeId} {path : Array FieldStep} {f : FuncId} {pr : Bool} {args cargs : List Value} (ha : VRs ρ args cargs) {r : Res} (hr : callVia C s t path.toList f pr args = some r) :
    ∃ x rest, cargs = x :: rest ∧ ResR P base ρ s w (Sem.run P (do callFunc f (#[← receiverVia t x path pr] ++ ⟨rest⟩)) w) r := by
  unfold callVia at hr
  split at hr
  · rw [hK.prog] at hr
    obtain ⟨q, hq, hr⟩ := obind_some.1 hr
    obtain ⟨v, hv, hr⟩ := obind_some.1 hr
    cases ha with
    | @cons _ c _ rest h1 h2 =>
      obtain ⟨y, h3, h4⟩ := follow_sound h path.toList (PlR.val h1) hq
      obtain ⟨c', h5, h6⟩ := receiver_sound h none h4 hv
      refine ⟨_, _, rfl, ?_⟩
      have := callAny_sound hK h (VRs.cons h6 h2) hr
      simp only [receiverVia, Sem.run_bind, h3, Result.andThen_ok, h5]
      have e2 : (#[c'] ++ ⟨rest⟩ : Array Value) = ⟨c' :: rest⟩ := by simp
      rw [e2]
      exact this
  · cases hr
theorem callFn_sound (hK : CfgOk C P) (h : HR P base ρ s w) {fn fn' : Fn} {a a' b b' args cargs : List Value} (hf : FR ρ fn fn') (ha : VRs ρ a a') (hb : VRs ρ b b') (hg : VRs ρ args cargs) {r : Res} (hr : callFn C s fn a b args = some r) :
    ResR P base ρ s w ((Go.invoke (.fn fn' ⟨b'⟩) (⟨a'⟩ ++ ⟨cargs⟩)).run P w) r := by
  have e1 : (⟨a'⟩ ++ ⟨cargs⟩ : Array Value) = ⟨a' ++ cargs⟩ := by simp
  rw [e1]
  unfold callFn at hr
  simp only [appL_eq] at hr
  cases hf with
  | func f =>
    have := callAny_sound hK h (ha.append (hg.append hb)) hr
    have e2 : (⟨a' ++ cargs⟩ ++ ⟨b'⟩ : Array Value) = ⟨a' ++ (cargs ++ b')⟩ := by simp
    simp only [Go.invoke, e2]
    exact this
  | yield hl =>
    cases hr
    exact ⟨rfl, _, _, hl, rfl, ha.append hg⟩
  | method name =>
    obtain ⟨recv, rest, h1, h2⟩ := callName_sound hK h (ha.append hg) hr
    rw [h1]
    have e2 : (⟨recv :: rest⟩ : Array Value).extract 1 (⟨recv :: rest⟩ : Array Value).size = ⟨rest⟩ := by simp
    simp only [Go.invoke, List.getElem?_toArray, List.getElem?_cons_zero, e2]
    exact h2
  | methodOf t n => cases hr
  | via t p f b =>
    obtain ⟨x, rest, h1, h2⟩ := callVia_sound hK h (ha.append hg) hr
    rw [h1]
    have e2 : (⟨x :: rest⟩ : Array Value).extract 1 (⟨x :: rest⟩ : Array Value).size = ⟨rest⟩ := by simp
    simp only [Go.invoke, List.getElem?_toArray, List.getElem?_cons_zero, e2]
    exact h2
theorem invoke_sound (hK : CfgOk C P) (h : HR P base ρ s w) {f cf : Value} {args cargs : List Value} (hf : VR ρ f cf) (ha : VRs ρ args cargs) {r : Res} (hr : invoke C s f args = some r) :
    ResR P base ρ s w (Sem.run P (do let d ← Deferred.ofValue cf ⟨cargs⟩; Go.invoke d.target d.args) w) r := by
  unfold Ax.invoke at hr
  split at hr
  · cases hf with
    | func hfn h1 h2 =>
      have := callFn_sound hK h hfn h1 h2 ha hr
      simpa only [Deferred.ofValue, Sem.run_bind, Sem.run_pure, Result.andThen_ok] using this
  · cases hr
theorem builtin_sound (hK : CfgOk C P) (h : HR P base ρ s w) {b : Builtin} {ts : Array TypeId} {ty : TypeId} {consts : Array Bool} {args cargs : List Value} (ha : VRs ρ args cargs) {r : Res}
    (hr : builtin C s b (nth ts.toList 0) (nth ts.toList 1) args = some r) : ResR P base ρ s w ((Go.builtin b ts ty consts ⟨cargs⟩).run P w) r := by
  have h0 : nth ts.toList 0 = ts[0]? := by rw [nth_eq]; simp
  have h1 : nth ts.toList 1 = ts[1]? := by rw [nth_eq]; simp
  rw [h0, h1] at hr
  unfold Ax.builtin at hr
  split at hr
  · cases ha with
    | cons hx hn =>
      cases hn
      split at hr
      · obtain ⟨t, ht, hr⟩ := obind_some.1 hr
        rw [hK.prog] at hr
        exact bLen_sound h hx ts ty ht hr
      · obtain ⟨t, ht, hr⟩ := obind_some.1 hr
        rw [hK.prog] at hr
        exact bCap_sound h hx ts ty ht hr
      · obtain ⟨t, ht, hr⟩ := obind_some.1 hr
        rw [hK.prog] at hr
        exact bClear_sound h hK.zero hx ts ty ht hr
      · exact bSliceData_sound h hx ts ty hr
      · cases hr
  · cases ha with
    | cons hx hn =>
      cases hn with
      | cons hy hn =>
        cases hn
        split at hr
        · obtain ⟨t, ht, hr⟩ := obind_some.1 hr
          rw [hK.prog] at hr
          obtain ⟨⟨v, s2⟩, hv, hr⟩ := obind_some.1 hr
          cases hr
          obtain ⟨c, ρ', w', h2, h3, h4⟩ := append_sound (ty := ty) h hx hy ht hv
          refine ⟨ρ', w', c, .inl ?_, h3, h4⟩
          simp only [Go.builtin, Sem.run_bind, h2, Result.andThen_ok, Sem.run_pure]
        · obtain ⟨t, ht, hr⟩ := obind_some.1 hr
          rw [hK.prog] at hr
          exact bCopy_sound h hx hy ts ty ht hr
        · have := bMinMax_sound h hx hy ts ty hr
          simpa only [Bool.false_eq_true, if_false, Go.builtin] using this
        · have := bMinMax_sound h hx hy ts ty hr
          simpa only [if_true, Go.builtin] using this
        · obtain ⟨t, ht, hr⟩ := obind_some.1 hr
          rw [hK.prog] at hr
          exact bString_sound h hx hy ts ty ht hr
        · cases hr
  · cases hr
end
end Go.Ax
namespace Go.Ax
variable [Lo]
open Go
section
variable {P : Program} {base : Nat} {ρ : Ren} {s s' : St} {w w' : World} {ev : Ev} {η : Operand → Value} {C : Cfg}
theorem andThen_assoc {α β γ : Type} (x : Result α) (f : α → World → Result β) (g : β → World → Result γ) : (x.andThen f).andThen g = x.andThen fun a w => (f a w).andThen g := by cases x <;> rfl
theorem oConvert_sound (hK : CfgOk C P) (h : HR P base ρ s w) (he : EvR ρ ev η) {src dst : TypeId} {x : Operand} {r : Res} (hr : oConvert C ev s src dst x = some r) :
    ResR P base ρ s w (Sem.run P (do pure (.value (← Go.convert src dst (η x)))) w) r := by
  obtain ⟨v, hv, hr⟩ := obind_some.1 hr
  have hr : Option.casesOn (convPtr C s src dst v) (obind (convert C.P s src dst v) toRes) (fun v => ret v s) = some r := hr
  cases hcp : convPtr C s src dst v with
  | some u =>
    rw [hcp] at hr
    have hr : ret u s = some r := hr
    cases hr
    obtain ⟨hu, h1⟩ := convPtr_sound h hK.prog hK.lies (he x v hv) hcp
    refine ⟨ρ, w, η x, .inl ?_, Goes.refl h, hu⟩
    simp only [Sem.run_bind, h1, Result.andThen_ok, Sem.run_pure]
  | none =>
  rw [hcp] at hr
  obtain ⟨⟨u, s2⟩, hc, hr⟩ := obind_some.1 hr
  cases hr
  rw [hK.prog] at hc
  obtain ⟨c, ρ', w', h1, h2, h3⟩ := convert_sound h hK.byte (he x v hv) hc
  refine ⟨ρ', w', c, .inl ?_, h2, h3⟩
  simp only [Sem.run_bind, h1, Result.andThen_ok, Sem.run_pure]
theorem oLookup_sound (hK : CfgOk C P) (h : HR P base ρ s w) (he : EvR ρ ev η) {t : TypeId} {m k : Operand} {ok : Bool} {r : Res} (hr : oLookup C ev s t m k ok = some r) :
    ResR P base ρ s w (Sem.run P (do pure (.value (← Instr.lookup t (η m) (η k) ok))) w) r := by
  obtain ⟨a, ha, hr⟩ := obind_some.1 hr
  obtain ⟨b, hb, hr⟩ := obind_some.1 hr
  exact lookup_sound h hK.prog hK.eq hK.zero (he m a ha) (he k b hb) hr
theorem oUpdate_sound (hK : CfgOk C P) (h : HR P base ρ s w) (he : EvR ρ ev η) {t : TypeId} {m k x : Operand} {r : Res} (hr : oUpdate C ev s t m k x = some r) :
    ResR P base ρ s w (Sem.run P (do Instr.mapUpdate t (η m) (η k) (η x); pure .skip) w) r := by
  unfold oUpdate at hr
  rw [hK.prog] at hr
  split at hr
  · rename_i hu
    obtain ⟨a, ha, hr⟩ := obind_some.1 hr
    obtain ⟨b, hb, hr⟩ := obind_some.1 hr
    obtain ⟨c, hc, hr⟩ := obind_some.1 hr
    exact mapUpdate_sound h hK.prog hK.eq hu (he m a ha) (he k b hb) (he x c hc) hr
  · cases hr
theorem oEntry_sound (hK : CfgOk C P) (h : HR P base ρ s w) (he : EvR ρ ev η) {t : TypeId} {m k : Operand} {r : Res} (hr : oEntry C ev s t m k = some r) :
    ResR P base ρ s w (Sem.run P (do pure (.value (← Instr.mapEntry t (η m) (η k)))) w) r := by
  unfold oEntry at hr
  rw [hK.prog] at hr
  split at hr
  · rename_i hu
    obtain ⟨a, ha, hr⟩ := obind_some.1 hr
    obtain ⟨b, hb, hr⟩ := obind_some.1 hr
    exact mapEntry_sound h hK.prog hK.eq hK.zero hu (he m a ha) (he k b hb) hr
  · cases hr
theorem getMapI_some {m : Nat} {q : List MapEntry × Nat} (hq : Ax.getMapI s m = some q) : s.heap.get m = some (.map q.1 q.2) := by
  unfold Ax.getMapI at hq
  split at hq
  · rename_i es c h; cases hq; exact h
  · cases hq
theorem getIter_some {m : Nat} {q : AIter} (hq : Ax.getIter s m = some q) : s.heap.get m = some (.loop (.iter q)) := by
  unfold Ax.getIter at hq
  split at hq
  · rename_i o h
    cases o with
    | loop l => cases hq
    | iter l => cases hq; exact h
  · cases hq
theorem isMap_some {t : TypeId} (h : Ax.isMap P t = true) : ∃ k e, P.underlying t = some (.map k e) := by
  unfold Ax.isMap at h
  split at h
  · exact ⟨_, _, by assumption⟩
  · cases h
theorem run_setIter {k : Nat} {m : Option Nat} {since st : Nat} {seen : Array Nat} (o : Obj) (h : w.heap[k]? = some (.mapIter m since seen st)) : (setObj k o).run P w = .ok () { w with heap := w.heap.setIfInBounds k o } := by
  simp [setObj, Sem.run, h]
theorem oRange_sound (hK : CfgOk C P) (h : HR P base ρ s w) (he : EvR ρ ev η) {t : TypeId} {x : Operand} {r : Res} (hr : oRange C ev s t x = some r) :
    ResR P base ρ s w (Sem.run P (do pure (.value (← Instr.range t (η x)))) w) r := by
  unfold oRange at hr
  rw [hK.prog] at hr
  obtain ⟨hm, hr⟩ := guard_some.1 hr
  obtain ⟨v, hv, hr⟩ := obind_some.1 hr
  have hx := he x v hv
  generalize η x = y at hx
  split at hr
  · rename_i m
    obtain ⟨q, hq, hr⟩ := obind_some.1 hr
    have hg := getMapI_some hq
    obtain ⟨l, hl, es', h1, h2⟩ := h.maps m _ _ hg
    cases hx with
    | @map _ l' hl' =>
      rw [hl] at hl'
      cases hl'
      obtain ⟨k, e, hu⟩ := isMap_some hm
      have hgo := Goes.newIter (r := { map := m, since := q.2, seen := [], stepped := q.2 }) h hl
      have hr2 := ret_some hr
      rw [hr2]
      have hrun : (Instr.range t (.map (some l.blk))).run P w = .ok (.pointer (some ⟨w.heap.size, 0, none⟩)) (w.alloc (.mapIter (some l.blk) q.2 ⟨[]⟩ q.2)) := by
        simp [Instr.range, run_underlying hu, run_getObj h1 (by simp)]
      simp only [Sem.run_bind, hrun, Result.andThen_ok, Sem.run_pure]
      refine gives_val hgo ?_
      have := VR.ptr (ρ := ρ.set s.next ⟨w.heap.size, 0, 0⟩) (b := s.next) (o := 0) (l := ⟨w.heap.size, 0, 0⟩) (by rw [Ren.at_of h.next, Ren.set_same])
      simpa [Ax.ptr] using this
  · cases hr
theorem lcase_some {α β : Type} {l : List α} {f : α → List α → Option β} {z : Option β} {b : β} (h : lcase l z f = some b) : (l = [] ∧ z = some b) ∨ ∃ a t, l = a :: t ∧ f a t = some b := by
  cases l with
  | nil => exact .inl ⟨rfl, h⟩
  | cons a t => exact .inr ⟨a, t, rfl, h⟩
theorem isNilL_eq {α : Type} (l : List α) : isNilL l = l.isEmpty := by cases l <;> rfl
theorem allFrom_eq (k : Nat) : ∀ l : List MapEntry, allFrom k l = l.all (fun e => decide (k ≤ e.born))
  | [] => rfl
  | e :: l => by
    show sel (Nat.ble k e.born) (allFrom k l) false = _
    rw [sel_eq, allFrom_eq k l, List.all_cons]
    by_cases hk : k ≤ e.born
    · rw [Nat.ble_eq_true_of_le hk]; simp [hk]
    · have : Nat.ble k e.born = false := by
        cases hb : Nat.ble k e.born with
        | false => rfl
        | true => exact absurd (Nat.le_of_ble_eq_true hb) hk
      rw [this]; simp [hk]
theorem leftOf_eq (seen : List Nat) : ∀ l : List MapEntry, leftOf seen l = l.filter (fun e => !seen.contains e.born)
  | [] => rfl
  | e :: l => by
    show sel (elemN e.born seen) (leftOf seen l) (e :: leftOf seen l) = _
    rw [sel_eq, leftOf_eq seen l, elemN_eq]
    by_cases h : e.born ∈ seen <;> simp [h]
theorem EsR.left {ρ : Ren} (f : Nat → Bool) {l l' : List MapEntry} (h : EsR ρ l l') : EsR ρ (l.filter fun e => f e.born) (l'.filter fun e => f e.born) := by
  induction h with
  | nil => exact .nil
  | cons hk hv hb _ ih =>
    rw [List.filter_cons, List.filter_cons, hb]
    split
    · exact .cons hk hv hb ih
    · exact ih
theorem EsR.all {ρ : Ren} (f : Nat → Bool) {l l' : List MapEntry} (h : EsR ρ l l') : (l.all fun e => f e.born) = l'.all fun e => f e.born := by
  induction h with
  | nil => rfl
  | cons hk hv hb _ ih => rw [List.all_cons, List.all_cons, hb, ih]
theorem EsR.empty {ρ : Ren} {l l' : List MapEntry} (h : EsR ρ l l') : l.isEmpty = l'.isEmpty := by cases h <;> rfl
theorem oNext_sound (h : HR P base ρ s w) (he : EvR ρ ev η) {x : Operand} {b : Bool} {ty : TypeId} {r : Res} (hr : oNext C ev s x b = some r) :
    ResR P base ρ s w (Sem.run P (do pure (.value (← Instr.next (η x) b ty))) w) r := by
  unfold oNext at hr
  obtain ⟨hb, hr⟩ := guard_some.1 hr
  have hb : b = false := by simpa using hb
  subst hb
  obtain ⟨v, hv, hr⟩ := obind_some.1 hr
  have hx := he x v hv
  generalize η x = y at hx
  split at hr
  · rename_i a
    obtain ⟨h0, hr⟩ := guard_some.1 hr
    have h0 : a.off = 0 := Nat.eq_of_beq_eq_true h0
    obtain ⟨it, hi, hr⟩ := obind_some.1 hr
    obtain ⟨q, hq, hr⟩ := obind_some.1 hr
    have hgi := getIter_some hi
    have hgm := getMapI_some hq
    obtain ⟨l, hl, o, h1, h2⟩ := h.loops a.block _ hgi
    obtain ⟨lm, hlm, es', h3, h4⟩ := h.maps it.map _ _ hgm
    have hti := tag_loop hgi
    cases h2 with
    | @iter _ m hl0 hm =>
    rw [hlm] at hm
    cases hm
    obtain ⟨d1, _, _, _⟩ := h.dom _ l hl
    cases hx with
    | @ptr b' o' l' hl' =>
    have h0 : o' = 0 := h0
    subst h0
    have hl : ρ b' = some l := hl
    rw [Ren.at_of d1, hl] at hl'
    cases hl'
    unfold stepIter at hr
    obtain ⟨hg, hr⟩ := guard_some.1 hr
    have hg' : (!(⟨it.seen⟩ : Array Nat).isEmpty && !es'.isEmpty && es'.all (fun e => decide (e.born ≥ it.stepped))) = false := by
      have e1 : (⟨it.seen⟩ : Array Nat).isEmpty = it.seen.isEmpty := by simp
      have e2 : es'.isEmpty = q.1.isEmpty := by rw [h4.empty]; simp
      have e3 : (es'.all fun e => decide (e.born ≥ it.stepped)) = q.1.all fun e => decide (it.stepped ≤ e.born) := by
        rw [h4.all (fun n => decide (it.stepped ≤ n))]
        simp
      rw [isNilL_eq, isNilL_eq, allFrom_eq] at hg
      rw [e1, e2, e3]
      revert hg
      cases it.seen.isEmpty <;> cases q.1.isEmpty <;> cases (q.1.all fun e => decide (it.stepped ≤ e.born)) <;> simp
    have hleft := h4.left (fun n => !it.seen.contains n)
    rw [leftOf_eq] at hr
    have hfl : (es'.filter fun e => !(⟨it.seen⟩ : Array Nat).contains e.born).toList = es'.toList.filter fun e => !it.seen.contains e.born := by simp
    rcases lcase_some hr with ⟨hnil, hr⟩ | ⟨e, rest, hcons, hr⟩
    · have hr := ret_some hr
      rw [hr]
      rw [hnil] at hleft
      have hl' : es'.filter (fun e => !(⟨it.seen⟩ : Array Nat).contains e.born) = #[] := by
        apply Array.toList_inj.1
        rw [hfl]
        cases hleft' : es'.toList.filter (fun e => !it.seen.contains e.born) with
        | nil => rfl
        | cons a t => rw [hleft'] at hleft; cases hleft
      have hrun : (Instr.next (.pointer (some ⟨l.blk, l.off + 0, none⟩)) false ty).run P w = .ok (.tuple ⟨[.bool false]⟩) w := by
        rw [hl0]
        simp only [Instr.next, Nat.add_zero, run_getObj h1 (by simp), run_getObj h3 (by simp), Sem.run_bind, Result.andThen_ok, hg', Bool.false_eq_true, if_false, hl']
        simp [choose, Sem.run, Question.forced, Result.andThen]
      simp only [Sem.run_bind, hrun, Result.andThen_ok, Sem.run_pure]
      exact gives_val (Goes.refl h) (.tuple (.cons (.bool _) .nil))
    · obtain ⟨hg2, hr2⟩ := guard_some.1 hr
      clear hr
      simp only [Bool.and_eq_true] at hg2
      obtain ⟨hg2, hg3⟩ := hg2
      rw [isNilL_eq] at hg2
      have hrest : rest = [] := by simpa using hg2
      subst hrest
      have hg3 := ltN_some hg3
      have hr3 := ret_some hr2
      rw [hr3]
      rw [hcons] at hleft
      obtain ⟨e', hl', hk, hvv, hbb⟩ : ∃ e', es'.filter (fun e => !(⟨it.seen⟩ : Array Nat).contains e.born) = #[e'] ∧ VR ρ e.key e'.key ∧ VR ρ e.val e'.val ∧ e.born = e'.born := by
        cases hleft' : es'.toList.filter (fun e => !it.seen.contains e.born) with
        | nil => rw [hleft'] at hleft; cases hleft
        | cons a t =>
          rw [hleft'] at hleft
          cases hleft with
          | cons hk hv hb hn =>
            cases hn
            refine ⟨a, ?_, hk, hv, hb⟩
            apply Array.toList_inj.1
            rw [hfl, hleft']
      have hgo := Goes.putObj (r := .loop (.iter { map := it.map, since := it.since, seen := appL it.seen [e.born], stepped := q.2 })) (o := .mapIter (some lm.blk) it.since ⟨appL it.seen [e.born]⟩ q.2) h hti hl (.inr ⟨_, rfl, .iter hl0 hlm⟩)
      have hpush : (⟨it.seen⟩ : Array Nat).push e'.born = ⟨appL it.seen [e.born]⟩ := by
        apply Array.toList_inj.1
        rw [Array.toList_push, appL_eq, hbb]
      have hrun : (Instr.next (.pointer (some ⟨l.blk, l.off + 0, none⟩)) false ty).run P w = .ok (.tuple ⟨[.bool true, e'.key, e'.val]⟩) { w with heap := w.heap.setIfInBounds l.blk (.mapIter (some lm.blk) it.since ⟨appL it.seen [e.born]⟩ q.2) } := by
        rw [hl0]
        have hlt : e'.born < it.since := by omega
        simp only [Instr.next, Nat.add_zero, run_getObj h1 (by simp), run_getObj h3 (by simp), Sem.run_bind, Result.andThen_ok, hg', Bool.false_eq_true, if_false, hl']
        simp [choose, Sem.run, Question.forced, Result.andThen, hlt, hpush, run_setIter _ h1]
      simp only [Sem.run_bind, hrun, Result.andThen_ok, Sem.run_pure]
      exact gives_val hgo (.tuple (.cons (.bool _) (.cons hk (.cons hvv .nil))))
  · cases hr
theorem lastN_eq : ∀ l : List Nat, lastN l = l.getLast?
  | [] => rfl
  | a :: l => by
    show Option.casesOn (motive := fun _ => Option Nat) (lastN l) (some a) some = _
    rw [lastN_eq l]
    cases l with
    | nil => rfl
    | cons b t =>
      rw [List.getLast?_cons_cons]
      cases h : (b :: t).getLast? with
      | none => simp at h
      | some x => rfl
theorem findBornI_eq (k : Nat) : ∀ l : List MapEntry, findBornI k l = l.find? (fun e => e.born == k)
  | [] => rfl
  | e :: l => by
    show sel (Nat.beq e.born k) (some e) (findBornI k l) = _
    rw [sel_eq, findBornI_eq k l, List.find?_cons]
    by_cases h : e.born = k
    · subst h; simp
    · have h1 : Nat.beq e.born k = false := by
        cases hb : Nat.beq e.born k with
        | false => rfl
        | true => exact absurd (Nat.eq_of_beq_eq_true hb) h
      have h2 : (e.born == k) = false := by simpa using h
      rw [h1, h2]; simp
theorem EsR.find {ρ : Ren} (k : Nat) {l l' : List MapEntry} (h : EsR ρ l l') {e : MapEntry} (he : l.find? (fun e => e.born == k) = some e) : ∃ e', l'.find? (fun e => e.born == k) = some e' ∧ VR ρ e.key e'.key ∧ VR ρ e.val e'.val := by
  induction h with
  | nil => cases he
  | cons hk hv hb _ ih =>
    rw [List.find?_cons] at he ⊢
    rw [← hb]
    split at he
    · cases he; exact ⟨_, rfl, hk, hv⟩
    · exact ih he
theorem oIterEntry_sound (h : HR P base ρ s w) (he : EvR ρ ev η) {x : Operand} {r : Res} (hr : oIterEntry C ev s x = some r) :
    ResR P base ρ s w (Sem.run P (do pure (.value (← Instr.entry (η x)))) w) r := by
  unfold oIterEntry at hr
  obtain ⟨v, hv, hr⟩ := obind_some.1 hr
  have hx := he x v hv
  generalize η x = y at hx
  split at hr
  · rename_i a
    obtain ⟨h0, hr1⟩ := guard_some.1 hr
    have h0 : a.off = 0 := Nat.eq_of_beq_eq_true h0
    obtain ⟨it, hi, hr2⟩ := obind_some.1 hr1
    obtain ⟨k, hk, hr3⟩ := obind_some.1 hr2
    obtain ⟨q, hq, hr4⟩ := obind_some.1 hr3
    obtain ⟨hc, hr5⟩ := guard_some.1 hr4
    have hc : q.2 = it.stepped := Nat.eq_of_beq_eq_true hc
    obtain ⟨e, hf, hr6⟩ := obind_some.1 hr5
    clear hr hr1 hr2 hr3 hr4 hr5
    have hgi := getIter_some hi
    have hgm := getMapI_some hq
    obtain ⟨l, hl, o, h1, h2⟩ := h.loops a.block _ hgi
    obtain ⟨lm, hlm, es', h3, h4⟩ := h.maps it.map _ _ hgm
    cases h2 with
    | @iter _ m hl0 hm =>
    rw [hlm] at hm
    cases hm
    obtain ⟨d1, _, _, _⟩ := h.dom _ l hl
    cases hx with
    | @ptr b' o' l' hl' =>
    have h0 : o' = 0 := h0
    subst h0
    have hl : ρ b' = some l := hl
    rw [Ren.at_of d1, hl] at hl'
    cases hl'
    rw [lastN_eq] at hk
    rw [findBornI_eq] at hf
    obtain ⟨e', hf', hke, hve⟩ := h4.find k hf
    have hr7 := ret_some hr6
    rw [hr7]
    have hback : (⟨it.seen⟩ : Array Nat).back? = some k := by rw [← hk]; simp
    have hfa : es'.find? (fun e => e.born == k) = some e' := by rw [← Array.find?_toList]; exact hf'
    have hrun : (Instr.entry (.pointer (some ⟨l.blk, l.off + 0, none⟩))).run P w = .ok (.tuple ⟨[e'.key, e'.val]⟩) w := by
      rw [hl0]
      simp only [Instr.entry, Nat.add_zero, run_getObj h1 (by simp), Sem.run_bind, Result.andThen_ok, hback, run_getObj h3 (by simp), hc, bne_self_eq_false, Bool.false_eq_true, if_false, hfa, Sem.run_pure]
    simp only [Sem.run_bind, hrun, Result.andThen_ok, Sem.run_pure]
    exact gives_val (Goes.refl h) (.tuple (.cons hke (.cons hve .nil)))
  · cases hr
theorem oCall_sound (hK : CfgOk C P) (h : HR P base ρ s w) (he : EvR ρ ev η) {c : Call} (ty : TypeId) {r : Res} (hr : oCall C ev s c = some r) :
    ResR P base ρ s w (Sem.run P (do let d ← resolve η c ty; Go.invoke d.target d.args) w) r := by
  unfold oCall at hr
  obtain ⟨args, ha, hr⟩ := obind_some.1 hr
  have hargs := evs_some he ha
  have e0 : c.args.map η = ⟨c.args.toList.map η⟩ := by apply Array.ext'; simp
  cases hc : c.callee with
  | builtin b =>
    rw [hc] at hr
    have := builtin_sound (ty := ty) (consts := c.args.map fun | .const _ => true | _ => false) hK h hargs hr
    simp only [resolve, hc, Sem.run_bind, Sem.run_pure, Result.andThen_ok, Go.invoke, e0]
    exact this
  | value f =>
    rw [hc] at hr
    obtain ⟨v, hv, hr⟩ := obind_some.1 hr
    have := invoke_sound hK h (he f v hv) hargs hr
    simp only [resolve, hc, e0]
    exact this
  | invoke recv name =>
    rw [hc] at hr
    obtain ⟨v, hv, hr⟩ := obind_some.1 hr
    obtain ⟨x, rest, h1, h2⟩ := callName_sound hK h (VRs.cons (he recv v hv) hargs) hr
    have e1 : (#[η recv] ++ (⟨c.args.toList.map η⟩ : Array Value)) = ⟨x :: rest⟩ := by
      apply Array.ext'
      simpa using h1
    have e2 : (⟨x :: rest⟩ : Array Value).extract 1 (⟨x :: rest⟩ : Array Value).size = ⟨rest⟩ := by simp
    simp only [resolve, hc, Sem.run_bind, Sem.run_pure, Result.andThen_ok, Go.invoke, e0, e1, List.getElem?_toArray, List.getElem?_cons_zero, e2]
    exact h2
theorem oDefer_sound (_h : HR P base ρ s w) (he : EvR ρ ev η) {c : Call} (ty : TypeId) {r : Res} (hr : oDefer C ev s c = some r) :
    ResR P base ρ s w (Sem.run P (do pure (.defer (← resolve η c ty))) w) r := by
  unfold oDefer at hr
  cases hc : c.callee with
  | builtin b => rw [hc] at hr; cases hr
  | invoke recv name => rw [hc] at hr; cases hr
  | value f =>
    rw [hc] at hr
    obtain ⟨v, hv, hr⟩ := obind_some.1 hr
    have hf := he f v hv
    simp only [resolve, hc]
    generalize η f = cf at hf
    split at hr
    · rename_i g first captured
      obtain ⟨args, ha, hr⟩ := obind_some.1 hr
      cases hr
      have hargs := evs_some he ha
      have e0 : c.args.map η = ⟨c.args.toList.map η⟩ := by apply Array.ext'; simp
      cases hf with
      | @func _ _ a a' b b' hfn h1 h2 =>
        cases hfn
        refine ⟨rfl, { target := .fn (.func g) ⟨b'⟩, args := ⟨a' ++ c.args.toList.map η⟩ }, a' ++ c.args.toList.map η, b', ?_, rfl, rfl, ?_⟩
        · simp [Deferred.ofValue]
        · simp only [appL_eq, List.append_assoc]
          exact h1.append (hargs.append h2)
    · cases hr
theorem op_sound (hK : CfgOk C P) (h : HR P base ρ s w) (he : EvR ρ ev η) {o : Oper} {r : Res} (hr : execOp C ev s o.op = some r) :
    ResR P base ρ s w ((Go.execOp η o).run P w) r := by
  have hC := hK.prog
  cases ho : o.op
  case nilCheck x => rw [ho] at hr; exact oNilCheck_sound h he C hC ho hr
  all_goals
    rw [ho] at hr
    unfold Go.execOp
    simp only [ho]
  all_goals try (change none = some r at hr; cases hr; done)
  case move x => exact oMove_sound h he C hr
  case assign x => exact oMove_sound h he C hr
  case pick c a b => exact oPick_sound h he C hr
  case alloc t => exact oAlloc_sound h hK.zero C hC hr
  case box t x => exact oBox_sound h he C hr
  case build t parts => exact oBuild_sound h he hK.zero hK.fields C hC hr
  case buildSlice t len parts => exact oBuildSlice_sound h he hK.zero C hC hr
  case load t a => exact oLoad_sound h he C hC hr
  case store t a x => exact oStore_sound h he C hC hr
  case binOp op t x y yt =>
    have := oBin_sound h he C hC hK.eq hr
    simp only [Sem.run_bind] at this ⊢
    rw [andThen_assoc]
    exact this
  case unOp op t x => exact oUn_sound h he C hr
  case convert src dst x => exact oConvert_sound hK h he hr
  case makeInterface t x => exact oIface_sound h he C hC hr
  case makeFunc fn first captured => exact oFunc_sound h he C hr
  case makeMap t r => exact oMakeMap_sound h he C hC hr
  case makeSlice t l c => exact oMakeSlice_sound h he hK.zero C hC hr
  case slice t x lo hi mx => exact oSlice_sound h he C hC hr
  case fieldAddr t x f => exact oFieldAddr_sound h he C hC hr
  case field t x f => exact oField_sound h he C hC hr
  case indexAddr t x i => exact oIndexAddr_sound h he C hC hr
  case index t x i => exact oIndex_sound h he C hC hr
  case lookup t m k ok => exact oLookup_sound hK h he hr
  case mapUpdate t m k x => exact oUpdate_sound hK h he hr
  case insert t m k x => exact oUpdate_sound hK h he hr
  case mapEntry t m k => exact oEntry_sound hK h he hr
  case range t x => exact oRange_sound hK h he hr
  case next x b => exact oNext_sound (C := C) h he (ty := o.type) hr
  case entry x => exact oIterEntry_sound (C := C) h he hr
  case typeAssert x xt a ok => exact oAssert_sound h he hK.zero C hC hr
  case extract x i => exact oExtract_sound h he C hr
  case call c => exact oCall_sound hK h he _ hr
  case defer c => exact oDefer_sound (C := C) h he _ hr
  case sliceToArrayPointer arr x => exact oS2A_sound h he C hC hr
end
end Go.Ax
namespace Go.Ax
variable [Lo]
open Go
noncomputable section
section
variable {P : Program} {base : Nat} {ρ ρ' : Ren} {s s' : St} {w w' : World} {ev : Ev} {η : Operand → Value} {C : Cfg}
theorem callsIn_fro {ro : Option Nat} {n : Nat} {f : FuncId} {args : Array Value} {R : Ending → World → Prop} (h : Calls P f args w R) : CallsIn (Fro ro) n P f args w R :=
  ⟨trivial, fun cs _ => ((callsIn_wide (n := n)).2 h).2 cs (room_wide _)⟩
theorem roundIn_fro {ro : Option Nat} {n n' : Nat} {l : Nat} {f : FuncId} {tmps : Array Value} {assign body : Code} {R : Ending → World → Prop} (h : RoundIn Fence.wide n' P l f tmps assign body w R) : RoundIn (Fro ro) n P l f tmps assign body w R :=
  ⟨trivial, fun c cs _ => h.2 c cs (room_wide _)⟩
def CallOk (P : Program) (call : CallT) : Prop :=
  ∀ f args s v s', call f args s = some (v, s') → ∀ base ρ w cargs, HR P base ρ s w → VRs ρ args cargs →
    Calls P f ⟨cargs⟩ w fun e w' => ∃ c ρ', e = .returned c ∧ Goes P base ρ s w ρ' s' w' ∧ VR ρ' v c
def YieldOk (P : Program) (yield : YieldT) : Prop :=
  ∀ l args s v s', yield l args s = some (v, s') → ∀ base ρ w q cargs, HR P base ρ s w → ρ l = some q → VRs ρ args cargs →
    ∃ f tmps assign body, (Instr.yield q.blk ⟨cargs⟩).run P w = .ok (.round q.blk f tmps assign body) w ∧
      RoundIn Fence.wide 0 P q.blk f tmps assign body w fun e w' => ∃ c ρ', e = .returned c ∧ Goes P base ρ s w ρ' s' w' ∧ VR ρ' v c
def aft (call : CallT) (yield : YieldT) (rd : Bool) (r : Res) : Option (Value × St × Option (FuncId × List Value)) :=
  match r with
  | .val v s => some (v, s, none)
  | .call f args s => obind (call f args s) fun q => some (q.1, q.2, none)
  | .yield l args s => obind (yield l args s) fun q => some (q.1, q.2, none)
  | .defer f args s => sel rd none (some (unit, s, some (f, args)))
def moreL (d : Option (FuncId × List Value)) (l : List (FuncId × List Value)) : List (FuncId × List Value) :=
  match d with
  | none => l
  | some d => d :: l
def Fr.more (fr : Fr) (d : Option (FuncId × List Value)) : Fr := { vars := fr.vars, loc := fr.loc, defers := moreL d fr.defers }
theorem afterOp_eq (call : CallT) (yield : YieldT) (rd : Bool) (n : Nat) (fr : Fr) (dst : Option Tmp) (k : OpsK) (r : Res) :
    afterOp call yield rd n fr dst k r = obind (aft call yield rd r) fun q => k ((fr.more q.2.2).put n dst q.1) q.2.1 := by
  cases r with
  | val v s => rfl
  | call f args s => show obind (call f args s) _ = obind (obind (call f args s) _) _; cases call f args s <;> rfl
  | yield l args s => show obind (yield l args s) _ = obind (obind (yield l args s) _) _; cases yield l args s <;> rfl
  | defer f args s => cases rd <;> rfl
inductive NewDef (ρ : Ren) : Option (FuncId × List Value) → List Deferred → Prop
  | none : NewDef ρ none []
  | some {f : FuncId} {args first captured : List Value} {d : Deferred} (ht : d.target = .fn (.func f) ⟨captured⟩) (ha : d.args = ⟨first⟩) (hv : VRs ρ args (first ++ captured)) : NewDef ρ (some (f, args)) [d]
theorem op_wp (hK : CfgOk C P) {call : CallT} {yield : YieldT} (hc : CallOk P call) (hy : YieldOk P yield) {ro : Option Nat} {m : Nat} {o : Oper} {a : Act} {K : Act → World → Prop} {Q : Exit → Act → World → Prop}
    (h : HR P base ρ s w) (he : EvR ρ ev a.eval) {r : Res} (hr : execOp C ev s o.op = some r) {v : Value} {s' : St} {df : Option (FuncId × List Value)} (ha : aft call yield ro.isSome r = some (v, s', df))
    (hk : ∀ ρ' w' c ds, Goes P base ρ s w ρ' s' w' → VR ρ' v c → NewDef ρ' df ds → K (({ tmps := a.tmps, defers := ds ++ a.defers } : Act).put o.dst c) w') :
    o.wpIn (Fro ro) m P a w K Q := by
  have hs := op_sound hK h he hr
  refine ⟨fun _ _ => trivial, ?_⟩
  have hsem : ∀ d f args s2, r = .val d s2 ∨ r = .call f args s2 ∨ r = .yield f args s2 → o.semAt (Fro ro).round a.eval = Go.execOp a.eval o := by
    intro d f args s2 hq
    refine Oper.semAt_eq _ _ _ ?_
    intro c hop
    rw [hop] at hr
    change oDefer C ev s c = some r at hr
    unfold oDefer at hr
    split at hr
    · obtain ⟨v, hv, hr⟩ := obind_some.1 hr
      split at hr
      · obtain ⟨as, _, hr⟩ := obind_some.1 hr
        cases hr
        rcases hq with hq | hq | hq <;> cases hq
      · cases hr
    · cases hr
  cases r with
  | val v2 s2 =>
    cases ha
    rw [hsem v undef.cells.size [] s' (.inl rfl)]
    obtain ⟨ρ', w', c, hrun, hgo, hv⟩ := hs
    have := hk ρ' w' c [] hgo hv .none
    rcases hrun with hrun | ⟨hrun, rfl⟩
    · rw [hrun]; exact this
    · rw [hrun]; exact this
  | call f args s2 =>
    obtain ⟨⟨v2, s3⟩, hcall, ha⟩ := obind_some.1 ha
    cases ha
    rw [hsem undef f args s2 (.inr (.inl rfl))]
    obtain ⟨rfl, cargs, hrun, hargs⟩ := hs
    rw [hrun]
    refine ⟨(fun h => by cases h), callsIn_fro ((hc f args s2 _ _ hcall base ρ w cargs h hargs).mono ?_)⟩
    rintro e w' ⟨c, ρ', rfl, hgo, hv⟩
    exact hk ρ' w' c [] hgo hv .none
  | yield l args s2 =>
    obtain ⟨⟨v2, s3⟩, hcall, ha⟩ := obind_some.1 ha
    cases ha
    rw [hsem undef l args s2 (.inr (.inr rfl))]
    obtain ⟨rfl, q, cargs, hq, hrun, hargs⟩ := hs
    obtain ⟨f, tmps, assign, body, hrun2, hround⟩ := hy l args s2 _ _ hcall base ρ w q cargs h hq hargs
    rw [hrun, hrun2]
    refine ⟨(fun h => by cases h), roundIn_fro (hround.mono ?_)⟩
    rintro e w' ⟨c, ρ', rfl, hgo, hv⟩
    exact hk ρ' w' c [] hgo hv .none
  | defer f args s2 =>
    cases ro with
    | some l => cases ha
    | none =>
      cases ha
      obtain ⟨rfl, d, first, captured, hrun, ht, hda, hv⟩ := hs
      have e : o.semAt (Fro none).round a.eval = Go.execOp a.eval o := rfl
      rw [e, hrun]
      exact hk ρ w undef [d] (Goes.refl h) (.tuple .nil) (.some ht hda hv)
theorem NewDef.fn {df : Option (FuncId × List Value)} {ds : List Deferred} (h : NewDef ρ df ds) : ∀ d ∈ ds, ∀ r, d.target ≠ .collected r := by
  cases h with
  | none => intro d hd; cases hd
  | some ht ha hv =>
    intro d hd r
    rcases List.mem_cons.1 hd with rfl | hd
    · rw [ht]; intro e; cases e
    · cases hd
theorem findLoc_cons (t d : Nat) (v : Value) (l : List (Nat × Value)) : findLoc t ((d, v) :: l) = if d = t then some v else findLoc t l := by
  show sel (Nat.beq d t) (some v) (findLoc t l) = _
  rw [sel_eq]
  by_cases h : d = t
  · simp [h]
  · have : Nat.beq d t = false := by rw [← Bool.not_eq_true, Nat.beq_eq]; exact h
    simp [this, h]
theorem ltN_eq (a b : Nat) : ltN a b = decide (a < b) := by
  unfold ltN
  by_cases h : a < b
  · rw [Nat.ble_eq_true_of_le h]; simp [h]
  · have : Nat.ble (Nat.succ a) b = false := by
      rw [← Bool.not_eq_true]; intro hh; exact h (Nat.le_of_ble_eq_true hh)
    rw [this]; simp [h]
theorem Fr.get_put_some (n : Nat) (fr : Fr) (d : Nat) (v : Value) (t : Nat) : (fr.put n (some d) v).get n t = if t = d then some v else fr.get n t := by
  have e : fr.put n (some d) v = if d < n then { vars := fr.vars.set d v, loc := fr.loc, defers := fr.defers } else { vars := fr.vars, loc := (d, v) :: fr.loc, defers := fr.defers } := by
    show sel (ltN d n) _ _ = _
    rw [sel_eq, ltN_eq]; simp
  rw [e]
  unfold Fr.get
  rw [ltN_eq]
  by_cases hd : d < n
  · rw [if_pos hd]
    by_cases ht : t < n
    · simp only [ht, decide_true, sel_true, Tr.get_set]
    · simp only [ht, decide_false, sel_false]
      rw [if_neg (by omega)]
  · rw [if_neg hd]
    by_cases ht : t < n
    · simp only [ht, decide_true, sel_true]
      rw [if_neg (by omega)]
    · simp only [ht, decide_false, sel_false, findLoc_cons]
      by_cases h : d = t
      · simp [h]
      · have : ¬ t = d := fun e => h e.symm
        simp [h, this]
theorem Fr.get_put_other (n : Nat) (fr : Fr) {dst : Option Tmp} (v : Value) {t : Nat} (h : dst ≠ some t) : (fr.put n dst v).get n t = fr.get n t := by
  cases dst with
  | none => rfl
  | some d => rw [Fr.get_put_some, if_neg]; rintro rfl; exact h rfl
theorem Fr.get_more (n : Nat) (fr : Fr) (d : Option (FuncId × List Value)) (t : Nat) : (fr.more d).get n t = fr.get n t := rfl
theorem Fr.defers_put (n : Nat) (fr : Fr) (dst : Option Tmp) (v : Value) : (fr.put n dst v).defers = fr.defers := by
  cases dst with
  | none => rfl
  | some d =>
    show (sel (ltN d n) _ _ : Fr).defers = _
    rw [sel_eq]; split <;> rfl
theorem MarkOk.goes {r : Nat} (h : Goes P base ρ s w ρ' s' w') (hm : MarkOk ρ s w r) : MarkOk ρ' s' w' r := by
  obtain ⟨h1, h2, h3⟩ := hm
  refine ⟨Nat.lt_of_lt_of_le h1 h.grow, fun ho => ?_, by rw [h.frame r h1 h2]; exact h3⟩
  rcases h.own r ho with h4 | h4
  · exact h2 h4
  · omega
theorem DefR.goes {l : List (FuncId × List Value)} {ds : List Deferred} (h : Goes P base ρ s w ρ' s' w') (hd : DefR ρ s w l ds) : DefR ρ' s' w' l ds := by
  induction hd with
  | nil => exact .nil
  | cons ht ha hv _ ih => exact .cons ht ha (hv.mono h.le) ih
  | mark hm hlt _ ih => exact .mark (hm.goes h) hlt ih
theorem DefR.more {l : List (FuncId × List Value)} {ds nd : List Deferred} {df : Option (FuncId × List Value)} (hd : DefR ρ s w l ds) (hn : NewDef ρ df nd) : DefR ρ s w (moreL df l) (nd ++ ds) := by
  cases hn with
  | none => exact hd
  | some ht ha hv => exact .cons ht ha hv hd
theorem FrR.goes {mk : Option Nat} {n nt : Nat} {fr : Fr} {a : Act} (h : Goes P base ρ s w ρ' s' w') (hf : FrR mk n nt ρ s w fr a) : FrR mk n nt ρ' s' w' fr a :=
  ⟨hf.size, fun t v ht => (hf.tmps t v ht).mono h.le, hf.defers.goes h, hf.nomark⟩
theorem getD_put (a : Act) (dst : Option Tmp) (c : Value) (t : Nat) : (a.put dst c).tmps.getD t undef = if dst = some t ∧ t < a.tmps.size then c else a.tmps.getD t undef := by
  cases dst with
  | none => simp [Act.put]
  | some d =>
    show (a.tmps.setIfInBounds d c).getD t undef = _
    simp only [Array.getD_eq_getD_getElem?, Array.getElem?_setIfInBounds]
    by_cases h : d = t
    · subst h
      by_cases hl : d < a.tmps.size
      · simp [hl]
      · simp [hl]
    · simp [h]
theorem size_put (a : Act) (dst : Option Tmp) (c : Value) : (a.put dst c).tmps.size = a.tmps.size := by
  cases dst with
  | none => rfl
  | some d => simp [Act.put]
theorem defers_put (a : Act) (dst : Option Tmp) (c : Value) : (a.put dst c).defers = a.defers := by cases dst <;> rfl
theorem FrR.put {mk : Option Nat} {n nt : Nat} {fr : Fr} {a : Act} {dst : Option Tmp} {v c : Value} {df : Option (FuncId × List Value)} {ds : List Deferred} (hf : FrR mk n nt ρ s w fr a) (hd : dstOk nt dst = true) (hv : VR ρ v c) (hn : NewDef ρ df ds) :
    FrR mk n nt ρ s w ((fr.more df).put n dst v) (({ tmps := a.tmps, defers := ds ++ a.defers } : Act).put dst c) := by
  refine ⟨?_, ?_, ?_, ?_⟩
  · rw [size_put]; exact hf.size
  · intro t u ht
    rw [getD_put]
    cases dst with
    | none => simpa using hf.tmps t u ht
    | some d =>
      rw [Fr.get_put_some] at ht
      have hd := ltN_some hd
      by_cases h : t = d
      · subst h
        rw [if_pos rfl] at ht
        cases ht
        have : t < a.tmps.size := Nat.lt_of_lt_of_le hd hf.size
        simpa [this] using hv
      · rw [if_neg h] at ht
        have : ¬ (some d = some t ∧ t < a.tmps.size) := by rintro ⟨h1, _⟩; exact h (Option.some.inj h1).symm
        rw [if_neg (by simpa using this)]
        exact hf.tmps t u ht
  · rw [defers_put, Fr.defers_put]
    exact hf.defers.more hn
  · intro d hd r hr
    rw [defers_put] at hd
    rcases List.mem_append.1 hd with hd | hd
    · exact absurd hr (hn.fn d hd r)
    · exact hf.nomark d hd r hr
end
end
end Go.Ax
namespace Go.Ax
variable [Lo]
open Go
noncomputable section
theorem evs_congr {ev ev' : Ev} : ∀ {l : List Operand}, (∀ x ∈ l, ev x = ev' x) → evs ev l = evs ev' l
  | [], _ => rfl
  | x :: l, h => by
    show obind (ev x) (fun v => obind (evs ev l) fun r => some (v :: r)) = obind (ev' x) (fun v => obind (evs ev' l) fun r => some (v :: r))
    rw [h x (by simp), evs_congr (l := l) fun y hy => h y (by simp [hy])]
theorem evParts_congr {ev ev' : Ev} : ∀ {l : List (Nat × Operand)}, (∀ p ∈ l, ev p.2 = ev' p.2) → evParts ev l = evParts ev' l
  | [], _ => rfl
  | x :: l, h => by
    show obind (ev x.2) (fun v => obind (evParts ev l) fun r => some ((x.1, v) :: r)) = obind (ev' x.2) (fun v => obind (evParts ev' l) fun r => some ((x.1, v) :: r))
    rw [h x (by simp), evParts_congr (l := l) fun y hy => h y (by simp [hy])]
theorem execOp_congr {C : Cfg} {ev ev' : Ev} {s : St} {o : Op} (h : ∀ x ∈ opnds o, ev x = ev' x) : execOp C ev s o = execOp C ev' s o := by
  cases o <;> try rfl
  case move x => show oMove C ev s x = oMove C ev' s x; unfold oMove; rw [h x (by simp [opnds])]
  case assign x => show oMove C ev s x = oMove C ev' s x; unfold oMove; rw [h x (by simp [opnds])]
  case pick c a b => show oPick C ev s c a b = oPick C ev' s c a b; unfold oPick oMove; rw [h c (by simp [opnds]), h a (by simp [opnds]), h b (by simp [opnds])]
  case box t x => show oBox C ev s t x = oBox C ev' s t x; unfold oBox; rw [h x (by simp [opnds])]
  case build t parts =>
    show oBuild C ev s t parts = oBuild C ev' s t parts
    unfold oBuild
    rw [evParts_congr (l := parts.toList) fun p hp => h p.2 (by simp only [opnds, mapL_eq, List.mem_map]; exact ⟨p, hp, rfl⟩)]
  case buildSlice t len parts =>
    show oBuildSlice C ev s t len parts = oBuildSlice C ev' s t len parts
    unfold oBuildSlice
    rw [evParts_congr (l := parts.toList) fun p hp => h p.2 (by simp only [opnds, mapL_eq, List.mem_map]; exact ⟨p, hp, rfl⟩)]
  case load t a => show oLoad C ev s t a = oLoad C ev' s t a; unfold oLoad withPtr; rw [h a (by simp [opnds])]
  case store t a x => show oStore C ev s t a x = oStore C ev' s t a x; unfold oStore withPtr; rw [h a (by simp [opnds]), h x (by simp [opnds])]
  case nilCheck x => show oNilCheck C ev s x = oNilCheck C ev' s x; unfold oNilCheck; rw [h x (by simp [opnds])]
  case binOp op t x y yt => show oBin C ev s op t x y = oBin C ev' s op t x y; unfold oBin; rw [h x (by simp [opnds]), h y (by simp [opnds])]
  case unOp op t x => show oUn C ev s op x = oUn C ev' s op x; unfold oUn; rw [h x (by simp [opnds])]
  case convert a b x => show oConvert C ev s a b x = oConvert C ev' s a b x; unfold oConvert; rw [h x (by simp [opnds])]
  case sliceToArrayPointer arr x => show oS2A C ev s arr x = oS2A C ev' s arr x; unfold oS2A; rw [h x (by simp [opnds])]
  case makeInterface t x => show oIface C ev s t x = oIface C ev' s t x; unfold oIface; rw [h x (by simp [opnds])]
  case makeFunc fn a b =>
    show oFunc C ev s fn a b = oFunc C ev' s fn a b
    unfold oFunc
    rw [evs_congr (l := a.toList) fun x hx => h x (by simp only [opnds, appL_eq, List.mem_append]; exact .inl hx), evs_congr (l := b.toList) fun x hx => h x (by simp only [opnds, appL_eq, List.mem_append]; exact .inr hx)]
  case makeMap t r =>
    cases r with
    | none => rfl
    | some x => show oMakeMap C ev s t (some x) = oMakeMap C ev' s t (some x); unfold oMakeMap; simp only [h x (by simp [opnds, optL])]
  case makeSlice t l c => show oMakeSlice C ev s t l c = oMakeSlice C ev' s t l c; unfold oMakeSlice; rw [h l (by simp [opnds]), h c (by simp [opnds])]
  case slice t x lo hi mx =>
    show oSlice C ev s t x lo hi mx = oSlice C ev' s t x lo hi mx
    have key : ∀ (y : Option Operand) (k : Option Value → Option Res), (∀ z, y = some z → z ∈ opnds (.slice t x lo hi mx)) → optEv ev y k = optEv ev' y k := by
      intro y k hy
      cases y with
      | none => rfl
      | some z => show obind (ev z) _ = obind (ev' z) _; rw [h z (hy z rfl)]
    unfold oSlice
    rw [h x (by simp [opnds])]
    congr 1
    funext v
    rw [key lo _ (by rintro z rfl; simp [opnds, optL])]
    congr 1
    funext v
    rw [key hi _ (by rintro z rfl; cases lo <;> simp [opnds, optL])]
    congr 1
    funext v
    rw [key mx _ (by rintro z rfl; cases lo <;> cases hi <;> simp [opnds, optL])]
  case fieldAddr t x f => show oFieldAddr C ev s t x f = oFieldAddr C ev' s t x f; unfold oFieldAddr withPtr; rw [h x (by simp [opnds])]
  case field t x f => show oField C ev s t x f = oField C ev' s t x f; unfold oField; rw [h x (by simp [opnds])]
  case indexAddr t x i => show oIndexAddr C ev s t x i = oIndexAddr C ev' s t x i; unfold oIndexAddr; rw [h x (by simp [opnds]), h i (by simp [opnds])]
  case index t x i => show oIndex C ev s t x i = oIndex C ev' s t x i; unfold oIndex; rw [h x (by simp [opnds]), h i (by simp [opnds])]
  case lookup t m k ok => show oLookup C ev s t m k ok = oLookup C ev' s t m k ok; unfold oLookup; rw [h m (by simp [opnds]), h k (by simp [opnds])]
  case mapUpdate t m k x => show oUpdate C ev s t m k x = oUpdate C ev' s t m k x; unfold oUpdate; rw [h m (by simp [opnds]), h k (by simp [opnds]), h x (by simp [opnds])]
  case insert t m k x => show oUpdate C ev s t m k x = oUpdate C ev' s t m k x; unfold oUpdate; rw [h m (by simp [opnds]), h k (by simp [opnds]), h x (by simp [opnds])]
  case mapEntry t m k => show oEntry C ev s t m k = oEntry C ev' s t m k; unfold oEntry; rw [h m (by simp [opnds]), h k (by simp [opnds])]
  case range t x => show oRange C ev s t x = oRange C ev' s t x; unfold oRange; rw [h x (by simp [opnds])]
  case next x b => show oNext C ev s x b = oNext C ev' s x b; unfold oNext; rw [h x (by simp [opnds])]
  case entry x => show oIterEntry C ev s x = oIterEntry C ev' s x; unfold oIterEntry; rw [h x (by simp [opnds])]
  case typeAssert x xt a ok => show oAssert C ev s x a ok = oAssert C ev' s x a ok; unfold oAssert; rw [h x (by simp [opnds])]
  case extract x i => show oExtract C ev s x i = oExtract C ev' s x i; unfold oExtract; rw [h x (by simp [opnds])]
  case call c =>
    show oCall C ev s c = oCall C ev' s c
    unfold oCall
    cases hc : c.callee with
    | builtin b => rw [evs_congr (l := c.args.toList) fun x hx => h x (by simp only [opnds, hc]; exact hx)]
    | value f => simp only [evs_congr (l := c.args.toList) fun x hx => h x (by simp only [opnds, hc]; exact List.mem_cons_of_mem _ hx), h f (by simp only [opnds, hc]; simp)]
    | invoke r name => simp only [evs_congr (l := c.args.toList) fun x hx => h x (by simp only [opnds, hc]; exact List.mem_cons_of_mem _ hx), h r (by simp only [opnds, hc]; simp)]
  case defer c =>
    show oDefer C ev s c = oDefer C ev' s c
    unfold oDefer
    cases hc : c.callee with
    | builtin b => rfl
    | value f => simp only [evs_congr (l := c.args.toList) fun x hx => h x (by simp only [opnds, hc]; exact List.mem_cons_of_mem _ hx), h f (by simp only [opnds, hc]; simp)]
    | invoke r name => rfl
open Classical in
def restr (l : List Operand) (ev : Ev) : Ev := fun x => if x ∈ l then ev x else none
theorem restr_some {l : List Operand} {ev : Ev} {x : Operand} {v : Value} (h : restr l ev x = some v) : x ∈ l ∧ ev x = some v := by
  unfold restr at h
  split at h
  · exact ⟨by assumption, h⟩
  · cases h
theorem execOp_restr {C : Cfg} {ev : Ev} {s : St} {o : Op} : execOp C (restr (opnds o) ev) s o = execOp C ev s o :=
  execOp_congr fun x hx => by unfold restr; rw [if_pos hx]
theorem allV_mem {f : Value → Bool} : ∀ {l : List Value}, allV f l = true → ∀ v ∈ l, f v = true
  | [], _, v, hv => by cases hv
  | a :: l, h, v, hv => by
    change sel (f a) (allV f l) false = true at h
    rw [sel_eq] at h
    split at h
    · rename_i ha
      rcases List.mem_cons.1 hv with rfl | hv
      · exact ha
      · exact allV_mem h v hv
    · cases h
theorem vrs_self {ρ : Ren} : ∀ {l : List Value}, (∀ v ∈ l, VR ρ v v) → VRs ρ l l
  | [], _ => .nil
  | _ :: _, h => .cons (h _ (by simp)) (vrs_self fun v hv => h v (by simp [hv]))
theorem pureV_vr (ρ : Ren) : ∀ (n : Nat) {v : Value}, pureV n v = true → VR ρ v v
  | 0, _, h => by cases h
  | n + 1, v, h => by
    change pureStep (pureV n) v = true at h
    cases v with
    | bool b => exact .bool b
    | int k n => exact .int k n
    | string s => exact .string s
    | pointer a => cases a with
      | none => exact .ptrNil
      | some a => cases h
    | slice a l c => cases a with
      | none => exact .sliceNil l c
      | some a => cases h
    | map a => cases a with
      | none => exact .mapNil
      | some a => cases h
    | nilFunc => exact .nilFunc
    | nilIface => exact .nilIface
    | iface t v => exact .iface t (pureV_vr ρ n h)
    | agg l => cases l with | mk l => exact .agg (vrs_self fun v hv => pureV_vr ρ n (allV_mem (show allV (pureV n) l = true from h) v hv))
    | tuple l => cases l with | mk l => exact .tuple (vrs_self fun v hv => pureV_vr ρ n (allV_mem (show allV (pureV n) l = true from h) v hv))
    | func fn a b => cases fn with
      | func f => cases a with | mk a => cases b with | mk b =>
        have h : (allV (pureV n) a && allV (pureV n) b) = true := h
        simp only [Bool.and_eq_true] at h
        exact .func (.func f) (vrs_self fun v hv => pureV_vr ρ n (allV_mem h.1 v hv)) (vrs_self fun v hv => pureV_vr ρ n (allV_mem h.2 v hv))
      | method m => cases h
      | methodOf t m => cases h
      | via t p f b => cases h
      | yield l => cases h
    | float k b => cases h
    | complex k a b => cases h
    | chan r => cases h
theorem okOpnds_mem : ∀ {l : List Operand}, okOpnds l = true → ∀ x ∈ l, okOpnd x = true
  | [], _, x, hx => by cases hx
  | a :: l, h, x, hx => by
    change sel (okOpnd a) (okOpnds l) false = true at h
    rw [sel_eq] at h
    split at h
    · rename_i ha
      rcases List.mem_cons.1 hx with rfl | hx
      · exact ha
      · exact okOpnds_mem h x hx
    · cases h
theorem opnd_vr {ρ : Ren} {n : Nat} {fr : Fr} {a : Act} {x : Operand} (hok : okOpnd x = true) (ht : ∀ t v, x = .tmp t → fr.get n t = some v → VR ρ v (a.tmps.getD t undef)) {v : Value} (hx : fr.ev n x = some v) : VR ρ v (a.eval x) := by
  cases x with
  | const c => cases hx; exact pureV_vr ρ 5 hok
  | tmp t => exact ht t v rfl hx
  | global g =>
    cases hx
    have := VR.ptr (ρ := ρ) (b := g) (o := 0) (l := ⟨g, 0, 0⟩) (Ren.at_fix (ltN_some hok))
    simpa [Ax.ptr, Act.eval] using this
  | func f => cases hx; exact .func (.func f) .nil .nil
theorem evR_restr {ρ : Ren} {n : Nat} {fr : Fr} {a : Act} {l : List Operand} (hok : okOpnds l = true) (ht : ∀ t v, .tmp t ∈ l → fr.get n t = some v → VR ρ v (a.tmps.getD t undef)) : EvR ρ (restr l (fr.ev n)) a.eval := by
  intro x v hx
  obtain ⟨h1, h2⟩ := restr_some hx
  exact opnd_vr (okOpnds_mem hok x h1) (fun t v e => by subst e; exact ht t v h1) h2
theorem isBool_vr {ρ : Ren} {v c : Value} (h : VR ρ v c) (b : Bool) : isBool b v = true ↔ c = .bool b := by
  cases h <;> simp [isBool]
theorem wanted_eq {ρ : Ren} {n : Nat} {fr : Fr} {ops : Array Oper} {o : Oper} {a : Act} {g : Bool} (hg : guardOk n ops.toList fr o.guard = some g)
    (ht : ∀ j o' d b v, o.guard = some (j, b) → ops[j]? = some o' → o'.dst = some d → fr.get n d = some v → VR ρ v (a.tmps.getD d undef)) : Region.wanted o (yielded ops a.tmps) = g := by
  unfold Region.wanted
  cases ho : o.guard with
  | none =>
    rw [ho] at hg
    cases hg
    rfl
  | some p =>
    obtain ⟨j, b⟩ := p
    rw [ho] at hg
    obtain ⟨o', h1, hg⟩ := obind_some.1 hg
    obtain ⟨d, h2, hg⟩ := obind_some.1 hg
    obtain ⟨v, h3, hg⟩ := obind_some.1 hg
    cases hg
    rw [nth_eq] at h1
    have h1 : ops[j]? = some o' := by simpa using h1
    have hv := ht j o' d b v ho h1 h2 h3
    show (yielded ops a.tmps j == some b) = isBool b v
    have hd : o'.dst = some d := h2
    have hy : yielded ops a.tmps j = (match a.tmps[d]? with | some (.bool b) => some b | _ => none) := by
      simp only [yielded, h1, Option.bind_some, hd]
      cases a.tmps[d]? <;> rfl
    rw [Bool.eq_iff_iff, isBool_vr hv b, hy]
    rw [Array.getD_eq_getD_getElem?]
    cases hq : a.tmps[d]? with
    | none => simp [undef]
    | some c => cases c <;> simp
end
end Go.Ax
namespace Go.Ax
variable [Lo]
open Go
noncomputable section
section
variable {P : Program} {base : Nat} {ρ ρ' : Ren} {s s' : St} {w w' : World} {C : Cfg}
theorem okOpers_mem {nt : Nat} : ∀ {l : List Oper}, okOpers nt l = true → ∀ o ∈ l, okOper nt o = true
  | [], _, x, hx => by cases hx
  | a :: l, h, x, hx => by
    change sel (okOper nt a) (okOpers nt l) false = true at h
    rw [sel_eq] at h
    split at h
    · rename_i ha
      rcases List.mem_cons.1 hx with rfl | hx
      · exact ha
      · exact okOpers_mem h x hx
    · cases h
theorem okOper_some {nt : Nat} {o : Oper} (h : okOper nt o = true) : dstOk nt o.dst = true ∧ okOpnds (opnds o.op) = true := by
  unfold okOper at h
  simpa using h
theorem FrR.skip {mk : Option Nat} {n nt : Nat} {fr : Fr} {a : Act} {dst : Option Tmp} (hf : FrR mk n nt ρ s w fr a) (hd : dstOk nt dst = true) : FrR mk n nt ρ s w (fr.put n dst unit) (a.put dst undef) :=
  hf.put (df := none) (ds := []) hd (.tuple .nil) .none
theorem execOps_cons (call : CallT) (yield : YieldT) (rd : Bool) (n : Nat) (all : List Oper) (o : Oper) (rest : List Oper) (fr : Fr) (s : St) :
    execOps C call yield rd n all (o :: rest) fr s = obind (guardOk n all fr o.guard) fun g => sel g (obind (execOp C (fr.ev n) s o.op) (afterOp call yield rd n fr o.dst (execOps C call yield rd n all rest))) (execOps C call yield rd n all rest (fr.put n o.dst unit) s) := rfl
theorem ops_wp (hK : CfgOk C P) {call : CallT} {yield : YieldT} (hc : CallOk P call) (hy : YieldOk P yield) {ro : Option Nat} {mk : Option Nat} {m n nt : Nat} {ops : Array Oper} {Q : Exit → Act → World → Prop}
    (hok : okOpers nt ops.toList = true) : ∀ (rest : List Oper) (k : Nat), ops.toList.drop k = rest → ∀ (fr : Fr) (s : St) (fr' : Fr) (s' : St) (ρ : Ren) (a : Act) (w : World),
      execOps C call yield ro.isSome n ops.toList rest fr s = some (fr', s') → HR P base ρ s w → FrR mk n nt ρ s w fr a →
      (∀ ρ' w' a', Goes P base ρ s w ρ' s' w' → FrR mk n nt ρ' s' w' fr' a' → Q .normal a' w') → wpOpsIn (Fro ro) m P ops Q (List.range' k rest.length) a w
  | [], k, _, fr, s, fr', s', ρ, a, w, h, hh, hf, hq => by
    cases h
    exact hq ρ w a (Goes.refl hh) hf
  | o :: rest, k, hd, fr, s, fr', s', ρ, a, w, h, hh, hf, hq => by
    have ho : ops[k]? = some o := by
      have : (ops.toList.drop k)[0]? = some o := by rw [hd]; rfl
      simpa using this
    have hd' : ops.toList.drop (k + 1) = rest := by
      rw [← List.drop_drop, hd]; rfl
    have hmem : o ∈ ops.toList := List.mem_of_getElem? (by simpa using ho)
    obtain ⟨hdst, hopn⟩ := okOper_some (okOpers_mem hok o hmem)
    rw [execOps_cons] at h
    obtain ⟨g, hg, h⟩ := obind_some.1 h
    have hw := wanted_eq (ρ := ρ) (a := a) hg (fun j o' d b v _ _ _ hv => hf.tmps d v hv)
    show wpOpsIn (Fro ro) m P ops Q (k :: List.range' (k + 1) rest.length) a w
    simp only [wpOpsIn, ho, hw]
    cases g with
    | false =>
      rw [sel_false] at h
      refine ⟨fun _ _ => trivial, ?_⟩
      exact ops_wp hK hc hy hok rest (k + 1) hd' _ s fr' s' ρ _ w h hh (hf.skip hdst) hq
    | true =>
      rw [sel_true] at h
      obtain ⟨r, hr, h⟩ := obind_some.1 h
      rw [afterOp_eq] at h
      obtain ⟨⟨v, s2, df⟩, ha, h⟩ := obind_some.1 h
      have he := evR_restr (ρ := ρ) (n := n) (fr := fr) (a := a) hopn (fun t v _ ht => hf.tmps t v ht)
      rw [← execOp_restr] at hr
      show o.wpIn (Fro ro) m P a w (wpOpsIn (Fro ro) m P ops Q (List.range' (k + 1) rest.length)) Q
      refine op_wp hK hc hy hh he hr ha ?_
      intro ρ' w' c ds hgo hv hn
      refine ops_wp hK hc hy hok rest (k + 1) hd' _ s2 fr' s' ρ' _ w' h hgo.hr ((hf.goes hgo).put hdst hv hn) ?_
      intro ρ'' w'' a'' hgo2 hf2
      exact hq ρ'' w'' a'' (hgo.trans hgo2) hf2
end
end
end Go.Ax
namespace Go.Ax
open Go
noncomputable section
def Indep (f : St → Option Res) : Prop := ∃ x : Option Value, ∀ s, f s = obind x fun v => ret v s
theorem Indep.ret (v : Value) : Indep (fun s => Ax.ret v s) := ⟨some v, fun _ => rfl⟩
theorem Indep.none : Indep (fun _ => none) := ⟨.none, fun _ => rfl⟩
theorem Indep.obind {α : Type} (x : Option α) {k : α → St → Option Res} (h : ∀ a, Indep (k a)) : Indep (fun s => Ax.obind x fun a => k a s) := by
  cases x with
  | none => exact Indep.none
  | some a => exact h a
theorem Indep.guard (b : Bool) {k : St → Option Res} (h : Indep k) : Indep (fun s => Ax.guard b (k s)) := by
  cases b with
  | false => exact Indep.none
  | true => exact h
theorem Indep.sel (b : Bool) {j k : St → Option Res} (h : Indep j) (h' : Indep k) : Indep (fun s => Ax.sel b (j s) (k s)) := by
  cases b with
  | false => exact h'
  | true => exact h
theorem Indep.use {f : St → Option Res} (h : Indep f) {s : St} {r : Res} (hr : f s = some r) : ∃ v, r = .val v s ∧ ∀ s', f s' = some (.val v s') := by
  obtain ⟨x, hx⟩ := h
  cases x with
  | none => rw [hx] at hr; cases hr
  | some v =>
    rw [hx] at hr
    cases hr
    exact ⟨v, rfl, fun s' => by rw [hx]; rfl⟩
theorem indep_move (C : Cfg) (ev : Ev) (x : Operand) : Indep fun s => oMove C ev s x := Indep.obind _ fun v => Indep.ret v
theorem indep_ptr (ev : Ev) (a : Operand) {k : Addr → St → Option Res} (h : ∀ a, Indep (k a)) : Indep fun s => withPtr ev a fun a => k a s := by
  refine Indep.obind _ fun v => ?_
  cases v with
  | pointer p => cases p with
    | none => exact Indep.none
    | some a => exact h a
  | _ => exact Indep.none
theorem indep_in (C : Cfg) (e : TypeId) (len i : Nat) (a : Addr) : Indep fun s => indexIn C s e len i a := Indep.guard _ (Indep.obind _ fun _ => Indep.ret _)
theorem pure_indep {C : Cfg} {ev : Ev} {o : Op} (h : cls o = 0) : Indep fun s => execOp C ev s o := by
  cases o <;> first | (simp [cls] at h; done) | skip
  case move x => exact indep_move C ev x
  case assign x => exact indep_move C ev x
  case pick c a b =>
    refine Indep.obind _ fun v => ?_
    cases v with
    | bool c => exact Indep.sel _ (indep_move C ev a) (indep_move C ev b)
    | _ => exact Indep.none
  case build t parts => exact Indep.obind _ fun _ => Indep.obind _ fun _ => Indep.obind _ fun _ => Indep.obind _ fun _ => Indep.ret _
  case nilCheck x =>
    refine Indep.obind _ fun v => ?_
    cases v with
    | pointer p => cases p with
      | none => exact Indep.none
      | some a => exact Indep.ret _
    | func fn a b => exact Indep.guard _ (Indep.ret _)
    | iface t v => exact Indep.ret _
    | _ => exact Indep.none
  case binOp op t x y yt => exact Indep.obind _ fun _ => Indep.obind _ fun _ => Indep.guard _ (Indep.obind _ fun _ => Indep.ret _)
  case unOp op t x => exact Indep.obind _ fun _ => Indep.obind _ fun _ => Indep.ret _
  case sliceToArrayPointer arr x =>
    refine Indep.obind _ fun v => ?_
    show Indep fun s => match C.P.underlying arr, v with
      | some (.array n _), .slice a len _ => guard (Nat.ble 1 n && Nat.ble n len) (ret (.pointer a) s)
      | _, _ => none
    split
    · exact Indep.guard _ (Indep.ret _)
    · exact Indep.none
  case makeInterface t x => exact Indep.guard _ (Indep.obind _ fun _ => Indep.ret _)
  case makeFunc fn a b => exact Indep.guard _ (Indep.obind _ fun _ => Indep.obind _ fun _ => Indep.ret _)
  case fieldAddr t x f => exact indep_ptr ev x fun a => Indep.obind _ fun _ => Indep.obind _ fun _ => Indep.guard _ (Indep.ret _)
  case field t x f =>
    refine Indep.obind _ fun v => ?_
    cases v with
    | agg cs => exact Indep.obind _ fun _ => Indep.obind _ fun _ => Indep.ret _
    | _ => exact Indep.none
  case indexAddr t x i =>
    refine Indep.obind _ fun v => Indep.obind _ fun i => Indep.obind _ fun i => ?_
    show Indep fun s => match C.P.underlying t with
      | some (.slice e) => match v with
        | .slice (some a) len _ => indexIn C s e len i a
        | _ => none
      | some (.array len e) => match v with
        | .pointer (some a) => indexIn C s e len i a
        | _ => none
      | _ => none
    split
    · split
      · exact indep_in _ _ _ _ _
      · exact Indep.none
    · split
      · exact indep_in _ _ _ _ _
      · exact Indep.none
    · exact Indep.none
  case index t x i =>
    refine Indep.obind _ fun v => Indep.obind _ fun i => Indep.obind _ fun i => ?_
    cases v with
    | agg cs =>
      show Indep fun s => match C.P.underlying t with
        | some (.array len e) => guard (ltN i len) (obind (size C.P e) fun n => obind (part C.P e cs.toList (Nat.mul i n)) fun v => ret v s)
        | _ => none
      split
      · exact Indep.guard _ (Indep.obind _ fun _ => Indep.obind _ fun _ => Indep.ret _)
      · exact Indep.none
    | string b =>
      show Indep fun s => match C.P.underlying t with
        | some .string => obind (nth b.data.toList i) fun c => ret (.int .u8 (Int.ofNat c.toNat)) s
        | _ => none
      split
      · exact Indep.obind _ fun _ => Indep.ret _
      · exact Indep.none
    | _ => exact Indep.none
  case typeAssert x xt a ok =>
    refine Indep.guard _ (Indep.obind _ fun v => ?_)
    cases v with
    | nilIface => exact Indep.guard _ (Indep.obind _ fun _ => Indep.ret _)
    | iface t y => exact Indep.sel _ (Indep.guard _ (Indep.sel _ (Indep.guard _ (Indep.obind _ fun _ => Indep.ret _)) (Indep.ret _))) (Indep.sel _ (Indep.ret _) (Indep.guard _ (Indep.obind _ fun _ => Indep.ret _)))
    | _ => exact Indep.none
  case extract x i =>
    refine Indep.obind _ fun v => ?_
    cases v with
    | tuple vs => exact Indep.obind _ fun _ => Indep.ret _
    | _ => exact Indep.none
  case call c =>
    exfalso
    simp only [cls] at h
    split at h
    · split at h <;> cases h
    · cases h
theorem cutSlice_same {s s' : St} {a : Option Addr} {e : TypeId} {cap l h m n : Nat} {v : Value} (hr : cutSlice s a e cap l h m n = some (v, s')) (hq : quietV s v = true) : s' = s := by
  unfold cutSlice at hr
  obtain ⟨_, hr⟩ := guard_some.1 hr
  cases a with
  | none => cases hr; rfl
  | some a =>
    change sel (Nat.beq a.block deadId) (guard (Nat.beq h 0 && Nat.beq cap bigCap && (Nat.beq m 0 || Nat.beq m bigCap)) (some (deadV, s))) (sel (Nat.ble halfCap cap) (cutOpen s a e cap l h m n) (cutKnown a l h m n s)) = some (v, s') at hr
    rw [sel_eq] at hr
    split at hr
    · obtain ⟨_, hr⟩ := guard_some.1 hr
      cases hr; rfl
    rw [sel_eq] at hr
    split at hr
    · unfold cutOpen at hr
      obtain ⟨c, _, hr⟩ := obind_some.1 hr
      obtain ⟨_, hr⟩ := guard_some.1 hr
      rw [sel_eq] at hr
      split at hr
      · cases hr; rfl
      · cases hr; rfl
    · cases hr; rfl
theorem bounds_res {β : Type} {lo hi mx : Option Value} {len cap : Nat} {k : Nat → Nat → Nat → Option β} {r : β} (h : bounds lo hi mx len cap k = some r) : ∃ l h m, k l h m = some r := by
  unfold bounds at h
  obtain ⟨l, _, h⟩ := obind_some.1 h
  obtain ⟨h2, _, h⟩ := obind_some.1 h
  obtain ⟨m, _, h⟩ := obind_some.1 h
  exact ⟨l, h2, m, h⟩
theorem sliceAny_same {P : Program} {s s' : St} {t : TypeId} {x : Value} {lo hi mx : Option Value} {v : Value} (hr : sliceAny P s t x lo hi mx = some (v, s')) (hq : quietV s v = true) : s' = s := by
  have harr : ∀ {k : Nat} {e : TypeId} {a : Addr}, sliceArr P k e s a lo hi mx = some (v, s') → s' = s := by
    intro k e a hr
    unfold sliceArr at hr
    obtain ⟨n, _, hr⟩ := obind_some.1 hr
    obtain ⟨l, h, m, hr⟩ := bounds_res hr
    obtain ⟨_, hr⟩ := guard_some.1 hr
    exact cutSlice_same hr hq
  unfold sliceAny at hr
  split at hr
  · unfold sliceSlice at hr
    split at hr
    · obtain ⟨n, _, hr⟩ := obind_some.1 hr
      obtain ⟨l, h, m, hr⟩ := bounds_res hr
      obtain ⟨_, hr⟩ := guard_some.1 hr
      exact cutSlice_same hr hq
    · cases hr
  · unfold slicePtr at hr
    split at hr
    · exact harr hr
    · split at hr
      · exact harr hr
      · cases hr
    · cases hr
  · split at hr
    · cases mx with
      | some m => cases hr
      | none =>
        obtain ⟨l, h, m, hr⟩ := bounds_res hr
        obtain ⟨u, _, hr⟩ := obind_some.1 hr
        cases hr; rfl
    · cases hr
  · cases hr
theorem convert_same {P : Program} {s s' : St} {a b : TypeId} {x v : Value} (hr : convert P s a b x = some (v, s')) (hq : quietV s v = true) : s' = s := by
  unfold convert at hr
  obtain ⟨_, hr⟩ := guard_some.1 hr
  split at hr
  · split at hr
    · cases hr; rfl
    · cases hr
  · split at hr
    · cases hr; rfl
    · cases hr; rfl
    · rename_i y n k _
      split at hr
      · obtain ⟨_, hr⟩ := guard_some.1 hr
        cases y with
        | none => cases hr; rfl
        | some y =>
          change toStr s n _ = some (v, s') at hr
          unfold toStr at hr
          obtain ⟨l, _, hr⟩ := obind_some.1 hr
          obtain ⟨l, _, hr⟩ := obind_some.1 hr
          cases hr; rfl
      · cases hr
    · cases hr
  · split at hr
    · obtain ⟨_, hr⟩ := guard_some.1 hr
      cases hr
      exact absurd (ltN_some hq) (Nat.lt_irrefl _)
    · cases hr
  · cases hr
theorem val_inj {v v' : Value} {s s' : St} (h : ret v s = some (.val v' s')) : s' = s := by cases h; rfl
theorem bLen_same {P : Program} {s s' : St} {t : TypeId} {x v : Value} (hr : bLen P s t x = some (.val v s')) : s' = s := by
  unfold bLen at hr
  split at hr
  · split at hr
    · exact val_inj hr
    · cases hr
  · split at hr
    · exact val_inj hr
    · exact val_inj hr
    · obtain ⟨_, hr⟩ := guard_some.1 hr
      exact val_inj hr
    · cases hr
  · split at hr
    · exact val_inj hr
    · obtain ⟨q, _, hr⟩ := obind_some.1 hr
      exact val_inj hr
    · cases hr
  · exact val_inj hr
  · obtain ⟨q, _, hr⟩ := obind_some.1 hr
    exact val_inj hr
  · cases hr
theorem builtin_same {C : Cfg} {s s' : St} {b : Builtin} {t u : Option TypeId} {args : List Value} {v : Value} (hb : b = .len ∨ b = .cap ∨ b = .min ∨ b = .max) (hr : builtin C s b t u args = some (.val v s')) : s' = s := by
  unfold builtin at hr
  split at hr
  · rcases hb with rfl | rfl | rfl | rfl
    · obtain ⟨q, _, hr⟩ := obind_some.1 hr
      exact bLen_same hr
    · obtain ⟨q, _, hr⟩ := obind_some.1 hr
      unfold bCap at hr
      split at hr
      · split at hr
        · obtain ⟨_, hr⟩ := guard_some.1 hr
          exact val_inj hr
        · cases hr
      · cases hr
    · cases hr
    · cases hr
  · have hm : ∀ {mx : Bool} {x y : Value}, bMinMax mx s x y = some (.val v s') → s' = s := by
      intro mx x y hr
      unfold bMinMax at hr
      split at hr
      · split at hr
        · exact val_inj hr
        · cases hr
      · cases hr
    rcases hb with rfl | rfl | rfl | rfl
    · cases hr
    · cases hr
    · exact hm hr
    · exact hm hr
  · cases hr
theorem read_same {C : Cfg} {ev : Ev} {s s' : St} {o : Op} {v : Value} (h : cls o = 1) (hr : execOp C ev s o = some (.val v s')) (hq : quietV s v = true) : s' = s := by
  cases o <;> first | (simp [cls] at h; done) | skip
  case load t a =>
    obtain ⟨x, _, hr⟩ := obind_some.1 hr
    split at hr
    · obtain ⟨u, _, hr⟩ := obind_some.1 hr
      exact val_inj hr
    · cases hr
  case convert a b x =>
    obtain ⟨y, _, hr⟩ := obind_some.1 hr
    have hr : Option.casesOn (convPtr C s a b y) (obind (convert C.P s a b y) toRes) (fun v => ret v s) = some (.val v s') := hr
    cases hcp : convPtr C s a b y with
    | some u =>
      rw [hcp] at hr
      exact val_inj (show ret u s = some (.val v s') from hr)
    | none =>
    rw [hcp] at hr
    obtain ⟨⟨u, s2⟩, hc, hr⟩ := obind_some.1 hr
    cases hr
    exact convert_same hc hq
  case slice t x lo hi mx =>
    obtain ⟨y, _, hr⟩ := obind_some.1 hr
    have ho : ∀ (z : Option Operand) {k : Option Value → Option Res} {r : Res}, optEv ev z k = some r → ∃ u, k u = some r := by
      intro z k r hz
      cases z with
      | none => exact ⟨none, hz⟩
      | some z =>
        obtain ⟨u, _, hz⟩ := obind_some.1 hz
        exact ⟨some u, hz⟩
    obtain ⟨lo', hr⟩ := ho _ hr
    obtain ⟨hi', hr⟩ := ho _ hr
    obtain ⟨mx', hr⟩ := ho _ hr
    obtain ⟨⟨u, s2⟩, hc, hr⟩ := obind_some.1 hr
    cases hr
    exact sliceAny_same hc hq
  case lookup t m k ok =>
    obtain ⟨x, _, hr⟩ := obind_some.1 hr
    obtain ⟨y, _, hr⟩ := obind_some.1 hr
    unfold lookup at hr
    split at hr
    · obtain ⟨found, _, hr⟩ := obind_some.1 hr
      cases found with
      | none =>
        obtain ⟨z, _, hr⟩ := obind_some.1 hr
        exact val_inj hr
      | some p => exact val_inj hr
    · cases hr
  case call c =>
    simp only [cls] at h
    split at h
    · rename_i b hb
      change oCall C ev s c = _ at hr
      unfold oCall at hr
      rw [hb] at hr
      obtain ⟨args, _, hr⟩ := obind_some.1 hr
      split at h <;> first | (cases h; done) | exact builtin_same (by simp) hr
    · cases h
theorem hasBit_eq (m j : Nat) : hasBit m j = m.testBit j := by
  unfold hasBit
  rw [Nat.testBit_eq_decide_div_mod_eq]
  show Nat.beq (m / 2 ^ j % 2) 1 = _
  rw [Bool.eq_iff_iff, Nat.beq_eq]; simp
theorem hasBit_or (a b j : Nat) : hasBit (Nat.lor a b) j = (hasBit a j || hasBit b j) := by
  rw [hasBit_eq, hasBit_eq, hasBit_eq]; exact Nat.testBit_or a b j
theorem hasBit_orBit (m i j : Nat) : hasBit (orBit m i) j = (hasBit m j || decide (i = j)) := by
  unfold orBit
  rw [hasBit_or, hasBit_eq (Nat.pow 2 i) j]
  congr 1
  exact Nat.testBit_two_pow
theorem hasBit_zero (j : Nat) : hasBit 0 j = false := by rw [hasBit_eq]; simp
theorem disj_not {a b j : Nat} (h : disj a b = true) (ha : hasBit a j = true) : hasBit b j = false := by
  rw [hasBit_eq] at *
  have h0 : a &&& b = 0 := Nat.eq_of_beq_eq_true h
  have := Nat.testBit_and a b j
  rw [h0, ha] at this
  simpa using this.symm
def Binds (o : Oper) (j : Nat) : Prop := ∃ e ∈ o.after.toList, Region.binds .any e = true ∧ e.on = j
theorem bindsE_eq (e : Edge) : bindsE e = Region.binds .any e := by
  unfold bindsE Region.binds
  cases e.ground <;> first | rfl | simp
theorem nthN_some {l : List Nat} {i m : Nat} (h : l[i]? = some m) : nthN l i = m := by
  unfold nthN
  rw [nth_eq, h]; rfl
theorem nthN_none {l : List Nat} {i : Nat} (h : l[i]? = none) : nthN l i = 0 := by
  unfold nthN
  rw [nth_eq, h]
theorem maskOf_cons (acc : List Nat) (e : Edge) (l : List Edge) : maskOf acc (e :: l) = sel (bindsE e) (Nat.lor (orBit (maskOf acc l) e.on) (nthN acc e.on)) (maskOf acc l) := rfl
theorem maskOf_bit {acc : List Nat} {j : Nat} : ∀ {l : List Edge}, hasBit (maskOf acc l) j = true → ∃ e ∈ l, Region.binds .any e = true ∧ (e.on = j ∨ hasBit (nthN acc e.on) j = true)
  | [], h => by rw [show maskOf acc [] = 0 from rfl, hasBit_zero] at h; cases h
  | e :: l, h => by
    rw [maskOf_cons, sel_eq] at h
    split at h
    · rename_i hb
      rw [hasBit_or, hasBit_orBit] at h
      simp only [Bool.or_eq_true, decide_eq_true_eq] at h
      rw [bindsE_eq] at hb
      rcases h with (h | h) | h
      · obtain ⟨e', h1, h2⟩ := maskOf_bit h
        exact ⟨e', by simp [h1], h2⟩
      · exact ⟨e, by simp, hb, .inl h⟩
      · exact ⟨e, by simp, hb, .inr h⟩
    · obtain ⟨e', h1, h2⟩ := maskOf_bit h
      exact ⟨e', by simp [h1], h2⟩
def MaskOk (all : List Oper) (i m : Nat) : Prop := ∀ (D : Nat → Prop), (∀ k o, D k → all[k]? = some o → ∀ j, Binds o j → D j) → ∀ o, all[i]? = some o → (∀ j, Binds o j → D j) → ∀ j, hasBit m j = true → D j
theorem lowEdges_mem {i : Nat} : ∀ {l : List Edge}, lowEdges i l = true → ∀ e ∈ l, Region.binds .any e = true → e.on < i
  | [], _, e, he => by cases he
  | a :: l, h, e, he => by
    intro hb
    change sel (bindsE a) (sel (Nat.ble (Nat.succ a.on) i) (lowEdges i l) false) (lowEdges i l) = true at h
    rw [sel_eq, sel_eq] at h
    rcases List.mem_cons.1 he with rfl | he
    · rw [bindsE_eq, hb] at h
      simp only [if_true] at h
      split at h
      · rename_i hh; exact Nat.le_of_ble_eq_true hh
      · cases h
    · split at h
      · split at h
        · exact lowEdges_mem h e he hb
        · cases h
      · exact lowEdges_mem h e he hb
structure InfoOk (all : List Oper) (a : Info) : Prop where
  op : all[a.i]? = some a.op
  mask : MaskOk all a.i a.mask
  low : ∀ j, Binds a.op j → j < a.i
  dst : a.dst = dstBits a.op.dst
  names : a.names = Nat.lor (tmpBits (dstBits a.op.dst) (opnds a.op.op)) (guardBits all a.op.guard)
  cls : a.cls = cls a.op.op ∨ a.cls = 3
theorem infosF_cons (all : List Oper) (o : Oper) (l : List Oper) (i : Nat) (acc : List Nat) : infosF all (o :: l) i acc = guard (lowEdges i o.after.toList) (obind (infosF all l (Nat.succ i) (appL acc [maskOf acc o.after.toList])) fun r => some (infoOf all i (maskOf acc o.after.toList) o :: r)) := rfl
theorem infosF_ok {all : List Oper} : ∀ (l : List Oper) (i : Nat) (acc : List Nat) (r : List Info), all.drop i = l → acc.length = i → (∀ k m, acc[k]? = some m → MaskOk all k m) → infosF all l i acc = some r →
    ∀ (k : Nat) (a : Info), r[k]? = some a → a.i = i + k ∧ InfoOk all a
  | [], i, acc, r, _, _, _, h, k, a, hk => by cases h; simp at hk
  | o :: l, i, acc, r, hd, hl, hacc, h, k, a, hk => by
    rw [infosF_cons] at h
    obtain ⟨hlow, h⟩ := guard_some.1 h
    obtain ⟨r', hr', h⟩ := obind_some.1 h
    cases h
    rw [appL_eq] at hr'
    have ho : all[i]? = some o := by
      have : (all.drop i)[0]? = some o := by rw [hd]; rfl
      simpa using this
    have hd' : all.drop (i + 1) = l := by rw [← List.drop_drop, hd]; rfl
    have hm : MaskOk all i (maskOf acc o.after.toList) := by
      intro D hD o' ho' hb j hj
      rw [ho] at ho'
      cases ho'
      obtain ⟨e, h1, h2, h3⟩ := maskOf_bit hj
      have hDe := hb e.on ⟨e, h1, h2, rfl⟩
      rcases h3 with h3 | h3
      · exact h3 ▸ hDe
      · cases hq : acc[e.on]? with
        | none => rw [nthN_none hq, hasBit_zero] at h3; cases h3
        | some m =>
          rw [nthN_some hq] at h3
          have hlt : e.on < all.length := by
            have := (List.getElem?_eq_some_iff.1 hq).1
            have := (List.getElem?_eq_some_iff.1 ho).1
            omega
          exact hacc e.on m hq D hD _ (List.getElem?_eq_getElem hlt) (fun j hj => hD e.on _ hDe (List.getElem?_eq_getElem hlt) j hj) j h3
    cases k with
    | zero =>
      simp at hk
      subst hk
      refine ⟨rfl, ho, hm, ?_, rfl, rfl, .inl rfl⟩
      rintro j ⟨e, h1, h2, rfl⟩
      exact lowEdges_mem hlow e h1 h2
    | succ k =>
      simp at hk
      have := infosF_ok l (i + 1) (acc ++ [maskOf acc o.after.toList]) r' hd' (by simp [hl]) (fun k m hk => by
        rw [List.getElem?_append] at hk
        split at hk
        · exact hacc k m hk
        · rename_i hlt
          have hk' : k = i := by
            have := (List.getElem?_eq_some_iff.1 hk).1
            simp at this
            omega
          subst hk'
          simp [hl] at hk
          subst hk
          exact hm) hr' k a hk
      exact ⟨by omega, this.2⟩
theorem pickAll_ok {all : List Oper} {l : List Info} (hl : ∀ (k : Nat) (a : Info), l[k]? = some a → InfoOk all a) : ∀ {p : List Nat} {r : List Info}, pickAll l p = some r → ∀ a ∈ r, InfoOk all a
  | [], r, h, a, ha => by cases h; cases ha
  | i :: p, r, h, a, ha => by
    change obind (nth l (Nat.mod i 1000)) (fun a => obind (pickAll l p) fun r => some (loud i a :: r)) = some r at h
    obtain ⟨b, hb, h⟩ := obind_some.1 h
    obtain ⟨r', hr', h⟩ := obind_some.1 h
    cases h
    rw [nth_eq] at hb
    rcases List.mem_cons.1 ha with rfl | ha
    · have hb := hl _ b hb
      unfold loud
      rw [sel_eq]
      split
      · exact ⟨hb.op, hb.mask, hb.low, hb.dst, hb.names, .inr rfl⟩
      · exact hb
    · exact pickAll_ok hl hr' a ha
theorem nodupL_ok : ∀ {l : List Info} {m : Nat}, nodupL l m = true → (∀ a ∈ l, hasBit m a.i = false) ∧ l.Pairwise (fun a b => a.i ≠ b.i)
  | [], _, _ => ⟨by simp, .nil⟩
  | a :: l, m, h => by
    change sel (hasBit m a.i) false (nodupL l (orBit m a.i)) = true at h
    rw [sel_eq] at h
    split at h
    · cases h
    · rename_i ha
      obtain ⟨h1, h2⟩ := nodupL_ok h
      have ha : hasBit m a.i = false := by simpa using ha
      refine ⟨?_, .cons (fun b hb => ?_) h2⟩
      · intro b hb
        rcases List.mem_cons.1 hb with rfl | hb
        · exact ha
        · have := h1 b hb
          rw [hasBit_orBit] at this
          simp at this
          exact this.1
      · have := h1 b hb
        rw [hasBit_orBit] at this
        simp at this
        exact this.2
theorem bitsOf_ok : ∀ {l : List Info} {m j : Nat}, hasBit (bitsOf l m) j = true → hasBit m j = true ∨ ∃ a ∈ l, a.i = j
  | [], _, _, h => .inl h
  | a :: l, m, j, h => by
    change hasBit (bitsOf l (orBit m a.i)) j = true at h
    rcases bitsOf_ok h with h | ⟨b, h1, h2⟩
    · rw [hasBit_orBit] at h
      simp only [Bool.or_eq_true, decide_eq_true_eq] at h
      rcases h with h | h
      · exact .inl h
      · exact .inr ⟨a, by simp, h⟩
    · exact .inr ⟨b, by simp [h1], h2⟩
theorem covers_ok {m : Nat} : ∀ {n : Nat}, covers m n = true → ∀ j, j < n → hasBit m j = true
  | 0, _, j, hj => by omega
  | n + 1, h, j, hj => by
    change sel (hasBit m n) (covers m n) false = true at h
    rw [sel_eq] at h
    split at h
    · rename_i hb
      by_cases e : j = n
      · subst e; exact hb
      · exact covers_ok h j (by omega)
    · cases h
theorem okPairs_ok : ∀ {l : List Info}, okPairs l = true → l.Pairwise (fun a b => okPair a b = true)
  | [], _ => .nil
  | a :: l, h => by
    change sel (List.rec true (fun b _ q => sel (okPair a b) q false) l) (okPairs l) false = true at h
    rw [sel_eq] at h
    split at h
    · rename_i h1
      refine .cons ?_ (okPairs_ok h)
      clear h
      induction l with
      | nil => intro b hb; cases hb
      | cons c t ih =>
        change sel (okPair a c) (List.rec true (fun b _ q => sel (okPair a b) q false) t) false = true at h1
        rw [sel_eq] at h1
        split at h1
        · rename_i hc
          intro b hb
          rcases List.mem_cons.1 hb with rfl | hb
          · exact hc
          · exact ih h1 b hb
        · cases h1
    · cases h
structure PlanOk (all : List Oper) (l : List Info) : Prop where
  info : ∀ (p : Nat) (a : Info), l[p]? = some a → InfoOk all a
  nodup : ∀ (p q : Nat) (a b : Info), l[p]? = some a → l[q]? = some b → a.i = b.i → p = q
  full : ∀ j, j < all.length → ∃ (p : Nat) (a : Info), l[p]? = some a ∧ a.i = j
  pairs : ∀ (p q : Nat) (a b : Info), p < q → l[p]? = some a → l[q]? = some b → ordered a b = true → hasBit b.mask a.i = true
theorem pairwise_get {R : Info → Info → Prop} : ∀ {l : List Info}, l.Pairwise R → ∀ {p q : Nat} {a b : Info}, p < q → l[p]? = some a → l[q]? = some b → R a b
  | [], _, p, q, a, b, _, hp, _ => by simp at hp
  | c :: l, h, p, q, a, b, hpq, hp, hq => by
    cases h with
    | cons h1 h2 =>
      cases q with
      | zero => omega
      | succ q =>
        simp at hq
        cases p with
        | zero => simp at hp; subst hp; exact h1 b (List.mem_of_getElem? hq)
        | succ p => simp at hp; exact pairwise_get h2 (by omega) hp hq
theorem planOf_ok {all : List Oper} {order : List Nat} {l : List Info} (h : planOf all order = some l) : PlanOk all l := by
  unfold planOf at h
  obtain ⟨r, hr, h⟩ := obind_some.1 h
  obtain ⟨l', hl', h⟩ := obind_some.1 h
  obtain ⟨hg, h⟩ := guard_some.1 h
  cases h
  simp only [Bool.and_eq_true] at hg
  obtain ⟨⟨h1, h2⟩, h3⟩ := hg
  have hi := infosF_ok all 0 [] r rfl rfl (fun k m hk => by simp at hk) hr
  have hp := pickAll_ok (fun k a hk => (hi k a hk).2) hl'
  have hn := (nodupL_ok h1).2
  have hq := okPairs_ok h3
  refine ⟨fun p a ha => hp a (List.mem_of_getElem? ha), fun p q a b ha hb hab => ?_, fun j hj => ?_, fun p q a b hpq ha hb ho => ?_⟩
  · rcases Nat.lt_trichotomy p q with hlt | heq | hgt
    · exact absurd hab (pairwise_get hn hlt ha hb)
    · exact heq
    · exact absurd hab.symm (pairwise_get hn hgt hb ha)
  · rw [lenL_eq] at h2
    rcases bitsOf_ok (covers_ok h2 j hj) with h | ⟨a, ha, hj⟩
    · rw [hasBit_zero] at h; cases h
    · obtain ⟨p, hp⟩ := List.getElem?_of_mem ha
      exact ⟨p, a, hp, hj⟩
  · have := pairwise_get hq hpq ha hb
    unfold okPair at this
    rw [ho, sel_true] at this
    exact this
theorem tmpBits_mem {m t : Nat} : ∀ {l : List Operand}, .tmp t ∈ l → hasBit (tmpBits m l) t = true
  | [], h => by cases h
  | x :: l, h => by
    change hasBit (tmpBit x (tmpBits m l)) t = true
    rcases List.mem_cons.1 h with rfl | h
    · show hasBit (orBit _ t) t = true
      rw [hasBit_orBit]; simp
    · have := tmpBits_mem (m := m) h
      unfold tmpBit
      split
      · rw [hasBit_orBit, this]; rfl
      · exact this
theorem tmpBits_base {m t : Nat} (h : hasBit m t = true) : ∀ {l : List Operand}, hasBit (tmpBits m l) t = true
  | [] => h
  | x :: l => by
    change hasBit (tmpBit x (tmpBits m l)) t = true
    have := tmpBits_base h (l := l)
    unfold tmpBit
    split
    · rw [hasBit_orBit, this]; rfl
    · exact this
theorem dstBits_bit {d : Option Tmp} {t : Nat} : hasBit (dstBits d) t = true ↔ d = some t := by
  cases d with
  | none => show hasBit 0 t = true ↔ _; rw [hasBit_zero]; simp
  | some d => show hasBit (orBit 0 d) t = true ↔ _; rw [hasBit_orBit, hasBit_zero]; simp
def Names (all : List Oper) (o : Oper) (t : Nat) : Prop := o.dst = some t ∨ .tmp t ∈ opnds o.op ∨ ∃ j b o', o.guard = some (j, b) ∧ all[j]? = some o' ∧ o'.dst = some t
theorem InfoOk.bit {all : List Oper} {a : Info} (h : InfoOk all a) {t : Nat} (ht : Names all a.op t) : hasBit a.names t = true := by
  rw [h.names, hasBit_or]
  rcases ht with ht | ht | ⟨j, b, o', h1, h2, h3⟩
  · rw [tmpBits_base (dstBits_bit.2 ht)]; rfl
  · rw [tmpBits_mem ht]; rfl
  · have : hasBit (guardBits all a.op.guard) t = true := by
      rw [h1]
      show hasBit (Option.casesOn (nth all j) 0 fun o => dstBits o.dst) t = true
      rw [nth_eq, h2]
      exact dstBits_bit.2 h3
    rw [this]; simp
theorem PlanOk.tmps {all : List Oper} {l : List Info} (h : PlanOk all l) {p q : Nat} {a b : Info} (hpq : p < q) (ha : l[p]? = some a) (hb : l[q]? = some b) {t : Nat}
    (ht : (a.op.dst = some t ∧ Names all b.op t) ∨ (b.op.dst = some t ∧ Names all a.op t)) : hasBit b.mask a.i = true := by
  refine h.pairs p q a b hpq ha hb ?_
  unfold ordered
  have key : (disj a.dst b.names && disj b.dst a.names) = false := by
    rw [← Bool.not_eq_true]
    intro hh
    simp only [Bool.and_eq_true] at hh
    rcases ht with ⟨h1, h2⟩ | ⟨h1, h2⟩
    · have := disj_not hh.1 (j := t) (by rw [(h.info p a ha).dst]; exact dstBits_bit.2 h1)
      rw [(h.info q b hb).bit h2] at this
      cases this
    · have := disj_not hh.2 (j := t) (by rw [(h.info q b hb).dst]; exact dstBits_bit.2 h1)
      rw [(h.info p a ha).bit h2] at this
      cases this
  rw [key]; rfl
theorem PlanOk.mem {all : List Oper} {l : List Info} (h : PlanOk all l) {p q : Nat} {a b : Info} (hpq : p < q) (ha : l[p]? = some a) (hb : l[q]? = some b) (h1 : 2 ≤ a.cls) (h2 : b.cls % 2 = 1) : hasBit b.mask a.i = true := by
  refine h.pairs p q a b hpq ha hb ?_
  unfold ordered
  rw [Nat.ble_eq_true_of_le h1]
  have : Nat.beq (Nat.mod b.cls 2) 1 = true := by rw [Nat.beq_eq]; exact h2
  rw [this]; simp
end
end Go.Ax
namespace Go.Ax
variable [Lo]
open Go
noncomputable section
section
variable {P : Program} {base : Nat} {ρ ρ' : Ren} {s s' S S' : St} {w w' : World}
structure SubS (s S : St) : Prop where
  next : s.next = S.next
  fams : s.fams = S.fams
  heap : ∀ i, S.heap.get i = s.heap.get i ∨ (s.heap.get i = none ∧ fixedTop ≤ i ∧ ∃ cs e, S.heap.get i = some (.row cs e 0))
theorem SubS.refl (s : St) : SubS s s := ⟨rfl, rfl, fun _ => .inl rfl⟩
theorem SubS.get {r : Row} {i : Nat} (h : SubS s S) (hi : s.heap.get i = some r) : S.heap.get i = some r := by
  rcases h.heap i with h1 | ⟨h1, _⟩
  · rw [h1]; exact hi
  · rw [h1] at hi; cases hi
theorem SubS.tag {i : Nat} {t : Nat × Nat} (h : SubS s S) (hi : s.tag i = some t) : S.tag i = some t := by
  rcases h.heap i with h1 | ⟨h1, _⟩
  · unfold St.tag at hi ⊢
    rw [h1, ← h.fams]
    exact hi
  · unfold St.tag at hi
    rw [h1] at hi
    cases hi
theorem SubS.cells {i : Nat} {c : List Value × TypeId × Nat} (h : SubS s S) (hi : s.cells i = some c) : S.cells i = some c := by
  obtain ⟨cs, e, f⟩ := c
  obtain ⟨h1, h2⟩ := cells_some.1 hi
  exact cells_some.2 ⟨h.get h1, by rw [← h.fams]; exact h2⟩
theorem HR.sub (h : SubS s S) (hr : HR P base ρ S w) : HR P base ρ s w := by
  refine ⟨fun i l hi => by rw [h.next]; exact hr.dom i l hi, by rw [h.next]; exact hr.next, hr.base_le, fun i hi ht => ?_, fun i r hi => by rw [h.next]; exact hr.heap_dom i r (h.get hi), fun i cs e f hi => by rw [h.next]; exact hr.fam_dom i cs e f (h.get hi),
    fun i cs e f hc => hr.rows i cs e f (h.cells hc), fun i es c hi => hr.maps i es c (h.get hi), fun i r hi => hr.loops i r (h.get hi), fun i j a b l l' hi hj => hr.sep i j a b l l' (h.tag hi) (h.tag hj)⟩
  cases ht' : s.tag i with
  | none => exact absurd ht' ht
  | some t => exact hr.low i hi (by rw [h.tag ht']; simp)
theorem Owned.sub {b : Nat} (h : SubS s S) (ho : Owned ρ s b) : Owned ρ S b := by
  obtain ⟨i, l, a, h1, h2, h3, h4⟩ := ho
  exact ⟨i, l, a, h1, h.tag h2, h3, h4⟩
def Extra (s S : St) (i : Nat) : Prop := s.heap.get i = none ∧ S.heap.get i ≠ none
theorem Extra.row {i : Nat} (h : SubS s S) (hx : Extra s S i) : fixedTop ≤ i ∧ ∃ cs e, S.heap.get i = some (.row cs e 0) := by
  rcases h.heap i with h1 | ⟨_, h1, h2⟩
  · rw [hx.1] at h1; exact absurd h1 hx.2
  · exact ⟨h1, h2⟩
theorem Goes.extend (h : SubS s S) (hr : HR P base ρ S w) (hg : Goes P base ρ s w ρ' s' w') (hnext : S'.next = s'.next) (hfams : S'.fams = s'.fams)
    (hx : ∀ i, Extra s S i → S'.heap.get i = S.heap.get i) (hn : ∀ i, ¬ Extra s S i → S'.heap.get i = s'.heap.get i) : Goes P base ρ S w ρ' S' w' := by
  have hs := hr.sub h
  have hr' := hg.hr
  have tx : ∀ i, Extra s S i → S'.tag i = some (0, i) := by
    intro i hi
    obtain ⟨_, cs, e, h2⟩ := hi.row h
    unfold St.tag
    rw [hx i hi, h2]; simp
  have tX : ∀ i, Extra s S i → S.tag i = some (0, i) := by
    intro i hi
    obtain ⟨_, cs, e, h2⟩ := hi.row h
    unfold St.tag
    rw [h2]; simp
  have tn : ∀ i, ¬ Extra s S i → S'.tag i = s'.tag i := by
    intro i hi
    unfold St.tag
    rw [hn i hi, hfams]
  have lx : ∀ i l, Extra s S i → ρ'.at i = some l → ρ i = some l ∧ base ≤ l.blk ∧ l.blk < w.heap.size ∧ ¬ Owned ρ s l.blk := by
    intro i l hi hl
    obtain ⟨hft, cs, e, h2⟩ := hi.row h
    have hc : S.cells i = some (cs, e, 0) := cells_some.2 ⟨h2, .inl rfl⟩
    obtain ⟨q, hq⟩ := hr.rows i cs e 0 hc
    have hq1 := hq.at_
    have := Ren.at_le hg.le hq1
    rw [hl] at this
    cases this
    rw [Ren.at_of hft] at hq1
    refine ⟨hq1, (hr.dom i l hq1).2.2.1, (hr.dom i l hq1).2.2.2, ?_⟩
    rintro ⟨j, l', a, g1, g2, g3, g4⟩
    have hab : a ≠ (0, i) := by
      rintro rfl
      have : j = i := by
        unfold St.tag at g2
        split at g2
        · split at g2
          · simpa using g2
          · split at g2
            · split at g2 <;> simp at g2
            · cases g2
        · simpa using g2
        · simpa using g2
        · cases g2
      subst this
      unfold St.tag at g2
      rw [hi.1] at g2
      cases g2
    exact hr.sep j i a (0, i) l' l (h.tag g2) (tX i hi) hab (by rw [Ren.at_of g1]; exact g3) (by rw [Ren.at_of hft]; exact hq1) (.inl g1) g4
  have apart : ∀ i l j b l', Extra s S i → ρ'.at i = some l → s'.tag j = some b → ρ'.at j = some l' → l'.blk ≠ l.blk := by
    intro i l j b l' hi hl hj hl'
    obtain ⟨_, h2, h3, h4⟩ := lx i l hi hl
    intro e
    by_cases hlo : j < fixedTop
    · have := hr'.low j hlo (by rw [hj]; simp)
      rw [Ren.at_low hlo] at hl'
      cases hl'
      omega
    · have ho : Owned ρ' s' l.blk := ⟨j, l', b, by omega, hj, by rwa [Ren.at_of (by omega)] at hl', e⟩
      rcases hg.own _ ho with h5 | h5
      · exact h4 h5
      · omega
  refine ⟨hg.le, ?_, hg.os, hg.tape, hg.output, hg.grow, by rw [hnext, ← h.next]; exact hg.next, fun b hb ho => hg.frame b hb fun hh => ho (hh.sub h), ?_, by rw [← h.next]; exact hg.old⟩
  · refine ⟨fun i l hi => by rw [hnext]; exact hr'.dom i l hi, by rw [hnext]; exact hr'.next, hr'.base_le, fun i hi ht => ?_, fun i r hi => ?_, fun i cs e f hi => ?_, fun i cs e f hc => ?_, fun i es c hi => ?_, fun i r hi => ?_, fun i j a b l l' hi hj hab hl hl' => ?_⟩
    · by_cases hxx : Extra s S i
      · have := (hxx.row h).1; omega
      · rw [tn i hxx] at ht; exact hr'.low i hi ht
    · rw [hnext]
      by_cases hxx : Extra s S i
      · rw [hx i hxx] at hi
        have := hr.heap_dom i r hi
        have := hg.next
        have := h.next
        omega
      · rw [hn i hxx] at hi; exact hr'.heap_dom i r hi
    · rw [hnext]
      by_cases hxx : Extra s S i
      · rw [hx i hxx] at hi
        have := hr.fam_dom i cs e f hi
        have := hg.next
        have := h.next
        omega
      · rw [hn i hxx] at hi; exact hr'.fam_dom i cs e f hi
    · by_cases hxx : Extra s S i
      · obtain ⟨hh, hh2⟩ := cells_some.1 hc
        rw [hx i hxx] at hh
        obtain ⟨hft, cs0, e0, h2⟩ := hxx.row h
        rw [h2] at hh
        cases hh
        have hcS : S.cells i = some (cs, e, 0) := cells_some.2 ⟨h2, .inl rfl⟩
        obtain ⟨q, hq⟩ := hr.rows i cs e 0 hcS
        have hl := Ren.at_le hg.le hq.at_
        obtain ⟨_, _, h5, h6⟩ := lx i q hxx hl
        exact ⟨q, hq.move hg.le (hg.frame _ h5 h6)⟩
      · have : s'.cells i = some (cs, e, f) := by
          obtain ⟨hh, hh2⟩ := cells_some.1 hc
          rw [hn i hxx] at hh
          rw [hfams] at hh2
          exact cells_some.2 ⟨hh, hh2⟩
        exact hr'.rows i cs e f this
    · by_cases hxx : Extra s S i
      · obtain ⟨hft, cs0, e0, h2⟩ := hxx.row h
        rw [hx i hxx, h2] at hi
        cases hi
      · rw [hn i hxx] at hi; exact hr'.maps i es c hi
    · by_cases hxx : Extra s S i
      · obtain ⟨hft, cs0, e0, h2⟩ := hxx.row h
        rw [hx i hxx, h2] at hi
        cases hi
      · rw [hn i hxx] at hi; exact hr'.loops i r hi
    · by_cases hxi : Extra s S i
      · by_cases hxj : Extra s S j
        · have e1 := (lx i l hxi hl).1
          have e2 := (lx j l' hxj hl').1
          rw [tx i hxi] at hi
          rw [tx j hxj] at hj
          cases hi
          cases hj
          exact hr.sep i j _ _ l l' (tX i hxi) (tX j hxj) hab (by rw [Ren.at_of (hxi.row h).1]; exact e1) (by rw [Ren.at_of (hxj.row h).1]; exact e2)
        · rw [tn j hxj] at hj
          exact fun _ e => apart i l j b l' hxi hl hj hl' e.symm
      · rw [tn i hxi] at hi
        by_cases hxj : Extra s S j
        · exact fun _ => apart j l' i a l hxj hl' hi hl
        · rw [tn j hxj] at hj
          exact hr'.sep i j a b l l' hi hj hab hl hl'
  · rintro b ⟨i, l, a, g1, g2, g3, g4⟩
    by_cases hxx : Extra s S i
    · have := (lx i l hxx (by rw [Ren.at_of g1]; exact g3)).1
      exact .inl ⟨i, l, (0, i), g1, tX i hxx, this, g4⟩
    · rw [tn i hxx] at g2
      rcases hg.own b ⟨i, l, a, g1, g2, g3, g4⟩ with h5 | h5
      · exact .inl (h5.sub h)
      · exact .inr h5
structure SameS (s S : St) : Prop where
  next : s.next = S.next
  fams : s.fams = S.fams
  heap : ∀ i, s.heap.get i = S.heap.get i
theorem SameS.symm (h : SameS s S) : SameS S s := ⟨h.next.symm, h.fams.symm, fun i => (h.heap i).symm⟩
theorem SameS.sub (h : SameS s S) : SubS s S := ⟨h.next, h.fams, fun i => .inl (h.heap i).symm⟩
theorem Goes.same (h : SameS s' S') (hg : Goes P base ρ s w ρ' s' w') : Goes P base ρ s w ρ' S' w' :=
  ⟨hg.le, hg.hr.sub h.symm.sub, hg.os, hg.tape, hg.output, hg.grow, by rw [← h.next]; exact hg.next, hg.frame, fun b hb => hg.own b (hb.sub h.symm.sub), hg.old⟩
theorem HR.bump (h : HR P base ρ s w) (k : Nat) : HR P base ρ { heap := s.heap, fams := s.fams, next := s.next + k } w := by
  refine ⟨fun i l hi => ?_, ?_, h.base_le, h.low, fun i r hi => ?_, fun i cs e f hi => ?_, h.rows, h.maps, h.loops, h.sep⟩
  · obtain ⟨a, b, c, d⟩ := h.dom i l hi
    exact ⟨a, Nat.lt_of_lt_of_le b (Nat.le_add_right _ _), c, d⟩
  · exact Nat.le_trans h.next (Nat.le_add_right _ _)
  · exact Nat.lt_of_lt_of_le (h.heap_dom i r hi) (Nat.le_add_right _ _)
  · exact Nat.lt_of_lt_of_le (h.fam_dom i cs e f hi) (Nat.le_add_right _ _)
theorem Goes.bump (h : HR P base ρ s w) (k : Nat) : Goes P base ρ s w ρ { heap := s.heap, fams := s.fams, next := s.next + k } w :=
  ⟨Ren.le_refl ρ, h.bump k, rfl, rfl, rfl, Nat.le_refl _, Nat.le_add_right _ _, fun _ _ _ => rfl, fun _ h => .inl h, fun _ _ => rfl⟩
theorem Goes.keptRow (h : HR P base ρ s w) {id : Nat} (h1 : fixedTop ≤ id) (h2 : id < s.next) (h3 : ρ id = none) {cs : List Value} {e : TypeId} {a : Array Value} (ha : VRs ρ cs a.toList) :
    ρ.le (ρ.set id ⟨w.heap.size, 0, 0⟩) ∧ HR P base (ρ.set id ⟨w.heap.size, 0, 0⟩) { heap := s.heap.set id (.row cs e 0), fams := s.fams, next := s.next } (w.alloc (.cells a e)) ∧
    (∀ b, b < w.heap.size → (w.alloc (.cells a e)).heap[b]? = w.heap[b]?) ∧ (∀ b, Owned (ρ.set id ⟨w.heap.size, 0, 0⟩) { heap := s.heap.set id (.row cs e 0), fams := s.fams, next := s.next } b → Owned ρ s b ∨ w.heap.size ≤ b) := by
  have hle : ρ.le (ρ.set id ⟨w.heap.size, 0, 0⟩) := by
    intro i q hi
    rw [Ren.set_other]
    · exact hi
    · rintro rfl; rw [h3] at hi; cases hi
  have hold : ∀ b, b < w.heap.size → (w.alloc (.cells a e)).heap[b]? = w.heap[b]? := fun b hb => by
    show (w.heap.push _)[b]? = _
    rw [Array.getElem?_push, if_neg (by omega)]
  have hsz : (w.alloc (.cells a e)).heap.size = w.heap.size + 1 := by show (w.heap.push _).size = _; simp
  have hget : ∀ i, i ≠ id → ({ heap := s.heap.set id (.row cs e 0), fams := s.fams, next := s.next } : St).heap.get i = s.heap.get i := fun i hi => Hp.get_set_other _ _ hi
  have hgets : ({ heap := s.heap.set id (.row cs e 0), fams := s.fams, next := s.next } : St).heap.get id = some (.row cs e 0) := Hp.get_set_same _ _ _
  have htag : ∀ i, i ≠ id → St.tag { heap := s.heap.set id (.row cs e 0), fams := s.fams, next := s.next } i = s.tag i := fun i hi => tag_set_other hi
  have hcell : ∀ i, i ≠ id → St.cells { heap := s.heap.set id (.row cs e 0), fams := s.fams, next := s.next } i = s.cells i := fun i hi => cells_set_other hi
  have hat : ∀ i l, i ≠ id → (ρ.set id ⟨w.heap.size, 0, 0⟩).at i = some l → ρ.at i = some l := by
    intro i l hi hl
    by_cases hlo : i < fixedTop
    · rw [Ren.at_low hlo] at hl ⊢; exact hl
    · rw [Ren.at_of (by omega)] at hl ⊢; rwa [Ren.set_other ρ _ hi] at hl
  have hbl := h.base_le
  refine ⟨hle, ?_, hold, ?_⟩
  · refine ⟨fun i l hi => ?_, h.next, by omega, fun i hi ht => ?_, fun i r hi => ?_, fun i cs' e' f hi => ?_, fun i cs' e' f hc => ?_, fun i es c hi => ?_, fun i r hi => ?_, fun i j x y l l' hi hj hxy hl hl' => ?_⟩
    · by_cases e : i = id
      · subst e
        rw [Ren.set_same] at hi
        cases hi
        exact ⟨h1, h2, by show base ≤ w.heap.size; exact hbl, by rw [hsz]; show w.heap.size < _; omega⟩
      · rw [Ren.set_other ρ _ e] at hi
        obtain ⟨a1, a2, a3, a4⟩ := h.dom i l hi
        exact ⟨a1, a2, a3, by omega⟩
    · have e : i ≠ id := by omega
      rw [htag i e] at ht
      exact h.low i hi ht
    · by_cases e : i = id
      · subst e; exact h2
      · rw [hget i e] at hi; exact h.heap_dom i r hi
    · by_cases e0 : i = id
      · subst e0
        rw [hgets] at hi
        cases hi
        have := h.next
        have : fixedTop = 64 := rfl
        show 0 < s.next
        omega
      · rw [hget i e0] at hi; exact h.fam_dom i cs' e' f hi
    · by_cases e0 : i = id
      · subst e0
        obtain ⟨g1, g2⟩ := cells_some.1 hc
        rw [hgets] at g1
        cases g1
        refine ⟨⟨w.heap.size, 0, 0⟩, by rw [Ren.at_of h1, Ren.set_same], a, (0, 0), ⟨_, alloc_at _ _, fun _ => rfl⟩, ?_, fun _ o _ => by omega, fun _ => ⟨rfl, by have := ha.length; simpa using this⟩, fun h0 => absurd rfl h0⟩
        intro j x hj
        obtain ⟨y, hy, hv⟩ := ha.get hj
        exact ⟨y, by simpa using hy, hv.mono hle⟩
      · rw [hcell i e0] at hc
        obtain ⟨q, hq⟩ := h.rows i cs' e' f hc
        exact ⟨q, hq.move hle (hold _ (h.blk_lt (tag_cells hc) hq.at_))⟩
    · by_cases e0 : i = id
      · subst e0; rw [hgets] at hi; cases hi
      · rw [hget i e0] at hi
        obtain ⟨q, hq, es', g1, g2⟩ := h.maps i es c hi
        exact ⟨q, hle _ _ hq, es', by rw [hold _ (h.dom i q hq).2.2.2]; exact g1, g2.mono hle⟩
    · by_cases e0 : i = id
      · subst e0; rw [hgets] at hi; cases hi
      · rw [hget i e0] at hi
        obtain ⟨q, hq, q', g1, g2⟩ := h.loops i r hi
        exact ⟨q, hle _ _ hq, q', by rw [hold _ (h.dom i q hq).2.2.2]; exact g1, g2.mono hle⟩
    · by_cases ei : i = id
      · subst ei
        rw [Ren.at_of h1, Ren.set_same] at hl
        cases hl
        by_cases ej : j = i
        · subst ej; rw [hi] at hj; exact absurd (Option.some.inj hj) hxy
        · rw [htag j ej] at hj
          have := h.blk_lt hj (hat j l' ej hl')
          intro _
          show w.heap.size ≠ _
          omega
      · rw [htag i ei] at hi
        have hl1 := hat i l ei hl
        by_cases ej : j = id
        · subst ej
          rw [Ren.at_of h1, Ren.set_same] at hl'
          cases hl'
          have := h.blk_lt hi hl1
          intro _
          show l.blk ≠ w.heap.size
          omega
        · rw [htag j ej] at hj
          exact h.sep i j x y l l' hi hj hxy hl1 (hat j l' ej hl')
  · rintro b ⟨i, l, t, g1, g2, g3, g4⟩
    by_cases e0 : i = id
    · subst e0
      rw [Ren.set_same] at g3
      cases g3
      right
      show w.heap.size ≤ b
      have : w.heap.size = b := g4
      omega
    · rw [Ren.set_other ρ _ e0] at g3
      rw [htag i e0] at g2
      exact .inl ⟨i, l, t, g1, g2, g3, g4⟩
end
end
end Go.Ax
namespace Go.Ax
open Go
noncomputable section
structure DCtx where
  C : Cfg
  call : CallT
  yield : YieldT
  rd : Bool
  n : Nat
  all : List Oper
  base : Nat
  l : List Info
def withRow (s : St) (id : Nat) (r : Row) : St := { heap := s.heap.set id r, fams := s.fams, next := s.next }
def Eff (X : DCtx) (frs : Nat → Fr) (p : Nat) (a : Info) : Prop := guardOk X.n X.all (frs p) a.op.guard = some true ∧ 3 ≤ a.cls
inductive StepF (X : DCtx) (frs : Nat → Fr) (sts : Nat → St) (p : Nat) (a : Info) : Prop
  | skip (hg : guardOk X.n X.all (frs p) a.op.guard = some false) (hf : frs (p + 1) = (frs p).put X.n a.op.dst unit) (hs : sts (p + 1) = sts p)
  | pure (hg : guardOk X.n X.all (frs p) a.op.guard = some true) (hc : a.cls = 0) (v : Value) (s' : St) (he : execOp X.C ((frs p).ev X.n) (sts p) a.op.op = some (.val v s'))
      (hf : frs (p + 1) = (frs p).put X.n a.op.dst v) (hs : sts (p + 1) = sts p)
  | read (hg : guardOk X.n X.all (frs p) a.op.guard = some true) (hc : a.cls = 1) (v : Value) (s' : St) (he : execOp X.C ((frs p).ev X.n) (sts p) a.op.op = some (.val v s')) (hq : quietV (sts p) v = true)
      (hf : frs (p + 1) = (frs p).put X.n a.op.dst v) (hs : sts (p + 1) = sts p)
      (again : ∀ e b, p < e → X.l[e]? = some b → Eff X frs e b → hasBit b.mask a.i = false → ∃ s'', execOp X.C ((frs p).ev X.n) (sts (e + 1)) a.op.op = some (.val v s'') ∧ quietV (sts (e + 1)) v = true)
  | make (hg : guardOk X.n X.all (frs p) a.op.guard = some true) (hc : a.cls = 2) (r : Row) (mk : Nat → Value) (he : aOp X.C ((frs p).ev X.n) a.op.op = some (r, mk))
      (hf : frs (p + 1) = (frs p).put X.n a.op.dst (mk (X.base + a.i))) (hs : sts (p + 1) = withRow (sts p) (X.base + a.i) r)
  | eff (hg : guardOk X.n X.all (frs p) a.op.guard = some true) (hc : 3 ≤ a.cls) (r : Res) (v : Value) (s' : St) (df : Option (FuncId × List Value)) (he : execOp X.C ((frs p).ev X.n) (sts p) a.op.op = some r)
      (ha : aft X.call X.yield X.rd r = some (v, s', df)) (hf : frs (p + 1) = ((frs p).more df).put X.n a.op.dst v) (hs : sts (p + 1) = s')
      (free : ∀ q b, p < q → X.l[q]? = some b → b.cls = 2 → (sts (p + 1)).heap.get (X.base + b.i) = none)
def PendF (X : DCtx) (frs : Nat → Fr) (sts : Nat → St) (l : List Info) (x : Pend) : Prop :=
  ∀ e b, l[e]? = some b → Eff X frs e b → hasBit b.mask x.i = false → ∃ s'', execOp X.C (x.fr.ev X.n) (sts (e + 1)) x.op = some (.val x.v s'') ∧ quietV (sts (e + 1)) x.v = true
theorem lookAll_mem {C : Cfg} {n : Nat} {s : St} {m : Nat} : ∀ {l : List Pend}, lookAll C n s m l = true → ∀ x ∈ l, hasBit m x.i = false → ∃ s'', execOp C (x.fr.ev n) s x.op = some (.val x.v s'') ∧ quietV s x.v = true
  | [], _, x, hx => by cases hx
  | a :: l, h, x, hx => by
    intro hb
    change sel (hasBit m a.i || lookAgain C n s a) (lookAll C n s m l) false = true at h
    rw [sel_eq] at h
    split at h
    · rename_i hh
      rcases List.mem_cons.1 hx with rfl | hx
      · rw [hb, Bool.false_or] at hh
        unfold lookAgain at hh
        cases hr : execOp C (x.fr.ev n) s x.op with
        | none => rw [hr] at hh; cases hh
        | some r =>
          rw [hr] at hh
          cases r with
          | val v s2 =>
            have hh : (quietV s v && sameV 4 x.v v) = true := hh
            simp only [Bool.and_eq_true] at hh
            have := sameV_eq 4 hh.2
            rw [this]
            exact ⟨s2, rfl, hh.1⟩
          | call f args s2 => cases hh
          | yield l args s2 => cases hh
          | defer f args s2 => cases hh
      · exact lookAll_mem h x hx hb
    · cases h
theorem freeIds_mem {s : St} {base : Nat} : ∀ {l : List Info}, freeIds s base l = true → ∀ b ∈ l, b.cls = 2 → s.heap.get (base + b.i) = none
  | [], _, b, hb => by cases hb
  | a :: l, h, b, hb => by
    intro hc
    change sel (Nat.beq a.cls 2) (sel (s.heap.get (Nat.add base a.i)).isNone (freeIds s base l) false) (freeIds s base l) = true at h
    rw [sel_eq, sel_eq] at h
    rcases List.mem_cons.1 hb with rfl | hb
    · rw [if_pos (by rw [hc]; rfl)] at h
      split at h
      · rename_i hh
        cases hq : s.heap.get (Nat.add base b.i) with
        | none => rfl
        | some r => rw [hq] at hh; cases hh
      · cases h
    · split at h
      · split at h
        · exact freeIds_mem h b hb hc
        · cases h
      · exact freeIds_mem h b hb hc
def shiftF {α : Type} (x : α) (f : Nat → α) : Nat → α
  | 0 => x
  | p + 1 => f p
theorem StepF.up {X Y : DCtx} (hC : X.C = Y.C) (h1 : X.call = Y.call) (h2 : X.yield = Y.yield) (h3 : X.rd = Y.rd) (h4 : X.n = Y.n) (h5 : X.all = Y.all) (h6 : X.base = Y.base) {a0 : Info} (hl : Y.l = a0 :: X.l) {fr : Fr} {s : St} {frs : Nat → Fr} {sts : Nat → St} {p : Nat} {a : Info}
    (h : StepF X frs sts p a) : StepF Y (shiftF fr frs) (shiftF s sts) (p + 1) a := by
  obtain ⟨C, call, yield, rd, n, all, base, l⟩ := X
  obtain ⟨C', call', yield', rd', n', all', base', l'⟩ := Y
  simp only at hC h1 h2 h3 h4 h5 h6 hl
  subst hC h1 h2 h3 h4 h5 h6 hl
  cases h with
  | skip hg hf hs => exact .skip hg hf hs
  | pure hg hc v s' he hf hs => exact .pure hg hc v s' he hf hs
  | read hg hc v s' he hq hf hs again =>
    refine .read hg hc v s' he hq hf hs ?_
    intro e b hpe hb heff hbit
    cases e with
    | zero => omega
    | succ e => exact again e b (by omega) (by simpa using hb) heff hbit
  | make hg hc r mk he hf hs => exact .make hg hc r mk he hf hs
  | eff hg hc r v s' df he ha hf hs free =>
    refine .eff hg hc r v s' df he ha hf hs ?_
    intro q b hpq hb hcls
    cases q with
    | zero => omega
    | succ q => exact free q b (by omega) (by simpa using hb) hcls
theorem callAny_same {C : Cfg} {s s' : St} {f g : FuncId} {as bs : List Value} (h : callAny C s f as = some (.call g bs s')) : s' = s := by
  unfold callAny at h
  cases he : C.ext f with
  | none =>
    have h : guard (C.body f).isSome (some (Res.call f as s)) = some (.call g bs s') := by rw [he] at h; exact h
    obtain ⟨_, h⟩ := guard_some.1 h
    cases h; rfl
  | some e =>
    have h : obind (callExt C s e as) toRes = some (.call g bs s') := by rw [he] at h; exact h
    obtain ⟨q, _, h⟩ := obind_some.1 h
    cases h
theorem callFn_same {C : Cfg} {s s' : St} {fn : Fn} {g : FuncId} {a b c bs : List Value} (h : callFn C s fn a b c = some (.call g bs s')) : s' = s := by
  cases fn with
  | func f => exact callAny_same h
  | method n =>
    change callName C s n (appL a c) = some (.call g bs s') at h
    unfold callName at h
    split at h
    · obtain ⟨q, _, h⟩ := obind_some.1 h
      exact callAny_same h
    · cases h
  | methodOf t n => cases h
  | via t p f r =>
    change callVia C s t p.toList f r (appL a c) = some (.call g bs s') at h
    unfold callVia at h
    split at h
    · obtain ⟨q, _, h⟩ := obind_some.1 h
      obtain ⟨v, _, h⟩ := obind_some.1 h
      exact callAny_same h
    · cases h
  | yield l => cases h
theorem execOp_call_same {C : Cfg} {ev : Ev} {s s' : St} {o : Op} {g : FuncId} {bs : List Value} (ho : quietOp o = true) (h : execOp C ev s o = some (.call g bs s')) : s' = s := by
  unfold quietOp at ho
  split at ho
  · rename_i c
    split at ho
    · rename_i x hx
      change oCall C ev s c = some (.call g bs s') at h
      unfold oCall at h
      obtain ⟨as, _, h⟩ := obind_some.1 h
      rw [hx] at h
      obtain ⟨fv, _, h⟩ := obind_some.1 h
      unfold invoke at h
      split at h
      · exact callFn_same h
      · cases h
    · cases ho
  · cases ho
def QuietOk (C : Cfg) (call : CallT) : Prop := ∀ f args s0 s v s', quietCall C (.call f args s0) = true → call f args s = some (v, s') → s' = s
theorem quiet_same {C : Cfg} {call : CallT} {yield : YieldT} {rd : Bool} (hq : QuietOk C call) {ev : Ev} {s s2 : St} {o : Op} {r : Res} {v : Value} {df : Option (FuncId × List Value)} (he : execOp C ev s o = some r) (ho : quietOp o = true) (h : quietCall C r = true) (ha : aft call yield rd r = some (v, s2, df)) : s2 = s := by
  cases r with
  | val v s' => cases h
  | yield l args s' => cases h
  | defer f args s' => cases h
  | call f args s' =>
    obtain ⟨⟨v', s3⟩, hcall, ha⟩ := obind_some.1 ha
    cases ha
    rw [hq f args s' s' _ _ h hcall]
    exact execOp_call_same ho he
theorem drawL_trace (C : Cfg) (call : CallT) (yield : YieldT) (rd : Bool) (n : Nat) (all : List Oper) (base : Nat) (hQ : QuietOk C call) : ∀ (l : List Info) (cl : Bool) (pend : List Pend) (fr : Fr) (s : St) (fr' : Fr) (s' : St),
    drawL C call yield rd n all base l cl pend fr s = some (fr', s') → (cl = true → ∀ x ∈ pend, ∃ s'', execOp C (x.fr.ev n) s x.op = some (.val x.v s'') ∧ quietV s x.v = true) →
    ∃ (frs : Nat → Fr) (sts : Nat → St), frs 0 = fr ∧ sts 0 = s ∧ frs l.length = fr' ∧ sts l.length = s' ∧
      (∀ p a, l[p]? = some a → StepF ⟨C, call, yield, rd, n, all, base, l⟩ frs sts p a) ∧ (∀ x ∈ pend, PendF ⟨C, call, yield, rd, n, all, base, l⟩ frs sts l x)
  | [], cl, pend, fr, s, fr', s', h, _ => by
    cases h
    exact ⟨fun _ => fr, fun _ => s, rfl, rfl, rfl, rfl, fun p a ha => by simp at ha, fun x _ e b hb => by simp at hb⟩
  | a :: rest, cl, pend, fr, s, fr', s', h, hcl => by
    change drawOne C call yield rd n all base a rest (drawL C call yield rd n all base rest) cl pend fr s = some (fr', s') at h
    unfold drawOne at h
    obtain ⟨g, hg, h⟩ := obind_some.1 h
    have glue : ∀ (cl' : Bool) (pend' : List Pend) (fr1 : Fr) (s1 : St), (∀ x ∈ pend, x ∈ pend') → drawL C call yield rd n all base rest cl' pend' fr1 s1 = some (fr', s') →
        (cl' = true → ∀ x ∈ pend', ∃ s'', execOp C (x.fr.ev n) s1 x.op = some (.val x.v s'') ∧ quietV s1 x.v = true) →
        (∀ (frs : Nat → Fr) (sts : Nat → St), frs 0 = fr1 → sts 0 = s1 → (∀ x ∈ pend', PendF ⟨C, call, yield, rd, n, all, base, rest⟩ frs sts rest x) → StepF ⟨C, call, yield, rd, n, all, base, a :: rest⟩ (shiftF fr frs) (shiftF s sts) 0 a) →
        (∀ (frs : Nat → Fr) (sts : Nat → St), frs 0 = fr1 → sts 0 = s1 → ∀ x ∈ pend, Eff ⟨C, call, yield, rd, n, all, base, a :: rest⟩ (shiftF fr frs) 0 a → hasBit a.mask x.i = false →
          ∃ s'', execOp C (x.fr.ev n) s1 x.op = some (.val x.v s'') ∧ quietV s1 x.v = true) →
        ∃ (frs : Nat → Fr) (sts : Nat → St), frs 0 = fr ∧ sts 0 = s ∧ frs (a :: rest).length = fr' ∧ sts (a :: rest).length = s' ∧
          (∀ p b, (a :: rest)[p]? = some b → StepF ⟨C, call, yield, rd, n, all, base, a :: rest⟩ frs sts p b) ∧ (∀ x ∈ pend, PendF ⟨C, call, yield, rd, n, all, base, a :: rest⟩ frs sts (a :: rest) x) := by
      intro cl' pend' fr1 s1 hsub hrest hcl' hstep hpend
      obtain ⟨frs, sts, f0, t0, f1, t1, hst, hpd⟩ := drawL_trace C call yield rd n all base hQ rest cl' pend' fr1 s1 fr' s' hrest hcl'
      refine ⟨shiftF fr frs, shiftF s sts, rfl, rfl, f1, t1, ?_, ?_⟩
      · intro p b hb
        cases p with
        | zero =>
          simp at hb
          subst hb
          exact hstep frs sts f0 t0 hpd
        | succ p =>
          simp at hb
          exact StepF.up (X := ⟨C, call, yield, rd, n, all, base, rest⟩) (Y := ⟨C, call, yield, rd, n, all, base, a :: rest⟩) rfl rfl rfl rfl rfl rfl rfl (a0 := a) rfl (hst p b hb)
      · intro x hx e b hb heff hbit
        cases e with
        | zero =>
          simp at hb
          subst hb
          show ∃ s'', execOp C (x.fr.ev n) (sts 0) x.op = _ ∧ quietV (sts 0) x.v = true
          rw [t0]
          exact hpend frs sts f0 t0 x hx heff hbit
        | succ e =>
          simp at hb
          exact hpd x (hsub x hx) e b hb heff hbit
    cases g with
    | false =>
      rw [sel_false] at h
      refine glue cl pend _ s (fun _ hx => hx) h hcl (fun frs sts f0 t0 _ => .skip hg f0 t0) ?_
      intro frs sts f0 t0 x hx heff
      have := heff.1
      change guardOk n all fr a.op.guard = some true at this
      rw [hg] at this
      cases this
    | true =>
      rw [sel_true] at h
      have noEff : ∀ (frs : Nat → Fr), a.cls < 3 → ¬ Eff ⟨C, call, yield, rd, n, all, base, a :: rest⟩ (shiftF fr frs) 0 a := fun frs hlt he => by have := he.2; omega
      cases hc0 : a.cls with
      | zero =>
        rw [hc0] at h
        obtain ⟨r, hr, h⟩ := obind_some.1 h
        cases r with
        | val v s2 => exact glue cl pend _ s (fun _ hx => hx) h hcl (fun frs sts f0 t0 _ => .pure hg hc0 v s2 hr f0 t0) (fun frs sts _ _ x _ heff => absurd heff (noEff frs (by omega)))
        | call f args s2 => cases h
        | yield f args s2 => cases h
        | defer f args s2 => cases h
      | succ c1 =>
        rw [hc0] at h
        cases c1 with
        | zero =>
          obtain ⟨r, hr, h⟩ := obind_some.1 h
          cases r with
          | val v s2 =>
            obtain ⟨hq, h⟩ := guard_some.1 h
            refine glue cl ({ i := a.i, op := a.op.op, fr := fr, v := v } :: pend) _ s (fun _ hx => List.mem_cons_of_mem _ hx) h (fun hc x hx => by
              rcases List.mem_cons.1 hx with rfl | hx
              · exact ⟨s2, hr, hq⟩
              · exact hcl hc x hx) (fun frs sts f0 t0 hpd => .read hg hc0 v s2 hr hq f0 t0 ?_) (fun frs sts _ _ x _ heff => absurd heff (noEff frs (by omega)))
            intro e b hpe hb heff hbit
            cases e with
            | zero => omega
            | succ e => exact hpd { i := a.i, op := a.op.op, fr := fr, v := v } (by simp) e b (by simpa using hb) heff hbit
          | call f args s2 => cases h
          | yield f args s2 => cases h
          | defer f args s2 => cases h
        | succ c2 =>
          cases c2 with
          | zero =>
            obtain ⟨⟨r, mk⟩, hr, h⟩ := obind_some.1 h
            exact glue false pend _ _ (fun _ hx => hx) h (fun hc => by cases hc) (fun frs sts f0 t0 _ => .make hg hc0 r mk hr f0 t0) (fun frs sts _ _ x _ heff => absurd heff (noEff frs (by omega)))
          | succ c3 =>
            obtain ⟨r, hr, h⟩ := obind_some.1 h
            unfold drawLoud at h
            cases hcq : (cl && (quietOp a.op.op && quietCall C r)) with
            | true =>
              rw [hcq, sel_true, afterOp_eq] at h
              simp only [Bool.and_eq_true] at hcq
              obtain ⟨⟨v, s2, df⟩, ha, h5⟩ := obind_some.1 h
              obtain ⟨hgd, h6⟩ := guard_some.1 h5
              have hss := quiet_same hQ hr hcq.2.1 hcq.2.2 ha
              refine glue true pend _ s2 (fun _ hx => hx) h6 (fun _ => by rw [hss]; exact hcl hcq.1) (fun frs sts f0 t0 _ => .eff hg (by omega) r v s2 df hr ha f0 t0 ?_) ?_
              · intro q b hpq hb hcls
                cases q with
                | zero => omega
                | succ q =>
                  show (sts 0).heap.get _ = none
                  rw [t0]
                  exact freeIds_mem hgd b (List.mem_of_getElem? (by simpa using hb)) hcls
              · intro frs sts f0 t0 x hx _ hbit
                rw [hss]
                exact hcl hcq.1 x hx
            | false =>
              rw [hcq, sel_false, afterOp_eq] at h
              obtain ⟨⟨v, s2, df⟩, ha, h⟩ := obind_some.1 h
              obtain ⟨hgd, h⟩ := guard_some.1 h
              simp only [Bool.and_eq_true] at hgd
              refine glue false pend _ s2 (fun _ hx => hx) h (fun hc => by cases hc) (fun frs sts f0 t0 _ => .eff hg (by omega) r v s2 df hr ha f0 t0 ?_) ?_
              · intro q b hpq hb hcls
                cases q with
                | zero => omega
                | succ q =>
                  show (sts 0).heap.get _ = none
                  rw [t0]
                  exact freeIds_mem hgd.2 b (List.mem_of_getElem? (by simpa using hb)) hcls
              · intro frs sts f0 t0 x hx _ hbit
                exact lookAll_mem hgd.1 x hx hbit
end
end Go.Ax
namespace Go.Ax
variable [Lo]
open Go
noncomputable section
section
variable {P : Program} {base : Nat} {ρ ρ' : Ren} {s s' : St} {w w' : World} {C : Cfg} {ev : Ev} {η : Operand → Value}
structure Makes (P : Program) (ρ : Ren) (w : World) (run : Result Next) (r : Row) (mk : Nat → Value) (cs : List Value) (e : TypeId) (arr : Array Value) (c : Value) : Prop where
  row : r = .row cs e 0
  run : run = .ok (.value c) (w.alloc (.cells arr e))
  cells : VRs ρ cs arr.toList
  val : ∀ (ρ' : Ren) (id : Nat), fixedTop ≤ id → ρ' id = some ⟨w.heap.size, 0, 0⟩ → VR ρ' (mk id) c
theorem val_ptr (w : World) {ρ' : Ren} {id : Nat} (h1 : fixedTop ≤ id) (h2 : ρ' id = some ⟨w.heap.size, 0, 0⟩) : VR ρ' (ptr id 0) (.pointer (some ⟨w.heap.size, 0, none⟩)) := by
  have := VR.ptr (ρ := ρ') (b := id) (o := 0) (l := ⟨w.heap.size, 0, 0⟩) (by rw [Ren.at_of h1]; exact h2)
  simpa [Ax.ptr] using this
theorem aOp_sound (hK : CfgOk C P) (he : EvR ρ ev η) {o : Oper} {r : Row} {mk : Nat → Value} (hr : aOp C ev o.op = some (r, mk)) : ∃ cs e arr c, Makes P ρ w ((Go.execOp η o).run P w) r mk cs e arr c := by
  cases ho : o.op
  case alloc t =>
    rw [ho] at hr
    obtain ⟨z, hz, hr⟩ := obind_some.1 hr
    cases hr
    rw [hK.prog] at hz
    obtain ⟨i, v, h1, h2, rfl⟩ := zero_info hz
    have hv := hK.zero t i v (zero_lt hz) h1 h2 ρ
    refine ⟨v.cells.toList, t, v.cells, .pointer (some ⟨w.heap.size, 0, none⟩), rfl, ?_, ?_, fun ρ' id => val_ptr w⟩
    · unfold Go.execOp
      simp only [ho]
      simp [Instr.alloc, zeroValue, Go.typeInfo, h1, h2, newVar, newRow]
    · have := cellsOf_vr hv
      have e : cellsOf v = v.cells.toList := by cases v <;> rfl
      rwa [e] at this
  case box t x =>
    rw [ho] at hr
    obtain ⟨v, hv, hr⟩ := obind_some.1 hr
    cases hr
    refine ⟨cellsOf v, t, (η x).cells, .pointer (some ⟨w.heap.size, 0, none⟩), rfl, ?_, cellsOf_vr (he x v hv), fun ρ' id => val_ptr w⟩
    unfold Go.execOp
    simp only [ho]
    simp [Instr.box, newVar, newRow]
  case buildSlice t len parts =>
    rw [ho] at hr
    unfold aOp at hr
    rw [hK.prog] at hr
    simp only at hr
    split at hr
    · rename_i e hu
      obtain ⟨n, hn, hr⟩ := obind_some.1 hr
      obtain ⟨z, hz, hr⟩ := obind_some.1 hr
      obtain ⟨hg, hr⟩ := guard_some.1 hr
      obtain ⟨ps, hps, hr⟩ := obind_some.1 hr
      obtain ⟨l, hl, hr⟩ := obind_some.1 hr
      cases hr
      simp only [Bool.and_eq_true] at hg
      obtain ⟨⟨hg1, hg2⟩, hg3⟩ := hg
      have hzn : z.length = n := by rw [lenL_eq] at hg1; exact Nat.eq_of_beq_eq_true hg1
      have hn0 : 0 < n := Nat.le_of_ble_eq_true hg2
      have hbig : len * n ≤ 16777216 := Nat.le_of_ble_eq_true hg3
      have hp := evParts_some he hps
      obtain ⟨i, v, h1, h2, h3, h4⟩ := zero_cells hK.zero hz ρ
      have hzv : (zeroValue e).run P w = .ok v w := by simp [zeroValue, Go.typeInfo, h1, h2]
      have hvn : v.cells.size = n := by have := h4.length; simp at this; omega
      have hzz : VRs ρ (repeatL len z) ((Array.range (len * n)).map fun i => v.cells[i % v.cells.size]!).toList := by
        have := zeroCells_vrs h4 len (.inl (by omega))
        have e0 : len * v.cells.size = len * n := by rw [hvn]
        rwa [e0] at this
      obtain ⟨rc, h5, h6⟩ := fill_sound hp hzz hl
      refine ⟨l, e, rc, .slice (some ⟨w.heap.size, 0, none⟩) len len, rfl, ?_, h6, ?_⟩
      · unfold Go.execOp
        simp only [ho]
        have hb : ¬ (len * n > 2 ^ 24) := by omega
        by_cases h0 : len * n = 0
        · have hlen : len = 0 := by
            rcases Nat.mul_eq_zero.1 h0 with h | h
            · exact h
            · omega
          subst hlen
          simp only [Nat.zero_mul, Array.range_zero', Array.map_empty] at h5
          simp only [Instr.buildSlice, run_underlying hu, run_sizeOf hn, Sem.run_bind, Result.andThen_ok, Sem.run_pure, Array.toList_map, Nat.zero_mul, Array.range_zero', Array.map_empty]
          simp
          rw [show (fun i => some (i * n, n)) = placeA n from rfl, h5]
          simp [newRow]
        · simp only [Instr.buildSlice, run_underlying hu, run_sizeOf hn, hzv, Sem.run_bind, Result.andThen_ok, Sem.run_pure, Array.toList_map, if_neg hb, if_neg h0]
          rw [show (fun i => some (i * n, n)) = placeA n from rfl, h5]
          simp [newRow]
      · intro ρ' id g1 g2
        have := VR.slice (ρ := ρ') (b := id) (o := 0) (n := len) (c := len) (l := ⟨w.heap.size, 0, 0⟩) (by rw [Ren.at_of g1]; exact g2)
        have hc : capOf ⟨w.heap.size, 0, 0⟩ len = len := by
          unfold capOf; rw [if_neg]; unfold halfCap
          have : len * 1 ≤ len * n := Nat.mul_le_mul_left _ hn0
          omega
        rw [hc] at this
        exact this
    · cases hr
  case makeSlice t x y =>
    rw [ho] at hr
    unfold aOp at hr
    rw [hK.prog] at hr
    simp only at hr
    split at hr
    · rename_i e hu
      obtain ⟨a, ha, hr⟩ := obind_some.1 hr
      obtain ⟨l, hl, hr⟩ := obind_some.1 hr
      obtain ⟨b, hb, hr⟩ := obind_some.1 hr
      obtain ⟨c, hc, hr⟩ := obind_some.1 hr
      obtain ⟨i, hi, hr⟩ := obind_some.1 hr
      obtain ⟨z, hz, hr⟩ := obind_some.1 hr
      obtain ⟨hg, hr⟩ := guard_some.1 hr
      cases hr
      simp only [Bool.and_eq_true] at hg
      obtain ⟨⟨⟨⟨hg1, hg2⟩, hg3⟩, hg4⟩, hg5⟩ := hg
      have hg4 : c ≤ 100000 := Nat.le_of_ble_eq_true hg4
      obtain ⟨k1, hk1⟩ := (he x a ha).nat hl
      obtain ⟨k2, hk2⟩ := (he y b hb).nat hc
      obtain ⟨arr, hzz, hrun⟩ := makeSlice_run (ρ := ρ) (w := w) hK.zero hu hi hz (Nat.eq_of_beq_eq_true hg1) (Nat.le_of_ble_eq_true hg2) (Nat.le_of_ble_eq_true hg3) hg4 (Nat.le_of_ble_eq_true hg5) hk1 hk2
      refine ⟨_, e, arr, .slice (some ⟨w.heap.size, 0, none⟩) l c, rfl, ?_, hzz, fun ρ' id g1 g2 => ?_⟩
      · unfold Go.execOp
        simp only [ho]
        simp only [Sem.run_bind, hrun, Result.andThen_ok, Sem.run_pure]
      · have := VR.slice (ρ := ρ') (b := id) (o := 0) (n := l) (c := c) (l := ⟨w.heap.size, 0, 0⟩) (by rw [Ren.at_of g1]; exact g2)
        have hcap : capOf ⟨w.heap.size, 0, 0⟩ c = c := by
          unfold capOf; rw [if_neg]; unfold halfCap; omega
        rw [hcap] at this
        exact this
    · cases hr
  all_goals
    rw [ho] at hr
    change none = some (r, mk) at hr
    cases hr
theorem aOp_restr {o : Op} : aOp C (restr (opnds o) ev) o = aOp C ev o := by
  cases o <;> try rfl
  case box t x =>
    show obind (restr _ ev x) _ = obind (ev x) _
    have : restr (opnds (.box t x)) ev x = ev x := by unfold restr; rw [if_pos (by simp [opnds])]
    rw [this]
  case buildSlice t len parts =>
    have := evParts_congr (ev := restr (opnds (.buildSlice t len parts)) ev) (ev' := ev) (l := parts.toList) fun p hp => by
      unfold restr
      rw [if_pos (by simp only [opnds, mapL_eq, List.mem_map]; exact ⟨p, hp, rfl⟩)]
    unfold aOp
    simp only [this]
  case makeSlice t x y =>
    have h1 : restr (opnds (.makeSlice t x y)) ev x = ev x := by unfold restr; rw [if_pos (by simp [opnds])]
    have h2 : restr (opnds (.makeSlice t x y)) ev y = ev y := by unfold restr; rw [if_pos (by simp [opnds])]
    unfold aOp
    simp only [h1, h2]
theorem aOp_row {o : Op} {r : Row} {mk : Nat → Value} (h : aOp C ev o = some (r, mk)) : ∃ cs e, r = .row cs e 0 := by
  unfold aOp at h
  split at h
  · obtain ⟨z, _, h⟩ := obind_some.1 h
    cases h
    exact ⟨_, _, rfl⟩
  · obtain ⟨z, _, h⟩ := obind_some.1 h
    cases h
    exact ⟨_, _, rfl⟩
  · split at h
    · obtain ⟨n, _, h⟩ := obind_some.1 h
      obtain ⟨z, _, h⟩ := obind_some.1 h
      obtain ⟨_, h⟩ := guard_some.1 h
      obtain ⟨ps, _, h⟩ := obind_some.1 h
      obtain ⟨l, _, h⟩ := obind_some.1 h
      cases h
      exact ⟨_, _, rfl⟩
    · cases h
  · split at h
    · obtain ⟨a, _, h⟩ := obind_some.1 h
      obtain ⟨l, _, h⟩ := obind_some.1 h
      obtain ⟨b, _, h⟩ := obind_some.1 h
      obtain ⟨c, _, h⟩ := obind_some.1 h
      obtain ⟨i, _, h⟩ := obind_some.1 h
      obtain ⟨z, _, h⟩ := obind_some.1 h
      obtain ⟨_, h⟩ := guard_some.1 h
      cases h
      exact ⟨_, _, rfl⟩
    · cases h
  · cases h
theorem aOp_noDefer {o : Op} {r : Row} {mk : Nat → Value} (h : aOp C ev o = some (r, mk)) : ∀ c, o ≠ .defer c := by
  rintro c rfl
  cases h
theorem cls_le (o : Op) : cls o ≤ 3 := by
  unfold cls
  repeat' split
  all_goals omega
def addRows : List (Nat × Row) → St → St
  | [], s => s
  | (i, r) :: xs, s => withRow (addRows xs s) i r
theorem addRows_next (xs : List (Nat × Row)) (s : St) : (addRows xs s).next = s.next := by
  induction xs with
  | nil => rfl
  | cons x xs ih => exact ih
theorem addRows_fams (xs : List (Nat × Row)) (s : St) : (addRows xs s).fams = s.fams := by
  induction xs with
  | nil => rfl
  | cons x xs ih => exact ih
theorem addRows_get (xs : List (Nat × Row)) (s : St) (j : Nat) : (addRows xs s).heap.get j = match xs.lookup j with | some r => some r | none => s.heap.get j := by
  induction xs with
  | nil => rfl
  | cons x xs ih =>
    obtain ⟨i, r⟩ := x
    show ((addRows xs s).heap.set i r).get j = _
    rw [Hp.get_set, ih]
    by_cases h : j = i
    · subst h; simp [List.lookup]
    · have : (j == i) = false := by simpa using h
      simp [List.lookup, h, this]
theorem lookup_filter (f : Nat → Bool) (xs : List (Nat × Row)) (j : Nat) : (xs.filter fun p => f p.1).lookup j = if f j then xs.lookup j else none := by
  induction xs with
  | nil => simp
  | cons x xs ih =>
    obtain ⟨i, r⟩ := x
    by_cases hf : f i = true
    · rw [List.filter_cons_of_pos (by simpa using hf)]
      by_cases h : j = i
      · subst h; simp [List.lookup, hf]
      · have : (j == i) = false := by simpa using h
        simp [List.lookup, this, ih]
    · rw [List.filter_cons_of_neg (by simpa using hf)]
      by_cases h : j = i
      · subst h
        simp [ih, hf]
      · have : (j == i) = false := by simpa using h
        simp [List.lookup, this, ih]
end
end
end Go.Ax
namespace Go.Ax
variable [Lo]
open Go
noncomputable section
def MadeAt (X : DCtx) (frs : Nat → Fr) (q : Nat) (b : Info) (r : Row) (mk : Nat → Value) : Prop :=
  guardOk X.n X.all (frs q) b.op.guard = some true ∧ b.cls = 2 ∧ aOp X.C ((frs q).ev X.n) b.op.op = some (r, mk)
structure Run0 (X : DCtx) (frs : Nat → Fr) (sts : Nat → St) : Prop where
  plan : PlanOk X.all X.l
  steps : ∀ (p : Nat) (a : Info), X.l[p]? = some a → StepF X frs sts p a
  start : ∀ (q : Nat) (b : Info), X.l[q]? = some b → (sts 0).heap.get (X.base + b.i) = none
section
variable {X : DCtx} {frs : Nat → Fr} {sts : Nat → St} (h : Run0 X frs sts)
include h
theorem Run0.id_inj {p q : Nat} {a b : Info} (ha : X.l[p]? = some a) (hb : X.l[q]? = some b) (e : X.base + a.i = X.base + b.i) : p = q := h.plan.nodup p q a b ha hb (by omega)
theorem Run0.free : ∀ (p q : Nat) (b : Info), p ≤ q → X.l[q]? = some b → b.cls = 2 → (sts p).heap.get (X.base + b.i) = none
  | 0, q, b, _, hb, _ => h.start q b hb
  | p + 1, q, b, hpq, hb, hc => by
    have hlen := (List.getElem?_eq_some_iff.1 hb).1
    have ha : X.l[p]? = some X.l[p] := List.getElem?_eq_getElem (by omega)
    have ih := Run0.free p q b (by omega) hb hc
    cases h.steps p _ ha with
    | skip hg hf hs => rw [hs]; exact ih
    | pure hg hc' v s' he hf hs => rw [hs]; exact ih
    | read hg hc' v s' he hq hf hs again => rw [hs]; exact ih
    | make hg hc' r mk he hf hs =>
      rw [hs]
      show ((sts p).heap.set _ _).get _ = none
      rw [Hp.get_set, if_neg]
      · exact ih
      · intro e
        have := h.id_inj hb ha e
        omega
    | eff hg hc' r v s' df he ha' hf hs free => exact free q b (by omega) hb hc
theorem Run0.get_stay {p : Nat} {a : Info} (ha : X.l[p]? = some a) {t : Nat} (ht : a.op.dst ≠ some t) : (frs (p + 1)).get X.n t = (frs p).get X.n t := by
  cases h.steps p a ha with
  | skip hg hf hs => rw [hf, Fr.get_put_other _ _ _ ht]
  | pure hg hc' v s' he hf hs => rw [hf, Fr.get_put_other _ _ _ ht]
  | read hg hc' v s' he hq hf hs again => rw [hf, Fr.get_put_other _ _ _ ht]
  | make hg hc' r mk he hf hs => rw [hf, Fr.get_put_other _ _ _ ht]
  | eff hg hc' r v s' df he ha' hf hs free => rw [hf, Fr.get_put_other _ _ _ ht, Fr.get_more]
theorem Run0.get_from {t : Nat} : ∀ (d p : Nat), p + d ≤ X.l.length → (∀ q b, p ≤ q → q < p + d → X.l[q]? = some b → b.op.dst ≠ some t) → (frs (p + d)).get X.n t = (frs p).get X.n t
  | 0, p, _, _ => rfl
  | d + 1, p, hl, hn => by
    have ha : X.l[p + d]? = some X.l[p + d] := List.getElem?_eq_getElem (by omega)
    rw [show p + (d + 1) = (p + d) + 1 from rfl, h.get_stay ha (hn _ _ (by omega) (by omega) ha)]
    exact Run0.get_from d p (by omega) fun q b h1 h2 => hn q b h1 (by omega)
theorem Run0.defers_from : ∀ (d p : Nat), p + d ≤ X.l.length → (∀ q b, p ≤ q → q < p + d → X.l[q]? = some b → ¬ Eff X frs q b) → (frs (p + d)).defers = (frs p).defers
  | 0, p, _, _ => rfl
  | d + 1, p, hl, hn => by
    have ha : X.l[p + d]? = some X.l[p + d] := List.getElem?_eq_getElem (by omega)
    rw [show p + (d + 1) = (p + d) + 1 from rfl]
    rw [← Run0.defers_from d p (by omega) fun q b h1 h2 => hn q b h1 (by omega)]
    cases h.steps _ _ ha with
    | skip hg hf hs => rw [hf, Fr.defers_put]
    | pure hg hc' v s' he hf hs => rw [hf, Fr.defers_put]
    | read hg hc' v s' he hq hf hs again => rw [hf, Fr.defers_put]
    | make hg hc' r mk he hf hs => rw [hf, Fr.defers_put]
    | eff hg hc' r v s' df he ha' hf hs free => exact absurd ⟨hg, hc'⟩ (hn _ _ (by omega) (by omega) ha)
theorem Run0.advance : ∀ (d p : Nat), p + d ≤ X.l.length → (∀ q b, p ≤ q → q < p + d → X.l[q]? = some b → ¬ Eff X frs q b) →
    (sts (p + d)).next = (sts p).next ∧ (sts (p + d)).fams = (sts p).fams ∧ ∀ i,
      (∃ q b r mk, p ≤ q ∧ q < p + d ∧ X.l[q]? = some b ∧ MadeAt X frs q b r mk ∧ i = X.base + b.i ∧ (sts (p + d)).heap.get i = some r) ∨
      ((∀ q b r mk, p ≤ q → q < p + d → X.l[q]? = some b → MadeAt X frs q b r mk → i ≠ X.base + b.i) ∧ (sts (p + d)).heap.get i = (sts p).heap.get i)
  | 0, p, _, _ => ⟨rfl, rfl, fun i => .inr ⟨fun q b r mk h1 h2 => by omega, rfl⟩⟩
  | d + 1, p, hl, hn => by
    have ha : X.l[p + d]? = some X.l[p + d] := List.getElem?_eq_getElem (by omega)
    obtain ⟨i1, i2, i3⟩ := Run0.advance d p (by omega) fun q b h1 h2 => hn q b h1 (by omega)
    rw [show p + (d + 1) = (p + d) + 1 from rfl]
    have still : (∀ r mk, ¬ MadeAt X frs (p + d) X.l[p + d] r mk) → sts (p + d + 1) = sts (p + d) →
        (sts (p + d + 1)).next = (sts p).next ∧ (sts (p + d + 1)).fams = (sts p).fams ∧ ∀ i,
          (∃ q b r mk, p ≤ q ∧ q < p + d + 1 ∧ X.l[q]? = some b ∧ MadeAt X frs q b r mk ∧ i = X.base + b.i ∧ (sts (p + d + 1)).heap.get i = some r) ∨
          ((∀ q b r mk, p ≤ q → q < p + d + 1 → X.l[q]? = some b → MadeAt X frs q b r mk → i ≠ X.base + b.i) ∧ (sts (p + d + 1)).heap.get i = (sts p).heap.get i) := by
      intro hno hs
      rw [hs]
      refine ⟨i1, i2, fun i => ?_⟩
      rcases i3 i with ⟨q, b, r, mk, h1, h2, h3, h4, h5, h6⟩ | ⟨h1, h2⟩
      · exact .inl ⟨q, b, r, mk, h1, by omega, h3, h4, h5, h6⟩
      · refine .inr ⟨fun q b r mk g1 g2 g3 g4 => ?_, h2⟩
        by_cases e : q = p + d
        · subst e
          rw [ha] at g3
          cases g3
          exact absurd g4 (hno r mk)
        · exact h1 q b r mk g1 (by omega) g3 g4
    cases h.steps _ _ ha with
    | skip hg hf hs => exact still (fun r mk hm => by rw [hm.1] at hg; cases hg) hs
    | pure hg hc' v s' he hf hs => exact still (fun r mk hm => by rw [hm.2.1] at hc'; cases hc') hs
    | read hg hc' v s' he hq hf hs again => exact still (fun r mk hm => by rw [hm.2.1] at hc'; cases hc') hs
    | eff hg hc' r v s' df he ha' hf hs free => exact absurd ⟨hg, hc'⟩ (hn _ _ (by omega) (by omega) ha)
    | make hg hc' r mk he hf hs =>
      have hmade : MadeAt X frs (p + d) X.l[p + d] r mk := ⟨hg, hc', he⟩
      rw [hs]
      refine ⟨i1, i2, fun i => ?_⟩
      show (∃ q b r' mk', p ≤ q ∧ q < p + d + 1 ∧ X.l[q]? = some b ∧ MadeAt X frs q b r' mk' ∧ i = X.base + b.i ∧ ((sts (p + d)).heap.set (X.base + X.l[p + d].i) r).get i = some r') ∨
        (_ ∧ ((sts (p + d)).heap.set (X.base + X.l[p + d].i) r).get i = (sts p).heap.get i)
      rw [Hp.get_set]
      by_cases e : i = X.base + X.l[p + d].i
      · rw [if_pos e]
        exact .inl ⟨p + d, _, r, mk, by omega, by omega, ha, hmade, e, rfl⟩
      · rw [if_neg e]
        rcases i3 i with ⟨q, b, r', mk', h1, h2, h3, h4, h5, h6⟩ | ⟨h1, h2⟩
        · exact .inl ⟨q, b, r', mk', h1, by omega, h3, h4, h5, h6⟩
        · refine .inr ⟨fun q b r' mk' g1 g2 g3 g4 => ?_, h2⟩
          by_cases e2 : q = p + d
          · subst e2
            rw [ha] at g3
            cases g3
            exact e
          · exact h1 q b r' mk' g1 (by omega) g3 g4
end
structure Inv (mk0 : Option Nat) (P : Program) (B : Nat) (X : DCtx) (frs : Nat → Fr) (sts : Nat → St) (nt : Nat) (ρ0 : Ren) (s0 : St) (w0 : World) (D : Nat → Prop) (a : Act) (w : World) (ρ : Ren) (k : Nat) (xs : List (Nat × Row)) : Prop where
  hk : k ≤ X.l.length
  last : k = 0 ∨ ∃ (e : Nat) (b : Info), k = e + 1 ∧ X.l[e]? = some b ∧ Eff X frs e b
  effIn : ∀ (e : Nat) (b : Info), e < k → X.l[e]? = some b → Eff X frs e b → D b.i
  effOut : ∀ (e : Nat) (b : Info), k ≤ e → X.l[e]? = some b → Eff X frs e b → ¬ D b.i
  madeIn : ∀ (q : Nat) (b : Info) (r : Row) (mk : Nat → Value), q < k → X.l[q]? = some b → MadeAt X frs q b r mk → D b.i
  go : Goes P B ρ0 s0 w0 ρ (addRows xs (sts k)) w
  nextGe : ∀ (q : Nat) (b : Info), X.l[q]? = some b → X.base + b.i < (sts k).next
  xsIn : ∀ (q : Nat) (b : Info) (r : Row) (mk : Nat → Value), k ≤ q → X.l[q]? = some b → MadeAt X frs q b r mk → D b.i → xs.lookup (X.base + b.i) = some r
  xsOf : ∀ (i : Nat) (r : Row), xs.lookup i = some r → ∃ (q : Nat) (b : Info) (mk : Nat → Value), k ≤ q ∧ X.l[q]? = some b ∧ MadeAt X frs q b r mk ∧ D b.i ∧ i = X.base + b.i
  unused : ∀ (q : Nat) (b : Info), X.l[q]? = some b → ¬ D b.i → ρ (X.base + b.i) = none
  tmps : ∀ (t : Nat) (v : Value) (p : Nat), p ≤ X.l.length → (∀ (q : Nat) (b : Info), q < p → X.l[q]? = some b → b.op.dst = some t → D b.i) → (∀ (q : Nat) (b : Info), p ≤ q → X.l[q]? = some b → b.op.dst = some t → ¬ D b.i) → (frs p).get X.n t = some v → VR ρ v (a.tmps.getD t undef)
  size : nt ≤ a.tmps.size
  defers : DefR ρ (addRows xs (sts k)) w (frs k).defers a.defers
  nomark : MarksGe mk0 a
section
variable {mk0 : Option Nat} {P : Program} {B : Nat} {X : DCtx} {frs : Nat → Fr} {sts : Nat → St} {nt : Nat} {ρ0 : Ren} {s0 : St} {w0 : World} {D : Nat → Prop} {a : Act} {w : World} {ρ : Ren} {k : Nat} {xs : List (Nat × Row)}
theorem Inv.sub (hR : Run0 X frs sts) (hI : Inv mk0 P B X frs sts nt ρ0 s0 w0 D a w ρ k xs) (hft : fixedTop ≤ X.base) {d : Nat} (hd : k + d ≤ X.l.length) (hne : ∀ q b, k ≤ q → q < k + d → X.l[q]? = some b → ¬ Eff X frs q b)
    (hmd : ∀ q b r mk, k ≤ q → q < k + d → X.l[q]? = some b → MadeAt X frs q b r mk → D b.i) : SubS (sts (k + d)) (addRows xs (sts k)) := by
  obtain ⟨h1, h2, h3⟩ := hR.advance d k hd hne
  refine ⟨by rw [addRows_next, h1], by rw [addRows_fams, h2], fun i => ?_⟩
  rw [addRows_get]
  cases hx : xs.lookup i with
  | some r =>
    obtain ⟨q, b, mk, g1, g2, g3, g4, g5⟩ := hI.xsOf i r hx
    by_cases hq : q < k + d
    · left
      rcases h3 i with ⟨q', b', r', mk', e1, e2, e3, e4, e5, e6⟩ | ⟨e1, e2⟩
      · have := hR.id_inj g2 e3 (g5 ▸ e5)
        subst this
        rw [g2] at e3
        cases e3
        rw [e6]
        have := g3.2.2
        rw [e4.2.2] at this
        cases this
        rfl
      · exact absurd g5 (e1 q b r mk g1 hq g2 g3)
    · right
      refine ⟨by rw [g5]; exact hR.free (k + d) q b (by omega) g2 g3.2.1, by omega, ?_⟩
      obtain ⟨cs, e, rfl⟩ := aOp_row g3.2.2
      exact ⟨cs, e, rfl⟩
  | none =>
    left
    rcases h3 i with ⟨q', b', r', mk', e1, e2, e3, e4, e5, e6⟩ | ⟨e1, e2⟩
    · have := hI.xsIn q' b' r' mk' e1 e3 e4 (hmd q' b' r' mk' e1 e2 e3 e4)
      rw [← e5, hx] at this
      cases this
    · exact e2.symm
theorem Inv.hr (hI : Inv mk0 P B X frs sts nt ρ0 s0 w0 D a w ρ k xs) : HR P B ρ (addRows xs (sts k)) w := hI.go.hr
structure Now (X : DCtx) (frs : Nat → Fr) (D : Nat → Prop) (p : Nat) (b : Info) : Prop where
  at_ : X.l[p]? = some b
  out : ¬ D b.i
  before : ∀ j, hasBit b.mask j = true → D j
  behind : ∀ (q : Nat) (c : Info), X.l[q]? = some c → D c.i → hasBit c.mask b.i = false
theorem Now.mk' (hP : PlanOk X.all X.l) (hD : ∀ i o, D i → X.all[i]? = some o → ∀ j, Binds o j → D j) {p : Nat} {b : Info} (hb : X.l[p]? = some b) (ho : ¬ D b.i) (hr : ∀ j, Binds b.op j → D j) : Now X frs D p b := by
  refine ⟨hb, ho, fun j hj => (hP.info p b hb).mask D hD b.op (hP.info p b hb).op hr j hj, fun q c hc hDc => ?_⟩
  rw [← Bool.not_eq_true]
  intro hbit
  have hi := hP.info q c hc
  exact ho (hi.mask D hD c.op hi.op (hD c.i c.op hDc hi.op) b.i hbit)
theorem Inv.names (hR : Run0 X frs sts) (hI : Inv mk0 P B X frs sts nt ρ0 s0 w0 D a w ρ k xs) {p : Nat} {b : Info} (hN : Now X frs D p b) {t : Nat} {v : Value} (ht : Names X.all b.op t) (hv : (frs p).get X.n t = some v) : VR ρ v (a.tmps.getD t undef) := by
  have hlt := (List.getElem?_eq_some_iff.1 hN.at_).1
  refine hI.tmps t v p (by omega) (fun q c hq hc hd => ?_) (fun q c hq hc hd => ?_) hv
  · exact hN.before c.i (hR.plan.tmps hq hc hN.at_ (.inl ⟨hd, ht⟩))
  · by_cases e : q = p
    · subst e
      rw [hN.at_] at hc
      cases hc
      exact hN.out
    · intro hDc
      have := hR.plan.tmps (show p < q by omega) hN.at_ hc (.inr ⟨hd, ht⟩)
      rw [hN.behind q c hc hDc] at this
      cases this
theorem Inv.tmpsStep (hR : Run0 X frs sts) (hI : Inv mk0 P B X frs sts nt ρ0 s0 w0 D a w ρ k xs) {p : Nat} {b : Info} (hN : Now X frs D p b) {ρ' : Ren} (hle : ρ.le ρ') {v c : Value} {df : Option (FuncId × List Value)} {ds : List Deferred}
    (hf : frs (p + 1) = ((frs p).more df).put X.n b.op.dst v) (hv : VR ρ' v c) (hdst : dstOk nt b.op.dst = true) :
    ∀ (t : Nat) (u : Value) (p' : Nat), p' ≤ X.l.length → (∀ (q : Nat) (e : Info), q < p' → X.l[q]? = some e → e.op.dst = some t → (D e.i ∨ e.i = b.i)) → (∀ (q : Nat) (e : Info), p' ≤ q → X.l[q]? = some e → e.op.dst = some t → ¬ (D e.i ∨ e.i = b.i)) → (frs p').get X.n t = some u →
      VR ρ' u ((({ tmps := a.tmps, defers := ds ++ a.defers } : Act).put b.op.dst c).tmps.getD t undef) := by
  intro t u p' hp' h1 h2 hu
  have hlt := (List.getElem?_eq_some_iff.1 hN.at_).1
  rw [getD_put]
  by_cases ht : b.op.dst = some t
  ·
    have hpp : p < p' := by
      rcases Nat.lt_or_ge p p' with h | h
      · exact h
      · exact absurd (.inr rfl) (h2 p b h hN.at_ ht)
    have hbt : t < a.tmps.size := by
      rw [ht] at hdst
      exact Nat.lt_of_lt_of_le (ltN_some hdst) hI.size
    rw [if_pos ⟨ht, hbt⟩]
    have e := hR.get_from (t := t) (p' - (p + 1)) (p + 1) (by omega) (fun q e g1 g2 g3 g4 => by
      rcases h1 q e (by omega) g3 g4 with h5 | h5
      · have := hR.plan.tmps (show p < q by omega) hN.at_ g3 (t := t) (.inl ⟨ht, .inl g4⟩)
        rw [hN.behind q e g3 h5] at this
        cases this
      · have := hR.plan.nodup q p e b g3 hN.at_ h5
        omega)
    rw [show p + 1 + (p' - (p + 1)) = p' by omega] at e
    rw [e, hf, ht, Fr.get_put_some, if_pos rfl] at hu
    cases hu
    exact hv
  · rw [if_neg (fun hh => ht hh.1)]
    refine (hI.tmps t u p' hp' (fun q e g1 g2 g3 => ?_) (fun q e g1 g2 g3 hh => h2 q e g1 g2 g3 (.inl hh)) hu).mono hle
    rcases h1 q e g1 g2 g3 with h5 | h5
    · exact h5
    · have := hR.plan.nodup q p e b g2 hN.at_ h5
      subst this
      rw [hN.at_] at g2
      cases g2
      exact absurd g3 ht
theorem Inv.quiet (hR : Run0 X frs sts) (hI : Inv mk0 P B X frs sts nt ρ0 s0 w0 D a w ρ k xs) {p : Nat} {b : Info} (hN : Now X frs D p b) {ρ' : Ren} {w' : World} (hgo : Goes P B ρ (addRows xs (sts k)) w ρ' (addRows xs (sts k)) w') {v c : Value}
    (hf : frs (p + 1) = (frs p).put X.n b.op.dst v) (hv : VR ρ' v c) (hdst : dstOk nt b.op.dst = true) (hne : ¬ Eff X frs p b) (hnm : ∀ r mk, ¬ MadeAt X frs p b r mk) :
    Inv mk0 P B X frs sts nt ρ0 s0 w0 (fun j => D j ∨ j = b.i) (a.put b.op.dst c) w' ρ' k xs := by
  have same : ∀ {q e}, X.l[q]? = some e → e.i = b.i → q = p ∧ e = b := by
    intro q e hq he
    have := hR.plan.nodup q p e b hq hN.at_ he
    subst this
    rw [hN.at_] at hq
    exact ⟨rfl, (Option.some.inj hq).symm⟩
  refine ⟨hI.hk, hI.last, fun e c h1 h2 h3 => .inl (hI.effIn e c h1 h2 h3), fun e c h1 h2 h3 h4 => ?_, fun q c r mk h1 h2 h3 => .inl (hI.madeIn q c r mk h1 h2 h3), hI.go.trans hgo, hI.nextGe, fun q c r mk h1 h2 h3 h4 => ?_, fun i r h1 => ?_,
    fun q c h1 h2 => ?_, ?_, by rw [size_put]; exact hI.size, by rw [defers_put]; exact hI.defers.goes hgo, fun d hd => hI.nomark d (by rw [defers_put] at hd; exact hd)⟩
  · rcases h4 with h4 | h4
    · exact hI.effOut e c h1 h2 h3 h4
    · obtain ⟨rfl, rfl⟩ := same h2 h4
      exact hne h3
  · rcases h4 with h4 | h4
    · exact hI.xsIn q c r mk h1 h2 h3 h4
    · obtain ⟨rfl, rfl⟩ := same h2 h4
      exact absurd h3 (hnm r mk)
  · obtain ⟨q, c, mk, g1, g2, g3, g4, g5⟩ := hI.xsOf i r h1
    exact ⟨q, c, mk, g1, g2, g3, .inl g4, g5⟩
  · have : X.base + c.i < (addRows xs (sts k)).next := by rw [addRows_next]; exact hI.nextGe q c h1
    rw [hgo.old _ this]
    exact hI.unused q c h1 fun hh => h2 (.inl hh)
  · exact Inv.tmpsStep hR hI hN (ds := []) (df := none) hgo.le hf hv hdst
end
end
end Go.Ax
namespace Go.Ax
variable [Lo]
open Go
noncomputable section
section
variable {mk0 : Option Nat} {P : Program} {B : Nat} {X : DCtx} {frs : Nat → Fr} {sts : Nat → St} {nt : Nat} {ρ0 : Ren} {s0 : St} {w0 : World} {D : Nat → Prop} {a : Act} {w : World} {ρ : Ren} {k : Nat} {xs : List (Nat × Row)}
theorem DefR.world {ρ ρ' : Ren} {s s' : St} {w w' : World} {l : List (FuncId × List Value)} {ds : List Deferred} (hle : ρ.le ρ') (hm : ∀ r, MarkOk ρ s w r → MarkOk ρ' s' w' r) (h : DefR ρ s w l ds) : DefR ρ' s' w' l ds := by
  induction h with
  | nil => exact .nil
  | cons ht ha hv _ ih => exact .cons ht ha (hv.mono hle) ih
  | mark hmk hlt _ ih => exact .mark (hm _ hmk) hlt ih
theorem Inv.step (hK : CfgOk X.C P) (hc : CallOk P X.call) (hy : YieldOk P X.yield) {ro : Option Nat} (hro : X.rd = ro.isSome) {m : Nat} {ops : Array Oper} (hops : ops.toList = X.all) (hok : okOpers nt X.all = true) {Q : Exit → Act → World → Prop} (hR : Run0 X frs sts) (hft : fixedTop ≤ X.base) (hbs : s0.next = X.base)
    (hI : Inv mk0 P B X frs sts nt ρ0 s0 w0 D a w ρ k xs) {p : Nat} {b : Info} (hN : Now X frs D p b) {K : Act → World → Prop}
    (hK' : ∀ a' w' ρ' k' xs', Inv mk0 P B X frs sts nt ρ0 s0 w0 (fun j => D j ∨ j = b.i) a' w' ρ' k' xs' → K a' w') : wpOpIn (Fro ro) m P ops Q b.i K a w := by
  have hlt := (List.getElem?_eq_some_iff.1 hN.at_).1
  have hinf := hR.plan.info p b hN.at_
  have ho : ops[b.i]? = some b.op := by
    have := hinf.op
    rw [← hops] at this
    simpa using this
  obtain ⟨hdst, hopn⟩ := okOper_some (okOpers_mem hok b.op (List.mem_of_getElem? hinf.op))
  have hnames : ∀ t v, Names X.all b.op t → (frs p).get X.n t = some v → VR ρ v (a.tmps.getD t undef) := fun t v ht hv => hI.names hR hN ht hv
  have he : EvR ρ (restr (opnds b.op.op) ((frs p).ev X.n)) a.eval := evR_restr hopn fun t v ht hv => hnames t v (.inr (.inl ht)) hv
  have hwant : ∀ g, guardOk X.n X.all (frs p) b.op.guard = some g → Region.wanted b.op (yielded ops a.tmps) = g := by
    intro g hg
    rw [← hops] at hg
    refine wanted_eq hg fun j o' d b' v h1 h2 h3 h4 => hnames d v (.inr (.inr ⟨j, b', o', h1, ?_, h3⟩)) h4
    rw [← hops]
    simpa using h2
  have hcls : b.cls ≤ 3 := by
    rcases hinf.cls with h | h
    · rw [h]; exact cls_le _
    · omega
  have hr := hI.hr
  unfold wpOpIn
  simp only [ho]
  cases hR.steps p b hN.at_ with
  | skip hg hf hs =>
    rw [hwant _ hg]
    refine ⟨fun _ _ => trivial, ?_⟩
    exact hK' _ _ _ _ _ (Inv.quiet hR hI hN (Goes.refl hr) hf (.tuple .nil) hdst (fun h => by rw [h.1] at hg; cases hg) fun r mk h => by rw [h.1] at hg; cases hg)
  | pure hg hc0 v s' hev hf hs =>
    rw [hwant _ hg]
    have hcl : cls b.op.op = 0 := by
      rcases hinf.cls with h | h
      · rw [← h]; exact hc0
      · omega
    rw [← execOp_restr] at hev
    obtain ⟨v', h1, h2⟩ := (pure_indep hcl).use hev
    cases h1
    refine op_wp hK hc hy hr he (h2 (addRows xs (sts k))) (v := v) (s' := addRows xs (sts k)) (df := none) rfl ?_
    intro ρ' w' c ds hgo hv hn
    cases hn
    exact hK' _ _ _ _ _ (Inv.quiet hR hI hN hgo hf hv hdst (fun h => by have := h.2; omega) fun r mk h => by have := h.2.1; omega)
  | read hg hc1 v s' hev hq hf hs again =>
    rw [hwant _ hg]
    have hcl : cls b.op.op = 1 := by
      rcases hinf.cls with h | h
      · rw [← h]; exact hc1
      · omega
    have hsub : ∃ s1, SubS s1 (addRows xs (sts k)) ∧ execOp X.C (restr (opnds b.op.op) ((frs p).ev X.n)) s1 b.op.op = some (.val v s1) := by
      rcases Nat.lt_or_ge p k with hpk | hpk
      · rcases hI.last with h0 | ⟨e, c, h1, h2, h3⟩
        · omega
        · have hep : p < e := by
            rcases Nat.lt_or_ge p e with h | h
            · exact h
            · have : p = e := by omega
              subst this
              rw [hN.at_] at h2
              cases h2
              have := h3.2
              omega
          obtain ⟨s'', g1, g2⟩ := again e c hep h2 h3 (hN.behind e c h2 (hI.effIn e c (by omega) h2 h3))
          rw [← h1] at g1 g2
          have := read_same hcl g1 g2
          subst this
          refine ⟨sts k, ?_, by rw [execOp_restr]; exact g1⟩
          have := hI.sub hR hft (d := 0) hI.hk (fun q b h1 h2 => by omega) (fun q b r mk h1 h2 => by omega)
          exact this
      · have hne : ∀ q c, k ≤ q → q < k + (p - k) → X.l[q]? = some c → ¬ Eff X frs q c := fun q c h1 h2 h3 h4 =>
          hI.effOut q c h1 h3 h4 (hN.before c.i (hR.plan.mem (show q < p by omega) h3 hN.at_ (by have := h4.2; omega) (by rw [hc1])))
        have hmd : ∀ q c r mk, k ≤ q → q < k + (p - k) → X.l[q]? = some c → MadeAt X frs q c r mk → D c.i := fun q c r mk h1 h2 h3 h4 =>
          hN.before c.i (hR.plan.mem (show q < p by omega) h3 hN.at_ (by have := h4.2.1; omega) (by rw [hc1]))
        have h1 := hI.sub hR hft (d := p - k) (by omega) hne hmd
        rw [show k + (p - k) = p by omega] at h1
        have := read_same hcl hev hq
        subst this
        exact ⟨sts p, h1, by rw [execOp_restr]; exact hev⟩
    obtain ⟨s1, hs1, hev1⟩ := hsub
    refine op_wp hK hc hy (hr.sub hs1) he hev1 (v := v) (s' := s1) (df := none) rfl ?_
    intro ρ' w' c ds hgo hv hn
    cases hn
    have hext := Goes.extend (S' := addRows xs (sts k)) hs1 hr hgo hs1.next.symm hs1.fams.symm (fun i _ => rfl) (fun i hi => by
      rcases hs1.heap i with h | ⟨h, _, cs, e, h2⟩
      · exact h
      · exact absurd ⟨h, by rw [h2]; simp⟩ hi)
    exact hK' _ _ _ _ _ (Inv.quiet hR hI hN hext hf hv hdst (fun h => by have := h.2; omega) fun r mk h => by have := h.2.1; omega)
  | make hg hc2 r mk hev hf hs =>
    rw [hwant _ hg]
    rw [← aOp_restr] at hev
    obtain ⟨cs, e, arr, c, hm⟩ := aOp_sound (w := w) hK he hev
    rw [aOp_restr] at hev
    have hmade : MadeAt X frs p b r mk := ⟨hg, hc2, hev⟩
    have hpk : k ≤ p := by
      rcases Nat.lt_or_ge p k with h | h
      · exact absurd (hI.madeIn p b r mk h hN.at_ hmade) hN.out
      · exact h
    have hidn : X.base + b.i < (addRows xs (sts k)).next := by rw [addRows_next]; exact hI.nextGe p b hN.at_
    have hid : fixedTop ≤ X.base + b.i := by omega
    obtain ⟨k1, k2, k3, k4⟩ := Goes.keptRow hr hid hidn (hI.unused p b hN.at_ hN.out) (e := e) hm.cells
    have hsem : b.op.semAt (Fro ro).round a.eval = Go.execOp a.eval b.op := Oper.semAt_eq _ _ _ (aOp_noDefer hev)
    refine ⟨fun _ _ => trivial, ?_⟩
    rw [hsem, hm.run]
    have hval := hm.val (ρ.set (X.base + b.i) ⟨w.heap.size, 0, 0⟩) (X.base + b.i) hid (Ren.set_same _ _ _)
    have hrow := hm.row
    subst hrow
    have hsz : (w.alloc (.cells arr e)).heap.size = w.heap.size + 1 := by show (w.heap.push _).size = _; simp
    have same : ∀ {q f}, X.l[q]? = some f → f.i = b.i → q = p ∧ f = b := by
      intro q f hq he
      have := hR.plan.nodup q p f b hq hN.at_ he
      subst this
      rw [hN.at_] at hq
      exact ⟨rfl, (Option.some.inj hq).symm⟩
    refine hK' _ _ (ρ.set (X.base + b.i) ⟨w.heap.size, 0, 0⟩) k ((X.base + b.i, .row cs e 0) :: xs) ?_
    refine ⟨hI.hk, hI.last, fun e c h1 h2 h3 => .inl (hI.effIn e c h1 h2 h3), fun e c h1 h2 h3 h4 => ?_, fun q c r mk h1 h2 h3 => .inl (hI.madeIn q c r mk h1 h2 h3), ?_, hI.nextGe, fun q c r mk h1 h2 h3 h4 => ?_, fun i r h1 => ?_, fun q c h1 h2 => ?_, ?_, by rw [size_put]; exact hI.size, ?_, ?_⟩
    · rcases h4 with h4 | h4
      · exact hI.effOut e c h1 h2 h3 h4
      · obtain ⟨rfl, rfl⟩ := same h2 h4
        have := h3.2
        omega
    · refine ⟨Ren.le_trans hI.go.le k1, k2, hI.go.os, hI.go.tape, hI.go.output, by rw [hsz]; have := hI.go.grow; omega, ?_, fun x hx hno => ?_, fun x hx => ?_, fun i hi => ?_⟩
      · have := hI.go.next
        rw [addRows_next] at this ⊢
        exact this
      · rw [k3 x (Nat.lt_of_lt_of_le hx hI.go.grow)]
        exact hI.go.frame x hx hno
      · rcases k4 x hx with h | h
        · exact hI.go.own x h
        · exact .inr (Nat.le_trans hI.go.grow h)
      · rw [Ren.set_other]
        · exact hI.go.old i hi
        · omega
    · by_cases e0 : c.i = b.i
      · obtain ⟨rfl, rfl⟩ := same h2 e0
        have := h3.2.2
        rw [hev] at this
        cases this
        simp [List.lookup]
      · have : (X.base + c.i == X.base + b.i) = false := by simp; omega
        simp only [List.lookup, this]
        rcases h4 with h4 | h4
        · exact hI.xsIn q c r mk h1 h2 h3 h4
        · exact absurd h4 e0
    · by_cases e0 : i = X.base + b.i
      · subst e0
        simp [List.lookup] at h1
        subst h1
        exact ⟨p, b, mk, hpk, hN.at_, hmade, .inr rfl, rfl⟩
      · have : (i == X.base + b.i) = false := by simpa using e0
        simp only [List.lookup, this] at h1
        obtain ⟨q, c, mk', g1, g2, g3, g4, g5⟩ := hI.xsOf i r h1
        exact ⟨q, c, mk', g1, g2, g3, .inl g4, g5⟩
    · rw [Ren.set_other]
      · exact hI.unused q c h1 fun hh => h2 (.inl hh)
      · intro he
        exact h2 (.inr (by omega))
    · exact Inv.tmpsStep hR hI hN (ds := []) (df := none) k1 hf hval hdst
    · rw [defers_put]
      refine hI.defers.world k1 ?_
      rintro r ⟨h1, h2, h3⟩
      refine ⟨by rw [hsz]; omega, fun hh => ?_, by rw [k3 r h1]; exact h3⟩
      rcases k4 r hh with h | h
      · exact h2 h
      · omega
    · exact fun d hd => hI.nomark d (by rw [defers_put] at hd; exact hd)
  | eff hg hc3 r v s' df hev haft hf hs free =>
    rw [hwant _ hg]
    have hb3 : b.cls = 3 := by omega
    have heff : Eff X frs p b := ⟨hg, hc3⟩
    have hpk : k ≤ p := by
      rcases Nat.lt_or_ge p k with h | h
      · exact absurd (hI.effIn p b h hN.at_ heff) hN.out
      · exact h
    have hne : ∀ q c, k ≤ q → q < k + (p - k) → X.l[q]? = some c → ¬ Eff X frs q c := fun q c h1 h2 h3 h4 =>
      hI.effOut q c h1 h3 h4 (hN.before c.i (hR.plan.mem (show q < p by omega) h3 hN.at_ (by have := h4.2; omega) (by rw [hb3])))
    have hmd : ∀ q c r mk, k ≤ q → q < k + (p - k) → X.l[q]? = some c → MadeAt X frs q c r mk → D c.i := fun q c r mk h1 h2 h3 h4 =>
      hN.before c.i (hR.plan.mem (show q < p by omega) h3 hN.at_ (by have := h4.2.1; omega) (by rw [hb3]))
    have hs1 := hI.sub hR hft (d := p - k) (by omega) hne hmd
    have hadv := (hR.advance (p - k) k (by omega) hne).2.2
    have hdef := hR.defers_from (p - k) k (by omega) hne
    rw [show k + (p - k) = p by omega] at hs1 hadv hdef
    rw [← execOp_restr] at hev
    rw [hro] at haft
    refine op_wp hK hc hy (hr.sub hs1) he hev haft ?_
    intro ρ' w' c ds hgo hv hn
    rw [← hs] at hgo
    let keep : Nat → Bool := fun i => @decide (∃ q c, p + 1 ≤ q ∧ X.l[q]? = some c ∧ i = X.base + c.i) (Classical.propDecidable _)
    have hkeep : ∀ i, keep i = true ↔ ∃ q c, p + 1 ≤ q ∧ X.l[q]? = some c ∧ i = X.base + c.i := fun i => by
      show @decide _ (Classical.propDecidable _) = true ↔ _
      simp
    let xs' := xs.filter fun x => keep x.1
    have hlook : ∀ i, xs'.lookup i = if keep i then xs.lookup i else none := fun i => lookup_filter keep xs i
    have same : ∀ {q f}, X.l[q]? = some f → f.i = b.i → q = p ∧ f = b := by
      intro q f hq he
      have := hR.plan.nodup q p f b hq hN.at_ he
      subst this
      rw [hN.at_] at hq
      exact ⟨rfl, (Option.some.inj hq).symm⟩
    have hext := Goes.extend (S' := addRows xs' (sts (p + 1))) hs1 hr hgo (by rw [addRows_next]) (by rw [addRows_fams]) (fun i hx => by
      rw [addRows_get, addRows_get, hlook]
      obtain ⟨hx1, hx2⟩ := hx
      rw [addRows_get] at hx2
      cases hl : xs.lookup i with
      | some r' =>
        obtain ⟨q, c', mk, g1, g2, g3, g4, g5⟩ := hI.xsOf i r' hl
        have hq : p + 1 ≤ q := by
          rcases Nat.lt_or_ge q (p + 1) with h | h
          · exfalso
            by_cases e : q = p
            · subst e
              rw [hN.at_] at g2
              cases g2
              have := g3.2.1
              omega
            · rcases hadv i with ⟨q', b', r2, mk', e1, e2, e3, e4, e5, e6⟩ | ⟨e1, e2⟩
              · rw [hx1] at e6; cases e6
              · exact e1 q c' r' mk g1 (by omega) g2 g3 g5
          · exact h
        rw [(hkeep i).2 ⟨q, c', hq, g2, g5⟩]
        rfl
      | none =>
        rw [hl] at hx2
        exfalso
        rcases hadv i with ⟨q', b', r2, mk', e1, e2, e3, e4, e5, e6⟩ | ⟨e1, e2⟩
        · rw [hx1] at e6; cases e6
        · rw [hx1] at e2; exact hx2 e2.symm) (fun i hx => by
      rw [addRows_get, hlook]
      cases hkp : keep i with
      | false => rfl
      | true =>
        cases hl : xs.lookup i with
        | none => rfl
        | some r' =>
          exfalso
          obtain ⟨q, c', h1, h2, h3⟩ := (hkeep i).1 hkp
          obtain ⟨q2, c2, mk, g1, g2, g3, g4, g5⟩ := hI.xsOf i r' hl
          have := hR.id_inj h2 g2 (h3 ▸ g5)
          subst this
          rw [h2] at g2
          cases g2
          refine hx ⟨by rw [h3]; exact hR.free p q c' (by omega) h2 g3.2.1, ?_⟩
          rw [addRows_get, hl]
          simp)
    refine hK' _ _ ρ' (p + 1) xs' ?_
    refine ⟨by omega, .inr ⟨p, b, rfl, hN.at_, heff⟩, fun e c' h1 h2 h3 => ?_, fun e c' h1 h2 h3 h4 => ?_, fun q c' r mk h1 h2 h3 => ?_, hI.go.trans hext, fun q c' h1 => ?_, fun q c' r mk h1 h2 h3 h4 => ?_, fun i r h1 => ?_, fun q c' h1 h2 => ?_, ?_, by rw [size_put]; exact hI.size, ?_, ?_⟩
    · by_cases e0 : e = p
      · subst e0
        rw [hN.at_] at h2
        cases h2
        exact .inr rfl
      · rcases Nat.lt_or_ge e k with h | h
        · exact .inl (hI.effIn e c' h h2 h3)
        · exact absurd h3 (hne e c' h (by omega) h2)
    · rcases h4 with h4 | h4
      · exact hI.effOut e c' (by omega) h2 h3 h4
      · obtain ⟨rfl, rfl⟩ := same h2 h4
        omega
    · by_cases e0 : q = p
      · subst e0
        rw [hN.at_] at h2
        cases h2
        have := h3.2.1
        omega
      · rcases Nat.lt_or_ge q k with h | h
        · exact .inl (hI.madeIn q c' r mk h h2 h3)
        · exact .inl (hmd q c' r mk h (by omega) h2 h3)
    · have h5 := hI.nextGe q c' h1
      have h6 := hgo.next
      have h7 := hs1.next
      rw [addRows_next] at h7
      omega
    · rw [hlook, (hkeep _).2 ⟨q, c', h1, h2, rfl⟩]
      rcases h4 with h4 | h4
      · exact hI.xsIn q c' r mk (by omega) h2 h3 h4
      · obtain ⟨rfl, rfl⟩ := same h2 h4
        omega
    · rw [hlook] at h1
      cases hkp : keep i with
      | false => rw [hkp] at h1; cases h1
      | true =>
        rw [hkp] at h1
        simp only [if_true] at h1
        obtain ⟨q, c', h3, h4, h5⟩ := (hkeep i).1 hkp
        obtain ⟨q2, c2, mk, g1, g2, g3, g4, g5⟩ := hI.xsOf i r h1
        have := hR.id_inj h4 g2 (h5 ▸ g5)
        subst this
        exact ⟨q, c2, mk, h3, g2, g3, .inl g4, g5⟩
    · have : X.base + c'.i < (addRows xs (sts k)).next := by rw [addRows_next]; exact hI.nextGe q c' h1
      rw [hext.old _ this]
      exact hI.unused q c' h1 fun hh => h2 (.inl hh)
    · exact Inv.tmpsStep hR hI hN hgo.le hf hv hdst
    · rw [defers_put, hf, Fr.defers_put]
      show DefR ρ' _ w' (moreL df (frs p).defers) _
      rw [hdef]
      exact (hI.defers.goes hext).more hn
    · intro d hd r hr
      rw [defers_put] at hd
      rcases List.mem_append.1 hd with hd | hd
      · exact absurd hr (hn.fn d hd r)
      · exact hI.nomark d hd r hr
end
end
end Go.Ax
namespace Go.Ax
variable [Lo]
open Go
noncomputable section
theorem countP_lt {α : Type} (p q : α → Bool) : ∀ (l : List α), (∀ x ∈ l, q x = true → p x = true) → (∃ x ∈ l, p x = true ∧ q x = false) → l.countP q < l.countP p
  | [], _, h => by obtain ⟨x, hx, _⟩ := h; cases hx
  | a :: l, h1, h2 => by
    have hle : l.countP q ≤ l.countP p := List.countP_mono_left fun x hx => h1 x (by simp [hx])
    by_cases hpa : p a = true ∧ q a = false
    · rw [List.countP_cons_of_pos hpa.1, List.countP_cons_of_neg (by simp [hpa.2])]
      omega
    · have hrest : ∃ x ∈ l, p x = true ∧ q x = false := by
        obtain ⟨x, hx, hh⟩ := h2
        rcases List.mem_cons.1 hx with rfl | hx
        · exact absurd hh hpa
        · exact ⟨x, hx, hh⟩
      have ih := countP_lt p q l (fun x hx => h1 x (by simp [hx])) hrest
      by_cases hq : q a = true
      · rw [List.countP_cons_of_pos hq, List.countP_cons_of_pos (h1 a (by simp) hq)]; omega
      · rw [List.countP_cons_of_neg (by simpa using hq)]
        by_cases hp : p a = true
        · rw [List.countP_cons_of_pos hp]; omega
        · rw [List.countP_cons_of_neg (by simpa using hp)]; exact ih
section
variable {P : Program} {B : Nat} {C : Cfg}
theorem MarkOk.same {ρ : Ren} {s S : St} {w : World} (h : SameS s S) {r : Nat} (hm : MarkOk ρ s w r) : MarkOk ρ S w r :=
  ⟨hm.1, fun ho => hm.2.1 (ho.sub h.symm.sub), hm.2.2⟩
theorem draw_any (hK : CfgOk C P) {call : CallT} {yield : YieldT} (hc : CallOk P call) (hy : YieldOk P yield) (hQ : QuietOk C call) {ro : Option Nat} {mk : Option Nat} {m n nt : Nat} {ops : Array Oper} (hok : okOpers nt ops.toList = true)
    {order : List Nat} {Q : Exit → Act → World → Prop} {fr fr' : Fr} {s s' : St} {ρ : Ren} {a : Act} {w : World} (h : execDraw C call yield ro.isSome n ops.toList order fr s = some (fr', s'))
    (hr : HR P B ρ s w) (hf : FrR mk n nt ρ s w fr a) (hq : ∀ ρ' w' a', Goes P B ρ s w ρ' s' w' → FrR mk n nt ρ' s' w' fr' a' → Q .normal a' w') : wpAnyIn (Fro ro) m P .any ops Q ops.size (Array.replicate ops.size false) a w.drew := by
  unfold execDraw at h
  obtain ⟨l, hpl, h⟩ := obind_some.1 h
  have hplan := planOf_ok hpl
  obtain ⟨frs, sts, f0, t0, f1, t1, hsteps, _⟩ := drawL_trace C call yield ro.isSome n ops.toList s.next hQ l true [] fr _ fr' s' h (fun _ x hx => by cases hx)
  have hN : lenL ops.toList = ops.size := by rw [lenL_eq]; simp
  let X : DCtx := ⟨C, call, yield, ro.isSome, n, ops.toList, s.next, l⟩
  have hlow : ∀ {p : Nat} {b : Info}, l[p]? = some b → b.i < ops.size := by
    intro p b hb
    have := (List.getElem?_eq_some_iff.1 (hplan.info p b hb).op).1
    simpa using this
  have hR : Run0 X frs sts := by
    refine ⟨hplan, hsteps, fun q b hb => ?_⟩
    rw [t0]
    show s.heap.get (s.next + b.i) = none
    cases hg : s.heap.get (s.next + b.i) with
    | none => rfl
    | some r => have := hr.heap_dom _ r hg; omega
  have hclosed : ∀ {listed : Array Bool}, (∀ j, listed.getD j false = true → ∀ o, ops.toList[j]? = some o → ∀ i, Binds o i → listed.getD i false = true) →
      ∀ i o, (fun j => listed.getD j false = true) i → X.all[i]? = some o → ∀ j, Binds o j → (fun j => listed.getD j false = true) j := fun h i o hi ho j hj => h i hi o ho j hj
  have key : ∀ (fuel : Nat) (listed : Array Bool) (a : Act) (w' : World), listed.size = ops.size → (List.range ops.size).countP (fun i => !listed.getD i false) ≤ fuel →
      (∀ j, listed.getD j false = true → ∀ o, ops.toList[j]? = some o → ∀ i, Binds o i → listed.getD i false = true) →
      (∃ ρ' k xs, Inv mk P B X frs sts nt ρ s w (fun j => listed.getD j false = true) a w' ρ' k xs) → wpAnyIn (Fro ro) m P .any ops Q fuel listed a w' := by
    have hfin : ∀ (listed : Array Bool) (a : Act) (w' : World), (∀ j, j < ops.size → listed.getD j false = true) → (∃ ρ' k xs, Inv mk P B X frs sts nt ρ s w (fun j => listed.getD j false = true) a w' ρ' k xs) → Q .normal a w' := by
      rintro listed a w' hall ⟨ρ', k, xs, hI⟩
      have hkl := hI.hk
      have hlen : k + (l.length - k) = l.length := by have : k ≤ l.length := hkl; omega
      have hne : ∀ q b, k ≤ q → q < k + (l.length - k) → X.l[q]? = some b → ¬ Eff X frs q b := fun q b h1 _ h3 h4 => hI.effOut q b h1 h3 h4 (hall b.i (hlow h3))
      obtain ⟨a1, a2, a3⟩ := hR.advance (l.length - k) k (by rw [hlen]; exact Nat.le_refl _) hne
      have hd := hR.defers_from (l.length - k) k (by rw [hlen]; exact Nat.le_refl _) hne
      rw [hlen] at a1 a2 a3 hd
      have hsame : SameS (addRows xs (sts k)) s' := by
        rw [← t1]
        refine ⟨by rw [addRows_next, a1], by rw [addRows_fams, a2], fun i => ?_⟩
        rw [addRows_get]
        rcases a3 i with ⟨q, b, r, mk, e1, e2, e3, e4, e5, e6⟩ | ⟨e1, e2⟩
        · have := hI.xsIn q b r mk e1 e3 e4 (hall b.i (hlow e3))
          rw [e5, this, ← e5, e6]
        · rw [e2]
          cases hx : xs.lookup i with
          | none => rfl
          | some r =>
            obtain ⟨q, b, mk, g1, g2, g3, g4, g5⟩ := hI.xsOf i r hx
            have := (List.getElem?_eq_some_iff.1 g2).1
            exact absurd g5 (e1 q b r mk g1 this g2 g3)
      refine hq ρ' w' a (hI.go.same hsame) ⟨hI.size, fun t v hv => ?_, ?_, hI.nomark⟩
      · rw [← f1] at hv
        exact hI.tmps t v l.length (Nat.le_refl _) (fun q b _ hb _ => hall b.i (hlow hb)) (fun q b h1 hb _ => by have := (List.getElem?_eq_some_iff.1 hb).1; exact absurd this (Nat.not_lt.2 h1)) hv
      · rw [← f1, hd]
        exact hI.defers.world (Ren.le_refl _) fun r hm => hm.same hsame
    intro fuel
    induction fuel with
    | zero =>
      intro listed a w' hsz hcnt hcl hI
      have hall : ∀ j, j < ops.size → listed.getD j false = true := by
        intro j hj
        have := List.countP_eq_zero.1 (Nat.le_zero.1 hcnt) j (List.mem_range.2 hj)
        simpa using this
      refine ⟨?_, hfin listed a w' hall hI⟩
      rw [List.eq_nil_iff_forall_not_mem]
      intro j hj
      obtain ⟨h1, o, h2, _⟩ := mem_ready.1 hj
      have hjl := (Array.getElem?_eq_some_iff.1 h2).1
      have := hall j hjl
      rw [Array.getD_eq_getD_getElem?] at this h1
      cases hq : listed[j]? with
      | none => rw [hq] at this; cases this
      | some b => rw [hq] at this h1; simp at this h1; rw [this] at h1; cases h1
    | succ fuel ih =>
      intro listed a w' hsz hcnt hcl hI
      refine ⟨fun hnil => ?_, fun i hi => ?_⟩
      · refine hfin listed a w' ?_ hI
        intro j
        induction j using Nat.strongRecOn with
        | _ j ihj =>
          intro hj
          apply Classical.byContradiction
          intro hno
          obtain ⟨p, b, hb, rfl⟩ := hplan.full j (by simpa using hj)
          have hinf := hplan.info p b hb
          have hmem : b.i ∈ Region.ready .any ops listed := by
            refine mem_ready.2 ⟨?_, b.op, by simpa using hinf.op, fun e he hbnd => ?_⟩
            · rw [Array.getD_eq_getD_getElem?] at hno ⊢
              have hx : listed[b.i]? = some listed[b.i] := Array.getElem?_eq_getElem (by omega)
              rw [hx] at hno ⊢
              simpa using hno
            · have hlt := hinf.low e.on ⟨e, by simpa using he, hbnd, rfl⟩
              exact ihj e.on hlt (by omega)
          rw [hnil] at hmem
          cases hmem
      · obtain ⟨h1, o, h2, h3⟩ := mem_ready.1 hi
        have hil := (Array.getElem?_eq_some_iff.1 h2).1
        have hout : ¬ (listed.getD i false = true) := by
          rw [Array.getD_eq_getD_getElem?] at h1 ⊢
          have hx : listed[i]? = some listed[i] := Array.getElem?_eq_getElem (by omega)
          rw [hx] at h1 ⊢
          simp at h1
          simp [h1]
        obtain ⟨p, b, hb, rfl⟩ := hplan.full i (by simpa using hil)
        have hinf := hplan.info p b hb
        have hob : o = b.op := by
          have : ops[b.i]? = some b.op := by simpa using hinf.op
          rw [h2] at this
          exact Option.some.inj this
        subst hob
        have hready : ∀ j, Binds b.op j → listed.getD j false = true := by
          rintro j ⟨e, he, hbnd, rfl⟩
          exact h3 e (by simpa using he) hbnd
        have hset : ∀ j, (listed.setIfInBounds b.i true).getD j false = true ↔ (listed.getD j false = true ∨ j = b.i) := by
          intro j
          rw [Array.getD_eq_getD_getElem?, Array.getD_eq_getD_getElem?, Array.getElem?_setIfInBounds]
          by_cases e : b.i = j
          · subst e
            rw [if_pos rfl, if_pos (by omega)]
            simp
          · rw [if_neg e]
            constructor
            · exact fun h => .inl h
            · rintro (h | h)
              · exact h
              · exact absurd h.symm e
        obtain ⟨ρ', k, xs, hI⟩ := hI
        have hN' : Now X frs (fun j => listed.getD j false = true) p b := Now.mk' (X := X) hplan (hclosed hcl) hb hout hready
        refine Inv.step (X := X) hK hc hy (m := m) (ops := ops) (Q := Q) rfl rfl hok hR hr.next rfl hI hN' ?_
        intro a' w'' ρ'' k' xs' hI'
        refine ih _ _ _ (by simpa using hsz) ?_ ?_ ⟨ρ'', k', xs', ?_⟩
        · have := countP_lt (fun i => !listed.getD i false) (fun i => !(listed.setIfInBounds b.i true).getD i false) (List.range ops.size) (fun x _ hx => by
            simp only [Bool.not_eq_true'] at hx ⊢
            rw [← Bool.not_eq_true] at hx ⊢
            exact fun hh => hx ((hset x).2 (.inl hh))) ⟨b.i, List.mem_range.2 hil, by simpa using hout, by simp only [Bool.not_eq_false']; exact (hset b.i).2 (.inr rfl)⟩
          omega
        · intro j hj o' ho' i hi'
          rw [hset] at hj ⊢
          rcases hj with hj | hj
          · exact .inl (hcl j hj o' ho' i hi')
          · subst hj
            have : o' = b.op := by rw [hinf.op] at ho'; exact (Option.some.inj ho').symm
            subst this
            exact .inl (hready i hi')
        · have e : (fun j => (listed.setIfInBounds b.i true).getD j false = true) = (fun j => listed.getD j false = true ∨ j = b.i) := funext fun j => propext (hset j)
          rw [e]
          exact hI'
  have hd0 : ∀ j, ¬ ((Array.replicate ops.size false).getD j false = true) := by
    intro j
    rw [Array.getD_eq_getD_getElem?, Array.getElem?_replicate]
    split <;> simp
  have hgo : Goes P B ρ s w ρ (addRows [] (sts 0)) w.drew := by
    rw [t0]
    have h1 := Goes.drew hr (w.drawn + 1)
    exact h1.trans (Goes.bump h1.hr (lenL ops.toList))
  refine key ops.size _ a w.drew (by simp) ?_ (fun j hj => absurd hj (hd0 j)) ⟨ρ, 0, [], ?_⟩
  · exact Nat.le_trans List.countP_le_length (by simp)
  · refine ⟨Nat.zero_le _, .inl rfl, fun e b he => by omega, fun e b _ _ _ => hd0 _, fun q b r mk hq => by omega, hgo, fun q b hb => ?_, fun q b r mk _ _ _ hD => absurd hD (hd0 _), fun i r hi => by simp at hi, fun q b hb _ => ?_, fun t v p hp h1 h2 hv => ?_, hf.size, ?_, hf.nomark⟩
    · rw [t0]
      show s.next + b.i < s.next + lenL ops.toList
      have := hlow hb
      omega
    · cases hg : ρ (X.base + b.i) with
      | none => rfl
      | some q => have := (hr.dom _ q hg).2.1; have e : X.base = s.next := rfl; omega
    · have e := hR.get_from (t := t) p 0 (by omega) (fun q b _ hq hb hd => hd0 _ (h1 q b (by omega) hb hd))
      rw [Nat.zero_add, f0] at e
      rw [e] at hv
      exact hf.tmps t v hv
    · rw [f0]
      exact hf.defers.goes hgo
theorem draw_wp (hK : CfgOk C P) {call : CallT} {yield : YieldT} (hc : CallOk P call) (hy : YieldOk P yield) (hQ : QuietOk C call) (hmix : P.follows .mixedOrders = true) {ro : Option Nat} {mk : Option Nat} {m n nt : Nat} {ops : Array Oper} (hok : okOpers nt ops.toList = true)
    {id : Nat} {order : List Nat} {Q : Exit → Act → World → Prop} {fr fr' : Fr} {s s' : St} {ρ : Ren} {a : Act} {w : World} (h : execDraw C call yield ro.isSome n ops.toList order fr s = some (fr', s'))
    (hr : HR P B ρ s w) (hf : FrR mk n nt ρ s w fr a) (hq : ∀ ρ' w' a', Goes P B ρ s w ρ' s' w' → FrR mk n nt ρ' s' w' fr' a' → Q .normal a' w') : (Code.region id ops true).wpIn (Fro ro) m P Q a w :=
  wpIn_region_any hmix (draw_any hK hc hy hQ hok h hr hf hq)
end
end
end Go.Ax
