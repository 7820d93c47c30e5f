import Derived.Test.YtifhpiilobkjiaaGreatDoorDo
import Derived.Below
import Derived.Test.YtifhpiilobkjiaaGreatDoorDf
import Derived.LaidHandle
namespace Go.Ax
open Go Go.Proofs

noncomputable def isTrue : Option (Value × St) → Bool
  | some (.bool true, _) => true
  | _ => false
theorem isTrue_some {r : Option (Value × St)} (h : isTrue r = true) : ∃ s, r = some (.bool true, s) := by
  match r, h with
  | some (.bool true, s), _ => exact ⟨s, rfl⟩

/-- The variable errors.errorType holds the handle of 'error'; t is what its block's elements are said to be. -/
noncomputable def row0 : List Value := [.iface 460 (.agg ⟨[handle Tryz.prog 65]⟩)]
/-- A table, as it is laid. -/
noncomputable def row1 : List Value := [.int .u64 1, .int .u64 10, .int .u64 100, .int .u64 1000, .int .u64 10000, .int .u64 100000, .int .u64 1000000, .int .u64 10000000, .int .u64 100000000, .int .u64 1000000000, .int .u64 10000000000, .int .u64 100000000000, .int .u64 1000000000000, .int .u64 10000000000000, .int .u64 100000000000000, .int .u64 1000000000000000, .int .u64 10000000000000000, .int .u64 100000000000000000, .int .u64 1000000000000000000, .int .u64 10000000000000000000]
theorem row1_flat : flatAll row1 = true := by kernel_rfl
noncomputable def st1 (t : TypeId × TypeId) : St := rowsSt [(4, row0, t.1), (3, row1, t.2)]

/-- The same, of a world. -/
def Laid (W : World) : Prop := (∃ (t : TypeId) (fz : Nat × Nat), W.heap[4]? = some (.cells #[.iface 460 (.agg #[hdl Tryz.prog 65])] t fz)) ∧ (∃ (t : TypeId) (fz : Nat × Nat), W.heap[3]? = some (.cells ⟨row1⟩ t fz))

theorem row0_vrs (ρ : Ren) : VRs ρ row0 [.iface 460 (.agg #[hdl Tryz.prog 65])] :=
  .cons (.iface _ (.agg (.cons (handle_vr ρ globals_lt 65) .nil))) .nil

theorem hr1 {W : World} {t : TypeId × TypeId} {fz0 fz1 : Nat × Nat} (hg0 : W.heap[4]? = some (.cells #[.iface 460 (.agg #[hdl Tryz.prog 65])] t.1 fz0)) (hg1 : W.heap[3]? = some (.cells ⟨row1⟩ t.2 fz1)) : HR Tryz.prog W.heap.size (fun _ => none) (st1 t) W := by
  refine rowsSt_hr (fun x hx => ?_) (fun x hx => ?_)
  · rcases List.mem_cons.1 hx with rfl | hx
    · exact (by decide : (4 : Nat) < 63)
    ·
      rcases List.mem_cons.1 hx with rfl | hx
      · exact (by decide : (3 : Nat) < 63)
      · cases hx
  · rcases List.mem_cons.1 hx with rfl | hx
    · exact ⟨_, fz0, hg0, row0_vrs _⟩
    ·
      rcases List.mem_cons.1 hx with rfl | hx
      · exact ⟨_, fz1, hg1, flat_vrs _ row1_flat⟩
      · cases hx

/-- What the executor comes to at arguments that hold no place, where the variables are laid, the program does. -/
theorem calls_of_runL {C : Cfg} (hK : CfgOk C Tryz.prog) {n : Nat} {f : FuncId} {args cargs : List Value} (h : ∀ t, isTrue ((jRunN C n).1 f args (st1 t)) = true) (hv : VRs (fun _ => none) args cargs) {W : World} (hL : Laid W) :
    Calls Tryz.prog f ⟨cargs⟩ W fun e w' => e = .returned (.bool true) ∧ RowKit.Below W.heap.size W w' := by
  obtain ⟨⟨t0, fz0, hg0⟩, ⟨t1, fz1, hg1⟩⟩ := hL
  obtain ⟨s, h⟩ := isTrue_some (h (t0, t1))
  rw [jRunN_eq] at h
  refine ((runN_ok hK n).1 f args (st1 (t0, t1)) _ s h W.heap.size _ W cargs (hr1 (t := (t0, t1)) hg0 hg1) hv).mono ?_
  rintro e w' ⟨c, ρ', rfl, hgo, hv⟩
  cases hv
  exact ⟨rfl, hgo.below (hr1 (t := (t0, t1)) hg0 hg1)⟩

/-- Where nothing below the heap's old end has turned, all that was known stands. -/
theorem Goes.of_below {P : Program} {base : Nat} {ρ : Ren} {s : St} {w w' : World} (h : HR P base ρ s w) (hb : RowKit.Below w.heap.size w w') : Goes P base ρ s w ρ s w' := by
  refine ⟨Ren.le_refl ρ, ?_, hb.os, hb.tape, hb.output, hb.size, Nat.le_refl _, fun b hlt _ => hb.block b hlt, fun b ho => .inl ho, fun _ _ => rfl⟩
  refine ⟨fun i l hl => ?_, h.next, Nat.le_trans h.base_le hb.size, h.low, h.heap_dom, h.fam_dom, fun i cs e f hc => ?_, fun i es c hi => ?_, fun i r hi => ?_, h.sep⟩
  · obtain ⟨a, b, c, d⟩ := h.dom i l hl
    exact ⟨a, b, c, Nat.lt_of_lt_of_le d hb.size⟩
  · obtain ⟨l, hq⟩ := h.rows i cs e f hc
    exact ⟨l, hq.move (Ren.le_refl ρ) (hb.block _ (h.blk_lt (tag_cells hc) hq.at_))⟩
  · obtain ⟨l, hl, es', h1, h2⟩ := h.maps i es c hi
    exact ⟨l, hl, es', by rw [hb.block _ (h.dom i l hl).2.2.2]; exact h1, h2⟩
  · obtain ⟨l, hl, q, h1, h2⟩ := h.loops i r hi
    exact ⟨l, hl, q, by rw [hb.block _ (h.dom i l hl).2.2.2]; exact h1, h2⟩

/-- That the executor knows the variable as it is laid. -/
noncomputable def laidOk0 (s : St) : Bool :=
  match s.cells 4 with
  | some ([.iface t (.agg ⟨[h]⟩)], _, 0) => Nat.beq t 460 && Option.casesOn (ofHandle Tryz.prog h) false fun u => Nat.beq u 65
  | _ => false

theorem laidOk0_laid {base : Nat} {ρ : Ren} {s : St} {w : World} (h : HR Tryz.prog base ρ s w) (hk : laidOk0 s = true) : ∃ (t : TypeId) (fz : Nat × Nat), w.heap[4]? = some (.cells #[.iface 460 (.agg #[hdl Tryz.prog 65])] t fz) := by
  unfold laidOk0 at hk
  split at hk
  · rename_i t x e hc
    simp only [Bool.and_eq_true] at hk
    obtain ⟨h1, h2⟩ := hk
    have h1 := Nat.eq_of_beq_eq_true h1
    subst h1
    cases hu : ofHandle Tryz.prog x with
    | none => rw [hu] at h2; cases h2
    | some u =>
      rw [hu] at h2
      have h2 : u = 65 := Nat.eq_of_beq_eq_true h2
      subst h2
      obtain ⟨l, hat, a, fz, ha, hv, _, h0, _⟩ := h.rows 4 _ _ _ hc
      rw [Ren.at_low (by show 4 < 64; omega)] at hat
      cases hat
      obtain ⟨_, hsz, _⟩ := h0 rfl
      obtain ⟨y, hy, hvy⟩ := hv 0 _ rfl
      refine ⟨e, fz, ?_⟩
      have : a = #[.iface 460 (.agg #[hdl Tryz.prog 65])] := by
        have hs1 : a.size = 1 := hsz
        cases hvy with
        | iface _ hvy => cases hvy with
          | agg hvy => cases hvy with
            | cons hvy hn => cases hn with
              | nil =>
                rw [ofHandle_vr globals_lt hvy hu] at hy
                apply Array.ext
                · simpa using hs1
                · intro j j1 j2
                  have : j = 0 := by omega
                  subst this
                  have := (Array.getElem?_eq_some_iff.1 hy).2
                  simpa using this
      rw [← this]
      exact ha
  · cases hk
noncomputable def laidOk (s : St) : Bool := laidOk0 s && knowsRow s 3 row1
theorem laidOk_laid {base : Nat} {ρ : Ren} {s : St} {w : World} (h : HR Tryz.prog base ρ s w) (hk : laidOk s = true) : Laid w := by
  unfold laidOk at hk
  simp only [Bool.and_eq_true] at hk
  exact ⟨laidOk0_laid h hk.1, knowsRow_heap h row1_flat (by decide) hk.2⟩
end Go.Ax

