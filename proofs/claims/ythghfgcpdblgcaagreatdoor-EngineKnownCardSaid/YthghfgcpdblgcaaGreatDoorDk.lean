import Derived.Test.YthghfgcpdblgcaaGreatDoorDd
import Derived.Test.YthghfgcpdblgcaaGreatDoorDf
import Derived.Test.YthghfgcpdblgcaaGreatDoorDj
import Derived.Test.YthghfgcpdblgcaaGreatDoorDe
import Derived.Below
import Derived.LaidHandle
set_option maxRecDepth 1000000
set_option maxHeartbeats 4000000
namespace Go.Ax
open Go Go.Proofs
noncomputable def extT : List (Nat × Ext) := [(45, .rlValueOf [(103, 150), (30, 130)]), (46, .rlVType [(103, 150)]), (47, .rlIsNil [(103, 150)]), (73, .rlTypeOf [(139, ()), (30, ())]), (74, .rlVElem [(103, 150, 30, 386)]), (75, .rlSet [(30, 386, 130)]), (516, .rlTKind [(30, 2), (103, 22)]), (546, .rlAssignable [(139, 30, false), (30, 30, true)]), (548, .rlElem [(103, 30)]), (549, .rlImplements [(30, 99, true)]), (328, .add64), (495, .sub64), (238, .cmp)]
noncomputable def insT : List (Nat × Con) := [(436, .pure atG), (437, .pure rotG), (395, .fn (conOne (inG thetaF))), (396, .fn (conOne (inG rhoF))), (397, .fn (conOne (inG chiF))), (398, .pure rcG), (228, .pure eightG), (324, .fn (conOne wordG)), (430, .insert 214), (432, .insert 217)]
noncomputable def CC : Cfg := { CB with ext := lookN extT, insert := lookN insT }
theorem all1 {α : Type} {a : α} {p : α → Prop} (h : p a) : ∀ q ∈ [a], p q := fun q hq => by
  rcases List.mem_cons.1 hq with e | e
  · exact e ▸ h
  · exact absurd e List.not_mem_nil
theorem all2 {α : Type} {a b : α} {p : α → Prop} (h : p a) (k : p b) : ∀ q ∈ [a, b], p q := fun q hq => by
  rcases List.mem_cons.1 hq with e | e
  · exact e ▸ h
  · exact all1 k q e
section
open Go.Extern
theorem x45 : ExtSound CC Tryz.prog 45 (.rlValueOf [(103, 150), (30, 130)]) :=
  rlValueOf_sound rfl globals_lt (by kernel_rfl) (by kernel_rfl) (all2 (fun a w => by kernel_rfl) (fun a w => by kernel_rfl))
theorem x46 : ExtSound CC Tryz.prog 46 (.rlVType [(103, 150)]) :=
  rlVType_sound (e := ReflectliteValue.methodAny (ReflectliteValue.valueError "reflectlite.Value.Type" 0) fun t _ _ _ => ReflectliteType.toType t) rfl globals_lt (by kernel_rfl) (by kernel_rfl) (all1 fun a w => by kernel_rfl)
theorem x47 : ExtSound CC Tryz.prog 47 (.rlIsNil [(103, 150)]) :=
  rlIsNil_sound rfl globals_lt (by kernel_rfl) (by kernel_rfl) (all1 fun a w => by kernel_rfl) (all1 (by decide))
theorem x73 : ExtSound CC Tryz.prog 73 (.rlTypeOf [(139, ()), (30, ())]) :=
  rlTypeOf_sound rfl globals_lt (by kernel_rfl) (by kernel_rfl) (all2 (fun w => by kernel_rfl) (fun w => by kernel_rfl))
theorem x74 : ExtSound CC Tryz.prog 74 (.rlVElem [(103, 150, 30, 386)]) :=
  rlVElem_sound rfl globals_lt (by kernel_rfl) (by kernel_rfl) (all1 fun a w => by kernel_rfl) (all1 (by decide)) (all1 fun w => by kernel_rfl) (all1 fun a w => by kernel_rfl)
theorem x75 : ExtSound CC Tryz.prog 75 (.rlSet [(30, 386, 130)]) :=
  rlSet_sound rfl globals_lt (by kernel_rfl) (by kernel_rfl) (all1 fun a w => ⟨by kernel_rfl, by kernel_rfl⟩) (all1 (by decide)) (all1 fun w => by kernel_rfl)
theorem x516 : ExtSound CC Tryz.prog 516 (.rlTKind [(30, 2), (103, 22)]) :=
  rlTKind_sound (e := ReflectliteType.abiMethod fun t => do pure (.int .u8 (← Rtype.kind t))) rfl globals_lt (by kernel_rfl) (by kernel_rfl) (all2 (fun w => by kernel_rfl) (fun w => by kernel_rfl))
theorem x546 : ExtSound CC Tryz.prog 546 (.rlAssignable [(139, 30, false), (30, 30, true)]) :=
  rlAssignable_sound (e := ReflectliteType.relation "AssignableTo" ReflectliteType.assignableTo) rfl globals_lt (by kernel_rfl) (by kernel_rfl) (all2 (fun w => by kernel_rfl) (fun w => by kernel_rfl))
theorem x548 : ExtSound CC Tryz.prog 548 (.rlElem [(103, 30)]) :=
  rlElem_sound rfl globals_lt (by kernel_rfl) (by kernel_rfl) (all1 fun w => by kernel_rfl)
theorem x549 : ExtSound CC Tryz.prog 549 (.rlImplements [(30, 99, true)]) :=
  rlImplements_sound (e := ReflectliteType.relation "Implements" ReflectliteType.implements_) rfl globals_lt (by kernel_rfl) (by kernel_rfl) (all1 fun w => by kernel_rfl)
end
theorem w430 : InsWalks Tryz.prog 430 465 63 3 6 := ⟨ins430_place, ins430_end, ins430_grow⟩
theorem w432 : InsWalks Tryz.prog 432 467 64 3 6 := ⟨ins432_place, ins432_end, ins432_grow⟩
theorem cc_insert : ∀ f t, lookN insT f = some t → ∀ args s v s', runCon CC t s args = some (v, s') → ∀ base ρ w cargs, HR Tryz.prog base ρ s w → VRs ρ args cargs →
    Calls Tryz.prog f ⟨cargs⟩ w fun e w' => ∃ c ρ', e = .returned c ∧ Goes Tryz.prog base ρ s w ρ' s' w' ∧ VR ρ' v c := by
  intro f t h args s v s' hv base ρ w cargs hr ha
  have h := lookN_mem h
  unfold insT at h
  rcases List.mem_cons.1 h with h | h
  · cases h
    exact conPure_sound cb_ok at_hrun hv hr ha
  rcases List.mem_cons.1 h with h | h
  · cases h
    exact conPure_sound cb_ok rot_hrun hv hr ha
  rcases List.mem_cons.1 h with h | h
  · cases h
    exact conOne_sound cp_ok theta_hrun hv hr ha
  rcases List.mem_cons.1 h with h | h
  · cases h
    exact conOne_sound cp_ok rho_hrun hv hr ha
  rcases List.mem_cons.1 h with h | h
  · cases h
    exact conOne_sound cp_ok chi_hrun hv hr ha
  rcases List.mem_cons.1 h with h | h
  · cases h
    exact conPure_sound cp_ok rc_hrun hv hr ha
  rcases List.mem_cons.1 h with h | h
  · cases h
    exact conPure_sound cb_ok eight_hrun hv hr ha
  rcases List.mem_cons.1 h with h | h
  · cases h
    exact conOne_sound cb_ok word_hrun hv hr ha
  rcases List.mem_cons.1 h with h | h
  · cases h
    exact insert_sound (C := CC) (sz := 6) (ps := #[63, 63]) (rs := #[4]) w430 rfl (by kernel_rfl) (by kernel_rfl) (by kernel_rfl) (by kernel_rfl) (by kernel_rfl) rfl (by kernel_rfl) hv hr ha
  rcases List.mem_cons.1 h with h | h
  · cases h
    exact insert_sound (C := CC) (sz := 6) (ps := #[64, 64]) (rs := #[4]) w432 rfl (by kernel_rfl) (by kernel_rfl) (by kernel_rfl) (by kernel_rfl) (by kernel_rfl) rfl (by kernel_rfl) hv hr ha
  exact absurd h List.not_mem_nil
def AllExt (P : Program) (C : Cfg) : List (Nat × Ext) → Prop
  | [] => True
  | q :: l => ExtSound C P q.1 q.2 ∧ AllExt P C l
theorem ext_all {P : Program} {C : Cfg} : ∀ {l : List (Nat × Ext)}, AllExt P C l → ∀ f e, lookN l f = some e → ExtSound C P f e := by
  intro l hl f e h
  replace h := lookN_mem h
  induction l with
  | nil => cases h
  | cons q l ih =>
    rcases List.mem_cons.1 h with h | h
    · subst h; exact hl.1
    · exact ih hl.2 h
theorem cc_ok : CfgOk CC Tryz.prog := cfg_ok (ext := lookN extT) (ins := lookN insT) rfl cc_insert (ext_all (l := extT) ⟨x45, x46, x47, x73, x74, x75, x516, x546, x548, x549, add64_sound (by kernel_rfl) (by kernel_rfl), sub64_sound (by kernel_rfl) (by kernel_rfl), cmp_sound (by kernel_rfl) (by kernel_rfl), trivial⟩)
end Go.Ax
namespace Go.Ax
open Go Go.Proofs
noncomputable def isTrue : Option (Value × St) → Bool
  | some (.bool true, _) => true
  | _ => false
theorem isTrue_some {r : Option (Value × St)} (h : isTrue r = true) : ∃ s, r = some (.bool true, s) := by
  match r, h with
  | some (.bool true, s), _ => exact ⟨s, rfl⟩
noncomputable def row0 : List Value := [.iface 197 (.agg ⟨[handle Tryz.prog 99]⟩)]
noncomputable def st1 (t : TypeId) : St := { heap := Hp.set (.s 20 0) 0 (.row row0 t 0), fams := .s 20 0, next := 64 }
def Laid (W : World) : Prop := ∃ (t : TypeId) (fz : Nat × Nat), W.heap[0]? = some (.cells #[.iface 197 (.agg #[hdl Tryz.prog 99])] t fz)
theorem row0_vrs (ρ : Ren) : VRs ρ row0 [.iface 197 (.agg #[hdl Tryz.prog 99])] :=
  .cons (.iface _ (.agg (.cons (handle_vr ρ globals_lt 99) .nil))) .nil
theorem st1_get (t i : Nat) : (st1 t).heap.get i = if i = 0 then some (.row row0 t 0) else none := by
  show (Hp.set (Hp.s 20 0) 0 (Row.row row0 t 0)).get i = _
  rw [Hp.get_set, Hp.get_s]
theorem st1_tag (t i : Nat) {a : Nat × Nat} (h : (st1 t).tag i = some a) : i = 0 := by
  unfold St.tag at h
  rw [st1_get] at h
  by_cases hi : i = 0
  · exact hi
  · rw [if_neg hi] at h; cases h
theorem hr1 {W : World} {t : TypeId} {fz : Nat × Nat} (hg : W.heap[0]? = some (.cells #[.iface 197 (.agg #[hdl Tryz.prog 99])] t fz)) : HR Tryz.prog W.heap.size (fun _ => none) (st1 t) W where
  dom := fun _ _ h => by cases h
  next := Nat.le_refl 64
  base_le := Nat.le_refl _
  low := fun i _ h => by
    cases ht : (st1 t).tag i with
    | none => exact absurd ht h
    | some a =>
      rw [st1_tag t i ht]
      exact ⟨(Array.getElem?_eq_some_iff.1 hg).1, by decide⟩
  heap_dom := fun i r h => by
    rw [st1_get] at h
    by_cases hi : i = 0
    · subst hi; show 0 < 64; omega
    · rw [if_neg hi] at h; cases h
  fam_dom := fun i cs e f h => by
    rw [st1_get] at h
    by_cases hi : i = 0
    · rw [if_pos hi] at h; cases h; show 0 < 64; omega
    · rw [if_neg hi] at h; cases h
  rows := fun i cs e f h => by
    obtain ⟨h1, _⟩ := cells_some.1 h
    rw [st1_get] at h1
    by_cases hi : i = 0
    · rw [if_pos hi] at h1
      cases h1
      subst hi
      refine ⟨⟨0, 0, 0⟩, Ren.at_low (by show 0 < 64; omega), _, fz, ⟨_, hg, fun _ => rfl⟩, fun j x hj => ?_, fun h => absurd h (by show ¬ 64 ≤ 0; omega), fun _ => ⟨rfl, rfl, fun h => absurd h (by show ¬ 64 ≤ 0; omega)⟩, fun h => absurd rfl h⟩
      obtain ⟨y, hy, hv⟩ := (row0_vrs (fun _ => none)).get hj
      refine ⟨y, ?_, hv⟩
      simpa using hy
    · rw [if_neg hi] at h1; cases h1
  maps := fun i es c h => by
    rw [st1_get] at h
    by_cases hi : i = 0
    · rw [if_pos hi] at h; cases h
    · rw [if_neg hi] at h; cases h
  loops := fun i r h => by
    rw [st1_get] at h
    by_cases hi : i = 0
    · rw [if_pos hi] at h; cases h
    · rw [if_neg hi] at h; cases h
  sep := fun i j a b l l' hi hj hab hl hl' => by
    have e1 := st1_tag t i hi
    have e2 := st1_tag t j hj
    subst e1 e2
    rw [hi] at hj
    exact absurd (Option.some.inj hj) hab
theorem calls_of_runL {C : Cfg} (hK : CfgOk C Tryz.prog) {n : Nat} {f : FuncId} {args cargs : List Value} (h : ∀ t, isTrue ((jRunN C n).1 f args (st1 t)) = true) (hv : VRs (fun _ => none) args cargs) {W : World} (hL : Laid W) :
    Calls Tryz.prog f ⟨cargs⟩ W fun e w' => e = .returned (.bool true) ∧ RowKit.Below W.heap.size W w' := by
  obtain ⟨t, fz, hg⟩ := hL
  obtain ⟨s, h⟩ := isTrue_some (h t)
  rw [jRunN_eq] at h
  refine ((runN_ok hK n).1 f args (st1 t) _ s h W.heap.size _ W cargs (hr1 hg) hv).mono ?_
  rintro e w' ⟨c, ρ', rfl, hg', hv⟩
  cases hv
  exact ⟨rfl, hg'.below (hr1 hg)⟩
theorem Goes.of_below {P : Program} {base : Nat} {ρ : Ren} {s : St} {w w' : World} (h : HR P base ρ s w) (hb : RowKit.Below w.heap.size w w') : Goes P base ρ s w ρ s w' := by
  refine ⟨Ren.le_refl ρ, ?_, hb.os, hb.tape, hb.output, hb.size, Nat.le_refl _, fun b hlt _ => hb.block b hlt, fun b ho => .inl ho, fun _ _ => rfl⟩
  refine ⟨fun i l hl => ?_, h.next, Nat.le_trans h.base_le hb.size, h.low, h.heap_dom, h.fam_dom, fun i cs e f hc => ?_, fun i es c hi => ?_, fun i r hi => ?_, h.sep⟩
  · obtain ⟨a, b, c, d⟩ := h.dom i l hl
    exact ⟨a, b, c, Nat.lt_of_lt_of_le d hb.size⟩
  · obtain ⟨l, hq⟩ := h.rows i cs e f hc
    exact ⟨l, hq.move (Ren.le_refl ρ) (hb.block _ (h.blk_lt (tag_cells hc) hq.at_))⟩
  · obtain ⟨l, hl, es', h1, h2⟩ := h.maps i es c hi
    exact ⟨l, hl, es', by rw [hb.block _ (h.dom i l hl).2.2.2]; exact h1, h2⟩
  · obtain ⟨l, hl, q, h1, h2⟩ := h.loops i r hi
    exact ⟨l, hl, q, by rw [hb.block _ (h.dom i l hl).2.2.2]; exact h1, h2⟩
noncomputable def laidOk (s : St) : Bool :=
  match s.cells 0 with
  | some ([.iface t (.agg ⟨[h]⟩)], _, 0) => Nat.beq t 197 && Option.casesOn (ofHandle Tryz.prog h) false fun u => Nat.beq u 99
  | _ => false
theorem laidOk_laid {base : Nat} {ρ : Ren} {s : St} {w : World} (h : HR Tryz.prog base ρ s w) (hk : laidOk s = true) : Laid w := by
  unfold laidOk at hk
  split at hk
  · rename_i t x e hc
    simp only [Bool.and_eq_true] at hk
    obtain ⟨h1, h2⟩ := hk
    have h1 := Nat.eq_of_beq_eq_true h1
    subst h1
    cases hu : ofHandle Tryz.prog x with
    | none => rw [hu] at h2; cases h2
    | some u =>
      rw [hu] at h2
      have h2 : u = 99 := Nat.eq_of_beq_eq_true h2
      subst h2
      obtain ⟨l, hat, a, fz, ⟨e9, ha, he9⟩, hv, _, h0, _⟩ := h.rows 0 _ _ _ hc
      have he9 := (he9 (.inl rfl)).symm
      subst he9
      rw [Ren.at_low (by show 0 < 64; omega)] at hat
      cases hat
      obtain ⟨_, hsz, _⟩ := h0 rfl
      obtain ⟨y, hy, hvy⟩ := hv 0 _ rfl
      refine ⟨e, fz, ?_⟩
      have : a = #[.iface 197 (.agg #[hdl Tryz.prog 99])] := by
        have hs1 : a.size = 1 := hsz
        cases hvy with
        | iface _ hvy => cases hvy with
          | agg hvy => cases hvy with
            | cons hvy hn => cases hn with
              | nil =>
                rw [ofHandle_vr globals_lt hvy hu] at hy
                apply Array.ext
                · simpa using hs1
                · intro j j1 j2
                  have : j = 0 := by omega
                  subst this
                  have hy : a[0]? = some (.iface 197 (.agg #[hdl Tryz.prog 99])) := hy
                  have := (Array.getElem?_eq_some_iff.1 hy).2
                  simpa using this
      rw [← this]
      exact ha
  · cases hk
noncomputable def mA60_0 : List Value := [(.agg ⟨[(.int .i64 (Int.ofNat 4)), (.int .i64 (Int.ofNat 4)), (.int .i64 (Int.ofNat 2)), (.int .i64 (Int.ofNat 3)), (.int .i64 (Int.ofNat 7)), (.int .i64 (Int.ofNat 8)), (.int .i64 (Int.ofNat 2)), (.int .u64 (Int.ofNat 100000000)), (.int .u64 (Int.ofNat 0)), (.int .i64 (Int.ofNat 50)), (.int .u64 (Int.ofNat 100000000))]⟩)]
noncomputable def mR60_0 : Value := (.tuple ⟨[(.int .i64 (Int.ofNat 0)), (.int .i64 (Int.ofNat 0))]⟩)
theorem m60_0 : outV ((jRunN CC 60).1 60 mA60_0 noneSt) = some mR60_0 := by kernel_rfl
noncomputable def mT60 : List (List Value × Value) := [(mA60_0, mR60_0)]
theorem mH60 : ∀ p ∈ mT60, ∃ s1, (runN CC 60).1 60 p.1 noneSt = some (p.2, s1) := by
  intro p hp
  rw [← jRunN_eq]
  unfold mT60 at hp
  rcases List.mem_cons.1 hp with rfl | hp
  · exact outV_some m60_0
  exact absurd hp List.not_mem_nil
noncomputable def mA311_0 : List Value := [(.agg ⟨[(.int .i64 (Int.ofNat 0)), (.int .i64 (Int.ofNat 1)), (.int .i64 (Int.negSucc 0)), (.int .i64 (Int.ofNat 0))]⟩)]
noncomputable def mR311_0 : Value := (.int .i64 (Int.ofNat 0))
theorem m311_0 : outV ((jRunN CC 60).1 311 mA311_0 noneSt) = some mR311_0 := by kernel_rfl
noncomputable def mT311 : List (List Value × Value) := [(mA311_0, mR311_0)]
theorem mH311 : ∀ p ∈ mT311, ∃ s1, (runN CC 60).1 311 p.1 noneSt = some (p.2, s1) := by
  intro p hp
  rw [← jRunN_eq]
  unfold mT311 at hp
  rcases List.mem_cons.1 hp with rfl | hp
  · exact outV_some m311_0
  exact absurd hp List.not_mem_nil
noncomputable def mA464_0 : List Value := [(.agg ⟨[(.int .i64 (Int.ofNat 0)), (.int .i64 (Int.ofNat 1)), (.int .i64 (Int.negSucc 0)), (.int .i64 (Int.ofNat 0))]⟩), (.agg ⟨[(.int .i64 (Int.ofNat 0)), (.int .i64 (Int.ofNat 1)), (.int .i64 (Int.negSucc 0)), (.int .i64 (Int.ofNat 0))]⟩)]
noncomputable def mR464_0 : Value := (.int .i64 (Int.ofNat 0))
theorem m464_0 : outV ((jRunN CC 60).1 464 mA464_0 noneSt) = some mR464_0 := by kernel_rfl
noncomputable def mT464 : List (List Value × Value) := [(mA464_0, mR464_0)]
theorem mH464 : ∀ p ∈ mT464, ∃ s1, (runN CC 60).1 464 p.1 noneSt = some (p.2, s1) := by
  intro p hp
  rw [← jRunN_eq]
  unfold mT464 at hp
  rcases List.mem_cons.1 hp with rfl | hp
  · exact outV_some m464_0
  exact absurd hp List.not_mem_nil
noncomputable def insTM : List (Nat × Con) := (60, .pure (memoG mT60)) :: (311, .pure (memoG mT311)) :: (464, .pure (memoG mT464)) :: insT
noncomputable def CM : Cfg := { CB with ext := lookN extT, insert := lookN insTM }
theorem cm_insert : ∀ f t, lookN insTM f = some t → ∀ args s v s', runCon CM t s args = some (v, s') → ∀ base ρ w cargs, HR Tryz.prog base ρ s w → VRs ρ args cargs →
    Calls Tryz.prog f ⟨cargs⟩ w fun e w' => ∃ c ρ', e = .returned c ∧ Goes Tryz.prog base ρ s w ρ' s' w' ∧ VR ρ' v c := by
  intro f t h args s v s' hv base ρ w cargs hr ha
  have h' := h
  replace h' : sel (Nat.beq 60 f) (some (Con.pure (memoG mT60))) (lookN ((311, .pure (memoG mT311)) :: (464, .pure (memoG mT464)) :: insT) f) = some t := h'
  rw [sel_eq] at h'
  split at h'
  · rename_i hb
    cases h'
    have hf : 60 = f := Nat.eq_of_beq_eq_true hb
    subst hf
    exact conPure_sound cc_ok (memo_hrun mH60) hv hr ha
  replace h' : sel (Nat.beq 311 f) (some (Con.pure (memoG mT311))) (lookN ((464, .pure (memoG mT464)) :: insT) f) = some t := h'
  rw [sel_eq] at h'
  split at h'
  · rename_i hb
    cases h'
    have hf : 311 = f := Nat.eq_of_beq_eq_true hb
    subst hf
    exact conPure_sound cc_ok (memo_hrun mH311) hv hr ha
  replace h' : sel (Nat.beq 464 f) (some (Con.pure (memoG mT464))) (lookN ( insT) f) = some t := h'
  rw [sel_eq] at h'
  split at h'
  · rename_i hb
    cases h'
    have hf : 464 = f := Nat.eq_of_beq_eq_true hb
    subst hf
    exact conPure_sound cc_ok (memo_hrun mH464) hv hr ha
  cases t with
  | insert e => exact cc_insert f _ h' args s v s' hv base ρ w cargs hr ha
  | closed ok => exact cc_insert f _ h' args s v s' hv base ρ w cargs hr ha
  | fn F => exact cc_insert f _ h' args s v s' hv base ρ w cargs hr ha
  | pure G => exact cc_insert f _ h' args s v s' hv base ρ w cargs hr ha
  | tree F => exact cc_insert f _ h' args s v s' hv base ρ w cargs hr ha
theorem cm_ok : CfgOk CM Tryz.prog := cfg_ok (ext := lookN extT) (ins := lookN insTM) rfl cm_insert (fun f e h base ρ s s' w args cargs v hr ha hv => cc_ok.ext f e h base ρ s s' w args cargs v hr ha hv)
end Go.Ax
namespace Go.Ax
open Go Go.Proofs
noncomputable section
def nI (n : Nat) : Value := .int .i64 (Int.ofNat n)
def nW (n : Nat) : Value := .int .u64 (Int.ofNat n)
def nB (n : Nat) : Value := .int .u8 (Int.ofNat n)
def nP (b o : Nat) : Value := .pointer (some ⟨b, o, none⟩)
def nS (b o n : Nat) : Value := .slice (some ⟨b, o, none⟩) n bigCap
def lows : Low := [(0, row0)]
end
end Go.Ax
