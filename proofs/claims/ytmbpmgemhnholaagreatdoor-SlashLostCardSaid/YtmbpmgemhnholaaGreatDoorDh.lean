import Derived.Test.YtmbpmgemhnholaaGreatDoorDe
import Derived.Test.YtmbpmgemhnholaaGreatDoorDf
import Derived.Test.YtmbpmgemhnholaaGreatDoorProg
import Derived.KernelRfl
set_option maxRecDepth 1000000
namespace Go.Ax
open Go Go.Proofs

noncomputable def varsL : List Nat := [0, 0, 1, 9, 10, 10, 10, 11, 6, 9, 6, 11, 7, 9, 20, 5, 5, 7, 7, 7, 3, 6, 7, 9, 3, 7, 10, 1, 10, 15, 12, 6, 8, 9, 10, 3, 7, 7, 8, 3, 3, 7, 7, 8, 4, 17, 11, 6, 3, 9, 13, 3, 3, 5, 18, 9, 4, 30, 13, 10, 7, 13, 7, 19, 13, 12, 15, 9, 30, 3, 3, 5, 3, 3, 3, 15, 3, 2, 2, 5, 5, 5, 9, 6, 6, 7, 6, 11, 14, 7, 3, 3, 14, 19, 9, 3, 5, 3, 6, 4, 15, 11, 3, 4, 4, 3, 3, 6, 10, 9, 5, 6, 13, 3, 8, 6, 14, 13, 3, 5, 5, 20, 19, 6, 5, 7, 3, 10, 9, 3, 15, 12, 13, 6, 6, 3, 8, 5, 8, 7, 11, 46, 11, 49, 8, 7, 11, 3, 3, 3, 9, 7, 12, 7, 8, 4, 6, 6, 10, 19, 6, 3, 2, 3, 6, 7, 2, 3, 4, 3, 21, 5, 25, 11, 3, 3, 3, 3, 3, 12, 8, 8, 4, 3, 9, 17, 3, 3, 2, 3, 2, 4, 8, 0, 0, 0, 51, 3, 12, 12, 17, 10, 9, 12, 6, 5, 5, 11, 3, 3, 8, 23, 7, 11, 3, 3, 10, 3, 6, 8, 10, 9, 11, 0, 0, 0, 0, 14, 8, 8, 10, 9, 24, 94, 10, 5, 3, 6, 10, 0, 9, 5, 9, 4, 30, 0, 2, 6, 8, 8, 9, 5, 5, 0, 2, 3, 7, 8, 3, 2, 10, 9, 7, 2, 4, 3, 4, 0, 0, 0, 0, 0, 0, 0, 0, 0, 0, 0, 0, 0, 0, 0, 0, 0, 0, 0, 0, 0, 3, 6, 6, 0, 9, 4, 6, 3, 7, 0, 3, 0, 0, 0, 0, 0, 0, 0, 0, 0, 0, 0, 0, 0, 0, 0, 0, 0, 0, 0, 0, 0, 1]
noncomputable def ordL : List (Nat × List (Nat × List Nat)) := [(3, [(1, [0, 1, 2, 3, 5, 6, 7, 8, 4, 9, 10, 11, 12, 13, 14])]), (13, [(3, [0, 1, 2, 3, 4, 5, 6])]), (14, [(3, [0, 1, 2, 3, 4, 5, 6, 7, 8]), (9, [0, 1, 2, 3, 4, 5, 6, 7, 8, 9, 10, 11, 12, 13, 14, 15, 16, 17, 18, 19, 20, 21]), (8, [0, 3, 4, 1, 2, 5, 6, 7, 8]), (6, [0, 1, 2, 3, 4, 5, 6, 7, 8])]), (17, [(5, [0, 1, 2, 3, 4, 5, 6, 7, 8, 9])]), (18, [(5, [0, 1, 2, 3, 4, 5, 6, 7, 8, 9])]), (20, [(1, [0, 1, 19, 20, 21, 22, 23, 24, 25, 26, 27, 28, 29, 30, 31, 32, 33, 34, 35, 36, 37, 38, 2, 3, 4, 5, 6, 7, 8, 9, 10, 11, 12, 13, 14, 15, 16, 17, 18, 39, 40, 41])]), (21, [(5, [0, 1, 2, 3, 4, 5, 6, 7, 8, 9, 10, 11, 12, 13, 14])]), (29, [(6, [0, 1, 2, 3, 4])]), (31, [(5, [0, 1, 3, 4, 2, 6, 5, 7, 8, 9])]), (33, [(4, [0, 1, 2, 3])]), (34, [(3, [0, 1, 2, 3, 4, 5, 6, 7, 8, 9, 10, 11, 12]), (1, [0, 1, 2, 3, 4, 5, 6, 7, 8, 9, 10, 11, 12, 13, 14, 15, 16, 17, 18, 19, 20, 21, 22, 23])]), (36, [(5, [0, 1, 2, 3, 4, 5, 6, 7, 8, 9])]), (37, [(5, [0, 1, 2, 3, 4, 5, 6, 7, 8, 9])]), (43, [(1, [0, 1, 2, 3, 4, 5, 6, 7, 8, 9, 10, 11, 12])]), (49, [(1, [0, 1, 2, 3, 4, 5, 6, 7, 8, 9, 10, 11, 12, 13])]), (55, [(1, [0, 2, 4, 5, 6, 1, 3, 7, 8, 9])]), (57, [(1, [0, 1, 2, 3, 4, 5, 6, 7, 8, 9, 10, 11, 12, 13, 14, 15, 16, 17, 18, 19, 20]), (5, [0, 1, 2, 3, 4, 5, 6, 7, 8, 9, 10, 11, 12, 13, 14, 15])]), (58, [(8, [0, 1, 2, 3, 4, 5, 7, 1006, 8, 9])]), (60, [(1, [0, 1, 2, 3, 4, 5, 6, 7, 8, 9, 10, 11, 12, 13, 14, 15, 16, 17, 18, 19, 20])]), (61, [(8, [0, 1, 2, 4, 5, 6, 3, 7, 8, 9, 10])]), (62, [(1, [0, 2, 3, 4, 5, 7, 8, 9, 10, 11, 1, 6, 12, 13])]), (73, [(1, [0, 1, 2, 3, 4, 5, 6, 7, 8, 9, 10, 11, 12, 13, 14, 15, 16])]), (74, [(1, [0, 1, 2, 3, 4, 5, 6, 7, 8, 9, 10, 11, 12, 13, 14, 15, 16])]), (75, [(9, [0, 1, 2, 3, 4, 5, 6, 7, 8, 9, 10, 11, 12, 13, 14, 15, 16, 17, 18, 19, 20, 21, 22, 23, 24, 25])]), (81, [(1, [0, 1, 2, 3, 4, 5, 6, 7, 8, 9, 10, 11, 12, 13, 14, 15, 16, 17, 18, 19, 20])]), (82, [(9, [0, 2, 1, 3, 4, 5, 6])]), (83, [(1, [0, 1, 2, 3, 4, 5, 6, 7, 8, 9, 10, 11, 12, 13, 14, 15, 16, 17, 18, 19, 20, 21, 22, 23, 24, 25, 26])]), (93, [(6, [0, 1, 2, 3, 4, 5, 6, 7])]), (95, [(1, [0, 1, 2, 4, 5, 6, 8, 9, 10, 12, 13, 14, 16, 17, 18, 20, 21, 22, 24, 25, 26, 28, 29, 30, 32, 33, 34, 36, 37, 38, 40, 41, 42, 3, 7, 11, 15, 19, 23, 27, 31, 35, 39, 43, 44, 45])]), (98, [(6, [0, 1, 2, 3, 4, 5, 6, 7, 8, 9, 10])]), (99, [(1, [0, 1, 2, 3, 4, 5, 6, 7, 8, 9, 10, 11])]), (110, [(1, [0, 1, 2, 3, 4, 5, 6, 7, 8, 9, 10, 11, 12, 13])]), (112, [(6, [0, 1, 2, 3, 4, 5])]), (115, [(1, [0, 1, 2, 3, 4, 5, 6, 7, 8, 9])]), (117, [(6, [0, 1, 2, 3, 4, 5])]), (119, [(1, [0, 1, 2, 3, 4, 5, 6, 7, 8, 9, 10, 11, 12])]), (128, [(6, [0, 1, 3, 4, 5, 2, 6, 7])]), (131, [(6, [0, 1, 2, 3])]), (132, [(6, [0, 1, 2, 3, 4, 5])]), (133, [(4, [0, 1, 2, 3, 4])]), (134, [(4, [0, 1, 2, 3, 4, 5, 6, 7, 8, 9, 10, 11, 12])]), (139, [(1, [0, 1, 2, 3, 4, 5, 6, 7, 8, 9, 10, 11])]), (140, [(1, [0, 1, 2, 3, 4, 5, 6, 7, 8, 9, 10, 11, 12, 13, 14, 15, 16, 17])]), (142, [(1, [0, 1, 2, 3, 4, 5, 6, 7, 8, 9, 10, 11, 12, 13, 14, 15, 16])]), (143, [(13, [0, 1, 2, 3, 4, 5, 6, 7, 8, 9, 10, 11])]), (144, [(6, [0, 1, 2, 3, 4, 5, 6, 7, 8, 9]), (5, [0, 1, 2, 3, 4, 5, 6, 7, 8, 9]), (7, [0, 1, 2, 3, 4, 5, 6, 7, 8, 9]), (4, [0, 1, 2, 3, 4, 5, 6, 7, 8, 9])]), (145, [(1, [0, 1, 2, 3, 4, 5, 6, 7, 8, 9, 10, 11, 12, 13, 14, 15, 16, 17, 18, 19, 20, 21])]), (155, [(1, [0, 1, 2, 3, 4, 5, 6, 7, 8])]), (157, [(1, [0, 1, 2, 3, 4, 5, 6, 7, 8, 9, 10, 11])]), (158, [(1, [0, 1, 2, 3, 4, 5, 6, 8, 9, 10, 7, 11, 12, 13, 14, 15, 16, 17, 18, 19]), (3, [0, 1, 2, 3, 4, 5, 6, 7, 8])]), (159, [(17, [0, 1, 2, 3, 5, 4, 6, 7])]), (160, [(4, [0, 1, 2, 3, 4, 5, 6, 7, 8, 9, 10, 11, 12, 13, 14, 15, 16, 17, 18, 19, 20, 21])]), (164, [(3, [0, 1, 2, 3, 4, 5, 6, 7, 8, 9])]), (170, [(8, [0, 1, 2, 3, 4, 5])]), (178, [(1, [0, 1, 3, 4, 2, 5, 6, 7, 8])]), (180, [(5, [0, 1, 2, 3, 4, 5, 6, 7, 8, 9]), (7, [0, 1, 2, 3, 4, 5, 6, 7, 8, 9, 10, 11, 12, 13, 14, 15])]), (185, [(0, [0, 1, 2, 3, 4, 5, 6, 7, 8, 9, 10, 11, 12, 13])]), (187, [(1, [0, 1, 2, 3, 4, 5, 6, 7, 8, 9, 10])]), (201, [(7, [0, 1, 2, 3, 4, 5, 6, 7, 8, 9, 10, 11, 12, 13, 14, 15, 16])]), (215, [(1, [0, 1, 2, 3, 4, 6, 7, 8, 10, 11, 12, 5, 9, 13, 14, 15, 16, 17, 18, 19, 20, 21])]), (219, [(5, [0, 1, 2, 3, 4, 5, 6, 7])]), (220, [(15, [0, 1, 2, 3, 4, 5, 6, 7, 8]), (11, [0, 1, 2, 3, 4, 5, 6, 7, 8])]), (229, [(5, [0, 1, 2, 3, 4, 5, 6, 7])]), (230, [(11, [0, 1, 2, 3, 4, 5, 6, 7, 8]), (15, [0, 1, 2, 3, 4, 5, 6, 7, 8])]), (232, [(9, [0, 1, 2, 3, 4, 5, 6, 7, 8, 9, 10, 11, 12, 13, 14, 15, 16, 17, 18])]), (233, [(15, [0, 1, 2, 3, 4, 5, 6, 7, 8, 9, 10, 11]), (22, [0, 1, 2, 3, 4, 5, 6, 7, 8, 9, 10, 11]), (9, [0, 1, 2, 3, 4, 5, 6, 7, 8, 9, 10, 11, 12, 13, 14, 15, 16])]), (238, [(2, [0, 1, 2, 3, 4, 5, 6, 7, 8, 9, 11, 12, 13, 16, 10, 14, 15, 17, 18])]), (252, [(1, [0, 1, 2, 3, 5, 6, 7, 8, 4, 9, 10, 11, 12])]), (264, [(3, [0, 1, 2, 3, 4, 5, 6, 7, 8, 9, 10, 11, 12, 13, 14, 15])]), (266, [(3, [0, 1, 2, 3, 4, 5, 6, 7, 8, 9, 10, 11, 12, 13, 14, 15])]), (292, [(1, [0, 1, 2, 3, 4, 5, 6, 7, 8, 9, 10, 11, 12, 13])]), (293, [(1, [0, 1, 2, 3, 4, 5, 6, 7, 8, 9, 10, 11, 12, 13]), (2, [0, 1, 2, 3, 4, 5, 6, 7, 8, 9, 10, 11, 12, 13, 14])]), (294, [(2, [0, 1, 2, 3, 4, 5, 6, 7, 8, 9, 10])]), (295, [(0, [0, 1, 2, 3, 4, 5, 6, 7, 8, 9, 10, 11, 12, 13, 14, 15])]), (296, [(1, [0, 1, 2, 3, 4, 5, 6, 7, 8, 9, 10, 11])])]
noncomputable def eqL : List Nat := [435, 243, 174, 34, 53, 62, 57, 26]
noncomputable def memN (l : List Nat) (n : Nat) : Bool := List.rec false (fun p _ ih => sel (Nat.beq p n) true ih) l
noncomputable def lookN {α : Type} (l : List (Nat × α)) (n : Nat) : Option α := List.rec none (fun p _ ih => sel (Nat.beq p.1 n) (some p.2) ih) l
noncomputable def bodyT (f : Nat) : Option Code := (Tryz.prog.funcs[f]?).bind (fun x => x.body)
noncomputable def resultsT (f : Nat) : List ResultVar := match Tryz.prog.funcs[f]? with
  | some x => x.results.toList
  | none => []
noncomputable def varsT (f : Nat) : Nat := Option.casesOn (nth varsL f) 0 id
noncomputable def orderT (f id : Nat) : List Nat := Option.casesOn (obind (lookN ordL f) fun l => lookN l id) [] fun l => l
/-- The configuration without a contract. -/
noncomputable def CB : Cfg := { P := Tryz.prog, ext := fun _ => none, rtype := 356, body := bodyT, params := fun _ => [], results := resultsT, vars := varsT, insert := fun _ => none, eqOk := memN eqL, order := orderT }

theorem lookN_mem {α : Type} {l : List (Nat × α)} {n : Nat} {a : α} (h : lookN l n = some a) : (n, a) ∈ l := by
  induction l with
  | nil => cases h
  | cons p l ih =>
    have h : sel (Nat.beq p.1 n) (some p.2) (lookN l n) = some a := h
    cases hb : Nat.beq p.1 n with
    | true =>
      rw [hb] at h
      have e : p.1 = n := Nat.eq_of_beq_eq_true hb
      cases h
      subst e
      exact List.mem_cons_self
    | false => rw [hb] at h; exact List.mem_cons_of_mem _ (ih h)

theorem memN_mem {l : List Nat} {n : Nat} (h : memN l n = true) : n ∈ l := by
  induction l with
  | nil => cases h
  | cons p l ih =>
    have h : sel (Nat.beq p n) true (memN l n) = true := h
    cases hb : Nat.beq p n with
    | true => rw [Nat.eq_of_beq_eq_true hb]; exact List.mem_cons_self
    | false => rw [hb] at h; exact List.mem_cons_of_mem _ (ih h)

theorem bodies_chk : bodyChk (Tryz.prog.funcs.toList.map some) = true := by kernel_rfl

theorem cc_body (f : FuncId) (c : Code) (h : bodyT f = some c) : ∃ fn, Tryz.prog.funcs[f]? = some fn ∧ fn.body = some c ∧ (fn.name == "runtime.NumGoroutine") = false ∧ okCode fn.ntmps c = true ∧ resultsT f = fn.results.toList := by
  unfold bodyT at h
  obtain ⟨fn, hf, hc⟩ := Option.bind_eq_some_iff.1 h
  have hm : some fn ∈ Tryz.prog.funcs.toList.map some := List.mem_map.2 ⟨fn, by simpa using Array.mem_of_getElem? hf, rfl⟩
  have := List.all_eq_true.1 bodies_chk _ hm
  simp only [hc, Bool.and_eq_true, Bool.not_eq_true'] at this
  refine ⟨fn, hf, hc, this.1, this.2, ?_⟩
  unfold resultsT
  rw [hf]

theorem globals_lt : Tryz.prog.globals.size < fixedTop := Nat.le_of_ble_eq_true (show Nat.ble (Nat.succ Tryz.prog.globals.size) fixedTop = true by kernel_rfl)
theorem zero_ok : zeroChk Tryz.prog = true := by kernel_rfl
theorem fields_ok : fieldsChk Tryz.prog = true := by kernel_rfl

theorem eq_chk : eqL.all (eqChk Tryz.prog) = true := by kernel_rfl
theorem byte_chk : byteChk Tryz.prog = true := by kernel_rfl
theorem mix_ok : Tryz.prog.follows .mixedOrders = true := by kernel_rfl

theorem cb_ok : CfgOk CB Tryz.prog where
  prog := rfl
  zero := zeroChk_ok zero_ok
  fields := fieldsChk_ok fields_ok
  eq := eqChk_ok (l := eqL) (fun _ h => memN_mem h) eq_chk
  byte := byteChk_ok byte_chk
  globals := globals_lt
  body := cc_body
  mix := mix_ok
  insert := fun _ _ h => by cases h
  ext := fun _ _ h => by cases h

/-- A configuration that has contracts, and entries of the library. -/
theorem cfg_ok {C : Cfg} {ext : FuncId → Option Ext} {ins : FuncId → Option Con} (e : C = { CB with ext := ext, insert := ins })
    (hi : ∀ f t, ins f = some t → ∀ args s v s', runCon C t s args = some (v, s') → ∀ base ρ w cargs, HR Tryz.prog base ρ s w → VRs ρ args cargs →
      Calls Tryz.prog f ⟨cargs⟩ w fun e w' => ∃ c ρ', e = .returned c ∧ Goes Tryz.prog base ρ s w ρ' s' w' ∧ VR ρ' v c)
    (hx : ∀ f e, ext f = some e → ExtSound C Tryz.prog f e) : CfgOk C Tryz.prog := by
  subst e
  exact { prog := rfl, zero := cb_ok.zero, fields := cb_ok.fields, eq := eqChk_ok (l := eqL) (fun _ h => memN_mem h) eq_chk, byte := cb_ok.byte, globals := cb_ok.globals, body := cb_ok.body, mix := cb_ok.mix, insert := hi, ext := fun f e h base ρ s s' w args cargs v hr ha hv => hx f e h base ρ s s' w args cargs v hr ha hv }
end Go.Ax

