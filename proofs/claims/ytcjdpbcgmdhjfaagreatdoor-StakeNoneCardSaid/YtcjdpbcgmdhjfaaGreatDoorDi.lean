import Derived.Test.YtcjdpbcgmdhjfaaGreatDoorDa
import Derived.ChangeArms
import Derived.OpenShut
import Derived.Test.YtcjdpbcgmdhjfaaGreatDoorDf
import Derived.Test.YtcjdpbcgmdhjfaaGreatDoorDh
import Derived.Test.YtcjdpbcgmdhjfaaGreatDoorDg
import Derived.Test.YtcjdpbcgmdhjfaaGreatDoorProg
import Derived.KernelRfl
import Derived.Below
import Derived.LaidHandle
namespace Go.Ax
open Go

/-- The kinds of the cells of fields, one behind the other. -/
noncomputable def fieldKs (P : Program) (g : TypeId → Option (List IntKind)) : List Field → Nat → Option (List IntKind)
  | [], _ => some []
  | f :: fs, o => if f.offset = o then (g f.type).bind fun ks => if ks.length = P.cellsOf f.type then (fieldKs P g fs (o + ks.length)).map (ks ++ ·) else none else none

/-- The kinds of a type's cells, where all are integers. -/
noncomputable def intKs (P : Program) : Nat → TypeId → Option (List IntKind)
  | 0, _ => none
  | n + 1, t => match P.underlying t with
    | some (.int k) => some [k]
    | some (.struct fs) => (fieldKs P (intKs P n) fs.toList 0).bind fun r => if r.length = P.cellsOf t then some r else none
    | _ => none

theorem fieldKs_cons {P : Program} {g : TypeId → Option (List IntKind)} {f : Field} {fs : List Field} {o : Nat} {r : List IntKind} (h : fieldKs P g (f :: fs) o = some r) :
    ∃ ks r', f.offset = o ∧ g f.type = some ks ∧ ks.length = P.cellsOf f.type ∧ fieldKs P g fs (o + ks.length) = some r' ∧ r = ks ++ r' := by
  unfold fieldKs at h
  split at h
  · next ho =>
    obtain ⟨ks, hk, h⟩ := Option.bind_eq_some_iff.1 h
    split at h
    · next hl =>
      obtain ⟨r', hr, rfl⟩ := Option.map_eq_some_iff.1 h
      exact ⟨ks, r', ho, hk, hl, hr, rfl⟩
    · cases h
  · cases h

theorem fieldKs_mem {P : Program} {g : TypeId → Option (List IntKind)} : ∀ {fs : List Field} {o : Nat} {r : List IntKind}, fieldKs P g fs o = some r → ∀ f ∈ fs, ∃ ks, g f.type = some ks
  | [], _, _, _ => fun _ h => by cases h
  | f :: fs, o, r, h => by
    obtain ⟨ks, r', _, hk, _, hr, _⟩ := fieldKs_cons h
    intro f' hf
    rcases List.mem_cons.1 hf with rfl | hf
    · exact ⟨ks, hk⟩
    · exact fieldKs_mem hr f' hf

theorem intKs_cases {P : Program} {n : Nat} {t : TypeId} {r : List IntKind} (h : intKs P (n + 1) t = some r) :
    (∃ k, P.underlying t = some (.int k) ∧ r = [k]) ∨ (∃ fs, P.underlying t = some (.struct fs) ∧ fieldKs P (intKs P n) fs.toList 0 = some r ∧ r.length = P.cellsOf t) := by
  unfold intKs at h
  split at h
  · next k hk => cases h; exact .inl ⟨k, hk, rfl⟩
  · next fs hf =>
    obtain ⟨r', hr, h⟩ := Option.bind_eq_some_iff.1 h
    split at h
    · next hl => cases h; exact .inr ⟨fs, hf, hr, hl⟩
    · cases h
  · cases h

variable {H : Type} {enc : TypeId × Value → H} {P : Program}

theorem mapM_congr' {α β : Type} {f g : α → Option β} : ∀ {l : List α}, (∀ a ∈ l, f a = g a) → l.mapM f = l.mapM g
  | [], _ => rfl
  | a :: l, h => by
    simp only [List.mapM_cons]
    rw [h a List.mem_cons_self, mapM_congr' (l := l) fun b hb => h b (List.mem_cons_of_mem _ hb)]

/-- Integers read alike in every world. -/
theorem trod_flat : ∀ {n : Nat} {t : TypeId} {ks : List IntKind}, intKs P n t = some ks → ∀ (w w' : World) (b b' : Nat) (s s' : Nat → Bool) (h h' : Bool) (fuel : Nat) (cs : List Value),
    DataW.trod enc P w b s h fuel t cs = DataW.trod enc P w' b' s' h' fuel t cs
  | 0, _, _, hk => by cases hk
  | n + 1, t, ks, hk => by
    intro w w' b b' s s' h h' fuel cs
    cases fuel with
    | zero => rfl
    | succ m =>
      unfold DataW.trod
      rcases intKs_cases hk with ⟨k, ht, _⟩ | ⟨fs, ht, hf, _⟩
      · rw [ht]
        match cs with
        | [] => rfl
        | [v] => cases v <;> rfl
        | v :: _ :: _ => cases v <;> rfl
      · rw [ht]
        simp only
        rw [mapM_congr' (l := fs.toList) fun f hm => by
          obtain ⟨ks', hk'⟩ := fieldKs_mem hf f hm
          exact trod_flat hk' w w' b b' s s' h h' m _]

theorem Trod_flat {n : Nat} {t : TypeId} {ks : List IntKind} (hk : intKs P n t = some ks) {w w' : World} {b b' : Nat} {s s' : Nat → Bool} {h h' : Bool} {v : Value} {d : DataW H} {p : List MemPlace}
    (hd : DataW.Trod enc P w b s h t v d p) : DataW.Trod enc P w' b' s' h' t v d p := by
  obtain ⟨fuel, hd⟩ := hd
  exact ⟨fuel, by rw [← trod_flat hk w w' b b' s s' h h' fuel]; exact hd⟩

theorem zip_app {α β γ : Type} (f : α → β → γ) : ∀ {a : List α} {a' : List β} {b : List α} {b' : List β}, a.length = a'.length → List.zipWith f (a ++ b) (a' ++ b') = List.zipWith f a a' ++ List.zipWith f b b'
  | [], [], _, _, _ => rfl
  | x :: a, y :: a', _, _, h => by simp [zip_app f (a := a) (a' := a') (by simpa using h)]

theorem fields_open {g : TypeId → Option (List IntKind)} {cs : List Value} : ∀ {fs : List Field} {o : Nat} {r : List IntKind}, fieldKs P g fs o = some r →
    (∀ f ∈ fs, ∀ ks, g f.type = some ks → ∃ ns, ((cs.drop f.offset).take (P.cellsOf f.type)) = List.zipWith Value.int ks ns ∧ ns.length = ks.length) →
    ∃ ns, (cs.drop o).take r.length = List.zipWith Value.int r ns ∧ ns.length = r.length
  | [], o, r, h, _ => by cases h; exact ⟨[], by simp, rfl⟩
  | f :: fs, o, r, h, hall => by
    obtain ⟨ks, r', ho, hk, hl, hr, rfl⟩ := fieldKs_cons h
    obtain ⟨ns, e1, l1⟩ := hall f List.mem_cons_self ks hk
    obtain ⟨ns', e2, l2⟩ := fields_open hr fun f' hf => hall f' (List.mem_cons_of_mem _ hf)
    refine ⟨ns ++ ns', ?_, by simp [l1, l2]⟩
    rw [zip_app _ l1.symm, ← e1, ← e2, List.length_append, List.take_add, ho, hl, List.drop_drop]

/-- What reads as integers are integers. -/
theorem ints_open : ∀ {n : Nat} {t : TypeId} {ks : List IntKind}, intKs P n t = some ks → ∀ {w : World} {b : Nat} {s : Nat → Bool} {h : Bool} {fuel : Nat} {cs : List Value} {x : DataW H × List MemPlace},
    DataW.trod enc P w b s h fuel t cs = some x → ∃ ns, cs = List.zipWith Value.int ks ns ∧ ns.length = ks.length
  | 0, _, _, hk, _, _, _, _, _, _, _, _ => by cases hk
  | n + 1, t, ks, hk, w, b, s, h, fuel, cs, x, hx => by
    rcases intKs_cases hk with ⟨k, ht, rfl⟩ | ⟨fs, ht, hf, hl⟩
    · cases fuel with
      | zero => cases hx
      | succ m =>
        unfold DataW.trod at hx
        rw [ht] at hx
        split at hx <;> simp_all
        exact ⟨[_], by simp; rfl, rfl⟩
    · obtain ⟨xs, m, _, _, hcl, hxl, hall⟩ := DataW.trod_struct ht hx
      obtain ⟨ns, e, l⟩ := fields_open (cs := cs) hf fun f hm ks' hk' => by
        obtain ⟨i, hi, hif⟩ := List.mem_iff_getElem.1 hm
        have hi' : i < xs.length := by rw [hxl]; simpa using hi
        have := hall i f (by rw [← hif]; simp)
        rw [List.getElem?_eq_getElem hi'] at this
        exact ints_open hk' this
      refine ⟨ns, ?_, l⟩
      rw [← e, hl, ← hcl]
      simp

theorem arg_ints {n : Nat} {t : TypeId} {ks : List IntKind} (hk : intKs P n t = some ks) (h2 : 2 ≤ ks.length) {w : World} {b : Nat} {s : Nat → Bool} {h : Bool} {v : Value} {d : DataW H} {p : List MemPlace}
    (hd : DataW.Trod enc P w b s h t v d p) : ∃ ns, v = .agg (List.zipWith Value.int ks ns).toArray ∧ ns.length = ks.length := by
  obtain ⟨fuel, hd⟩ := hd
  obtain ⟨ns, e, l⟩ := ints_open hk hd
  refine ⟨ns, ?_, l⟩
  have hlen : v.cells.toList.length = ks.length := by rw [e]; simp [l]
  cases v with
  | agg cs => rw [← e]; simp [Value.cells]
  | _ => simp [Value.cells] at hlen; omega

theorem arg_int {n : Nat} {t : TypeId} {k : IntKind} (hk : intKs P n t = some [k]) {w : World} {b : Nat} {s : Nat → Bool} {h : Bool} {v : Value} {d : DataW H} {p : List MemPlace}
    (hd : DataW.Trod enc P w b s h t v d p) (hv : ∀ cs, v ≠ .agg cs) : ∃ m, v = .int k m := by
  obtain ⟨fuel, hd⟩ := hd
  obtain ⟨ns, e, l⟩ := ints_open hk hd
  obtain ⟨m, rfl⟩ := List.length_eq_one_iff.1 l
  refine ⟨m, ?_⟩
  cases v with
  | agg cs => exact absurd rfl (hv cs)
  | int k' m' => simpa [Value.cells] using e
  | _ => simp [Value.cells] at e
end Go.Ax

set_option maxRecDepth 1000000
namespace Go.Ax
open Go Go.Proofs

noncomputable def extT : List (Nat × Ext) := [(305, .add64), (334, .sub64), (259, .rlValueOf [(289, 150), (30, 130)]), (260, .rlVType [(289, 150)]), (261, .rlIsNil [(289, 150)]), (298, .rlTypeOf [(194, ()), (30, ())]), (299, .rlVElem [(289, 150, 30, 386)]), (300, .rlSet [(30, 386, 130)]), (355, .rlTKind [(30, 2), (289, 22)]), (378, .rlAssignable [(194, 30, false), (30, 30, true)]), (380, .rlElem [(289, 30)]), (381, .rlImplements [(30, 119, true)])]
noncomputable def insT : List (Nat × Con) := [(211, .insert 205), (296, .insert 211)]
noncomputable def varsL : List Nat := [0, 0, 1, 8, 8, 13, 9, 9, 8, 9, 14, 7, 5, 1, 7, 7, 7, 6, 7, 4, 7, 6, 8, 5, 3, 3, 5, 3, 3, 9, 9, 20, 5, 10, 10, 10, 11, 7, 7, 9, 5, 7, 4, 15, 18, 14, 7, 18, 3, 7, 11, 46, 3, 11, 49, 8, 6, 7, 11, 7, 14, 4, 6, 4, 30, 13, 10, 7, 13, 7, 19, 13, 12, 15, 9, 30, 3, 3, 3, 6, 3, 15, 12, 12, 5, 5, 5, 5, 7, 7, 3, 7, 10, 8, 9, 10, 7, 11, 9, 6, 1, 10, 1, 15, 9, 3, 8, 9, 5, 10, 8, 11, 9, 4, 5, 4, 4, 3, 3, 3, 3, 12, 8, 8, 4, 13, 3, 9, 10, 3, 9, 17, 15, 6, 1, 21, 8, 6, 14, 13, 3, 5, 5, 20, 19, 5, 7, 3, 6, 3, 9, 13, 5, 9, 8, 11, 5, 10, 7, 7, 3, 3, 3, 5, 3, 3, 3, 15, 2, 2, 5, 5, 5, 9, 6, 6, 7, 6, 11, 3, 6, 7, 3, 7, 10, 11, 6, 10, 19, 4, 6, 8, 3, 3, 21, 5, 6, 10, 3, 10, 19, 8, 11, 8, 3, 3, 3, 10, 3, 6, 8, 10, 9, 6, 3, 7, 8, 4, 7, 3, 2, 6, 3, 7, 2, 3, 4, 4, 11, 6, 10, 5, 6, 7, 9, 15, 12, 13, 6, 6, 3, 8, 5, 8, 7, 17, 3, 5, 9, 12, 12, 10, 3, 8, 5, 3, 12, 17, 2, 0, 0, 0, 51, 9, 24, 94, 9, 5, 9, 4, 30, 0, 2, 12, 6, 8, 14, 19, 13, 8, 12, 5, 11, 12, 7, 5, 25, 11, 3, 3, 9, 9, 7, 8, 9, 8, 10, 14, 0, 0, 0, 3, 5, 3, 2, 0, 3, 6, 4, 23, 7, 11, 3, 2, 3, 2, 9, 5, 0, 2, 6, 8, 8, 9, 7, 4, 3, 10, 11, 10, 5, 3, 6, 10, 0, 2, 10, 3, 7, 8, 4, 0, 0, 0, 0, 0, 0, 0, 0, 0, 0, 0, 0, 0, 0, 0, 0, 0, 0, 0, 0, 0, 3, 6, 6, 0, 9, 4, 6, 3, 7, 0, 0, 0, 0, 0, 3, 0, 0, 0, 0, 0, 0, 0, 0, 0, 0, 0, 0, 0, 0, 0, 0, 0, 1]
noncomputable def ordL : List (Nat × List (Nat × List Nat)) := [(3, [(5, [0, 1, 2, 3, 4, 5, 6, 7, 8, 9, 10, 11, 12, 13, 14, 15, 16, 17, 18, 19]), (9, [0, 1, 2, 3, 4, 5, 6, 7, 8, 9, 10, 11, 12, 13, 14, 15, 16, 17, 18, 19, 20, 21])]), (5, [(5, [0, 1, 2, 3, 4, 5, 6, 7, 8, 9, 10, 11]), (6, [0, 1, 2, 3, 5, 6, 4, 7, 8, 9, 10, 11, 12, 13, 14, 15, 16, 17])]), (6, [(1, [0, 1, 2, 3, 5, 6, 7, 8, 4, 9, 10, 11, 12, 13, 14])]), (7, [(9, [0, 1, 2, 3, 4, 5, 6, 7, 8, 9, 10, 11, 12, 13, 14, 15, 16, 17, 18, 19, 20, 21, 22])]), (8, [(7, [0, 1, 2, 3, 4, 5, 6, 7, 8, 9, 10, 11, 12, 13, 14, 15])]), (11, [(5, [0, 1, 2, 3, 4, 5, 6, 7, 8, 9])]), (14, [(5, [0, 1, 2, 3, 4, 5, 6, 7, 8, 9])]), (17, [(5, [0, 1, 3, 4, 2, 6, 5, 7, 8, 9])]), (18, [(5, [0, 1, 2, 3, 4, 5, 6, 7, 8, 9])]), (30, [(3, [0, 1, 2, 3, 4, 5, 6])]), (31, [(3, [0, 1, 2, 3, 4, 5, 6, 7, 8]), (8, [0, 3, 4, 1, 2, 5, 6, 7, 8]), (6, [0, 1, 2, 3, 4, 5, 6, 7, 8]), (9, [0, 1, 2, 3, 4, 5, 6, 7, 8, 9, 10, 11, 12, 13, 14, 15, 16, 17, 18, 19, 20, 21])]), (41, [(5, [0, 1, 2, 3, 4, 5, 6, 7, 8, 9])]), (45, [(2, [0, 1, 2, 3, 4, 7, 8, 10, 11, 12, 13, 14, 16, 17, 18, 5, 6, 9, 15, 19, 20, 21, 22])]), (46, [(5, [0, 1, 2, 3, 4, 5, 6, 7, 8, 9])]), (49, [(1, [0, 1, 2, 3, 4, 5, 6, 7, 8, 9, 10, 11])]), (50, [(1, [0, 1, 2, 3, 4, 5, 6, 7, 8, 9, 10, 11, 12, 13, 14, 15, 16, 17])]), (53, [(1, [0, 1, 2, 3, 4, 5, 6, 7, 8, 9, 10, 11, 12, 13, 14, 15, 16])]), (54, [(13, [0, 1, 2, 3, 4, 5, 6, 7, 8, 9, 10, 11])]), (55, [(5, [0, 1, 2, 3, 4, 5, 6, 7, 8, 9]), (4, [0, 1, 2, 3, 4, 5, 6, 7, 8, 9]), (6, [0, 1, 2, 3, 4, 5, 6, 7, 8, 9]), (7, [0, 1, 2, 3, 4, 5, 6, 7, 8, 9])]), (57, [(1, [0, 1, 2, 3, 4, 5, 6, 7, 8, 9, 10, 11, 12, 13, 14, 15, 16, 17, 18, 19, 20, 21])]), (59, [(1, [0, 1, 2, 3, 4, 5, 6, 7, 8, 9, 10, 11, 12, 13, 14, 15])]), (61, [(1, [0, 1, 3, 4, 5, 6, 7, 8, 9, 10, 2, 11])]), (62, [(1, [0, 1, 2, 3, 4, 5, 6, 7, 8, 9, 10, 11, 12, 13, 14, 15, 16, 17, 18])]), (64, [(1, [0, 1, 2, 3, 4, 5, 6, 7, 8, 9, 10, 11, 12, 13, 14, 15, 16, 17, 18, 19, 20]), (5, [0, 1, 2, 3, 4, 5, 6, 7, 8, 9, 10, 11, 12, 13, 14, 15])]), (65, [(8, [0, 1, 2, 3, 4, 5, 7, 1006, 8, 9])]), (67, [(1, [0, 1, 2, 3, 4, 5, 6, 7, 8, 9, 10, 11, 12, 13, 14, 15, 16, 17, 18, 19, 20])]), (68, [(8, [0, 1, 2, 4, 5, 6, 3, 7, 8, 9, 10])]), (69, [(1, [0, 2, 3, 4, 5, 7, 8, 9, 10, 11, 1, 6, 12, 13])]), (81, [(6, [0, 1, 2, 3, 4])]), (83, [(2, [0, 1, 2, 3, 5, 6, 8, 9, 10, 4, 7, 11, 12, 13, 14])]), (88, [(5, [0, 1, 2, 3, 4, 5, 6, 7, 8, 9])]), (89, [(5, [0, 1, 2, 3, 4, 5, 6, 7, 8, 9])]), (94, [(4, [0, 1, 2, 3])]), (95, [(1, [0, 1, 2, 3, 4, 5, 6, 7, 8, 9, 10, 11, 12, 13, 14, 15, 16, 17, 18, 19, 20, 21, 22, 23]), (3, [0, 1, 2, 3, 4, 5, 6, 7, 8, 9, 10, 11, 12])]), (96, [(5, [0, 1, 2, 3, 4, 5, 6, 7, 8, 9])]), (106, [(1, [0, 1, 2, 3, 4, 5, 6, 7, 8, 9, 10, 11, 12])]), (107, [(1, [0, 3, 6, 13, 14, 15, 16, 17, 18, 19, 20, 21, 22, 1, 2, 4, 5, 7, 8, 9, 10, 11, 12, 23, 24, 25])]), (108, [(1, [0, 1, 2, 3, 4, 5, 6, 7, 8, 9, 10, 11, 12, 13, 14, 15])]), (110, [(1, [0, 1, 2, 3, 4, 5, 6, 7, 8, 9, 10, 11, 12, 13, 14, 15, 16, 17, 18, 19, 20, 21, 22, 23])]), (111, [(15, [0, 2, 1, 3, 4, 5, 6]), (11, [0, 2, 5, 1, 3, 4, 6, 7])]), (120, [(1, [0, 1, 3, 4, 2, 5, 6, 7, 8])]), (122, [(5, [0, 1, 2, 3, 4, 5, 6, 7, 8, 9]), (7, [0, 1, 2, 3, 4, 5, 6, 7, 8, 9, 10, 11, 12, 13, 14, 15])]), (125, [(6, [0, 1, 2, 3, 4, 5])]), (131, [(0, [0, 1, 2, 3, 4, 5, 6, 7, 8, 9, 10, 11, 12, 13])]), (137, [(1, [0, 1, 2, 3, 4, 5, 6, 7, 8, 9])]), (139, [(6, [0, 1, 2, 3, 4, 5])]), (141, [(1, [0, 1, 2, 3, 4, 5, 6, 7, 8, 9, 10, 11, 12])]), (148, [(1, [0, 1, 2, 3, 4, 5, 6, 7, 8, 9, 10, 11])]), (150, [(1, [0, 1, 2, 3, 4, 5, 6, 7, 8, 9, 10, 11, 12, 13])]), (153, [(1, [0, 2, 4, 5, 6, 1, 3, 7, 8, 9])]), (154, [(1, [0, 1, 2, 3, 4, 5, 6, 7, 8, 9, 10, 11, 12, 13, 14, 15, 16, 17, 18, 19, 20, 21, 22, 23])]), (155, [(15, [0, 1, 2, 3, 4, 5, 6]), (17, [0, 2, 1, 3, 4, 5, 6])]), (158, [(5, [0, 1, 2, 3, 4, 5, 6, 7, 8, 9])]), (159, [(5, [0, 1, 2, 3, 4, 5, 6, 7, 8, 9])]), (165, [(1, [0, 1, 2, 3, 4, 5, 6, 7, 8, 9, 10, 11, 12, 13, 14, 15, 16])]), (166, [(1, [0, 1, 2, 3, 4, 5, 6, 7, 8, 9, 10, 11, 12, 13, 14, 15, 16])]), (167, [(9, [0, 1, 2, 3, 4, 5, 6, 7, 8, 9, 10, 11, 12, 13, 14, 15, 16, 17, 18, 19, 20, 21, 22, 23, 24, 25])]), (172, [(1, [0, 1, 2, 3, 4, 5, 6, 7, 8, 9, 10, 11, 12, 13, 14, 15, 16, 17, 18, 19, 20])]), (173, [(9, [0, 2, 1, 3, 4, 5, 6])]), (174, [(1, [0, 1, 2, 3, 4, 5, 6, 7, 8, 9, 10, 11, 12, 13, 14, 15, 16, 17, 18, 19, 20, 21, 22, 23, 24, 25, 26])]), (179, [(1, [0, 1, 19, 20, 21, 22, 23, 24, 25, 26, 27, 28, 29, 30, 31, 32, 33, 34, 35, 36, 37, 38, 2, 3, 4, 5, 6, 7, 8, 9, 10, 11, 12, 13, 14, 15, 16, 17, 18, 39, 40, 41])]), (180, [(5, [0, 1, 2, 3, 4, 5, 6, 7, 8, 9, 10, 11, 12, 13, 14])]), (187, [(1, [0, 1, 2, 3, 4, 5, 6, 7, 8, 9, 10, 11, 12, 13, 14, 15]), (3, [0, 1, 2, 3, 4, 5, 6, 7, 8])]), (189, [(1, [0, 1, 2, 3, 4, 5, 6, 7, 8])]), (194, [(8, [0, 1, 2, 3, 4, 5])]), (196, [(3, [0, 1, 2, 3, 4, 5, 6, 7, 8, 9])]), (197, [(5, [0, 1, 2, 3, 4, 5, 6, 7])]), (199, [(1, [0, 1, 2, 3, 4, 5, 6, 8, 9, 10, 7, 11, 12, 13, 14, 15, 16, 17, 18, 19]), (3, [0, 1, 2, 3, 4, 5, 6, 7, 8])]), (200, [(17, [0, 1, 2, 3, 5, 4, 6, 7])]), (201, [(2, [0, 1, 2, 3, 4, 5, 6, 7, 8, 10, 9, 11, 12, 13, 14, 15, 16, 17, 19, 20, 18, 21, 22]), (1, [0, 1, 2, 3, 4, 5, 6, 7, 8]), (4, [0, 1, 2, 3, 4, 5, 6, 7, 8, 9, 10, 11, 12, 13, 14, 15, 16, 17, 18, 19, 20])]), (206, [(1, [0, 1, 2, 3, 4, 6, 7, 8, 10, 11, 12, 5, 9, 13, 14, 15, 16, 17, 18, 19, 20, 21])]), (210, [(5, [0, 1, 2, 3, 4, 5, 6, 7])]), (211, [(11, [0, 1, 2, 3, 4, 5, 6, 7, 8]), (15, [0, 1, 2, 3, 4, 5, 6, 7, 8])]), (213, [(4, [0, 1, 2, 3, 4, 5, 6, 7, 8, 9, 10, 11, 12, 13, 14, 15, 16, 17, 18, 19, 20, 21])]), (216, [(1, [0, 1, 2, 3, 4, 5, 6, 7, 8, 9, 10, 11, 12])]), (221, [(6, [0, 1, 2, 3, 4, 5, 6, 7, 8, 9, 10])]), (227, [(1, [0, 1, 2, 3, 4, 5, 6, 7, 8, 9, 10, 11])]), (231, [(1, [0, 1, 2, 3, 4, 5, 6, 7, 8, 9, 10, 11, 12, 13])]), (234, [(6, [0, 1, 3, 4, 5, 2, 6, 7])]), (236, [(6, [0, 1, 2, 3])]), (237, [(6, [0, 1, 2, 3, 4, 5])]), (238, [(4, [0, 1, 2, 3, 4])]), (239, [(4, [0, 1, 2, 3, 4, 5, 6, 7, 8, 9, 10, 11, 12])]), (246, [(1, [0, 1, 2, 4, 5, 6, 8, 9, 10, 12, 13, 14, 16, 17, 18, 20, 21, 22, 24, 25, 26, 28, 29, 30, 32, 33, 34, 36, 37, 38, 40, 41, 42, 3, 7, 11, 15, 19, 23, 27, 31, 35, 39, 43, 44, 45])]), (251, [(7, [0, 1, 2, 3, 4, 5, 6, 7, 8, 9, 10, 11, 12, 13, 14, 15, 16])]), (258, [(0, [0, 1, 2, 3, 4, 5, 6, 7, 8, 9, 10, 11, 12, 13])]), (264, [(9, [0, 1, 2, 3, 4, 5, 6, 7, 8, 9, 10, 11, 12, 13, 14, 15, 16, 17, 18])]), (265, [(22, [0, 1, 2, 3, 4, 5, 6, 7, 8, 9, 10, 11]), (9, [0, 1, 2, 3, 4, 5, 6, 7, 8, 9, 10, 11, 12, 13, 14, 15, 16]), (15, [0, 1, 2, 3, 4, 5, 6, 7, 8, 9, 10, 11])]), (277, [(6, [0, 1, 2, 3, 4, 5, 6, 7])]), (279, [(2, [0, 1, 2, 3, 4, 5, 6, 7, 8, 9])]), (294, [(5, [0, 1, 2, 3, 4, 5, 6, 7, 8, 9, 10, 11, 12, 13, 14, 15, 16, 17])]), (295, [(5, [0, 1, 2, 3, 4, 5, 6, 7])]), (296, [(11, [0, 1, 2, 3, 4, 5, 6, 7, 8]), (15, [0, 1, 2, 3, 4, 5, 6, 7, 8])]), (302, [(1, [0, 1, 2, 3, 5, 6, 7, 8, 4, 9, 10, 11, 12])]), (312, [(1, [0, 1, 2, 3, 4, 5, 6, 7, 8, 9, 10])]), (325, [(3, [0, 1, 2, 3, 4, 5, 6, 7, 8, 9, 10, 11, 12, 13, 14, 15])]), (333, [(2, [0, 1, 2, 3, 4, 5, 6, 7, 8, 9, 11, 12, 13, 16, 10, 14, 15, 17, 18])]), (340, [(3, [0, 1, 2, 3, 4, 5, 6, 7, 8, 9, 10, 11, 12, 13, 14, 15])]), (366, [(1, [0, 1, 2, 3, 4, 5, 6, 7, 8, 9, 10, 11, 12, 13])]), (367, [(1, [0, 1, 2, 3, 4, 5, 6, 7, 8, 9, 10, 11, 12, 13]), (2, [0, 1, 2, 3, 4, 5, 6, 7, 8, 9, 10, 11, 12, 13, 14])]), (368, [(2, [0, 1, 2, 3, 4, 5, 6, 7, 8, 9, 10])]), (369, [(0, [0, 1, 2, 3, 4, 5, 6, 7, 8, 9, 10, 11, 12, 13, 14, 15])]), (370, [(1, [0, 1, 2, 3, 4, 5, 6, 7, 8, 9, 10, 11])])]
noncomputable def eqL : List Nat := [285, 261, 211, 205, 173, 131, 148, 61, 203, 89, 59, 53, 42, 38, 35, 77, 91]
noncomputable def memN (l : List Nat) (n : Nat) : Bool := List.rec false (fun p _ ih => sel (Nat.beq p n) true ih) l
noncomputable def lookN {α : Type} (l : List (Nat × α)) (n : Nat) : Option α := List.rec none (fun p _ ih => sel (Nat.beq p.1 n) (some p.2) ih) l
noncomputable def bodyT (f : Nat) : Option Code := (Tryz.prog.funcs[f]?).bind (fun x => x.body)
noncomputable def resultsT (f : Nat) : List ResultVar := match Tryz.prog.funcs[f]? with
  | some x => x.results.toList
  | none => []
noncomputable def varsT (f : Nat) : Nat := Option.casesOn (nth varsL f) 0 id
noncomputable def orderT (f id : Nat) : List Nat := Option.casesOn (obind (lookN ordL f) fun l => lookN l id) [] fun l => l
noncomputable def CC : Cfg := { P := Tryz.prog, ext := lookN extT, rtype := 420, body := bodyT, params := fun _ => [], results := resultsT, vars := varsT, insert := lookN insT, eqOk := memN eqL, order := orderT }
noncomputable def st0 : St := St.mk (.s 15 0) (.s 15 0) 64
noncomputable def isTrue : Option (Value × St) → Bool
  | some (.bool true, _) => true
  | _ => false

theorem lookN_mem {α : Type} {l : List (Nat × α)} {n : Nat} {a : α} (h : lookN l n = some a) : (n, a) ∈ l := by
  induction l with
  | nil => cases h
  | cons p l ih =>
    have h : sel (Nat.beq p.1 n) (some p.2) (lookN l n) = some a := h
    cases hb : Nat.beq p.1 n with
    | true =>
      rw [hb] at h
      have e : p.1 = n := Nat.eq_of_beq_eq_true hb
      cases h
      subst e
      exact List.mem_cons_self
    | false => rw [hb] at h; exact List.mem_cons_of_mem _ (ih h)

theorem memN_mem {l : List Nat} {n : Nat} (h : memN l n = true) : n ∈ l := by
  induction l with
  | nil => cases h
  | cons p l ih =>
    have h : sel (Nat.beq p n) true (memN l n) = true := h
    cases hb : Nat.beq p n with
    | true => rw [Nat.eq_of_beq_eq_true hb]; exact List.mem_cons_self
    | false => rw [hb] at h; exact List.mem_cons_of_mem _ (ih h)

theorem bodies_chk : bodyChk (Tryz.prog.funcs.toList.map some) = true := by kernel_rfl

theorem cc_body (f : FuncId) (c : Code) (h : bodyT f = some c) : ∃ fn, Tryz.prog.funcs[f]? = some fn ∧ fn.body = some c ∧ (fn.name == "runtime.NumGoroutine") = false ∧ okCode fn.ntmps c = true ∧ resultsT f = fn.results.toList := by
  unfold bodyT at h
  obtain ⟨fn, hf, hc⟩ := Option.bind_eq_some_iff.1 h
  have hm : some fn ∈ Tryz.prog.funcs.toList.map some := List.mem_map.2 ⟨fn, by simpa using Array.mem_of_getElem? hf, rfl⟩
  have := List.all_eq_true.1 bodies_chk _ hm
  simp only [hc, Bool.and_eq_true, Bool.not_eq_true'] at this
  refine ⟨fn, hf, hc, this.1, this.2, ?_⟩
  unfold resultsT
  rw [hf]

theorem globals_lt : Tryz.prog.globals.size < fixedTop := Nat.le_of_ble_eq_true (show Nat.ble (Nat.succ Tryz.prog.globals.size) fixedTop = true by kernel_rfl)

theorem all1 {α : Type} {a : α} {p : α → Prop} (h : p a) : ∀ q ∈ [a], p q := fun q hq => by
  rcases List.mem_cons.1 hq with e | e
  · exact e ▸ h
  · exact absurd e List.not_mem_nil
theorem all2 {α : Type} {a b : α} {p : α → Prop} (h : p a) (k : p b) : ∀ q ∈ [a, b], p q := fun q hq => by
  rcases List.mem_cons.1 hq with e | e
  · exact e ▸ h
  · exact all1 k q e

section
open Go.Extern
theorem x259 : ExtSound CC Tryz.prog 259 (.rlValueOf [(289, 150), (30, 130)]) :=
  rlValueOf_sound rfl globals_lt (by kernel_rfl) (by kernel_rfl) (all2 (fun a w => by kernel_rfl) (fun a w => by kernel_rfl))
theorem x260 : ExtSound CC Tryz.prog 260 (.rlVType [(289, 150)]) :=
  rlVType_sound (e := ReflectliteValue.methodAny (ReflectliteValue.valueError "reflectlite.Value.Type" 0) fun t _ _ _ => ReflectliteType.toType t) rfl globals_lt (by kernel_rfl) (by kernel_rfl) (all1 fun a w => by kernel_rfl)
theorem x261 : ExtSound CC Tryz.prog 261 (.rlIsNil [(289, 150)]) :=
  rlIsNil_sound rfl globals_lt (by kernel_rfl) (by kernel_rfl) (all1 fun a w => by kernel_rfl) (all1 (by decide))
theorem x298 : ExtSound CC Tryz.prog 298 (.rlTypeOf [(194, ()), (30, ())]) :=
  rlTypeOf_sound rfl globals_lt (by kernel_rfl) (by kernel_rfl) (all2 (fun w => by kernel_rfl) (fun w => by kernel_rfl))
theorem x299 : ExtSound CC Tryz.prog 299 (.rlVElem [(289, 150, 30, 386)]) :=
  rlVElem_sound rfl globals_lt (by kernel_rfl) (by kernel_rfl) (all1 fun a w => by kernel_rfl) (all1 (by decide)) (all1 fun w => by kernel_rfl) (all1 fun a w => by kernel_rfl)
theorem x300 : ExtSound CC Tryz.prog 300 (.rlSet [(30, 386, 130)]) :=
  rlSet_sound rfl globals_lt (by kernel_rfl) (by kernel_rfl) (all1 fun a w => ⟨by kernel_rfl, by kernel_rfl⟩) (all1 (by decide)) (all1 fun w => by kernel_rfl)
theorem x355 : ExtSound CC Tryz.prog 355 (.rlTKind [(30, 2), (289, 22)]) :=
  rlTKind_sound (e := ReflectliteType.abiMethod fun t => do pure (.int .u8 (← Rtype.kind t))) rfl globals_lt (by kernel_rfl) (by kernel_rfl) (all2 (fun w => by kernel_rfl) (fun w => by kernel_rfl))
theorem x378 : ExtSound CC Tryz.prog 378 (.rlAssignable [(194, 30, false), (30, 30, true)]) :=
  rlAssignable_sound (e := ReflectliteType.relation "AssignableTo" ReflectliteType.assignableTo) rfl globals_lt (by kernel_rfl) (by kernel_rfl) (all2 (fun w => by kernel_rfl) (fun w => by kernel_rfl))
theorem x380 : ExtSound CC Tryz.prog 380 (.rlElem [(289, 30)]) :=
  rlElem_sound rfl globals_lt (by kernel_rfl) (by kernel_rfl) (all1 fun w => by kernel_rfl)
theorem x381 : ExtSound CC Tryz.prog 381 (.rlImplements [(30, 119, true)]) :=
  rlImplements_sound (e := ReflectliteType.relation "Implements" ReflectliteType.implements_) rfl globals_lt (by kernel_rfl) (by kernel_rfl) (all1 fun w => by kernel_rfl)
end

theorem w211 : InsWalks Tryz.prog 211 271 64 3 6 := ⟨ins211_place, ins211_end, ins211_grow⟩
theorem w296 : InsWalks Tryz.prog 296 318 65 3 6 := ⟨ins296_place, ins296_end, ins296_grow⟩

theorem cc_insert : ∀ f t, lookN insT f = some t → ∀ args s v s', runCon CC t s args = some (v, s') → ∀ base ρ w cargs, HR Tryz.prog base ρ s w → VRs ρ args cargs →
    Calls Tryz.prog f ⟨cargs⟩ w fun e w' => ∃ c ρ', e = .returned c ∧ Goes Tryz.prog base ρ s w ρ' s' w' ∧ VR ρ' v c := by
  intro f t h args s v s' hv base ρ w cargs hr ha
  have h := lookN_mem h
  unfold insT at h
  rcases List.mem_cons.1 h with h | h
  · cases h
    exact insert_sound (sz := 6) (ps := #[64, 64]) (rs := #[4]) w211 rfl (by kernel_rfl) (by kernel_rfl) (by kernel_rfl) (by kernel_rfl) (by kernel_rfl) rfl (by kernel_rfl) hv hr ha
  · rcases List.mem_cons.1 h with h | h
    · cases h
      exact insert_sound (sz := 6) (ps := #[65, 65]) (rs := #[4]) w296 rfl (by kernel_rfl) (by kernel_rfl) (by kernel_rfl) (by kernel_rfl) (by kernel_rfl) rfl (by kernel_rfl) hv hr ha
    · exact absurd h List.not_mem_nil

/-- each of the list's entries is sound -/
def AllExt (P : Program) (C : Cfg) : List (Nat × Ext) → Prop
  | [] => True
  | q :: l => ExtSound C P q.1 q.2 ∧ AllExt P C l
theorem ext_all {P : Program} {C : Cfg} : ∀ {l : List (Nat × Ext)}, AllExt P C l → ∀ f e, lookN l f = some e → ExtSound C P f e := by
  intro l hl f e h
  replace h := lookN_mem h
  induction l with
  | nil => cases h
  | cons q l ih =>
    rcases List.mem_cons.1 h with h | h
    · subst h; exact hl.1
    · exact ih hl.2 h

theorem cc_ok : CfgOk CC Tryz.prog where
  prog := rfl
  zero := zeroChk_ok (by kernel_rfl)
  fields := fieldsChk_ok (by kernel_rfl)
  eq := eqChk_ok (l := eqL) (fun _ h => memN_mem h) (by kernel_rfl)
  byte := byteChk_ok (by kernel_rfl)
  globals := Nat.le_of_ble_eq_true (show Nat.ble (Nat.succ Tryz.prog.globals.size) fixedTop = true by kernel_rfl)
  body := cc_body
  mix := by kernel_rfl
  insert := cc_insert
  ext := ext_all (l := extT) ⟨add64_sound (by kernel_rfl) (by kernel_rfl), sub64_sound (by kernel_rfl) (by kernel_rfl), x259, x260, x261, x298, x299, x300, x355, x378, x380, x381, trivial⟩
end Go.Ax

namespace Go.Ax
open Go

/-- Nothing is laid yet. -/
theorem hr0 (P : Program) (W : World) : HR P W.heap.size (fun _ => none) st0 W where
  dom := fun _ _ h => by cases h
  next := Nat.le_refl 64
  base_le := Nat.le_refl _
  low := fun i _ h => by
    exfalso; apply h
    show (St.mk (.s 15 0) (.s 15 0) 64).tag i = none
    simp [St.tag, Hp.get_s]
  heap_dom := fun i r h => by rw [show st0.heap.get i = none from Hp.get_s _ _ i] at h; cases h
  fam_dom := fun i _ _ _ h => by rw [show st0.heap.get i = none from Hp.get_s _ _ i] at h; cases h
  rows := fun i cs e f h => by
    exfalso
    have h : (St.mk (.s 15 0) (.s 15 0) 64).cells i = some (cs, e, f) := h
    unfold St.cells at h
    rw [show (St.mk (.s 15 0) (.s 15 0) 64).heap.get i = none from Hp.get_s _ _ i] at h
    cases h
  maps := fun i _ _ h => by rw [show st0.heap.get i = none from Hp.get_s _ _ i] at h; cases h
  loops := fun i _ h => by rw [show st0.heap.get i = none from Hp.get_s _ _ i] at h; cases h
  sep := fun i _ a _ _ _ h => by
    exfalso
    have h : (St.mk (.s 15 0) (.s 15 0) 64).tag i = some a := h
    simp [St.tag, Hp.get_s] at h

theorem isTrue_some {r : Option (Value × St)} (h : isTrue r = true) : ∃ s, r = some (.bool true, s) := by
  match r, h with
  | some (.bool true, s), _ => exact ⟨s, rfl⟩

/-- What the executor comes to without an argument, the program does. -/
theorem calls_of_run {n : Nat} {f : FuncId} (h : isTrue ((jRunN CC n).1 f [] st0) = true) (W : World) :
    Calls Go.Proofs.Tryz.prog f #[] W fun e w' => e = .returned (.bool true) ∧ RowKit.Below W.heap.size W w' := by
  obtain ⟨s, h⟩ := isTrue_some h
  rw [jRunN_eq] at h
  refine ((runN_ok cc_ok n).1 f [] st0 _ s h W.heap.size _ W [] (hr0 _ W) .nil).mono ?_
  rintro e w' ⟨c, ρ', rfl, hg, hv⟩
  cases hv
  exact ⟨rfl, hg.below (hr0 _ W)⟩
end Go.Ax

namespace Go.Ax
open Go

/-- What the executor comes to at arguments that hold no place, the program does. -/
theorem calls_of_runA {n : Nat} {f : FuncId} {args cargs : List Value} (h : isTrue ((jRunN CC n).1 f args st0) = true) (hv : VRs (fun _ => none) args cargs) (W : World) :
    Calls Go.Proofs.Tryz.prog f ⟨cargs⟩ W fun e w' => e = .returned (.bool true) ∧ RowKit.Below W.heap.size W w' := by
  obtain ⟨s, h⟩ := isTrue_some h
  rw [jRunN_eq] at h
  refine ((runN_ok cc_ok n).1 f args st0 _ s h W.heap.size _ W cargs (hr0 _ W) hv).mono ?_
  rintro e w' ⟨c, ρ', rfl, hg, hv⟩
  cases hv
  exact ⟨rfl, hg.below (hr0 _ W)⟩
end Go.Ax

namespace Go.Ax
open Go Go.Proofs

/-- The variable errors.errorType holds the handle of 'error'; t is what its block's elements are said to be. -/
noncomputable def row0 : List Value := [.iface 420 (.agg ⟨[handle Tryz.prog 119]⟩)]
noncomputable def st1 (t : TypeId) : St := { heap := Hp.set (.s 15 0) 0 (.row row0 t 0), fams := .s 15 0, next := 64 }

/-- The same, of a world. -/
def Laid (W : World) : Prop := ∃ (t : TypeId) (fz : Nat × Nat), W.heap[0]? = some (.cells #[.iface 420 (.agg #[hdl Tryz.prog 119])] t fz)

theorem row0_vrs (ρ : Ren) : VRs ρ row0 [.iface 420 (.agg #[hdl Tryz.prog 119])] :=
  .cons (.iface _ (.agg (.cons (handle_vr ρ globals_lt 119) .nil))) .nil

theorem st1_get (t i : Nat) : (st1 t).heap.get i = if i = 0 then some (.row row0 t 0) else none := by
  show (Hp.set (Hp.s 15 0) 0 (Row.row row0 t 0)).get i = _
  rw [Hp.get_set, Hp.get_s]

theorem st1_tag (t i : Nat) {a : Nat × Nat} (h : (st1 t).tag i = some a) : i = 0 := by
  unfold St.tag at h
  rw [st1_get] at h
  by_cases hi : i = 0
  · exact hi
  · rw [if_neg hi] at h; cases h

theorem hr1 {W : World} {t : TypeId} {fz : Nat × Nat} (hg : W.heap[0]? = some (.cells #[.iface 420 (.agg #[hdl Tryz.prog 119])] t fz)) : HR Tryz.prog W.heap.size (fun _ => none) (st1 t) W where
  dom := fun _ _ h => by cases h
  next := Nat.le_refl 64
  base_le := Nat.le_refl _
  low := fun i _ h => by
    cases ht : (st1 t).tag i with
    | none => exact absurd ht h
    | some a =>
      rw [st1_tag t i ht]
      exact ⟨(Array.getElem?_eq_some_iff.1 hg).1, by decide⟩
  heap_dom := fun i r h => by
    rw [st1_get] at h
    by_cases hi : i = 0
    · subst hi; show 0 < 64; omega
    · rw [if_neg hi] at h; cases h
  fam_dom := fun i cs e f h => by
    rw [st1_get] at h
    by_cases hi : i = 0
    · rw [if_pos hi] at h; cases h; show 0 < 64; omega
    · rw [if_neg hi] at h; cases h
  rows := fun i cs e f h => by
    obtain ⟨h1, _⟩ := cells_some.1 h
    rw [st1_get] at h1
    by_cases hi : i = 0
    · rw [if_pos hi] at h1
      cases h1
      subst hi
      refine ⟨⟨0, 0, 0⟩, Ren.at_low (by show 0 < 64; omega), _, fz, hg, fun j x hj => ?_, fun h => absurd h (by show ¬ 64 ≤ 0; omega), fun _ => ⟨rfl, rfl, fun h => absurd h (by show ¬ 64 ≤ 0; omega)⟩, fun h => absurd rfl h⟩
      obtain ⟨y, hy, hv⟩ := (row0_vrs (fun _ => none)).get hj
      refine ⟨y, ?_, hv⟩
      simpa using hy
    · rw [if_neg hi] at h1; cases h1
  maps := fun i es c h => by
    rw [st1_get] at h
    by_cases hi : i = 0
    · rw [if_pos hi] at h; cases h
    · rw [if_neg hi] at h; cases h
  loops := fun i r h => by
    rw [st1_get] at h
    by_cases hi : i = 0
    · rw [if_pos hi] at h; cases h
    · rw [if_neg hi] at h; cases h
  sep := fun i j a b l l' hi hj hab hl hl' => by
    have e1 := st1_tag t i hi
    have e2 := st1_tag t j hj
    subst e1 e2
    rw [hi] at hj
    exact absurd (Option.some.inj hj) hab

/-- What the executor comes to at arguments that hold no place, where the variable is laid, the program does. -/
theorem calls_of_runL {C : Cfg} (hK : CfgOk C Tryz.prog) {n : Nat} {f : FuncId} {args cargs : List Value} (h : ∀ t, isTrue ((jRunN C n).1 f args (st1 t)) = true) (hv : VRs (fun _ => none) args cargs) {W : World} (hL : Laid W) :
    Calls Tryz.prog f ⟨cargs⟩ W fun e w' => e = .returned (.bool true) ∧ RowKit.Below W.heap.size W w' := by
  obtain ⟨t, fz, hg⟩ := hL
  obtain ⟨s, h⟩ := isTrue_some (h t)
  rw [jRunN_eq] at h
  refine ((runN_ok hK n).1 f args (st1 t) _ s h W.heap.size _ W cargs (hr1 hg) hv).mono ?_
  rintro e w' ⟨c, ρ', rfl, hg', hv⟩
  cases hv
  exact ⟨rfl, hg'.below (hr1 hg)⟩

/-- Where nothing below the heap's old end has turned, all that was known stands. -/
theorem Goes.of_below {P : Program} {base : Nat} {ρ : Ren} {s : St} {w w' : World} (h : HR P base ρ s w) (hb : RowKit.Below w.heap.size w w') : Goes P base ρ s w ρ s w' := by
  refine ⟨Ren.le_refl ρ, ?_, hb.os, hb.tape, hb.output, hb.size, Nat.le_refl _, fun b hlt _ => hb.block b hlt, fun b ho => .inl ho, fun _ _ => rfl⟩
  refine ⟨fun i l hl => ?_, h.next, Nat.le_trans h.base_le hb.size, h.low, h.heap_dom, h.fam_dom, fun i cs e f hc => ?_, fun i es c hi => ?_, fun i r hi => ?_, h.sep⟩
  · obtain ⟨a, b, c, d⟩ := h.dom i l hl
    exact ⟨a, b, c, Nat.lt_of_lt_of_le d hb.size⟩
  · obtain ⟨l, hq⟩ := h.rows i cs e f hc
    exact ⟨l, hq.move (Ren.le_refl ρ) (hb.block _ (h.blk_lt (tag_cells hc) hq.at_))⟩
  · obtain ⟨l, hl, es', h1, h2⟩ := h.maps i es c hi
    exact ⟨l, hl, es', by rw [hb.block _ (h.dom i l hl).2.2.2]; exact h1, h2⟩
  · obtain ⟨l, hl, q, h1, h2⟩ := h.loops i r hi
    exact ⟨l, hl, q, by rw [hb.block _ (h.dom i l hl).2.2.2]; exact h1, h2⟩

/-- That the executor knows the variable as it is laid. -/
noncomputable def laidOk (s : St) : Bool :=
  match s.cells 0 with
  | some ([.iface t (.agg ⟨[h]⟩)], _, 0) => Nat.beq t 420 && Option.casesOn (ofHandle Tryz.prog h) false fun u => Nat.beq u 119
  | _ => false

theorem laidOk_laid {base : Nat} {ρ : Ren} {s : St} {w : World} (h : HR Tryz.prog base ρ s w) (hk : laidOk s = true) : Laid w := by
  unfold laidOk at hk
  split at hk
  · rename_i t x e hc
    simp only [Bool.and_eq_true] at hk
    obtain ⟨h1, h2⟩ := hk
    have h1 := Nat.eq_of_beq_eq_true h1
    subst h1
    cases hu : ofHandle Tryz.prog x with
    | none => rw [hu] at h2; cases h2
    | some u =>
      rw [hu] at h2
      have h2 : u = 119 := Nat.eq_of_beq_eq_true h2
      subst h2
      obtain ⟨l, hat, a, fz, ha, hv, _, h0, _⟩ := h.rows 0 _ _ _ hc
      rw [Ren.at_low (by show 0 < 64; omega)] at hat
      cases hat
      obtain ⟨_, hsz, _⟩ := h0 rfl
      obtain ⟨y, hy, hvy⟩ := hv 0 _ rfl
      refine ⟨e, fz, ?_⟩
      have : a = #[.iface 420 (.agg #[hdl Tryz.prog 119])] := by
        have hs1 : a.size = 1 := hsz
        cases hvy with
        | iface _ hvy => cases hvy with
          | agg hvy => cases hvy with
            | cons hvy hn => cases hn with
              | nil =>
                rw [ofHandle_vr globals_lt hvy hu] at hy
                apply Array.ext
                · simpa using hs1
                · intro j j1 j2
                  have : j = 0 := by omega
                  subst this
                  have := (Array.getElem?_eq_some_iff.1 hy).2
                  simpa using this
      rw [← this]
      exact ha
  · cases hk
end Go.Ax

