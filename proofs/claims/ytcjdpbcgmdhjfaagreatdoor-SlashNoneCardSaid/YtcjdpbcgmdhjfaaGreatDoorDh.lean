import Derived.Test.YtcjdpbcgmdhjfaaGreatDoorDa
import Derived.ChangeArms
import Derived.OpenShut
import Derived.Test.YtcjdpbcgmdhjfaaGreatDoorDf
import Derived.Test.YtcjdpbcgmdhjfaaGreatDoorDg
import Derived.Test.YtcjdpbcgmdhjfaaGreatDoorProg
import Derived.KernelRfl
import Derived.Below
namespace Go.Ax
open Go

/-- The kinds of the cells of fields, one behind the other. -/
noncomputable def fieldKs (P : Program) (g : TypeId → Option (List IntKind)) : List Field → Nat → Option (List IntKind)
  | [], _ => some []
  | f :: fs, o => if f.offset = o then (g f.type).bind fun ks => if ks.length = P.cellsOf f.type then (fieldKs P g fs (o + ks.length)).map (ks ++ ·) else none else none

/-- The kinds of a type's cells, where all are integers. -/
noncomputable def intKs (P : Program) : Nat → TypeId → Option (List IntKind)
  | 0, _ => none
  | n + 1, t => match P.underlying t with
    | some (.int k) => some [k]
    | some (.struct fs) => (fieldKs P (intKs P n) fs.toList 0).bind fun r => if r.length = P.cellsOf t then some r else none
    | _ => none

theorem fieldKs_cons {P : Program} {g : TypeId → Option (List IntKind)} {f : Field} {fs : List Field} {o : Nat} {r : List IntKind} (h : fieldKs P g (f :: fs) o = some r) :
    ∃ ks r', f.offset = o ∧ g f.type = some ks ∧ ks.length = P.cellsOf f.type ∧ fieldKs P g fs (o + ks.length) = some r' ∧ r = ks ++ r' := by
  unfold fieldKs at h
  split at h
  · next ho =>
    obtain ⟨ks, hk, h⟩ := Option.bind_eq_some_iff.1 h
    split at h
    · next hl =>
      obtain ⟨r', hr, rfl⟩ := Option.map_eq_some_iff.1 h
      exact ⟨ks, r', ho, hk, hl, hr, rfl⟩
    · cases h
  · cases h

theorem fieldKs_mem {P : Program} {g : TypeId → Option (List IntKind)} : ∀ {fs : List Field} {o : Nat} {r : List IntKind}, fieldKs P g fs o = some r → ∀ f ∈ fs, ∃ ks, g f.type = some ks
  | [], _, _, _ => fun _ h => by cases h
  | f :: fs, o, r, h => by
    obtain ⟨ks, r', _, hk, _, hr, _⟩ := fieldKs_cons h
    intro f' hf
    rcases List.mem_cons.1 hf with rfl | hf
    · exact ⟨ks, hk⟩
    · exact fieldKs_mem hr f' hf

theorem intKs_cases {P : Program} {n : Nat} {t : TypeId} {r : List IntKind} (h : intKs P (n + 1) t = some r) :
    (∃ k, P.underlying t = some (.int k) ∧ r = [k]) ∨ (∃ fs, P.underlying t = some (.struct fs) ∧ fieldKs P (intKs P n) fs.toList 0 = some r ∧ r.length = P.cellsOf t) := by
  unfold intKs at h
  split at h
  · next k hk => cases h; exact .inl ⟨k, hk, rfl⟩
  · next fs hf =>
    obtain ⟨r', hr, h⟩ := Option.bind_eq_some_iff.1 h
    split at h
    · next hl => cases h; exact .inr ⟨fs, hf, hr, hl⟩
    · cases h
  · cases h

variable {H : Type} {enc : TypeId × Value → H} {P : Program}

theorem mapM_congr' {α β : Type} {f g : α → Option β} : ∀ {l : List α}, (∀ a ∈ l, f a = g a) → l.mapM f = l.mapM g
  | [], _ => rfl
  | a :: l, h => by
    simp only [List.mapM_cons]
    rw [h a List.mem_cons_self, mapM_congr' (l := l) fun b hb => h b (List.mem_cons_of_mem _ hb)]

/-- Integers read alike in every world. -/
theorem trod_flat : ∀ {n : Nat} {t : TypeId} {ks : List IntKind}, intKs P n t = some ks → ∀ (w w' : World) (b b' : Nat) (s s' : Nat → Bool) (h h' : Bool) (fuel : Nat) (cs : List Value),
    DataW.trod enc P w b s h fuel t cs = DataW.trod enc P w' b' s' h' fuel t cs
  | 0, _, _, hk => by cases hk
  | n + 1, t, ks, hk => by
    intro w w' b b' s s' h h' fuel cs
    cases fuel with
    | zero => rfl
    | succ m =>
      unfold DataW.trod
      rcases intKs_cases hk with ⟨k, ht, _⟩ | ⟨fs, ht, hf, _⟩
      · rw [ht]
        match cs with
        | [] => rfl
        | [v] => cases v <;> rfl
        | v :: _ :: _ => cases v <;> rfl
      · rw [ht]
        simp only
        rw [mapM_congr' (l := fs.toList) fun f hm => by
          obtain ⟨ks', hk'⟩ := fieldKs_mem hf f hm
          exact trod_flat hk' w w' b b' s s' h h' m _]

theorem Trod_flat {n : Nat} {t : TypeId} {ks : List IntKind} (hk : intKs P n t = some ks) {w w' : World} {b b' : Nat} {s s' : Nat → Bool} {h h' : Bool} {v : Value} {d : DataW H} {p : List MemPlace}
    (hd : DataW.Trod enc P w b s h t v d p) : DataW.Trod enc P w' b' s' h' t v d p := by
  obtain ⟨fuel, hd⟩ := hd
  exact ⟨fuel, by rw [← trod_flat hk w w' b b' s s' h h' fuel]; exact hd⟩

theorem zip_app {α β γ : Type} (f : α → β → γ) : ∀ {a : List α} {a' : List β} {b : List α} {b' : List β}, a.length = a'.length → List.zipWith f (a ++ b) (a' ++ b') = List.zipWith f a a' ++ List.zipWith f b b'
  | [], [], _, _, _ => rfl
  | x :: a, y :: a', _, _, h => by simp [zip_app f (a := a) (a' := a') (by simpa using h)]

theorem fields_open {g : TypeId → Option (List IntKind)} {cs : List Value} : ∀ {fs : List Field} {o : Nat} {r : List IntKind}, fieldKs P g fs o = some r →
    (∀ f ∈ fs, ∀ ks, g f.type = some ks → ∃ ns, ((cs.drop f.offset).take (P.cellsOf f.type)) = List.zipWith Value.int ks ns ∧ ns.length = ks.length) →
    ∃ ns, (cs.drop o).take r.length = List.zipWith Value.int r ns ∧ ns.length = r.length
  | [], o, r, h, _ => by cases h; exact ⟨[], by simp, rfl⟩
  | f :: fs, o, r, h, hall => by
    obtain ⟨ks, r', ho, hk, hl, hr, rfl⟩ := fieldKs_cons h
    obtain ⟨ns, e1, l1⟩ := hall f List.mem_cons_self ks hk
    obtain ⟨ns', e2, l2⟩ := fields_open hr fun f' hf => hall f' (List.mem_cons_of_mem _ hf)
    refine ⟨ns ++ ns', ?_, by simp [l1, l2]⟩
    rw [zip_app _ l1.symm, ← e1, ← e2, List.length_append, List.take_add, ho, hl, List.drop_drop]

/-- What reads as integers are integers. -/
theorem ints_open : ∀ {n : Nat} {t : TypeId} {ks : List IntKind}, intKs P n t = some ks → ∀ {w : World} {b : Nat} {s : Nat → Bool} {h : Bool} {fuel : Nat} {cs : List Value} {x : DataW H × List MemPlace},
    DataW.trod enc P w b s h fuel t cs = some x → ∃ ns, cs = List.zipWith Value.int ks ns ∧ ns.length = ks.length
  | 0, _, _, hk, _, _, _, _, _, _, _, _ => by cases hk
  | n + 1, t, ks, hk, w, b, s, h, fuel, cs, x, hx => by
    rcases intKs_cases hk with ⟨k, ht, rfl⟩ | ⟨fs, ht, hf, hl⟩
    · cases fuel with
      | zero => cases hx
      | succ m =>
        unfold DataW.trod at hx
        rw [ht] at hx
        split at hx <;> simp_all
        exact ⟨[_], by simp; rfl, rfl⟩
    · obtain ⟨xs, m, _, _, hcl, hxl, hall⟩ := DataW.trod_struct ht hx
      obtain ⟨ns, e, l⟩ := fields_open (cs := cs) hf fun f hm ks' hk' => by
        obtain ⟨i, hi, hif⟩ := List.mem_iff_getElem.1 hm
        have hi' : i < xs.length := by rw [hxl]; simpa using hi
        have := hall i f (by rw [← hif]; simp)
        rw [List.getElem?_eq_getElem hi'] at this
        exact ints_open hk' this
      refine ⟨ns, ?_, l⟩
      rw [← e, hl, ← hcl]
      simp

theorem arg_ints {n : Nat} {t : TypeId} {ks : List IntKind} (hk : intKs P n t = some ks) (h2 : 2 ≤ ks.length) {w : World} {b : Nat} {s : Nat → Bool} {h : Bool} {v : Value} {d : DataW H} {p : List MemPlace}
    (hd : DataW.Trod enc P w b s h t v d p) : ∃ ns, v = .agg (List.zipWith Value.int ks ns).toArray ∧ ns.length = ks.length := by
  obtain ⟨fuel, hd⟩ := hd
  obtain ⟨ns, e, l⟩ := ints_open hk hd
  refine ⟨ns, ?_, l⟩
  have hlen : v.cells.toList.length = ks.length := by rw [e]; simp [l]
  cases v with
  | agg cs => rw [← e]; simp [Value.cells]
  | _ => simp [Value.cells] at hlen; omega

theorem arg_int {n : Nat} {t : TypeId} {k : IntKind} (hk : intKs P n t = some [k]) {w : World} {b : Nat} {s : Nat → Bool} {h : Bool} {v : Value} {d : DataW H} {p : List MemPlace}
    (hd : DataW.Trod enc P w b s h t v d p) (hv : ∀ cs, v ≠ .agg cs) : ∃ m, v = .int k m := by
  obtain ⟨fuel, hd⟩ := hd
  obtain ⟨ns, e, l⟩ := ints_open hk hd
  obtain ⟨m, rfl⟩ := List.length_eq_one_iff.1 l
  refine ⟨m, ?_⟩
  cases v with
  | agg cs => exact absurd rfl (hv cs)
  | int k' m' => simpa [Value.cells] using e
  | _ => simp [Value.cells] at e
end Go.Ax

set_option maxRecDepth 1000000
namespace Go.Ax
open Go Go.Proofs

noncomputable def extT : List (Nat × Ext) := [(305, .add64), (334, .sub64)]
noncomputable def varsL : List Nat := [0, 0, 1, 8, 8, 13, 9, 9, 8, 9, 14, 7, 5, 1, 7, 7, 7, 6, 7, 4, 7, 6, 8, 5, 3, 3, 5, 3, 3, 9, 9, 20, 5, 10, 10, 10, 11, 7, 7, 9, 5, 7, 4, 15, 18, 14, 7, 18, 3, 7, 11, 46, 3, 11, 49, 8, 6, 7, 11, 7, 14, 4, 6, 4, 30, 13, 10, 7, 13, 7, 19, 13, 12, 15, 9, 30, 3, 3, 3, 6, 3, 15, 12, 12, 5, 5, 5, 5, 7, 7, 3, 7, 10, 8, 9, 10, 7, 11, 9, 6, 1, 10, 1, 15, 9, 3, 8, 9, 5, 10, 8, 11, 9, 4, 5, 4, 4, 3, 3, 3, 3, 12, 8, 8, 4, 13, 3, 9, 10, 3, 9, 17, 15, 6, 1, 21, 8, 6, 14, 13, 3, 5, 5, 20, 19, 5, 7, 3, 6, 3, 9, 13, 5, 9, 8, 11, 5, 10, 7, 7, 3, 3, 3, 5, 3, 3, 3, 15, 2, 2, 5, 5, 5, 9, 6, 6, 7, 6, 11, 3, 6, 7, 3, 7, 10, 11, 6, 10, 19, 4, 6, 8, 3, 3, 21, 5, 6, 10, 3, 10, 19, 8, 11, 8, 3, 3, 3, 10, 3, 6, 8, 10, 9, 6, 3, 7, 8, 4, 7, 3, 2, 6, 3, 7, 2, 3, 4, 4, 11, 6, 10, 5, 6, 7, 9, 15, 12, 13, 6, 6, 3, 8, 5, 8, 7, 17, 3, 5, 9, 12, 12, 10, 3, 8, 5, 3, 12, 17, 2, 0, 0, 0, 51, 9, 24, 94, 9, 5, 9, 4, 30, 0, 2, 12, 6, 8, 14, 19, 13, 8, 12, 5, 11, 12, 7, 5, 25, 11, 3, 3, 9, 9, 7, 8, 9, 8, 10, 14, 0, 0, 0, 3, 5, 3, 2, 0, 3, 6, 4, 23, 7, 11, 3, 2, 3, 2, 9, 5, 0, 2, 6, 8, 8, 9, 7, 4, 3, 10, 11, 10, 5, 3, 6, 10, 0, 2, 10, 3, 7, 8, 4, 0, 0, 0, 0, 0, 0, 0, 0, 0, 0, 0, 0, 0, 0, 0, 0, 0, 0, 0, 0, 0, 3, 6, 6, 0, 9, 4, 6, 3, 7, 0, 0, 0, 0, 0, 3, 0, 0, 0, 0, 0, 0, 0, 0, 0, 0, 0, 0, 0, 0, 0, 0, 0, 1]
noncomputable def ordL : List (Nat × List (Nat × List Nat)) := [(3, [(5, [0, 1, 2, 3, 4, 5, 6, 7, 8, 9, 10, 11, 12, 13, 14, 15, 16, 17, 18, 19]), (9, [0, 1, 2, 3, 4, 5, 6, 7, 8, 9, 10, 11, 12, 13, 14, 15, 16, 17, 18, 19, 20, 21])]), (5, [(5, [0, 1, 2, 3, 4, 5, 6, 7, 8, 9, 10, 11]), (6, [0, 1, 2, 3, 5, 6, 4, 7, 8, 9, 10, 11, 12, 13, 14, 15, 16, 17])]), (6, [(1, [0, 1, 2, 3, 5, 6, 7, 8, 4, 9, 10, 11, 12, 13, 14])]), (7, [(9, [0, 1, 2, 3, 4, 5, 6, 7, 8, 9, 10, 11, 12, 13, 14, 15, 16, 17, 18, 19, 20, 21, 22])]), (8, [(7, [0, 1, 2, 3, 4, 5, 6, 7, 8, 9, 10, 11, 12, 13, 14, 15])]), (11, [(5, [0, 1, 2, 3, 4, 5, 6, 7, 8, 9])]), (14, [(5, [0, 1, 2, 3, 4, 5, 6, 7, 8, 9])]), (17, [(5, [0, 1, 3, 4, 2, 6, 5, 7, 8, 9])]), (18, [(5, [0, 1, 2, 3, 4, 5, 6, 7, 8, 9])]), (30, [(3, [0, 1, 2, 3, 4, 5, 6])]), (31, [(3, [0, 1, 2, 3, 4, 5, 6, 7, 8]), (8, [0, 3, 4, 1, 2, 5, 6, 7, 8]), (6, [0, 1, 2, 3, 4, 5, 6, 7, 8]), (9, [0, 1, 2, 3, 4, 5, 6, 7, 8, 9, 10, 11, 12, 13, 14, 15, 16, 17, 18, 19, 20, 21])]), (41, [(5, [0, 1, 2, 3, 4, 5, 6, 7, 8, 9])]), (45, [(2, [0, 1, 2, 3, 4, 7, 8, 10, 11, 12, 13, 14, 16, 17, 18, 5, 6, 9, 15, 19, 20, 21, 22])]), (46, [(5, [0, 1, 2, 3, 4, 5, 6, 7, 8, 9])]), (49, [(1, [0, 1, 2, 3, 4, 5, 6, 7, 8, 9, 10, 11])]), (50, [(1, [0, 1, 2, 3, 4, 5, 6, 7, 8, 9, 10, 11, 12, 13, 14, 15, 16, 17])]), (53, [(1, [0, 1, 2, 3, 4, 5, 6, 7, 8, 9, 10, 11, 12, 13, 14, 15, 16])]), (54, [(13, [0, 1, 2, 3, 4, 5, 6, 7, 8, 9, 10, 11])]), (55, [(5, [0, 1, 2, 3, 4, 5, 6, 7, 8, 9]), (4, [0, 1, 2, 3, 4, 5, 6, 7, 8, 9]), (6, [0, 1, 2, 3, 4, 5, 6, 7, 8, 9]), (7, [0, 1, 2, 3, 4, 5, 6, 7, 8, 9])]), (57, [(1, [0, 1, 2, 3, 4, 5, 6, 7, 8, 9, 10, 11, 12, 13, 14, 15, 16, 17, 18, 19, 20, 21])]), (59, [(1, [0, 1, 2, 3, 4, 5, 6, 7, 8, 9, 10, 11, 12, 13, 14, 15])]), (61, [(1, [0, 1, 3, 4, 5, 6, 7, 8, 9, 10, 2, 11])]), (62, [(1, [0, 1, 2, 3, 4, 5, 6, 7, 8, 9, 10, 11, 12, 13, 14, 15, 16, 17, 18])]), (64, [(1, [0, 1, 2, 3, 4, 5, 6, 7, 8, 9, 10, 11, 12, 13, 14, 15, 16, 17, 18, 19, 20]), (5, [0, 1, 2, 3, 4, 5, 6, 7, 8, 9, 10, 11, 12, 13, 14, 15])]), (65, [(8, [0, 1, 2, 3, 4, 5, 7, 1006, 8, 9])]), (67, [(1, [0, 1, 2, 3, 4, 5, 6, 7, 8, 9, 10, 11, 12, 13, 14, 15, 16, 17, 18, 19, 20])]), (68, [(8, [0, 1, 2, 4, 5, 6, 3, 7, 8, 9, 10])]), (69, [(1, [0, 2, 3, 4, 5, 7, 8, 9, 10, 11, 1, 6, 12, 13])]), (81, [(6, [0, 1, 2, 3, 4])]), (83, [(2, [0, 1, 2, 3, 5, 6, 8, 9, 10, 4, 7, 11, 12, 13, 14])]), (88, [(5, [0, 1, 2, 3, 4, 5, 6, 7, 8, 9])]), (89, [(5, [0, 1, 2, 3, 4, 5, 6, 7, 8, 9])]), (94, [(4, [0, 1, 2, 3])]), (95, [(1, [0, 1, 2, 3, 4, 5, 6, 7, 8, 9, 10, 11, 12, 13, 14, 15, 16, 17, 18, 19, 20, 21, 22, 23]), (3, [0, 1, 2, 3, 4, 5, 6, 7, 8, 9, 10, 11, 12])]), (96, [(5, [0, 1, 2, 3, 4, 5, 6, 7, 8, 9])]), (106, [(1, [0, 1, 2, 3, 4, 5, 6, 7, 8, 9, 10, 11, 12])]), (107, [(1, [0, 3, 6, 13, 14, 15, 16, 17, 18, 19, 20, 21, 22, 1, 2, 4, 5, 7, 8, 9, 10, 11, 12, 23, 24, 25])]), (108, [(1, [0, 1, 2, 3, 4, 5, 6, 7, 8, 9, 10, 11, 12, 13, 14, 15])]), (110, [(1, [0, 1, 2, 3, 4, 5, 6, 7, 8, 9, 10, 11, 12, 13, 14, 15, 16, 17, 18, 19, 20, 21, 22, 23])]), (111, [(15, [0, 2, 1, 3, 4, 5, 6]), (11, [0, 2, 5, 1, 3, 4, 6, 7])]), (120, [(1, [0, 1, 3, 4, 2, 5, 6, 7, 8])]), (122, [(5, [0, 1, 2, 3, 4, 5, 6, 7, 8, 9]), (7, [0, 1, 2, 3, 4, 5, 6, 7, 8, 9, 10, 11, 12, 13, 14, 15])]), (125, [(6, [0, 1, 2, 3, 4, 5])]), (131, [(0, [0, 1, 2, 3, 4, 5, 6, 7, 8, 9, 10, 11, 12, 13])]), (137, [(1, [0, 1, 2, 3, 4, 5, 6, 7, 8, 9])]), (139, [(6, [0, 1, 2, 3, 4, 5])]), (141, [(1, [0, 1, 2, 3, 4, 5, 6, 7, 8, 9, 10, 11, 12])]), (148, [(1, [0, 1, 2, 3, 4, 5, 6, 7, 8, 9, 10, 11])]), (150, [(1, [0, 1, 2, 3, 4, 5, 6, 7, 8, 9, 10, 11, 12, 13])]), (153, [(1, [0, 2, 4, 5, 6, 1, 3, 7, 8, 9])]), (154, [(1, [0, 1, 2, 3, 4, 5, 6, 7, 8, 9, 10, 11, 12, 13, 14, 15, 16, 17, 18, 19, 20, 21, 22, 23])]), (155, [(15, [0, 1, 2, 3, 4, 5, 6]), (17, [0, 2, 1, 3, 4, 5, 6])]), (158, [(5, [0, 1, 2, 3, 4, 5, 6, 7, 8, 9])]), (159, [(5, [0, 1, 2, 3, 4, 5, 6, 7, 8, 9])]), (165, [(1, [0, 1, 2, 3, 4, 5, 6, 7, 8, 9, 10, 11, 12, 13, 14, 15, 16])]), (166, [(1, [0, 1, 2, 3, 4, 5, 6, 7, 8, 9, 10, 11, 12, 13, 14, 15, 16])]), (167, [(9, [0, 1, 2, 3, 4, 5, 6, 7, 8, 9, 10, 11, 12, 13, 14, 15, 16, 17, 18, 19, 20, 21, 22, 23, 24, 25])]), (172, [(1, [0, 1, 2, 3, 4, 5, 6, 7, 8, 9, 10, 11, 12, 13, 14, 15, 16, 17, 18, 19, 20])]), (173, [(9, [0, 2, 1, 3, 4, 5, 6])]), (174, [(1, [0, 1, 2, 3, 4, 5, 6, 7, 8, 9, 10, 11, 12, 13, 14, 15, 16, 17, 18, 19, 20, 21, 22, 23, 24, 25, 26])]), (179, [(1, [0, 1, 19, 20, 21, 22, 23, 24, 25, 26, 27, 28, 29, 30, 31, 32, 33, 34, 35, 36, 37, 38, 2, 3, 4, 5, 6, 7, 8, 9, 10, 11, 12, 13, 14, 15, 16, 17, 18, 39, 40, 41])]), (180, [(5, [0, 1, 2, 3, 4, 5, 6, 7, 8, 9, 10, 11, 12, 13, 14])]), (187, [(1, [0, 1, 2, 3, 4, 5, 6, 7, 8, 9, 10, 11, 12, 13, 14, 15]), (3, [0, 1, 2, 3, 4, 5, 6, 7, 8])]), (189, [(1, [0, 1, 2, 3, 4, 5, 6, 7, 8])]), (194, [(8, [0, 1, 2, 3, 4, 5])]), (196, [(3, [0, 1, 2, 3, 4, 5, 6, 7, 8, 9])]), (197, [(5, [0, 1, 2, 3, 4, 5, 6, 7])]), (199, [(1, [0, 1, 2, 3, 4, 5, 6, 8, 9, 10, 7, 11, 12, 13, 14, 15, 16, 17, 18, 19]), (3, [0, 1, 2, 3, 4, 5, 6, 7, 8])]), (200, [(17, [0, 1, 2, 3, 5, 4, 6, 7])]), (201, [(2, [0, 1, 2, 3, 4, 5, 6, 7, 8, 10, 9, 11, 12, 13, 14, 15, 16, 17, 19, 20, 18, 21, 22]), (1, [0, 1, 2, 3, 4, 5, 6, 7, 8]), (4, [0, 1, 2, 3, 4, 5, 6, 7, 8, 9, 10, 11, 12, 13, 14, 15, 16, 17, 18, 19, 20])]), (206, [(1, [0, 1, 2, 3, 4, 6, 7, 8, 10, 11, 12, 5, 9, 13, 14, 15, 16, 17, 18, 19, 20, 21])]), (210, [(5, [0, 1, 2, 3, 4, 5, 6, 7])]), (211, [(11, [0, 1, 2, 3, 4, 5, 6, 7, 8]), (15, [0, 1, 2, 3, 4, 5, 6, 7, 8])]), (213, [(4, [0, 1, 2, 3, 4, 5, 6, 7, 8, 9, 10, 11, 12, 13, 14, 15, 16, 17, 18, 19, 20, 21])]), (216, [(1, [0, 1, 2, 3, 4, 5, 6, 7, 8, 9, 10, 11, 12])]), (221, [(6, [0, 1, 2, 3, 4, 5, 6, 7, 8, 9, 10])]), (227, [(1, [0, 1, 2, 3, 4, 5, 6, 7, 8, 9, 10, 11])]), (231, [(1, [0, 1, 2, 3, 4, 5, 6, 7, 8, 9, 10, 11, 12, 13])]), (234, [(6, [0, 1, 3, 4, 5, 2, 6, 7])]), (236, [(6, [0, 1, 2, 3])]), (237, [(6, [0, 1, 2, 3, 4, 5])]), (238, [(4, [0, 1, 2, 3, 4])]), (239, [(4, [0, 1, 2, 3, 4, 5, 6, 7, 8, 9, 10, 11, 12])]), (246, [(1, [0, 1, 2, 4, 5, 6, 8, 9, 10, 12, 13, 14, 16, 17, 18, 20, 21, 22, 24, 25, 26, 28, 29, 30, 32, 33, 34, 36, 37, 38, 40, 41, 42, 3, 7, 11, 15, 19, 23, 27, 31, 35, 39, 43, 44, 45])]), (251, [(7, [0, 1, 2, 3, 4, 5, 6, 7, 8, 9, 10, 11, 12, 13, 14, 15, 16])]), (258, [(0, [0, 1, 2, 3, 4, 5, 6, 7, 8, 9, 10, 11, 12, 13])]), (264, [(9, [0, 1, 2, 3, 4, 5, 6, 7, 8, 9, 10, 11, 12, 13, 14, 15, 16, 17, 18])]), (265, [(22, [0, 1, 2, 3, 4, 5, 6, 7, 8, 9, 10, 11]), (9, [0, 1, 2, 3, 4, 5, 6, 7, 8, 9, 10, 11, 12, 13, 14, 15, 16]), (15, [0, 1, 2, 3, 4, 5, 6, 7, 8, 9, 10, 11])]), (277, [(6, [0, 1, 2, 3, 4, 5, 6, 7])]), (279, [(2, [0, 1, 2, 3, 4, 5, 6, 7, 8, 9])]), (294, [(5, [0, 1, 2, 3, 4, 5, 6, 7, 8, 9, 10, 11, 12, 13, 14, 15, 16, 17])]), (295, [(5, [0, 1, 2, 3, 4, 5, 6, 7])]), (296, [(11, [0, 1, 2, 3, 4, 5, 6, 7, 8]), (15, [0, 1, 2, 3, 4, 5, 6, 7, 8])]), (302, [(1, [0, 1, 2, 3, 5, 6, 7, 8, 4, 9, 10, 11, 12])]), (312, [(1, [0, 1, 2, 3, 4, 5, 6, 7, 8, 9, 10])]), (325, [(3, [0, 1, 2, 3, 4, 5, 6, 7, 8, 9, 10, 11, 12, 13, 14, 15])]), (333, [(2, [0, 1, 2, 3, 4, 5, 6, 7, 8, 9, 11, 12, 13, 16, 10, 14, 15, 17, 18])]), (340, [(3, [0, 1, 2, 3, 4, 5, 6, 7, 8, 9, 10, 11, 12, 13, 14, 15])]), (366, [(1, [0, 1, 2, 3, 4, 5, 6, 7, 8, 9, 10, 11, 12, 13])]), (367, [(1, [0, 1, 2, 3, 4, 5, 6, 7, 8, 9, 10, 11, 12, 13]), (2, [0, 1, 2, 3, 4, 5, 6, 7, 8, 9, 10, 11, 12, 13, 14])]), (368, [(2, [0, 1, 2, 3, 4, 5, 6, 7, 8, 9, 10])]), (369, [(0, [0, 1, 2, 3, 4, 5, 6, 7, 8, 9, 10, 11, 12, 13, 14, 15])]), (370, [(1, [0, 1, 2, 3, 4, 5, 6, 7, 8, 9, 10, 11])])]
noncomputable def eqL : List Nat := [285, 261, 211, 205, 173, 131, 148, 61, 203, 89, 59, 53, 42, 38, 35, 77, 91]
noncomputable def memN (l : List Nat) (n : Nat) : Bool := List.rec false (fun p _ ih => sel (Nat.beq p n) true ih) l
noncomputable def lookN {α : Type} (l : List (Nat × α)) (n : Nat) : Option α := List.rec none (fun p _ ih => sel (Nat.beq p.1 n) (some p.2) ih) l
noncomputable def bodyT (f : Nat) : Option Code := (Tryz.prog.funcs[f]?).bind (fun x => x.body)
noncomputable def resultsT (f : Nat) : List ResultVar := match Tryz.prog.funcs[f]? with
  | some x => x.results.toList
  | none => []
noncomputable def varsT (f : Nat) : Nat := Option.casesOn (nth varsL f) 0 id
noncomputable def orderT (f id : Nat) : List Nat := Option.casesOn (obind (lookN ordL f) fun l => lookN l id) [] fun l => l
noncomputable def CC : Cfg := { P := Tryz.prog, ext := lookN extT, rtype := 0, body := bodyT, params := fun _ => [], results := resultsT, vars := varsT, insert := fun _ => false, eqOk := memN eqL, order := orderT }
noncomputable def st0 : St := St.mk (.s 15 0) (.s 15 0) 64
noncomputable def isTrue : Option (Value × St) → Bool
  | some (.bool true, _) => true
  | _ => false

theorem lookN_mem {α : Type} {l : List (Nat × α)} {n : Nat} {a : α} (h : lookN l n = some a) : (n, a) ∈ l := by
  induction l with
  | nil => cases h
  | cons p l ih =>
    have h : sel (Nat.beq p.1 n) (some p.2) (lookN l n) = some a := h
    cases hb : Nat.beq p.1 n with
    | true =>
      rw [hb] at h
      have e : p.1 = n := Nat.eq_of_beq_eq_true hb
      cases h
      subst e
      exact List.mem_cons_self
    | false => rw [hb] at h; exact List.mem_cons_of_mem _ (ih h)

theorem memN_mem {l : List Nat} {n : Nat} (h : memN l n = true) : n ∈ l := by
  induction l with
  | nil => cases h
  | cons p l ih =>
    have h : sel (Nat.beq p n) true (memN l n) = true := h
    cases hb : Nat.beq p n with
    | true => rw [Nat.eq_of_beq_eq_true hb]; exact List.mem_cons_self
    | false => rw [hb] at h; exact List.mem_cons_of_mem _ (ih h)

theorem bodies_chk : bodyChk (Tryz.prog.funcs.toList.map some) = true := by kernel_rfl

theorem cc_body (f : FuncId) (c : Code) (h : bodyT f = some c) : ∃ fn, Tryz.prog.funcs[f]? = some fn ∧ fn.body = some c ∧ (fn.name == "runtime.NumGoroutine") = false ∧ okCode fn.ntmps c = true ∧ resultsT f = fn.results.toList := by
  unfold bodyT at h
  obtain ⟨fn, hf, hc⟩ := Option.bind_eq_some_iff.1 h
  have hm : some fn ∈ Tryz.prog.funcs.toList.map some := List.mem_map.2 ⟨fn, by simpa using Array.mem_of_getElem? hf, rfl⟩
  have := List.all_eq_true.1 bodies_chk _ hm
  simp only [hc, Bool.and_eq_true, Bool.not_eq_true'] at this
  refine ⟨fn, hf, hc, this.1, this.2, ?_⟩
  unfold resultsT
  rw [hf]

theorem cc_ok : CfgOk CC Tryz.prog where
  prog := rfl
  zero := zeroChk_ok (by kernel_rfl)
  fields := fieldsChk_ok (by kernel_rfl)
  eq := eqChk_ok (l := eqL) (fun _ h => memN_mem h) (by kernel_rfl)
  byte := byteChk_ok (by kernel_rfl)
  globals := Nat.le_of_ble_eq_true (show Nat.ble (Nat.succ Tryz.prog.globals.size) fixedTop = true by kernel_rfl)
  body := cc_body
  mix := by kernel_rfl
  insert := fun _ h => (Bool.noConfusion h)
  ext := by
    intro f e h
    have h := lookN_mem (show lookN extT f = some e from h)
    unfold extT at h
    rcases List.mem_cons.1 h with h | h
    · cases h; exact add64_sound (by kernel_rfl) (by kernel_rfl)
    · rcases List.mem_cons.1 h with h | h
      · cases h; exact sub64_sound (by kernel_rfl) (by kernel_rfl)
      · exact absurd h List.not_mem_nil
end Go.Ax

namespace Go.Ax
open Go

/-- Nothing is laid yet. -/
theorem hr0 (P : Program) (W : World) : HR P W.heap.size (fun _ => none) st0 W where
  dom := fun _ _ h => by cases h
  next := Nat.le_refl 64
  base_le := Nat.le_refl _
  low := fun i _ h => by
    exfalso; apply h
    show (St.mk (.s 15 0) (.s 15 0) 64).tag i = none
    simp [St.tag, Hp.get_s]
  heap_dom := fun i r h => by rw [show st0.heap.get i = none from Hp.get_s _ _ i] at h; cases h
  fam_dom := fun i _ _ _ h => by rw [show st0.heap.get i = none from Hp.get_s _ _ i] at h; cases h
  rows := fun i cs e f h => by
    exfalso
    have h : (St.mk (.s 15 0) (.s 15 0) 64).cells i = some (cs, e, f) := h
    unfold St.cells at h
    rw [show (St.mk (.s 15 0) (.s 15 0) 64).heap.get i = none from Hp.get_s _ _ i] at h
    cases h
  maps := fun i _ _ h => by rw [show st0.heap.get i = none from Hp.get_s _ _ i] at h; cases h
  loops := fun i _ h => by rw [show st0.heap.get i = none from Hp.get_s _ _ i] at h; cases h
  sep := fun i _ a _ _ _ h => by
    exfalso
    have h : (St.mk (.s 15 0) (.s 15 0) 64).tag i = some a := h
    simp [St.tag, Hp.get_s] at h

theorem isTrue_some {r : Option (Value × St)} (h : isTrue r = true) : ∃ s, r = some (.bool true, s) := by
  match r, h with
  | some (.bool true, s), _ => exact ⟨s, rfl⟩

/-- What the executor comes to without an argument, the program does. -/
theorem calls_of_run {n : Nat} {f : FuncId} (h : isTrue ((jRunN CC n).1 f [] st0) = true) (W : World) :
    Calls Go.Proofs.Tryz.prog f #[] W fun e w' => e = .returned (.bool true) ∧ RowKit.Below W.heap.size W w' := by
  obtain ⟨s, h⟩ := isTrue_some h
  rw [jRunN_eq] at h
  refine ((runN_ok cc_ok n).1 f [] st0 _ s h W.heap.size _ W [] (hr0 _ W) .nil).mono ?_
  rintro e w' ⟨c, ρ', rfl, hg, hv⟩
  cases hv
  exact ⟨rfl, hg.below (hr0 _ W)⟩
end Go.Ax

namespace Go.Ax
open Go

/-- What the executor comes to at arguments that hold no place, the program does. -/
theorem calls_of_runA {n : Nat} {f : FuncId} {args cargs : List Value} (h : isTrue ((jRunN CC n).1 f args st0) = true) (hv : VRs (fun _ => none) args cargs) (W : World) :
    Calls Go.Proofs.Tryz.prog f ⟨cargs⟩ W fun e w' => e = .returned (.bool true) ∧ RowKit.Below W.heap.size W w' := by
  obtain ⟨s, h⟩ := isTrue_some h
  rw [jRunN_eq] at h
  refine ((runN_ok cc_ok n).1 f args st0 _ s h W.heap.size _ W cargs (hr0 _ W) hv).mono ?_
  rintro e w' ⟨c, ρ', rfl, hg, hv⟩
  cases hv
  exact ⟨rfl, hg.below (hr0 _ W)⟩
end Go.Ax

