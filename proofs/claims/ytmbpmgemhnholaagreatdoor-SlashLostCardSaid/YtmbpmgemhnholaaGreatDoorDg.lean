import Derived.Test.YtmbpmgemhnholaaGreatDoorDf
import Derived.Laws.CopyRow
import Derived.Test.YtmbpmgemhnholaaGreatDoorDe
import Derived.Test.YtmbpmgemhnholaaGreatDoorDc
import Derived.Test.YtmbpmgemhnholaaGreatDoorDa
import Derived.Test.YtmbpmgemhnholaaGreatDoorDd
import GoSem.ClaimFn
import GoSem.ClaimGoes
namespace Go.Ax
open Go Go.Extern
variable {P : Program} {C : Cfg}

/-- a type's handle, as the model has it -/
noncomputable def hdl (P : Program) (t : TypeId) : Value := .pointer (some ⟨P.globals.size, t, none⟩)

theorem findT_mem {β : Type} {l : List (Nat × β)} {n : Nat} {b : β} (h : findT l n = some b) : (n, b) ∈ l := by
  induction l with
  | nil => cases h
  | cons p l ih =>
    have h : sel (Nat.beq p.1 n) (some p.2) (findT l n) = some b := h
    cases hb : Nat.beq p.1 n with
    | true =>
      rw [hb] at h
      have e : p.1 = n := Nat.eq_of_beq_eq_true hb
      cases h
      subst e
      exact List.mem_cons_self
    | false => rw [hb] at h; exact List.mem_cons_of_mem _ (ih h)

theorem findTT_mem {l : List (Nat × Nat × Bool)} {t u : Nat} {b : Bool} (h : findTT l t u = some b) : (t, u, b) ∈ l := by
  induction l with
  | nil => cases h
  | cons p l ih =>
    have h : sel (Nat.beq p.1 t && Nat.beq p.2.1 u) (some p.2.2) (findTT l t u) = some b := h
    cases hb : (Nat.beq p.1 t && Nat.beq p.2.1 u) with
    | true =>
      rw [hb] at h
      simp only [Bool.and_eq_true] at hb
      have e1 : p.1 = t := Nat.eq_of_beq_eq_true hb.1
      have e2 : p.2.1 = u := Nat.eq_of_beq_eq_true hb.2
      cases h
      subst e1 e2
      exact List.mem_cons_self
    | false => rw [hb] at h; exact List.mem_cons_of_mem _ (ih h)

theorem handle_vr (ρ : Ren) (hG : P.globals.size < fixedTop) (t : TypeId) : VR ρ (handle P t) (hdl P t) := by
  have := VR.ptr (ρ := ρ) (b := P.globals.size) (o := t) (l := ⟨P.globals.size, 0, 0⟩) (Ren.at_low hG)
  simpa [handle, hdl] using this

theorem ofHandle_vr {ρ : Ren} (hG : P.globals.size < fixedTop) {h c : Value} (hv : VR ρ h c) {t : TypeId} (ht : ofHandle P h = some t) : c = hdl P t := by
  unfold ofHandle at ht
  split at ht
  · rename_i a
    obtain ⟨hb, ht⟩ := guard_some.1 ht
    cases ht
    have hb := Nat.eq_of_beq_eq_true hb
    cases hv with
    | @ptr b o l hl =>
      have hb : b = P.globals.size := hb
      subst hb
      rw [Ren.at_low hG] at hl
      cases hl
      simp [hdl]
  · cases ht

theorem rtypeOf_vr (ρ : Ren) (hC : C.P = P) (hG : P.globals.size < fixedTop) (t : TypeId) : VR ρ (rtypeOf C t) (.iface C.rtype (.agg #[hdl P t])) := by
  unfold rtypeOf
  rw [hC]
  exact .iface _ (.agg (.cons (handle_vr ρ hG t) .nil))

theorem rlTypeOf_sound {f : FuncId} {l : List (Nat × Unit)} (hC : C.P = P) (hG : P.globals.size < fixedTop) (h : extChk P f = true) (he : (P.funcs[f]?).bind Extern.find = some ReflectliteType.typeOf)
    (hf : ∀ q ∈ l, ∀ w, (ReflectliteType.toType q.1).run P w = .ok (.iface C.rtype (.agg #[hdl P q.1])) w) : ExtSound C P f (.rlTypeOf l) := by
  intro base ρ s s' w args cargs v hr ha hv
  have hv : extTypeOf C l s args = some (v, s') := hv
  unfold extTypeOf at hv
  split at hv
  · rename_i t x _
    obtain ⟨u, hu, hv⟩ := obind_some.1 hv
    cases hv
    cases ha with
    | cons h1 h2 => cases h2 with
      | nil => cases h1 with
        | @iface _ x x' hx =>
          refine ⟨_, ρ, w, ?_, Goes.refl hr, rtypeOf_vr ρ hC hG t⟩
          rw [run_ext h he]
          show ((ReflectliteType.toType t).run P w).andThen _ = _
          rw [hf _ (findT_mem hu)]
          rfl
  · cases hv

theorem rlElem_sound {f : FuncId} {l : List (Nat × Nat)} (hC : C.P = P) (hG : P.globals.size < fixedTop) (h : extChk P f = true) (he : (P.funcs[f]?).bind Extern.find = some (ReflectliteType.method ReflectliteType.elem))
    (hf : ∀ q ∈ l, ∀ w, (ReflectliteType.method ReflectliteType.elem #[.agg #[hdl P q.1]]).run P w = .ok (.iface C.rtype (.agg #[hdl P q.2])) w) : ExtSound C P f (.rlElem l) := by
  intro base ρ s s' w args cargs v hr ha hv
  have hv : extElem C l s args = some (v, s') := hv
  unfold extElem at hv
  split at hv
  · rename_i x
    obtain ⟨t, ht, hv⟩ := obind_some.1 hv
    obtain ⟨e, hu, hv⟩ := obind_some.1 hv
    cases hv
    rw [hC] at ht
    cases ha with
    | cons h1 h2 => cases h2 with
      | nil => cases h1 with
        | agg h1 => cases h1 with
          | cons h1 h2 => cases h2 with
            | nil =>
              rw [ofHandle_vr hG h1 ht]
              refine ⟨_, ρ, w, ?_, Goes.refl hr, rtypeOf_vr ρ hC hG e⟩
              rw [run_ext h he, hf _ (findT_mem hu)]
              rfl
  · cases hv

theorem twoTypes_some {args cargs : List Value} {ρ : Ren} {k : TypeId → TypeId → Option (Value × St)} {r : Value × St} (hC : C.P = P) (hG : P.globals.size < fixedTop) (ha : VRs ρ args cargs) (hv : twoTypes C args k = some r) :
    ∃ t u, cargs = [.agg #[hdl P t], .iface C.rtype (.agg #[hdl P u])] ∧ k t u = some r := by
  unfold twoTypes at hv
  split at hv
  · rename_i x rt y
    obtain ⟨hr, hv2⟩ := guard_some.1 hv
    obtain ⟨t, ht, hv3⟩ := obind_some.1 hv2
    obtain ⟨u, hu, hv4⟩ := obind_some.1 hv3
    clear hv hv2 hv3
    have hr := Nat.eq_of_beq_eq_true hr
    subst hr
    rw [hC] at ht hu
    cases ha with
    | cons h1 h2 => cases h2 with
      | cons h2 h3 => cases h3 with
        | nil => cases h1 with
          | agg h1 => cases h1 with
            | cons h1 h4 => cases h4 with
              | nil => cases h2 with
                | iface _ h2 => cases h2 with
                  | agg h2 => cases h2 with
                    | cons h2 h5 => cases h5 with
                      | nil =>
                        rw [ofHandle_vr hG h1 ht, ofHandle_vr hG h2 hu]
                        exact ⟨t, u, rfl, hv4⟩
  · cases hv

theorem extTwo_run {f : FuncId} {l : List (Nat × Nat × Bool)} (hC : C.P = P) (hG : P.globals.size < fixedTop) (h : extChk P f = true) {e : Array Value → Sem Value} (he : (P.funcs[f]?).bind Extern.find = some e)
    (hf : ∀ q ∈ l, ∀ w, (e #[.agg #[hdl P q.1], .iface C.rtype (.agg #[hdl P q.2.1])]).run P w = .ok (.bool q.2.2) w)
    {base : Nat} {ρ : Ren} {s s' : St} {w : World} {args cargs : List Value} {v : Value} (hr : HR P base ρ s w) (ha : VRs ρ args cargs) (hv : extTwo C l s args = some (v, s')) :
    ∃ c ρ' w', (callFunc f ⟨cargs⟩).run P w = .ok (.value c) w' ∧ Goes P base ρ s w ρ' s' w' ∧ VR ρ' v c := by
  obtain ⟨t, u, rfl, hv⟩ := twoTypes_some hC hG ha hv
  obtain ⟨q, hq, hv⟩ := obind_some.1 hv
  cases hv
  refine ⟨_, ρ, w, ?_, Goes.refl hr, .bool _⟩
  rw [run_ext h he]
  have := hf _ (findTT_mem hq) w
  rw [show (⟨[.agg #[hdl P t], .iface C.rtype (.agg #[hdl P u])]⟩ : Array Value) = #[.agg #[hdl P t], .iface C.rtype (.agg #[hdl P u])] from rfl, this]
  rfl

theorem rlImplements_sound {f : FuncId} {l : List (Nat × Nat × Bool)} (hC : C.P = P) (hG : P.globals.size < fixedTop) (h : extChk P f = true) {e : Array Value → Sem Value} (he : (P.funcs[f]?).bind Extern.find = some e)
    (hf : ∀ q ∈ l, ∀ w, (e #[.agg #[hdl P q.1], .iface C.rtype (.agg #[hdl P q.2.1])]).run P w = .ok (.bool q.2.2) w) : ExtSound C P f (.rlImplements l) :=
  fun _ _ _ _ _ _ _ _ hr ha hv => extTwo_run hC hG h he hf hr ha hv
theorem rlAssignable_sound {f : FuncId} {l : List (Nat × Nat × Bool)} (hC : C.P = P) (hG : P.globals.size < fixedTop) (h : extChk P f = true) {e : Array Value → Sem Value} (he : (P.funcs[f]?).bind Extern.find = some e)
    (hf : ∀ q ∈ l, ∀ w, (e #[.agg #[hdl P q.1], .iface C.rtype (.agg #[hdl P q.2.1])]).run P w = .ok (.bool q.2.2) w) : ExtSound C P f (.rlAssignable l) :=
  fun _ _ _ _ _ _ _ _ hr ha hv => extTwo_run hC hG h he hf hr ha hv

theorem rlTKind_sound {f : FuncId} {l : List (Nat × Nat)} (hC : C.P = P) (hG : P.globals.size < fixedTop) (h : extChk P f = true) {e : Array Value → Sem Value} (he : (P.funcs[f]?).bind Extern.find = some e)
    (hf : ∀ q ∈ l, ∀ w, (e #[hdl P q.1]).run P w = .ok (.int .u8 (Int.ofNat q.2)) w) : ExtSound C P f (.rlTKind l) := by
  intro base ρ s s' w args cargs v hr ha hv
  have hv : extTKind C l s args = some (v, s') := hv
  unfold extTKind at hv
  split at hv
  · rename_i x
    obtain ⟨t, ht, hv⟩ := obind_some.1 hv
    obtain ⟨k, hu, hv⟩ := obind_some.1 hv
    cases hv
    rw [hC] at ht
    cases ha with
    | cons h1 h2 => cases h2 with
      | nil =>
        rw [ofHandle_vr hG h1 ht]
        refine ⟨_, ρ, w, ?_, Goes.refl hr, .int _ _⟩
        have := hf _ (findT_mem hu) w
        rw [run_ext h he, show (⟨[hdl P t]⟩ : Array Value) = #[hdl P t] from rfl, this]
        rfl
  · cases hv

/-- a Value of the library's -/
noncomputable def valV (P : Program) (t : TypeId) (a : Addr) (f : Nat) : Value := .agg #[hdl P t, .pointer (some a), .int .u64 (Int.ofNat f)]

theorem valueK_some {ρ : Ren} {x c : Value} {k : TypeId → Addr → Nat → Option (Value × St)} {r : Value × St} (hC : C.P = P) (hG : P.globals.size < fixedTop) (hx : VR ρ x c) (hv : valueK C x k = some r) :
    ∃ t b o f L, ρ.at b = some L ∧ c = valV P t ⟨L.blk, L.off + o, none⟩ f ∧ k t ⟨b, o, none⟩ f = some r := by
  unfold valueK at hv
  split at hv
  · rename_i y a i
    obtain ⟨t, ht, hv⟩ := obind_some.1 hv
    rw [hC] at ht
    cases hx with
    | agg h1 => cases h1 with
      | cons h1 h2 => cases h2 with
        | cons h2 h3 => cases h3 with
          | cons h3 h4 => cases h4 with
            | nil => cases h3 with
              | int _ _ => cases h2 with
                | @ptr b o L hL =>
                  cases i with
                  | ofNat f =>
                    rw [ofHandle_vr hG h1 ht]
                    exact ⟨t, b, o, f, L, hL, rfl, hv⟩
                  | negSucc f => cases hv
  · cases hv

theorem rlVType_sound {f : FuncId} {l : List (Nat × Nat)} (hC : C.P = P) (hG : P.globals.size < fixedTop) (h : extChk P f = true) {e : Array Value → Sem Value} (he : (P.funcs[f]?).bind Extern.find = some e)
    (hf : ∀ q ∈ l, ∀ a w, (e #[valV P q.1 a q.2]).run P w = .ok (.iface C.rtype (.agg #[hdl P q.1])) w) : ExtSound C P f (.rlVType l) := by
  intro base ρ s s' w args cargs v hr ha hv
  have hv : extVType C l s args = some (v, s') := hv
  unfold extVType at hv
  split at hv
  · cases ha with
    | cons h1 h2 => cases h2 with
      | nil =>
        obtain ⟨t, b, o, g, L, hL, rfl, hv⟩ := valueK_some hC hG h1 hv
        obtain ⟨q, hq, hv2⟩ := obind_some.1 hv
        obtain ⟨hb, hv3⟩ := guard_some.1 hv2
        clear hv hv2
        have hb := Nat.eq_of_beq_eq_true hb
        subst hb
        cases hv3
        refine ⟨_, ρ, w, ?_, Goes.refl hr, rtypeOf_vr ρ hC hG t⟩
        have := hf _ (findT_mem hq) ⟨L.blk, L.off + o, none⟩ w
        rw [run_ext h he, show (⟨[valV P t ⟨L.blk, L.off + o, none⟩ q]⟩ : Array Value) = #[valV P t ⟨L.blk, L.off + o, none⟩ q] from rfl, this]
        rfl
  · cases hv

theorem rlValueOf_sound {f : FuncId} {l : List (Nat × Nat)} (hC : C.P = P) (hG : P.globals.size < fixedTop) (h : extChk P f = true) (he : (P.funcs[f]?).bind Extern.find = some (fun args => ReflectliteValue.unpack (args.getD 0 (.tuple #[]))))
    (hf : ∀ q ∈ l, ∀ a w, (ReflectliteValue.mk q.1 a 0).run P w = .ok (valV P q.1 a q.2) w) : ExtSound C P f (.rlValueOf l) := by
  intro base ρ s s' w args cargs v hr ha hv
  have hv : extValueOf C l s args = some (v, s') := hv
  unfold extValueOf at hv
  split at hv
  · rename_i t x _
    obtain ⟨g, hu, hv⟩ := obind_some.1 hv
    cases hv
    cases ha with
    | cons h1 h2 => cases h2 with
      | nil => cases h1 with
        | @iface _ x x' hx =>
          have hg := Goes.newRow (e := t) hr (a := x'.cells) (cellsOf_vr hx)
          refine ⟨valV P t ⟨w.heap.size, 0, none⟩ g, _, w.alloc (.cells x'.cells t), ?_, hg, ?_⟩
          · rw [run_ext h he]
            have e1 : (ReflectliteValue.unpack (.iface t x')).run P w = .ok (valV P t ⟨w.heap.size, 0, none⟩ g) (w.alloc (.cells x'.cells t)) := by
              simp only [ReflectliteValue.unpack, newVar, newRow]
              simp [hf _ (findT_mem hu)]
            show ((ReflectliteValue.unpack (.iface t x')).run P w).andThen _ = _
            rw [e1]
            rfl
          · rw [hC]
            exact .agg (.cons (handle_vr _ hG t) (.cons (VR.newPtr hr ⟨w.heap.size, 0, 0⟩ rfl) (.cons (.int _ _) .nil)))
  · cases hv

theorem run_method (z : Sem Value) (f : TypeId → Addr → Nat → Nat → Sem Value) {v : Value} {t : TypeId} {a : Addr} {n : Nat} {w : World} (hp : (ReflectliteValue.parts v).run P w = .ok (some (t, a, n)) w) :
    (ReflectliteValue.method z f #[v]).run P w = (f t a n (n % 32)).run P w := by
  show Sem.run P (do match ← ReflectliteValue.parts v with | none => z | some (t, a, fl) => f t a fl (fl % 32)) w = _
  simp only [Sem.run_bind, hp, Result.andThen_ok]

theorem rlIsNil_sound {f : FuncId} {l : List (Nat × Nat)} (hC : C.P = P) (hG : P.globals.size < fixedTop) (h : extChk P f = true) (he : (P.funcs[f]?).bind Extern.find = some (ReflectliteValue.method (ReflectliteValue.valueError "reflectlite.Value.IsNil" 0) ReflectliteValue.isNil))
    (hp : ∀ q ∈ l, ∀ a w, (ReflectliteValue.parts (valV P q.1 a q.2)).run P w = .ok (some (q.1, a, q.2)) w) (hk : ∀ q ∈ l, q.2 % 32 = 22) : ExtSound C P f (.rlIsNil l) := by
  intro base ρ s s' w args cargs v hr ha hv
  have hv : extIsNil C l s args = some (v, s') := hv
  unfold extIsNil at hv
  split at hv
  · cases ha with
    | cons h1 h2 => cases h2 with
      | nil =>
        obtain ⟨t, b, o, g, L, hL, rfl, hv⟩ := valueK_some hC hG h1 hv
        obtain ⟨q, hq, hv2⟩ := obind_some.1 hv
        obtain ⟨hb, hv3⟩ := guard_some.1 hv2
        obtain ⟨x, hx, hv4⟩ := obind_some.1 hv3
        obtain ⟨y, hy, hv5⟩ := obind_some.1 hv4
        clear hv hv2 hv3 hv4
        have hb := Nat.eq_of_beq_eq_true hb
        subst hb
        cases hv5
        rw [hC] at hx
        obtain ⟨c, hc, hvc⟩ := load_sound hr hL hx
        refine ⟨.bool y, ρ, w, ?_, Goes.refl hr, .bool _⟩
        have hp' := hp _ (findT_mem hq) ⟨L.blk, L.off + o, none⟩ w
        have hk' := hk _ (findT_mem hq)
        have hk' : q % 32 = 22 := hk'
        rw [run_ext h he, show (⟨[valV P t ⟨L.blk, L.off + o, none⟩ q]⟩ : Array Value) = #[valV P t ⟨L.blk, L.off + o, none⟩ q] from rfl, run_method _ _ hp', hk']
        have hn : (ReflectliteValue.isNil t ⟨L.blk, L.off + o, none⟩ q 22).run P w = .ok (.bool y) w := by
          unfold isNilV at hy
          split at hy
          · cases hvc; cases hy
            simp [ReflectliteValue.isNil, hc]
          · cases hvc; cases hy
            simp [ReflectliteValue.isNil, hc]
          · cases hy
        rw [hn]
        rfl
  · cases hv

theorem rlVElem_sound {f : FuncId} {l : List (Nat × Nat × Nat × Nat)} (hC : C.P = P) (hG : P.globals.size < fixedTop) (h : extChk P f = true) (he : (P.funcs[f]?).bind Extern.find = some (ReflectliteValue.method (ReflectliteValue.valueError "reflectlite.Value.Elem" 0) ReflectliteValue.elem))
    (hp : ∀ q ∈ l, ∀ a w, (ReflectliteValue.parts (valV P q.1 a q.2.1)).run P w = .ok (some (q.1, a, q.2.1)) w) (hk : ∀ q ∈ l, q.2.1 % 32 = 22)
    (hel : ∀ q ∈ l, ∀ w, (Rtype.elem? q.1).run P w = .ok (some q.2.2.1) w) (hm : ∀ q ∈ l, ∀ a w, (ReflectliteValue.mk q.2.2.1 a ReflectliteValue.flagAddr).run P w = .ok (valV P q.2.2.1 a q.2.2.2) w) : ExtSound C P f (.rlVElem l) := by
  intro base ρ s s' w args cargs v hr ha hv
  have hv : extVElem C l s args = some (v, s') := hv
  unfold extVElem at hv
  split at hv
  · cases ha with
    | cons h1 h2 => cases h2 with
      | nil =>
        obtain ⟨t, b, o, g, L, hL, rfl, hv⟩ := valueK_some hC hG h1 hv
        obtain ⟨q, hq, hv2⟩ := obind_some.1 hv
        obtain ⟨hb, hv3⟩ := guard_some.1 hv2
        obtain ⟨x, hx, hv4⟩ := obind_some.1 hv3
        clear hv hv2 hv3
        have hb := Nat.eq_of_beq_eq_true hb
        rw [hC] at hx
        obtain ⟨c, hc, hvc⟩ := load_sound hr hL hx
        obtain ⟨g', e, g2⟩ := q
        have hb : g' = g := hb
        subst hb
        have hm' := findT_mem hq
        have hp' := hp _ hm' ⟨L.blk, L.off + o, none⟩ w
        have hk' : g' % 32 = 22 := hk _ hm'
        have he' := hel _ hm' w
        dsimp only at hp' he'
        split at hv4
        · rename_i p
          cases hv4
          cases hvc with
          | @ptr pb po pl hpl =>
            refine ⟨valV P e ⟨pl.blk, pl.off + po, none⟩ g2, ρ, w, ?_, Goes.refl hr, ?_⟩
            · rw [run_ext h he, show (⟨[valV P t ⟨L.blk, L.off + o, none⟩ g']⟩ : Array Value) = #[valV P t ⟨L.blk, L.off + o, none⟩ g'] from rfl, run_method _ _ hp', hk']
              have hn : (ReflectliteValue.elem t ⟨L.blk, L.off + o, none⟩ g' 22).run P w = .ok (valV P e ⟨pl.blk, pl.off + po, none⟩ g2) w := by
                have hm2 := hm _ hm' ⟨pl.blk, pl.off + po, none⟩ w
                dsimp only at hm2
                simp [ReflectliteValue.elem, hc, he', hm2]
              rw [hn]
              rfl
            · rw [hC]
              exact .agg (.cons (handle_vr _ hG e) (.cons (.ptr hpl) (.cons (.int _ _) .nil)))
        · cases hv4
  · cases hv

theorem rls (v x : Value) : ReflectliteValue.set #[v, x] = (do
    let (some (dst, a, fl), some (src, b, _)) := (← ReflectliteValue.parts v, ← ReflectliteValue.parts x)
      | unsupported (.noEntry "extern/(internal/reflectlite.Value).Set.zeroValue")
    if fl / ReflectliteValue.flagAddr % 2 == 0 then unsupported (.noEntry "extern/(internal/reflectlite.Value).Set.unaddressable")
    let val ← loadVar src b
    if ← Rtype.directlyAssignable dst src then storeVar dst a val
    else if ← Rtype.implements dst src then
      if (← Rtype.kind src) == 20 then
        match val with
        | .nilIface => unsupported (.noEntry "extern/reflectlite: a nil value of one interface type handed on as a value of another")
        | _ => storeVar dst a val
      else storeVar dst a (.iface src val)
    else panicString ("reflectlite.Set: value of type " ++ (← Rtype.spelt src) ++ " is not assignable to type " ++ (← Rtype.spelt dst))
    pure (.tuple #[])) := rfl

theorem run_set (v x : Value) {t : TypeId} {a b : Addr} {f g : Nat} {w : World} (hp : (ReflectliteValue.parts v).run P w = .ok (some (t, a, f)) w) (hq : (ReflectliteValue.parts x).run P w = .ok (some (t, b, g)) w)
    (hf : f / ReflectliteValue.flagAddr % 2 = 1) (hd : ∀ w, (Rtype.directlyAssignable t t).run P w = .ok true w) {c : Value} (hc : (loadVar t b).run P w = .ok c w) {w' : World} (hs : (storeVar t a c).run P w = .ok () w') :
    (ReflectliteValue.set #[v, x]).run P w = .ok (.tuple #[]) w' := by
  rw [rls]
  simp only [Sem.run_bind, hp, hq, Result.andThen_ok]
  have hf' : (f / ReflectliteValue.flagAddr % 2 == 0) = false := by rw [hf]; rfl
  simp [hf', hc, hd w, hs]

theorem rlSet_sound {f : FuncId} {l : List (Nat × Nat × Nat)} (hC : C.P = P) (hG : P.globals.size < fixedTop) (h : extChk P f = true) (he : (P.funcs[f]?).bind Extern.find = some ReflectliteValue.set)
    (hp : ∀ q ∈ l, ∀ a w, (ReflectliteValue.parts (valV P q.1 a q.2.1)).run P w = .ok (some (q.1, a, q.2.1)) w ∧ (ReflectliteValue.parts (valV P q.1 a q.2.2)).run P w = .ok (some (q.1, a, q.2.2)) w)
    (hk : ∀ q ∈ l, q.2.1 / ReflectliteValue.flagAddr % 2 = 1) (hd : ∀ q ∈ l, ∀ w, (Rtype.directlyAssignable q.1 q.1).run P w = .ok true w) : ExtSound C P f (.rlSet l) := by
  intro base ρ s s' w args cargs v hr ha hv
  have hv : extSet C l s args = some (v, s') := hv
  unfold extSet at hv
  split at hv
  · cases ha with
    | cons h1 h2 => cases h2 with
      | cons h2 h3 => cases h3 with
        | nil =>
          obtain ⟨t, b, o, g, L, hL, rfl, hv⟩ := valueK_some hC hG h1 hv
          obtain ⟨t2, b2, o2, g2, L2, hL2, rfl, hv⟩ := valueK_some hC hG h2 hv
          obtain ⟨q, hq, hv2⟩ := obind_some.1 hv
          obtain ⟨hb, hv3⟩ := guard_some.1 hv2
          obtain ⟨x, hx, hv4⟩ := obind_some.1 hv3
          obtain ⟨s2, hs2, hv5⟩ := obind_some.1 hv4
          clear hv hv2 hv3 hv4
          simp only [Bool.and_eq_true] at hb
          obtain ⟨⟨e1, e2⟩, e3⟩ := hb
          have e1 := Nat.eq_of_beq_eq_true e1
          have e2 := Nat.eq_of_beq_eq_true e2
          have e3 := Nat.eq_of_beq_eq_true e3
          subst e1
          cases hv5
          rw [hC] at hx hs2
          obtain ⟨g', g2'⟩ := q
          have e2 : g' = g := e2
          have e3 : g2' = g2 := e3
          subst e2 e3
          obtain ⟨c, hc, hvc⟩ := load_sound hr hL2 hx
          obtain ⟨w', hw, hgo⟩ := store_sound hr hL hs2 hvc
          have hm := findT_mem hq
          refine ⟨.tuple #[], ρ, w', ?_, hgo, .tuple .nil⟩
          have := run_set (valV P t ⟨L.blk, L.off + o, none⟩ g') (valV P t ⟨L2.blk, L2.off + o2, none⟩ g2') (hp _ hm _ w).1 (hp _ hm _ w).2 (hk _ hm) (hd _ hm) hc hw
          rw [run_ext h he, show (⟨[valV P t ⟨L.blk, L.off + o, none⟩ g', valV P t ⟨L2.blk, L2.off + o2, none⟩ g2']⟩ : Array Value) = #[valV P t ⟨L.blk, L.off + o, none⟩ g', valV P t ⟨L2.blk, L2.off + o2, none⟩ g2'] from rfl, this]
          rfl
  · cases hv
end Go.Ax

namespace Go.Ax
open Go Go.Extern
variable {P : Program} {base : Nat} {ρ : Ren} {s s' : St} {w w' : World}

/-- What was known of a slice of a family, forgotten. -/
theorem Goes.forget (h : HR P base ρ s w) {b : Nat} {cs : List Value} {e : TypeId} {f : Nat} (hc : s.cells b = some (cs, e, f)) (hf : f ≠ 0) :
    Goes P base ρ s w ρ { heap := s.heap.set b (.row [] e f), fams := s.fams, next := s.next } w := by
  obtain ⟨hg, hlive⟩ := cells_some.1 hc
  have hget : ∀ i, i ≠ b → (s.heap.set b (.row [] e f)).get i = s.heap.get i := fun i hi => Hp.get_set_other _ _ hi
  have htag : ∀ i, St.tag { heap := s.heap.set b (.row [] e f), fams := s.fams, next := s.next } i = s.tag i := by
    intro i
    by_cases hi : i = b
    · subst hi
      unfold St.tag
      simp only [Hp.get_set_same, hg]
    · unfold St.tag
      simp only [hget i hi]
  have hown : ∀ x, Owned ρ { heap := s.heap.set b (.row [] e f), fams := s.fams, next := s.next } x → Owned ρ s x := by
    rintro x ⟨i, l, a, h1, h2, h3, h4⟩
    exact ⟨i, l, a, h1, by rw [← htag i]; exact h2, h3, h4⟩
  refine ⟨Ren.le_refl ρ, ?_, rfl, rfl, rfl, Nat.le_refl _, Nat.le_refl _, fun _ _ _ => rfl, fun x hx => .inl (hown x hx), fun _ _ => rfl⟩
  refine ⟨h.dom, h.next, h.base_le, fun i hi ht => h.low i hi (by rw [← htag i]; exact ht), fun i r hi => ?_, fun i cs' e' f' hi => ?_, fun i cs' e' f' hi => ?_, fun i es c hi => ?_, fun i r hi => ?_, fun i j a c l l' hi hj => ?_⟩
  · by_cases e0 : i = b
    · subst e0; exact h.heap_dom _ _ hg
    · exact h.heap_dom i r (by rw [← hget i e0]; exact hi)
  · by_cases e0 : i = b
    · subst e0
      have hi : (s.heap.set i (.row [] e f)).get i = some (.row cs' e' f') := hi
      rw [Hp.get_set_same] at hi
      cases hi
      exact h.fam_dom _ _ _ _ hg
    · exact h.fam_dom i cs' e' f' (by rw [← hget i e0]; exact hi)
  · by_cases e0 : i = b
    · subst e0
      obtain ⟨h1, h2⟩ := cells_some.1 hi
      have h1 : (s.heap.set i (.row [] e f)).get i = some (.row cs' e' f') := h1
      rw [Hp.get_set_same] at h1
      cases h1
      obtain ⟨l, hq⟩ := h.rows i cs e f hc
      obtain ⟨hat, a, fz, ha, hv, hz, h0, h4⟩ := hq
      refine ⟨l, hat, a, fz, ha, fun j x hj => by simp at hj, hz, fun h => absurd h hf, fun h => ?_⟩
      obtain ⟨n, n1, n2, n3, n4⟩ := h4 h
      exact ⟨n, n1, n2, n3, by simp⟩
    · refine h.rows i cs' e' f' ?_
      obtain ⟨h1, h2⟩ := cells_some.1 hi
      exact cells_some.2 ⟨by rw [← hget i e0]; exact h1, h2⟩
  · have e0 : i ≠ b := by
      rintro rfl
      have hi : (s.heap.set i (.row [] e f)).get i = some (.map es c) := hi
      rw [Hp.get_set_same] at hi
      cases hi
    exact h.maps i es c (by rw [← hget i e0]; exact hi)
  · have e0 : i ≠ b := by
      rintro rfl
      have hi : (s.heap.set i (.row [] e f)).get i = some (.loop r) := hi
      rw [Hp.get_set_same] at hi
      cases hi
    exact h.loops i r (by rw [← hget i e0]; exact hi)
  · rw [htag i] at hi
    rw [htag j] at hj
    exact h.sep i j a c l l' hi hj

/-- Cells copied from one row to another, or within one. -/
theorem run_copy_cells {t e : TypeId} {sz : Nat} (hu : P.underlying t = some (.slice e)) (hsz : size P e = some sz) (ty : TypeId) {g off dLen dCap sb so sLen sCap m : Nat} (hm : Nat.min sLen dLen = m) {cur : Array Value} {ty0 : TypeId} {fz : Nat × Nat}
    (hg : w.heap[g]? = some (.cells cur ty0 fz)) (hfz : ∀ k, k < cur.size → ¬ (fz.1 ≤ k ∧ k < fz.2)) {cl : List Value} (hcl : cl.length = m * sz) (hsrc : ∀ (j : Nat) (v : Value), cl[j]? = some v → w.cell? ⟨sb, so + j, none⟩ = some v)
    (hfit : off + cl.length ≤ cur.size) (h1 : ∀ v ∈ cl, v.oneCell' = true) :
    (Builtin.copy_ #[t, t] ty #[.slice (some ⟨g, off, none⟩) dLen dCap, .slice (some ⟨sb, so, none⟩) sLen sCap]).run P w = .ok (goInt m) (w.setRow g (cur.toList.take off ++ cl ++ cur.toList.drop (off + cl.length)).toArray) := by
  have hl := run_loadCells_list (P := P) w ⟨sb, so, none⟩ cl (fun j v hj => by rw [add_eq]; exact hsrc j v hj)
  rw [hcl] at hl
  have hst := run_storeCells_gen P g off ty0 fz cl 0 cur w hg (by simpa using hfit) hfz h1
  simp only [Nat.add_zero] at hst
  simp [Builtin.copy_, run_underlying hu, Builtin.lenOf, run_sizeOf hsz, hm, Builtin.firstCells, hl, hst]

/-- append(s, make(S, m)...) where there is no room. -/
theorem run_append_zeros {t it e : TypeId} {i : TypeInfo} {z : Value} (hu : P.underlying t = some (.slice e)) (hi : P.info? e = some i) (hz : i.zero = some z) (_hzs : z.cells.size = i.size) (h0 : 1 ≤ i.size) (hint : P.underlying it = some (.int .i64)) (ty : TypeId)
    {b : Addr} {sLen sCap m : Nat} {old : List Value} (hold : (Go.loadCells b (sLen * i.size)).run P w.drew = .ok ⟨old⟩ w.drew) (hm0 : 1 ≤ m) (hfit : sCap < sLen + m) (h63 : sLen + m ≤ 281474976710656) (hmb : m * i.bytes ≤ 281474976710656)
    (h48 : Builtin.nextslicecap (sLen + m) sCap * i.bytes ≤ 281474976710656) :
    (Builtin.append_ #[t, it] ty #[.slice (some b) sLen sCap, .int .i64 (m : Int)]).run P w =
      .ok (.slice (some ⟨w.heap.size, 0, none⟩) (sLen + m) (grownCap w (sLen + m) sCap e))
        (w.drew.alloc (.cells ((⟨old⟩ : Array Value) ++ Builtin.zeroCells z.cells m ++ Builtin.zeroCells z.cells (grownCap w (sLen + m) sCap e - (sLen + m))) e)) := by
  have hn : ¬ (sLen + m ≤ sCap) := by omega
  have h63' : ¬ (9223372036854775807 < ((sLen : Int) + (m : Int))) := by omega
  have h48' : ¬ (281474976710656 < Builtin.nextslicecap (sLen + m) sCap * i.bytes) := by omega
  have hw : IntKind.i64.wrap (m : Int) = m := by rw [IntKind.wrap_i64]; omega
  have hmb' : ¬ (281474976710656 < (m : Int) * (i.bytes : Int)) := by
    have : ((m * i.bytes : Nat) : Int) ≤ 281474976710656 := by omega
    rw [Int.natCast_mul] at this
    omega
  have hneg : ¬ ((m : Int) < 0) := by omega
  have hz0 : ¬ (m * i.size = 0) := by
    have := Nat.mul_pos hm0 h0
    omega
  have hai : (asInt (.int .i64 (m : Int))).run P w = .ok (m : Int) w := rfl
  simp [hai, Builtin.append_, run_underlying hu, run_underlying hint, sizeOf, typeInfo, zeroValue, hi, hz, hw, hneg, hmb', hn, h63', h48', hz0, Question.forced, Builtin.firstCells, hold, newRow, grownCap]

theorem ovl (params results : Array TypeId) (a b : Addr) (la ca lb cb : Nat) : SlicesOverlaps.overlaps params results #[.slice (some a) la ca, .slice (some b) lb cb] = (do
    let some t := params[0]? | stuck "slices.overlaps: no parameter types"
    let .slice elem ← underlying t | stuck "slices.overlaps: slice type expected"
    let size ← sizeOf elem
    if la = 0 ∨ lb = 0 ∨ size = 0 then pure (.bool false)
    else if a.block != b.block && (← frozen a) && (← frozen b) then unsupported .addressObserved
    else do
      if a.block != b.block then do
        noView a; noView b
        if ← mayBeOne a b then return .bool ((← choose (.extern "sameAddr.stringBytes" 2)) == 1)
      pure (.bool (a.block == b.block && a.off < b.off + lb * size && b.off < a.off + la * size))) := rfl

/-- slices.overlaps of an array that nobody else has. -/
theorem run_overlaps {params results : Array TypeId} {t e : TypeId} {sz : Nat} (h0 : params[0]? = some t) (hu : P.underlying t = some (.slice e)) (hsz : size P e = some sz) (h1 : 1 ≤ sz) {va vo la ca gb go lb cb : Nat} (hla : la ≠ 0) (hlb : lb ≠ 0) (hne : va ≠ gb)
    {A : Array Value} {tA : TypeId} {fA : Nat × Nat} (hA : w.heap[va]? = some (.cells A tA fA)) (hv : ¬ (fA.1 ≤ vo ∧ vo < fA.2)) (hend : ¬ (fA.1 ≤ A.size ∧ A.size < fA.2)) {B : Array Value} {tB : TypeId} {fB : Nat × Nat} (hB : w.heap[gb]? = some (.cells B tB fB)) (hBs : B.size ≠ 0) :
    (SlicesOverlaps.overlaps params results #[.slice (some ⟨va, vo, none⟩) la ca, .slice (some ⟨gb, go, none⟩) lb cb]).run P w = .ok (.bool false) w := by
  have hz : sz ≠ 0 := by omega
  have f1 : w.frozen? ⟨va, vo, none⟩ = false := by
    simp only [World.frozen?, hA]
    by_cases h : fA.1 ≤ vo
    · have : ¬ vo < fA.2 := fun h' => hv ⟨h, h'⟩
      simp [this]
    · simp [h]
  have f2 : w.frozen? ⟨va, A.size, none⟩ = false := by
    simp only [World.frozen?, hA]
    by_cases h : fA.1 ≤ A.size
    · have : ¬ A.size < fA.2 := fun h' => hend ⟨h, h'⟩
      simp [this]
    · simp [h]
  have s1 : w.shape? va = some (tA, A.size) := by simp [World.shape?, hA]
  obtain ⟨k, hk⟩ : ∃ k, B.size = k + 1 := ⟨B.size - 1, by omega⟩
  have s2 : w.shape? gb = some (tB, k + 1) := by simp [World.shape?, hB, hk]
  rw [ovl]
  simp [h0, run_underlying hu, run_sizeOf hsz, hla, hlb, hz, hne, f1, noView, viewAt, s1, s2, mayBeOne, stringish, f2]
end Go.Ax

namespace Go.Ax
open Go Go.Extern Go.RowKit
variable {P : Program} {base : Nat} {ρ : Ren} {s s' : St} {w w' : World}

/-- cells written over a row from o on -/
def spl (A : Array Value) (o : Nat) (l : List Value) : Array Value := (A.toList.take o ++ l ++ A.toList.drop (o + l.length)).toArray
theorem spl_size {A : Array Value} {o : Nat} {l : List Value} (h : o + l.length ≤ A.size) : (spl A o l).size = A.size := by simp [spl]; omega
theorem spl_lt {A : Array Value} {o j : Nat} {l : List Value} (h : o ≤ A.size) (hj : j < o) : (spl A o l)[j]? = A[j]? := by
  simp only [spl, List.getElem?_toArray]
  rw [List.append_assoc, List.getElem?_append_left (by simp; omega), List.getElem?_take, if_pos hj]
  simp
theorem spl_mid {A : Array Value} {o k : Nat} {l : List Value} (h : o + l.length ≤ A.size) (hk : k < l.length) : (spl A o l)[o + k]? = l[k]? := by
  simp only [spl, List.getElem?_toArray]
  rw [List.append_assoc, List.getElem?_append_right (by simp; omega), List.getElem?_append_left (by simp; omega)]
  congr 1
  simp; omega
theorem spl_ge {A : Array Value} {o j : Nat} {l : List Value} (h : o + l.length ≤ A.size) (hj : o + l.length ≤ j) : (spl A o l)[j]? = A[j]? := by
  simp only [spl, List.getElem?_toArray]
  rw [List.getElem?_append_right (by simp; omega), List.getElem?_drop]
  have : o + l.length + (j - (List.take o A.toList ++ l).length) = j := by simp; omega
  rw [this]
  simp

/-- What lies in the row behind an insertion. -/
theorem ins_cells {A : Array Value} {off i n sz : Nat} {cs new tcl ncl : List Value} (hi : i ≤ n) (hcs : cs.length = n * sz) (ht : VRs ρ (cs.drop (i * sz)) tcl) (hn : VRs ρ new ncl) (hnl : new.length = sz)
    (hlow : ∀ (j : Nat) (x : Value), j < i * sz → cs[j]? = some x → ∃ y, A[off + j]? = some y ∧ VR ρ x y) (hfit : off + (n + 1) * sz ≤ A.size) :
    ∀ (j : Nat) (x : Value), (cs.take (i * sz) ++ (new ++ cs.drop (i * sz)))[j]? = some x → ∃ y, (spl (spl A (off + (i + 1) * sz) tcl) (off + i * sz) ncl)[off + j]? = some y ∧ VR ρ x y := by
  have him : i * sz ≤ n * sz := Nat.mul_le_mul_right _ hi
  have e1 : (i + 1) * sz = i * sz + sz := Nat.succ_mul _ _
  have e2 : (n + 1) * sz = n * sz + sz := Nat.succ_mul _ _
  have htl := ht.length
  have hnl' := hn.length
  simp at htl
  have hf1 : off + (i + 1) * sz + tcl.length ≤ A.size := by omega
  have hs1 := spl_size hf1
  have hf2 : off + i * sz + ncl.length ≤ (spl A (off + (i + 1) * sz) tcl).size := by omega
  intro j x hj
  by_cases h1 : j < i * sz
  · rw [List.getElem?_append_left (by simp; omega), List.getElem?_take, if_pos h1] at hj
    rw [spl_lt (by omega) (by omega), spl_lt (by omega) (by omega)]
    exact hlow j x h1 hj
  · rw [List.getElem?_append_right (by simp; omega)] at hj
    have el : (List.take (i * sz) cs).length = i * sz := by simp; omega
    rw [el] at hj
    by_cases h2 : j - i * sz < sz
    · rw [List.getElem?_append_left (by omega)] at hj
      obtain ⟨y, hy, hv⟩ := hn.get hj
      refine ⟨y, ?_, hv⟩
      have := spl_mid hf2 (k := j - i * sz) (by omega)
      rw [← hy, ← this]
      congr 1
      omega
    · rw [List.getElem?_append_right (by omega), hnl] at hj
      obtain ⟨y, hy, hv⟩ := ht.get hj
      refine ⟨y, ?_, hv⟩
      rw [spl_ge hf2 (by omega)]
      have hlt := (List.getElem?_eq_some_iff.1 hy).1
      have := spl_mid hf1 (k := j - i * sz - sz) (by omega)
      rw [← hy, ← this]
      congr 1
      omega

theorem arr_ext {A B : Array Value} (h : ∀ j : Nat, A[j]? = B[j]?) : A = B := by
  apply Array.ext'
  apply List.ext_getElem?
  intro j
  simpa using h j

theorem spl_nil {A : Array Value} {o : Nat} : spl A o [] = A := by simp [spl]

theorem spl_comm {A : Array Value} {o1 o2 : Nat} {l1 l2 : List Value} (h1 : o1 + l1.length ≤ o2) (h2 : o2 + l2.length ≤ A.size) : spl (spl A o1 l1) o2 l2 = spl (spl A o2 l2) o1 l1 := by
  have e1 : (spl A o1 l1).size = A.size := spl_size (by omega)
  have e2 : (spl A o2 l2).size = A.size := spl_size h2
  apply arr_ext
  intro j
  by_cases c1 : j < o1
  · rw [spl_lt (by omega) (by omega), spl_lt (by omega) c1, spl_lt (by omega) c1, spl_lt (by omega) (by omega)]
  · by_cases c2 : j < o1 + l1.length
    · rw [spl_lt (by omega) (by omega)]
      have a1 := spl_mid (A := A) (o := o1) (l := l1) (k := j - o1) (by omega) (by omega)
      have a2 := spl_mid (A := spl A o2 l2) (o := o1) (l := l1) (k := j - o1) (by omega) (by omega)
      have ej : o1 + (j - o1) = j := by omega
      rw [ej] at a1 a2
      rw [a1, a2]
    · rw [spl_ge (A := spl A o2 l2) (by omega) (by omega)]
      by_cases c3 : j < o2
      · rw [spl_lt (by omega) c3, spl_lt (by omega) c3, spl_ge (by omega) (by omega)]
      · by_cases c4 : j < o2 + l2.length
        · have a1 := spl_mid (A := A) (o := o2) (l := l2) (k := j - o2) h2 (by omega)
          have a2 := spl_mid (A := spl A o1 l1) (o := o2) (l := l2) (k := j - o2) (by omega) (by omega)
          have ej : o2 + (j - o2) = j := by omega
          rw [ej] at a1 a2
          rw [a1, a2]
        · rw [spl_ge (by omega) (by omega), spl_ge (by omega) (by omega), spl_ge h2 (by omega)]

theorem allOne_drop : ∀ (k : Nat) {l : List Value}, allOne l = true → allOne (l.drop k) = true
  | 0, _, h => h
  | _ + 1, [], _ => rfl
  | k + 1, a :: l, h => by
    change sel (isOne a) (allOne l) false = true at h
    rw [sel_eq] at h
    split at h
    · exact allOne_drop k h
    · cases h

/-- The state behind an insertion. -/
noncomputable def insSt (s : St) (b : Nat) (e : TypeId) (f : Nat) (l : List Value) : St :=
  { heap := (s.heap.set b (.row [] e f)).set s.next (.row l e f), fams := s.fams.set f [s.next, b], next := Nat.succ s.next }

theorem ins_place_goes (h : HR P base ρ s w) {b : Nat} {cs final : List Value} {e : TypeId} {f sz k : Nat} {L : Loc} (hb : fixedTop ≤ b) (hc : s.cells b = some (cs, e, f)) (hf : f ≠ 0) (hl : ρ.at b = some L) (hsz : size P e = some sz)
    {A A' : Array Value} {fz : Nat × Nat} (ha : w.heap[L.blk]? = some (.cells A e fz)) (hs : A'.size = A.size) (hv : ∀ (j : Nat) (x : Value), final[j]? = some x → ∃ y, A'[L.off + j]? = some y ∧ VR ρ x y)
    (hcap : L.off + L.cap * sz ≤ A.size) (hlen : final.length ≤ L.cap * sz) :
    Goes P base ρ s w (ρ.set s.next L) (insSt s b e f final) (({ w with drawn := k } : World).setRow L.blk A') := by
  have g0 := Goes.forget h hc hf
  have g1 := Goes.drew g0.hr k
  have hc0 : St.cells { heap := s.heap.set b (.row [] e f), fams := s.fams, next := s.next } b = some ([], e, f) :=
    cells_some.2 ⟨Hp.get_set_same _ _ _, (cells_some.1 hc).2⟩
  have g2 := Goes.share (cells := final) (ln := L) g1.hr hb hc0 hf hl (a' := A') ha hs (fun j x hj => by simp at hj) rfl hv (fun n hn => by
    rw [hsz] at hn
    cases hn
    exact ⟨hcap, hlen⟩)
  exact (g0.trans g1).trans g2

theorem ins_grow_goes (h : HR P base ρ s w) {b : Nat} {cs final : List Value} {e : TypeId} {f sz cap k : Nat} (hc : s.cells b = some (cs, e, f)) (hf : f ≠ 0) (hsz : size P e = some sz) (h0 : 0 < sz)
    {A : Array Value} (hv : ∀ (j : Nat) (x : Value), final[j]? = some x → ∃ y, A[j]? = some y ∧ VR ρ x y) (hs : A.size = cap * sz) (hlen : final.length ≤ cap * sz) :
    Goes P base ρ s w (ρ.set s.next ⟨w.heap.size, 0, cap⟩) (insSt s b e f final) (({ w with drawn := k } : World).alloc (.cells A e)) := by
  have g0 := Goes.forget h hc hf
  have hc0 : St.cells { heap := s.heap.set b (.row [] e f), fams := s.fams, next := s.next } b = some ([], e, f) :=
    cells_some.2 ⟨Hp.get_set_same _ _ _, (cells_some.1 hc).2⟩
  have g2 := Goes.shareNew (cells := final) (k := k) g0.hr hc0 hf hsz h0 hv hs hlen
  exact g0.trans g2

/-- The walks of slices.Insert, by the runs of what it calls. -/
structure InsWalks (P : Program) (F OV : FuncId) (t it : TypeId) (sz : Nat) : Prop where
  place : ∀ (b o n K i vb vo vc : Nat) (w w2 w3 : World) (x2 x3 : Value), i < n → n + 1 ≤ K → n + 1 ≤ 9223372036854775807 →
    Sem.run P (callFunc OV #[.slice (some ⟨vb, vo, none⟩) 1 vc, .slice (some ⟨b, o + (i + 1) * sz, none⟩) (n - i) (K - (i + 1))]) w = .ok (.value (.bool false)) w →
    Hid (Sem.run P (Builtin.copy_ #[t, t] it #[.slice (some ⟨b, o + (i + 1) * sz, none⟩) (n - i) (K - (i + 1)), .slice (some ⟨b, o + i * sz, none⟩) (n + 1 - i) (K - i)]) w.drew = .ok x2 w2) →
    Sem.run P (Builtin.copy_ #[t, t] it #[.slice (some ⟨b, o + i * sz, none⟩) (n + 1 - i) (K - i), .slice (some ⟨vb, vo, none⟩) 1 vc]) w2 = .ok x3 w3 →
    Calls P F #[.slice (some ⟨b, o, none⟩) n K, .int .i64 i, .slice (some ⟨vb, vo, none⟩) 1 vc] w fun e w' => e = .returned (.slice (some ⟨b, o, none⟩) (n + 1) K) ∧ w' = w3
  fin : ∀ (b o n K vb vo vc : Nat) (w w2 : World) (x2 : Value),
    Hid (Sem.run P (Builtin.append_ #[t, t] t #[.slice (some ⟨b, o, none⟩) n K, .slice (some ⟨vb, vo, none⟩) 1 vc]) w = .ok x2 w2) →
    Calls P F #[.slice (some ⟨b, o, none⟩) n K, .int .i64 n, .slice (some ⟨vb, vo, none⟩) 1 vc] w fun e w' => e = .returned x2 ∧ w' = w2
  grow : ∀ (b o n K i vb vo vc g G : Nat) (w w2 w3 w4 : World) (x3 x4 : Value), i < n → n ≤ K → K < n + 1 → n + 1 ≤ 9223372036854775807 → n + 1 ≤ G →
    Hid (Sem.run P (Builtin.append_ #[t, it] t #[.slice (some ⟨b, o, none⟩) i K, .int .i64 ((n : Int) + 1 - i)]) w = .ok (.slice (some ⟨g, 0, none⟩) (n + 1) G) w2) →
    Sem.run P (Builtin.copy_ #[t, t] it #[.slice (some ⟨g, i * sz, none⟩) (n + 1 - i) (G - i), .slice (some ⟨vb, vo, none⟩) 1 vc]) w2 = .ok x3 w3 →
    Hid (Sem.run P (Builtin.copy_ #[t, t] it #[.slice (some ⟨g, (i + 1) * sz, none⟩) (n - i) (G - (i + 1)), .slice (some ⟨b, o + i * sz, none⟩) (n - i) (K - i)]) w3.drew = .ok x4 w4) →
    Calls P F #[.slice (some ⟨b, o, none⟩) n K, .int .i64 i, .slice (some ⟨vb, vo, none⟩) 1 vc] w fun e w' => e = .returned (.slice (some ⟨g, 0, none⟩) (n + 1) G) ∧ w' = w4

theorem alloc_setRow (w : World) (a a' : Array Value) (e : TypeId) : (w.alloc (.cells a e)).setRow w.heap.size a' = w.alloc (.cells a' e) := by
  unfold World.alloc World.setRow
  congr 1
  apply Array.ext
  · simp
  · intro i h1 h2
    simp only [Array.getElem_modify]
    by_cases h : w.heap.size = i
    · subst h; simp
    · simp only [h, if_false]
      have hlt : i < w.heap.size := by simp at h2; omega
      rw [Array.getElem_push_lt hlt, Array.getElem_push_lt hlt]

theorem cell_push (w : World) (o : Obj) {b j : Nat} {v : Value} (h : w.cell? ⟨b, j, none⟩ = some v) : (w.alloc o).cell? ⟨b, j, none⟩ = some v := by
  have hlt : b < w.heap.size := by
    unfold World.cell? at h
    cases hb : w.heap[b]? with
    | none => simp [hb] at h
    | some x => exact (Array.getElem?_eq_some_iff.1 hb).1
  rw [World.cell?_alloc_lt _ _ ⟨b, j, none⟩ hlt]
  exact h

theorem insert_sound {C : Cfg} {F OV : FuncId} {t it e : TypeId} {sz : Nat} {ps rs : Array TypeId} (hW : InsWalks P F OV t it sz) (hC : C.P = P) (hu : P.underlying t = some (.slice e)) (hsz : size P e = some sz) (hint : P.underlying it = some (.int .i64))
    (hx : extChk P OV = true) (ho : (P.funcs[OV]?).bind Extern.find = some (SlicesOverlaps.overlaps ps rs)) (hps : ps[0]? = some t) (hni : noInt P (some t) = true)
    {args : List Value} {s s' : St} {v : Value} (hv : extInsert C e s args = some (v, s')) {base : Nat} {ρ : Ren} {w : World} {cargs : List Value} (h : HR P base ρ s w) (ha : VRs ρ args cargs) :
    Calls P F ⟨cargs⟩ w fun x w' => ∃ c ρ', x = .returned c ∧ Goes P base ρ s w ρ' s' w' ∧ VR ρ' v c := by
  unfold extInsert at hv
  split at hv
  · rename_i a n cap iv u m uc
    obtain ⟨i, hiv, hv1⟩ := obind_some.1 hv
    obtain ⟨hm1, hv2⟩ := guard_some.1 hv1
    obtain ⟨⟨cs, e', f⟩, hc, hv3⟩ := obind_some.1 hv2
    obtain ⟨⟨ds, ed, fd⟩, hd, hv4⟩ := obind_some.1 hv3
    obtain ⟨sz', hsz', hv5⟩ := obind_some.1 hv4
    obtain ⟨hg, hv6⟩ := guard_some.1 hv5
    obtain ⟨new, hnew, hv7⟩ := obind_some.1 hv6
    obtain ⟨hone, hv8⟩ := guard_some.1 hv7
    clear hv hv1 hv2 hv3 hv4 hv5 hv6 hv7
    rw [hC] at hsz' hg
    rw [hsz] at hsz'
    cases hsz'
    have hm1 := Nat.eq_of_beq_eq_true hm1
    subst hm1
    simp only [Bool.and_eq_true, Bool.not_eq_true'] at hg hone
    obtain ⟨⟨⟨⟨⟨⟨⟨⟨⟨⟨⟨⟨g1, g2⟩, g3⟩, g4⟩, g5⟩, g6⟩, g7⟩, g8⟩, g9⟩, g10⟩, g11⟩, g12⟩, g13⟩ := hg
    have g1 : e' = e := Nat.eq_of_beq_eq_true g1
    subst g1
    have g2 : a.off = 0 := Nat.eq_of_beq_eq_true g2
    have g3 : cs.length = n * sz := by rw [lenL_eq] at g3; exact Nat.eq_of_beq_eq_true g3
    have g4 : i ≤ n := Nat.le_of_ble_eq_true g4
    have g5 : f ≠ 0 := by rintro rfl; simp at g5
    have g6 : cap = bigCap := Nat.eq_of_beq_eq_true g6
    have g7 : fixedTop ≤ a.block := Nat.le_of_ble_eq_true g7
    have g8 : fixedTop ≤ u.block := Nat.le_of_ble_eq_true g8
    have g9 : fd = 0 := Nat.eq_of_beq_eq_true g9
    subst g9 g6
    have g10 : 1 ≤ ds.length := by rw [lenL_eq] at g10; exact Nat.le_of_ble_eq_true g10
    have g11 : 1 ≤ sz := Nat.le_of_ble_eq_true g11
    have g13 : n ≤ 1099511627776 := Nat.le_of_ble_eq_true g13
    rw [takeN_eq, dropL_eq] at hnew
    obtain ⟨hnl, rfl⟩ := hnew
    simp only [appL_eq, takeL_eq, dropL_eq] at hv8
    have hiv' : iv = Int.ofNat i := by
      cases iv with
      | ofNat k => cases hiv; rfl
      | negSucc k => cases hiv
    subst hiv'
    cases hv8
    cases ha with
    | cons h1 ha => cases ha with
      | cons h2 ha => cases ha with
        | cons h3 ha => cases ha with
          | nil =>
            cases h2
            cases h1 with
            | dead A K => exact (h.no_dead hc).elim
            | @slice b o _ _ L hL => cases h3 with
              | @slice vb vo _ _ Lv hLv =>
                have g2 : o = 0 := g2
                subst g2
                have hcap : capOf L bigCap = L.cap := capOf_big L.blk L.off L.cap
                rw [hcap]
                simp only [Nat.add_zero]
                obtain ⟨q, hq⟩ := h.rows b cs e' f hc
                have hql : q = L := by have := hq.at_; rw [hL] at this; exact (Option.some.inj this).symm
                subst hql
                have hq2 := hq
                obtain ⟨_, A, fz, hA, hvals, hfz, _, h4⟩ := hq
                obtain ⟨n', hn', h0, hsiz, hlen⟩ := h4 g5
                rw [hsz] at hn'
                cases hn'
                obtain ⟨qv, hqv⟩ := h.rows vb ds ed 0 hd
                have hqlv : qv = Lv := by have := hqv.at_; rw [hLv] at this; exact (Option.some.inj this).symm
                subst hqlv
                have hqv2 := hqv
                obtain ⟨_, Av, fzv, hAv, _, hfzv, hv0, _⟩ := hqv
                obtain ⟨hvo, hvs, hvend⟩ := hv0 rfl
                have hK : n ≤ q.cap := by
                  have : n * sz ≤ q.cap * sz := by omega
                  exact Nat.le_of_mul_le_mul_right this h0
                have hne : qv.blk ≠ q.blk := h.sep vb b (0, vb) (1, f) qv q (by rw [tag_cells hd]; simp) (by rw [tag_cells hc]; simp [g5]) (by simp) hLv hL
                have hvsz : vo + sz ≤ ds.length := by simp at hnl; omega
                obtain ⟨ncl, nv, nl, nc⟩ := hqv2.seg (o := vo) (n := sz) hvsz
                have him : i * sz ≤ n * sz := Nat.mul_le_mul_right _ g4
                have hsub : (n - i) * sz = n * sz - i * sz := Nat.sub_mul _ _ _
                obtain ⟨tcl, tv, tl, tc⟩ := hq2.seg (o := i * sz) (n := (n - i) * sz) (by omega)
                rw [List.take_of_length_le (by simp; omega)] at tv
                have hnone := allOne_vrs nv hone.1
                have htone := allOne_vrs tv (allOne_drop _ hone.2)
                have hnewl : ((ds.drop vo).take sz).length = sz := by simp; omega
                have eS : Nat.mul i sz = i * sz := rfl
                have hsn : (n + 1) * sz = n * sz + sz := Nat.succ_mul _ _
                have hsi : (i + 1) * sz = i * sz + sz := Nat.succ_mul _ _
                have hfinl : (cs.take (i * sz) ++ ((ds.drop vo).take sz ++ cs.drop (i * sz))).length = (n + 1) * sz := by
                  rw [List.length_append, List.length_append, hnewl]
                  simp
                  omega
                have hAlt : q.blk < w.heap.size := (Array.getElem?_eq_some_iff.1 hA).1
                have key : ∀ (ln : Loc) (w' : World), Goes P base ρ s w (ρ.set s.next ln) (insSt s b e' f (cs.take (i * sz) ++ ((ds.drop vo).take sz ++ cs.drop (i * sz)))) w' →
                    ∃ c ρ', Ending.returned (.slice (some ⟨ln.blk, ln.off, none⟩) (n + 1) ln.cap) = .returned c ∧ Goes P base ρ s w ρ' (insSt s b e' f (cs.take (i * sz) ++ ((ds.drop vo).take sz ++ cs.drop (i * sz)))) w' ∧ VR ρ' (.slice (some ⟨s.next, 0, none⟩) (Nat.succ n) bigCap) c := by
                  intro ln w' hgo
                  have kv := VR.slice (ρ := ρ.set s.next ln) (b := s.next) (o := 0) (n := n + 1) (c := bigCap) (l := ln) (by rw [Ren.at_of h.next, Ren.set_same])
                  rw [show capOf ln bigCap = ln.cap from capOf_big ln.blk ln.off ln.cap] at kv
                  exact ⟨_, _, rfl, hgo, kv⟩
                rcases Nat.lt_or_ge i n with hin | hin
                · by_cases hfit : n + 1 ≤ q.cap
                  · -- in place
                    have hbig : q.off + (n + 1) * sz ≤ A.size := by
                      have : (n + 1) * sz ≤ q.cap * sz := Nat.mul_le_mul_right _ hfit
                      omega
                    have hcp := run_copy_cells (P := P) (w := w.drew) hu hsz it (g := q.blk) (off := q.off + (i + 1) * sz) (dLen := n - i) (dCap := q.cap - (i + 1)) (sb := q.blk) (so := q.off + i * sz) (sLen := n + 1 - i) (sCap := q.cap - i) (m := n - i) (Nat.min_eq_right (by omega)) (cur := A) hA (hfz g7) (cl := tcl) tl (fun j v hj => tc j v hj) (by omega) htone
                    have hA2 : ((w.drew).setRow q.blk (spl A (q.off + (i + 1) * sz) tcl)).heap[q.blk]? = some (.cells (spl A (q.off + (i + 1) * sz) tcl) e' fz) := setRow_heap _ _ _ _ _ _ hA
                    have hs1 : (spl A (q.off + (i + 1) * sz) tcl).size = A.size := spl_size (by omega)
                    have hcp2 := run_copy_cells (P := P) (w := (w.drew).setRow q.blk (spl A (q.off + (i + 1) * sz) tcl)) hu hsz it (g := q.blk) (off := q.off + i * sz) (dLen := n + 1 - i) (dCap := q.cap - i) (sb := qv.blk) (so := qv.off + vo) (sLen := 1) (sCap := capOf qv uc) (m := 1) (Nat.min_eq_left (by omega)) hA2 (fun k hk => hfz g7 k (by omega)) (cl := ncl) (by omega) (fun j v hj => by rw [cell_setRow_other _ _ _ _ (by exact hne)]; exact nc j v hj) (by omega) hnone
                    have hov : Sem.run P (callFunc OV #[.slice (some ⟨qv.blk, qv.off + vo, none⟩) 1 (capOf qv uc), .slice (some ⟨q.blk, q.off + (i + 1) * sz, none⟩) (n - i) (q.cap - (i + 1))]) w = .ok (.value (.bool false)) w := by
                      rw [run_ext hx ho, run_overlaps hps hu hsz g11 (by omega) (by omega) hne hAv (hfzv g8 _ (by omega)) (hvend g8) hA (by omega)]
                      rfl
                    refine (hW.place q.blk q.off n q.cap i qv.blk (qv.off + vo) (capOf qv uc) w _ _ _ _ hin hfit (by omega) hov hcp hcp2).mono ?_
                    rintro x w' ⟨rfl, rfl⟩
                    refine key q _ ?_
                    rw [setRow_setRow]
                    exact ins_place_goes (k := w.drawn + 1) h g7 hc g5 hL hsz hA (by show (spl (spl A (q.off + (i + 1) * sz) tcl) (q.off + i * sz) ncl).size = _; rw [spl_size (by omega)]; exact hs1) (ins_cells g4 g3 tv nv hnewl (fun j x _ hj => hvals j x hj) hbig) hsiz (by rw [hfinl]; exact Nat.mul_le_mul_right _ hfit)
                  · -- a new array
                    obtain ⟨ti, z, hi, hz, hzs, h1, h63, h48⟩ := growOk_some g12
                    obtain ⟨ti', hi', hs⟩ := size_info hsz
                    rw [hi] at hi'
                    cases hi'
                    subst hs
                    have hem : i + (n + 1 - i) = n + 1 := by omega
                    obtain ⟨ocl, ov, ol, oc⟩ := hq2.seg (o := 0) (n := i * ti.size) (by omega)
                    simp only [Nat.add_zero, List.drop_zero] at ov oc
                    have hold := run_loadCells_list (P := P) w.drew ⟨q.blk, q.off, none⟩ ocl (fun j v hj => by rw [add_eq]; exact oc j v hj)
                    rw [ol] at hold
                    have hnc := nextslicecap_le (need := n + 1) (old := q.cap) (by omega)
                    have hap := run_append_zeros (P := P) (w := w) hu hi hz hzs h1 hint t (b := ⟨q.blk, q.off, none⟩) (sLen := i) (sCap := q.cap) (m := n + 1 - i) hold (by omega) (by omega) (by omega)
                      (Nat.le_trans (Nat.mul_le_mul_right _ (by omega)) h48) (Nat.le_trans (Nat.mul_le_mul_right _ (by rw [hem]; exact hnc)) h48)
                    rw [hem, show ((n + 1 - i : Nat) : Int) = (n : Int) + 1 - i by omega] at hap
                    have hge := grownCap_ge w (n + 1) q.cap e'
                    generalize hG : grownCap w (n + 1) q.cap e' = G at hap hge
                    generalize hA0 : ((⟨ocl⟩ : Array Value) ++ Builtin.zeroCells z.cells (n + 1 - i) ++ Builtin.zeroCells z.cells (G - (n + 1))) = A0 at hap
                    have hzc : ∀ k, (Builtin.zeroCells z.cells k).size = k * ti.size := fun k => by simp [Builtin.zeroCells, hzs]
                    have hA0s : A0.size = G * ti.size := by
                      rw [← hA0, Array.size_append, Array.size_append, hzc, hzc, show (⟨ocl⟩ : Array Value).size = ocl.length from rfl, ol, ← Nat.add_mul, ← Nat.add_mul, show i + (n + 1 - i) + (G - (n + 1)) = G by omega]
                    have hA0l : ∀ j, j < ocl.length → A0[j]? = ocl[j]? := by
                      intro j hj
                      rw [← hA0, Array.getElem?_append_left (by simp [Array.size_append]; omega), Array.getElem?_append_left (by simpa using hj)]
                      simp
                    have hbig : (n + 1) * ti.size ≤ A0.size := by rw [hA0s]; exact Nat.mul_le_mul_right _ hge
                    have hz0 : ∀ (fz : Nat × Nat), fz = (0, 0) → ∀ (k m : Nat), k < m → ¬ (fz.1 ≤ k ∧ k < fz.2) := by
                      rintro fz rfl k m _ ⟨_, h⟩
                      exact absurd h (Nat.not_lt_zero _)
                    have hgh : ∀ (x : World) (B : Array Value), (x.alloc (.cells B e')).heap[x.heap.size]? = some (.cells B e' (0, 0)) := fun x B => alloc_at x _
                    have hcp := run_copy_cells (P := P) (w := w.drew.alloc (.cells A0 e')) hu hsz it (g := w.heap.size) (off := i * ti.size) (dLen := n + 1 - i) (dCap := G - i) (sb := qv.blk) (so := qv.off + vo) (sLen := 1) (sCap := capOf qv uc) (m := 1) (Nat.min_eq_left (by omega))
                      (hgh w.drew A0) (fun k hk => hz0 _ rfl k _ hk) (cl := ncl) (by omega) (fun j v hj => cell_push _ _ (nc j v hj)) (by omega) hnone
                    have e1 : (w.drew.alloc (.cells A0 e')).setRow w.heap.size (spl A0 (i * ti.size) ncl) = w.drew.alloc (.cells (spl A0 (i * ti.size) ncl) e') := alloc_setRow w.drew _ _ _
                    have hcp : Sem.run P (Builtin.copy_ #[t, t] it #[.slice (some ⟨w.heap.size, i * ti.size, none⟩) (n + 1 - i) (G - i), .slice (some ⟨qv.blk, qv.off + vo, none⟩) 1 (capOf qv uc)]) (w.drew.alloc (.cells A0 e')) = .ok (goInt 1) (w.drew.alloc (.cells (spl A0 (i * ti.size) ncl) e')) := by
                      rw [← e1]; exact hcp
                    have hs1 : (spl A0 (i * ti.size) ncl).size = A0.size := spl_size (by omega)
                    have hcp2 := run_copy_cells (P := P) (w := w.drew.drew.alloc (.cells (spl A0 (i * ti.size) ncl) e')) hu hsz it (g := w.heap.size) (off := (i + 1) * ti.size) (dLen := n - i) (dCap := G - (i + 1)) (sb := q.blk) (so := q.off + i * ti.size) (sLen := n - i) (sCap := q.cap - i) (m := n - i) (Nat.min_self _)
                      (hgh w.drew.drew _) (fun k hk => hz0 _ rfl k _ hk) (cl := tcl) tl (fun j v hj => cell_push _ _ (tc j v hj)) (by omega) htone
                    have e2 : (w.drew.drew.alloc (.cells (spl A0 (i * ti.size) ncl) e')).setRow w.heap.size (spl (spl A0 (i * ti.size) ncl) ((i + 1) * ti.size) tcl) = w.drew.drew.alloc (.cells (spl (spl A0 (i * ti.size) ncl) ((i + 1) * ti.size) tcl) e') := alloc_setRow w.drew.drew _ _ _
                    have hcp2 : Sem.run P (Builtin.copy_ #[t, t] it #[.slice (some ⟨w.heap.size, (i + 1) * ti.size, none⟩) (n - i) (G - (i + 1)), .slice (some ⟨q.blk, q.off + i * ti.size, none⟩) (n - i) (q.cap - i)]) (w.drew.alloc (.cells (spl A0 (i * ti.size) ncl) e')).drew = .ok (goInt ((n - i : Nat) : Int)) (w.drew.drew.alloc (.cells (spl (spl A0 (i * ti.size) ncl) ((i + 1) * ti.size) tcl) e')) := by
                      rw [← e2]; exact hcp2
                    refine (hW.grow q.blk q.off n q.cap i qv.blk (qv.off + vo) (capOf qv uc) w.heap.size G w _ _ _ _ _ hin hK (by omega) (by omega) hge hap hcp hcp2).mono ?_
                    rintro x w' ⟨rfl, rfl⟩
                    refine key ⟨w.heap.size, 0, G⟩ _ ?_
                    have hsc := spl_comm (A := A0) (o1 := i * ti.size) (o2 := (i + 1) * ti.size) (l1 := ncl) (l2 := tcl) (by omega) (by omega)
                    rw [hsc]
                    have hcells := ins_cells (A := A0) (off := 0) g4 g3 tv nv hnewl (fun j x hj hx => by
                      have hx' : (cs.take (i * ti.size))[j]? = some x := by rw [List.getElem?_take, if_pos hj]; exact hx
                      obtain ⟨y, hy, hv⟩ := ov.get hx'
                      refine ⟨y, ?_, hv⟩
                      rw [Nat.zero_add, hA0l j (by omega)]
                      exact hy) (by omega)
                    simp only [Nat.zero_add] at hcells
                    exact ins_grow_goes (k := w.drawn + 1 + 1) h hc g5 hsz h0 hcells (by rw [spl_size (by rw [spl_size (by omega)]; omega), spl_size (by omega)]; exact hA0s) (by rw [hfinl, ← hA0s]; exact hbig)
                · have hin : i = n := by omega
                  subst hin
                  have hdrop : cs.drop (i * sz) = [] := List.drop_of_length_le (by omega)
                  have htake : cs.take (i * sz) = cs := List.take_of_length_le (by omega)
                  have hlenv : ∀ w : World, (Builtin.lenOf (.slice (some ⟨qv.blk, qv.off + vo, none⟩) 1 (capOf qv uc))).run P w = .ok 1 w := fun w => rfl
                  have hnewr : ∀ w' : World, (∀ (j : Nat) (v : Value), ncl[j]? = some v → w'.cell? ⟨qv.blk, qv.off + vo + j, none⟩ = some v) → (Builtin.firstCells sz 1 (.slice (some ⟨qv.blk, qv.off + vo, none⟩) 1 (capOf qv uc))).run P w' = .ok ⟨ncl⟩ w' := by
                    intro w' hcl
                    have := run_loadCells_list (P := P) w' ⟨qv.blk, qv.off + vo, none⟩ ncl (fun j v hj => by rw [add_eq]; exact hcl j v hj)
                    rw [nl] at this
                    simp only [Builtin.firstCells, Nat.one_mul]
                    exact this
                  by_cases hfit : i + 1 ≤ q.cap
                  · obtain ⟨ti, hi, hs⟩ := size_info hsz
                    have hbig : q.off + (i + 1) * sz ≤ A.size := by
                      have : (i + 1) * sz ≤ q.cap * sz := Nat.mul_le_mul_right _ hfit
                      omega
                    have hst := run_storeCells_gen P q.blk (q.off + i * sz) e' fz ncl 0 A w hA (by omega) (hfz g7) hnone
                    simp only [Nat.add_zero] at hst
                    have hap := run_append_fit (P := P) (w := w) (w' := w.setRow q.blk (spl A (q.off + i * sz) ncl)) (ts := #[t, t]) (ty := t) rfl hu hi hni (b := some ⟨q.blk, q.off, none⟩) (sLen := i) (sCap := q.cap) (hlenv w) (by rw [hs]; exact hnewr w nc) hfit
                      (fun a ha => by cases ha; rw [add_eq, hs]; exact hst) (fun e => by cases e)
                    refine (hW.fin q.blk q.off i q.cap qv.blk (qv.off + vo) (capOf qv uc) w _ _ hap).mono ?_
                    rintro x w' ⟨rfl, rfl⟩
                    refine key q _ ?_
                    have hcells := ins_cells (A := A) (off := q.off) (tcl := []) g4 g3 (by rw [hdrop]; exact .nil) nv hnewl (fun j x _ hj => hvals j x hj) hbig
                    rw [spl_nil] at hcells
                    exact ins_place_goes (k := w.drawn) h g7 hc g5 hL hsz hA (spl_size (by omega)) hcells hsiz (by rw [hfinl]; exact Nat.mul_le_mul_right _ hfit)
                  · obtain ⟨ocl, ov, ol, oc⟩ := hq2.seg (o := 0) (n := i * sz) (by omega)
                    simp only [Nat.add_zero, List.drop_zero, htake] at ov oc
                    have hold := run_loadCells_list (P := P) w.drew ⟨q.blk, q.off, none⟩ ocl (fun j v hj => by rw [add_eq]; exact oc j v hj)
                    rw [ol] at hold
                    obtain ⟨arr, cp, hap, _, hsz2, hle2, hcells⟩ := append_more (P := P) (w := w) (ts := #[t, t]) (ty := t) rfl hu hsz hni (b := some ⟨q.blk, q.off, none⟩) (sLen := i) (sCap := q.cap) (n := 1) g12 (hlenv w) (old := cs) (by simp only [Builtin.firstCells]; exact hold) ov g3 (hnewr w.drew (fun j v hj => nc j v hj)) nv (by omega) (by omega)
                    refine (hW.fin q.blk q.off i q.cap qv.blk (qv.off + vo) (capOf qv uc) w _ _ hap).mono ?_
                    rintro x w' ⟨rfl, rfl⟩
                    refine key ⟨w.heap.size, 0, cp⟩ _ ?_
                    rw [hdrop, htake, List.append_nil]
                    exact ins_grow_goes (k := w.drawn + 1) h hc g5 hsz h0 hcells hsz2 hle2
  · cases hv
end Go.Ax

namespace Go.Ax
open Go Go.Extern
variable {P : Program} {base : Nat} {ρ : Ren} {s : St} {w : World}

theorem bang_eq (l : List UInt8) (i : Nat) (h : i < l.length) : (⟨⟨l⟩⟩ : ByteArray)[i]! = l[i] := by
  have hb : i < (⟨⟨l⟩⟩ : ByteArray).size := h
  rw [getElem!_pos (⟨⟨l⟩⟩ : ByteArray) i hb]
  rfl

theorem find_range (f : Nat → Bool) : ∀ n, (List.range (n + 1)).find? f = if f 0 = true then some 0 else ((List.range n).find? fun i => f (i + 1)).map (· + 1) := by
  intro n
  rw [List.range_succ_eq_map, List.find?_cons]
  cases h : f 0 with
  | true => simp
  | false =>
    simp only [Bool.false_eq_true, if_false, List.find?_map]
    rfl

theorem find_congr {α : Type} {p q : α → Bool} : ∀ {l : List α}, (∀ a ∈ l, p a = q a) → l.find? p = l.find? q
  | [], _ => rfl
  | a :: l, h => by
    rw [List.find?_cons, List.find?_cons, h a List.mem_cons_self, find_congr (l := l) fun b hb => h b (List.mem_cons_of_mem _ hb)]

theorem cmp_lists : ∀ (x y : List UInt8), BytealgCompare.cmp ⟨⟨x⟩⟩ ⟨⟨y⟩⟩ = sel (lessL x y) (-1) (sel (lessL y x) 1 0)
  | [], [] => rfl
  | [], b :: t => rfl
  | a :: s, [] => rfl
  | a :: s, b :: t => by
    have ih := cmp_lists s t
    have e1 : lessL (a :: s) (b :: t) = sel (Nat.ble (Nat.succ a.toNat) b.toNat) true (sel (Nat.beq a.toNat b.toNat) (lessL s t) false) := rfl
    have e2 : lessL (b :: t) (a :: s) = sel (Nat.ble (Nat.succ b.toNat) a.toNat) true (sel (Nat.beq b.toNat a.toNat) (lessL t s) false) := rfl
    have hsz : min (⟨⟨a :: s⟩⟩ : ByteArray).size (⟨⟨b :: t⟩⟩ : ByteArray).size = min s.length t.length + 1 := by
      show min (s.length + 1) (t.length + 1) = _
      omega
    have h0a : (⟨⟨a :: s⟩⟩ : ByteArray)[0]! = a := bang_eq (a :: s) 0 (by simp)
    have h0b : (⟨⟨b :: t⟩⟩ : ByteArray)[0]! = b := bang_eq (b :: t) 0 (by simp)
    unfold BytealgCompare.cmp
    rw [hsz, find_range]
    simp only [h0a, h0b]
    by_cases hab : a = b
    · subst hab
      simp only [bne_self_eq_false, Bool.false_eq_true, if_false]
      have hs : ∀ i, i < min s.length t.length → ((⟨⟨a :: s⟩⟩ : ByteArray)[i + 1]! = (⟨⟨s⟩⟩ : ByteArray)[i]! ∧ (⟨⟨a :: t⟩⟩ : ByteArray)[i + 1]! = (⟨⟨t⟩⟩ : ByteArray)[i]!) := by
        intro i hi
        rw [bang_eq (a :: s) (i + 1) (by simp; omega), bang_eq s i (by omega), bang_eq (a :: t) (i + 1) (by simp; omega), bang_eq t i (by omega)]
        exact ⟨rfl, rfl⟩
      have hf : ((List.range (min s.length t.length)).find? fun i => (⟨⟨a :: s⟩⟩ : ByteArray)[i + 1]! != (⟨⟨a :: t⟩⟩ : ByteArray)[i + 1]!) = (List.range (min s.length t.length)).find? fun i => (⟨⟨s⟩⟩ : ByteArray)[i]! != (⟨⟨t⟩⟩ : ByteArray)[i]! := by
        apply find_congr
        intro i hi
        obtain ⟨h1, h2⟩ := hs i (List.mem_range.1 hi)
        rw [h1, h2]
      rw [hf]
      have hr : sel (lessL (a :: s) (a :: t)) (-1 : Int) (sel (lessL (a :: t) (a :: s)) 1 0) = sel (lessL s t) (-1) (sel (lessL t s) 1 0) := by
        rw [e1, e2]
        have : Nat.ble (Nat.succ a.toNat) a.toNat = false := by
          cases h : Nat.ble (Nat.succ a.toNat) a.toNat with
          | false => rfl
          | true => have := Nat.le_of_ble_eq_true h; omega
        rw [this, Nat.beq_refl]
        rfl
      rw [hr, ← ih]
      unfold BytealgCompare.cmp
      have hsz2 : min (⟨⟨s⟩⟩ : ByteArray).size (⟨⟨t⟩⟩ : ByteArray).size = min s.length t.length := rfl
      rw [hsz2]
      cases hq : (List.range (min s.length t.length)).find? fun i => (⟨⟨s⟩⟩ : ByteArray)[i]! != (⟨⟨t⟩⟩ : ByteArray)[i]! with
      | none =>
        show (if (s.length + 1) < (t.length + 1) then (-1 : Int) else if (s.length + 1) > (t.length + 1) then 1 else 0) = if s.length < t.length then -1 else if s.length > t.length then 1 else 0
        simp
      | some i =>
        have hi := List.mem_range.1 (List.mem_of_find?_eq_some hq)
        obtain ⟨h1, h2⟩ := hs i hi
        show (if (⟨⟨a :: s⟩⟩ : ByteArray)[i + 1]! < (⟨⟨a :: t⟩⟩ : ByteArray)[i + 1]! then (-1 : Int) else 1) = if (⟨⟨s⟩⟩ : ByteArray)[i]! < (⟨⟨t⟩⟩ : ByteArray)[i]! then -1 else 1
        rw [h1, h2]
    · have hne : (a != b) = true := by simpa using hab
      rw [if_pos hne]
      simp only [h0a, h0b]
      have hn : a.toNat ≠ b.toNat := fun h => hab (UInt8.toNat_inj.1 h)
      have hbf : Nat.beq a.toNat b.toNat = false := by rw [← Bool.not_eq_true, Nat.beq_eq]; exact hn
      have hbf' : Nat.beq b.toNat a.toNat = false := by rw [← Bool.not_eq_true, Nat.beq_eq]; exact fun h => hn h.symm
      rw [e1, e2, hbf, hbf']
      by_cases hlt : a < b
      · have : Nat.ble (Nat.succ a.toNat) b.toNat = true := Nat.ble_eq_true_of_le (UInt8.lt_iff_toNat_lt.1 hlt)
        rw [if_pos hlt, this]; rfl
      · have h1 : Nat.ble (Nat.succ a.toNat) b.toNat = false := by
          cases h : Nat.ble (Nat.succ a.toNat) b.toNat with
          | false => rfl
          | true => exact absurd (UInt8.lt_iff_toNat_lt.2 (Nat.le_of_ble_eq_true h)) hlt
        have h2 : Nat.ble (Nat.succ b.toNat) a.toNat = true := Nat.ble_eq_true_of_le (by
          have h3 : ¬ a.toNat < b.toNat := fun h => hlt (UInt8.lt_iff_toNat_lt.2 h)
          show b.toNat + 1 ≤ a.toNat
          omega)
        rw [if_neg hlt, h1, h2]; rfl

/-- bytes one by one -/
theorem loadBytes_cells (w : World) (b : Nat) : ∀ (ns : List Int) (o : Nat) (acc : ByteArray), (∀ (j : Nat) (v : Value), (ns.map (Value.int .u8))[j]? = some v → w.cell? ⟨b, o + j, none⟩ = some v) →
    (Bytes.loadBytes ⟨b, o, none⟩ ns.length acc).run P w = .ok ⟨⟨acc.data.toList ++ ns.map fun n => UInt8.ofNat n.toNat⟩⟩ w
  | [], o, acc, _ => by simp [Bytes.loadBytes]
  | n :: ns, o, acc, h => by
    have h0 : w.cell? ⟨b, o, none⟩ = some (.int .u8 n) := by
      have := h 0 (.int .u8 n) rfl
      simpa using this
    have ih := loadBytes_cells w b ns (o + 1) (acc.push n.toNat.toUInt8) fun j v hj => by
      have := h (j + 1) v (by simpa using hj)
      rw [show o + 1 + j = o + (j + 1) by omega]
      exact this
    have e : (⟨b, o, none⟩ : Addr).add 1 = ⟨b, o + 1, none⟩ := add_eq ..
    show (Bytes.loadBytes ⟨b, o, none⟩ (ns.length + 1) acc).run P w = _
    simp only [Bytes.loadBytes, Sem.run_bind, run_load, h0, Result.andThen_ok, e]
    rw [ih]
    simp [ByteArray.push]

theorem bytes_sound (h : HR P base ρ s w) {a : Option Addr} {n k : Nat} {c : Value} {l : List Value} {bs : List UInt8} (hv : VR ρ (.slice a n k) c) (hl : firstCells s 1 n (.slice a n k) = some l) (hb : bytesOf l = some bs) :
    (Bytes.bytesOf c).run P w = .ok ⟨⟨bs⟩⟩ w := by
  cases hv with
  | sliceNil n c =>
    obtain ⟨_, hl⟩ := guard_some.1 (show guard (Nat.beq n 0) (some []) = some l from hl)
    cases hl
    cases hb
    rfl
  | dead A K =>
    have hl : sel (Nat.beq deadId deadId) (guard (Nat.beq 0 0) (some [])) (obind (s.cells deadId) fun c => takeN (Nat.mul 0 1) (dropL 0 c.1)) = some l := hl
    cases hl
    cases hb
    rfl
  | @slice b o _ _ L hL =>
    have hl : sel (Nat.beq b deadId) (guard (Nat.beq n 0) (some [])) (obind (s.cells b) fun c => takeN (Nat.mul n 1) (dropL o c.1)) = some l := hl
    rw [sel_eq] at hl
    split at hl
    · obtain ⟨hg, hl⟩ := guard_some.1 hl
      have hg := Nat.eq_of_beq_eq_true hg
      subst hg
      cases hl
      cases hb
      rfl
    · obtain ⟨⟨cs, e, f⟩, hc, hl2⟩ := obind_some.1 hl
      rw [takeN_eq, dropL_eq] at hl2
      obtain ⟨h1, rfl⟩ := hl2
      obtain ⟨q, hq⟩ := h.rows b cs e f hc
      have hql : q = L := by have := hq.at_; rw [hL] at this; exact (Option.some.inj this).symm
      subst hql
      have h1' : n ≤ cs.length - o := by simpa using h1
      have hm : Nat.mul n 1 = n := Nat.mul_one n
      rw [hm] at hb
      by_cases ho : o ≤ cs.length
      · obtain ⟨cl, h2, h3, h4⟩ := hq.seg (o := o) (n := n) (by omega)
        obtain ⟨ns, rfl, hns⟩ := bytesOf_vrs h2 hb
        have h3 : ns.length = n := by simpa using h3
        have := loadBytes_cells (P := P) w q.blk ns (q.off + o) .empty h4
        rw [h3, hns] at this
        exact this
      · have h0 : n = 0 := by omega
        subst h0
        cases hb
        rfl

theorem cmp_sound {C : Cfg} {f : FuncId} (h : extChk P f = true) (he : (P.funcs[f]?).bind Extern.find = some BytealgCompare.compare) : ExtSound C P f .cmp := by
  intro base ρ s s' w args cargs v hr ha hv
  have hv : extCmp s args = some (v, s') := hv
  unfold extCmp at hv
  split at hv
  · rename_i a la ca b lb cb
    obtain ⟨x, hx, hv⟩ := obind_some.1 hv
    obtain ⟨x', hx', hv⟩ := obind_some.1 hv
    obtain ⟨y, hy, hv⟩ := obind_some.1 hv
    obtain ⟨y', hy', hv⟩ := obind_some.1 hv
    cases hv
    cases ha with
    | cons h1 h2 => cases h2 with
      | cons h2 h3 => cases h3 with
        | nil =>
          refine ⟨_, ρ, w, ?_, Goes.refl hr, .int _ _⟩
          rw [run_ext h he]
          rename_i c1 c2
          show Result.andThen ((do pure (goInt (BytealgCompare.cmp (← Bytes.bytesOf c1) (← Bytes.bytesOf c2))) : Sem Value).run P w) _ = _
          simp only [Sem.run_bind, bytes_sound hr h1 hx hx', bytes_sound hr h2 hy hy', Result.andThen_ok, Sem.run_pure, cmp_lists]
          rfl
  · cases hv
end Go.Ax

namespace Go.Ax
open Go
section
variable {P : Program} {base : Nat} {ρ ρ' : Ren} {s s' s1 : St} {w w' : World}

/-- A BLOCK THAT LIES IN THE WORLD ALREADY, at the next id: a slice's, of a family of its own. -/
noncomputable def adoptSt (s : St) (cs : List Value) (e : TypeId) : St := { heap := s.heap.set s.next (.row cs e s.next), fams := s.fams.set s.next [s.next], next := Nat.succ s.next }

theorem HR.adopt (h : HR P base ρ s w) {N : Nat} (hN : ∀ i t q, s.tag i = some t → ρ.at i = some q → q.blk < N) {l : Loc} (hl0 : N ≤ l.blk) (hl1 : base ≤ l.blk) (hl2 : l.blk < w.heap.size)
    {cs : List Value} {e : TypeId} (hrow : RowR P (ρ.set s.next l) w s.next cs e s.next l) : HR P base (ρ.set s.next l) (adoptSt s cs e) w := by
  have hle := Ren.le_set h l
  have hnx := h.next
  have hch : ∀ j, j ∈ [s.next] → j ≠ s.next → ∃ l, s.fams.get s.next = some l ∧ j ∈ l := fun j hj hne => absurd (by simpa using hj) hne
  have htags : ∀ i t, i ≠ s.next → (adoptSt s cs e).tag i = some t → s.tag i = some t := fun i t hi ht => tag_set_fam hi hch ht
  have hcells : ∀ i c, i ≠ s.next → (adoptSt s cs e).cells i = some c → s.cells i = some c := fun i c hi hc => cells_set_fam hi hch hc
  have hother : ∀ i, i ≠ s.next → (adoptSt s cs e).heap.get i = s.heap.get i := fun i hi => Hp.get_set_other _ _ hi
  have hsame : (adoptSt s cs e).heap.get s.next = some (.row cs e s.next) := Hp.get_set_same _ _ _
  have hat : ∀ i q, i ≠ s.next → (ρ.set s.next l).at i = some q → ρ.at i = some q := by
    intro i q ei hu
    by_cases hlo : i < fixedTop
    · rw [Ren.at_low hlo] at hu ⊢; exact hu
    · rw [Ren.at_of (by omega)] at hu ⊢; rwa [Ren.set_other ρ l ei] at hu
  refine ⟨?_, by show fixedTop ≤ s.next + 1; omega, h.base_le, ?_, ?_, ?_, ?_, ?_, ?_, ?_⟩
  · intro i q hi
    by_cases e' : i = s.next
    · subst e'
      rw [Ren.set_same] at hi
      cases hi
      exact ⟨hnx, by show s.next < s.next + 1; omega, hl1, hl2⟩
    · rw [Ren.set_other ρ l e'] at hi
      obtain ⟨a, b, c, d⟩ := h.dom i q hi
      exact ⟨a, by show i < s.next + 1; omega, c, d⟩
  · intro i hi ht
    have e' : i ≠ s.next := by omega
    cases ht' : (adoptSt s cs e).tag i with
    | none => exact absurd ht' ht
    | some t => exact h.low i hi (by rw [htags i t e' ht']; simp)
  · intro i q hi
    by_cases e' : i = s.next
    · subst e'; show s.next < s.next + 1; omega
    · rw [hother i e'] at hi
      have := h.heap_dom i q hi
      show i < s.next + 1
      omega
  · intro i cs1 e1 f1 hi
    by_cases e' : i = s.next
    · subst e'
      rw [hsame] at hi
      cases hi
      show s.next < s.next + 1; omega
    · rw [hother i e'] at hi
      have := h.fam_dom i cs1 e1 f1 hi
      show f1 < s.next + 1
      omega
  · intro i cs1 e1 f1 hc
    by_cases e' : i = s.next
    · subst e'
      obtain ⟨h1, _⟩ := cells_some.1 hc
      rw [hsame] at h1
      cases h1
      exact ⟨l, hrow⟩
    · have hc' := hcells i _ e' hc
      obtain ⟨q, hq⟩ := h.rows i cs1 e1 f1 hc'
      exact ⟨q, hq.move hle rfl⟩
  · intro i es c hi
    by_cases e' : i = s.next
    · subst e'; rw [hsame] at hi; cases hi
    · rw [hother i e'] at hi
      obtain ⟨q, hq, es', h1, h2⟩ := h.maps i es c hi
      exact ⟨q, hle _ _ hq, es', h1, h2.mono hle⟩
  · intro i q hi
    by_cases e' : i = s.next
    · subst e'; rw [hsame] at hi; cases hi
    · rw [hother i e'] at hi
      obtain ⟨u, hu, q', h1, h2⟩ := h.loops i q hi
      exact ⟨u, hle _ _ hu, q', h1, h2.mono hle⟩
  · intro i j a b u v hi hj hab hu hv
    have hself : ∀ u, (ρ.set s.next l).at s.next = some u → u = l := by
      intro u hu
      rw [Ren.at_of hnx, Ren.set_same] at hu
      exact (Option.some.inj hu).symm
    by_cases ei : i = s.next
    · subst ei
      obtain rfl := hself u hu
      by_cases ej : j = s.next
      · subst ej
        rw [hi] at hj
        exact absurd (Option.some.inj hj) hab
      · have := hN j b v (htags j b ej hj) (hat j v ej hv)
        omega
    · by_cases ej : j = s.next
      · subst ej
        obtain rfl := hself v hv
        have := hN i a u (htags i a ei hi) (hat i u ei hu)
        omega
      · exact h.sep i j a b u v (htags i a ei hi) (htags j b ej hj) hab (hat i u ei hu) (hat j v ej hv)

/-- A function without arguments that hands back a slice of plain cells in new memory: what its run came to elsewhere. -/
theorem fresh_goes (h : HR P base ρ s w) {r1 : Ren} {s0 : St} (h0 : HR P w.heap.size (fun _ => none) s0 w) (hg : Goes P w.heap.size (fun _ => none) s0 w r1 s1 w') {b len : Nat} {cs : List Value} {e : TypeId} {f : Nat} {c : Value} (hb : fixedTop ≤ b)
    (hv : VR r1 (.slice (some ⟨b, 0, none⟩) len bigCap) c) (hc : s1.cells b = some (cs, e, f)) (hf : f ≠ 0) (hfl : flatAll cs = true) (hbd : b ≠ deadId) :
    ∃ l, Goes P base ρ s w (ρ.set s.next l) (adoptSt s cs e) w' ∧ VR (ρ.set s.next l) (.slice (some ⟨s.next, 0, none⟩) len bigCap) c := by
  have hbel := hg.below h0
  have g1 := Goes.of_below' h hbel
  cases hv with
  | dead A K => exact absurd rfl hbd
  | @slice _ _ _ _ L hL =>
    obtain ⟨l, hrow⟩ := hg.hr.rows b cs e f hc
    have hlL : l = L := by have := hrow.at_; rw [hL] at this; exact (Option.some.inj this).symm
    subst hlL
    have hr1 : r1 b = some l := by rw [← Ren.at_of (ρ := r1) hb]; exact hL
    obtain ⟨_, _, d3, d4⟩ := hg.hr.dom b l hr1
    obtain ⟨_, a, fz, ha, hcv, hz, _, hn⟩ := hrow
    have hat : (ρ.set s.next l).at s.next = some l := by rw [Ren.at_of h.next, Ren.set_same]
    have hadopt := g1.hr.adopt (N := w.heap.size) (fun i t q ht hq => h.blk_lt ht hq) d3 (Nat.le_trans h.base_le d3) d4 (cs := cs) (e := e)
      ⟨hat, a, fz, ha, fun j x hj => by
          obtain ⟨y, hy, hxy⟩ := hcv j x hj
          have hq := flatAll_get hfl hj
          rw [flat_eq hq hxy] at hy
          exact ⟨x, hy, flat_vr _ hq⟩, fun _ => hz hb, fun h0 => absurd h0 (by have := h.next; unfold fixedTop at this; omega), fun _ => hn hf⟩
    refine ⟨l, ⟨Ren.le_set h l, hadopt, g1.os, g1.tape, g1.output, g1.grow, Nat.le_succ _, g1.frame, ?_, ?_⟩, .slice hat⟩
    · rintro k ⟨i, q, x, h1, h2, h3, h4⟩
      by_cases e' : i = s.next
      · subst e'
        rw [Ren.set_same] at h3
        cases h3
        exact .inr (h4 ▸ d3)
      · rw [Ren.set_other ρ l e'] at h3
        have hch : ∀ j, j ∈ [s.next] → j ≠ s.next → ∃ l, s.fams.get s.next = some l ∧ j ∈ l := fun j hj hne => absurd (by simpa using hj) hne
        exact .inl ⟨i, q, x, h1, tag_set_fam e' hch h2, h3, h4⟩
    · intro i hi
      have hi : i < s.next := hi
      exact Ren.set_other ρ l (by omega)
end
end Go.Ax

namespace Go.Ax
open Go
section
variable {P : Program} {W : World}

/-- The start state that knows some low blocks: their numbers, cells, types. -/
noncomputable def rowsSt (L : List (Nat × List Value × TypeId)) : St := { heap := List.rec (.s 20 0) (fun x _ h => Hp.set h x.1 (.row x.2.1 x.2.2 0)) L, fams := .s 20 0, next := 64 }

theorem rowsSt_get : ∀ {L : List (Nat × List Value × TypeId)} {i : Nat} {r : Row}, (rowsSt L).heap.get i = some r → ∃ x ∈ L, x.1 = i ∧ r = .row x.2.1 x.2.2 0
  | [], i, r, h => by
    have h : (Hp.s 20 0 : Hp Row).get i = some r := h
    rw [Hp.get_s] at h
    cases h
  | x :: L, i, r, h => by
    have h : (Hp.set (rowsSt L).heap x.1 (Row.row x.2.1 x.2.2 0)).get i = some r := h
    rw [Hp.get_set] at h
    by_cases e : i = x.1
    · rw [if_pos e] at h
      exact ⟨x, List.mem_cons_self, e.symm, (Option.some.inj h).symm⟩
    · rw [if_neg e] at h
      obtain ⟨y, hy, h1, h2⟩ := rowsSt_get h
      exact ⟨y, List.mem_cons_of_mem _ hy, h1, h2⟩

theorem rowsSt_tag {L : List (Nat × List Value × TypeId)} {i : Nat} {a : Nat × Nat} (h : (rowsSt L).tag i = some a) : a = (0, i) ∧ ∃ x ∈ L, x.1 = i := by
  unfold St.tag at h
  cases hg : (rowsSt L).heap.get i with
  | none => rw [hg] at h; cases h
  | some r =>
    obtain ⟨x, hx, h1, rfl⟩ := rowsSt_get hg
    rw [hg] at h
    simp at h
    exact ⟨h.symm, x, hx, h1⟩

/-- The blocks that the state knows lie in the world. -/
theorem rowsSt_hr {L : List (Nat × List Value × TypeId)} (hlo : ∀ x ∈ L, x.1 < deadId) (hW : ∀ x ∈ L, ∃ (a : Array Value) (fz : Nat × Nat), W.heap[x.1]? = some (.cells a x.2.2 fz) ∧ VRs (fun _ => none) x.2.1 a.toList) :
    HR P W.heap.size (fun _ => none) (rowsSt L) W where
  dom := fun _ _ h => by cases h
  next := Nat.le_refl 64
  base_le := Nat.le_refl _
  low := fun i hi ht => by
    cases ht' : (rowsSt L).tag i with
    | none => exact absurd ht' ht
    | some a =>
      obtain ⟨_, x, hx, rfl⟩ := rowsSt_tag ht'
      obtain ⟨b, fz, hb, _⟩ := hW x hx
      exact ⟨(Array.getElem?_eq_some_iff.1 hb).1, Nat.ne_of_lt (hlo x hx)⟩
  heap_dom := fun i r h => by
    obtain ⟨x, hx, rfl, _⟩ := rowsSt_get h
    have := hlo x hx
    have e : deadId = 63 := rfl
    show x.1 < 64
    omega
  fam_dom := fun i cs e f h => by
    obtain ⟨x, hx, rfl, e⟩ := rowsSt_get h
    cases e
    show 0 < 64
    omega
  rows := fun i cs e f h => by
    obtain ⟨h1, _⟩ := cells_some.1 h
    obtain ⟨x, hx, rfl, e'⟩ := rowsSt_get h1
    cases e'
    have hx63 := hlo x hx
    have e : deadId = 63 := rfl
    have e2 : fixedTop = 64 := rfl
    obtain ⟨a, fz, ha, hv⟩ := hW x hx
    refine ⟨⟨x.1, 0, 0⟩, Ren.at_low (by omega), a, fz, ha, fun j y hj => ?_, fun h => absurd h (by omega), fun _ => ⟨rfl, ?_, fun h => absurd h (by omega)⟩, fun h => absurd rfl h⟩
    · obtain ⟨z, hz, hyz⟩ := hv.get hj
      refine ⟨z, ?_, hyz⟩
      simpa using hz
    · have := hv.length
      simpa using this
  maps := fun i es c h => by
    obtain ⟨x, hx, _, e⟩ := rowsSt_get h
    cases e
  loops := fun i r h => by
    obtain ⟨x, hx, _, e⟩ := rowsSt_get h
    cases e
  sep := fun i j a b l l' hi hj hab hl hl' => by
    obtain ⟨rfl, x, hx, e1⟩ := rowsSt_tag hi
    obtain ⟨rfl, y, hy, e2⟩ := rowsSt_tag hj
    have := hlo x hx
    have := hlo y hy
    have e : deadId = 63 := rfl
    have e3 : fixedTop = 64 := rfl
    rw [Ren.at_low (by omega)] at hl hl'
    cases hl
    cases hl'
    intro h
    apply hab
    have h : i = j := h
    rw [h]

theorem flat_vrs (ρ : Ren) : ∀ {l : List Value}, flatAll l = true → VRs ρ l l
  | [], _ => .nil
  | a :: l, h => by
    change sel (flatOne a) (flatAll l) false = true at h
    rw [sel_eq] at h
    split at h
    · rename_i ha
      exact .cons (flat_vr ρ ha) (flat_vrs ρ h)
    · cases h

theorem flat_eqs {ρ : Ren} : ∀ {l c : List Value}, flatAll l = true → VRs ρ l c → c = l
  | [], _, _, .nil => rfl
  | a :: l, _, h, .cons hv hl => by
    change sel (flatOne a) (flatAll l) false = true at h
    rw [sel_eq] at h
    split at h
    · rename_i ha
      rw [flat_eq ha hv, flat_eqs h hl]
    · cases h

/-- That a state knows a low block to hold these plain cells. -/
noncomputable def knowsRow (s : St) (k : Nat) (cs : List Value) : Bool := Option.casesOn (s.cells k) false fun c => sel (Nat.beq c.2.2 0) (sameL (sameV 4) c.1 cs) false

theorem knowsRow_heap {base : Nat} {ρ : Ren} {s : St} {w : World} (h : HR P base ρ s w) {k : Nat} {cs : List Value} (hf : flatAll cs = true) (hlo : k < fixedTop) (hk : knowsRow s k cs = true) : ∃ (t : TypeId) (fz : Nat × Nat), w.heap[k]? = some (.cells ⟨cs⟩ t fz) := by
  unfold knowsRow at hk
  cases hc : s.cells k with
  | none => rw [hc] at hk; cases hk
  | some c =>
    obtain ⟨cs', e, f⟩ := c
    rw [hc] at hk
    change sel (Nat.beq f 0) (sameL (sameV 4) cs' cs) false = true at hk
    rw [sel_eq] at hk
    split at hk
    · rename_i h0
      have h0 : f = 0 := Nat.eq_of_beq_eq_true h0
      subst h0
      have he := sameL_eq (fun a b => sameV_eq 4) hk
      subst he
      obtain ⟨l, hat, a, fz, ha, hv, _, h0, _⟩ := h.rows k _ _ _ hc
      rw [Ren.at_low hlo] at hat
      cases hat
      obtain ⟨_, hsz, _⟩ := h0 rfl
      refine ⟨e, fz, ?_⟩
      have hvs : VRs ρ cs' a.toList := VRs.of_get (by simpa using hsz) fun j x hj => by
        obtain ⟨y, hy, hxy⟩ := hv j x hj
        exact ⟨y, by simpa using hy, hxy⟩
      have := flat_eqs hf hvs
      rw [← this]
      exact ha
    · cases hk
end
end Go.Ax

namespace Go.Ax
open Go

/-- What a cell is, by its type. -/
inductive LK where
  | int (k : IntKind)
  | bool
  | slice

/-- The kinds of the cells of fields, one behind the other. -/
noncomputable def fieldLs (P : Program) (g : TypeId → Option (List LK)) : List Field → Nat → Option (List LK)
  | [], _ => some []
  | f :: fs, o => if f.offset = o then (g f.type).bind fun ks => if ks.length = P.cellsOf f.type then (fieldLs P g fs (o + ks.length)).map (ks ++ ·) else none else none

/-- The kinds of a type's cells, where all are integers, booleans and slices. -/
noncomputable def leafKs (P : Program) : Nat → TypeId → Option (List LK)
  | 0, _ => none
  | n + 1, t => match P.underlying t with
    | some (.int k) => some [.int k]
    | some .bool => some [.bool]
    | some (.slice _) => some [.slice]
    | some (.struct fs) => (fieldLs P (leafKs P n) fs.toList 0).bind fun r => if r.length = P.cellsOf t then some r else none
    | some (.array m e) => (leafKs P n e).bind fun ks => if ks.length = P.cellsOf e ∧ m * ks.length = P.cellsOf t then some (repeatL' m ks) else none
    | _ => none

/-- A cell of a kind. -/
inductive LeafOk : LK → Value → Prop
  | int (k : IntKind) (n : Int) (h : (Lit.int k n).wf = true) : LeafOk (.int k) (.int k n)
  | bool (b : Bool) : LeafOk .bool (.bool b)
  | nil : LeafOk .slice (.slice none 0 0)
  | slice (a : Addr) (n c : Nat) : LeafOk .slice (.slice (some a) n c)

inductive LeafAll : List LK → List Value → Prop
  | nil : LeafAll [] []
  | cons {k : LK} {v : Value} {ks : List LK} {vs : List Value} (h : LeafOk k v) (hs : LeafAll ks vs) : LeafAll (k :: ks) (v :: vs)

theorem LeafAll.append : ∀ {a b : List LK} {x y : List Value}, LeafAll a x → LeafAll b y → LeafAll (a ++ b) (x ++ y)
  | _, _, _, _, .nil, hb => hb
  | _, _, _, _, .cons h hs, hb => .cons h (hs.append hb)

theorem LeafAll.length : ∀ {a : List LK} {x : List Value}, LeafAll a x → x.length = a.length
  | _, _, .nil => rfl
  | _, _, .cons _ hs => by simp [hs.length]

theorem fieldLs_cons {P : Program} {g : TypeId → Option (List LK)} {f : Field} {fs : List Field} {o : Nat} {r : List LK} (h : fieldLs P g (f :: fs) o = some r) :
    ∃ ks r', f.offset = o ∧ g f.type = some ks ∧ ks.length = P.cellsOf f.type ∧ fieldLs P g fs (o + ks.length) = some r' ∧ r = ks ++ r' := by
  unfold fieldLs at h
  split at h
  · next ho =>
    obtain ⟨ks, hk, h⟩ := Option.bind_eq_some_iff.1 h
    split at h
    · next hl =>
      obtain ⟨r', hr, rfl⟩ := Option.map_eq_some_iff.1 h
      exact ⟨ks, r', ho, hk, hl, hr, rfl⟩
    · cases h
  · cases h

theorem leafKs_cases {P : Program} {n : Nat} {t : TypeId} {r : List LK} (h : leafKs P (n + 1) t = some r) :
    (∃ k, P.underlying t = some (.int k) ∧ r = [.int k]) ∨ (P.underlying t = some .bool ∧ r = [.bool]) ∨ (∃ e, P.underlying t = some (.slice e) ∧ r = [.slice]) ∨
      (∃ fs, P.underlying t = some (.struct fs) ∧ fieldLs P (leafKs P n) fs.toList 0 = some r ∧ r.length = P.cellsOf t) ∨
      (∃ m e ks, P.underlying t = some (.array m e) ∧ leafKs P n e = some ks ∧ ks.length = P.cellsOf e ∧ m * ks.length = P.cellsOf t ∧ r = repeatL' m ks) := by
  unfold leafKs at h
  split at h
  · next k hk => cases h; exact .inl ⟨k, hk, rfl⟩
  · next hk => cases h; exact .inr (.inl ⟨hk, rfl⟩)
  · next e hk => cases h; exact .inr (.inr (.inl ⟨e, hk, rfl⟩))
  · next fs hf =>
    obtain ⟨r', hr, h⟩ := Option.bind_eq_some_iff.1 h
    split at h
    · next hl => cases h; exact .inr (.inr (.inr (.inl ⟨fs, hf, hr, hl⟩)))
    · cases h
  · next m e hf =>
    obtain ⟨ks, hr, h⟩ := Option.bind_eq_some_iff.1 h
    split at h
    · next hl => cases h; exact .inr (.inr (.inr (.inr ⟨m, e, ks, hf, hr, hl.1, hl.2, rfl⟩)))
    · cases h
  · cases h

variable {H : Type} {enc : TypeId × Value → H} {P : Program}

theorem fieldLs_open {g : TypeId → Option (List LK)} {cs : List Value} : ∀ {fs : List Field} {o : Nat} {r : List LK}, fieldLs P g fs o = some r →
    (∀ f ∈ fs, ∀ ks, g f.type = some ks → LeafAll ks ((cs.drop f.offset).take (P.cellsOf f.type))) → LeafAll r ((cs.drop o).take r.length)
  | [], o, r, h, _ => by
    cases h
    simpa using LeafAll.nil
  | f :: fs, o, r, h, hall => by
    obtain ⟨ks, r', ho, hk, hl, hr, rfl⟩ := fieldLs_cons h
    have h1 := hall f List.mem_cons_self ks hk
    have h2 := fieldLs_open hr fun f' hf => hall f' (List.mem_cons_of_mem _ hf)
    rw [List.length_append, List.take_add, List.drop_drop]
    rw [ho, ← hl] at h1
    exact h1.append h2

theorem elemLs_open {cs : List Value} {ks : List LK} : ∀ (m o : Nat), (∀ i, i < m → LeafAll ks ((cs.drop (o + i * ks.length)).take ks.length)) → LeafAll (repeatL' m ks) ((cs.drop o).take (m * ks.length))
  | 0, o, _ => by simpa [repeatL'] using LeafAll.nil
  | m + 1, o, h => by
    have h1 := h 0 (Nat.succ_pos _)
    have h2 := elemLs_open m (o + ks.length) fun i hi => by
      have := h (i + 1) (Nat.succ_lt_succ hi)
      rw [Nat.succ_mul] at this
      rw [show o + ks.length + i * ks.length = o + (i * ks.length + ks.length) by omega]
      exact this
    rw [show (m + 1) * ks.length = ks.length + m * ks.length by rw [Nat.succ_mul, Nat.add_comm], List.take_add, List.drop_drop]
    show LeafAll (ks ++ repeatL' m ks) _
    refine LeafAll.append ?_ h2
    simpa using h1

/-- What reads at such a type has such cells. -/
theorem leaf_open : ∀ {n : Nat} {t : TypeId} {ks : List LK}, leafKs P n t = some ks → ∀ {w : World} {b : Nat} {s : Nat → Bool} {h : Bool} {fuel : Nat} {cs : List Value} {x : DataW H × List MemPlace},
    DataW.trod enc P w b s h fuel t cs = some x → LeafAll ks cs
  | 0, _, _, hk, _, _, _, _, _, _, _, _ => by cases hk
  | n + 1, t, ks, hk, w, b, s, h, fuel, cs, x, hx => by
    rcases leafKs_cases hk with ⟨k, ht, rfl⟩ | ⟨ht, rfl⟩ | ⟨e, ht, rfl⟩ | ⟨fs, ht, hf, hl⟩ | ⟨q, e, ks', ht, hke, hle, hlt, rfl⟩
    · obtain ⟨m, rfl, _, hw⟩ := DataW.trod_int ht hx
      exact .cons (.int k m hw) .nil
    · cases fuel with
      | zero => cases hx
      | succ m =>
        unfold DataW.trod at hx
        rw [ht] at hx
        split at hx <;> simp_all
        exact .cons (.bool _) .nil
    · rcases DataW.trod_slice ht hx with ⟨hcs, _⟩ | ⟨a, len, cap, elems, rest, m, _, hcs, _⟩
      · rw [hcs]; exact .cons .nil .nil
      · rw [hcs]; exact .cons (.slice _ _ _) .nil
    · obtain ⟨xs, m, _, _, hcl, hxl, hall⟩ := DataW.trod_struct ht hx
      have h1 := fieldLs_open (cs := cs) hf fun f hm ks' hk' => by
        obtain ⟨i, hi, hif⟩ := List.mem_iff_getElem.1 hm
        have hi' : i < xs.length := by rw [hxl]; simpa using hi
        have := hall i f (by rw [← hif]; simp)
        rw [List.getElem?_eq_getElem hi'] at this
        exact leaf_open hk' this
      rw [hl, ← hcl] at h1
      simpa using h1
    · obtain ⟨xs, m, _, _, hcl, hxl, hall⟩ := DataW.trod_array ht hx
      have h1 := elemLs_open (cs := cs) (ks := ks') q 0 fun i hi => by
        have := hall i hi
        have hi' : i < xs.length := by rw [hxl]; exact hi
        rw [List.getElem?_eq_getElem hi'] at this
        rw [hle, Nat.zero_add]
        exact leaf_open hke this
      rw [hlt, ← hcl] at h1
      simpa using h1

theorem LeafAll.cons_inv {k : LK} {ks : List LK} {l : List Value} (h : LeafAll (k :: ks) l) : ∃ v vs, l = v :: vs ∧ LeafOk k v ∧ LeafAll ks vs := by
  cases h with
  | cons h hs => exact ⟨_, _, rfl, h, hs⟩
theorem LeafOk.int_inv {k : IntKind} {v : Value} (h : LeafOk (.int k) v) : ∃ n, v = .int k n ∧ (Lit.int k n).wf = true := by
  cases h with
  | int _ n h => exact ⟨n, rfl, h⟩
theorem LeafOk.slice_inv {v : Value} (h : LeafOk .slice v) : v = .slice none 0 0 ∨ ∃ a n c, v = .slice (some a) n c := by
  cases h with
  | nil => exact .inl rfl
  | slice a n c => exact .inr ⟨a, n, c, rfl⟩

theorem arg_leaf {n : Nat} {t : TypeId} {ks : List LK} (hk : leafKs P n t = some ks) (h2 : 2 ≤ ks.length) {w : World} {b : Nat} {s : Nat → Bool} {h : Bool} {v : Value} {d : DataW H} {p : List MemPlace}
    (hd : DataW.Trod enc P w b s h t v d p) : ∃ cs : List Value, v = .agg ⟨cs⟩ ∧ LeafAll ks cs := by
  obtain ⟨fuel, hd⟩ := hd
  have hl := leaf_open hk hd
  have hlen := hl.length
  cases v with
  | agg cs => exact ⟨cs.toList, rfl, by simpa [Value.cells] using hl⟩
  | _ => simp [Value.cells] at hlen; omega
theorem arg_leaf1 {n : Nat} {t : TypeId} {k : IntKind} (hk : leafKs P n t = some [.int k]) {w : World} {b : Nat} {s : Nat → Bool} {h : Bool} {v : Value} {d : DataW H} {p : List MemPlace}
    (hd : DataW.Trod enc P w b s h t v d p) (hv : ∃ m, v = .int k m) : ∃ m, v = .int k m ∧ (Lit.int k m).wf = true := by
  obtain ⟨m, rfl⟩ := hv
  obtain ⟨fuel, hd⟩ := hd
  have hl := leaf_open hk hd
  have hl : LeafAll [.int k] [.int k m] := by simpa [Value.cells] using hl
  obtain ⟨v, vs, e, ho, _⟩ := hl.cons_inv
  obtain ⟨m', rfl, hw⟩ := ho.int_inv
  cases e
  exact ⟨m, rfl, hw⟩
end Go.Ax

namespace Go.Ax
open Go
noncomputable section

/-- the functions that a function leads to, by its number -/
def leadsN (P : Program) (f : FuncId) : List FuncId := (P.funcs[f]?).elim [] P.leadsTo

/-- The functions that are come to, what has been seen also kept as bits. -/
def fastVia (L : FuncId → List FuncId) : Nat → List FuncId → List FuncId → Nat → List FuncId := fun n =>
  Nat.rec (fun _ seen _ => seen.reverse)
    (fun _ ih todo seen m => List.casesOn todo seen.reverse fun f todo => sel (hasBit m f) (ih todo seen m) (ih (appL (L f) todo) (f :: seen) (orBit m f))) n

theorem fastVia_eq (P : Program) : ∀ (n : Nat) (todo seen : List FuncId) (m : Nat), (∀ x, hasBit m x = seen.contains x) → fastVia (leadsN P) n todo seen m = P.closureVia n todo seen
  | 0, todo, seen, m, h => by cases todo <;> rfl
  | n + 1, [], seen, m, h => rfl
  | n + 1, f :: todo, seen, m, h => by
    show sel (hasBit m f) (fastVia (leadsN P) n todo seen m) (fastVia (leadsN P) n (appL (leadsN P f) todo) (f :: seen) (orBit m f)) = P.closureVia (n + 1) (f :: todo) seen
    unfold Program.closureVia
    rw [h f, sel_eq]
    by_cases hc : seen.contains f = true
    · rw [if_pos hc, if_pos hc]
      exact fastVia_eq P n todo seen m h
    · rw [if_neg hc, if_neg hc, appL_eq]
      refine fastVia_eq P n _ (f :: seen) (orBit m f) fun x => ?_
      rw [hasBit_orBit, h x]
      rw [List.contains_cons, Bool.or_comm]
      have e : (x == f) = decide (f = x) := by
        by_cases hx : f = x
        · subst hx; simp
        · rw [decide_eq_false hx]
          exact beq_eq_false_iff_ne.2 fun h => hx h.symm
      rw [e]

/-- the steps that are granted -/
def fuelOf (P : Program) : Nat := 1 + (P.funcs.toList.map fun g => (P.leadsTo g).length + 1).sum

theorem closure_fast {P : Program} {f : FuncId} {n : Nat} {l : List FuncId} (hn : fuelOf P = n) (h : fastVia (leadsN P) n [f] [] 0 = l) : P.closure f = l := by
  have e : P.closure f = P.closureVia (fuelOf P) [f] [] := rfl
  rw [e, hn, ← fastVia_eq P n [f] [] 0 fun x => by rw [hasBit_zero]; rfl]
  exact h

/-- Where no function goes, none goes. -/
theorem goes_none {P : Program} {s : Start} {func : String} (h : P.funcs.any Func.goes = false) : P.goesAt s func = false := by
  have hg : ∀ f, P.goes f = false := by
    intro f
    unfold Program.goes
    rw [h, Bool.and_false, Bool.or_false]
    rw [List.any_eq_false]
    intro g _
    cases hf : P.funcs[g]? with
    | none => simp
    | some fn =>
      have := Array.any_eq_false.1 h
      obtain ⟨hi, rfl⟩ := Array.getElem?_eq_some_iff.1 hf
      simpa using this g hi
  unfold Program.goesAt Program.goesFrom
  have h1 : (P.funcNamed func).any P.goes = false := by
    cases P.funcNamed func with
    | none => rfl
    | some f => exact hg f
  rw [h1, Bool.false_or]
  cases s <;> first | rfl | (simp only [List.any_eq_false]; intro f _; rw [hg f]; simp)

/-- a list's elements in parts -/
theorem all_range_split {p : Nat → Bool} {k m : Nat} (h1 : (List.range' 0 k).all p = true) (h2 : (List.range' k m).all p = true) : (List.range' 0 (k + m)).all p = true := by
  have : List.range' 0 (k + m) = List.range' 0 k ++ List.range' k m := by
    have := List.range'_append (s := 0) (m := k) (n := m) (step := 1)
    simpa using this.symm
  rw [this, List.all_append, h1, h2]
  rfl
end
end Go.Ax

