import Derived.Test.YtcjdpbcgmdhjfaaGreatDoorDc
import Derived.Calls
import Derived.OrdersIn
namespace Go.Ax
open Go

section
variable {P : Program} {base : Nat} {ρ : Ren} {s s' : St} {w w' : World} {ev : Ev} {η : Operand → Value}

/-- What is asked of a function of the library's without a body. -/
def ExtSound (C : Cfg) (P : Program) (f : FuncId) (e : Ext) : Prop :=
  ∀ (base : Nat) (ρ : Ren) (s s' : St) (w : World) (args cargs : List Value) (v : Value), HR P base ρ s w → VRs ρ args cargs → callExt C s e args = some (v, s') →
    ∃ c ρ' w', (callFunc f ⟨cargs⟩).run P w = .ok (.value c) w' ∧ Goes P base ρ s w ρ' s' w' ∧ VR ρ' v c

/-- What the executor leans on. -/
structure CfgOk (C : Cfg) (P : Program) : Prop where
  prog : C.P = P
  zero : ZeroOk P
  fields : FieldsOk P
  eq : EqOk C
  byte : ∀ e, P.underlying e = some (.int .u8) → size P e = some 1
  globals : P.globals.size < fixedTop
  body : ∀ f c, C.body f = some c → ∃ fn, P.funcs[f]? = some fn ∧ fn.body = some c ∧ (fn.name == "runtime.NumGoroutine") = false ∧ okCode fn.ntmps c = true ∧ C.results f = fn.results.toList
  mix : P.follows .mixedOrders = true
  insert : ∀ f t, C.insert f = some t → ∀ args s v s', runCon C t s args = some (v, s') → ∀ base ρ w cargs, HR P base ρ s w → VRs ρ args cargs →
    Calls P f ⟨cargs⟩ w fun e w' => ∃ c ρ', e = .returned c ∧ Goes P base ρ s w ρ' s' w' ∧ VR ρ' v c
  ext : ∀ f e, C.ext f = some e → ExtSound C P f e

variable {C : Cfg}

theorem callAny_sound (hK : CfgOk C P) (h : HR P base ρ s w) {f : FuncId} {args cargs : List Value} (ha : VRs ρ args cargs) {r : Res} (hr : callAny C s f args = some r) :
    ResR P base ρ s w ((callFunc f ⟨cargs⟩).run P w) r := by
  unfold callAny at hr
  cases he : C.ext f with
  | none =>
    rw [he] at hr
    obtain ⟨hg, hr⟩ := guard_some.1 hr
    cases hr
    obtain ⟨c, hc⟩ := Option.isSome_iff_exists.1 hg
    obtain ⟨fn, h1, h2, h3, _⟩ := hK.body f c hc
    refine ⟨rfl, cargs, ?_, ha⟩
    have h3' : ¬ fn.name = "runtime.NumGoroutine" := by simpa using h3
    simp [callFunc, h1, h2, h3']
  | some e =>
    rw [he] at hr
    obtain ⟨⟨v, s2⟩, hv, hr⟩ := obind_some.1 hr
    cases hr
    obtain ⟨c, ρ', w', h1, h2, h3⟩ := hK.ext f e he base ρ s s2 w args cargs v h ha hv
    exact ⟨ρ', w', c, .inl h1, h2, h3⟩

theorem callMethod_sound (hK : CfgOk C P) (h : HR P base ρ s w) {t : TypeId} {v c : Value} {name : String} {args cargs : List Value} (hv : VR ρ v c) (ha : VRs ρ args cargs) {r : Res} (hr : callMethod C s t v name args = some r) :
    ResR P base ρ s w ((Go.callMethod (.iface t c) name ⟨cargs⟩).run P w) r := by
  unfold Ax.callMethod at hr
  rw [hK.prog] at hr
  obtain ⟨q, hq, hr⟩ := obind_some.1 hr
  obtain ⟨c', h1, h2⟩ := method_sound h hv hq (P.types.size + Made.depth - 1)
  have e : P.types.size + Made.depth - 1 + 1 = P.types.size + Made.depth := by
    have : 0 < Made.depth := by decide
    omega
  rw [e] at h1
  have := callAny_sound hK h (VRs.cons h2 ha) hr
  unfold Go.callMethod
  simp only [Sem.run_bind, run_program, Result.andThen_ok, h1]
  have e2 : (#[c'] ++ ⟨cargs⟩ : Array Value) = ⟨c' :: cargs⟩ := by simp
  rw [e2]
  exact this

theorem callName_sound (hK : CfgOk C P) (h : HR P base ρ s w) {name : String} {args cargs : List Value} (ha : VRs ρ args cargs) {r : Res} (hr : callName C s name args = some r) :
    ∃ recv rest, cargs = recv :: rest ∧ ResR P base ρ s w ((Go.callMethod recv name ⟨rest⟩).run P w) r := by
  unfold callName at hr
  split at hr
  · cases ha with
    | cons h1 h2 =>
      cases h1 with
      | iface t hv => exact ⟨_, _, rfl, callMethod_sound hK h hv h2 hr⟩
  · cases hr

theorem callVia_sound (hK : CfgOk C P) (h : HR P base ρ s w) {t : TypeId} {path : Array FieldStep} {f : FuncId} {pr : Bool} {args cargs : List Value} (ha : VRs ρ args cargs) {r : Res} (hr : callVia C s t path.toList f pr args = some r) :
    ∃ x rest, cargs = x :: rest ∧ ResR P base ρ s w (Sem.run P (do callFunc f (#[← receiverVia t x path pr] ++ ⟨rest⟩)) w) r := by
  unfold callVia at hr
  split at hr
  · rw [hK.prog] at hr
    obtain ⟨q, hq, hr⟩ := obind_some.1 hr
    obtain ⟨v, hv, hr⟩ := obind_some.1 hr
    cases ha with
    | @cons _ c _ rest h1 h2 =>
      obtain ⟨y, h3, h4⟩ := follow_sound h path.toList (PlR.val h1) hq
      obtain ⟨c', h5, h6⟩ := receiver_sound h none h4 hv
      refine ⟨_, _, rfl, ?_⟩
      have := callAny_sound hK h (VRs.cons h6 h2) hr
      simp only [receiverVia, Sem.run_bind, h3, Result.andThen_ok, h5]
      have e2 : (#[c'] ++ ⟨rest⟩ : Array Value) = ⟨c' :: rest⟩ := by simp
      rw [e2]
      exact this
  · cases hr

theorem callFn_sound (hK : CfgOk C P) (h : HR P base ρ s w) {fn fn' : Fn} {a a' b b' args cargs : List Value} (hf : FR ρ fn fn') (ha : VRs ρ a a') (hb : VRs ρ b b') (hg : VRs ρ args cargs) {r : Res} (hr : callFn C s fn a b args = some r) :
    ResR P base ρ s w ((Go.invoke (.fn fn' ⟨b'⟩) (⟨a'⟩ ++ ⟨cargs⟩)).run P w) r := by
  have e1 : (⟨a'⟩ ++ ⟨cargs⟩ : Array Value) = ⟨a' ++ cargs⟩ := by simp
  rw [e1]
  unfold callFn at hr
  simp only [appL_eq] at hr
  cases hf with
  | func f =>
    have := callAny_sound hK h (ha.append (hg.append hb)) hr
    have e2 : (⟨a' ++ cargs⟩ ++ ⟨b'⟩ : Array Value) = ⟨a' ++ (cargs ++ b')⟩ := by simp
    simp only [Go.invoke, e2]
    exact this
  | yield hl =>
    cases hr
    exact ⟨rfl, _, _, hl, rfl, ha.append hg⟩
  | method name =>
    obtain ⟨recv, rest, h1, h2⟩ := callName_sound hK h (ha.append hg) hr
    rw [h1]
    have e2 : (⟨recv :: rest⟩ : Array Value).extract 1 (⟨recv :: rest⟩ : Array Value).size = ⟨rest⟩ := by simp
    simp only [Go.invoke, List.getElem?_toArray, List.getElem?_cons_zero, e2]
    exact h2
  | methodOf t n => cases hr
  | via t p f b =>
    obtain ⟨x, rest, h1, h2⟩ := callVia_sound hK h (ha.append hg) hr
    rw [h1]
    have e2 : (⟨x :: rest⟩ : Array Value).extract 1 (⟨x :: rest⟩ : Array Value).size = ⟨rest⟩ := by simp
    simp only [Go.invoke, List.getElem?_toArray, List.getElem?_cons_zero, e2]
    exact h2

theorem invoke_sound (hK : CfgOk C P) (h : HR P base ρ s w) {f cf : Value} {args cargs : List Value} (hf : VR ρ f cf) (ha : VRs ρ args cargs) {r : Res} (hr : invoke C s f args = some r) :
    ResR P base ρ s w (Sem.run P (do let d ← Deferred.ofValue cf ⟨cargs⟩; Go.invoke d.target d.args) w) r := by
  unfold Ax.invoke at hr
  split at hr
  · cases hf with
    | func hfn h1 h2 =>
      have := callFn_sound hK h hfn h1 h2 ha hr
      simpa only [Deferred.ofValue, Sem.run_bind, Sem.run_pure, Result.andThen_ok] using this
  · cases hr

theorem builtin_sound (hK : CfgOk C P) (h : HR P base ρ s w) {b : Builtin} {ts : Array TypeId} {ty : TypeId} {consts : Array Bool} {args cargs : List Value} (ha : VRs ρ args cargs) {r : Res}
    (hr : builtin C s b (nth ts.toList 0) (nth ts.toList 1) args = some r) : ResR P base ρ s w ((Go.builtin b ts ty consts ⟨cargs⟩).run P w) r := by
  have h0 : nth ts.toList 0 = ts[0]? := by rw [nth_eq]; simp
  have h1 : nth ts.toList 1 = ts[1]? := by rw [nth_eq]; simp
  rw [h0, h1] at hr
  unfold Ax.builtin at hr
  split at hr
  · cases ha with
    | cons hx hn =>
      cases hn
      split at hr
      · obtain ⟨t, ht, hr⟩ := obind_some.1 hr
        rw [hK.prog] at hr
        exact bLen_sound h hx ts ty ht hr
      · obtain ⟨t, ht, hr⟩ := obind_some.1 hr
        rw [hK.prog] at hr
        exact bCap_sound h hx ts ty ht hr
      · obtain ⟨t, ht, hr⟩ := obind_some.1 hr
        rw [hK.prog] at hr
        exact bClear_sound h hK.zero hx ts ty ht hr
      · cases hr
  · cases ha with
    | cons hx hn =>
      cases hn with
      | cons hy hn =>
        cases hn
        split at hr
        · obtain ⟨t, ht, hr⟩ := obind_some.1 hr
          rw [hK.prog] at hr
          obtain ⟨⟨v, s2⟩, hv, hr⟩ := obind_some.1 hr
          cases hr
          obtain ⟨c, ρ', w', h2, h3, h4⟩ := append_sound (ty := ty) h hx hy ht hv
          refine ⟨ρ', w', c, .inl ?_, h3, h4⟩
          simp only [Go.builtin, Sem.run_bind, h2, Result.andThen_ok, Sem.run_pure]
        · obtain ⟨t, ht, hr⟩ := obind_some.1 hr
          rw [hK.prog] at hr
          exact bCopy_sound h hx hy ts ty ht hr
        · have := bMinMax_sound h hx hy ts ty hr
          simpa only [Bool.false_eq_true, if_false, Go.builtin] using this
        · have := bMinMax_sound h hx hy ts ty hr
          simpa only [if_true, Go.builtin] using this
        · cases hr
  · cases hr
end
end Go.Ax

namespace Go.Ax
open Go

section
variable {P : Program} {base : Nat} {ρ : Ren} {s s' : St} {w w' : World} {ev : Ev} {η : Operand → Value} {C : Cfg}

theorem andThen_assoc {α β γ : Type} (x : Result α) (f : α → World → Result β) (g : β → World → Result γ) : (x.andThen f).andThen g = x.andThen fun a w => (f a w).andThen g := by cases x <;> rfl

theorem oConvert_sound (hK : CfgOk C P) (h : HR P base ρ s w) (he : EvR ρ ev η) {src dst : TypeId} {x : Operand} {r : Res} (hr : oConvert C ev s src dst x = some r) :
    ResR P base ρ s w (Sem.run P (do pure (.value (← Go.convert src dst (η x)))) w) r := by
  obtain ⟨v, hv, hr⟩ := obind_some.1 hr
  obtain ⟨⟨u, s2⟩, hc, hr⟩ := obind_some.1 hr
  cases hr
  rw [hK.prog] at hc
  obtain ⟨c, ρ', w', h1, h2, h3⟩ := convert_sound h hK.byte (he x v hv) hc
  refine ⟨ρ', w', c, .inl ?_, h2, h3⟩
  simp only [Sem.run_bind, h1, Result.andThen_ok, Sem.run_pure]

theorem oLookup_sound (hK : CfgOk C P) (h : HR P base ρ s w) (he : EvR ρ ev η) {t : TypeId} {m k : Operand} {ok : Bool} {r : Res} (hr : oLookup C ev s t m k ok = some r) :
    ResR P base ρ s w (Sem.run P (do pure (.value (← Instr.lookup t (η m) (η k) ok))) w) r := by
  obtain ⟨a, ha, hr⟩ := obind_some.1 hr
  obtain ⟨b, hb, hr⟩ := obind_some.1 hr
  exact lookup_sound h hK.prog hK.eq hK.zero (he m a ha) (he k b hb) hr

theorem oUpdate_sound (hK : CfgOk C P) (h : HR P base ρ s w) (he : EvR ρ ev η) {t : TypeId} {m k x : Operand} {r : Res} (hr : oUpdate C ev s t m k x = some r) :
    ResR P base ρ s w (Sem.run P (do Instr.mapUpdate t (η m) (η k) (η x); pure .skip) w) r := by
  unfold oUpdate at hr
  rw [hK.prog] at hr
  split at hr
  · rename_i hu
    obtain ⟨a, ha, hr⟩ := obind_some.1 hr
    obtain ⟨b, hb, hr⟩ := obind_some.1 hr
    obtain ⟨c, hc, hr⟩ := obind_some.1 hr
    exact mapUpdate_sound h hK.prog hK.eq hu (he m a ha) (he k b hb) (he x c hc) hr
  · cases hr

theorem oEntry_sound (hK : CfgOk C P) (h : HR P base ρ s w) (he : EvR ρ ev η) {t : TypeId} {m k : Operand} {r : Res} (hr : oEntry C ev s t m k = some r) :
    ResR P base ρ s w (Sem.run P (do pure (.value (← Instr.mapEntry t (η m) (η k)))) w) r := by
  unfold oEntry at hr
  rw [hK.prog] at hr
  split at hr
  · rename_i hu
    obtain ⟨a, ha, hr⟩ := obind_some.1 hr
    obtain ⟨b, hb, hr⟩ := obind_some.1 hr
    exact mapEntry_sound h hK.prog hK.eq hK.zero hu (he m a ha) (he k b hb) hr
  · cases hr

theorem oCall_sound (hK : CfgOk C P) (h : HR P base ρ s w) (he : EvR ρ ev η) {c : Call} (ty : TypeId) {r : Res} (hr : oCall C ev s c = some r) :
    ResR P base ρ s w (Sem.run P (do let d ← resolve η c ty; Go.invoke d.target d.args) w) r := by
  unfold oCall at hr
  obtain ⟨args, ha, hr⟩ := obind_some.1 hr
  have hargs := evs_some he ha
  have e0 : c.args.map η = ⟨c.args.toList.map η⟩ := by apply Array.ext'; simp
  cases hc : c.callee with
  | builtin b =>
    rw [hc] at hr
    have := builtin_sound (ty := ty) (consts := c.args.map fun | .const _ => true | _ => false) hK h hargs hr
    simp only [resolve, hc, Sem.run_bind, Sem.run_pure, Result.andThen_ok, Go.invoke, e0]
    exact this
  | value f =>
    rw [hc] at hr
    obtain ⟨v, hv, hr⟩ := obind_some.1 hr
    have := invoke_sound hK h (he f v hv) hargs hr
    simp only [resolve, hc, e0]
    exact this
  | invoke recv name =>
    rw [hc] at hr
    obtain ⟨v, hv, hr⟩ := obind_some.1 hr
    obtain ⟨x, rest, h1, h2⟩ := callName_sound hK h (VRs.cons (he recv v hv) hargs) hr
    have e1 : (#[η recv] ++ (⟨c.args.toList.map η⟩ : Array Value)) = ⟨x :: rest⟩ := by
      apply Array.ext'
      simpa using h1
    have e2 : (⟨x :: rest⟩ : Array Value).extract 1 (⟨x :: rest⟩ : Array Value).size = ⟨rest⟩ := by simp
    simp only [resolve, hc, Sem.run_bind, Sem.run_pure, Result.andThen_ok, Go.invoke, e0, e1, List.getElem?_toArray, List.getElem?_cons_zero, e2]
    exact h2

theorem oDefer_sound (_h : HR P base ρ s w) (he : EvR ρ ev η) {c : Call} (ty : TypeId) {r : Res} (hr : oDefer C ev s c = some r) :
    ResR P base ρ s w (Sem.run P (do pure (.defer (← resolve η c ty))) w) r := by
  unfold oDefer at hr
  cases hc : c.callee with
  | builtin b => rw [hc] at hr; cases hr
  | invoke recv name => rw [hc] at hr; cases hr
  | value f =>
    rw [hc] at hr
    obtain ⟨v, hv, hr⟩ := obind_some.1 hr
    have hf := he f v hv
    simp only [resolve, hc]
    generalize η f = cf at hf
    split at hr
    · rename_i g first captured
      obtain ⟨args, ha, hr⟩ := obind_some.1 hr
      cases hr
      have hargs := evs_some he ha
      have e0 : c.args.map η = ⟨c.args.toList.map η⟩ := by apply Array.ext'; simp
      cases hf with
      | @func _ _ a a' b b' hfn h1 h2 =>
        cases hfn
        refine ⟨rfl, { target := .fn (.func g) ⟨b'⟩, args := ⟨a' ++ c.args.toList.map η⟩ }, a' ++ c.args.toList.map η, b', ?_, rfl, rfl, ?_⟩
        · simp [Deferred.ofValue]
        · simp only [appL_eq, List.append_assoc]
          exact h1.append (hargs.append h2)
    · cases hr

theorem op_sound (hK : CfgOk C P) (h : HR P base ρ s w) (he : EvR ρ ev η) {o : Oper} {r : Res} (hr : execOp C ev s o.op = some r) :
    ResR P base ρ s w ((Go.execOp η o).run P w) r := by
  have hC := hK.prog
  cases ho : o.op
  case nilCheck x => rw [ho] at hr; exact oNilCheck_sound h he C hC ho hr
  all_goals
    rw [ho] at hr
    unfold Go.execOp
    simp only [ho]
  all_goals try (change none = some r at hr; cases hr; done)
  case move x => exact oMove_sound h he C hr
  case assign x => exact oMove_sound h he C hr
  case pick c a b => exact oPick_sound h he C hr
  case alloc t => exact oAlloc_sound h hK.zero C hC hr
  case box t x => exact oBox_sound h he C hr
  case build t parts => exact oBuild_sound h he hK.zero hK.fields C hC hr
  case buildSlice t len parts => exact oBuildSlice_sound h he hK.zero C hC hr
  case load t a => exact oLoad_sound h he C hC hr
  case store t a x => exact oStore_sound h he C hC hr
  case binOp op t x y yt =>
    have := oBin_sound h he C hC hK.eq hr
    simp only [Sem.run_bind] at this ⊢
    rw [andThen_assoc]
    exact this
  case unOp op t x => exact oUn_sound h he C hr
  case convert src dst x => exact oConvert_sound hK h he hr
  case makeInterface t x => exact oIface_sound h he C hC hr
  case makeFunc fn first captured => exact oFunc_sound h he C hr
  case makeMap t r => exact oMakeMap_sound h he C hC hr
  case makeSlice t l c => exact oMakeSlice_sound h he hK.zero C hC hr
  case slice t x lo hi mx => exact oSlice_sound h he C hC hr
  case fieldAddr t x f => exact oFieldAddr_sound h he C hC hr
  case field t x f => exact oField_sound h he C hC hr
  case indexAddr t x i => exact oIndexAddr_sound h he C hC hr
  case index t x i => exact oIndex_sound h he C hC hr
  case lookup t m k ok => exact oLookup_sound hK h he hr
  case mapUpdate t m k x => exact oUpdate_sound hK h he hr
  case insert t m k x => exact oUpdate_sound hK h he hr
  case mapEntry t m k => exact oEntry_sound hK h he hr
  case typeAssert x xt a ok => exact oAssert_sound h he hK.zero C hC hr
  case extract x i => exact oExtract_sound h he C hr
  case call c => exact oCall_sound hK h he _ hr
  case defer c => exact oDefer_sound (C := C) h he _ hr
  case sliceToArrayPointer arr x => exact oS2A_sound h he C hC hr
end
end Go.Ax

namespace Go.Ax
open Go
noncomputable section

/-- The fence that lets everything in; of an activation, or of a round. -/
def Fro (ro : Option Nat) : Fence := { Fence.wide with round := ro }
theorem fro_room (ro : Option Nat) (k : Nat) : (Fro ro).room k := fun _ h => by cases h

section
variable {P : Program} {base : Nat} {ρ ρ' : Ren} {s s' : St} {w w' : World} {ev : Ev} {η : Operand → Value} {C : Cfg}

theorem callsIn_fro {ro : Option Nat} {n : Nat} {f : FuncId} {args : Array Value} {R : Ending → World → Prop} (h : Calls P f args w R) : CallsIn (Fro ro) n P f args w R :=
  ⟨trivial, fun cs _ => ((callsIn_wide (n := n)).2 h).2 cs (room_wide _)⟩

theorem roundIn_fro {ro : Option Nat} {n n' : Nat} {l : Nat} {f : FuncId} {tmps : Array Value} {assign body : Code} {R : Ending → World → Prop} (h : RoundIn Fence.wide n' P l f tmps assign body w R) : RoundIn (Fro ro) n P l f tmps assign body w R :=
  ⟨trivial, fun c cs _ => h.2 c cs (room_wide _)⟩

/-- What a call may be counted on for. -/
def CallOk (P : Program) (call : CallT) : Prop :=
  ∀ f args s v s', call f args s = some (v, s') → ∀ base ρ w cargs, HR P base ρ s w → VRs ρ args cargs →
    Calls P f ⟨cargs⟩ w fun e w' => ∃ c ρ', e = .returned c ∧ Goes P base ρ s w ρ' s' w' ∧ VR ρ' v c

def YieldOk (P : Program) (yield : YieldT) : Prop :=
  ∀ l args s v s', yield l args s = some (v, s') → ∀ base ρ w q cargs, HR P base ρ s w → ρ l = some q → VRs ρ args cargs →
    ∃ f tmps assign body, (Instr.yield q.blk ⟨cargs⟩).run P w = .ok (.round q.blk f tmps assign body) w ∧
      RoundIn Fence.wide 0 P q.blk f tmps assign body w fun e w' => ∃ c ρ', e = .returned c ∧ Goes P base ρ s w ρ' s' w' ∧ VR ρ' v c

/-- What an operation comes to, calls done. -/
def aft (call : CallT) (yield : YieldT) (rd : Bool) (r : Res) : Option (Value × St × Option (FuncId × List Value)) :=
  match r with
  | .val v s => some (v, s, none)
  | .call f args s => obind (call f args s) fun q => some (q.1, q.2, none)
  | .yield l args s => obind (yield l args s) fun q => some (q.1, q.2, none)
  | .defer f args s => sel rd none (some (unit, s, some (f, args)))

def moreL (d : Option (FuncId × List Value)) (l : List (FuncId × List Value)) : List (FuncId × List Value) :=
  match d with
  | none => l
  | some d => d :: l
def Fr.more (fr : Fr) (d : Option (FuncId × List Value)) : Fr := { vars := fr.vars, loc := fr.loc, defers := moreL d fr.defers }

theorem afterOp_eq (call : CallT) (yield : YieldT) (rd : Bool) (n : Nat) (fr : Fr) (dst : Option Tmp) (k : OpsK) (r : Res) :
    afterOp call yield rd n fr dst k r = obind (aft call yield rd r) fun q => k ((fr.more q.2.2).put n dst q.1) q.2.1 := by
  cases r with
  | val v s => rfl
  | call f args s => show obind (call f args s) _ = obind (obind (call f args s) _) _; cases call f args s <;> rfl
  | yield l args s => show obind (yield l args s) _ = obind (obind (yield l args s) _) _; cases yield l args s <;> rfl
  | defer f args s => cases rd <;> rfl

inductive NewDef (ρ : Ren) : Option (FuncId × List Value) → List Deferred → Prop
  | none : NewDef ρ none []
  | some {f : FuncId} {args first captured : List Value} {d : Deferred} (ht : d.target = .fn (.func f) ⟨captured⟩) (ha : d.args = ⟨first⟩) (hv : VRs ρ args (first ++ captured)) : NewDef ρ (some (f, args)) [d]

/-- ONE OPERATION, calls and all. -/
theorem op_wp (hK : CfgOk C P) {call : CallT} {yield : YieldT} (hc : CallOk P call) (hy : YieldOk P yield) {ro : Option Nat} {m : Nat} {o : Oper} {a : Act} {K : Act → World → Prop} {Q : Exit → Act → World → Prop}
    (h : HR P base ρ s w) (he : EvR ρ ev a.eval) {r : Res} (hr : execOp C ev s o.op = some r) {v : Value} {s' : St} {df : Option (FuncId × List Value)} (ha : aft call yield ro.isSome r = some (v, s', df))
    (hk : ∀ ρ' w' c ds, Goes P base ρ s w ρ' s' w' → VR ρ' v c → NewDef ρ' df ds → K (({ tmps := a.tmps, defers := ds ++ a.defers } : Act).put o.dst c) w') :
    o.wpIn (Fro ro) m P a w K Q := by
  have hs := op_sound hK h he hr
  refine ⟨fun _ _ => trivial, ?_⟩
  have hsem : ∀ d f args s2, r = .val d s2 ∨ r = .call f args s2 ∨ r = .yield f args s2 → o.semAt (Fro ro).round a.eval = Go.execOp a.eval o := by
    intro d f args s2 hq
    refine Oper.semAt_eq _ _ _ ?_
    intro c hop
    rw [hop] at hr
    change oDefer C ev s c = some r at hr
    unfold oDefer at hr
    split at hr
    · obtain ⟨v, hv, hr⟩ := obind_some.1 hr
      split at hr
      · obtain ⟨as, _, hr⟩ := obind_some.1 hr
        cases hr
        rcases hq with hq | hq | hq <;> cases hq
      · cases hr
    · cases hr
  cases r with
  | val v2 s2 =>
    cases ha
    rw [hsem v undef.cells.size [] s' (.inl rfl)]
    obtain ⟨ρ', w', c, hrun, hgo, hv⟩ := hs
    have := hk ρ' w' c [] hgo hv .none
    rcases hrun with hrun | ⟨hrun, rfl⟩
    · rw [hrun]; exact this
    · rw [hrun]; exact this
  | call f args s2 =>
    obtain ⟨⟨v2, s3⟩, hcall, ha⟩ := obind_some.1 ha
    cases ha
    rw [hsem undef f args s2 (.inr (.inl rfl))]
    obtain ⟨rfl, cargs, hrun, hargs⟩ := hs
    rw [hrun]
    refine ⟨(fun h => by cases h), callsIn_fro ((hc f args s2 _ _ hcall base ρ w cargs h hargs).mono ?_)⟩
    rintro e w' ⟨c, ρ', rfl, hgo, hv⟩
    exact hk ρ' w' c [] hgo hv .none
  | yield l args s2 =>
    obtain ⟨⟨v2, s3⟩, hcall, ha⟩ := obind_some.1 ha
    cases ha
    rw [hsem undef l args s2 (.inr (.inr rfl))]
    obtain ⟨rfl, q, cargs, hq, hrun, hargs⟩ := hs
    obtain ⟨f, tmps, assign, body, hrun2, hround⟩ := hy l args s2 _ _ hcall base ρ w q cargs h hq hargs
    rw [hrun, hrun2]
    refine ⟨(fun h => by cases h), roundIn_fro (hround.mono ?_)⟩
    rintro e w' ⟨c, ρ', rfl, hgo, hv⟩
    exact hk ρ' w' c [] hgo hv .none
  | defer f args s2 =>
    cases ro with
    | some l => cases ha
    | none =>
      cases ha
      obtain ⟨rfl, d, first, captured, hrun, ht, hda, hv⟩ := hs
      have e : o.semAt (Fro none).round a.eval = Go.execOp a.eval o := rfl
      rw [e, hrun]
      exact hk ρ w undef [d] (Goes.refl h) (.tuple .nil) (.some ht hda hv)

theorem NewDef.fn {df : Option (FuncId × List Value)} {ds : List Deferred} (h : NewDef ρ df ds) : ∀ d ∈ ds, ∀ r, d.target ≠ .collected r := by
  cases h with
  | none => intro d hd; cases hd
  | some ht ha hv =>
    intro d hd r
    rcases List.mem_cons.1 hd with rfl | hd
    · rw [ht]; intro e; cases e
    · cases hd

/-! ### frames -/
def Fr.get (n : Nat) (fr : Fr) (t : Nat) : Option Value := sel (ltN t n) (fr.vars.get t) (findLoc t fr.loc)

theorem Fr.ev_tmp (n : Nat) (fr : Fr) (t : Nat) : fr.ev n (.tmp t) = fr.get n t := rfl

theorem findLoc_cons (t d : Nat) (v : Value) (l : List (Nat × Value)) : findLoc t ((d, v) :: l) = if d = t then some v else findLoc t l := by
  show sel (Nat.beq d t) (some v) (findLoc t l) = _
  rw [sel_eq]
  by_cases h : d = t
  · simp [h]
  · have : Nat.beq d t = false := by rw [← Bool.not_eq_true, Nat.beq_eq]; exact h
    simp [this, h]

theorem ltN_eq (a b : Nat) : ltN a b = decide (a < b) := by
  unfold ltN
  by_cases h : a < b
  · rw [Nat.ble_eq_true_of_le h]; simp [h]
  · have : Nat.ble (Nat.succ a) b = false := by
      rw [← Bool.not_eq_true]; intro hh; exact h (Nat.le_of_ble_eq_true hh)
    rw [this]; simp [h]

theorem Fr.get_put_some (n : Nat) (fr : Fr) (d : Nat) (v : Value) (t : Nat) : (fr.put n (some d) v).get n t = if t = d then some v else fr.get n t := by
  have e : fr.put n (some d) v = if d < n then { vars := fr.vars.set d v, loc := fr.loc, defers := fr.defers } else { vars := fr.vars, loc := (d, v) :: fr.loc, defers := fr.defers } := by
    show sel (ltN d n) _ _ = _
    rw [sel_eq, ltN_eq]; simp
  rw [e]
  unfold Fr.get
  rw [ltN_eq]
  by_cases hd : d < n
  · rw [if_pos hd]
    by_cases ht : t < n
    · simp only [ht, decide_true, sel_true, Tr.get_set]
    · simp only [ht, decide_false, sel_false]
      rw [if_neg (by omega)]
  · rw [if_neg hd]
    by_cases ht : t < n
    · simp only [ht, decide_true, sel_true]
      rw [if_neg (by omega)]
    · simp only [ht, decide_false, sel_false, findLoc_cons]
      by_cases h : d = t
      · simp [h]
      · have : ¬ t = d := fun e => h e.symm
        simp [h, this]
theorem Fr.get_put_none (n : Nat) (fr : Fr) (v : Value) (t : Nat) : (fr.put n none v).get n t = fr.get n t := rfl
theorem Fr.get_put_other (n : Nat) (fr : Fr) {dst : Option Tmp} (v : Value) {t : Nat} (h : dst ≠ some t) : (fr.put n dst v).get n t = fr.get n t := by
  cases dst with
  | none => rfl
  | some d => rw [Fr.get_put_some, if_neg]; rintro rfl; exact h rfl
theorem Fr.get_more (n : Nat) (fr : Fr) (d : Option (FuncId × List Value)) (t : Nat) : (fr.more d).get n t = fr.get n t := rfl
theorem Fr.defers_put (n : Nat) (fr : Fr) (dst : Option Tmp) (v : Value) : (fr.put n dst v).defers = fr.defers := by
  cases dst with
  | none => rfl
  | some d =>
    show (sel (ltN d n) _ _ : Fr).defers = _
    rw [sel_eq]; split <;> rfl

/-! ### deferred calls -/
def MarkOk (ρ : Ren) (s : St) (w : World) (r : Nat) : Prop := r < w.heap.size ∧ ¬ Owned ρ s r ∧ w.heap[r]? = some (.deferred (some []))

inductive DefR (ρ : Ren) (s : St) (w : World) : List (FuncId × List Value) → List Deferred → Prop
  | nil : DefR ρ s w [] []
  | cons {f : FuncId} {args first captured : List Value} {d : Deferred} {l : List (FuncId × List Value)} {ds : List Deferred} (ht : d.target = .fn (.func f) ⟨captured⟩) (ha : d.args = ⟨first⟩)
      (hv : VRs ρ args (first ++ captured)) (h : DefR ρ s w l ds) : DefR ρ s w ((f, args) :: l) (d :: ds)
  | mark {r : Nat} {l : List (FuncId × List Value)} {ds : List Deferred} (hm : MarkOk ρ s w r) (hlt : ∀ d ∈ ds, ∀ q, d.target = .collected q → q < r) (h : DefR ρ s w l ds) : DefR ρ s w l ({ target := .collected r, args := #[] } :: ds)

theorem MarkOk.goes {r : Nat} (h : Goes P base ρ s w ρ' s' w') (hm : MarkOk ρ s w r) : MarkOk ρ' s' w' r := by
  obtain ⟨h1, h2, h3⟩ := hm
  refine ⟨Nat.lt_of_lt_of_le h1 h.grow, fun ho => ?_, by rw [h.frame r h1 h2]; exact h3⟩
  rcases h.own r ho with h4 | h4
  · exact h2 h4
  · omega

theorem DefR.goes {l : List (FuncId × List Value)} {ds : List Deferred} (h : Goes P base ρ s w ρ' s' w') (hd : DefR ρ s w l ds) : DefR ρ' s' w' l ds := by
  induction hd with
  | nil => exact .nil
  | cons ht ha hv _ ih => exact .cons ht ha (hv.mono h.le) ih
  | mark hm hlt _ ih => exact .mark (hm.goes h) hlt ih

theorem DefR.more {l : List (FuncId × List Value)} {ds nd : List Deferred} {df : Option (FuncId × List Value)} (hd : DefR ρ s w l ds) (hn : NewDef ρ df nd) : DefR ρ s w (moreL df l) (nd ++ ds) := by
  cases hn with
  | none => exact hd
  | some ht ha hv => exact .cons ht ha hv hd

/-- the marks among an activation's deferred calls: from a block on; or none -/
def MarksGe (mk : Option Nat) (a : Act) : Prop := ∀ d ∈ a.defers, ∀ r, d.target = .collected r → ∃ k, mk = some k ∧ k ≤ r

structure FrR (mk : Option Nat) (n nt : Nat) (ρ : Ren) (s : St) (w : World) (fr : Fr) (a : Act) : Prop where
  size : nt ≤ a.tmps.size
  tmps : ∀ t v, fr.get n t = some v → VR ρ v (a.tmps.getD t undef)
  defers : DefR ρ s w fr.defers a.defers
  nomark : MarksGe mk a

theorem FrR.goes {mk : Option Nat} {n nt : Nat} {fr : Fr} {a : Act} (h : Goes P base ρ s w ρ' s' w') (hf : FrR mk n nt ρ s w fr a) : FrR mk n nt ρ' s' w' fr a :=
  ⟨hf.size, fun t v ht => (hf.tmps t v ht).mono h.le, hf.defers.goes h, hf.nomark⟩

theorem getD_put (a : Act) (dst : Option Tmp) (c : Value) (t : Nat) : (a.put dst c).tmps.getD t undef = if dst = some t ∧ t < a.tmps.size then c else a.tmps.getD t undef := by
  cases dst with
  | none => simp [Act.put]
  | some d =>
    show (a.tmps.setIfInBounds d c).getD t undef = _
    simp only [Array.getD_eq_getD_getElem?, Array.getElem?_setIfInBounds]
    by_cases h : d = t
    · subst h
      by_cases hl : d < a.tmps.size
      · simp [hl]
      · simp [hl]
    · simp [h]
theorem size_put (a : Act) (dst : Option Tmp) (c : Value) : (a.put dst c).tmps.size = a.tmps.size := by
  cases dst with
  | none => rfl
  | some d => simp [Act.put]
theorem defers_put (a : Act) (dst : Option Tmp) (c : Value) : (a.put dst c).defers = a.defers := by cases dst <;> rfl

theorem FrR.put {mk : Option Nat} {n nt : Nat} {fr : Fr} {a : Act} {dst : Option Tmp} {v c : Value} {df : Option (FuncId × List Value)} {ds : List Deferred} (hf : FrR mk n nt ρ s w fr a) (hd : dstOk nt dst = true) (hv : VR ρ v c) (hn : NewDef ρ df ds) :
    FrR mk n nt ρ s w ((fr.more df).put n dst v) (({ tmps := a.tmps, defers := ds ++ a.defers } : Act).put dst c) := by
  refine ⟨?_, ?_, ?_, ?_⟩
  · rw [size_put]; exact hf.size
  · intro t u ht
    rw [getD_put]
    cases dst with
    | none => simpa using hf.tmps t u ht
    | some d =>
      rw [Fr.get_put_some] at ht
      have hd := ltN_some hd
      by_cases h : t = d
      · subst h
        rw [if_pos rfl] at ht
        cases ht
        have : t < a.tmps.size := Nat.lt_of_lt_of_le hd hf.size
        simpa [this] using hv
      · rw [if_neg h] at ht
        have : ¬ (some d = some t ∧ t < a.tmps.size) := by rintro ⟨h1, _⟩; exact h (Option.some.inj h1).symm
        rw [if_neg (by simpa using this)]
        exact hf.tmps t u ht
  · rw [defers_put, Fr.defers_put]
    exact hf.defers.more hn
  · intro d hd r hr
    rw [defers_put] at hd
    rcases List.mem_append.1 hd with hd | hd
    · exact absurd hr (hn.fn d hd r)
    · exact hf.nomark d hd r hr

theorem eta_defers (a : Act) : ({ tmps := a.tmps, defers := [] ++ a.defers } : Act) = a := rfl

theorem Fr.more_none (fr : Fr) : fr.more none = fr := rfl
end
end
end Go.Ax

namespace Go.Ax
open Go
noncomputable section

theorem evs_congr {ev ev' : Ev} : ∀ {l : List Operand}, (∀ x ∈ l, ev x = ev' x) → evs ev l = evs ev' l
  | [], _ => rfl
  | x :: l, h => by
    show obind (ev x) (fun v => obind (evs ev l) fun r => some (v :: r)) = obind (ev' x) (fun v => obind (evs ev' l) fun r => some (v :: r))
    rw [h x (by simp), evs_congr (l := l) fun y hy => h y (by simp [hy])]
theorem evParts_congr {ev ev' : Ev} : ∀ {l : List (Nat × Operand)}, (∀ p ∈ l, ev p.2 = ev' p.2) → evParts ev l = evParts ev' l
  | [], _ => rfl
  | x :: l, h => by
    show obind (ev x.2) (fun v => obind (evParts ev l) fun r => some ((x.1, v) :: r)) = obind (ev' x.2) (fun v => obind (evParts ev' l) fun r => some ((x.1, v) :: r))
    rw [h x (by simp), evParts_congr (l := l) fun y hy => h y (by simp [hy])]

theorem execOp_congr {C : Cfg} {ev ev' : Ev} {s : St} {o : Op} (h : ∀ x ∈ opnds o, ev x = ev' x) : execOp C ev s o = execOp C ev' s o := by
  cases o <;> try rfl
  case move x => show oMove C ev s x = oMove C ev' s x; unfold oMove; rw [h x (by simp [opnds])]
  case assign x => show oMove C ev s x = oMove C ev' s x; unfold oMove; rw [h x (by simp [opnds])]
  case pick c a b => show oPick C ev s c a b = oPick C ev' s c a b; unfold oPick oMove; rw [h c (by simp [opnds]), h a (by simp [opnds]), h b (by simp [opnds])]
  case box t x => show oBox C ev s t x = oBox C ev' s t x; unfold oBox; rw [h x (by simp [opnds])]
  case build t parts =>
    show oBuild C ev s t parts = oBuild C ev' s t parts
    unfold oBuild
    rw [evParts_congr (l := parts.toList) fun p hp => h p.2 (by simp only [opnds, mapL_eq, List.mem_map]; exact ⟨p, hp, rfl⟩)]
  case buildSlice t len parts =>
    show oBuildSlice C ev s t len parts = oBuildSlice C ev' s t len parts
    unfold oBuildSlice
    rw [evParts_congr (l := parts.toList) fun p hp => h p.2 (by simp only [opnds, mapL_eq, List.mem_map]; exact ⟨p, hp, rfl⟩)]
  case load t a => show oLoad C ev s t a = oLoad C ev' s t a; unfold oLoad withPtr; rw [h a (by simp [opnds])]
  case store t a x => show oStore C ev s t a x = oStore C ev' s t a x; unfold oStore withPtr; rw [h a (by simp [opnds]), h x (by simp [opnds])]
  case nilCheck x => show oNilCheck C ev s x = oNilCheck C ev' s x; unfold oNilCheck; rw [h x (by simp [opnds])]
  case binOp op t x y yt => show oBin C ev s op t x y = oBin C ev' s op t x y; unfold oBin; rw [h x (by simp [opnds]), h y (by simp [opnds])]
  case unOp op t x => show oUn C ev s op x = oUn C ev' s op x; unfold oUn; rw [h x (by simp [opnds])]
  case convert a b x => show oConvert C ev s a b x = oConvert C ev' s a b x; unfold oConvert; rw [h x (by simp [opnds])]
  case sliceToArrayPointer arr x => show oS2A C ev s arr x = oS2A C ev' s arr x; unfold oS2A; rw [h x (by simp [opnds])]
  case makeInterface t x => show oIface C ev s t x = oIface C ev' s t x; unfold oIface; rw [h x (by simp [opnds])]
  case makeFunc fn a b =>
    show oFunc C ev s fn a b = oFunc C ev' s fn a b
    unfold oFunc
    rw [evs_congr (l := a.toList) fun x hx => h x (by simp only [opnds, appL_eq, List.mem_append]; exact .inl hx), evs_congr (l := b.toList) fun x hx => h x (by simp only [opnds, appL_eq, List.mem_append]; exact .inr hx)]
  case makeMap t r =>
    cases r with
    | none => rfl
    | some x => show oMakeMap C ev s t (some x) = oMakeMap C ev' s t (some x); unfold oMakeMap; simp only [h x (by simp [opnds, optL])]
  case makeSlice t l c => show oMakeSlice C ev s t l c = oMakeSlice C ev' s t l c; unfold oMakeSlice; rw [h l (by simp [opnds]), h c (by simp [opnds])]
  case slice t x lo hi mx =>
    show oSlice C ev s t x lo hi mx = oSlice C ev' s t x lo hi mx
    have key : ∀ (y : Option Operand) (k : Option Value → Option Res), (∀ z, y = some z → z ∈ opnds (.slice t x lo hi mx)) → optEv ev y k = optEv ev' y k := by
      intro y k hy
      cases y with
      | none => rfl
      | some z => show obind (ev z) _ = obind (ev' z) _; rw [h z (hy z rfl)]
    unfold oSlice
    rw [h x (by simp [opnds])]
    congr 1
    funext v
    rw [key lo _ (by rintro z rfl; simp [opnds, optL])]
    congr 1
    funext v
    rw [key hi _ (by rintro z rfl; cases lo <;> simp [opnds, optL])]
    congr 1
    funext v
    rw [key mx _ (by rintro z rfl; cases lo <;> cases hi <;> simp [opnds, optL])]
  case fieldAddr t x f => show oFieldAddr C ev s t x f = oFieldAddr C ev' s t x f; unfold oFieldAddr withPtr; rw [h x (by simp [opnds])]
  case field t x f => show oField C ev s t x f = oField C ev' s t x f; unfold oField; rw [h x (by simp [opnds])]
  case indexAddr t x i => show oIndexAddr C ev s t x i = oIndexAddr C ev' s t x i; unfold oIndexAddr; rw [h x (by simp [opnds]), h i (by simp [opnds])]
  case index t x i => show oIndex C ev s t x i = oIndex C ev' s t x i; unfold oIndex; rw [h x (by simp [opnds]), h i (by simp [opnds])]
  case lookup t m k ok => show oLookup C ev s t m k ok = oLookup C ev' s t m k ok; unfold oLookup; rw [h m (by simp [opnds]), h k (by simp [opnds])]
  case mapUpdate t m k x => show oUpdate C ev s t m k x = oUpdate C ev' s t m k x; unfold oUpdate; rw [h m (by simp [opnds]), h k (by simp [opnds]), h x (by simp [opnds])]
  case insert t m k x => show oUpdate C ev s t m k x = oUpdate C ev' s t m k x; unfold oUpdate; rw [h m (by simp [opnds]), h k (by simp [opnds]), h x (by simp [opnds])]
  case mapEntry t m k => show oEntry C ev s t m k = oEntry C ev' s t m k; unfold oEntry; rw [h m (by simp [opnds]), h k (by simp [opnds])]
  case typeAssert x xt a ok => show oAssert C ev s x a ok = oAssert C ev' s x a ok; unfold oAssert; rw [h x (by simp [opnds])]
  case extract x i => show oExtract C ev s x i = oExtract C ev' s x i; unfold oExtract; rw [h x (by simp [opnds])]
  case call c =>
    show oCall C ev s c = oCall C ev' s c
    unfold oCall
    cases hc : c.callee with
    | builtin b => rw [evs_congr (l := c.args.toList) fun x hx => h x (by simp only [opnds, hc]; exact hx)]
    | value f => simp only [evs_congr (l := c.args.toList) fun x hx => h x (by simp only [opnds, hc]; exact List.mem_cons_of_mem _ hx), h f (by simp only [opnds, hc]; simp)]
    | invoke r name => simp only [evs_congr (l := c.args.toList) fun x hx => h x (by simp only [opnds, hc]; exact List.mem_cons_of_mem _ hx), h r (by simp only [opnds, hc]; simp)]
  case defer c =>
    show oDefer C ev s c = oDefer C ev' s c
    unfold oDefer
    cases hc : c.callee with
    | builtin b => rfl
    | value f => simp only [evs_congr (l := c.args.toList) fun x hx => h x (by simp only [opnds, hc]; exact List.mem_cons_of_mem _ hx), h f (by simp only [opnds, hc]; simp)]
    | invoke r name => rfl

open Classical in
def restr (l : List Operand) (ev : Ev) : Ev := fun x => if x ∈ l then ev x else none

theorem restr_some {l : List Operand} {ev : Ev} {x : Operand} {v : Value} (h : restr l ev x = some v) : x ∈ l ∧ ev x = some v := by
  unfold restr at h
  split at h
  · exact ⟨by assumption, h⟩
  · cases h
theorem execOp_restr {C : Cfg} {ev : Ev} {s : St} {o : Op} : execOp C (restr (opnds o) ev) s o = execOp C ev s o :=
  execOp_congr fun x hx => by unfold restr; rw [if_pos hx]

theorem allV_mem {f : Value → Bool} : ∀ {l : List Value}, allV f l = true → ∀ v ∈ l, f v = true
  | [], _, v, hv => by cases hv
  | a :: l, h, v, hv => by
    change sel (f a) (allV f l) false = true at h
    rw [sel_eq] at h
    split at h
    · rename_i ha
      rcases List.mem_cons.1 hv with rfl | hv
      · exact ha
      · exact allV_mem h v hv
    · cases h

theorem vrs_self {ρ : Ren} : ∀ {l : List Value}, (∀ v ∈ l, VR ρ v v) → VRs ρ l l
  | [], _ => .nil
  | _ :: _, h => .cons (h _ (by simp)) (vrs_self fun v hv => h v (by simp [hv]))

theorem pureV_vr (ρ : Ren) : ∀ (n : Nat) {v : Value}, pureV n v = true → VR ρ v v
  | 0, _, h => by cases h
  | n + 1, v, h => by
    change pureStep (pureV n) v = true at h
    cases v with
    | bool b => exact .bool b
    | int k n => exact .int k n
    | string s => exact .string s
    | pointer a => cases a with
      | none => exact .ptrNil
      | some a => cases h
    | slice a l c => cases a with
      | none => exact .sliceNil l c
      | some a => cases h
    | map a => cases a with
      | none => exact .mapNil
      | some a => cases h
    | nilFunc => exact .nilFunc
    | nilIface => exact .nilIface
    | iface t v => exact .iface t (pureV_vr ρ n h)
    | agg l => cases l with | mk l => exact .agg (vrs_self fun v hv => pureV_vr ρ n (allV_mem (show allV (pureV n) l = true from h) v hv))
    | tuple l => cases l with | mk l => exact .tuple (vrs_self fun v hv => pureV_vr ρ n (allV_mem (show allV (pureV n) l = true from h) v hv))
    | func fn a b => cases fn with
      | func f => cases a with | mk a => cases b with | mk b =>
        have h : (allV (pureV n) a && allV (pureV n) b) = true := h
        simp only [Bool.and_eq_true] at h
        exact .func (.func f) (vrs_self fun v hv => pureV_vr ρ n (allV_mem h.1 v hv)) (vrs_self fun v hv => pureV_vr ρ n (allV_mem h.2 v hv))
      | method m => cases h
      | methodOf t m => cases h
      | via t p f b => cases h
      | yield l => cases h
    | float k b => cases h
    | complex k a b => cases h
    | chan r => cases h

theorem okOpnds_mem : ∀ {l : List Operand}, okOpnds l = true → ∀ x ∈ l, okOpnd x = true
  | [], _, x, hx => by cases hx
  | a :: l, h, x, hx => by
    change sel (okOpnd a) (okOpnds l) false = true at h
    rw [sel_eq] at h
    split at h
    · rename_i ha
      rcases List.mem_cons.1 hx with rfl | hx
      · exact ha
      · exact okOpnds_mem h x hx
    · cases h

/-- An operand's value, in a frame that knows the temporaries which it names. -/
theorem opnd_vr {ρ : Ren} {n : Nat} {fr : Fr} {a : Act} {x : Operand} (hok : okOpnd x = true) (ht : ∀ t v, x = .tmp t → fr.get n t = some v → VR ρ v (a.tmps.getD t undef)) {v : Value} (hx : fr.ev n x = some v) : VR ρ v (a.eval x) := by
  cases x with
  | const c => cases hx; exact pureV_vr ρ 5 hok
  | tmp t => exact ht t v rfl hx
  | global g =>
    cases hx
    have := VR.ptr (ρ := ρ) (b := g) (o := 0) (l := ⟨g, 0, 0⟩) (Ren.at_low (ltN_some hok))
    simpa [Ax.ptr, Act.eval] using this
  | func f => cases hx; exact .func (.func f) .nil .nil

theorem evR_restr {ρ : Ren} {n : Nat} {fr : Fr} {a : Act} {l : List Operand} (hok : okOpnds l = true) (ht : ∀ t v, .tmp t ∈ l → fr.get n t = some v → VR ρ v (a.tmps.getD t undef)) : EvR ρ (restr l (fr.ev n)) a.eval := by
  intro x v hx
  obtain ⟨h1, h2⟩ := restr_some hx
  exact opnd_vr (okOpnds_mem hok x h1) (fun t v e => by subst e; exact ht t v h1) h2

/-! ### guards -/
theorem isBool_vr {ρ : Ren} {v c : Value} (h : VR ρ v c) (b : Bool) : isBool b v = true ↔ c = .bool b := by
  cases h <;> simp [isBool]

theorem wanted_eq {ρ : Ren} {n : Nat} {fr : Fr} {ops : Array Oper} {o : Oper} {a : Act} {g : Bool} (hg : guardOk n ops.toList fr o.guard = some g)
    (ht : ∀ j o' d b v, o.guard = some (j, b) → ops[j]? = some o' → o'.dst = some d → fr.get n d = some v → VR ρ v (a.tmps.getD d undef)) : Region.wanted o (yielded ops a.tmps) = g := by
  unfold Region.wanted
  cases ho : o.guard with
  | none =>
    rw [ho] at hg
    cases hg
    rfl
  | some p =>
    obtain ⟨j, b⟩ := p
    rw [ho] at hg
    obtain ⟨o', h1, hg⟩ := obind_some.1 hg
    obtain ⟨d, h2, hg⟩ := obind_some.1 hg
    obtain ⟨v, h3, hg⟩ := obind_some.1 hg
    cases hg
    rw [nth_eq] at h1
    have h1 : ops[j]? = some o' := by simpa using h1
    have hv := ht j o' d b v ho h1 h2 h3
    show (yielded ops a.tmps j == some b) = isBool b v
    have hd : o'.dst = some d := h2
    have hy : yielded ops a.tmps j = (match a.tmps[d]? with | some (.bool b) => some b | _ => none) := by
      simp only [yielded, h1, Option.bind_some, hd]
      cases a.tmps[d]? <;> rfl
    rw [Bool.eq_iff_iff, isBool_vr hv b, hy]
    rw [Array.getD_eq_getD_getElem?]
    cases hq : a.tmps[d]? with
    | none => simp [undef]
    | some c => cases c <;> simp
end
end Go.Ax

namespace Go.Ax
open Go
noncomputable section

section
variable {P : Program} {base : Nat} {ρ ρ' : Ren} {s s' : St} {w w' : World} {C : Cfg}

theorem okOpers_mem {nt : Nat} : ∀ {l : List Oper}, okOpers nt l = true → ∀ o ∈ l, okOper nt o = true
  | [], _, x, hx => by cases hx
  | a :: l, h, x, hx => by
    change sel (okOper nt a) (okOpers nt l) false = true at h
    rw [sel_eq] at h
    split at h
    · rename_i ha
      rcases List.mem_cons.1 hx with rfl | hx
      · exact ha
      · exact okOpers_mem h x hx
    · cases h

theorem okOper_some {nt : Nat} {o : Oper} (h : okOper nt o = true) : dstOk nt o.dst = true ∧ okOpnds (opnds o.op) = true := by
  unfold okOper at h
  simpa using h

/-- An operation that is not wanted. -/
theorem FrR.skip {mk : Option Nat} {n nt : Nat} {fr : Fr} {a : Act} {dst : Option Tmp} (hf : FrR mk n nt ρ s w fr a) (hd : dstOk nt dst = true) : FrR mk n nt ρ s w (fr.put n dst unit) (a.put dst undef) :=
  hf.put (df := none) (ds := []) hd (.tuple .nil) .none

theorem execOps_cons (call : CallT) (yield : YieldT) (rd : Bool) (n : Nat) (all : List Oper) (o : Oper) (rest : List Oper) (fr : Fr) (s : St) :
    execOps C call yield rd n all (o :: rest) fr s = obind (guardOk n all fr o.guard) fun g => sel g (obind (execOp C (fr.ev n) s o.op) (afterOp call yield rd n fr o.dst (execOps C call yield rd n all rest))) (execOps C call yield rd n all rest (fr.put n o.dst unit) s) := rfl

/-- THE OPERATIONS OF A REGION, IN THE TEXT'S ORDER. -/
theorem ops_wp (hK : CfgOk C P) {call : CallT} {yield : YieldT} (hc : CallOk P call) (hy : YieldOk P yield) {ro : Option Nat} {mk : Option Nat} {m n nt : Nat} {ops : Array Oper} {Q : Exit → Act → World → Prop}
    (hok : okOpers nt ops.toList = true) : ∀ (rest : List Oper) (k : Nat), ops.toList.drop k = rest → ∀ (fr : Fr) (s : St) (fr' : Fr) (s' : St) (ρ : Ren) (a : Act) (w : World),
      execOps C call yield ro.isSome n ops.toList rest fr s = some (fr', s') → HR P base ρ s w → FrR mk n nt ρ s w fr a →
      (∀ ρ' w' a', Goes P base ρ s w ρ' s' w' → FrR mk n nt ρ' s' w' fr' a' → Q .normal a' w') → wpOpsIn (Fro ro) m P ops Q (List.range' k rest.length) a w
  | [], k, _, fr, s, fr', s', ρ, a, w, h, hh, hf, hq => by
    cases h
    exact hq ρ w a (Goes.refl hh) hf
  | o :: rest, k, hd, fr, s, fr', s', ρ, a, w, h, hh, hf, hq => by
    have ho : ops[k]? = some o := by
      have : (ops.toList.drop k)[0]? = some o := by rw [hd]; rfl
      simpa using this
    have hd' : ops.toList.drop (k + 1) = rest := by
      rw [← List.drop_drop, hd]; rfl
    have hmem : o ∈ ops.toList := List.mem_of_getElem? (by simpa using ho)
    obtain ⟨hdst, hopn⟩ := okOper_some (okOpers_mem hok o hmem)
    rw [execOps_cons] at h
    obtain ⟨g, hg, h⟩ := obind_some.1 h
    have hw := wanted_eq (ρ := ρ) (a := a) hg (fun j o' d b v _ _ _ hv => hf.tmps d v hv)
    show wpOpsIn (Fro ro) m P ops Q (k :: List.range' (k + 1) rest.length) a w
    simp only [wpOpsIn, ho, hw]
    cases g with
    | false =>
      rw [sel_false] at h
      refine ⟨fun _ _ => trivial, ?_⟩
      exact ops_wp hK hc hy hok rest (k + 1) hd' _ s fr' s' ρ _ w h hh (hf.skip hdst) hq
    | true =>
      rw [sel_true] at h
      obtain ⟨r, hr, h⟩ := obind_some.1 h
      rw [afterOp_eq] at h
      obtain ⟨⟨v, s2, df⟩, ha, h⟩ := obind_some.1 h
      have he := evR_restr (ρ := ρ) (n := n) (fr := fr) (a := a) hopn (fun t v _ ht => hf.tmps t v ht)
      rw [← execOp_restr] at hr
      show o.wpIn (Fro ro) m P a w (wpOpsIn (Fro ro) m P ops Q (List.range' (k + 1) rest.length)) Q
      refine op_wp hK hc hy hh he hr ha ?_
      intro ρ' w' c ds hgo hv hn
      refine ops_wp hK hc hy hok rest (k + 1) hd' _ s2 fr' s' ρ' _ w' h hgo.hr ((hf.goes hgo).put hdst hv hn) ?_
      intro ρ'' w'' a'' hgo2 hf2
      exact hq ρ'' w'' a'' (hgo.trans hgo2) hf2
end
end
end Go.Ax

