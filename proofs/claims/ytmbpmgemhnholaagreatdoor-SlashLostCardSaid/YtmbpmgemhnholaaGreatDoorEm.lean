import Derived.Test.YtmbpmgemhnholaaGreatDoorCards
import Derived.ProofKit
import Derived.OpenShut
import Derived.LaidHandle
import Derived.ChangeMaps5
import Derived.Deep.DeepHandedRow
import Derived.Test.YtmbpmgemhnholaaGreatDoorDa
import Derived.Test.YtmbpmgemhnholaaGreatDoorEc
import Derived.Test.YtmbpmgemhnholaaGreatDoorEk
import Derived.Test.YtmbpmgemhnholaaGreatDoorEl
set_option maxRecDepth 1000000
namespace Go.Proofs.YtmbpmgemhnholaaGreatDoor
open Go.ChangeShapes Go.WideShapes Go.ChangeAt Go.RowKit Go.Ax
namespace SlashLost
theorem ksL0 : leafKs Tryz.prog 5 32 = some ksSen := by kernel_rfl
theorem rd0 : Tryz.prog.readableRec 32 = true := by kernel_rfl
theorem lt0 : 32 < Tryz.prog.types.size := by rw [size_ok]; decide
theorem ksL1 : leafKs Tryz.prog 5 34 = some ksSta := by kernel_rfl
theorem rd1 : Tryz.prog.readableRec 34 = true := by kernel_rfl
theorem lt1 : 34 < Tryz.prog.types.size := by rw [size_ok]; decide
theorem ksL2 : leafKs Tryz.prog 1 3 = some [.int .i64] := by kernel_rfl
theorem rd2 : Tryz.prog.readableRec 3 = true := by kernel_rfl
theorem lt2 : 3 < Tryz.prog.types.size := by rw [size_ok]; decide
theorem ksL3 : leafKs Tryz.prog 1 24 = some [.int .u64] := by kernel_rfl
theorem rd3 : Tryz.prog.readableRec 24 = true := by kernel_rfl
theorem lt3 : 24 < Tryz.prog.types.size := by rw [size_ok]; decide
set_option maxRecDepth 100000 in
theorem contract (H : Type) (enc : TypeId × Value → H) (W : World) (base : Nat) (args : Array Value) (ds gs : List (DataW H)) (before : List MemPlace)
    (hval : ∀ (j : Nat) t v, Tryz.f3.params[j]? = some t → args[j]? = some v → Value.okWide Tryz.prog W .any base t v)
    (hW : DataW.Whole enc Tryz.prog Tryz.f3.params.toList Rows.slashLostSpec.vars false W args.toList ds gs before) (hL : laidMetH Tryz.prog [("errors.errorType", Rows.laid_errors_errorType)] W) :
    Calls Tryz.prog 3 args W fun e W' => ∃ v, e = .returned v ∧ Rows.slashLostSpec.post enc Tryz.prog Tryz.f3 false true false false W args v W' := by
  have hW' := hW
  obtain ⟨p, q, hA0, hV, rfl, hfz, hnd⟩ := hW
  have hA : DataW.TrodAll enc Tryz.prog W 0 (fun _ => true) true Tryz.f3.params.toList args.toList ds p := hA0
  rw [Tryz.params3] at hA hval
  obtain ⟨v0, vs, d0, ds0, p0, q0, e1, rfl, rfl, h0, hA⟩ := trodAll_cons hA
  obtain ⟨v1, vs1, d1, ds1, p1, q1, rfl, rfl, rfl, h1, hA⟩ := trodAll_cons hA
  obtain ⟨v2, vs2, d2, ds2, p2, q2, rfl, rfl, rfl, h2, hA⟩ := trodAll_cons hA
  obtain ⟨v3, vs3, d3, ds3, p3, q3, rfl, rfl, rfl, h3, hA⟩ := trodAll_cons hA
  obtain ⟨rfl, rfl, rfl⟩ := trodAll_nil hA
  obtain rfl : args = #[v0, v1, v2, v3] := by rw [← e1]
  obtain ⟨rfl, rfl⟩ := trodVars_none hV
  have hlt : ∀ x ∈ p0 ++ (p1 ++ (p2 ++ (p3 ++ []))), x.block < W.heap.size := fun x hx => by
    have := hW'.lt x (by simpa using hx)
    simpa using this
  have key : Calls Tryz.prog 3 #[v0, v1, v2, v3] W fun e w' => e = .returned (.bool true) ∧ RowKit.Below W.heap.size W w' := by
    obtain ⟨m2, e2, _⟩ := open_int Tryz.underlying3 (hval 2 3 v2 rfl rfl) h2
    obtain ⟨m3, e3, _⟩ := open_int Tryz.underlying24 (hval 3 24 v3 rfl rfl) h3
    obtain ⟨t, rfl, _⟩ := arg_leaf1 ksL2 h2 ⟨m2, e2⟩
    obtain ⟨k, rfl, hk⟩ := arg_leaf1 ksL3 h3 ⟨m3, e3⟩
    obtain ⟨cs, rfl, hc⟩ := arg_leaf ksL0 (by decide) h0
    obtain ⟨ds, rfl, hd⟩ := arg_leaf ksL1 (by decide) h1
    exact Go.Ax.slash_calls hc hd t k hk (laid_of_met hL)
  refine key.mono fun e W' ⟨he, hb⟩ => ?_
  subst he
  exact ⟨_, rfl, post_of_below (pa := p0 ++ (p1 ++ (p2 ++ (p3 ++ [])))) (pv := []) hW' (fun _ _ _ => trodAll_cons_mk (shut_bool Tryz.underlying4 _) trodAll_mk0)
    (fun sp hsp => (trodAll_cons_mk (WideElems.Trod_stays laidOut rd0 lt0 h0 (fun x hx => hb.same (hlt x (by simp [hx]))) (fun x hx => hsp x (by simp [hx]))) (trodAll_cons_mk (WideElems.Trod_stays laidOut rd1 lt1 h1 (fun x hx => hb.same (hlt x (by simp [hx]))) (fun x hx => hsp x (by simp [hx]))) (trodAll_cons_mk (WideElems.Trod_stays laidOut rd2 lt2 h2 (fun x hx => hb.same (hlt x (by simp [hx]))) (fun x hx => hsp x (by simp [hx]))) (trodAll_cons_mk (WideElems.Trod_stays laidOut rd3 lt3 h3 (fun x hx => hb.same (hlt x (by simp [hx]))) (fun x hx => hsp x (by simp [hx]))) trodAll_mk0))))) (fun _ _ => rfl) rfl
    hb (ok_one (by kernel_rfl) rfl (okWide_bool_mk Tryz.underlying4 _))⟩
noncomputable def w0 : Array Value := #[.agg #[.int .i64 0, .int .i64 0, .int .i64 0, .int .u64 0, .int .u64 0, .int .u64 0, .int .i64 0, .slice none 0 0, .slice none 0 0, .int .u64 0, .int .u64 0, .int .u64 0, .int .u64 0, .int .u64 0, .int .i64 0, .int .i64 0], .agg #[.int .i64 0, .int .i64 0, .int .i64 0, .int .i64 0], .int .i64 0, .int .u64 0]
theorem reads (os : Os) {H : Type} (enc : TypeId × Value → H) : DataW.whole enc Tryz.prog ((laidWorld os).forCall (fun _ _ => 0) ⟨#[], w0, []⟩).memory Tryz.f3.params.toList Rows.slashLostSpec.vars false w0.toList 8 = some ([.agg [.agg [.lit (.int .i64 0), .lit (.int .i64 0), .lit (.int .i64 0)], .agg [.lit (.int .u64 0), .lit (.int .u64 0), .lit (.int .u64 0)], .lit (.int .i64 0), .agg [.nil, .nil, .lit (.int .u64 0), .lit (.int .u64 0), .lit (.int .u64 0), .lit (.int .u64 0)], .lit (.int .u64 0), .lit (.int .i64 0), .lit (.int .i64 0)], .agg [.lit (.int .i64 0), .lit (.int .i64 0), .lit (.int .i64 0), .lit (.int .i64 0)], .lit (.int .i64 0), .lit (.int .u64 0)], [], []) := by kernel_rfl
set_option maxRecDepth 100000 in
theorem lifted (os : Os) (started : os.Started) (H : Type) (enc : TypeId × Value → H) (F : Stop.Interp) :
    ReturnsInHanded {} Tryz.checked os 3 .any ((OpenSpec.ofChange Rows.slashLostSpec).preRow enc Tryz.prog Tryz.f3 Rows.slashLostRow.domain false Rows.slashLostRow.laid) (((OpenSpec.ofChange Rows.slashLostSpec).at F).post enc Tryz.prog Tryz.f3 false true false false) := by
  refine returnsInHanded_of_row (C := Tryz.checked) (s := OpenSpec.ofChange Rows.slashLostSpec) own started (by kernel_rfl) Tryz.func3
    (witness_row_at (enc := enc) (C := Tryz.checked) false (laidWorld os) w0 rfl (by kernel_rfl) (by kernel_rfl) (by kernel_rfl)
      (OpenSpec.preRow_of_cond 8 (reads os enc) (by kernel_rfl) (fun k hk => by cases hk) (by kernel_rfl) (laid_met os _))) ?_
  intro W base args ds gs before hval hW _ _ _ hL _ _
  exact contract H enc W base args ds gs before hval hW hL
end SlashLost
end Go.Proofs.YtmbpmgemhnholaaGreatDoor

