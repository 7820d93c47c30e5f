import Derived.Test.YtcjdpbcgmdhjfaaGreatDoorDi
import Derived.Test.YtcjdpbcgmdhjfaaGreatDoorDl
import Derived.Test.YtcjdpbcgmdhjfaaGreatDoorCards
import Derived.Test.YtcjdpbcgmdhjfaaGreatDoorTie
import Derived.ProofKit
import Derived.OpenShut
import Derived.LaidHandle
import Derived.Deep.DeepHandedRow
import Derived.Test.YtcjdpbcgmdhjfaaGreatDoorDk
import Derived.Test.YtcjdpbcgmdhjfaaGreatDoorDm
namespace Go.Proofs.YtcjdpbcgmdhjfaaGreatDoor
open Go.ChangeShapes Go.WideShapes Go.ChangeAt Go.RowKit

theorem et : Tryz.prog.globalNamed "errors.errorType" = some 0 := by kernel_rfl
theorem rt : (Tryz.prog.cutTypes.find? (·.1 == "internal/reflectlite.rtype")).map (·.2) = some 420 := by kernel_rfl
theorem oneRow : ((List.range Tryz.prog.types.size).filter fun t => Tryz.prog.rowNamed t [101, 114, 114, 111, 114]) = [119] := by kernel_rfl
theorem hdl119 : typeHandle Tryz.prog 119 = Go.Ax.hdl Tryz.prog 119 := by kernel_rfl

/-- What the row's list gives a run: the variable's cell. -/
theorem laid_of_met {W : World} (h : laidMetH Tryz.prog [("errors.errorType", Rows.laid_errors_errorType)] W) : Go.Ax.Laid W := by
  have h' : laidMet Tryz.prog [] W ∧ handlesMet Tryz.prog [("errors.errorType", Rows.laid_errors_errorType)] W := h
  obtain ⟨name, u, ty, e1, e2, e3, e4, e5⟩ := h'.2 _ (List.mem_singleton.2 rfl)
  have en : name = [101, 114, 114, 111, 114] := (Option.some.inj e1).symm
  subst en
  obtain rfl := Option.some.inj (rt.symm.trans e2)
  have hm : ty ∈ (List.range Tryz.prog.types.size).filter fun t => Tryz.prog.rowNamed t [101, 114, 114, 111, 114] := List.mem_filter.2 ⟨List.mem_range.2 e3, e4⟩
  rw [oneRow] at hm
  obtain rfl := List.mem_singleton.1 hm
  rw [hdl119] at e5
  simp only [World.var?, et, Option.bind_some] at e5
  split at e5
  · rename_i cs t fz hc
    have e5 := Option.some.inj e5
    subst e5
    exact ⟨t, fz, hc⟩
  · cases e5
end Go.Proofs.YtcjdpbcgmdhjfaaGreatDoor

namespace Go.Proofs.YtcjdpbcgmdhjfaaGreatDoor
open Go.ChangeShapes Go.WideShapes Go.ChangeAt Go.RowKit Go.Ax

namespace StakeNone
theorem ks57 : intKs Tryz.prog 3 57 = some [.i64, .i64, .i64, .i64, .u64, .u64, .i64, .i64, .i64, .i64] := by kernel_rfl

set_option maxRecDepth 100000 in
theorem contract (H : Type) (enc : TypeId × Value → H) (W : World) (args : Array Value) (ds gs : List (DataW H)) (before : List MemPlace)
    (hW : DataW.Whole enc Tryz.prog Tryz.f4.params.toList Rows.stakeNoneSpec.vars false W args.toList ds gs before) (hL : laidMetH Tryz.prog [("errors.errorType", Rows.laid_errors_errorType)] W) :
    Calls Tryz.prog 4 args W fun e W' => ∃ v, e = .returned v ∧ Rows.stakeNoneSpec.post enc Tryz.prog Tryz.f4 false true false false W args v W' := by
  have hW' := hW
  obtain ⟨p, q, hA0, hV, rfl, hfz, hnd⟩ := hW
  have hA : DataW.TrodAll enc Tryz.prog W 0 (fun _ => true) true Tryz.f4.params.toList args.toList ds p := hA0
  rw [Tryz.params4] at hA
  obtain ⟨v0, vs, d0, ds0, p0, q0, e1, rfl, rfl, h0, hA⟩ := trodAll_cons hA
  obtain ⟨rfl, rfl, rfl⟩ := trodAll_nil hA
  obtain rfl : args = #[v0] := by rw [← e1]
  obtain ⟨ns, rfl, hl⟩ := arg_ints ks57 (by decide) h0
  match ns, hl with
  | [n0, n1, n2, n3, n4, n5, n6, n7, n8, n9], _ =>
    obtain ⟨rfl, rfl⟩ := trodVars_none hV
    refine (Go.Ax.calls4 n0 n1 n2 n3 n4 n5 n6 n7 n8 n9 (laid_of_met hL)).mono fun e W' ⟨he, hb⟩ => ?_
    subst he
    exact ⟨_, rfl, post_of_below (pa := p0 ++ []) (pv := []) hW' (fun _ _ _ => trodAll_cons_mk (shut_bool Tryz.underlying4 _) trodAll_mk0)
      (fun _ _ => trodAll_cons_mk (Trod_flat ks57 h0) trodAll_mk0) (fun _ _ => rfl) rfl
      hb (ok_one (by kernel_rfl) rfl (okWide_bool_mk Tryz.underlying4 _))⟩

noncomputable def w0 : Array Value := #[.agg #[.int .i64 0, .int .i64 0, .int .i64 0, .int .i64 0, .int .u64 0, .int .u64 0, .int .i64 0, .int .i64 0, .int .i64 0, .int .i64 0]]

theorem reads (os : Os) {H : Type} (enc : TypeId × Value → H) : DataW.whole enc Tryz.prog ((laidWorld os).forCall (fun _ _ => 0) ⟨#[], w0, []⟩).memory Tryz.f4.params.toList Rows.stakeNoneSpec.vars false w0.toList 8 = some ([.agg [.lit (.int .i64 0), .lit (.int .i64 0), .lit (.int .i64 0), .lit (.int .i64 0), .lit (.int .u64 0), .lit (.int .u64 0), .agg [.lit (.int .i64 0), .lit (.int .i64 0), .lit (.int .i64 0), .lit (.int .i64 0)]]], [], []) := by kernel_rfl

set_option maxRecDepth 100000 in
theorem lifted (os : Os) (started : os.Started) (H : Type) (enc : TypeId × Value → H) (F : Stop.Interp) :
    ReturnsInHanded {} Tryz.checked os 4 .any ((OpenSpec.ofChange Rows.stakeNoneSpec).preRow enc Tryz.prog Tryz.f4 Rows.stakeNoneRow.domain false Rows.stakeNoneRow.laid) (((OpenSpec.ofChange Rows.stakeNoneSpec).at F).post enc Tryz.prog Tryz.f4 false true false false) := by
  refine returnsInHanded_of_row (C := Tryz.checked) (s := OpenSpec.ofChange Rows.stakeNoneSpec) own started (by kernel_rfl) Tryz.func4
    (witness_row_at (enc := enc) (C := Tryz.checked) false (laidWorld os) w0 rfl (by kernel_rfl) (by kernel_rfl) (by kernel_rfl)
      (OpenSpec.preRow_of_cond 8 (reads os enc) (by kernel_rfl) (fun k hk => by cases hk) (by kernel_rfl) (laid_met os _))) ?_
  intro W base args ds gs before _ hW _ _ _ hL _ _
  exact contract H enc W args ds gs before hW hL
end StakeNone
end Go.Proofs.YtcjdpbcgmdhjfaaGreatDoor

namespace Go.Proofs.YtcjdpbcgmdhjfaaGreatDoor
open Go.ChangeShapes Go.WideShapes Go.ChangeAt Go.RowKit
namespace StakeNone
theorem said : Rows.StakeNoneSaid :=
  OpenClaim.holds_of_cond 4 Tryz.f4 rfl rfl rfl rfl rfl rfl rfl ⟨rfl, rfl, rfl, rfl, rfl⟩ rfl rfl rfl rfl rfl (by kernel_rfl) Tryz.func4 closed
    (of_decide_eq_true (by kernel_rfl)) (by unfold Func.isWrapper; first | (rw [if_pos (by decide +kernel)]; kernel_rfl) | (rw [if_neg (by decide +kernel)]; exact ⟨rfl, rfl⟩))
    (fun os started H enc _ F => by rw [OpenClaim.pre_eq_preRow]; exact lifted os started H enc F)

end StakeNone
end Go.Proofs.YtcjdpbcgmdhjfaaGreatDoor

