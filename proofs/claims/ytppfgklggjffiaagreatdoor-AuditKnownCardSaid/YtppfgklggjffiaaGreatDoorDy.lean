import Derived.Test.YtppfgklggjffiaaGreatDoorDw
set_option maxRecDepth 1000000
set_option maxHeartbeats 4000000
namespace Go.Ax
open Go Go.Proofs
noncomputable def TC10 : List (Nat × Row) := [(27886, .row [nI 0] 3 0), (27887, .row [nI 2, (.slice none 0 0), (.slice none 0 0), (.slice (some ⟨27886, 0, none⟩) 1 1), (.slice none 0 0)] 85 0)]
noncomputable def T10 : Tpl where
  bits := 15
  next := 27888
  args := [(.agg ⟨[nI 11, nI 0, nI 0, nI 0, nW 0, nW 0, nI 0, nI 0, nI 0, nI 0, nI 1, nI 0, nI 0, nI 0, nI 0, nB 0, nB 0, nB 0, nB 0, nB 0, nB 0, nB 0, nB 0, nB 0, nB 0, nB 0, nB 0, nB 0, nB 0, nB 0, nB 0, nB 0, nB 0, nB 0, nB 0, nB 0, nB 0, nB 0, nB 0, nB 0, nB 0, nB 0, nB 0, nB 0, nB 0, nB 0, nB 0, nW 0, nI 0, nI 0, nI 0, nB 0, nB 0, nB 0, nB 0, nB 0, nB 0, nB 0, nB 0, nB 0, nB 0, nB 0, nB 0, nB 0, nB 0, nB 0, nB 0, nB 0, nB 0, nB 0, nB 0, nB 0, nB 0, nB 0, nB 0, nB 0, nB 0, nB 0, nB 0, nB 0, nB 0, nB 0, nB 0, nW 0, nI 0, nI 0, nB 0, nB 0, nB 0, nB 0, nB 0, nB 0, nB 0, nB 0, nB 0, nB 0, nB 0, nB 0, nB 0, nB 0, nB 0, nB 0, nB 0, nB 0, nB 0, nB 0, nB 0, nB 0, nB 0, nB 0, nB 0, nB 0, nB 0, nB 0, nB 0, nB 0, nB 0, nB 0, nW 0, nI 0, nI 0, nB 0, nB 0, nB 0, nB 0, nB 0, nB 0, nB 0, nB 0, nB 0, nB 0, nB 0, nB 0, nB 0, nB 0, nB 0, nB 0, nB 0, nB 0, nB 0, nB 0, nB 0, nB 0, nB 0, nB 0, nB 0, nB 0, nB 0, nB 0, nB 0, nB 0, nB 0, nB 0, nW 0]⟩), (.agg ⟨[nI 0, nI 0, nI 0, nI 0, nW 0, nW 0, nI 0, nI 0, nI 0, nI 0, nW 0, nW 0, (.slice (some ⟨27887, 0, none⟩) 1 1), nI 0, nI 0, nI 0, nI 0, nB 0, nB 0, nB 0, nB 0, nB 0, nB 0, nB 0, nB 0, nB 0, nB 0, nB 0, nB 0, nB 0, nB 0, nB 0, nB 0, nB 0, nB 0, nB 0, nB 0, nB 0, nB 0, nB 0, nB 0, nB 0, nB 0, nB 0, nB 0, nB 0, nB 0, nB 0, nB 0, nW 0, nI 0, nI 0, nB 0, nB 0, nB 0, nB 0, nB 0, nB 0, nB 0, nB 0, nB 0, nB 0, nB 0, nB 0, nB 0, nB 0, nB 0, nB 0, nB 0, nB 0, nB 0, nB 0, nB 0, nB 0, nB 0, nB 0, nB 0, nB 0, nB 0, nB 0, nB 0, nB 0, nB 0, nB 0, nW 0, nI 0, nI 0, nI 0, nI 0, nI 0, nW 0, nW 0, nW 0, nI 0, (.slice none 0 0), (.slice none 0 0), nW 0, nW 0, nW 0, nW 0, nW 0, nI 0, nI 0]⟩)]
  pre := appL TC10 []
  fpre := []
  val := (nI 8)
  post := appL TC10 []
  fpost := []
  next' := 32655
theorem fine10 : T10.fine = true := by kernel_rfl
theorem trun10 (t : Nat → TypeId) : tplOk T10 ((jRunN CX1 200).1 14 T10.args (T10.start lows t)) = true := by kernel_rfl
theorem good10 : TplGood Tryz.prog lows 14 T10 := ⟨fine10, CX1, 200, cx1_ok, trun10⟩
end Go.Ax

set_option maxRecDepth 1000000
set_option maxHeartbeats 4000000
namespace Go.Ax
open Go Go.Proofs
noncomputable def TC14 : List (Nat × Row) := []
noncomputable def T14 : Tpl where
  bits := 16
  next := 37454
  args := []
  pre := appL TC14 []
  fpre := []
  val := (.bool true)
  post := appL TC14 []
  fpost := []
  next' := 55672
theorem fine14 : T14.fine = true := by kernel_rfl
theorem trun14 (t : Nat → TypeId) : tplOk T14 ((jRunN CX1 200).1 11 T14.args (T14.start lows t)) = true := by kernel_rfl
theorem good14 : TplGood Tryz.prog lows 11 T14 := ⟨fine14, CX1, 200, cx1_ok, trun14⟩
end Go.Ax

