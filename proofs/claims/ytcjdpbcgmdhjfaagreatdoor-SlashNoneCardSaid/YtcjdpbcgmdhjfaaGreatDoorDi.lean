import Derived.Test.YtcjdpbcgmdhjfaaGreatDoorDh
set_option maxRecDepth 1000000
namespace Go.Ax
open Go
theorem run5 (a b c r : Int) : isTrue ((jRunN CC 200).1 5 [.agg ⟨[.int .i64 a, .int .i64 b, .int .i64 c]⟩, .int .i64 r] st0) = true := by kernel_rfl
theorem calls5 (a b c r : Int) (W : World) : Calls Go.Proofs.Tryz.prog 5 #[.agg #[.int .i64 a, .int .i64 b, .int .i64 c], .int .i64 r] W fun e w' => e = .returned (.bool true) ∧ RowKit.Below W.heap.size W w' :=
  calls_of_runA (run5 a b c r) (.cons (.agg (.cons (.int _ _) (.cons (.int _ _) (.cons (.int _ _) .nil)))) (.cons (.int _ _) .nil)) W
end Go.Ax

