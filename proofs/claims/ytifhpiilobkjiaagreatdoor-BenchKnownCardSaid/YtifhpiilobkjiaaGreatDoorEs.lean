import Derived.Test.YtifhpiilobkjiaaGreatDoorRows
import Derived.LaidByTextLater
import Derived.SevenTiedAt
import Derived.Test.YtifhpiilobkjiaaGreatDoorEk
import Derived.Test.YtifhpiilobkjiaaGreatDoorEl
import Derived.Test.YtifhpiilobkjiaaGreatDoorEm
import Derived.Test.YtifhpiilobkjiaaGreatDoorEn
import Derived.Test.YtifhpiilobkjiaaGreatDoorEo
import Derived.Test.YtifhpiilobkjiaaGreatDoorEp
import Derived.Test.YtifhpiilobkjiaaGreatDoorEq
import Derived.Test.YtifhpiilobkjiaaGreatDoorEr
import Derived.KernelRfl
set_option maxRecDepth 1000000
namespace Go.Proofs.YtifhpiilobkjiaaGreatDoor
open Go
theorem tie : Tryz.prog.laidByTextLater [("internal/strconv.uint64pow10", Rows.laid_internal_strconv_uint64pow10), ("math/bits.deBruijn32tab", Rows.laid_math_bits_deBruijn32tab), ("math/bits.deBruijn64tab", Rows.laid_math_bits_deBruijn64tab), ("unicode/utf8.acceptRanges", Rows.laid_unicode_utf8_acceptRanges), ("errors.errorType", Rows.laid_errors_errorType), ("strconv.ErrSyntax", Rows.laid_strconv_ErrSyntax), ("strconv.ErrRange", Rows.laid_strconv_ErrRange)] [.data, .data, .data, .data, .handle, .sentinel, .sentinel] true :=
  Program.laidByTextLater_by_run_h 400 8 tw1 tw2 tw3 tk tg tn td th1 th2 th3
theorem benchKnown_row_tie : Rows.benchKnownRow.laidByTextAt .later Tryz.pinned [.data, .data, .data, .pinned, .data, .handle, .sentinel, .sentinel] true :=
  OpenClaim.laidByTextAt_pinned rfl rfl tie rfl rfl rfl rfl (fun y hy _e => by
    simp only [Rows.benchKnownRow, List.zip_cons_cons, List.zip_nil_right, List.mem_cons, List.mem_nil_iff, or_false] at hy
    rcases hy with rfl | rfl | rfl | rfl | rfl | rfl | rfl | rfl
    · cases _e
    · cases _e
    · cases _e
    · exact ⟨pin0, by kernel_rfl⟩
    · cases _e
    · cases _e
    · cases _e
    · cases _e) fits1
end Go.Proofs.YtifhpiilobkjiaaGreatDoor

