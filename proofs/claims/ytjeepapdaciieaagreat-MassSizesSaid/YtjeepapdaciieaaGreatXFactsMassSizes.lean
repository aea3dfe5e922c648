-- written by a program of this session (wip/gp) over the kit's print
import Derived.Test.YtjeepapdaciieaaGreatRows
import Derived.WalkKit
import Derived.ProofKit
import Derived.JoinedOf
namespace Go.Proofs.YtjeepapdaciieaaGreat.massSizes
open Go.ChangeShapes Go.WideShapes Go.ChangeAt Go.RowKit
theorem fact_named : Tryz.pinned.checked.prog.funcNamed Rows.massSizesRow.func = some 4 := by kernel_rfl
theorem fact_closed : joinedFacts Tryz.pinned.checked.prog 4 Tryz.f4 Rows.massSizesSpec Rows.massSizesRow = true := by kernel_rfl
theorem fact_instance : Tryz.f4.isInstance Tryz.pinned.checked.prog Rows.massSizesRow.origin Rows.massSizesRow.targs := of_decide_eq_true (by kernel_rfl)
theorem fact_wrapper : Tryz.f4.isWrapper Tryz.pinned.checked.prog Rows.massSizesRow.wrapper Rows.massSizesRow.mainSum := (by unfold Func.isWrapper; first | (rw [if_pos (by decide +kernel)]; kernel_rfl) | (rw [if_neg (by decide +kernel)]; exact ⟨rfl, rfl⟩))
end Go.Proofs.YtjeepapdaciieaaGreat.massSizes
