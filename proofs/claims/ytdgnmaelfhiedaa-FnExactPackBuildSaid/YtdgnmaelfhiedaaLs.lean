/- What is proved here: three facts of the program's form that each row of the seat needs; no condition. -/
import Derived.Test.YtdgnmaelfhiedaaRows
import Derived.JoinedOf
import Derived.KernelRfl
namespace Go.Proofs.Ytdgnmaelfhiedaa
theorem seatMayEnter : Try.prog.mayEnter = true := by kernel_rfl
theorem seatLifts : (Rows.fnExactTrueCellsRow.lifted == Try.prog.liftsFinal) = true := by kernel_rfl
theorem seatMake : (Try.prog.make == some Rows.fnExactTrueCellsRow.make) = true := by kernel_rfl
end Go.Proofs.Ytdgnmaelfhiedaa
