/- What is proved here: three facts of the program's form that each row of the seat needs; no condition. -/
import Derived.Test.YtfglckpbconanaaRows
import Derived.JoinedOf
import Derived.KernelRfl
namespace Go.Proofs.Ytfglckpbconanaa
theorem seatMayEnter : Try.prog.mayEnter = true := by kernel_rfl
theorem seatLifts : (Rows.fnExactTestChanRow.lifted == Try.prog.liftsFinal) = true := by kernel_rfl
theorem seatMake : (Try.prog.make == some Rows.fnExactTestChanRow.make) = true := by kernel_rfl
end Go.Proofs.Ytfglckpbconanaa
