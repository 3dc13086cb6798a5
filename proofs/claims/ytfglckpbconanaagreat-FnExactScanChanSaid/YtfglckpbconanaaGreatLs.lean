/- What is proved here: three facts of the program's form that each row of the seat needs; no condition. -/
import Derived.Test.YtfglckpbconanaaGreatRows
import Derived.JoinedOf
import Derived.KernelRfl
namespace Go.Proofs.YtfglckpbconanaaGreat
theorem seatMayEnter : Tryz.prog.mayEnter = true := by kernel_rfl
theorem seatLifts : (Rows.fnExactScanChanRow.lifted == Tryz.prog.liftsFinal) = true := by kernel_rfl
theorem seatMake : (Tryz.prog.make == some Rows.fnExactScanChanRow.make) = true := by kernel_rfl
end Go.Proofs.YtfglckpbconanaaGreat
