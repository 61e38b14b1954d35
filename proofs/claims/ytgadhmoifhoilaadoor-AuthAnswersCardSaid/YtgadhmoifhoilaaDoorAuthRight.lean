/-
  chap.Right, umpireref17.Right as the print's words want them: functions of lists; the reference's asks that math's tables lie as laid.
-/
import Derived.Test.YtgadhmoifhoilaaDoorChapRight
import Derived.Test.YtgadhmoifhoilaaDoorAuthChap
namespace Go.Proofs.YtgadhmoifhoilaaDoor.Chap
open Go.RowKit Go.Lib Go.Proofs.YtgadhmoifhoilaaDoorW.PrintWords Go.Proofs.YtgadhmoifhoilaaDoorW.PrintLast Go.Proofs.YtgadhmoifhoilaaDoorW.PrintMore Go.Proofs.YtgadhmoifhoilaaDoor.Kit Go.Proofs.YtgadhmoifhoilaaDoor.Md5
set_option linter.unusedVariables false
structure LaidW (w : World) : Prop where
 l : Laid w
 s : 3 ≤ w.heap.size
theorem LaidW.below {w W : World} (h : LaidW w) (hb : Below w.heap.size w W) : LaidW W := ⟨h.l.below hb h.s, Nat.le_trans h.s hb.size⟩
end Go.Proofs.YtgadhmoifhoilaaDoor.Chap
