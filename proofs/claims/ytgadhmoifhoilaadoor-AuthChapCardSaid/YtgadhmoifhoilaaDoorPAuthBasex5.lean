/-
  A part of the proof.
-/
import Derived.Test.YtgadhmoifhoilaaDoorPAuthBasex0
import Derived.Test.YtgadhmoifhoilaaDoorPAuthBasex4
namespace Go.Proofs.YtgadhmoifhoilaaDoor.PAuthBase
open Go.RowKit Go.Proofs.YtgadhmoifhoilaaDoorW.PrintWords Go.Proofs.YtgadhmoifhoilaaDoorW.PrintLast Go.Proofs.YtgadhmoifhoilaaDoorW.PrintMore
attribute [local go_sem] max2_int min2_int max_two min_two max_three min_three max_four min_four   -- for this text's walks alone
set_option linter.unusedVariables false
set_option linter.unusedSimpArgs false
end Go.Proofs.YtgadhmoifhoilaaDoor.PAuthBase
