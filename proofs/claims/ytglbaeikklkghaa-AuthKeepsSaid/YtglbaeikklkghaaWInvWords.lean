/-
  Words of the walks, out of the kit's print: those that this claim uses.
-/
import Derived.Test.YtglbaeikklkghaaWInv
import Derived.Test.YtglbaeikklkghaaWFootNe
namespace Go.Proofs.YtglbaeikklkghaaW.PrintWords
open Go.RowKit
end Go.Proofs.YtglbaeikklkghaaW.PrintWords
namespace Go.Proofs.YtglbaeikklkghaaW.PrintLast
section
variable {ops : Array Oper} {a : Act} {o og : Oper} {g : Nat} {t : Tmp} {u : Bool}
end
end Go.Proofs.YtglbaeikklkghaaW.PrintLast
