/-
  Words of the walks, out of the kit's print: those that this claim uses.
-/
import Derived.Test.YtglbaeikklkghaaWTab
namespace Go.Proofs.YtglbaeikklkghaaW.PrintLast
section
variable {P : Program} {ops : Array Oper} {Q : Exit → Act → World → Prop} {md : Region.Mode} {S : World → Prop} {ds : List Nat} {T : Bool × List (List Nat × List Nat)}
end
end Go.Proofs.YtglbaeikklkghaaW.PrintLast
