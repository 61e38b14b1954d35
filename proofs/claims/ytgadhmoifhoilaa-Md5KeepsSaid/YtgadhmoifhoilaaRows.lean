/-
  No cell of these rows narrows 'for every input' (looked for: loops, veiled, ifaces, maps, wideKeys, modest, calm, conditions, laid).
  DERIVED. THE GIVEN ROWS OF THIS SEAT. 2 by the template 'for every input the law returns true; each argument reads behind the call as it read before'; 0 by the template 'total and deterministic' (their statements: YtgadhmoifhoilaaTotals.lean).
  GIVEN WITH THE SEED: the statements are not yours to turn. If you find one false, say at which input.
  Laid BY PROGRAM, IN A SANDBOX (cutbox-rows.mjs): the forced cells as the released guide's own fill.sh prints them over the translation c27da7d5625d285c… (all of the seat's roots in one cut). By AI agents, Wed Nov 11 2026. No macro, syntax, notation, axiom, sorry.
-/
import Derived.Test.YtgadhmoifhoilaaChecked
import GoSem.Claim
import GoSem.ClaimJoined
import GoSem.ClaimMapViews
import Derived.JoinedTies
import Derived.KernelRfl
namespace Go.Proofs.Ytgadhmoifhoilaa
/- THE CELL 'sum', in the pinned program and in every row, IS THE sha256 OF THE DUMP (.gsa) THAT YtgadhmoifhoilaaProg.lean LOADS. Nothing in Lean hashes anything: it is a label: what it is worth is what the hold of that sum in a sandbox is worth. -/
noncomputable def Try.pinned : Pinned := { name := "ytgadhmoifhoilaa", sum := "c27da7d5625d285c8f297e66a30df494bed1af2c64a4ef53105cfdc696089dcd", checked := Try.checked }
namespace Rows
def none {H : Type} : Left H := { results := [], args := [] }

/-- 'umpirelaw03.Md5Parts': WHATEVER THE INPUT: true; the input reads as it did. -/
def md5PartsSpec : ChangeSpec := { name := "md5Parts", fn := fun _ => fun
  | [d1, d2, d3] => { results := [.lit (.bool true)], args := [d1, d2, d3] }
  | _ => none }
def md5PartsRow : OpenClaim := { program := "ytgadhmoifhoilaa", sum := "c27da7d5625d285c8f297e66a30df494bed1af2c64a4ef53105cfdc696089dcd", func := "umpire/umpirelaw03.Md5Parts", spec := "md5Parts", unfollowed := true, recurses := true, apart := false }
def Md5PartsSaid : Prop := md5PartsRow.holds Try.pinned (OpenSpec.ofChange md5PartsSpec)

/-- ITS FALSE NEIGHBOUR: 'it returns false'. Refute it at one input. -/
def md5PartsWrong : ChangeSpec := { name := "md5Parts", fn := fun _ => fun
  | [d1, d2, d3] => { results := [.lit (.bool false)], args := [d1, d2, d3] }
  | _ => none }
def Md5PartsWrongFalsely : Prop := md5PartsRow.holds Try.pinned (OpenSpec.ofChange md5PartsWrong)

/-- 'umpirelaw03.Md5Keeps': WHATEVER THE INPUT: true; the input reads as it did. -/
def md5KeepsSpec : ChangeSpec := { name := "md5Keeps", fn := fun _ => fun
  | [d] => { results := [.lit (.bool true)], args := [d] }
  | _ => none }
def md5KeepsRow : OpenClaim := { program := "ytgadhmoifhoilaa", sum := "c27da7d5625d285c8f297e66a30df494bed1af2c64a4ef53105cfdc696089dcd", func := "umpire/umpirelaw03.Md5Keeps", spec := "md5Keeps", unfollowed := true, recurses := true, apart := false }
def Md5KeepsSaid : Prop := md5KeepsRow.holds Try.pinned (OpenSpec.ofChange md5KeepsSpec)

/-- ITS FALSE NEIGHBOUR: 'it returns false'. Refute it at one input. -/
def md5KeepsWrong : ChangeSpec := { name := "md5Keeps", fn := fun _ => fun
  | [d] => { results := [.lit (.bool false)], args := [d] }
  | _ => none }
def Md5KeepsWrongFalsely : Prop := md5KeepsRow.holds Try.pinned (OpenSpec.ofChange md5KeepsWrong)

/- THE SECOND FORM. 'bulk': how many values and letters a reading holds, each counted each time it is reached (what is shared counts as often as it is met; a slice's spare places count too). A statement '..UptoSaid' is the law's where the arguments, and the package variables that the reading takes, are together of bulk at most 1048576: NARROWER than '..Said'. Prove '..Said' where nothing that the law and all that it calls make is longer than what came in: it says more and counts as full. Else prove '..UptoSaid'. A law counts once. -/
mutual
def uptoBulk {H : Type} : DataW H → Nat
  | .lit (.string bytes) => bytes.length + 1
  | .lit _ => 1
  | .nil => 1
  | .ptr d => uptoBulk d + 1
  | .slice elems spare => uptoBulkAll elems + uptoBulkAll spare + 1
  | .agg parts => uptoBulkAll parts + 1
  | .iface _ d => uptoBulk d + 1
  | .map entries => uptoBulkEntries entries + 1
  | .held _ => 1
def uptoBulkAll {H : Type} : List (DataW H) → Nat
  | [] => 0
  | d :: r => uptoBulk d + uptoBulkAll r
def uptoBulkEntries {H : Type} : List (Lit × DataW H) → Nat
  | [] => 0
  | x :: r => uptoBulkEntry x + uptoBulkEntries r
def uptoBulkEntry {H : Type} : Lit × DataW H → Nat
  | (.string bytes, d) => bytes.length + uptoBulk d + 1
  | (_, d) => uptoBulk d + 1
 end
def uptoSmall : (H : Type) → List (DataW H) → Bool := fun _ ds => decide (uptoBulkAll ds ≤ 1048576)
def OpenSpec.upto (s : _root_.Go.ChangeSpec) : _root_.Go.OpenSpec := { _root_.Go.OpenSpec.ofChange s with cond := some uptoSmall }

/-- 'umpirelaw03.Md5Parts', WHERE WHAT IT READS IS OF BULK AT MOST 1048576: true; the input reads as it did. -/
def md5PartsUptoRow : OpenClaim := { program := "ytgadhmoifhoilaa", sum := "c27da7d5625d285c8f297e66a30df494bed1af2c64a4ef53105cfdc696089dcd", func := "umpire/umpirelaw03.Md5Parts", spec := "md5Parts", unfollowed := true, recurses := true, apart := false, narrowed := true }
def Md5PartsUptoSaid : Prop := md5PartsUptoRow.holds Try.pinned (OpenSpec.upto md5PartsSpec)

/-- 'umpirelaw03.Md5Keeps', WHERE WHAT IT READS IS OF BULK AT MOST 1048576: true; the input reads as it did. -/
def md5KeepsUptoRow : OpenClaim := { program := "ytgadhmoifhoilaa", sum := "c27da7d5625d285c8f297e66a30df494bed1af2c64a4ef53105cfdc696089dcd", func := "umpire/umpirelaw03.Md5Keeps", spec := "md5Keeps", unfollowed := true, recurses := true, apart := false, narrowed := true }
def Md5KeepsUptoSaid : Prop := md5KeepsUptoRow.holds Try.pinned (OpenSpec.upto md5KeepsSpec)

end Rows
end Go.Proofs.Ytgadhmoifhoilaa
