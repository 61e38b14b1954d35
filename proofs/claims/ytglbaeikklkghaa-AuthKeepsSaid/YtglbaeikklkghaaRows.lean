/-
  No cell of these rows narrows 'for every input' (looked for: loops, veiled, ifaces, maps, wideKeys, modest, calm, conditions, laid).
  DERIVED. THE GIVEN ROWS OF THIS SEAT. 9 by the template 'for every input the law returns true; each argument reads behind the call as it read before'; 0 by the template 'total and deterministic' (their statements: YtglbaeikklkghaaTotals.lean).
  GIVEN WITH THE SEED: the statements are not yours to turn. If you find one false, say at which input.
  Laid BY PROGRAM, IN A SANDBOX (cutbox-rows.mjs): the forced cells as the released guide's own fill.sh prints them over the translation 678d0867e4715f8e… (all of the seat's roots in one cut). By AI agents, Wed Nov 11 2026. No macro, syntax, notation, axiom, sorry.
-/
import Derived.Test.YtglbaeikklkghaaChecked
import GoSem.Claim
import GoSem.ClaimJoined
import GoSem.ClaimMapViews
import Derived.JoinedTies
import Derived.KernelRfl
namespace Go.Proofs.Ytglbaeikklkghaa
/- THE CELL 'sum', in the pinned program and in every row, IS THE sha256 OF THE DUMP (.gsa) THAT YtglbaeikklkghaaProg.lean LOADS. Nothing in Lean hashes anything: it is a label: what it is worth is what the hold of that sum in a sandbox is worth. -/
noncomputable def Try.pinned : Pinned := { name := "ytglbaeikklkghaa", sum := "678d0867e4715f8e0ede7cadb71f9ecb359e408cb99db88b0e67514a957f282e", checked := Try.checked }
namespace Rows
def none {H : Type} : Left H := { results := [], args := [] }

/-- 'umpirelaw16.PapPuts': WHATEVER THE INPUT: true; the input reads as it did. -/
def papPutsSpec : ChangeSpec := { name := "papPuts", fn := fun _ => fun
  | [d1, d2] => { results := [.lit (.bool true)], args := [d1, d2] }
  | _ => none }
def papPutsRow : OpenClaim := { program := "ytglbaeikklkghaa", sum := "678d0867e4715f8e0ede7cadb71f9ecb359e408cb99db88b0e67514a957f282e", func := "umpire/umpirelaw16.PapPuts", spec := "papPuts", apart := false }
def PapPutsSaid : Prop := papPutsRow.holds Try.pinned (OpenSpec.ofChange papPutsSpec)

/-- ITS FALSE NEIGHBOUR: 'it returns false'. Refute it at one input. -/
def papPutsWrong : ChangeSpec := { name := "papPuts", fn := fun _ => fun
  | [d1, d2] => { results := [.lit (.bool false)], args := [d1, d2] }
  | _ => none }
def PapPutsWrongFalsely : Prop := papPutsRow.holds Try.pinned (OpenSpec.ofChange papPutsWrong)

/-- 'umpirelaw16.PapReads': WHATEVER THE INPUT: true; the input reads as it did. -/
def papReadsSpec : ChangeSpec := { name := "papReads", fn := fun _ => fun
  | [d] => { results := [.lit (.bool true)], args := [d] }
  | _ => none }
def papReadsRow : OpenClaim := { program := "ytglbaeikklkghaa", sum := "678d0867e4715f8e0ede7cadb71f9ecb359e408cb99db88b0e67514a957f282e", func := "umpire/umpirelaw16.PapReads", spec := "papReads", apart := false }
def PapReadsSaid : Prop := papReadsRow.holds Try.pinned (OpenSpec.ofChange papReadsSpec)

/-- ITS FALSE NEIGHBOUR: 'it returns false'. Refute it at one input. -/
def papReadsWrong : ChangeSpec := { name := "papReads", fn := fun _ => fun
  | [d] => { results := [.lit (.bool false)], args := [d] }
  | _ => none }
def PapReadsWrongFalsely : Prop := papReadsRow.holds Try.pinned (OpenSpec.ofChange papReadsWrong)

/-- 'umpirelaw16.PapBack': WHATEVER THE INPUT: true; the input reads as it did. -/
def papBackSpec : ChangeSpec := { name := "papBack", fn := fun _ => fun
  | [d1, d2, d3] => { results := [.lit (.bool true)], args := [d1, d2, d3] }
  | _ => none }
def papBackRow : OpenClaim := { program := "ytglbaeikklkghaa", sum := "678d0867e4715f8e0ede7cadb71f9ecb359e408cb99db88b0e67514a957f282e", func := "umpire/umpirelaw16.PapBack", spec := "papBack", apart := false }
def PapBackSaid : Prop := papBackRow.holds Try.pinned (OpenSpec.ofChange papBackSpec)

/-- ITS FALSE NEIGHBOUR: 'it returns false'. Refute it at one input. -/
def papBackWrong : ChangeSpec := { name := "papBack", fn := fun _ => fun
  | [d1, d2, d3] => { results := [.lit (.bool false)], args := [d1, d2, d3] }
  | _ => none }
def PapBackWrongFalsely : Prop := papBackRow.holds Try.pinned (OpenSpec.ofChange papBackWrong)

/-- 'umpirelaw16.PapCuts': WHATEVER THE INPUT: true; the input reads as it did. -/
def papCutsSpec : ChangeSpec := { name := "papCuts", fn := fun _ => fun
  | [d1, d2, d3] => { results := [.lit (.bool true)], args := [d1, d2, d3] }
  | _ => none }
def papCutsRow : OpenClaim := { program := "ytglbaeikklkghaa", sum := "678d0867e4715f8e0ede7cadb71f9ecb359e408cb99db88b0e67514a957f282e", func := "umpire/umpirelaw16.PapCuts", spec := "papCuts", apart := false }
def PapCutsSaid : Prop := papCutsRow.holds Try.pinned (OpenSpec.ofChange papCutsSpec)

/-- ITS FALSE NEIGHBOUR: 'it returns false'. Refute it at one input. -/
def papCutsWrong : ChangeSpec := { name := "papCuts", fn := fun _ => fun
  | [d1, d2, d3] => { results := [.lit (.bool false)], args := [d1, d2, d3] }
  | _ => none }
def PapCutsWrongFalsely : Prop := papCutsRow.holds Try.pinned (OpenSpec.ofChange papCutsWrong)

/-- 'umpirelaw16.PapKeeps': WHATEVER THE INPUT: true; the input reads as it did. -/
def papKeepsSpec : ChangeSpec := { name := "papKeeps", fn := fun _ => fun
  | [d] => { results := [.lit (.bool true)], args := [d] }
  | _ => none }
def papKeepsRow : OpenClaim := { program := "ytglbaeikklkghaa", sum := "678d0867e4715f8e0ede7cadb71f9ecb359e408cb99db88b0e67514a957f282e", func := "umpire/umpirelaw16.PapKeeps", spec := "papKeeps", apart := false }
def PapKeepsSaid : Prop := papKeepsRow.holds Try.pinned (OpenSpec.ofChange papKeepsSpec)

/-- ITS FALSE NEIGHBOUR: 'it returns false'. Refute it at one input. -/
def papKeepsWrong : ChangeSpec := { name := "papKeeps", fn := fun _ => fun
  | [d] => { results := [.lit (.bool false)], args := [d] }
  | _ => none }
def PapKeepsWrongFalsely : Prop := papKeepsRow.holds Try.pinned (OpenSpec.ofChange papKeepsWrong)

/-- 'umpirelaw21.AuthHears': WHATEVER THE INPUT: true; the input reads as it did. -/
def authHearsSpec : ChangeSpec := { name := "authHears", fn := fun _ => fun
  | [d1, d2, d3] => { results := [.lit (.bool true)], args := [d1, d2, d3] }
  | _ => none }
def authHearsRow : OpenClaim := { program := "ytglbaeikklkghaa", sum := "678d0867e4715f8e0ede7cadb71f9ecb359e408cb99db88b0e67514a957f282e", func := "umpire/umpirelaw21.AuthHears", spec := "authHears", unfollowed := true, recurses := true, apart := false }
def AuthHearsSaid : Prop := authHearsRow.holds Try.pinned (OpenSpec.ofChange authHearsSpec)

/-- ITS FALSE NEIGHBOUR: 'it returns false'. Refute it at one input. -/
def authHearsWrong : ChangeSpec := { name := "authHears", fn := fun _ => fun
  | [d1, d2, d3] => { results := [.lit (.bool false)], args := [d1, d2, d3] }
  | _ => none }
def AuthHearsWrongFalsely : Prop := authHearsRow.holds Try.pinned (OpenSpec.ofChange authHearsWrong)

/-- 'umpirelaw21.AuthBegins': WHATEVER THE INPUT: true; the input reads as it did. -/
def authBeginsSpec : ChangeSpec := { name := "authBegins", fn := fun _ => fun
  | [d1, d2, d3] => { results := [.lit (.bool true)], args := [d1, d2, d3] }
  | _ => none }
def authBeginsRow : OpenClaim := { program := "ytglbaeikklkghaa", sum := "678d0867e4715f8e0ede7cadb71f9ecb359e408cb99db88b0e67514a957f282e", func := "umpire/umpirelaw21.AuthBegins", spec := "authBegins", unfollowed := true, recurses := true, apart := false }
def AuthBeginsSaid : Prop := authBeginsRow.holds Try.pinned (OpenSpec.ofChange authBeginsSpec)

/-- ITS FALSE NEIGHBOUR: 'it returns false'. Refute it at one input. -/
def authBeginsWrong : ChangeSpec := { name := "authBegins", fn := fun _ => fun
  | [d1, d2, d3] => { results := [.lit (.bool false)], args := [d1, d2, d3] }
  | _ => none }
def AuthBeginsWrongFalsely : Prop := authBeginsRow.holds Try.pinned (OpenSpec.ofChange authBeginsWrong)

/-- 'umpirelaw21.AuthPap': WHATEVER THE INPUT: true; the input reads as it did. -/
def authPapSpec : ChangeSpec := { name := "authPap", fn := fun _ => fun
  | [d1, d2, d3] => { results := [.lit (.bool true)], args := [d1, d2, d3] }
  | _ => none }
def authPapRow : OpenClaim := { program := "ytglbaeikklkghaa", sum := "678d0867e4715f8e0ede7cadb71f9ecb359e408cb99db88b0e67514a957f282e", func := "umpire/umpirelaw21.AuthPap", spec := "authPap", unfollowed := true, recurses := true, apart := false }
def AuthPapSaid : Prop := authPapRow.holds Try.pinned (OpenSpec.ofChange authPapSpec)

/-- ITS FALSE NEIGHBOUR: 'it returns false'. Refute it at one input. -/
def authPapWrong : ChangeSpec := { name := "authPap", fn := fun _ => fun
  | [d1, d2, d3] => { results := [.lit (.bool false)], args := [d1, d2, d3] }
  | _ => none }
def AuthPapWrongFalsely : Prop := authPapRow.holds Try.pinned (OpenSpec.ofChange authPapWrong)

/-- 'umpirelaw21.AuthKeeps': WHATEVER THE INPUT: true; the input reads as it did. -/
def authKeepsSpec : ChangeSpec := { name := "authKeeps", fn := fun _ => fun
  | [d1, d2, d3] => { results := [.lit (.bool true)], args := [d1, d2, d3] }
  | _ => none }
def authKeepsRow : OpenClaim := { program := "ytglbaeikklkghaa", sum := "678d0867e4715f8e0ede7cadb71f9ecb359e408cb99db88b0e67514a957f282e", func := "umpire/umpirelaw21.AuthKeeps", spec := "authKeeps", unfollowed := true, recurses := true, apart := false }
def AuthKeepsSaid : Prop := authKeepsRow.holds Try.pinned (OpenSpec.ofChange authKeepsSpec)

/-- ITS FALSE NEIGHBOUR: 'it returns false'. Refute it at one input. -/
def authKeepsWrong : ChangeSpec := { name := "authKeeps", fn := fun _ => fun
  | [d1, d2, d3] => { results := [.lit (.bool false)], args := [d1, d2, d3] }
  | _ => none }
def AuthKeepsWrongFalsely : Prop := authKeepsRow.holds Try.pinned (OpenSpec.ofChange authKeepsWrong)

/- THE SECOND FORM. 'bulk': how many values and letters a reading holds, each counted each time it is reached (what is shared counts as often as it is met; a slice's spare places count too). A statement '..UptoSaid' is the law's where the arguments, and the package variables that the reading takes, are together of bulk at most 1048576: NARROWER than '..Said'. Prove '..Said' where nothing that the law and all that it calls make is longer than what came in: it says more and counts as full. Else prove '..UptoSaid'. A law counts once. -/
mutual
def uptoBulk {H : Type} : DataW H → Nat
  | .lit (.string bytes) => bytes.length + 1
  | .lit _ => 1
  | .nil => 1
  | .ptr d => uptoBulk d + 1
  | .slice elems spare => uptoBulkAll elems + uptoBulkAll spare + 1
  | .agg parts => uptoBulkAll parts + 1
  | .iface _ d => uptoBulk d + 1
  | .map entries => uptoBulkEntries entries + 1
  | .held _ => 1
def uptoBulkAll {H : Type} : List (DataW H) → Nat
  | [] => 0
  | d :: r => uptoBulk d + uptoBulkAll r
def uptoBulkEntries {H : Type} : List (Lit × DataW H) → Nat
  | [] => 0
  | x :: r => uptoBulkEntry x + uptoBulkEntries r
def uptoBulkEntry {H : Type} : Lit × DataW H → Nat
  | (.string bytes, d) => bytes.length + uptoBulk d + 1
  | (_, d) => uptoBulk d + 1
 end
def uptoSmall : (H : Type) → List (DataW H) → Bool := fun _ ds => decide (uptoBulkAll ds ≤ 1048576)
def OpenSpec.upto (s : _root_.Go.ChangeSpec) : _root_.Go.OpenSpec := { _root_.Go.OpenSpec.ofChange s with cond := some uptoSmall }

/-- 'umpirelaw16.PapPuts', WHERE WHAT IT READS IS OF BULK AT MOST 1048576: true; the input reads as it did. -/
def papPutsUptoRow : OpenClaim := { program := "ytglbaeikklkghaa", sum := "678d0867e4715f8e0ede7cadb71f9ecb359e408cb99db88b0e67514a957f282e", func := "umpire/umpirelaw16.PapPuts", spec := "papPuts", apart := false, narrowed := true }
def PapPutsUptoSaid : Prop := papPutsUptoRow.holds Try.pinned (OpenSpec.upto papPutsSpec)

/-- 'umpirelaw16.PapReads', WHERE WHAT IT READS IS OF BULK AT MOST 1048576: true; the input reads as it did. -/
def papReadsUptoRow : OpenClaim := { program := "ytglbaeikklkghaa", sum := "678d0867e4715f8e0ede7cadb71f9ecb359e408cb99db88b0e67514a957f282e", func := "umpire/umpirelaw16.PapReads", spec := "papReads", apart := false, narrowed := true }
def PapReadsUptoSaid : Prop := papReadsUptoRow.holds Try.pinned (OpenSpec.upto papReadsSpec)

/-- 'umpirelaw16.PapBack', WHERE WHAT IT READS IS OF BULK AT MOST 1048576: true; the input reads as it did. -/
def papBackUptoRow : OpenClaim := { program := "ytglbaeikklkghaa", sum := "678d0867e4715f8e0ede7cadb71f9ecb359e408cb99db88b0e67514a957f282e", func := "umpire/umpirelaw16.PapBack", spec := "papBack", apart := false, narrowed := true }
def PapBackUptoSaid : Prop := papBackUptoRow.holds Try.pinned (OpenSpec.upto papBackSpec)

/-- 'umpirelaw16.PapCuts', WHERE WHAT IT READS IS OF BULK AT MOST 1048576: true; the input reads as it did. -/
def papCutsUptoRow : OpenClaim := { program := "ytglbaeikklkghaa", sum := "678d0867e4715f8e0ede7cadb71f9ecb359e408cb99db88b0e67514a957f282e", func := "umpire/umpirelaw16.PapCuts", spec := "papCuts", apart := false, narrowed := true }
def PapCutsUptoSaid : Prop := papCutsUptoRow.holds Try.pinned (OpenSpec.upto papCutsSpec)

/-- 'umpirelaw16.PapKeeps', WHERE WHAT IT READS IS OF BULK AT MOST 1048576: true; the input reads as it did. -/
def papKeepsUptoRow : OpenClaim := { program := "ytglbaeikklkghaa", sum := "678d0867e4715f8e0ede7cadb71f9ecb359e408cb99db88b0e67514a957f282e", func := "umpire/umpirelaw16.PapKeeps", spec := "papKeeps", apart := false, narrowed := true }
def PapKeepsUptoSaid : Prop := papKeepsUptoRow.holds Try.pinned (OpenSpec.upto papKeepsSpec)

/-- 'umpirelaw21.AuthHears', WHERE WHAT IT READS IS OF BULK AT MOST 1048576: true; the input reads as it did. -/
def authHearsUptoRow : OpenClaim := { program := "ytglbaeikklkghaa", sum := "678d0867e4715f8e0ede7cadb71f9ecb359e408cb99db88b0e67514a957f282e", func := "umpire/umpirelaw21.AuthHears", spec := "authHears", unfollowed := true, recurses := true, apart := false, narrowed := true }
def AuthHearsUptoSaid : Prop := authHearsUptoRow.holds Try.pinned (OpenSpec.upto authHearsSpec)

/-- 'umpirelaw21.AuthBegins', WHERE WHAT IT READS IS OF BULK AT MOST 1048576: true; the input reads as it did. -/
def authBeginsUptoRow : OpenClaim := { program := "ytglbaeikklkghaa", sum := "678d0867e4715f8e0ede7cadb71f9ecb359e408cb99db88b0e67514a957f282e", func := "umpire/umpirelaw21.AuthBegins", spec := "authBegins", unfollowed := true, recurses := true, apart := false, narrowed := true }
def AuthBeginsUptoSaid : Prop := authBeginsUptoRow.holds Try.pinned (OpenSpec.upto authBeginsSpec)

/-- 'umpirelaw21.AuthPap', WHERE WHAT IT READS IS OF BULK AT MOST 1048576: true; the input reads as it did. -/
def authPapUptoRow : OpenClaim := { program := "ytglbaeikklkghaa", sum := "678d0867e4715f8e0ede7cadb71f9ecb359e408cb99db88b0e67514a957f282e", func := "umpire/umpirelaw21.AuthPap", spec := "authPap", unfollowed := true, recurses := true, apart := false, narrowed := true }
def AuthPapUptoSaid : Prop := authPapUptoRow.holds Try.pinned (OpenSpec.upto authPapSpec)

/-- 'umpirelaw21.AuthKeeps', WHERE WHAT IT READS IS OF BULK AT MOST 1048576: true; the input reads as it did. -/
def authKeepsUptoRow : OpenClaim := { program := "ytglbaeikklkghaa", sum := "678d0867e4715f8e0ede7cadb71f9ecb359e408cb99db88b0e67514a957f282e", func := "umpire/umpirelaw21.AuthKeeps", spec := "authKeeps", unfollowed := true, recurses := true, apart := false, narrowed := true }
def AuthKeepsUptoSaid : Prop := authKeepsUptoRow.holds Try.pinned (OpenSpec.upto authKeepsSpec)

end Rows
end Go.Proofs.Ytglbaeikklkghaa
