/-
  The law PapPuts: of texts of at most 1000 bytes the program lays what the reference lays, and says ErrLong just where the reference says no; so the call returns true.
-/
import Derived.Test.YtglbaeikklkghaaPPapPutsx1
import Derived.Test.YtglbaeikklkghaaPapPlain
namespace Go.Proofs.Ytglbaeikklkghaa.Pure
open Go.RowKit Go.Proofs.Ytglbaeikklkghaa.PPapPuts Go.Proofs.YtglbaeikklkghaaW.PrintWords Go.Proofs.YtglbaeikklkghaaW.PrintLast Go.Proofs.Ytglbaeikklkghaa.PapPlain Go.Proofs.Ytglbaeikklkghaa.PapHand

theorem puts_true (a b s : ByteArray) : umpirelaw16_PapPuts.f 10 a b s = some true := by
  have ha : umpirelaw16_awake.f = some true := rfl
  have e0 : ∀ k, umpirelaw16_PapPuts.j0 (k + 1) s true a b = some true := fun k => by
    simp only [umpirelaw16_PapPuts.j0, ha, Option.bind_some, if_true]
  have e1 : umpirelaw16_PapPuts.j0 10 s false a b = some true := by
    simp only [umpirelaw16_PapPuts.j0]
    rw [if_neg (by simp), show (9 : Nat) = 6 + 3 from rfl, ask_put, ref_two, show (6 + 3 : Nat) = 7 + 2 from rfl, say_put, ref_one]
    simp only [Option.bind_some]
    cases fits2 a b <;> cases fits1 s <;> simp
  unfold umpirelaw16_PapPuts.f
  rw [ha]
  simp only [Option.bind_some, if_true]
  split
  · exact e0 9
  · split
    · exact e0 9
    · cases decide ((s.size : Int) > 1000)
      · exact e1
      · exact e0 9

theorem puts_law (a0_0 : ByteArray) (a0_1 : ByteArray) (a1 : ByteArray) (w : World) (_ : a0_0.size ≤ maxLen) (_ : a0_1.size ≤ maxLen) (_ : a1.size ≤ maxLen) :
    Calls Try.prog 3 #[.agg #[.string a0_0, .string a0_1], .string a1] w fun e w' => e = .returned (.bool true) ∧ Below w.heap.size w w' :=
  umpirelaw16_PapPuts.calls 10 a0_0 a0_1 a1 true w (puts_true a0_0 a0_1 a1)
end Go.Proofs.Ytglbaeikklkghaa.Pure
