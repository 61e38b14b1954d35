/-
  The law PapReads over numbers and lists: of data of at most 3000 bytes the program's two readers and the reference's tell the same.
-/
import Derived.Test.YtglbaeikklkghaaPPapReadsx2
import Derived.Test.YtglbaeikklkghaaPapPlain
namespace Go.Proofs.Ytglbaeikklkghaa.Pure
open Go.RowKit Go.Proofs.Ytglbaeikklkghaa.PPapReads Go.Proofs.YtglbaeikklkghaaW.PrintWords Go.Proofs.YtglbaeikklkghaaW.PrintLast Go.Proofs.Ytglbaeikklkghaa.PapPlain Go.Proofs.Ytglbaeikklkghaa.PapHand

theorem PapReads : umpirelaw16_PapReads.Pure := by
  intro l _ _ hwf
  have hB := isB_of_wf hwf
  refine ⟨10, ?_⟩
  have ha : umpirelaw16_awake.f = some true := rfl
  unfold umpirelaw16_PapReads.f
  rw [ha]
  simp only [Option.bind_some, if_true]
  by_cases hl : (l.length : Int) > 3000
  · rw [show decide ((l.length : Int) > 3000) = true from decide_eq_true hl]
    simp only [umpirelaw16_PapReads.j0, ha, Option.bind_some, if_true]
  · rw [show decide ((l.length : Int) > 3000) = false from decide_eq_false hl]
    obtain ⟨x, y, e, h1, _⟩ := ask_only hB
    obtain ⟨z, f, h2, _⟩ := say_only hB
    have h3 : PPapBase.umpireref16_Ask.f 9 l = some (x, y, e) := by rw [ask_ref 6 l hB (by omega), h1]
    have h4 : PPapBase.umpireref16_Say.f 9 l = some (z, f) := by rw [say_ref 7 l hB (by omega), h2]
    simp [umpirelaw16_PapReads.j0, h1, h2, h3, h4]
end Go.Proofs.Ytglbaeikklkghaa.Pure
