/-
  The law PapBack: texts that fit are read as they were, and data that are read are those of what they tell; so the call returns true.
-/
import Derived.Test.YtglbaeikklkghaaPPapBackx2
import Derived.Test.YtglbaeikklkghaaPapPlain
namespace Go.Proofs.Ytglbaeikklkghaa.Pure
open Go.RowKit Go.Proofs.Ytglbaeikklkghaa.PPapBack Go.Proofs.YtglbaeikklkghaaW.PrintWords Go.Proofs.YtglbaeikklkghaaW.PrintLast Go.Proofs.Ytglbaeikklkghaa.PapPlain Go.Proofs.Ytglbaeikklkghaa.PapHand

theorem back_j2 (k : Nat) (l : List Int) (hB : isB l = true) : umpirelaw16_PapBack.j2 (k + 5) l = some true := by
  obtain ⟨x, y, e, h1, h1'⟩ := ask_only hB
  obtain ⟨z, f, h2, h2'⟩ := say_only hB
  simp only [umpirelaw16_PapBack.j2]
  rw [h1, h2]
  simp only [Option.bind_some]
  rw [show k + 4 = (k + 1) + 3 from rfl, ask_put, show (k + 1) + 3 = (k + 2) + 2 from rfl, say_put]
  simp only [Option.bind_some]
  have t2 : f = 0 → (some ((strOfNums (if fits1 z = true then (one z, (0 : Int)) else ([], 4)).1).toList == (strOfNums l).toList) : Option Bool) = some true := fun hf => by
    obtain ⟨q1, q2⟩ := h2' hf
    rw [if_pos q1, q2]
    simp
  by_cases he : e = 0
  · obtain ⟨q1, q2⟩ := h1' he
    rw [if_pos he, if_pos q1, q2, if_pos rfl]
    by_cases hf : f = 0
    · rw [if_pos hf]; exact t2 hf
    · rw [if_neg hf]
  · rw [if_neg he]
    by_cases hf : f = 0
    · rw [if_pos hf]; exact t2 hf
    · rw [if_neg hf]
theorem back_j1 (k : Nat) (s : ByteArray) (l : List Int) (hB : isB l = true) : umpirelaw16_PapBack.j1 (k + 6) s l = some true := by
  simp only [umpirelaw16_PapBack.j1]
  rw [show k + 5 = (k + 3) + 2 from rfl, say_put]
  simp only [Option.bind_some]
  by_cases hs : fits1 s = true
  · rw [if_pos hs]
    simp only [if_true]
    rw [say_back hs]
    simp only [Option.bind_some, if_true]
    exact back_j2 k l hB
  · rw [if_neg hs]
    rw [if_neg (show ¬ (4 : Int) = 0 from by decide)]
    exact back_j2 k l hB
theorem back_true (a b s : ByteArray) (l : List Int) (hB : isB l = true) : umpirelaw16_PapBack.f 10 a b s l = some true := by
  have ha : umpirelaw16_awake.f = some true := rfl
  have e0 : ∀ k, umpirelaw16_PapBack.j0 (k + 1) s l true a b = some true := fun k => by
    simp only [umpirelaw16_PapBack.j0, ha, Option.bind_some, if_true]
  have e1 : umpirelaw16_PapBack.j0 10 s l false a b = some true := by
    simp only [umpirelaw16_PapBack.j0]
    rw [if_neg (by simp), show (9 : Nat) = 6 + 3 from rfl, ask_put]
    simp only [Option.bind_some]
    by_cases h : fits2 a b = true
    · rw [if_pos h]
      simp only [if_true]
      rw [ask_back h]
      simp only [Option.bind_some, if_true]
      rw [if_neg (by simp)]
      exact back_j1 3 s l hB
    · rw [if_neg h, if_neg (show ¬ (4 : Int) = 0 from by decide)]
      exact back_j1 3 s l hB
  unfold umpirelaw16_PapBack.f
  rw [ha]
  simp only [Option.bind_some, if_true]
  split
  · exact e0 9
  · split
    · exact e0 9
    · split
      · exact e0 9
      · cases decide ((l.length : Int) > 3000)
        · exact e1
        · exact e0 9

theorem back_law (a0_0 : ByteArray) (a0_1 : ByteArray) (a1 : ByteArray) (Aa2 : Option Addr) (ca2 : Nat) (a2 : List Int) (w : World) (_ : a0_0.size ≤ maxLen) (_ : a0_1.size ≤ maxLen) (_ : a1.size ≤ maxLen) (la2 : a2.length ≤ ca2) (ra2 : (Kd.int .u8).C w Aa2 a2.length a2) (wa2 : ∀ n ∈ a2, (Lit.int .u8 n).wf = true) :
    Calls Try.prog 5 #[.agg #[.string a0_0, .string a0_1], .string a1, .slice Aa2 a2.length ca2] w fun e w' => e = .returned (.bool true) ∧ Below w.heap.size w w' :=
  umpirelaw16_PapBack.calls 10 a0_0 a0_1 a1 Aa2 ca2 a2 true w ra2 la2 (back_true a0_0 a0_1 a1 a2 (isB_of_wf wa2))
end Go.Proofs.Ytglbaeikklkghaa.Pure
