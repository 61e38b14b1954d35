/-
  Plain facts for PapCuts: data that are cut off are at their end; with a byte behind they have no form.
-/
import Derived.Test.YtglbaeikklkghaaPapPlain
namespace Go.Proofs.Ytglbaeikklkghaa.PapPlain
open Go.RowKit Go.Proofs.YtglbaeikklkghaaW.PrintWords Go.Proofs.YtglbaeikklkghaaW.PrintLast Go.Proofs.Ytglbaeikklkghaa.PapHand Go.Proofs.Ytglbaeikklkghaa.PPapBase

theorem short_take (s : ByteArray) (r : List Int) (m : Nat) (h : m < (one s).length) : shorty ((one s ++ r).take m) = true := by
  rw [one_length] at h
  simp only [shorty, Bool.or_eq_true, decide_eq_true_eq, List.length_take, List.length_append, one_length]
  rcases Nat.eq_zero_or_pos m with rfl | hm
  · left; omega
  · right
    have e : rd ((one s ++ r).take m) 0 = (s.size : Int) := by
      obtain ⟨k, rfl⟩ : ∃ k, m = k + 1 := ⟨m - 1, by omega⟩
      simp [rd, one]
    rw [e]
    omega
theorem cut_end {a b : ByteArray} (h : fits2 a b = true) (m : Nat) (hm : m < (one a ++ one b).length) : pap_ReadAsk.f ((one a ++ one b).take m) = some (⟨#[]⟩, ⟨#[]⟩, 2) := by
  simp only [fits2, fits1, Bool.and_eq_true, decide_eq_true_eq] at h
  unfold pap_ReadAsk.f
  rw [if_pos (isB_take (isB_append (isB_one h.1) (isB_one h.2)) m)]
  rcases Nat.lt_or_ge m (one a).length with h1 | h1
  · rw [if_pos (short_take a _ m h1)]
  · have e : (one a ++ one b).take m = one a ++ (one b).take (m - (one a).length) := by
      rw [List.take_append, List.take_of_length_le h1]
    rw [List.length_append] at hm
    have e2 := short_take b [] (m - (one a).length) (by omega)
    rw [List.append_nil] at e2
    rw [e, one_short, one_rest, e2]
    rfl
theorem more_form {a b : ByteArray} (h : fits2 a b = true) (x : Int) (h0 : 0 ≤ x) (h1 : x ≤ 255) : pap_ReadAsk.f ((one a ++ one b) ++ [x]) = some (⟨#[]⟩, ⟨#[]⟩, 3) := by
  simp only [fits2, fits1, Bool.and_eq_true, decide_eq_true_eq] at h
  have hx : isB [x] = true := by simp [isB, h0, h1]
  unfold pap_ReadAsk.f
  rw [if_pos (isB_append (isB_append (isB_one h.1) (isB_one h.2)) hx), List.append_assoc, one_short, one_rest, one_short, one_rest]
  rfl
end Go.Proofs.Ytglbaeikklkghaa.PapPlain
