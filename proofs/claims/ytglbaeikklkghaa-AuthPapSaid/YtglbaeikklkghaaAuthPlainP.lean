/-
  Where what isn't asked for is neither owed nor begun, in plain words.
-/
import Derived.Test.YtglbaeikklkghaaAuthPlainH
import Derived.Test.YtglbaeikklkghaaAuthBegin
namespace Go.Proofs.Ytglbaeikklkghaa.AuthPlain
open Go.RowKit Go.Proofs.YtglbaeikklkghaaW.PrintWords Go.Proofs.YtglbaeikklkghaaW.PrintLast Go.Proofs.Ytglbaeikklkghaa.PapHand Go.Proofs.Ytglbaeikklkghaa.PAuthBase Go.Proofs.Ytglbaeikklkghaa.AuthHand
set_option linter.unusedVariables false
theorem hear_is (a0_0 a0_1 : Int) (a0_2 a0_3 a0_4 : Bool) (a0_5 : Int) (a0_6 : ByteArray) (a0_7 : Bool) (a0_8 a1 a2_0 a2_1 : Int) (l : List Int) (h : PapHand.isB l = true) (h' : Kit.isB l = true) (hl : l.length ≤ 1000) :
    ∃ tv er ka ks, auth_Hear.f 5 a0_0 a0_1 a0_2 a0_3 a0_4 a0_5 a0_6 a0_7 a0_8 a1 a2_0 a2_1 l = some (hearP tv er ka ks a0_0 a0_1 a0_2 a0_3 a0_4 a0_5 a0_6 a0_7 a0_8 a1 a2_0 a2_1) := by
  obtain ⟨tv, _, er, ka, ks, e, _⟩ := hear_eq a0_0 a0_1 a0_2 a0_3 a0_4 a0_5 a0_6 a0_7 a0_8 a1 a2_0 a2_1 l h h' hl
  exact ⟨tv, er, ka, ks, e⟩
theorem begin_is (a0_0 a0_1 : Int) (a0_2 a0_3 a0_4 : Bool) (a0_5 : Int) (a0_6 : ByteArray) (a0_7 : Bool) (a0_8 a1 a2_0 a2_1 : Int) (l : List Int) (h : PapHand.isB l = true) (h' : Kit.isB l = true) (hl : l.length ≤ 1000) :
    ∃ r, auth_Begin.f a0_0 a0_1 a0_2 a0_3 a0_4 a0_5 a0_6 a0_7 a0_8 a1 a2_0 a2_1 l = some r ∧ (((¬ a0_0 = a1) ∧ ¬ a0_1 = a1) ∨ ((¬ a1 = 49187) ∧ ¬ a1 = 49699) → r.2.2.2.2.2.2.2.2.2 = false) := by
  obtain ⟨⟨x, y, e⟩, hx⟩ := reads_ask h
  obtain ⟨⟨tv, sn, er⟩, hv⟩ := reads_chap h' (by omega)
  have hk : auth_ask.f a2_0 a2_1 l = some (e == 0) := by unfold auth_ask.f; rw [hx]; rfl
  have hw : auth_value.f a2_0 a2_1 l = some (tv, er == 0) := by unfold auth_value.f; rw [hv]; rfl
  unfold auth_Begin.f
  rw [hk, hw]
  simp only [Option.bind_some]
  by_cases p : a1 = 49187 ∧ a2_0 = 1
  · rw [if_pos p]
    by_cases q : a0_1 = 49187 ∧ a0_3 = false
    · rw [if_pos q]
      split
      · exact ⟨_, rfl, fun hn => by obtain ⟨rfl, _⟩ := p; obtain ⟨rfl, _⟩ := q; simp at hn⟩
      · exact ⟨_, rfl, fun _ => rfl⟩
    · rw [if_neg q]
      exact ⟨_, rfl, fun _ => rfl⟩
  · rw [if_neg p]
    by_cases p9 : a1 = 49699 ∧ a2_0 = 1
    · rw [if_pos p9]
      split
      · rename_i q
        exact ⟨_, rfl, fun hn => by obtain ⟨rfl, _⟩ := p9; obtain ⟨_, rfl⟩ := q; simp at hn⟩
      · exact ⟨_, rfl, fun _ => rfl⟩
    · rw [if_neg p9]
      exact ⟨_, rfl, fun _ => rfl⟩
theorem hearP_nb (tv : List Int) (er : Int) (ka ks : Bool) (a0_0 a0_1 : Int) (a0_2 a0_3 a0_4 : Bool) (a0_5 : Int) (a0_6 : ByteArray) (a0_7 : Bool) (a0_8 a1 a2_0 a2_1 : Int) (hn : ((¬ a0_0 = a1) ∧ ¬ a0_1 = a1) ∨ ((¬ a1 = 49187) ∧ ¬ a1 = 49699)) :
    hearP tv er ka ks a0_0 a0_1 a0_2 a0_3 a0_4 a0_5 a0_6 a0_7 a0_8 a1 a2_0 a2_1 = (a0_0, a0_1, a0_2, a0_3, a0_4, a0_5, a0_6, a0_7, a0_8, []) := by
  unfold hearP
  by_cases p7 : a1 = 49187
  · subst p7
    have q : ¬ a0_0 = 49187 ∧ ¬ a0_1 = 49187 := by rcases hn with hn | hn; exact hn; exact absurd rfl hn.1
    simp [q.1, q.2]
  · by_cases p9 : a1 = 49699
    · subst p9
      have q : ¬ a0_0 = 49699 ∧ ¬ a0_1 = 49699 := by rcases hn with hn | hn; exact hn; exact absurd rfl hn.2
      simp [q.1, q.2]
    · simp [p7, p9]
theorem hearP_else (tv : List Int) (er : Int) (ka ks : Bool) (a0_0 a0_1 : Int) (a0_2 a0_3 a0_4 : Bool) (a0_5 : Int) (a0_6 : ByteArray) (a0_7 : Bool) (a0_8 a1 a2_0 a2_1 : Int) :
    (∃ x3 x7, hearP tv er ka ks a0_0 a0_1 a0_2 a0_3 a0_4 a0_5 a0_6 a0_7 a0_8 a1 a2_0 a2_1 = (a0_0, a0_1, a0_2, x3, a0_4, a0_5, a0_6, x7, a0_8, [])) ∨ ∃ kd sv, hearP tv er ka ks a0_0 a0_1 a0_2 a0_3 a0_4 a0_5 a0_6 a0_7 a0_8 a1 a2_0 a2_1 = (a0_0, a0_1, a0_2, a0_3, a0_4, a0_5, a0_6, a0_7, a0_8, [⟨kd, a1, a2_1, sv⟩]) := by
  unfold hearP
  repeat' split
  all_goals first
    | exact Or.inl ⟨_, _, rfl⟩
    | exact Or.inr ⟨_, _, rfl⟩
end Go.Proofs.Ytglbaeikklkghaa.AuthPlain
