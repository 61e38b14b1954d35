/-
  What auth.Hear answers, in the plain words of the reference.
-/
import Derived.Test.YtglbaeikklkghaaAuthPlain
import Derived.Test.YtglbaeikklkghaaPAuthBasex4
import Derived.Test.YtglbaeikklkghaaAuthRef
namespace Go.Proofs.Ytglbaeikklkghaa.AuthPlain
open Go.RowKit Go.Proofs.YtglbaeikklkghaaW.PrintWords Go.Proofs.YtglbaeikklkghaaW.PrintLast Go.Proofs.Ytglbaeikklkghaa.PapHand Go.Proofs.Ytglbaeikklkghaa.PAuthBase Go.Proofs.Ytglbaeikklkghaa.AuthHand
set_option linter.unusedSimpArgs false
set_option linter.unusedVariables false

set_option maxHeartbeats 8000000 in
theorem hear_plain (tv : List Int) (sn : ByteArray) (er : Int) (ka ks : Bool) (a0_0 a0_1 : Int) (a0_2 a0_3 a0_4 : Bool) (a0_5 : Int) (a0_6 : ByteArray) (a0_7 : Bool) (a0_8 a1 a2_0 a2_1 : Int) (l : List Int)
    (hk : auth_ask.f a2_0 a2_1 l = some ka) (hs : auth_say.f a2_0 a2_1 l = some ks) (hw : auth_value.f a2_0 a2_1 l = some (tv, er == 0)) :
    auth_Hear.f 5 a0_0 a0_1 a0_2 a0_3 a0_4 a0_5 a0_6 a0_7 a0_8 a1 a2_0 a2_1 l = some (hearP tv er ka ks a0_0 a0_1 a0_2 a0_3 a0_4 a0_5 a0_6 a0_7 a0_8 a1 a2_0 a2_1) := by
  have e : auth_Hear.f 5 a0_0 a0_1 a0_2 a0_3 a0_4 a0_5 a0_6 a0_7 a0_8 a1 a2_0 a2_1 l = auth_Hear.j0 5 a1 (decide (a0_1 = a1) && (a0_7 && (a2_1 == a0_8))) a0_0 a0_1 a0_2 a0_3 a0_4 a0_5 a0_6 a0_7 a0_8 a2_0 a2_1 l := by
    unfold auth_Hear.f
    by_cases h : a0_1 = a1
    · rw [if_pos h]
      cases a0_7
      · simp
      · simp only [if_true, h, decide_true, Bool.true_and]
        rw [show (a0_8 == a2_1) = (a2_1 == a0_8) from Bool.eq_iff_iff.2 (by simp; exact eq_comm)]
    · rw [if_neg h]
      simp [h]
  rw [e]
  generalize hm : (a0_7 && (a2_1 == a0_8)) = mi
  simp only [auth_Hear.j0, hk, hs, hw, Option.bind_some, auth_owed.f, hearP, hm]
  clear hk hs hw e
  by_cases p7 : a1 = 49187
  · subst p7
    by_cases c1 : a2_0 = 1
    · subst c1
      by_cases o : a0_0 = 49187
      · subst o
        cases ka <;> simp <;> rfl
      · simp [o]
    · by_cases c2 : a2_0 = 2
      · subst c2
        by_cases t : a0_1 = 49187
        · subst t
          cases a0_3 <;> cases mi <;> cases ks <;> simp
        · cases a0_3 <;> simp [t]
      · by_cases c3 : a2_0 = 3
        · subst c3
          by_cases t : a0_1 = 49187
          · subst t
            cases a0_7 <;> cases mi <;> cases ks <;> simp_all
          · cases a0_7 <;> simp [t]
        · simp [c1, c2, c3]
  · by_cases p9 : a1 = 49699
    · subst p9
      by_cases c1 : a2_0 = 1
      · subst c1
        by_cases t : a0_1 = 49699 <;> by_cases z : er = 0 <;> simp [t, z]
      · by_cases c2 : a2_0 = 2
        · subst c2
          by_cases z : er = 0
          · subst z
            by_cases o : a0_0 = 49699
            · subst o
              cases a0_4
              · simp
              · by_cases i : a0_5 = a2_1
                · subst i
                  by_cases n : (tv.length : Int) = 16 <;> simp [n]
                · have i' : ¬ a2_1 = a0_5 := fun e => i e.symm
                  simp [i, i']
            · simp [o]
          · simp [z]
        · by_cases c3 : a2_0 = 3
          · subst c3
            by_cases t : a0_1 = 49699
            · subst t
              cases a0_3 <;> cases mi <;> simp
            · cases a0_3 <;> simp [t]
          · by_cases c4 : a2_0 = 4
            · subst c4
              by_cases t : a0_1 = 49699
              · subst t
                cases a0_3 <;> cases mi <;> simp
              · cases a0_3 <;> simp [t]
            · simp [c1, c2, c3, c4]
    · simp [p7, p9]

theorem hear_eq (a0_0 a0_1 : Int) (a0_2 a0_3 a0_4 : Bool) (a0_5 : Int) (a0_6 : ByteArray) (a0_7 : Bool) (a0_8 a1 a2_0 a2_1 : Int) (l : List Int) (h : PapHand.isB l = true) (h' : Kit.isB l = true) (hl : l.length ≤ 1000) :
    ∃ tv sn er ka ks, auth_Hear.f 5 a0_0 a0_1 a0_2 a0_3 a0_4 a0_5 a0_6 a0_7 a0_8 a1 a2_0 a2_1 l = some (hearP tv er ka ks a0_0 a0_1 a0_2 a0_3 a0_4 a0_5 a0_6 a0_7 a0_8 a1 a2_0 a2_1) ∧ umpireref21_Hear.f a0_0 a0_1 a0_2 a0_3 a0_4 a0_5 a0_6 a0_7 a0_8 a1 a2_0 a2_1 l = some (hearP tv er ka ks a0_0 a0_1 a0_2 a0_3 a0_4 a0_5 a0_6 a0_7 a0_8 a1 a2_0 a2_1) ∧ umpireref17_Read.f l = some (tv, sn, er) := by
  obtain ⟨⟨x, y, e⟩, hx⟩ := reads_ask h
  obtain ⟨⟨z, g⟩, hz⟩ := reads_say h
  obtain ⟨⟨tv, sn, er⟩, hv⟩ := reads_chap h' (by omega)
  have hk : auth_ask.f a2_0 a2_1 l = some (e == 0) := by unfold auth_ask.f; rw [hx]; rfl
  have hk' : umpireref21_ask.f 5 a2_0 a2_1 l = some (e == 0) := by unfold umpireref21_ask.f; rw [show (5 : Nat) = 2 + 3 from rfl, ask_ref 2 l h (by omega), hx]; rfl
  have hs : auth_say.f a2_0 a2_1 l = some (g == 0) := by unfold auth_say.f; rw [hz]; rfl
  have hs' : umpireref21_say.f 5 a2_0 a2_1 l = some (g == 0) := by unfold umpireref21_say.f; rw [show (5 : Nat) = 3 + 2 from rfl, say_ref 3 l h (by omega), hz]; rfl
  have hw : auth_value.f a2_0 a2_1 l = some (tv, er == 0) := by unfold auth_value.f; rw [hv]; rfl
  have hw' : umpireref17_Read.f l = some (tv, sn, er) := (chap_ref h' (by omega)).trans hv
  refine ⟨tv, sn, er, e == 0, g == 0, hear_plain tv sn er _ _ _ _ _ _ _ _ _ _ _ _ _ _ l hk hs hw, ?_, hw'⟩
  unfold umpireref21_Hear.f
  rw [hw', hk', hs']
  rfl
theorem hearP_len (tv : List Int) (er : Int) (ka ks : Bool) (a0_0 a0_1 : Int) (a0_2 a0_3 a0_4 : Bool) (a0_5 : Int) (a0_6 : ByteArray) (a0_7 : Bool) (a0_8 a1 a2_0 a2_1 : Int) : (hearP tv er ka ks a0_0 a0_1 a0_2 a0_3 a0_4 a0_5 a0_6 a0_7 a0_8 a1 a2_0 a2_1).2.2.2.2.2.2.2.2.2.length ≤ 1 := by
  unfold hearP
  repeat' split
  all_goals simp
end Go.Proofs.Ytglbaeikklkghaa.AuthPlain
