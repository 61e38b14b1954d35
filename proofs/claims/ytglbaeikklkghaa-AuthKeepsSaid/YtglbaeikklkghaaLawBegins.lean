/-
  The law AuthBegins: the program's login behind a beginning is the reference's; so the call returns true.
-/
import Derived.Test.YtglbaeikklkghaaAuthPlain
import Derived.Test.YtglbaeikklkghaaWalkBegins
import Derived.Test.YtglbaeikklkghaaAuthBegin
import Derived.Test.YtglbaeikklkghaaAuthAwake
import Derived.Test.YtglbaeikklkghaaPAuthBasex7
namespace Go.Proofs.Ytglbaeikklkghaa.AuthPlain
open Go.RowKit Go.Proofs.YtglbaeikklkghaaW.PrintWords Go.Proofs.YtglbaeikklkghaaW.PrintLast Go.Proofs.Ytglbaeikklkghaa.PapHand Go.Proofs.Ytglbaeikklkghaa.PAuthBase Go.Proofs.Ytglbaeikklkghaa.AuthHand
set_option linter.unusedVariables false

set_option maxHeartbeats 2000000 in
theorem begin_eq (a0_0 a0_1 : Int) (a0_2 a0_3 a0_4 : Bool) (a0_5 : Int) (a0_6 : ByteArray) (a0_7 : Bool) (a0_8 a1 a2_0 a2_1 : Int) (l : List Int) (h : PapHand.isB l = true) (h' : Kit.isB l = true) (hl : l.length ≤ 1000) :
    ∃ r, auth_Begin.f a0_0 a0_1 a0_2 a0_3 a0_4 a0_5 a0_6 a0_7 a0_8 a1 a2_0 a2_1 l = some r ∧ umpireref21_Begin.f 5 a0_0 a0_1 a0_2 a0_3 a0_4 a0_5 a0_6 a0_7 a0_8 a1 a2_0 a2_1 l = some r := by
  obtain ⟨⟨x, y, e⟩, hx⟩ := reads_ask h
  obtain ⟨⟨tv, sn, er⟩, hv⟩ := reads_chap h' (by omega)
  have hk : auth_ask.f a2_0 a2_1 l = some (e == 0) := by unfold auth_ask.f; rw [hx]; rfl
  have hk' : umpireref21_ask.f 5 a2_0 a2_1 l = some (e == 0) := by unfold umpireref21_ask.f; rw [show (5 : Nat) = 2 + 3 from rfl, ask_ref 2 l h (by omega), hx]; rfl
  have hw : auth_value.f a2_0 a2_1 l = some (tv, er == 0) := by unfold auth_value.f; rw [hv]; rfl
  have hw' : umpireref17_Read.f l = some (tv, sn, er) := (chap_ref h' (by omega)).trans hv
  generalize (e == 0) = k at hk hk'
  clear hx hv h h' hl
  unfold auth_Begin.f umpireref21_Begin.f
  simp only [umpireref21_Begin.j0, hk, hk', hw, hw', Option.bind_some]
  clear hk hk' hw hw'
  by_cases c : a2_0 = 1
  · subst c
    by_cases p7 : a1 = 49187
    · subst p7
      by_cases t7 : a0_1 = 49187
      · subst t7
        cases a0_3 <;> cases k <;> exact ⟨_, rfl, rfl⟩
      · simp only [t7, false_and, and_self, if_true, if_false]
        exact ⟨_, rfl, rfl⟩
    · by_cases p9 : a1 = 49699
      · subst p9
        by_cases o9 : a0_0 = 49699
        · subst o9
          by_cases e0 : er = 0
          · subst e0
            exact ⟨_, rfl, rfl⟩
          · have e1 : (er == 0) = false := by simp [e0]
            simp only [e1, e0, if_false]
            exact ⟨_, rfl, rfl⟩
        · by_cases e0 : er = 0
          · subst e0
            simp only [o9, and_false, if_false]
            exact ⟨_, rfl, rfl⟩
          · have e1 : (er == 0) = false := by simp [e0]
            simp only [e1, o9, if_false]
            exact ⟨_, rfl, rfl⟩
      · simp only [p7, p9, false_and, if_false, if_true]
        exact ⟨_, rfl, rfl⟩
  · simp only [c, and_false, if_false]
    exact ⟨_, rfl, rfl⟩
end Go.Proofs.Ytglbaeikklkghaa.AuthPlain
namespace Go.Proofs.Ytglbaeikklkghaa
open Go.RowKit Go.Proofs.YtglbaeikklkghaaW.PrintWords Go.Proofs.YtglbaeikklkghaaW.PrintLast AuthHand AuthPlain
theorem authBegins_law (a0_0 : Int) (a0_1 : Int) (a0_2 : Bool) (a0_3 : Bool) (a0_4 : Bool) (a0_5 : Int) (a0_6 : ByteArray) (a0_7 : Bool) (a0_8 : Int) (a1 : Int) (a2_0 : Int) (a2_1 : Int) (Aa2_2 : Option Addr) (ca2_2 : Nat) (a2_2 : List Int) (w : World) (_ : (Lit.int .i64 a0_0).wf = true) (_ : (Lit.int .i64 a0_1).wf = true) (_ : (Lit.int .i64 a0_5).wf = true) (_ : a0_6.size ≤ maxLen) (_ : (Lit.int .i64 a0_8).wf = true) (_ : (Lit.int .i64 a1).wf = true) (_ : (Lit.int .i64 a2_0).wf = true) (_ : (Lit.int .i64 a2_1).wf = true) (la2_2 : a2_2.length ≤ ca2_2) (ra2_2 : (Kd.int .u8).C w Aa2_2 a2_2.length a2_2) (wa2_2 : ∀ n ∈ a2_2, (Lit.int .u8 n).wf = true) :
    Calls Try.prog 9 #[.agg #[.int .i64 a0_0, .int .i64 a0_1, .bool a0_2, .bool a0_3, .bool a0_4, .int .i64 a0_5, .string a0_6, .bool a0_7, .int .i64 a0_8], .int .i64 a1, .agg #[.int .i64 a2_0, .int .i64 a2_1, .slice Aa2_2 a2_2.length ca2_2]] w fun e w' => e = .returned (.bool true) ∧ Below w.heap.size w w' := by
  obtain ⟨h, h'⟩ := isB_two wa2_2
  obtain ⟨m, hm, hl⟩ := may_total 4 a2_0 a2_1 a2_2
  have HAW := Aside0.mk (fun (W : World) (_ : Below w.heap.size w W) => umpirelaw21_awake.calls true W rfl)
  have HMY := Aside0.mk (fun (W : World) (hb : Below w.heap.size w W) => PAuthBase.umpirelaw21_may.calls 5 a2_0 a2_1 Aa2_2 ca2_2 a2_2 m W (Kd.C_below ra2_2 hb) la2_2 hm)
  cases m
  · exact AuthBegins_no _ _ _ _ _ _ _ _ _ _ _ _ Aa2_2 ca2_2 _ w HAW HMY
  · obtain ⟨⟨r1, r2, r3, r4, r5, r6, r7, r8, r9, r10⟩, e1, e2⟩ := begin_eq a0_0 a0_1 a0_2 a0_3 a0_4 a0_5 a0_6 a0_7 a0_8 a1 a2_0 a2_1 a2_2 h h' (hl rfl)
    exact AuthBegins_yes _ _ _ _ _ _ _ _ _ _ _ _ Aa2_2 ca2_2 _ r1 r2 r3 r4 r5 r6 r7 r8 r9 r10 w HAW HMY ⟨fun W hb => auth_Begin.calls _ _ _ _ _ _ _ _ _ _ _ _ Aa2_2 ca2_2 a2_2 _ _ _ _ _ _ _ _ _ _ W (Kd.C_below ra2_2 hb) la2_2 e1⟩ ⟨fun W hb => PAuthBase.umpireref21_Begin.calls 5 _ _ _ _ _ _ _ _ _ _ _ _ Aa2_2 ca2_2 a2_2 _ _ _ _ _ _ _ _ _ _ W (Kd.C_below ra2_2 hb) la2_2 e2⟩
end Go.Proofs.Ytglbaeikklkghaa
