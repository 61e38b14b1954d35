/-
  The law AuthHears: the program's login and dues behind a packet are the reference's; so the call returns true.
-/
import Derived.Test.YtglbaeikklkghaaAuthPlainH
import Derived.Test.YtglbaeikklkghaaWalkHears
import Derived.Test.YtglbaeikklkghaaAuthRef
import Derived.Test.YtglbaeikklkghaaAuthAwake
namespace Go.Proofs.Ytglbaeikklkghaa.AuthPlain
open Go.RowKit Go.Proofs.YtglbaeikklkghaaW.PrintWords Go.Proofs.YtglbaeikklkghaaW.PrintLast Go.Proofs.Ytglbaeikklkghaa.PapHand Go.Proofs.Ytglbaeikklkghaa.PAuthBase Go.Proofs.Ytglbaeikklkghaa.AuthHand
theorem same_eq (D : List S60) (hD : D.length ≤ 1) : umpireref21_Same.f 3 D D = some true := by
  unfold umpireref21_Same.f
  rw [if_pos rfl]
  match D, hD with
  | [], _ => rfl
  | [x], _ =>
    simp only [umpireref21_Same.l0, List.length_cons, List.length_nil]
    rw [if_pos (by decide), if_pos (by decide), if_pos (by decide), if_neg (by simp)]
    rw [show wrap64 (0 + 1) = 1 from wrapS (by omega) (by omega), if_neg (by decide)]
end Go.Proofs.Ytglbaeikklkghaa.AuthPlain
namespace Go.Proofs.Ytglbaeikklkghaa
open Go.RowKit Go.Proofs.YtglbaeikklkghaaW.PrintWords Go.Proofs.YtglbaeikklkghaaW.PrintLast AuthHand AuthPlain
theorem authHears_law (a0_0 : Int) (a0_1 : Int) (a0_2 : Bool) (a0_3 : Bool) (a0_4 : Bool) (a0_5 : Int) (a0_6 : ByteArray) (a0_7 : Bool) (a0_8 : Int) (a1 : Int) (a2_0 : Int) (a2_1 : Int) (Aa2_2 : Option Addr) (ca2_2 : Nat) (a2_2 : List Int) (w : World) (_ : (Lit.int .i64 a0_0).wf = true) (_ : (Lit.int .i64 a0_1).wf = true) (_ : (Lit.int .i64 a0_5).wf = true) (_ : a0_6.size ≤ maxLen) (_ : (Lit.int .i64 a0_8).wf = true) (_ : (Lit.int .i64 a1).wf = true) (_ : (Lit.int .i64 a2_0).wf = true) (_ : (Lit.int .i64 a2_1).wf = true) (la2_2 : a2_2.length ≤ ca2_2) (ra2_2 : (Kd.int .u8).C w Aa2_2 a2_2.length a2_2) (wa2_2 : ∀ n ∈ a2_2, (Lit.int .u8 n).wf = true) :
    Calls Try.prog 8 #[.agg #[.int .i64 a0_0, .int .i64 a0_1, .bool a0_2, .bool a0_3, .bool a0_4, .int .i64 a0_5, .string a0_6, .bool a0_7, .int .i64 a0_8], .int .i64 a1, .agg #[.int .i64 a2_0, .int .i64 a2_1, .slice Aa2_2 a2_2.length ca2_2]] w fun e w' => e = .returned (.bool true) ∧ Below w.heap.size w w' := by
  obtain ⟨h, h'⟩ := isB_two wa2_2
  obtain ⟨m, hm, hl⟩ := may_total 4 a2_0 a2_1 a2_2
  have HAW := Aside0.mk (fun (W : World) (_ : Below w.heap.size w W) => umpirelaw21_awake.calls true W rfl)
  have HMY := Aside0.mk (fun (W : World) (hb : Below w.heap.size w W) => PAuthBase.umpirelaw21_may.calls 5 a2_0 a2_1 Aa2_2 ca2_2 a2_2 m W (Kd.C_below ra2_2 hb) la2_2 hm)
  cases m
  · exact AuthHears_no _ _ _ _ _ _ _ _ _ _ _ _ Aa2_2 ca2_2 _ w HAW HMY
  · obtain ⟨tv, sn, er, ka, ks, e1, e2, _⟩ := hear_eq a0_0 a0_1 a0_2 a0_3 a0_4 a0_5 a0_6 a0_7 a0_8 a1 a2_0 a2_1 a2_2 h h' (hl rfl)
    have hD := hearP_len tv er ka ks a0_0 a0_1 a0_2 a0_3 a0_4 a0_5 a0_6 a0_7 a0_8 a1 a2_0 a2_1
    generalize hearP tv er ka ks a0_0 a0_1 a0_2 a0_3 a0_4 a0_5 a0_6 a0_7 a0_8 a1 a2_0 a2_1 = R at e1 e2 hD
    obtain ⟨r1, r2, r3, r4, r5, r6, r7, r8, r9, D⟩ := R
    obtain ⟨k, hk⟩ : ∃ k, PAuthBase.auth_Done.f a0_0 a0_1 a0_2 a0_3 a0_4 a0_5 a0_6 a0_7 a0_8 = some k := by
      unfold PAuthBase.auth_Done.f
      repeat (first | exact ⟨_, rfl⟩ | split)
    exact AuthHears_yes _ _ _ _ _ _ _ _ _ _ _ _ Aa2_2 ca2_2 _ r1 r2 r3 r4 r5 r6 r7 r8 r9 D k w HAW HMY ⟨fun W hb => PAuthBase.auth_Hear.calls 5 _ _ _ _ _ _ _ _ _ _ _ _ Aa2_2 ca2_2 a2_2 _ _ _ _ _ _ _ _ _ _ W (Kd.C_below ra2_2 hb) la2_2 e1⟩ ⟨fun W hb => umpireref21_Hear.calls _ _ _ _ _ _ _ _ _ _ _ _ Aa2_2 ca2_2 a2_2 _ _ _ _ _ _ _ _ _ _ W (Kd.C_below ra2_2 hb) la2_2 e2⟩
      ⟨fun W A1 c1 A2 c2 h1 q1 h2 q2 => PAuthBase.umpireref21_Same.calls 3 A1 c1 D A2 c2 D true W h1 q1 h2 q2 (same_eq D hD)⟩ ⟨fun W _ => PAuthBase.auth_Done.calls _ _ _ _ _ _ _ _ _ k W hk⟩ ⟨fun W _ => PAuthBase.umpireref21_Done.calls _ _ _ _ _ _ _ _ _ k W hk⟩
end Go.Proofs.Ytglbaeikklkghaa
