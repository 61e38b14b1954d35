/-
  The law AuthKeeps: what was answered of a copy, which is turned behind it, is what the reference answers of the data; so the call returns true.
-/
import Derived.Test.YtglbaeikklkghaaLawHears
import Derived.Test.YtglbaeikklkghaaLawBegins
import Derived.Test.YtglbaeikklkghaaWalkKeeps
namespace Go.Proofs.Ytglbaeikklkghaa
open Go.RowKit Go.Proofs.YtglbaeikklkghaaW.PrintWords Go.Proofs.YtglbaeikklkghaaW.PrintLast AuthHand AuthPlain
theorem authKeeps_law (a0_0 : Int) (a0_1 : Int) (a0_2 : Bool) (a0_3 : Bool) (a0_4 : Bool) (a0_5 : Int) (a0_6 : ByteArray) (a0_7 : Bool) (a0_8 : Int) (a1 : Int) (a2_0 : Int) (a2_1 : Int) (Aa2_2 : Option Addr) (ca2_2 : Nat) (a2_2 : List Int) (w : World) (_ : (Lit.int .i64 a0_0).wf = true) (_ : (Lit.int .i64 a0_1).wf = true) (_ : (Lit.int .i64 a0_5).wf = true) (_ : a0_6.size ≤ maxLen) (_ : (Lit.int .i64 a0_8).wf = true) (_ : (Lit.int .i64 a1).wf = true) (_ : (Lit.int .i64 a2_0).wf = true) (_ : (Lit.int .i64 a2_1).wf = true) (la2_2 : a2_2.length ≤ ca2_2) (ra2_2 : (Kd.int .u8).C w Aa2_2 a2_2.length a2_2) (wa2_2 : ∀ n ∈ a2_2, (Lit.int .u8 n).wf = true) :
    Calls Try.prog 11 #[.agg #[.int .i64 a0_0, .int .i64 a0_1, .bool a0_2, .bool a0_3, .bool a0_4, .int .i64 a0_5, .string a0_6, .bool a0_7, .int .i64 a0_8], .int .i64 a1, .agg #[.int .i64 a2_0, .int .i64 a2_1, .slice Aa2_2 a2_2.length ca2_2]] w fun e w' => e = .returned (.bool true) ∧ Below w.heap.size w w' := by
  obtain ⟨h, h'⟩ := isB_two wa2_2
  obtain ⟨m, hm, hl⟩ := may_total 4 a2_0 a2_1 a2_2
  have HAW := Aside0.mk (fun (W : World) (_ : Below w.heap.size w W) => umpirelaw21_awake.calls true W rfl)
  have HMY := Aside0.mk (fun (W : World) (hb : Below w.heap.size w W) => PAuthBase.umpirelaw21_may.calls 5 a2_0 a2_1 Aa2_2 ca2_2 a2_2 m W (Kd.C_below ra2_2 hb) la2_2 hm)
  cases m
  · exact AuthKeeps_no _ _ _ _ _ _ _ _ _ _ _ _ Aa2_2 ca2_2 _ w HAW HMY
  · obtain ⟨tv, sn, er, ka, ks, e1, e2, _⟩ := hear_eq a0_0 a0_1 a0_2 a0_3 a0_4 a0_5 a0_6 a0_7 a0_8 a1 a2_0 a2_1 a2_2 h h' (hl rfl)
    have hD := hearP_len tv er ka ks a0_0 a0_1 a0_2 a0_3 a0_4 a0_5 a0_6 a0_7 a0_8 a1 a2_0 a2_1
    generalize hearP tv er ka ks a0_0 a0_1 a0_2 a0_3 a0_4 a0_5 a0_6 a0_7 a0_8 a1 a2_0 a2_1 = R at e1 e2 hD
    obtain ⟨r1, r2, r3, r4, r5, r6, r7, r8, r9, D⟩ := R
    obtain ⟨⟨s1, s2, s3, s4, s5, s6, s7, s8, s9, k⟩, f1, f2⟩ := begin_eq a0_0 a0_1 a0_2 a0_3 a0_4 a0_5 a0_6 a0_7 a0_8 a1 a2_0 a2_1 a2_2 h h' (hl rfl)
    exact AuthKeeps_yes _ _ _ _ _ _ _ _ _ _ _ _ Aa2_2 ca2_2 a2_2.length a2_2 r1 r2 r3 r4 r5 r6 r7 r8 r9 s1 s2 s3 s4 s5 s6 s7 s8 s9 D k w HAW HMY ⟨ra2_2⟩ (hl rfl)
      ⟨fun W A1 c1 hC hc => PAuthBase.auth_Hear.calls 5 _ _ _ _ _ _ _ _ _ _ _ _ A1 c1 a2_2 _ _ _ _ _ _ _ _ _ _ W hC hc e1⟩ ⟨fun W A1 c1 hC hc => auth_Begin.calls _ _ _ _ _ _ _ _ _ _ _ _ A1 c1 a2_2 _ _ _ _ _ _ _ _ _ _ W hC hc f1⟩
      ⟨fun W hb => umpireref21_Hear.calls _ _ _ _ _ _ _ _ _ _ _ _ Aa2_2 ca2_2 a2_2 _ _ _ _ _ _ _ _ _ _ W (Kd.C_below ra2_2 hb) la2_2 e2⟩ ⟨fun W hb => PAuthBase.umpireref21_Begin.calls 5 _ _ _ _ _ _ _ _ _ _ _ _ Aa2_2 ca2_2 a2_2 _ _ _ _ _ _ _ _ _ _ W (Kd.C_below ra2_2 hb) la2_2 f2⟩
      ⟨fun W A1 c1 A2 c2 h1 q1 h2 q2 => PAuthBase.umpireref21_Same.calls 3 A1 c1 D A2 c2 D true W h1 q1 h2 q2 (same_eq D hD)⟩
end Go.Proofs.Ytglbaeikklkghaa
