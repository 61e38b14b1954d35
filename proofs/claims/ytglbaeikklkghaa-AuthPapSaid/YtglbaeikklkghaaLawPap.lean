/-
  The law AuthPap: what isn't asked for is never owed, nor begun, and what is owed is owed to that packet; so the call returns true.
-/
import Derived.Test.YtglbaeikklkghaaAuthPlainP
import Derived.Test.YtglbaeikklkghaaWalkPap
import Derived.Test.YtglbaeikklkghaaAuthBegin
import Derived.Test.YtglbaeikklkghaaAuthAwake
namespace Go.Proofs.Ytglbaeikklkghaa
open Go.RowKit Go.Proofs.YtglbaeikklkghaaW.PrintWords Go.Proofs.YtglbaeikklkghaaW.PrintLast AuthHand AuthPlain
theorem nb_ways (x y p : Int) (hn : ((¬ x = p) ∧ ¬ y = p) ∨ ((¬ p = 49187) ∧ ¬ p = 49699)) : ((x != p) = true ∧ (y != p) = true) ∨ ((x != p) = false ∧ (p != 49187) = true ∧ (p != 49699) = true) ∨ ((x != p) = true ∧ (y != p) = false ∧ (p != 49187) = true ∧ (p != 49699) = true) := by
  simp only [bne_iff_ne, bne_eq_false_iff_eq, ne_eq]
  omega
theorem else_ways (x y p : Int) (hn : ¬ (((¬ x = p) ∧ ¬ y = p) ∨ ((¬ p = 49187) ∧ ¬ p = 49699))) : ((x != p) = false ∧ (p != 49187) = false) ∨ ((x != p) = false ∧ (p != 49187) = true ∧ (p != 49699) = false) ∨ ((x != p) = true ∧ (y != p) = false ∧ (p != 49187) = false) ∨ ((x != p) = true ∧ (y != p) = false ∧ (p != 49187) = true ∧ (p != 49699) = false) := by
  simp only [bne_iff_ne, bne_eq_false_iff_eq, ne_eq]
  omega
set_option maxHeartbeats 1000000 in
theorem authPap_law (a0_0 : Int) (a0_1 : Int) (a0_2 : Bool) (a0_3 : Bool) (a0_4 : Bool) (a0_5 : Int) (a0_6 : ByteArray) (a0_7 : Bool) (a0_8 : Int) (a1 : Int) (a2_0 : Int) (a2_1 : Int) (Aa2_2 : Option Addr) (ca2_2 : Nat) (a2_2 : List Int) (w : World) (_ : (Lit.int .i64 a0_0).wf = true) (_ : (Lit.int .i64 a0_1).wf = true) (_ : (Lit.int .i64 a0_5).wf = true) (_ : a0_6.size ≤ maxLen) (_ : (Lit.int .i64 a0_8).wf = true) (_ : (Lit.int .i64 a1).wf = true) (_ : (Lit.int .i64 a2_0).wf = true) (_ : (Lit.int .i64 a2_1).wf = true) (la2_2 : a2_2.length ≤ ca2_2) (ra2_2 : (Kd.int .u8).C w Aa2_2 a2_2.length a2_2) (wa2_2 : ∀ n ∈ a2_2, (Lit.int .u8 n).wf = true) :
    Calls Try.prog 10 #[.agg #[.int .i64 a0_0, .int .i64 a0_1, .bool a0_2, .bool a0_3, .bool a0_4, .int .i64 a0_5, .string a0_6, .bool a0_7, .int .i64 a0_8], .int .i64 a1, .agg #[.int .i64 a2_0, .int .i64 a2_1, .slice Aa2_2 a2_2.length ca2_2]] w fun e w' => e = .returned (.bool true) ∧ Below w.heap.size w w' := by
  obtain ⟨h, h'⟩ := isB_two wa2_2
  obtain ⟨m, hm, hl⟩ := may_total 4 a2_0 a2_1 a2_2
  have HAW := Aside0.mk (fun (W : World) (_ : Below w.heap.size w W) => umpirelaw21_awake.calls true W rfl)
  have HMY := Aside0.mk (fun (W : World) (hb : Below w.heap.size w W) => PAuthBase.umpirelaw21_may.calls 5 a2_0 a2_1 Aa2_2 ca2_2 a2_2 m W (Kd.C_below ra2_2 hb) la2_2 hm)
  cases m
  · exact AuthPap_no _ _ _ _ _ _ _ _ _ _ _ _ Aa2_2 ca2_2 _ w HAW HMY
  · obtain ⟨tv, er, ka, ks, e1⟩ := hear_is a0_0 a0_1 a0_2 a0_3 a0_4 a0_5 a0_6 a0_7 a0_8 a1 a2_0 a2_1 a2_2 h h' (hl rfl)
    obtain ⟨⟨s1, s2, s3, s4, s5, s6, s7, s8, s9, k⟩, e2, hk⟩ := begin_is a0_0 a0_1 a0_2 a0_3 a0_4 a0_5 a0_6 a0_7 a0_8 a1 a2_0 a2_1 a2_2 h h' (hl rfl)
    have HB := Aside0.mk (fun (W : World) (hb : Below w.heap.size w W) => auth_Begin.calls a0_0 a0_1 a0_2 a0_3 a0_4 a0_5 a0_6 a0_7 a0_8 a1 a2_0 a2_1 Aa2_2 ca2_2 a2_2 s1 s2 s3 s4 s5 s6 s7 s8 s9 k W (Kd.C_below ra2_2 hb) la2_2 e2)
    have HH := fun r1 r2 r3 r4 r5 r6 r7 r8 r9 r10 e => Aside0.mk (fun (W : World) (hb : Below w.heap.size w W) => PAuthBase.auth_Hear.calls 5 a0_0 a0_1 a0_2 a0_3 a0_4 a0_5 a0_6 a0_7 a0_8 a1 a2_0 a2_1 Aa2_2 ca2_2 a2_2 r1 r2 r3 r4 r5 r6 r7 r8 r9 r10 W (Kd.C_below ra2_2 hb) la2_2 (e1.trans e))
    by_cases hn : ((¬ a0_0 = a1) ∧ ¬ a0_1 = a1) ∨ ((¬ a1 = 49187) ∧ ¬ a1 = 49699)
    · obtain rfl : k = false := hk hn
      exact AuthPap_nb _ _ _ _ _ _ _ _ _ _ _ _ Aa2_2 ca2_2 _ s1 s2 s3 s4 s5 s6 s7 s8 s9 _ _ _ _ rfl rfl rfl rfl (nb_ways _ _ _ hn) w HAW HMY (HH _ _ _ _ _ _ _ _ _ _ (congrArg some (hearP_nb tv er ka ks a0_0 a0_1 a0_2 a0_3 a0_4 a0_5 a0_6 a0_7 a0_8 a1 a2_0 a2_1 hn))) HB
    · have H := else_ways a0_0 a0_1 a1 hn
      rcases hearP_else tv er ka ks a0_0 a0_1 a0_2 a0_3 a0_4 a0_5 a0_6 a0_7 a0_8 a1 a2_0 a2_1 with ⟨x3, x7, e⟩ | ⟨kd, sv, e⟩
      · exact AuthPap_none _ _ _ _ _ _ _ _ _ _ _ _ Aa2_2 ca2_2 _ s1 s2 s3 s4 s5 s6 s7 s8 s9 x3 x7 k _ _ _ _ rfl rfl rfl rfl H w HAW HMY (HH _ _ _ _ _ _ _ _ _ _ (congrArg some e)) HB
      · exact AuthPap_due _ _ _ _ _ _ _ _ _ _ _ _ Aa2_2 ca2_2 _ s1 s2 s3 s4 s5 s6 s7 s8 s9 a0_3 a0_7 k kd sv _ _ _ _ rfl rfl rfl rfl H w HAW HMY (HH _ _ _ _ _ _ _ _ _ _ (congrArg some e)) HB
end Go.Proofs.Ytglbaeikklkghaa
