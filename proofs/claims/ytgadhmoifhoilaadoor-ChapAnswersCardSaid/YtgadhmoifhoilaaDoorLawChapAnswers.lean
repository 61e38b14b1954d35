/-
  The law ChapAnswers, walked.
-/
import Derived.Test.YtgadhmoifhoilaaDoorChapAwake
import Derived.Test.YtgadhmoifhoilaaDoorLaid
namespace Go.Proofs.YtgadhmoifhoilaaDoor.Chap
open Go.RowKit Go.Lib Go.Proofs.YtgadhmoifhoilaaDoorW.PrintWords Go.Proofs.YtgadhmoifhoilaaDoorW.PrintLast Go.Proofs.YtgadhmoifhoilaaDoorW.PrintMore Go.Proofs.YtgadhmoifhoilaaDoor.Kit Go.Proofs.YtgadhmoifhoilaaDoor.Md5
set_option linter.unusedVariables false
set_option linter.unusedSimpArgs false

set_option maxRecDepth 100000 in
set_option maxHeartbeats 4000000 in
theorem chapAnswers_law (a0 : Int) (a1 : ByteArray) (Aa2 : Option Addr) (ca2 : Nat) (a2 : List Int) (Aa3 : Option Addr) (ca3 : Nat) (a3 : List Int) (w : World) (wa0 : (Lit.int .i64 a0).wf = true) (ya1 : a1.size ≤ maxLen) (la2 : a2.length ≤ ca2) (ra2 : (Kd.int .u8).C w Aa2 a2.length a2) (wa2 : ∀ n ∈ a2, (Lit.int .u8 n).wf = true) (la3 : a3.length ≤ ca3) (ra3 : (Kd.int .u8).C w Aa3 a3.length a3) (wa3 : ∀ n ∈ a3, (Lit.int .u8 n).wf = true) (hLD : laidMetH Tryd.prog laid3 w) :
    Calls Tryd.prog 7 #[.int .i64 a0, .string a1, .slice Aa2 a2.length ca2, .slice Aa3 a3.length ca3] w fun e w' => e = .returned (.bool true) ∧ Below w.heap.size w w' := by
  have hIB := isB_of_wf wa2
  obtain ⟨hG, h3⟩ := of_laid hLD
  have hml : a1.size ≤ 9223372036854775807 := ya1
  have hn2 := ra2.2.1
  have hn3 := ra3.2.1
  have HAW := Aside0.mk (show ∀ W, Below w.heap.size w W → Calls Tryd.prog 16 #[] W fun e w' => e = .returned (.bool true) ∧ Below W.heap.size W w' from fun W hb => awake_calls W (hG.below hb h3) (Nat.le_trans h3 hb.size))
  have HB := Aside0.mk (Below.refl w.heap.size w)
  by_cases hsm : a1.size ≤ 1000 ∧ a2.length ≤ 1000 ∧ a3.length ≤ 1000
  case neg =>
    obtain ⟨L2, hL2⟩ : ∃ L, a2.length = L := ⟨_, rfl⟩
    obtain ⟨L3, hL3⟩ : ∃ L, a3.length = L := ⟨_, rfl⟩
    rw [hL2, hL3] at hsm ⊢
    rw [hL2] at la2 hn2
    rw [hL3] at la3 hn3
    clear wa2 ra2 wa3 ra3 hLD hG h3 hL2 hL3 hIB wa0 ya1
    have hbig : (1000 < a1.size) ∨ (a1.size ≤ 1000 ∧ 1000 < L2) ∨ (a1.size ≤ 1000 ∧ L2 ≤ 1000 ∧ 1000 < L3) := by omega
    clear hsm
    rcases hbig with hbig | ⟨hb0, hbig⟩ | ⟨hb0, hb1, hbig⟩
    all_goals go_enter Tryd.func7, Tryd.ntmps7
    all_goals go_wp2_with (first | (go_at_call 16; (with_reducible refine (HAW.out _ HB.out).mono ?_); rintro e wq ⟨rfl, hbn⟩; have HB_ := Aside0.mk (below_step HB.out hbn); clear HB hbn; have HB := HB_; clear HB_))
    all_goals go_ret
    all_goals exact ⟨rfl, HB.out⟩
  case pos =>
    obtain ⟨hs1, hl2, hl3⟩ := hsm
    have HC := Aside0.mk ra2
    have HC3 := Aside0.mk ra3
    have HG := Aside0.mk hG
    have HH3 := Aside0.mk h3
    obtain ⟨o0, o1, o2, o3, o4, o5, o6, o7, o8, o9, o10, o11, o12, o13, o14, o15, hO⟩ := out_cells (ansOf a0 a1 a2)
    obtain ⟨b, hb⟩ : ∃ b, rightF a0 a1 a2 a3 = b := ⟨_, rfl⟩
    have HAN := Aside0.mk (show ∀ W, Below w.heap.size w W → Calls Tryd.prog 22 #[.int .i64 a0, .string a1, .slice Aa2 a2.length ca2] W fun e w' => e = .returned (.agg #[.int .u8 o0, .int .u8 o1, .int .u8 o2, .int .u8 o3, .int .u8 o4, .int .u8 o5, .int .u8 o6, .int .u8 o7, .int .u8 o8, .int .u8 o9, .int .u8 o10, .int .u8 o11, .int .u8 o12, .int .u8 o13, .int .u8 o14, .int .u8 o15]) ∧ Below W.heap.size W w' from fun W hb => by rw [← hO]; exact answer_calls a0 a1 Aa2 ca2 a2 W (Kd.C_below HC.out hb) la2 hIB (by omega) (by omega))
    have HRA := Aside0.mk (show ∀ W, Below w.heap.size w W → Calls Tryd.prog 23 #[.int .i64 a0, .string a1, .slice Aa2 a2.length ca2] W fun e w' => e = .returned (.agg #[.int .u8 o0, .int .u8 o1, .int .u8 o2, .int .u8 o3, .int .u8 o4, .int .u8 o5, .int .u8 o6, .int .u8 o7, .int .u8 o8, .int .u8 o9, .int .u8 o10, .int .u8 o11, .int .u8 o12, .int .u8 o13, .int .u8 o14, .int .u8 o15]) ∧ Below W.heap.size W w' from fun W hb => by rw [← hO]; exact refanswer_calls a0 a1 Aa2 ca2 a2 W (Kd.C_below HC.out hb) la2 hIB (by omega) (by omega) (HG.out.below hb HH3.out) (Nat.le_trans HH3.out hb.size))
    have HRI := Aside0.mk (show ∀ W, Below w.heap.size w W → Calls Tryd.prog 24 #[.int .i64 a0, .string a1, .slice Aa2 a2.length ca2, .slice Aa3 a3.length ca3] W fun e w' => e = .returned (.bool b) ∧ Below W.heap.size W w' from fun W hb' => by rw [← hb]; exact right_calls a0 a1 Aa2 ca2 a2 Aa3 ca3 a3 W (Kd.C_below HC.out hb') la2 hIB (by omega) (by omega) (Kd.C_below HC3.out hb') la3)
    have HRR := Aside0.mk (show ∀ W, Below w.heap.size w W → Calls Tryd.prog 25 #[.int .i64 a0, .string a1, .slice Aa2 a2.length ca2, .slice Aa3 a3.length ca3] W fun e w' => e = .returned (.bool b) ∧ Below W.heap.size W w' from fun W hb' => by rw [← hb]; exact refright_calls a0 a1 Aa2 ca2 a2 Aa3 ca3 a3 W (Kd.C_below HC.out hb') la2 hIB (by omega) (by omega) (Kd.C_below HC3.out hb') la3 (HG.out.below hb' HH3.out) (Nat.le_trans HH3.out hb'.size))
    have heq : ∀ W, (binOp .eql 24 (.agg #[.int .u8 o0, .int .u8 o1, .int .u8 o2, .int .u8 o3, .int .u8 o4, .int .u8 o5, .int .u8 o6, .int .u8 o7, .int .u8 o8, .int .u8 o9, .int .u8 o10, .int .u8 o11, .int .u8 o12, .int .u8 o13, .int .u8 o14, .int .u8 o15]) (.agg #[.int .u8 o0, .int .u8 o1, .int .u8 o2, .int .u8 o3, .int .u8 o4, .int .u8 o5, .int .u8 o6, .int .u8 o7, .int .u8 o8, .int .u8 o9, .int .u8 o10, .int .u8 o11, .int .u8 o12, .int .u8 o13, .int .u8 o14, .int .u8 o15])).run Tryd.prog W = .ok (.bool true) W := fun W => by rw [eq16g]; simp
    obtain ⟨L2, hL2⟩ : ∃ L, a2.length = L := ⟨_, rfl⟩
    obtain ⟨L3, hL3⟩ : ∃ L, a3.length = L := ⟨_, rfl⟩
    rw [hL2] at hl2 la2 hn2 HAN HRA HRI HRR ⊢
    rw [hL3] at hl3 la3 hn3 HRI HRR ⊢
    clear wa2 ra2 wa3 ra3 hLD hG h3 hL2 hL3 hIB wa0 ya1 HC HC3 hO hb HG HH3
    cases b
    all_goals go_enter Tryd.func7, Tryd.ntmps7
    all_goals go_wp2_with (first | (go_at_call 16; (with_reducible refine (HAW.out _ HB.out).mono ?_); rintro e wq ⟨rfl, hbn⟩; have HB_ := Aside0.mk (below_step HB.out hbn); clear HB hbn; have HB := HB_; clear HB_) | (go_at_call 22; (with_reducible refine (HAN.out _ HB.out).mono ?_); rintro e wq ⟨rfl, hbn⟩; have HB_ := Aside0.mk (below_step HB.out hbn); clear HB hbn; have HB := HB_; clear HB_) | (go_at_call 23; (with_reducible refine (HRA.out _ HB.out).mono ?_); rintro e wq ⟨rfl, hbn⟩; have HB_ := Aside0.mk (below_step HB.out hbn); clear HB hbn; have HB := HB_; clear HB_) | (go_at_call 24; (with_reducible refine (HRI.out _ HB.out).mono ?_); rintro e wq ⟨rfl, hbn⟩; have HB_ := Aside0.mk (below_step HB.out hbn); clear HB hbn; have HB := HB_; clear HB_) | (go_at_call 25; (with_reducible refine (HRR.out _ HB.out).mono ?_); rintro e wq ⟨rfl, hbn⟩; have HB_ := Aside0.mk (below_step HB.out hbn); clear HB hbn; have HB := HB_; clear HB_))
    all_goals go_ret
    all_goals exact ⟨by first | rfl | simp, HB.out⟩
end Go.Proofs.YtgadhmoifhoilaaDoor.Chap
