/-
  The law AuthAnswers, walked over its calls.
-/
import Derived.Test.YtgadhmoifhoilaaDoorAnsB
import Derived.Test.YtgadhmoifhoilaaDoorWWords
import Derived.Test.YtgadhmoifhoilaaDoorAuthAwake
import Derived.Deep.RegionHeld3
import Derived.Deep.DrawnRows
namespace Go.Proofs.YtgadhmoifhoilaaDoor.Ans
open Go.RowKit Go.Lib Go.Proofs.YtgadhmoifhoilaaDoorW.PrintWords Go.Proofs.YtgadhmoifhoilaaDoorW.PrintLast Go.Proofs.YtgadhmoifhoilaaDoorW.PrintMore Go.Proofs.YtgadhmoifhoilaaDoor.Kit
set_option linter.unusedVariables false
set_option linter.unusedSimpArgs false
theorem set9_blk {W : World} {b k : Nat} {o : Obj} (h : W.heap[k]? = some o) (hk : k ≠ b) (v0 v1 v2 v3 v4 v5 v6 v7 v8 : Value) : (set9 W b v0 v1 v2 v3 v4 v5 v6 v7 v8).heap[k]? = some o := by
 unfold set9
 rw [Below.heap_setCell _ _ _ k hk, Below.heap_setCell _ _ _ k hk, Below.heap_setCell _ _ _ k hk, Below.heap_setCell _ _ _ k hk, Below.heap_setCell _ _ _ k hk, Below.heap_setCell _ _ _ k hk, Below.heap_setCell _ _ _ k hk, Below.heap_setCell _ _ _ k hk, Below.heap_setCell _ _ _ k hk]
 exact h
theorem eqL (d : Nat) (w : World) (x0 y0 : Int) (x1 y1 : Int) (x2 y2 : Bool) (x3 y3 : Bool) (x4 y4 : Bool) (x5 y5 : Int) (x6 y6 : ByteArray) (x7 y7 : Bool) (x8 y8 : Int) :
  (Op.equalIn (d + 2) 50 (.agg #[.int .i64 x0, .int .i64 x1, .bool x2, .bool x3, .bool x4, .int .i64 x5, .string x6, .bool x7, .int .i64 x8]) (.agg #[.int .i64 y0, .int .i64 y1, .bool y2, .bool y3, .bool y4, .int .i64 y5, .string y6, .bool y7, .int .i64 y8])).run Tryd.prog w = .ok (x0 == y0 && (x1 == y1 && (x2 == y2 && (x3 == y3 && (x4 == y4 && (x5 == y5 && (x6.toList == y6.toList && (x7 == y7 && (x8 == y8))))))))) w := by
 refine eqA_of Tryd.underlying50 (by kernel_rfl) ?_
 refine eqf_cons (by rfl) (by go_simp; rfl) (by go_simp; rfl) (by go_simp) ?_
 refine eqf_cons (by rfl) (by go_simp; rfl) (by go_simp; rfl) (by go_simp) ?_
 refine eqf_cons (by rfl) (by go_simp; rfl) (by go_simp; rfl) (by go_simp) ?_
 refine eqf_cons (by rfl) (by go_simp; rfl) (by go_simp; rfl) (by go_simp) ?_
 refine eqf_cons (by rfl) (by go_simp; rfl) (by go_simp; rfl) (by go_simp) ?_
 refine eqf_cons (by rfl) (by go_simp; rfl) (by go_simp; rfl) (by go_simp) ?_
 refine eqf_cons (by rfl) (by go_simp; rfl) (by go_simp; rfl) (by go_simp) ?_
 refine eqf_cons (by rfl) (by go_simp; rfl) (by go_simp; rfl) (by go_simp) ?_
 exact eqf_last (by rfl) (by go_simp; rfl) (by go_simp; rfl) (by go_simp)
attribute [local go_sem high] eqL
section
attribute [local go_sem ↓] Go.wp_at_zero Go.wp_at_succ
set_option maxRecDepth 100000 in
set_option maxHeartbeats 4000000 in
theorem answers_no (x0 x1 x2 x3 : Int) (x4 x5 : ByteArray) (x6 x7 : Int) (x8 : Bool) (l0 l1 : Int) (l2 l3 l4 : Bool) (l5 : Int) (l6 : ByteArray) (l7 : Bool) (l8 a2 : Int) (p0 p1 : Int) (Ap : Option Addr) (cp Lp : Nat) (q0 q1 : Int) (Aq : Option Addr) (cq Lq : Nat) (a5 : Int) (m1 m2 : Bool) (w : World) (hl4 : x4.size ≤ 9223372036854775807) (hl5 : x5.size ≤ 9223372036854775807) (hl6 : l6.size ≤ 9223372036854775807) (HAW : Aside0 (∀ W, Below w.heap.size w W → Calls Tryd.prog 26 #[] W fun e w' => e = .returned (.bool true) ∧ Below W.heap.size W w')) (HM1 : Aside0 (∀ W, Below w.heap.size w W → Calls Tryd.prog 27 #[.agg #[.int .i64 p0, .int .i64 p1, .slice Ap Lp cp]] W fun e w' => e = .returned (.bool m1) ∧ Below W.heap.size W w')) (HM2 : Aside0 (∀ W, Below w.heap.size w W → Calls Tryd.prog 27 #[.agg #[.int .i64 q0, .int .i64 q1, .slice Aq Lq cq]] W fun e w' => e = .returned (.bool m2) ∧ Below W.heap.size W w'))
  (H : m1 = false ∨ (m1 = true ∧ m2 = false) ∨ (m1 = true ∧ m2 = true ∧ ((200 : Nat) < x4.size ∨ (x4.size ≤ 200 ∧ 200 < x5.size) ∨ (x4.size ≤ 200 ∧ x5.size ≤ 200 ∧ 1000 < l6.size)))) :
  Calls Tryd.prog 11 #[.agg #[.int .i64 x0, .int .i64 x1, .int .i64 x2, .int .i64 x3, .string x4, .string x5, .int .i64 x6, .int .u32 x7, .bool x8], .agg #[.int .i64 l0, .int .i64 l1, .bool l2, .bool l3, .bool l4, .int .i64 l5, .string l6, .bool l7, .int .i64 l8], .int .i64 a2, .agg #[.int .i64 p0, .int .i64 p1, .slice Ap Lp cp], .agg #[.int .i64 q0, .int .i64 q1, .slice Aq Lq cq], .int .i64 a5] w fun e w' => e = .returned (.bool true) ∧ Below w.heap.size w w' := by
 have HB := Aside0.mk (Below.refl w.heap.size w)
 go_enter Tryd.func11, Tryd.ntmps11
 go_upto_region 1 with (fail)
 (try simp only [Act.put, List.setIfInBounds_toArray, List.set_cons_zero, List.set_cons_succ])
 have yk := blk4 w (.cells #[.int .i64 x0, .int .i64 x1, .int .i64 x2, .int .i64 x3, .string x4, .string x5, .int .i64 x6, .int .u32 x7, .bool x8] 48) (.cells #[.int .i64 l0, .int .i64 l1, .bool l2, .bool l3, .bool l4, .int .i64 l5, .string l6, .bool l7, .int .i64 l8] 50) (.cells #[.int .i64 p0, .int .i64 p1, .slice Ap Lp cp] 52) (.cells #[.int .i64 q0, .int .i64 q1, .slice Aq Lq cq] 52)
 have yB : Below w.heap.size w ((((w.alloc (.cells #[.int .i64 x0, .int .i64 x1, .int .i64 x2, .int .i64 x3, .string x4, .string x5, .int .i64 x6, .int .u32 x7, .bool x8] 48)).alloc (.cells #[.int .i64 l0, .int .i64 l1, .bool l2, .bool l3, .bool l4, .int .i64 l5, .string l6, .bool l7, .int .i64 l8] 50)).alloc (.cells #[.int .i64 p0, .int .i64 p1, .slice Ap Lp cp] 52)).alloc (.cells #[.int .i64 q0, .int .i64 q1, .slice Aq Lq cq] 52)) := (below_alloc (below_alloc (below_alloc (below_alloc (Below.refl _ _) _) _) _) _)
 generalize ((((w.alloc (.cells #[.int .i64 x0, .int .i64 x1, .int .i64 x2, .int .i64 x3, .string x4, .string x5, .int .i64 x6, .int .u32 x7, .bool x8] 48)).alloc (.cells #[.int .i64 l0, .int .i64 l1, .bool l2, .bool l3, .bool l4, .int .i64 l5, .string l6, .bool l7, .int .i64 l8] 50)).alloc (.cells #[.int .i64 p0, .int .i64 p1, .slice Ap Lp cp] 52)).alloc (.cells #[.int .i64 q0, .int .i64 q1, .slice Aq Lq cq] 52)) = wq at yk yB ⊢
 obtain ⟨gw, hgw⟩ : ∃ g, w.heap.size + 1 + 1 + 1 = g := ⟨_, rfl⟩
 obtain ⟨gp, hgp⟩ : ∃ g, w.heap.size + 1 + 1 = g := ⟨_, rfl⟩
 obtain ⟨gl, hgl⟩ : ∃ g, w.heap.size + 1 = g := ⟨_, rfl⟩
 rw [hgw] at yk ⊢
 rw [hgp] at yk ⊢
 rw [hgl] at yk ⊢
 clear hgw hgp hgl
 obtain ⟨yHC, yHL, yHP, yHW⟩ := yk
 have HC := Aside0.mk yHC
 clear yHC
 have HL := Aside0.mk yHL
 clear yHL
 have HP := Aside0.mk yHP
 clear yHP
 have HW := Aside0.mk yHW
 clear yHW
 replace HB := Aside0.mk yB
 clear yB
 obtain ⟨c_0, c_1, c_2, c_3, c_4, c_5, c_6, c_7, c_8, c_f0, c_f1, c_f2, c_f3, c_f4, c_f5, c_f6, c_f7, c_f8⟩ := cells9 HC.out
 obtain ⟨m_0, m_1, m_2, m_3, m_4, m_5, m_6, m_7, m_8, m_f0, m_f1, m_f2, m_f3, m_f4, m_f5, m_f6, m_f7, m_f8⟩ := cells9 HL.out
 obtain ⟨p_0, p_1, p_2, p_f0, p_f1, p_f2⟩ := cells3 HP.out
 obtain ⟨q_0, q_1, q_2, q_f0, q_f1, q_f2⟩ := cells3 HW.out
 rcases H with rfl | ⟨rfl, rfl⟩ | ⟨rfl, rfl, hs⟩
 ·go_wp2_with (first | (go_at_call 26; (with_reducible refine (HAW.out _ HB.out).mono ?_); rintro e wq ⟨rfl, hbn⟩; clear c_0 c_f0 c_1 c_f1 c_2 c_f2 c_3 c_f3 c_4 c_f4 c_5 c_f5 c_6 c_f6 c_7 c_f7 c_8 c_f8; clear m_0 m_f0 m_1 m_f1 m_2 m_f2 m_3 m_f3 m_4 m_f4 m_5 m_f5 m_6 m_f6 m_7 m_f7 m_8 m_f8; clear p_0 p_f0 p_1 p_f1 p_2 p_f2; clear q_0 q_f0 q_1 q_f1 q_2 q_f2; replace HC := Aside0.mk (blk_below HC.out hbn); replace HL := Aside0.mk (blk_below HL.out hbn); replace HP := Aside0.mk (blk_below HP.out hbn); replace HW := Aside0.mk (blk_below HW.out hbn); replace HB := Aside0.mk (below_step HB.out hbn); clear hbn; obtain ⟨c_0, c_1, c_2, c_3, c_4, c_5, c_6, c_7, c_8, c_f0, c_f1, c_f2, c_f3, c_f4, c_f5, c_f6, c_f7, c_f8⟩ := cells9 HC.out; obtain ⟨m_0, m_1, m_2, m_3, m_4, m_5, m_6, m_7, m_8, m_f0, m_f1, m_f2, m_f3, m_f4, m_f5, m_f6, m_f7, m_f8⟩ := cells9 HL.out; obtain ⟨p_0, p_1, p_2, p_f0, p_f1, p_f2⟩ := cells3 HP.out; obtain ⟨q_0, q_1, q_2, q_f0, q_f1, q_f2⟩ := cells3 HW.out) | (go_at_call 27; (with_reducible refine (HM1.out _ HB.out).mono ?_); rintro e wq ⟨rfl, hbn⟩; clear c_0 c_f0 c_1 c_f1 c_2 c_f2 c_3 c_f3 c_4 c_f4 c_5 c_f5 c_6 c_f6 c_7 c_f7 c_8 c_f8; clear m_0 m_f0 m_1 m_f1 m_2 m_f2 m_3 m_f3 m_4 m_f4 m_5 m_f5 m_6 m_f6 m_7 m_f7 m_8 m_f8; clear p_0 p_f0 p_1 p_f1 p_2 p_f2; clear q_0 q_f0 q_1 q_f1 q_2 q_f2; replace HC := Aside0.mk (blk_below HC.out hbn); replace HL := Aside0.mk (blk_below HL.out hbn); replace HP := Aside0.mk (blk_below HP.out hbn); replace HW := Aside0.mk (blk_below HW.out hbn); replace HB := Aside0.mk (below_step HB.out hbn); clear hbn; obtain ⟨c_0, c_1, c_2, c_3, c_4, c_5, c_6, c_7, c_8, c_f0, c_f1, c_f2, c_f3, c_f4, c_f5, c_f6, c_f7, c_f8⟩ := cells9 HC.out; obtain ⟨m_0, m_1, m_2, m_3, m_4, m_5, m_6, m_7, m_8, m_f0, m_f1, m_f2, m_f3, m_f4, m_f5, m_f6, m_f7, m_f8⟩ := cells9 HL.out; obtain ⟨p_0, p_1, p_2, p_f0, p_f1, p_f2⟩ := cells3 HP.out; obtain ⟨q_0, q_1, q_2, q_f0, q_f1, q_f2⟩ := cells3 HW.out) | (go_at_call 27; (with_reducible refine (HM2.out _ HB.out).mono ?_); rintro e wq ⟨rfl, hbn⟩; clear c_0 c_f0 c_1 c_f1 c_2 c_f2 c_3 c_f3 c_4 c_f4 c_5 c_f5 c_6 c_f6 c_7 c_f7 c_8 c_f8; clear m_0 m_f0 m_1 m_f1 m_2 m_f2 m_3 m_f3 m_4 m_f4 m_5 m_f5 m_6 m_f6 m_7 m_f7 m_8 m_f8; clear p_0 p_f0 p_1 p_f1 p_2 p_f2; clear q_0 q_f0 q_1 q_f1 q_2 q_f2; replace HC := Aside0.mk (blk_below HC.out hbn); replace HL := Aside0.mk (blk_below HL.out hbn); replace HP := Aside0.mk (blk_below HP.out hbn); replace HW := Aside0.mk (blk_below HW.out hbn); replace HB := Aside0.mk (below_step HB.out hbn); clear hbn; obtain ⟨c_0, c_1, c_2, c_3, c_4, c_5, c_6, c_7, c_8, c_f0, c_f1, c_f2, c_f3, c_f4, c_f5, c_f6, c_f7, c_f8⟩ := cells9 HC.out; obtain ⟨m_0, m_1, m_2, m_3, m_4, m_5, m_6, m_7, m_8, m_f0, m_f1, m_f2, m_f3, m_f4, m_f5, m_f6, m_f7, m_f8⟩ := cells9 HL.out; obtain ⟨p_0, p_1, p_2, p_f0, p_f1, p_f2⟩ := cells3 HP.out; obtain ⟨q_0, q_1, q_2, q_f0, q_f1, q_f2⟩ := cells3 HW.out))
  go_ret
  exact ⟨rfl, HB.out⟩
 ·go_wp2_with (first | (go_at_call 26; (with_reducible refine (HAW.out _ HB.out).mono ?_); rintro e wq ⟨rfl, hbn⟩; clear c_0 c_f0 c_1 c_f1 c_2 c_f2 c_3 c_f3 c_4 c_f4 c_5 c_f5 c_6 c_f6 c_7 c_f7 c_8 c_f8; clear m_0 m_f0 m_1 m_f1 m_2 m_f2 m_3 m_f3 m_4 m_f4 m_5 m_f5 m_6 m_f6 m_7 m_f7 m_8 m_f8; clear p_0 p_f0 p_1 p_f1 p_2 p_f2; clear q_0 q_f0 q_1 q_f1 q_2 q_f2; replace HC := Aside0.mk (blk_below HC.out hbn); replace HL := Aside0.mk (blk_below HL.out hbn); replace HP := Aside0.mk (blk_below HP.out hbn); replace HW := Aside0.mk (blk_below HW.out hbn); replace HB := Aside0.mk (below_step HB.out hbn); clear hbn; obtain ⟨c_0, c_1, c_2, c_3, c_4, c_5, c_6, c_7, c_8, c_f0, c_f1, c_f2, c_f3, c_f4, c_f5, c_f6, c_f7, c_f8⟩ := cells9 HC.out; obtain ⟨m_0, m_1, m_2, m_3, m_4, m_5, m_6, m_7, m_8, m_f0, m_f1, m_f2, m_f3, m_f4, m_f5, m_f6, m_f7, m_f8⟩ := cells9 HL.out; obtain ⟨p_0, p_1, p_2, p_f0, p_f1, p_f2⟩ := cells3 HP.out; obtain ⟨q_0, q_1, q_2, q_f0, q_f1, q_f2⟩ := cells3 HW.out) | (go_at_call 27; (with_reducible refine (HM1.out _ HB.out).mono ?_); rintro e wq ⟨rfl, hbn⟩; clear c_0 c_f0 c_1 c_f1 c_2 c_f2 c_3 c_f3 c_4 c_f4 c_5 c_f5 c_6 c_f6 c_7 c_f7 c_8 c_f8; clear m_0 m_f0 m_1 m_f1 m_2 m_f2 m_3 m_f3 m_4 m_f4 m_5 m_f5 m_6 m_f6 m_7 m_f7 m_8 m_f8; clear p_0 p_f0 p_1 p_f1 p_2 p_f2; clear q_0 q_f0 q_1 q_f1 q_2 q_f2; replace HC := Aside0.mk (blk_below HC.out hbn); replace HL := Aside0.mk (blk_below HL.out hbn); replace HP := Aside0.mk (blk_below HP.out hbn); replace HW := Aside0.mk (blk_below HW.out hbn); replace HB := Aside0.mk (below_step HB.out hbn); clear hbn; obtain ⟨c_0, c_1, c_2, c_3, c_4, c_5, c_6, c_7, c_8, c_f0, c_f1, c_f2, c_f3, c_f4, c_f5, c_f6, c_f7, c_f8⟩ := cells9 HC.out; obtain ⟨m_0, m_1, m_2, m_3, m_4, m_5, m_6, m_7, m_8, m_f0, m_f1, m_f2, m_f3, m_f4, m_f5, m_f6, m_f7, m_f8⟩ := cells9 HL.out; obtain ⟨p_0, p_1, p_2, p_f0, p_f1, p_f2⟩ := cells3 HP.out; obtain ⟨q_0, q_1, q_2, q_f0, q_f1, q_f2⟩ := cells3 HW.out) | (go_at_call 27; (with_reducible refine (HM2.out _ HB.out).mono ?_); rintro e wq ⟨rfl, hbn⟩; clear c_0 c_f0 c_1 c_f1 c_2 c_f2 c_3 c_f3 c_4 c_f4 c_5 c_f5 c_6 c_f6 c_7 c_f7 c_8 c_f8; clear m_0 m_f0 m_1 m_f1 m_2 m_f2 m_3 m_f3 m_4 m_f4 m_5 m_f5 m_6 m_f6 m_7 m_f7 m_8 m_f8; clear p_0 p_f0 p_1 p_f1 p_2 p_f2; clear q_0 q_f0 q_1 q_f1 q_2 q_f2; replace HC := Aside0.mk (blk_below HC.out hbn); replace HL := Aside0.mk (blk_below HL.out hbn); replace HP := Aside0.mk (blk_below HP.out hbn); replace HW := Aside0.mk (blk_below HW.out hbn); replace HB := Aside0.mk (below_step HB.out hbn); clear hbn; obtain ⟨c_0, c_1, c_2, c_3, c_4, c_5, c_6, c_7, c_8, c_f0, c_f1, c_f2, c_f3, c_f4, c_f5, c_f6, c_f7, c_f8⟩ := cells9 HC.out; obtain ⟨m_0, m_1, m_2, m_3, m_4, m_5, m_6, m_7, m_8, m_f0, m_f1, m_f2, m_f3, m_f4, m_f5, m_f6, m_f7, m_f8⟩ := cells9 HL.out; obtain ⟨p_0, p_1, p_2, p_f0, p_f1, p_f2⟩ := cells3 HP.out; obtain ⟨q_0, q_1, q_2, q_f0, q_f1, q_f2⟩ := cells3 HW.out))
  go_ret
  exact ⟨rfl, HB.out⟩
 ·rcases hs with hs | ⟨hs0, hs⟩ | ⟨hs0, hs1, hs⟩
  all_goals go_wp2_with (first | (go_at_call 26; (with_reducible refine (HAW.out _ HB.out).mono ?_); rintro e wq ⟨rfl, hbn⟩; clear c_0 c_f0 c_1 c_f1 c_2 c_f2 c_3 c_f3 c_4 c_f4 c_5 c_f5 c_6 c_f6 c_7 c_f7 c_8 c_f8; clear m_0 m_f0 m_1 m_f1 m_2 m_f2 m_3 m_f3 m_4 m_f4 m_5 m_f5 m_6 m_f6 m_7 m_f7 m_8 m_f8; clear p_0 p_f0 p_1 p_f1 p_2 p_f2; clear q_0 q_f0 q_1 q_f1 q_2 q_f2; replace HC := Aside0.mk (blk_below HC.out hbn); replace HL := Aside0.mk (blk_below HL.out hbn); replace HP := Aside0.mk (blk_below HP.out hbn); replace HW := Aside0.mk (blk_below HW.out hbn); replace HB := Aside0.mk (below_step HB.out hbn); clear hbn; obtain ⟨c_0, c_1, c_2, c_3, c_4, c_5, c_6, c_7, c_8, c_f0, c_f1, c_f2, c_f3, c_f4, c_f5, c_f6, c_f7, c_f8⟩ := cells9 HC.out; obtain ⟨m_0, m_1, m_2, m_3, m_4, m_5, m_6, m_7, m_8, m_f0, m_f1, m_f2, m_f3, m_f4, m_f5, m_f6, m_f7, m_f8⟩ := cells9 HL.out; obtain ⟨p_0, p_1, p_2, p_f0, p_f1, p_f2⟩ := cells3 HP.out; obtain ⟨q_0, q_1, q_2, q_f0, q_f1, q_f2⟩ := cells3 HW.out) | (go_at_call 27; (with_reducible refine (HM1.out _ HB.out).mono ?_); rintro e wq ⟨rfl, hbn⟩; clear c_0 c_f0 c_1 c_f1 c_2 c_f2 c_3 c_f3 c_4 c_f4 c_5 c_f5 c_6 c_f6 c_7 c_f7 c_8 c_f8; clear m_0 m_f0 m_1 m_f1 m_2 m_f2 m_3 m_f3 m_4 m_f4 m_5 m_f5 m_6 m_f6 m_7 m_f7 m_8 m_f8; clear p_0 p_f0 p_1 p_f1 p_2 p_f2; clear q_0 q_f0 q_1 q_f1 q_2 q_f2; replace HC := Aside0.mk (blk_below HC.out hbn); replace HL := Aside0.mk (blk_below HL.out hbn); replace HP := Aside0.mk (blk_below HP.out hbn); replace HW := Aside0.mk (blk_below HW.out hbn); replace HB := Aside0.mk (below_step HB.out hbn); clear hbn; obtain ⟨c_0, c_1, c_2, c_3, c_4, c_5, c_6, c_7, c_8, c_f0, c_f1, c_f2, c_f3, c_f4, c_f5, c_f6, c_f7, c_f8⟩ := cells9 HC.out; obtain ⟨m_0, m_1, m_2, m_3, m_4, m_5, m_6, m_7, m_8, m_f0, m_f1, m_f2, m_f3, m_f4, m_f5, m_f6, m_f7, m_f8⟩ := cells9 HL.out; obtain ⟨p_0, p_1, p_2, p_f0, p_f1, p_f2⟩ := cells3 HP.out; obtain ⟨q_0, q_1, q_2, q_f0, q_f1, q_f2⟩ := cells3 HW.out) | (go_at_call 27; (with_reducible refine (HM2.out _ HB.out).mono ?_); rintro e wq ⟨rfl, hbn⟩; clear c_0 c_f0 c_1 c_f1 c_2 c_f2 c_3 c_f3 c_4 c_f4 c_5 c_f5 c_6 c_f6 c_7 c_f7 c_8 c_f8; clear m_0 m_f0 m_1 m_f1 m_2 m_f2 m_3 m_f3 m_4 m_f4 m_5 m_f5 m_6 m_f6 m_7 m_f7 m_8 m_f8; clear p_0 p_f0 p_1 p_f1 p_2 p_f2; clear q_0 q_f0 q_1 q_f1 q_2 q_f2; replace HC := Aside0.mk (blk_below HC.out hbn); replace HL := Aside0.mk (blk_below HL.out hbn); replace HP := Aside0.mk (blk_below HP.out hbn); replace HW := Aside0.mk (blk_below HW.out hbn); replace HB := Aside0.mk (below_step HB.out hbn); clear hbn; obtain ⟨c_0, c_1, c_2, c_3, c_4, c_5, c_6, c_7, c_8, c_f0, c_f1, c_f2, c_f3, c_f4, c_f5, c_f6, c_f7, c_f8⟩ := cells9 HC.out; obtain ⟨m_0, m_1, m_2, m_3, m_4, m_5, m_6, m_7, m_8, m_f0, m_f1, m_f2, m_f3, m_f4, m_f5, m_f6, m_f7, m_f8⟩ := cells9 HL.out; obtain ⟨p_0, p_1, p_2, p_f0, p_f1, p_f2⟩ := cells3 HP.out; obtain ⟨q_0, q_1, q_2, q_f0, q_f1, q_f2⟩ := cells3 HW.out))
  all_goals go_ret
  all_goals exact ⟨rfl, HB.out⟩
set_option maxRecDepth 100000 in
set_option maxHeartbeats 8000000 in
theorem answers_none (x0 x1 x2 x3 : Int) (x4 x5 : ByteArray) (x6 x7 : Int) (x8 : Bool) (l0 l1 : Int) (l2 l3 l4 : Bool) (l5 : Int) (l6 : ByteArray) (l7 : Bool) (l8 a2 : Int) (p0 p1 : Int) (Ap : Option Addr) (cp Lp : Nat) (q0 q1 : Int) (Aq : Option Addr) (cq Lq : Nat) (a5 : Int) (r0 r1 : Int) (r2 r3 r4 : Bool) (r5 : Int) (r6 : ByteArray) (r7 : Bool) (r8 : Int)  (w : World) (hs4 : x4.size ≤ 200) (hs5 : x5.size ≤ 200) (hs6 : l6.size ≤ 1000) (HAW : Aside0 (∀ W, Below w.heap.size w W → Calls Tryd.prog 26 #[] W fun e w' => e = .returned (.bool true) ∧ Below W.heap.size W w')) (HM1 : Aside0 (∀ W, Below w.heap.size w W → Calls Tryd.prog 27 #[.agg #[.int .i64 p0, .int .i64 p1, .slice Ap Lp cp]] W fun e w' => e = .returned (.bool true) ∧ Below W.heap.size W w')) (HM2 : Aside0 (∀ W, Below w.heap.size w W → Calls Tryd.prog 27 #[.agg #[.int .i64 q0, .int .i64 q1, .slice Aq Lq cq]] W fun e w' => e = .returned (.bool true) ∧ Below W.heap.size W w'))
  (HRH : Aside0 (∀ W, Below w.heap.size w W → Calls Tryd.prog 28 #[.agg #[.int .i64 l0, .int .i64 l1, .bool l2, .bool l3, .bool l4, .int .i64 l5, .string l6, .bool l7, .int .i64 l8], .int .i64 a2, .agg #[.int .i64 p0, .int .i64 p1, .slice Ap Lp cp]] W fun e w' => ∃ v9_ : Value, e = .returned (.tuple #[.agg #[.int .i64 r0, .int .i64 r1, .bool r2, .bool r3, .bool r4, .int .i64 r5, .string r6, .bool r7, .int .i64 r8], v9_]) ∧ Kd.R PAuthBase.k60 60 w' W.heap.size (fun _ => True) v9_ [] ∧ Below W.heap.size W w')) :
  Calls Tryd.prog 11 #[.agg #[.int .i64 x0, .int .i64 x1, .int .i64 x2, .int .i64 x3, .string x4, .string x5, .int .i64 x6, .int .u32 x7, .bool x8], .agg #[.int .i64 l0, .int .i64 l1, .bool l2, .bool l3, .bool l4, .int .i64 l5, .string l6, .bool l7, .int .i64 l8], .int .i64 a2, .agg #[.int .i64 p0, .int .i64 p1, .slice Ap Lp cp], .agg #[.int .i64 q0, .int .i64 q1, .slice Aq Lq cq], .int .i64 a5] w fun e w' => e = .returned (.bool true) ∧ Below w.heap.size w w' := by
 have HB := Aside0.mk (Below.refl w.heap.size w)
 go_enter Tryd.func11, Tryd.ntmps11
 go_upto_region 1 with (fail)
 (try simp only [Act.put, List.setIfInBounds_toArray, List.set_cons_zero, List.set_cons_succ])
 have yk := blk4 w (.cells #[.int .i64 x0, .int .i64 x1, .int .i64 x2, .int .i64 x3, .string x4, .string x5, .int .i64 x6, .int .u32 x7, .bool x8] 48) (.cells #[.int .i64 l0, .int .i64 l1, .bool l2, .bool l3, .bool l4, .int .i64 l5, .string l6, .bool l7, .int .i64 l8] 50) (.cells #[.int .i64 p0, .int .i64 p1, .slice Ap Lp cp] 52) (.cells #[.int .i64 q0, .int .i64 q1, .slice Aq Lq cq] 52)
 have yB : Below w.heap.size w ((((w.alloc (.cells #[.int .i64 x0, .int .i64 x1, .int .i64 x2, .int .i64 x3, .string x4, .string x5, .int .i64 x6, .int .u32 x7, .bool x8] 48)).alloc (.cells #[.int .i64 l0, .int .i64 l1, .bool l2, .bool l3, .bool l4, .int .i64 l5, .string l6, .bool l7, .int .i64 l8] 50)).alloc (.cells #[.int .i64 p0, .int .i64 p1, .slice Ap Lp cp] 52)).alloc (.cells #[.int .i64 q0, .int .i64 q1, .slice Aq Lq cq] 52)) := (below_alloc (below_alloc (below_alloc (below_alloc (Below.refl _ _) _) _) _) _)
 generalize ((((w.alloc (.cells #[.int .i64 x0, .int .i64 x1, .int .i64 x2, .int .i64 x3, .string x4, .string x5, .int .i64 x6, .int .u32 x7, .bool x8] 48)).alloc (.cells #[.int .i64 l0, .int .i64 l1, .bool l2, .bool l3, .bool l4, .int .i64 l5, .string l6, .bool l7, .int .i64 l8] 50)).alloc (.cells #[.int .i64 p0, .int .i64 p1, .slice Ap Lp cp] 52)).alloc (.cells #[.int .i64 q0, .int .i64 q1, .slice Aq Lq cq] 52)) = wq at yk yB ⊢
 obtain ⟨gw, hgw⟩ : ∃ g, w.heap.size + 1 + 1 + 1 = g := ⟨_, rfl⟩
 obtain ⟨gp, hgp⟩ : ∃ g, w.heap.size + 1 + 1 = g := ⟨_, rfl⟩
 obtain ⟨gl, hgl⟩ : ∃ g, w.heap.size + 1 = g := ⟨_, rfl⟩
 rw [hgw] at yk ⊢
 rw [hgp] at yk ⊢
 rw [hgl] at yk ⊢
 clear hgw hgp hgl
 obtain ⟨yHC, yHL, yHP, yHW⟩ := yk
 have HC := Aside0.mk yHC
 clear yHC
 have HL := Aside0.mk yHL
 clear yHL
 have HP := Aside0.mk yHP
 clear yHP
 have HW := Aside0.mk yHW
 clear yHW
 replace HB := Aside0.mk yB
 clear yB
 obtain ⟨c_0, c_1, c_2, c_3, c_4, c_5, c_6, c_7, c_8, c_f0, c_f1, c_f2, c_f3, c_f4, c_f5, c_f6, c_f7, c_f8⟩ := cells9 HC.out
 obtain ⟨m_0, m_1, m_2, m_3, m_4, m_5, m_6, m_7, m_8, m_f0, m_f1, m_f2, m_f3, m_f4, m_f5, m_f6, m_f7, m_f8⟩ := cells9 HL.out
 obtain ⟨p_0, p_1, p_2, p_f0, p_f1, p_f2⟩ := cells3 HP.out
 obtain ⟨q_0, q_1, q_2, q_f0, q_f1, q_f2⟩ := cells3 HW.out
 go_upto_region 3 with (first | (go_at_call 26; (with_reducible refine (HAW.out _ HB.out).mono ?_); rintro e wq ⟨rfl, hbn⟩; clear c_0 c_f0 c_1 c_f1 c_2 c_f2 c_3 c_f3 c_4 c_f4 c_5 c_f5 c_6 c_f6 c_7 c_f7 c_8 c_f8; clear m_0 m_f0 m_1 m_f1 m_2 m_f2 m_3 m_f3 m_4 m_f4 m_5 m_f5 m_6 m_f6 m_7 m_f7 m_8 m_f8; clear p_0 p_f0 p_1 p_f1 p_2 p_f2; clear q_0 q_f0 q_1 q_f1 q_2 q_f2; replace HC := Aside0.mk (blk_below HC.out hbn); replace HL := Aside0.mk (blk_below HL.out hbn); replace HP := Aside0.mk (blk_below HP.out hbn); replace HW := Aside0.mk (blk_below HW.out hbn); replace HB := Aside0.mk (below_step HB.out hbn); clear hbn; obtain ⟨c_0, c_1, c_2, c_3, c_4, c_5, c_6, c_7, c_8, c_f0, c_f1, c_f2, c_f3, c_f4, c_f5, c_f6, c_f7, c_f8⟩ := cells9 HC.out; obtain ⟨m_0, m_1, m_2, m_3, m_4, m_5, m_6, m_7, m_8, m_f0, m_f1, m_f2, m_f3, m_f4, m_f5, m_f6, m_f7, m_f8⟩ := cells9 HL.out; obtain ⟨p_0, p_1, p_2, p_f0, p_f1, p_f2⟩ := cells3 HP.out; obtain ⟨q_0, q_1, q_2, q_f0, q_f1, q_f2⟩ := cells3 HW.out) | (go_at_call 27; (with_reducible refine (HM1.out _ HB.out).mono ?_); rintro e wq ⟨rfl, hbn⟩; clear c_0 c_f0 c_1 c_f1 c_2 c_f2 c_3 c_f3 c_4 c_f4 c_5 c_f5 c_6 c_f6 c_7 c_f7 c_8 c_f8; clear m_0 m_f0 m_1 m_f1 m_2 m_f2 m_3 m_f3 m_4 m_f4 m_5 m_f5 m_6 m_f6 m_7 m_f7 m_8 m_f8; clear p_0 p_f0 p_1 p_f1 p_2 p_f2; clear q_0 q_f0 q_1 q_f1 q_2 q_f2; replace HC := Aside0.mk (blk_below HC.out hbn); replace HL := Aside0.mk (blk_below HL.out hbn); replace HP := Aside0.mk (blk_below HP.out hbn); replace HW := Aside0.mk (blk_below HW.out hbn); replace HB := Aside0.mk (below_step HB.out hbn); clear hbn; obtain ⟨c_0, c_1, c_2, c_3, c_4, c_5, c_6, c_7, c_8, c_f0, c_f1, c_f2, c_f3, c_f4, c_f5, c_f6, c_f7, c_f8⟩ := cells9 HC.out; obtain ⟨m_0, m_1, m_2, m_3, m_4, m_5, m_6, m_7, m_8, m_f0, m_f1, m_f2, m_f3, m_f4, m_f5, m_f6, m_f7, m_f8⟩ := cells9 HL.out; obtain ⟨p_0, p_1, p_2, p_f0, p_f1, p_f2⟩ := cells3 HP.out; obtain ⟨q_0, q_1, q_2, q_f0, q_f1, q_f2⟩ := cells3 HW.out) | (go_at_call 27; (with_reducible refine (HM2.out _ HB.out).mono ?_); rintro e wq ⟨rfl, hbn⟩; clear c_0 c_f0 c_1 c_f1 c_2 c_f2 c_3 c_f3 c_4 c_f4 c_5 c_f5 c_6 c_f6 c_7 c_f7 c_8 c_f8; clear m_0 m_f0 m_1 m_f1 m_2 m_f2 m_3 m_f3 m_4 m_f4 m_5 m_f5 m_6 m_f6 m_7 m_f7 m_8 m_f8; clear p_0 p_f0 p_1 p_f1 p_2 p_f2; clear q_0 q_f0 q_1 q_f1 q_2 q_f2; replace HC := Aside0.mk (blk_below HC.out hbn); replace HL := Aside0.mk (blk_below HL.out hbn); replace HP := Aside0.mk (blk_below HP.out hbn); replace HW := Aside0.mk (blk_below HW.out hbn); replace HB := Aside0.mk (below_step HB.out hbn); clear hbn; obtain ⟨c_0, c_1, c_2, c_3, c_4, c_5, c_6, c_7, c_8, c_f0, c_f1, c_f2, c_f3, c_f4, c_f5, c_f6, c_f7, c_f8⟩ := cells9 HC.out; obtain ⟨m_0, m_1, m_2, m_3, m_4, m_5, m_6, m_7, m_8, m_f0, m_f1, m_f2, m_f3, m_f4, m_f5, m_f6, m_f7, m_f8⟩ := cells9 HL.out; obtain ⟨p_0, p_1, p_2, p_f0, p_f1, p_f2⟩ := cells3 HP.out; obtain ⟨q_0, q_1, q_2, q_f0, q_f1, q_f2⟩ := cells3 HW.out))
 (try simp only [Act.put, List.setIfInBounds_toArray, List.set_cons_zero, List.set_cons_succ])
 clear HAW HM1 HM2
 go_upto_region 4 with (first | (go_at_call 28; (with_reducible refine (HRH.out _ HB.out).mono ?_); rintro e wq ⟨ve, rfl, hr, hbn⟩; clear c_0 c_f0 c_1 c_f1 c_2 c_f2 c_3 c_f3 c_4 c_f4 c_5 c_f5 c_6 c_f6 c_7 c_f7 c_8 c_f8; clear m_0 m_f0 m_1 m_f1 m_2 m_f2 m_3 m_f3 m_4 m_f4 m_5 m_f5 m_6 m_f6 m_7 m_f7 m_8 m_f8; clear p_0 p_f0 p_1 p_f1 p_2 p_f2; clear q_0 q_f0 q_1 q_f1 q_2 q_f2; replace HC := Aside0.mk (blk_below HC.out hbn); replace HL := Aside0.mk (blk_below HL.out hbn); replace HP := Aside0.mk (blk_below HP.out hbn); replace HW := Aside0.mk (blk_below HW.out hbn); replace HB := Aside0.mk (below_step HB.out hbn); obtain ⟨Ae, ce, rfl⟩ := Kd.R_slice hr; clear hr; clear hbn; obtain ⟨c_0, c_1, c_2, c_3, c_4, c_5, c_6, c_7, c_8, c_f0, c_f1, c_f2, c_f3, c_f4, c_f5, c_f6, c_f7, c_f8⟩ := cells9 HC.out; obtain ⟨m_0, m_1, m_2, m_3, m_4, m_5, m_6, m_7, m_8, m_f0, m_f1, m_f2, m_f3, m_f4, m_f5, m_f6, m_f7, m_f8⟩ := cells9 HL.out; obtain ⟨p_0, p_1, p_2, p_f0, p_f1, p_f2⟩ := cells3 HP.out; obtain ⟨q_0, q_1, q_2, q_f0, q_f1, q_f2⟩ := cells3 HW.out) | ((with_reducible refine gate_dst (N := 13) rfl ?_); refine' box_event ?hg (N := 13) ?hd (t := 50) ?hr ?_; (case hd => rfl); (case hg => rfl); (case hr => first | (go_simp; done) | (go_simp; rfl)); intro g13 hgn wq hbox hbn; clear c_0 c_f0 c_1 c_f1 c_2 c_f2 c_3 c_f3 c_4 c_f4 c_5 c_f5 c_6 c_f6 c_7 c_f7 c_8 c_f8; clear m_0 m_f0 m_1 m_f1 m_2 m_f2 m_3 m_f3 m_4 m_f4 m_5 m_f5 m_6 m_f6 m_7 m_f7 m_8 m_f8; clear p_0 p_f0 p_1 p_f1 p_2 p_f2; clear q_0 q_f0 q_1 q_f1 q_2 q_f2; have NEHC := Aside0.mk (show w.heap.size ≠ g13 from Nat.ne_of_lt (Nat.lt_of_lt_of_eq (blk_lt HC.out) hgn.symm)); have NEHL := Aside0.mk (show gl ≠ g13 from Nat.ne_of_lt (Nat.lt_of_lt_of_eq (blk_lt HL.out) hgn.symm)); have NEHP := Aside0.mk (show gp ≠ g13 from Nat.ne_of_lt (Nat.lt_of_lt_of_eq (blk_lt HP.out) hgn.symm)); have NEHW := Aside0.mk (show gw ≠ g13 from Nat.ne_of_lt (Nat.lt_of_lt_of_eq (blk_lt HW.out) hgn.symm)); have GE13 := Aside0.mk (show w.heap.size ≤ g13 from Nat.le_trans (below_size HB.out) (Nat.le_of_eq hgn.symm)); replace HC := Aside0.mk (blk_below HC.out hbn); replace HL := Aside0.mk (blk_below HL.out hbn); replace HP := Aside0.mk (blk_below HP.out hbn); replace HW := Aside0.mk (blk_below HW.out hbn); replace HB := Aside0.mk (below_step HB.out hbn); have H13 := Aside0.mk hbox; clear hbox hbn hgn; obtain ⟨c_0, c_1, c_2, c_3, c_4, c_5, c_6, c_7, c_8, c_f0, c_f1, c_f2, c_f3, c_f4, c_f5, c_f6, c_f7, c_f8⟩ := cells9 HC.out; obtain ⟨m_0, m_1, m_2, m_3, m_4, m_5, m_6, m_7, m_8, m_f0, m_f1, m_f2, m_f3, m_f4, m_f5, m_f6, m_f7, m_f8⟩ := cells9 HL.out; obtain ⟨p_0, p_1, p_2, p_f0, p_f1, p_f2⟩ := cells3 HP.out; obtain ⟨q_0, q_1, q_2, q_f0, q_f1, q_f2⟩ := cells3 HW.out; obtain ⟨b_0, b_1, b_2, b_3, b_4, b_5, b_6, b_7, b_8, b_f0, b_f1, b_f2, b_f3, b_f4, b_f5, b_f6, b_f7, b_f8⟩ := cells9 H13.out))
 (try simp only [Act.put, List.setIfInBounds_toArray, List.set_cons_zero, List.set_cons_succ])
 have HY := Aside0.mk (set9_below HB.out GE13.out (.int .i64 r0) (.int .i64 r1) (.bool r2) (.bool r3) (.bool r4) (.int .i64 r5) (.string r6) (.bool r7) (.int .i64 r8))
 go_wp2_with fail
 go_ret
 exact ⟨rfl, HY.out⟩
set_option maxRecDepth 100000 in
set_option maxHeartbeats 8000000 in
theorem answers_one (x0 x1 x2 x3 : Int) (x4 x5 : ByteArray) (x6 x7 : Int) (x8 : Bool) (l0 l1 : Int) (l2 l3 l4 : Bool) (l5 : Int) (l6 : ByteArray) (l7 : Bool) (l8 a2 : Int) (p0 p1 : Int) (Ap : Option Addr) (cp Lp : Nat) (q0 q1 : Int) (Aq : Option Addr) (cq Lq : Nat) (a5 : Int) (r0 r1 : Int) (r2 r3 r4 : Bool) (r5 : Int) (r6 : ByteArray) (r7 : Bool) (r8 : Int) (d0 d1 d2 : Int) (d3 : ByteArray) (y2 y7 yb : Bool) (y8 : Int) (w : World) (hs4 : x4.size ≤ 200) (hs5 : x5.size ≤ 200) (hs6 : l6.size ≤ 1000) (HAW : Aside0 (∀ W, Below w.heap.size w W → Calls Tryd.prog 26 #[] W fun e w' => e = .returned (.bool true) ∧ Below W.heap.size W w')) (HM1 : Aside0 (∀ W, Below w.heap.size w W → Calls Tryd.prog 27 #[.agg #[.int .i64 p0, .int .i64 p1, .slice Ap Lp cp]] W fun e w' => e = .returned (.bool true) ∧ Below W.heap.size W w')) (HM2 : Aside0 (∀ W, Below w.heap.size w W → Calls Tryd.prog 27 #[.agg #[.int .i64 q0, .int .i64 q1, .slice Aq Lq cq]] W fun e w' => e = .returned (.bool true) ∧ Below W.heap.size W w'))
  (HRH : Aside0 (∀ W, Below w.heap.size w W → Calls Tryd.prog 28 #[.agg #[.int .i64 l0, .int .i64 l1, .bool l2, .bool l3, .bool l4, .int .i64 l5, .string l6, .bool l7, .int .i64 l8], .int .i64 a2, .agg #[.int .i64 p0, .int .i64 p1, .slice Ap Lp cp]] W fun e w' => ∃ v9_ : Value, e = .returned (.tuple #[.agg #[.int .i64 r0, .int .i64 r1, .bool r2, .bool r3, .bool r4, .int .i64 r5, .string r6, .bool r7, .int .i64 r8], v9_]) ∧ Kd.R PAuthBase.k60 60 w' W.heap.size (fun _ => True) v9_ [⟨d0, d1, d2, d3⟩] ∧ Below W.heap.size W w'))
  (HPA : Aside0 (∀ W, Below w.heap.size w W → Calls Tryd.prog 29 #[.agg #[.int .i64 x0, .int .i64 x1, .int .i64 x2, .int .i64 x3, .string x4, .string x5, .int .i64 x6, .int .u32 x7, .bool x8], .agg #[.int .i64 r0, .int .i64 r1, .bool r2, .bool r3, .bool r4, .int .i64 r5, .string r6, .bool r7, .int .i64 r8], .agg #[.int .i64 d0, .int .i64 d1, .int .i64 d2, .string d3], .int .i64 a5, .agg #[.int .i64 q0, .int .i64 q1, .slice Aq Lq cq]] W fun e w' => e = .returned (.tuple #[.agg #[.int .i64 r0, .int .i64 r1, .bool y2, .bool r3, .bool r4, .int .i64 r5, .string r6, .bool y7, .int .i64 y8], .bool yb]) ∧ Below W.heap.size W w'))
  (HRA : Aside0 (∀ W, Below w.heap.size w W → Calls Tryd.prog 30 #[.agg #[.int .i64 x0, .int .i64 x1, .int .i64 x2, .int .i64 x3, .string x4, .string x5, .int .i64 x6, .int .u32 x7, .bool x8], .agg #[.int .i64 r0, .int .i64 r1, .bool r2, .bool r3, .bool r4, .int .i64 r5, .string r6, .bool r7, .int .i64 r8], .agg #[.int .i64 d0, .int .i64 d1, .int .i64 d2, .string d3], .int .i64 a5, .agg #[.int .i64 q0, .int .i64 q1, .slice Aq Lq cq]] W fun e w' => e = .returned (.tuple #[.agg #[.int .i64 r0, .int .i64 r1, .bool y2, .bool r3, .bool r4, .int .i64 r5, .string r6, .bool y7, .int .i64 y8], .bool yb]) ∧ Below W.heap.size W w')) :
  Calls Tryd.prog 11 #[.agg #[.int .i64 x0, .int .i64 x1, .int .i64 x2, .int .i64 x3, .string x4, .string x5, .int .i64 x6, .int .u32 x7, .bool x8], .agg #[.int .i64 l0, .int .i64 l1, .bool l2, .bool l3, .bool l4, .int .i64 l5, .string l6, .bool l7, .int .i64 l8], .int .i64 a2, .agg #[.int .i64 p0, .int .i64 p1, .slice Ap Lp cp], .agg #[.int .i64 q0, .int .i64 q1, .slice Aq Lq cq], .int .i64 a5] w fun e w' => e = .returned (.bool true) ∧ Below w.heap.size w w' := by
 have HB := Aside0.mk (Below.refl w.heap.size w)
 go_enter Tryd.func11, Tryd.ntmps11
 go_upto_region 1 with (fail)
 (try simp only [Act.put, List.setIfInBounds_toArray, List.set_cons_zero, List.set_cons_succ])
 have yk := blk4 w (.cells #[.int .i64 x0, .int .i64 x1, .int .i64 x2, .int .i64 x3, .string x4, .string x5, .int .i64 x6, .int .u32 x7, .bool x8] 48) (.cells #[.int .i64 l0, .int .i64 l1, .bool l2, .bool l3, .bool l4, .int .i64 l5, .string l6, .bool l7, .int .i64 l8] 50) (.cells #[.int .i64 p0, .int .i64 p1, .slice Ap Lp cp] 52) (.cells #[.int .i64 q0, .int .i64 q1, .slice Aq Lq cq] 52)
 have yB : Below w.heap.size w ((((w.alloc (.cells #[.int .i64 x0, .int .i64 x1, .int .i64 x2, .int .i64 x3, .string x4, .string x5, .int .i64 x6, .int .u32 x7, .bool x8] 48)).alloc (.cells #[.int .i64 l0, .int .i64 l1, .bool l2, .bool l3, .bool l4, .int .i64 l5, .string l6, .bool l7, .int .i64 l8] 50)).alloc (.cells #[.int .i64 p0, .int .i64 p1, .slice Ap Lp cp] 52)).alloc (.cells #[.int .i64 q0, .int .i64 q1, .slice Aq Lq cq] 52)) := (below_alloc (below_alloc (below_alloc (below_alloc (Below.refl _ _) _) _) _) _)
 generalize ((((w.alloc (.cells #[.int .i64 x0, .int .i64 x1, .int .i64 x2, .int .i64 x3, .string x4, .string x5, .int .i64 x6, .int .u32 x7, .bool x8] 48)).alloc (.cells #[.int .i64 l0, .int .i64 l1, .bool l2, .bool l3, .bool l4, .int .i64 l5, .string l6, .bool l7, .int .i64 l8] 50)).alloc (.cells #[.int .i64 p0, .int .i64 p1, .slice Ap Lp cp] 52)).alloc (.cells #[.int .i64 q0, .int .i64 q1, .slice Aq Lq cq] 52)) = wq at yk yB ⊢
 obtain ⟨gw, hgw⟩ : ∃ g, w.heap.size + 1 + 1 + 1 = g := ⟨_, rfl⟩
 obtain ⟨gp, hgp⟩ : ∃ g, w.heap.size + 1 + 1 = g := ⟨_, rfl⟩
 obtain ⟨gl, hgl⟩ : ∃ g, w.heap.size + 1 = g := ⟨_, rfl⟩
 rw [hgw] at yk ⊢
 rw [hgp] at yk ⊢
 rw [hgl] at yk ⊢
 clear hgw hgp hgl
 obtain ⟨yHC, yHL, yHP, yHW⟩ := yk
 have HC := Aside0.mk yHC
 clear yHC
 have HL := Aside0.mk yHL
 clear yHL
 have HP := Aside0.mk yHP
 clear yHP
 have HW := Aside0.mk yHW
 clear yHW
 replace HB := Aside0.mk yB
 clear yB
 obtain ⟨c_0, c_1, c_2, c_3, c_4, c_5, c_6, c_7, c_8, c_f0, c_f1, c_f2, c_f3, c_f4, c_f5, c_f6, c_f7, c_f8⟩ := cells9 HC.out
 obtain ⟨m_0, m_1, m_2, m_3, m_4, m_5, m_6, m_7, m_8, m_f0, m_f1, m_f2, m_f3, m_f4, m_f5, m_f6, m_f7, m_f8⟩ := cells9 HL.out
 obtain ⟨p_0, p_1, p_2, p_f0, p_f1, p_f2⟩ := cells3 HP.out
 obtain ⟨q_0, q_1, q_2, q_f0, q_f1, q_f2⟩ := cells3 HW.out
 go_upto_region 3 with (first | (go_at_call 26; (with_reducible refine (HAW.out _ HB.out).mono ?_); rintro e wq ⟨rfl, hbn⟩; clear c_0 c_f0 c_1 c_f1 c_2 c_f2 c_3 c_f3 c_4 c_f4 c_5 c_f5 c_6 c_f6 c_7 c_f7 c_8 c_f8; clear m_0 m_f0 m_1 m_f1 m_2 m_f2 m_3 m_f3 m_4 m_f4 m_5 m_f5 m_6 m_f6 m_7 m_f7 m_8 m_f8; clear p_0 p_f0 p_1 p_f1 p_2 p_f2; clear q_0 q_f0 q_1 q_f1 q_2 q_f2; replace HC := Aside0.mk (blk_below HC.out hbn); replace HL := Aside0.mk (blk_below HL.out hbn); replace HP := Aside0.mk (blk_below HP.out hbn); replace HW := Aside0.mk (blk_below HW.out hbn); replace HB := Aside0.mk (below_step HB.out hbn); clear hbn; obtain ⟨c_0, c_1, c_2, c_3, c_4, c_5, c_6, c_7, c_8, c_f0, c_f1, c_f2, c_f3, c_f4, c_f5, c_f6, c_f7, c_f8⟩ := cells9 HC.out; obtain ⟨m_0, m_1, m_2, m_3, m_4, m_5, m_6, m_7, m_8, m_f0, m_f1, m_f2, m_f3, m_f4, m_f5, m_f6, m_f7, m_f8⟩ := cells9 HL.out; obtain ⟨p_0, p_1, p_2, p_f0, p_f1, p_f2⟩ := cells3 HP.out; obtain ⟨q_0, q_1, q_2, q_f0, q_f1, q_f2⟩ := cells3 HW.out) | (go_at_call 27; (with_reducible refine (HM1.out _ HB.out).mono ?_); rintro e wq ⟨rfl, hbn⟩; clear c_0 c_f0 c_1 c_f1 c_2 c_f2 c_3 c_f3 c_4 c_f4 c_5 c_f5 c_6 c_f6 c_7 c_f7 c_8 c_f8; clear m_0 m_f0 m_1 m_f1 m_2 m_f2 m_3 m_f3 m_4 m_f4 m_5 m_f5 m_6 m_f6 m_7 m_f7 m_8 m_f8; clear p_0 p_f0 p_1 p_f1 p_2 p_f2; clear q_0 q_f0 q_1 q_f1 q_2 q_f2; replace HC := Aside0.mk (blk_below HC.out hbn); replace HL := Aside0.mk (blk_below HL.out hbn); replace HP := Aside0.mk (blk_below HP.out hbn); replace HW := Aside0.mk (blk_below HW.out hbn); replace HB := Aside0.mk (below_step HB.out hbn); clear hbn; obtain ⟨c_0, c_1, c_2, c_3, c_4, c_5, c_6, c_7, c_8, c_f0, c_f1, c_f2, c_f3, c_f4, c_f5, c_f6, c_f7, c_f8⟩ := cells9 HC.out; obtain ⟨m_0, m_1, m_2, m_3, m_4, m_5, m_6, m_7, m_8, m_f0, m_f1, m_f2, m_f3, m_f4, m_f5, m_f6, m_f7, m_f8⟩ := cells9 HL.out; obtain ⟨p_0, p_1, p_2, p_f0, p_f1, p_f2⟩ := cells3 HP.out; obtain ⟨q_0, q_1, q_2, q_f0, q_f1, q_f2⟩ := cells3 HW.out) | (go_at_call 27; (with_reducible refine (HM2.out _ HB.out).mono ?_); rintro e wq ⟨rfl, hbn⟩; clear c_0 c_f0 c_1 c_f1 c_2 c_f2 c_3 c_f3 c_4 c_f4 c_5 c_f5 c_6 c_f6 c_7 c_f7 c_8 c_f8; clear m_0 m_f0 m_1 m_f1 m_2 m_f2 m_3 m_f3 m_4 m_f4 m_5 m_f5 m_6 m_f6 m_7 m_f7 m_8 m_f8; clear p_0 p_f0 p_1 p_f1 p_2 p_f2; clear q_0 q_f0 q_1 q_f1 q_2 q_f2; replace HC := Aside0.mk (blk_below HC.out hbn); replace HL := Aside0.mk (blk_below HL.out hbn); replace HP := Aside0.mk (blk_below HP.out hbn); replace HW := Aside0.mk (blk_below HW.out hbn); replace HB := Aside0.mk (below_step HB.out hbn); clear hbn; obtain ⟨c_0, c_1, c_2, c_3, c_4, c_5, c_6, c_7, c_8, c_f0, c_f1, c_f2, c_f3, c_f4, c_f5, c_f6, c_f7, c_f8⟩ := cells9 HC.out; obtain ⟨m_0, m_1, m_2, m_3, m_4, m_5, m_6, m_7, m_8, m_f0, m_f1, m_f2, m_f3, m_f4, m_f5, m_f6, m_f7, m_f8⟩ := cells9 HL.out; obtain ⟨p_0, p_1, p_2, p_f0, p_f1, p_f2⟩ := cells3 HP.out; obtain ⟨q_0, q_1, q_2, q_f0, q_f1, q_f2⟩ := cells3 HW.out))
 (try simp only [Act.put, List.setIfInBounds_toArray, List.set_cons_zero, List.set_cons_succ])
 clear HAW HM1 HM2
 go_upto_region 4 with (first | (go_at_call 28; (with_reducible refine (HRH.out _ HB.out).mono ?_); rintro e wq ⟨ve, rfl, hr, hbn⟩; clear c_0 c_f0 c_1 c_f1 c_2 c_f2 c_3 c_f3 c_4 c_f4 c_5 c_f5 c_6 c_f6 c_7 c_f7 c_8 c_f8; clear m_0 m_f0 m_1 m_f1 m_2 m_f2 m_3 m_f3 m_4 m_f4 m_5 m_f5 m_6 m_f6 m_7 m_f7 m_8 m_f8; clear p_0 p_f0 p_1 p_f1 p_2 p_f2; clear q_0 q_f0 q_1 q_f1 q_2 q_f2; replace HC := Aside0.mk (blk_below HC.out hbn); replace HL := Aside0.mk (blk_below HL.out hbn); replace HP := Aside0.mk (blk_below HP.out hbn); replace HW := Aside0.mk (blk_below HW.out hbn); replace HB := Aside0.mk (below_step HB.out hbn); obtain ⟨ge, ce, rfl, hec⟩ := AuthHand.due_one hr; have HEC := Aside0.mk hec; clear hec hr; have HE0 := Aside0.mk (Below.refl wq.heap.size wq); obtain ⟨wE, hwE⟩ : ∃ W, wq = W := ⟨_, rfl⟩; rw [hwE] at HEC; have HE := Aside0.mk (show Below wE.heap.size wE wq from hwE ▸ HE0.out); clear HE0 hwE; clear hbn; obtain ⟨c_0, c_1, c_2, c_3, c_4, c_5, c_6, c_7, c_8, c_f0, c_f1, c_f2, c_f3, c_f4, c_f5, c_f6, c_f7, c_f8⟩ := cells9 HC.out; obtain ⟨m_0, m_1, m_2, m_3, m_4, m_5, m_6, m_7, m_8, m_f0, m_f1, m_f2, m_f3, m_f4, m_f5, m_f6, m_f7, m_f8⟩ := cells9 HL.out; obtain ⟨p_0, p_1, p_2, p_f0, p_f1, p_f2⟩ := cells3 HP.out; obtain ⟨q_0, q_1, q_2, q_f0, q_f1, q_f2⟩ := cells3 HW.out) | ((with_reducible refine gate_dst (N := 13) rfl ?_); refine' box_event ?hg (N := 13) ?hd (t := 50) ?hr ?_; (case hd => rfl); (case hg => rfl); (case hr => first | (go_simp; done) | (go_simp; rfl)); intro g13 hgn wq hbox hbn; clear c_0 c_f0 c_1 c_f1 c_2 c_f2 c_3 c_f3 c_4 c_f4 c_5 c_f5 c_6 c_f6 c_7 c_f7 c_8 c_f8; clear m_0 m_f0 m_1 m_f1 m_2 m_f2 m_3 m_f3 m_4 m_f4 m_5 m_f5 m_6 m_f6 m_7 m_f7 m_8 m_f8; clear p_0 p_f0 p_1 p_f1 p_2 p_f2; clear q_0 q_f0 q_1 q_f1 q_2 q_f2; have NEHC := Aside0.mk (show w.heap.size ≠ g13 from Nat.ne_of_lt (Nat.lt_of_lt_of_eq (blk_lt HC.out) hgn.symm)); have NEHL := Aside0.mk (show gl ≠ g13 from Nat.ne_of_lt (Nat.lt_of_lt_of_eq (blk_lt HL.out) hgn.symm)); have NEHP := Aside0.mk (show gp ≠ g13 from Nat.ne_of_lt (Nat.lt_of_lt_of_eq (blk_lt HP.out) hgn.symm)); have NEHW := Aside0.mk (show gw ≠ g13 from Nat.ne_of_lt (Nat.lt_of_lt_of_eq (blk_lt HW.out) hgn.symm)); have GE13 := Aside0.mk (show w.heap.size ≤ g13 from Nat.le_trans (below_size HB.out) (Nat.le_of_eq hgn.symm)); have GEE := Aside0.mk (show wE.heap.size ≤ g13 from Nat.le_trans HE.out.size (Nat.le_of_eq hgn.symm)); replace HE := Aside0.mk (below_then HE.out HE.out.size hbn); replace HC := Aside0.mk (blk_below HC.out hbn); replace HL := Aside0.mk (blk_below HL.out hbn); replace HP := Aside0.mk (blk_below HP.out hbn); replace HW := Aside0.mk (blk_below HW.out hbn); replace HB := Aside0.mk (below_step HB.out hbn); have H13 := Aside0.mk hbox; clear hbox hbn hgn; obtain ⟨c_0, c_1, c_2, c_3, c_4, c_5, c_6, c_7, c_8, c_f0, c_f1, c_f2, c_f3, c_f4, c_f5, c_f6, c_f7, c_f8⟩ := cells9 HC.out; obtain ⟨m_0, m_1, m_2, m_3, m_4, m_5, m_6, m_7, m_8, m_f0, m_f1, m_f2, m_f3, m_f4, m_f5, m_f6, m_f7, m_f8⟩ := cells9 HL.out; obtain ⟨p_0, p_1, p_2, p_f0, p_f1, p_f2⟩ := cells3 HP.out; obtain ⟨q_0, q_1, q_2, q_f0, q_f1, q_f2⟩ := cells3 HW.out; obtain ⟨b_0, b_1, b_2, b_3, b_4, b_5, b_6, b_7, b_8, b_f0, b_f1, b_f2, b_f3, b_f4, b_f5, b_f6, b_f7, b_f8⟩ := cells9 H13.out))
 (try simp only [Act.put, List.setIfInBounds_toArray, List.set_cons_zero, List.set_cons_succ])
 clear c_0 c_f0 c_1 c_f1 c_2 c_f2 c_3 c_f3 c_4 c_f4 c_5 c_f5 c_6 c_f6 c_7 c_f7 c_8 c_f8; clear m_0 m_f0 m_1 m_f1 m_2 m_f2 m_3 m_f3 m_4 m_f4 m_5 m_f5 m_6 m_f6 m_7 m_f7 m_8 m_f8; clear p_0 p_f0 p_1 p_f1 p_2 p_f2; clear q_0 q_f0 q_1 q_f1 q_2 q_f2; clear b_0 b_f0 b_1 b_f1 b_2 b_f2 b_3 b_f3 b_4 b_f4 b_5 b_f5 b_6 b_f6 b_7 b_f7 b_8 b_f8
 have yHC := set9_blk HC.out NEHC.out (.int .i64 r0) (.int .i64 r1) (.bool r2) (.bool r3) (.bool r4) (.int .i64 r5) (.string r6) (.bool r7) (.int .i64 r8)
 have yHW := set9_blk HW.out NEHW.out (.int .i64 r0) (.int .i64 r1) (.bool r2) (.bool r3) (.bool r4) (.int .i64 r5) (.string r6) (.bool r7) (.int .i64 r8)
 have yH13 := set9_row H13.out (.int .i64 r0) (.int .i64 r1) (.bool r2) (.bool r3) (.bool r4) (.int .i64 r5) (.string r6) (.bool r7) (.int .i64 r8)
 have yHB := set9_below HB.out GE13.out (.int .i64 r0) (.int .i64 r1) (.bool r2) (.bool r3) (.bool r4) (.int .i64 r5) (.string r6) (.bool r7) (.int .i64 r8)
 have yHE := set9_below HE.out GEE.out (.int .i64 r0) (.int .i64 r1) (.bool r2) (.bool r3) (.bool r4) (.int .i64 r5) (.string r6) (.bool r7) (.int .i64 r8)
 clear HC HW H13 HB HE HL HP NEHC NEHL NEHP NEHW HRH
 change (World.heap (((((((((wq.setCell ⟨g13, 0, none⟩ (.int .i64 r0)).setCell ⟨g13, 1, none⟩ (.int .i64 r1)).setCell ⟨g13, 2, none⟩ (.bool r2)).setCell ⟨g13, 3, none⟩ (.bool r3)).setCell ⟨g13, 4, none⟩ (.bool r4)).setCell ⟨g13, 5, none⟩ (.int .i64 r5)).setCell ⟨g13, 6, none⟩ (.string r6)).setCell ⟨g13, 7, none⟩ (.bool r7)).setCell ⟨g13, 8, none⟩ (.int .i64 r8)))[w.heap.size]? = _ at yHC
 generalize hN : (((((((((wq.setCell ⟨g13, 0, none⟩ (.int .i64 r0)).setCell ⟨g13, 1, none⟩ (.int .i64 r1)).setCell ⟨g13, 2, none⟩ (.bool r2)).setCell ⟨g13, 3, none⟩ (.bool r3)).setCell ⟨g13, 4, none⟩ (.bool r4)).setCell ⟨g13, 5, none⟩ (.int .i64 r5)).setCell ⟨g13, 6, none⟩ (.string r6)).setCell ⟨g13, 7, none⟩ (.bool r7)).setCell ⟨g13, 8, none⟩ (.int .i64 r8)) = w9 at yHC ⊢
 have zHW := yHW
 unfold set9 at zHW
 rw [hN] at zHW
 clear yHW
 have zH13 := yH13
 unfold set9 at zH13
 rw [hN] at zH13
 clear yH13
 have zHB := yHB
 unfold set9 at zHB
 rw [hN] at zHB
 clear yHB
 have zHE := yHE
 unfold set9 at zHE
 rw [hN] at zHE
 clear yHE
 have zHC := yHC
 clear yHC hN
 have HC := Aside0.mk zHC
 clear zHC
 have HW := Aside0.mk zHW
 clear zHW
 have H13 := Aside0.mk zH13
 clear zH13
 have HB := Aside0.mk zHB
 clear zHB
 have HE := Aside0.mk zHE
 clear zHE
 go_wp2_with fail
 have HCd := Aside0.mk (blk_drew HC.out)
 have H13d := Aside0.mk (blk_drew H13.out)
 have HWd := Aside0.mk (blk_drew HW.out)
 have HBd := Aside0.mk (below_drew1 HB.out)
 have HEd := Aside0.mk (below_drew1 HE.out)
 refine start_ (n := 14) (S := fun w' => w'.cell? ⟨w.heap.size, 0, none⟩ = some (.int .i64 x0) ∧ w'.cell? ⟨w.heap.size, 1, none⟩ = some (.int .i64 x1) ∧ w'.cell? ⟨w.heap.size, 2, none⟩ = some (.int .i64 x2) ∧ w'.cell? ⟨w.heap.size, 3, none⟩ = some (.int .i64 x3) ∧ w'.cell? ⟨w.heap.size, 4, none⟩ = some (.string x4) ∧ w'.cell? ⟨w.heap.size, 5, none⟩ = some (.string x5) ∧ w'.cell? ⟨w.heap.size, 6, none⟩ = some (.int .i64 x6) ∧ w'.cell? ⟨w.heap.size, 7, none⟩ = some (.int .u32 x7) ∧ w'.cell? ⟨w.heap.size, 8, none⟩ = some (.bool x8) ∧ w'.cell? ⟨g13, 0, none⟩ = some (.int .i64 r0) ∧ w'.cell? ⟨g13, 1, none⟩ = some (.int .i64 r1) ∧ w'.cell? ⟨g13, 2, none⟩ = some (.bool r2) ∧ w'.cell? ⟨g13, 3, none⟩ = some (.bool r3) ∧ w'.cell? ⟨g13, 4, none⟩ = some (.bool r4) ∧ w'.cell? ⟨g13, 5, none⟩ = some (.int .i64 r5) ∧ w'.cell? ⟨g13, 6, none⟩ = some (.string r6) ∧ w'.cell? ⟨g13, 7, none⟩ = some (.bool r7) ∧ w'.cell? ⟨g13, 8, none⟩ = some (.int .i64 r8) ∧ w'.cell? ⟨ge, 0, none⟩ = some (.int .i64 d0) ∧ w'.cell? ⟨ge, 1, none⟩ = some (.int .i64 d1) ∧ w'.cell? ⟨ge, 2, none⟩ = some (.int .i64 d2) ∧ w'.cell? ⟨ge, 3, none⟩ = some (.string d3) ∧ w'.cell? ⟨gw, 0, none⟩ = some (.int .i64 q0) ∧ w'.cell? ⟨gw, 1, none⟩ = some (.int .i64 q1) ∧ w'.cell? ⟨gw, 2, none⟩ = some (.slice Aq Lq cq)) (ds := [12]) #[false, false, false, false, false, false, false, false, false, false, false, false, false, false] (by kernel_rfl) rfl rfl ⟨((blk_cell HC.out 0).trans rfl), ((blk_cell HC.out 1).trans rfl), ((blk_cell HC.out 2).trans rfl), ((blk_cell HC.out 3).trans rfl), ((blk_cell HC.out 4).trans rfl), ((blk_cell HC.out 5).trans rfl), ((blk_cell HC.out 6).trans rfl), ((blk_cell HC.out 7).trans rfl), ((blk_cell HC.out 8).trans rfl), ((blk_cell H13.out 0).trans rfl), ((blk_cell H13.out 1).trans rfl), ((blk_cell H13.out 2).trans rfl), ((blk_cell H13.out 3).trans rfl), ((blk_cell H13.out 4).trans rfl), ((blk_cell H13.out 5).trans rfl), ((blk_cell H13.out 6).trans rfl), ((blk_cell H13.out 7).trans rfl), ((blk_cell H13.out 8).trans rfl), (HEC.out _ HE.out).1, (HEC.out _ HE.out).2.1, (HEC.out _ HE.out).2.2.1, (HEC.out _ HE.out).2.2.2, ((blk_cell HW.out 0).trans rfl), ((blk_cell HW.out 1).trans rfl), ((blk_cell HW.out 2).trans rfl)⟩ (fun hHeld => ?_)
 generalize w9.drew = wd at HCd H13d HWd HBd HEd hHeld ⊢
 clear HB HE HC H13 HW
 refine pure_ (i := 2) (N := some 63) (v := ?_) (a' := ?_) #[false, false, true, false, false, false, false, false, false, false, false, false, false, false] rfl rfl (by kernel_rfl) (fun _ _ _ h => h) (Or.inl ⟨by rfl, ?_⟩) ?_ ?_
 rotate_left
 ·intro w'
  go_simp
  with_reducible rfl
 rotate_left
 ·simp only [Act.put, List.setIfInBounds_toArray, List.set_cons_zero, List.set_cons_succ, i64_w, i32_w]
  rfl
 refine pure_ (i := 3) (N := some 64) (v := ?_) (a' := ?_) #[false, false, true, true, false, false, false, false, false, false, false, false, false, false] rfl rfl (by kernel_rfl) (fun _ _ _ h => h) (Or.inl ⟨by rfl, ?_⟩) ?_ ?_
 rotate_left
 ·intro w'
  go_simp
  with_reducible rfl
 rotate_left
 ·simp only [Act.put, List.setIfInBounds_toArray, List.set_cons_zero, List.set_cons_succ, i64_w, i32_w]
  rfl
 refine pure_ (i := 5) (N := some 66) (v := ?_) (a' := ?_) #[false, false, true, true, false, true, false, false, false, false, false, false, false, false] rfl rfl (by kernel_rfl) (fun _ _ _ h => h) (Or.inl ⟨by rfl, ?_⟩) ?_ ?_
 rotate_left
 ·intro w'
  go_simp
  with_reducible rfl
 rotate_left
 ·simp only [Act.put, List.setIfInBounds_toArray, List.set_cons_zero, List.set_cons_succ, i64_w, i32_w]
  rfl
 refine take_ (i := 0) (N := some 61) (v := ?_) (a' := ?_) #[true, false, true, true, false, true, false, false, false, false, false, false, false, false] rfl rfl (by kernel_rfl) (fun _ _ _ h => h) (Or.inl ⟨by rfl, ?_⟩) hHeld ?_ ?_
 rotate_left
 ·rintro w' ⟨s0, s1, s2, s3, s4, s5, s6, s7, s8, s9, s10, s11, s12, s13, s14, s15, s16, s17, s18, s19, s20, s21, s22, s23, s24⟩
  go_simp
  with_reducible rfl
 rotate_left
 ·simp only [Act.put, List.setIfInBounds_toArray, List.set_cons_zero, List.set_cons_succ, i64_w, i32_w]
  rfl
 refine take_ (i := 1) (N := some 62) (v := ?_) (a' := ?_) #[true, true, true, true, false, true, false, false, false, false, false, false, false, false] rfl rfl (by kernel_rfl) (fun _ _ _ h => h) (Or.inl ⟨by rfl, ?_⟩) hHeld ?_ ?_
 rotate_left
 ·rintro w' ⟨s0, s1, s2, s3, s4, s5, s6, s7, s8, s9, s10, s11, s12, s13, s14, s15, s16, s17, s18, s19, s20, s21, s22, s23, s24⟩
  go_simp
  with_reducible rfl
 rotate_left
 ·simp only [Act.put, List.setIfInBounds_toArray, List.set_cons_zero, List.set_cons_succ, i64_w, i32_w]
  rfl
 refine take_ (i := 4) (N := some 65) (v := ?_) (a' := ?_) #[true, true, true, true, true, true, false, false, false, false, false, false, false, false] rfl rfl (by kernel_rfl) (fun _ _ _ h => h) (Or.inl ⟨by rfl, ?_⟩) hHeld ?_ ?_
 rotate_left
 ·rintro w' ⟨s0, s1, s2, s3, s4, s5, s6, s7, s8, s9, s10, s11, s12, s13, s14, s15, s16, s17, s18, s19, s20, s21, s22, s23, s24⟩
  go_simp
  with_reducible rfl
 rotate_left
 ·simp only [Act.put, List.setIfInBounds_toArray, List.set_cons_zero, List.set_cons_succ, i64_w, i32_w]
  rfl
 refine take_ (i := 6) (N := some 67) (v := ?_) (a' := ?_) #[true, true, true, true, true, true, true, false, false, false, false, false, false, false] rfl rfl (by kernel_rfl) (fun _ _ _ h => h) (Or.inl ⟨by rfl, ?_⟩) hHeld ?_ ?_
 rotate_left
 ·rintro w' ⟨s0, s1, s2, s3, s4, s5, s6, s7, s8, s9, s10, s11, s12, s13, s14, s15, s16, s17, s18, s19, s20, s21, s22, s23, s24⟩
  go_simp
  with_reducible rfl
 rotate_left
 ·simp only [Act.put, List.setIfInBounds_toArray, List.set_cons_zero, List.set_cons_succ, i64_w, i32_w]
  rfl
 refine join_ (σ := Nat) 2 #[true, true, true, true, true, true, true, true, true, true, true, true, false, false] (fun s_ => [(68, .tuple #[.agg #[.int .i64 r0, .int .i64 r1, .bool y2, .bool r3, .bool r4, .int .i64 r5, .string r6, .bool y7, .int .i64 y8], .bool yb]), (60, .tuple #[.agg #[.int .i64 r0, .int .i64 r1, .bool y2, .bool r3, .bool r4, .int .i64 r5, .string r6, .bool y7, .int .i64 y8], .bool yb]), (69, .agg #[.int .i64 r0, .int .i64 r1, .bool y2, .bool r3, .bool r4, .int .i64 r5, .string r6, .bool y7, .int .i64 y8]), (70, .bool yb), (15, .pointer (some ⟨s_, 0, none⟩))]) (fun s_ w' => w'.heap[s_]? = some (.cells #[.int .i64 0, .int .i64 0, .bool false, .bool false, .bool false, .int .i64 0, .string (⟨#[]⟩ : ByteArray), .bool false, .int .i64 0] 50 (0, 0)) ∧ w'.heap[w.heap.size]? = some (.cells #[.int .i64 x0, .int .i64 x1, .int .i64 x2, .int .i64 x3, .string x4, .string x5, .int .i64 x6, .int .u32 x7, .bool x8] 48 (0, 0)) ∧ w'.heap[g13]? = some (.cells #[.int .i64 r0, .int .i64 r1, .bool r2, .bool r3, .bool r4, .int .i64 r5, .string r6, .bool r7, .int .i64 r8] 50 (0, 0)) ∧ w'.heap[gw]? = some (.cells #[.int .i64 q0, .int .i64 q1, .slice Aq Lq cq] 52 (0, 0)) ∧ Below w.heap.size w w' ∧ Below wE.heap.size wE w' ∧ w.heap.size ≤ s_ ∧ wE.heap.size ≤ s_ ∧ w.heap.size ≠ s_ ∧ g13 ≠ s_ ∧ gw ≠ s_) ?_ ?_
 rotate_left
 ·intro hCont
  refine two_ (i := 7) (j := 11) (Ni := some 68) (Nj := some 15) #[true, true, true, true, true, true, true, true, false, false, false, false, false, false] #[true, true, true, true, true, true, true, false, false, false, false, true, false, false] rfl rfl rfl rfl (by kernel_rfl) (by decide) (by decide) (fun K hK => ?_) (fun K hK => ?_)
  ·skip
   refine goes_ Tryd.func29 (by kernel_rfl) rfl #[.agg #[.int .i64 x0, .int .i64 x1, .int .i64 x2, .int .i64 x3, .string x4, .string x5, .int .i64 x6, .int .u32 x7, .bool x8], .agg #[.int .i64 r0, .int .i64 r1, .bool r2, .bool r3, .bool r4, .int .i64 r5, .string r6, .bool r7, .int .i64 r8], .agg #[.int .i64 d0, .int .i64 d1, .int .i64 d2, .string d3], .int .i64 a5, .agg #[.int .i64 q0, .int .i64 q1, .slice Aq Lq cq]] (by rfl) rfl rfl (by simp only [List.map_toArray, List.map_cons, List.map_nil]; rfl) ?_
   with_reducible refine (HPA.out wd HBd.out).mono ?_
   rintro e wz ⟨rfl, hbn⟩
   refine ⟨_, rfl, ?_⟩
   have HCz := Aside0.mk (blk_below HCd.out hbn)
   have H13z := Aside0.mk (blk_below H13d.out hbn)
   have HWz := Aside0.mk (blk_below HWd.out hbn)
   have HBz := Aside0.mk (below_step HBd.out hbn)
   have HEz := Aside0.mk (below_step HEd.out hbn)
   clear hbn
   refine hK.out _ _ ⟨((blk_cell HCz.out 0).trans rfl), ((blk_cell HCz.out 1).trans rfl), ((blk_cell HCz.out 2).trans rfl), ((blk_cell HCz.out 3).trans rfl), ((blk_cell HCz.out 4).trans rfl), ((blk_cell HCz.out 5).trans rfl), ((blk_cell HCz.out 6).trans rfl), ((blk_cell HCz.out 7).trans rfl), ((blk_cell HCz.out 8).trans rfl), ((blk_cell H13z.out 0).trans rfl), ((blk_cell H13z.out 1).trans rfl), ((blk_cell H13z.out 2).trans rfl), ((blk_cell H13z.out 3).trans rfl), ((blk_cell H13z.out 4).trans rfl), ((blk_cell H13z.out 5).trans rfl), ((blk_cell H13z.out 6).trans rfl), ((blk_cell H13z.out 7).trans rfl), ((blk_cell H13z.out 8).trans rfl), (HEC.out _ HEz.out).1, (HEC.out _ HEz.out).2.1, (HEC.out _ HEz.out).2.2.1, (HEC.out _ HEz.out).2.2.2, ((blk_cell HWz.out 0).trans rfl), ((blk_cell HWz.out 1).trans rfl), ((blk_cell HWz.out 2).trans rfl)⟩ (fun hHeld => ?_)
   clear hK K
   refine norm_ (a' := ?_) ?_ ?_
   rotate_left
   ·show Act.put _ (some 68) _ = _
    simp only [Act.put, List.setIfInBounds_toArray, List.set_cons_zero, List.set_cons_succ, i64_w, i32_w]
    rfl
   refine pure_ (i := 8) (N := some 60) (v := ?_) (a' := ?_) #[true, true, true, true, true, true, true, true, true, false, false, false, false, false] rfl rfl (by kernel_rfl) (fun _ _ _ h => h) (Or.inl ⟨by rfl, ?_⟩) ?_ ?_
   rotate_left
   ·intro w'
    go_simp
    with_reducible rfl
   rotate_left
   ·simp only [Act.put, List.setIfInBounds_toArray, List.set_cons_zero, List.set_cons_succ, i64_w, i32_w]
    rfl
   refine pure_ (i := 9) (N := some 69) (v := ?_) (a' := ?_) #[true, true, true, true, true, true, true, true, true, true, false, false, false, false] rfl rfl (by kernel_rfl) (fun _ _ _ h => h) (Or.inl ⟨by rfl, ?_⟩) ?_ ?_
   rotate_left
   ·intro w'
    go_simp
    with_reducible rfl
   rotate_left
   ·simp only [Act.put, List.setIfInBounds_toArray, List.set_cons_zero, List.set_cons_succ, i64_w, i32_w]
    rfl
   refine pure_ (i := 10) (N := some 70) (v := ?_) (a' := ?_) #[true, true, true, true, true, true, true, true, true, true, true, false, false, false] rfl rfl (by kernel_rfl) (fun _ _ _ h => h) (Or.inl ⟨by rfl, ?_⟩) ?_ ?_
   rotate_left
   ·intro w'
    go_simp
    with_reducible rfl
   rotate_left
   ·simp only [Act.put, List.setIfInBounds_toArray, List.set_cons_zero, List.set_cons_succ, i64_w, i32_w]
    rfl
   refine one_ (i := 11) (N := some 15) #[true, true, true, true, true, true, true, true, true, true, true, true, false, false] rfl rfl (by kernel_rfl) (by decide) (fun K hK => ?_)
   refine value_ (w1 := ?_) (v := ?_) (by rfl) rfl ?_ ?_
   rotate_left 2
   ·go_simp
    constructor
    ·rfl
    ·rfl
   refine hK.out _ _ ⟨((blk_cell (blk_alloc HCz.out (.cells #[.int .i64 0, .int .i64 0, .bool false, .bool false, .bool false, .int .i64 0, .string (⟨#[]⟩ : ByteArray), .bool false, .int .i64 0] 50)) 0).trans rfl), ((blk_cell (blk_alloc HCz.out (.cells #[.int .i64 0, .int .i64 0, .bool false, .bool false, .bool false, .int .i64 0, .string (⟨#[]⟩ : ByteArray), .bool false, .int .i64 0] 50)) 1).trans rfl), ((blk_cell (blk_alloc HCz.out (.cells #[.int .i64 0, .int .i64 0, .bool false, .bool false, .bool false, .int .i64 0, .string (⟨#[]⟩ : ByteArray), .bool false, .int .i64 0] 50)) 2).trans rfl), ((blk_cell (blk_alloc HCz.out (.cells #[.int .i64 0, .int .i64 0, .bool false, .bool false, .bool false, .int .i64 0, .string (⟨#[]⟩ : ByteArray), .bool false, .int .i64 0] 50)) 3).trans rfl), ((blk_cell (blk_alloc HCz.out (.cells #[.int .i64 0, .int .i64 0, .bool false, .bool false, .bool false, .int .i64 0, .string (⟨#[]⟩ : ByteArray), .bool false, .int .i64 0] 50)) 4).trans rfl), ((blk_cell (blk_alloc HCz.out (.cells #[.int .i64 0, .int .i64 0, .bool false, .bool false, .bool false, .int .i64 0, .string (⟨#[]⟩ : ByteArray), .bool false, .int .i64 0] 50)) 5).trans rfl), ((blk_cell (blk_alloc HCz.out (.cells #[.int .i64 0, .int .i64 0, .bool false, .bool false, .bool false, .int .i64 0, .string (⟨#[]⟩ : ByteArray), .bool false, .int .i64 0] 50)) 6).trans rfl), ((blk_cell (blk_alloc HCz.out (.cells #[.int .i64 0, .int .i64 0, .bool false, .bool false, .bool false, .int .i64 0, .string (⟨#[]⟩ : ByteArray), .bool false, .int .i64 0] 50)) 7).trans rfl), ((blk_cell (blk_alloc HCz.out (.cells #[.int .i64 0, .int .i64 0, .bool false, .bool false, .bool false, .int .i64 0, .string (⟨#[]⟩ : ByteArray), .bool false, .int .i64 0] 50)) 8).trans rfl), ((blk_cell (blk_alloc H13z.out (.cells #[.int .i64 0, .int .i64 0, .bool false, .bool false, .bool false, .int .i64 0, .string (⟨#[]⟩ : ByteArray), .bool false, .int .i64 0] 50)) 0).trans rfl), ((blk_cell (blk_alloc H13z.out (.cells #[.int .i64 0, .int .i64 0, .bool false, .bool false, .bool false, .int .i64 0, .string (⟨#[]⟩ : ByteArray), .bool false, .int .i64 0] 50)) 1).trans rfl), ((blk_cell (blk_alloc H13z.out (.cells #[.int .i64 0, .int .i64 0, .bool false, .bool false, .bool false, .int .i64 0, .string (⟨#[]⟩ : ByteArray), .bool false, .int .i64 0] 50)) 2).trans rfl), ((blk_cell (blk_alloc H13z.out (.cells #[.int .i64 0, .int .i64 0, .bool false, .bool false, .bool false, .int .i64 0, .string (⟨#[]⟩ : ByteArray), .bool false, .int .i64 0] 50)) 3).trans rfl), ((blk_cell (blk_alloc H13z.out (.cells #[.int .i64 0, .int .i64 0, .bool false, .bool false, .bool false, .int .i64 0, .string (⟨#[]⟩ : ByteArray), .bool false, .int .i64 0] 50)) 4).trans rfl), ((blk_cell (blk_alloc H13z.out (.cells #[.int .i64 0, .int .i64 0, .bool false, .bool false, .bool false, .int .i64 0, .string (⟨#[]⟩ : ByteArray), .bool false, .int .i64 0] 50)) 5).trans rfl), ((blk_cell (blk_alloc H13z.out (.cells #[.int .i64 0, .int .i64 0, .bool false, .bool false, .bool false, .int .i64 0, .string (⟨#[]⟩ : ByteArray), .bool false, .int .i64 0] 50)) 6).trans rfl), ((blk_cell (blk_alloc H13z.out (.cells #[.int .i64 0, .int .i64 0, .bool false, .bool false, .bool false, .int .i64 0, .string (⟨#[]⟩ : ByteArray), .bool false, .int .i64 0] 50)) 7).trans rfl), ((blk_cell (blk_alloc H13z.out (.cells #[.int .i64 0, .int .i64 0, .bool false, .bool false, .bool false, .int .i64 0, .string (⟨#[]⟩ : ByteArray), .bool false, .int .i64 0] 50)) 8).trans rfl), (HEC.out _ (below_alloc HEz.out (.cells #[.int .i64 0, .int .i64 0, .bool false, .bool false, .bool false, .int .i64 0, .string (⟨#[]⟩ : ByteArray), .bool false, .int .i64 0] 50))).1, (HEC.out _ (below_alloc HEz.out (.cells #[.int .i64 0, .int .i64 0, .bool false, .bool false, .bool false, .int .i64 0, .string (⟨#[]⟩ : ByteArray), .bool false, .int .i64 0] 50))).2.1, (HEC.out _ (below_alloc HEz.out (.cells #[.int .i64 0, .int .i64 0, .bool false, .bool false, .bool false, .int .i64 0, .string (⟨#[]⟩ : ByteArray), .bool false, .int .i64 0] 50))).2.2.1, (HEC.out _ (below_alloc HEz.out (.cells #[.int .i64 0, .int .i64 0, .bool false, .bool false, .bool false, .int .i64 0, .string (⟨#[]⟩ : ByteArray), .bool false, .int .i64 0] 50))).2.2.2, ((blk_cell (blk_alloc HWz.out (.cells #[.int .i64 0, .int .i64 0, .bool false, .bool false, .bool false, .int .i64 0, .string (⟨#[]⟩ : ByteArray), .bool false, .int .i64 0] 50)) 0).trans rfl), ((blk_cell (blk_alloc HWz.out (.cells #[.int .i64 0, .int .i64 0, .bool false, .bool false, .bool false, .int .i64 0, .string (⟨#[]⟩ : ByteArray), .bool false, .int .i64 0] 50)) 1).trans rfl), ((blk_cell (blk_alloc HWz.out (.cells #[.int .i64 0, .int .i64 0, .bool false, .bool false, .bool false, .int .i64 0, .string (⟨#[]⟩ : ByteArray), .bool false, .int .i64 0] 50)) 2).trans rfl)⟩ (fun hHeld => ?_)
   clear hK K
   refine norm_ (a' := ?_) ?_ ?_
   rotate_left
   ·show Act.put _ (some 15) _ = _
    simp only [Act.put, List.setIfInBounds_toArray, List.set_cons_zero, List.set_cons_succ, i64_w, i32_w]
    rfl
   exact norm_ (by simp only [putAll, Act.put, List.setIfInBounds_toArray, List.set_cons_zero, List.set_cons_succ]) (hCont wz.heap.size _ ⟨blk_new wz (.cells #[.int .i64 0, .int .i64 0, .bool false, .bool false, .bool false, .int .i64 0, .string (⟨#[]⟩ : ByteArray), .bool false, .int .i64 0] 50), (blk_alloc HCz.out (.cells #[.int .i64 0, .int .i64 0, .bool false, .bool false, .bool false, .int .i64 0, .string (⟨#[]⟩ : ByteArray), .bool false, .int .i64 0] 50)), (blk_alloc H13z.out (.cells #[.int .i64 0, .int .i64 0, .bool false, .bool false, .bool false, .int .i64 0, .string (⟨#[]⟩ : ByteArray), .bool false, .int .i64 0] 50)), (blk_alloc HWz.out (.cells #[.int .i64 0, .int .i64 0, .bool false, .bool false, .bool false, .int .i64 0, .string (⟨#[]⟩ : ByteArray), .bool false, .int .i64 0] 50)), (below_alloc HBz.out (.cells #[.int .i64 0, .int .i64 0, .bool false, .bool false, .bool false, .int .i64 0, .string (⟨#[]⟩ : ByteArray), .bool false, .int .i64 0] 50)), (below_alloc HEz.out (.cells #[.int .i64 0, .int .i64 0, .bool false, .bool false, .bool false, .int .i64 0, .string (⟨#[]⟩ : ByteArray), .bool false, .int .i64 0] 50)), below_size HBz.out, HEz.out.size, Nat.ne_of_lt (blk_lt HCz.out), Nat.ne_of_lt (blk_lt H13z.out), Nat.ne_of_lt (blk_lt HWz.out)⟩)
  ·skip
   refine value_ (w1 := ?_) (v := ?_) (by rfl) rfl ?_ ?_
   rotate_left 2
   ·go_simp
    constructor
    ·rfl
    ·rfl
   refine hK.out _ _ ⟨((blk_cell (blk_alloc HCd.out (.cells #[.int .i64 0, .int .i64 0, .bool false, .bool false, .bool false, .int .i64 0, .string (⟨#[]⟩ : ByteArray), .bool false, .int .i64 0] 50)) 0).trans rfl), ((blk_cell (blk_alloc HCd.out (.cells #[.int .i64 0, .int .i64 0, .bool false, .bool false, .bool false, .int .i64 0, .string (⟨#[]⟩ : ByteArray), .bool false, .int .i64 0] 50)) 1).trans rfl), ((blk_cell (blk_alloc HCd.out (.cells #[.int .i64 0, .int .i64 0, .bool false, .bool false, .bool false, .int .i64 0, .string (⟨#[]⟩ : ByteArray), .bool false, .int .i64 0] 50)) 2).trans rfl), ((blk_cell (blk_alloc HCd.out (.cells #[.int .i64 0, .int .i64 0, .bool false, .bool false, .bool false, .int .i64 0, .string (⟨#[]⟩ : ByteArray), .bool false, .int .i64 0] 50)) 3).trans rfl), ((blk_cell (blk_alloc HCd.out (.cells #[.int .i64 0, .int .i64 0, .bool false, .bool false, .bool false, .int .i64 0, .string (⟨#[]⟩ : ByteArray), .bool false, .int .i64 0] 50)) 4).trans rfl), ((blk_cell (blk_alloc HCd.out (.cells #[.int .i64 0, .int .i64 0, .bool false, .bool false, .bool false, .int .i64 0, .string (⟨#[]⟩ : ByteArray), .bool false, .int .i64 0] 50)) 5).trans rfl), ((blk_cell (blk_alloc HCd.out (.cells #[.int .i64 0, .int .i64 0, .bool false, .bool false, .bool false, .int .i64 0, .string (⟨#[]⟩ : ByteArray), .bool false, .int .i64 0] 50)) 6).trans rfl), ((blk_cell (blk_alloc HCd.out (.cells #[.int .i64 0, .int .i64 0, .bool false, .bool false, .bool false, .int .i64 0, .string (⟨#[]⟩ : ByteArray), .bool false, .int .i64 0] 50)) 7).trans rfl), ((blk_cell (blk_alloc HCd.out (.cells #[.int .i64 0, .int .i64 0, .bool false, .bool false, .bool false, .int .i64 0, .string (⟨#[]⟩ : ByteArray), .bool false, .int .i64 0] 50)) 8).trans rfl), ((blk_cell (blk_alloc H13d.out (.cells #[.int .i64 0, .int .i64 0, .bool false, .bool false, .bool false, .int .i64 0, .string (⟨#[]⟩ : ByteArray), .bool false, .int .i64 0] 50)) 0).trans rfl), ((blk_cell (blk_alloc H13d.out (.cells #[.int .i64 0, .int .i64 0, .bool false, .bool false, .bool false, .int .i64 0, .string (⟨#[]⟩ : ByteArray), .bool false, .int .i64 0] 50)) 1).trans rfl), ((blk_cell (blk_alloc H13d.out (.cells #[.int .i64 0, .int .i64 0, .bool false, .bool false, .bool false, .int .i64 0, .string (⟨#[]⟩ : ByteArray), .bool false, .int .i64 0] 50)) 2).trans rfl), ((blk_cell (blk_alloc H13d.out (.cells #[.int .i64 0, .int .i64 0, .bool false, .bool false, .bool false, .int .i64 0, .string (⟨#[]⟩ : ByteArray), .bool false, .int .i64 0] 50)) 3).trans rfl), ((blk_cell (blk_alloc H13d.out (.cells #[.int .i64 0, .int .i64 0, .bool false, .bool false, .bool false, .int .i64 0, .string (⟨#[]⟩ : ByteArray), .bool false, .int .i64 0] 50)) 4).trans rfl), ((blk_cell (blk_alloc H13d.out (.cells #[.int .i64 0, .int .i64 0, .bool false, .bool false, .bool false, .int .i64 0, .string (⟨#[]⟩ : ByteArray), .bool false, .int .i64 0] 50)) 5).trans rfl), ((blk_cell (blk_alloc H13d.out (.cells #[.int .i64 0, .int .i64 0, .bool false, .bool false, .bool false, .int .i64 0, .string (⟨#[]⟩ : ByteArray), .bool false, .int .i64 0] 50)) 6).trans rfl), ((blk_cell (blk_alloc H13d.out (.cells #[.int .i64 0, .int .i64 0, .bool false, .bool false, .bool false, .int .i64 0, .string (⟨#[]⟩ : ByteArray), .bool false, .int .i64 0] 50)) 7).trans rfl), ((blk_cell (blk_alloc H13d.out (.cells #[.int .i64 0, .int .i64 0, .bool false, .bool false, .bool false, .int .i64 0, .string (⟨#[]⟩ : ByteArray), .bool false, .int .i64 0] 50)) 8).trans rfl), (HEC.out _ (below_alloc HEd.out (.cells #[.int .i64 0, .int .i64 0, .bool false, .bool false, .bool false, .int .i64 0, .string (⟨#[]⟩ : ByteArray), .bool false, .int .i64 0] 50))).1, (HEC.out _ (below_alloc HEd.out (.cells #[.int .i64 0, .int .i64 0, .bool false, .bool false, .bool false, .int .i64 0, .string (⟨#[]⟩ : ByteArray), .bool false, .int .i64 0] 50))).2.1, (HEC.out _ (below_alloc HEd.out (.cells #[.int .i64 0, .int .i64 0, .bool false, .bool false, .bool false, .int .i64 0, .string (⟨#[]⟩ : ByteArray), .bool false, .int .i64 0] 50))).2.2.1, (HEC.out _ (below_alloc HEd.out (.cells #[.int .i64 0, .int .i64 0, .bool false, .bool false, .bool false, .int .i64 0, .string (⟨#[]⟩ : ByteArray), .bool false, .int .i64 0] 50))).2.2.2, ((blk_cell (blk_alloc HWd.out (.cells #[.int .i64 0, .int .i64 0, .bool false, .bool false, .bool false, .int .i64 0, .string (⟨#[]⟩ : ByteArray), .bool false, .int .i64 0] 50)) 0).trans rfl), ((blk_cell (blk_alloc HWd.out (.cells #[.int .i64 0, .int .i64 0, .bool false, .bool false, .bool false, .int .i64 0, .string (⟨#[]⟩ : ByteArray), .bool false, .int .i64 0] 50)) 1).trans rfl), ((blk_cell (blk_alloc HWd.out (.cells #[.int .i64 0, .int .i64 0, .bool false, .bool false, .bool false, .int .i64 0, .string (⟨#[]⟩ : ByteArray), .bool false, .int .i64 0] 50)) 2).trans rfl)⟩ (fun hHeld => ?_)
   clear hK K
   refine norm_ (a' := ?_) ?_ ?_
   rotate_left
   ·show Act.put _ (some 15) _ = _
    simp only [Act.put, List.setIfInBounds_toArray, List.set_cons_zero, List.set_cons_succ, i64_w, i32_w]
    rfl
   refine one_ (i := 7) (N := some 68) #[true, true, true, true, true, true, true, true, false, false, false, true, false, false] rfl rfl (by kernel_rfl) (by decide) (fun K hK => ?_)
   refine goes_ Tryd.func29 (by kernel_rfl) rfl #[.agg #[.int .i64 x0, .int .i64 x1, .int .i64 x2, .int .i64 x3, .string x4, .string x5, .int .i64 x6, .int .u32 x7, .bool x8], .agg #[.int .i64 r0, .int .i64 r1, .bool r2, .bool r3, .bool r4, .int .i64 r5, .string r6, .bool r7, .int .i64 r8], .agg #[.int .i64 d0, .int .i64 d1, .int .i64 d2, .string d3], .int .i64 a5, .agg #[.int .i64 q0, .int .i64 q1, .slice Aq Lq cq]] (by rfl) rfl rfl (by simp only [List.map_toArray, List.map_cons, List.map_nil]; rfl) ?_
   with_reducible refine (HPA.out (wd.alloc (.cells #[.int .i64 0, .int .i64 0, .bool false, .bool false, .bool false, .int .i64 0, .string (⟨#[]⟩ : ByteArray), .bool false, .int .i64 0] 50)) (below_alloc HBd.out (.cells #[.int .i64 0, .int .i64 0, .bool false, .bool false, .bool false, .int .i64 0, .string (⟨#[]⟩ : ByteArray), .bool false, .int .i64 0] 50))).mono ?_
   rintro e wz ⟨rfl, hbn⟩
   refine ⟨_, rfl, ?_⟩
   have HCz := Aside0.mk (blk_below (blk_alloc HCd.out (.cells #[.int .i64 0, .int .i64 0, .bool false, .bool false, .bool false, .int .i64 0, .string (⟨#[]⟩ : ByteArray), .bool false, .int .i64 0] 50)) hbn)
   have H13z := Aside0.mk (blk_below (blk_alloc H13d.out (.cells #[.int .i64 0, .int .i64 0, .bool false, .bool false, .bool false, .int .i64 0, .string (⟨#[]⟩ : ByteArray), .bool false, .int .i64 0] 50)) hbn)
   have HWz := Aside0.mk (blk_below (blk_alloc HWd.out (.cells #[.int .i64 0, .int .i64 0, .bool false, .bool false, .bool false, .int .i64 0, .string (⟨#[]⟩ : ByteArray), .bool false, .int .i64 0] 50)) hbn)
   have HBz := Aside0.mk (below_step (below_alloc HBd.out (.cells #[.int .i64 0, .int .i64 0, .bool false, .bool false, .bool false, .int .i64 0, .string (⟨#[]⟩ : ByteArray), .bool false, .int .i64 0] 50)) hbn)
   have HEz := Aside0.mk (below_step (below_alloc HEd.out (.cells #[.int .i64 0, .int .i64 0, .bool false, .bool false, .bool false, .int .i64 0, .string (⟨#[]⟩ : ByteArray), .bool false, .int .i64 0] 50)) hbn)
   have HSz := Aside0.mk (blk_below (blk_new wd (.cells #[.int .i64 0, .int .i64 0, .bool false, .bool false, .bool false, .int .i64 0, .string (⟨#[]⟩ : ByteArray), .bool false, .int .i64 0] 50)) hbn)
   clear hbn
   refine hK.out _ _ ⟨((blk_cell HCz.out 0).trans rfl), ((blk_cell HCz.out 1).trans rfl), ((blk_cell HCz.out 2).trans rfl), ((blk_cell HCz.out 3).trans rfl), ((blk_cell HCz.out 4).trans rfl), ((blk_cell HCz.out 5).trans rfl), ((blk_cell HCz.out 6).trans rfl), ((blk_cell HCz.out 7).trans rfl), ((blk_cell HCz.out 8).trans rfl), ((blk_cell H13z.out 0).trans rfl), ((blk_cell H13z.out 1).trans rfl), ((blk_cell H13z.out 2).trans rfl), ((blk_cell H13z.out 3).trans rfl), ((blk_cell H13z.out 4).trans rfl), ((blk_cell H13z.out 5).trans rfl), ((blk_cell H13z.out 6).trans rfl), ((blk_cell H13z.out 7).trans rfl), ((blk_cell H13z.out 8).trans rfl), (HEC.out _ HEz.out).1, (HEC.out _ HEz.out).2.1, (HEC.out _ HEz.out).2.2.1, (HEC.out _ HEz.out).2.2.2, ((blk_cell HWz.out 0).trans rfl), ((blk_cell HWz.out 1).trans rfl), ((blk_cell HWz.out 2).trans rfl)⟩ (fun hHeld => ?_)
   clear hK K
   refine norm_ (a' := ?_) ?_ ?_
   rotate_left
   ·show Act.put _ (some 68) _ = _
    simp only [Act.put, List.setIfInBounds_toArray, List.set_cons_zero, List.set_cons_succ, i64_w, i32_w]
    rfl
   refine pure_ (i := 8) (N := some 60) (v := ?_) (a' := ?_) #[true, true, true, true, true, true, true, true, true, false, false, true, false, false] rfl rfl (by kernel_rfl) (fun _ _ _ h => h) (Or.inl ⟨by rfl, ?_⟩) ?_ ?_
   rotate_left
   ·intro w'
    go_simp
    with_reducible rfl
   rotate_left
   ·simp only [Act.put, List.setIfInBounds_toArray, List.set_cons_zero, List.set_cons_succ, i64_w, i32_w]
    rfl
   refine pure_ (i := 9) (N := some 69) (v := ?_) (a' := ?_) #[true, true, true, true, true, true, true, true, true, true, false, true, false, false] rfl rfl (by kernel_rfl) (fun _ _ _ h => h) (Or.inl ⟨by rfl, ?_⟩) ?_ ?_
   rotate_left
   ·intro w'
    go_simp
    with_reducible rfl
   rotate_left
   ·simp only [Act.put, List.setIfInBounds_toArray, List.set_cons_zero, List.set_cons_succ, i64_w, i32_w]
    rfl
   refine pure_ (i := 10) (N := some 70) (v := ?_) (a' := ?_) #[true, true, true, true, true, true, true, true, true, true, true, true, false, false] rfl rfl (by kernel_rfl) (fun _ _ _ h => h) (Or.inl ⟨by rfl, ?_⟩) ?_ ?_
   rotate_left
   ·intro w'
    go_simp
    with_reducible rfl
   rotate_left
   ·simp only [Act.put, List.setIfInBounds_toArray, List.set_cons_zero, List.set_cons_succ, i64_w, i32_w]
    rfl
   exact norm_ (by simp only [putAll, Act.put, List.setIfInBounds_toArray, List.set_cons_zero, List.set_cons_succ]) (hCont wd.heap.size _ ⟨HSz.out, HCz.out, H13z.out, HWz.out, HBz.out, HEz.out, below_size HBd.out, HEd.out.size, Nat.ne_of_lt (blk_lt HCd.out), Nat.ne_of_lt (blk_lt H13d.out), Nat.ne_of_lt (blk_lt HWd.out)⟩)
 rintro s_ wy ⟨hHS_, hHC_, hH13_, hHW_, hHB_, hHE_, hGES_, hGEE2_, hNEHC_, hNEH13_, hNEHW_⟩
 have HSy := Aside0.mk hHS_
 have HCy := Aside0.mk hHC_
 have H13y := Aside0.mk hH13_
 have HWy := Aside0.mk hHW_
 have HBy := Aside0.mk hHB_
 have HEy := Aside0.mk hHE_
 have GESy := Aside0.mk hGES_
 have GEE2y := Aside0.mk hGEE2_
 have NEHCy := Aside0.mk hNEHC_
 have NEH13y := Aside0.mk hNEH13_
 have NEHWy := Aside0.mk hNEHW_
 clear hHS_ hHC_ hH13_ hHW_ hHB_ hHE_ hGES_ hGEE2_ hNEHC_ hNEH13_ hNEHW_
 have hHeld := True.intro
 refine norm_ (a' := ?_) ?_ ?_
 rotate_left
 ·simp only [putAll, Act.put, List.setIfInBounds_toArray, List.set_cons_zero, List.set_cons_succ]
  rfl
 refine last_ (i := 12) (N := none) #[true, true, true, true, true, true, true, true, true, true, true, true, true, false] rfl rfl (by kernel_rfl) (by decide) (fun K hK => ?_)
 obtain ⟨u0_, u1_, u2_, u3_, u4_, u5_, u6_, u7_, u8_, uf0_, uf1_, uf2_, uf3_, uf4_, uf5_, uf6_, uf7_, uf8_⟩ := cells9 HSy.out
 refine skip_ (w1 := ?_) (by rfl) rfl ?_ ?_
 rotate_left
 ·go_simp
  rfl
 refine hK.out _ _ ?_
 clear hK K
 refine pure_ (i := 13) (N := some 16) (v := ?_) (a' := ?_) #[true, true, true, true, true, true, true, true, true, true, true, true, true, true] rfl rfl (by kernel_rfl) (fun _ _ _ h => h) (Or.inl ⟨by rfl, ?_⟩) ?_ ?_
 rotate_left
 ·intro w'
  go_simp
  with_reducible rfl
 rotate_left
 ·simp only [Act.put, List.setIfInBounds_toArray, List.set_cons_zero, List.set_cons_succ, i64_w, i32_w]
  rfl
 refine done_ (by kernel_rfl) ?_
 skip
 have yHC := set9_blk HCy.out NEHCy.out (.int .i64 r0) (.int .i64 r1) (.bool y2) (.bool r3) (.bool r4) (.int .i64 r5) (.string r6) (.bool y7) (.int .i64 y8)
 have yH13 := set9_blk H13y.out NEH13y.out (.int .i64 r0) (.int .i64 r1) (.bool y2) (.bool r3) (.bool r4) (.int .i64 r5) (.string r6) (.bool y7) (.int .i64 y8)
 have yHW := set9_blk HWy.out NEHWy.out (.int .i64 r0) (.int .i64 r1) (.bool y2) (.bool r3) (.bool r4) (.int .i64 r5) (.string r6) (.bool y7) (.int .i64 y8)
 have yH15 := set9_row HSy.out (.int .i64 r0) (.int .i64 r1) (.bool y2) (.bool r3) (.bool r4) (.int .i64 r5) (.string r6) (.bool y7) (.int .i64 y8)
 have yHB := set9_below HBy.out GESy.out (.int .i64 r0) (.int .i64 r1) (.bool y2) (.bool r3) (.bool r4) (.int .i64 r5) (.string r6) (.bool y7) (.int .i64 y8)
 have yHE := set9_below HEy.out GEE2y.out (.int .i64 r0) (.int .i64 r1) (.bool y2) (.bool r3) (.bool r4) (.int .i64 r5) (.string r6) (.bool y7) (.int .i64 y8)
 unfold set9 at yHC
 unfold set9 at yH13
 unfold set9 at yHW
 unfold set9 at yH15
 unfold set9 at yHB
 unfold set9 at yHE
 generalize (((((((((wy.setCell ⟨s_, 0, none⟩ (.int .i64 r0)).setCell ⟨s_, 1, none⟩ (.int .i64 r1)).setCell ⟨s_, 2, none⟩ (.bool y2)).setCell ⟨s_, 3, none⟩ (.bool r3)).setCell ⟨s_, 4, none⟩ (.bool r4)).setCell ⟨s_, 5, none⟩ (.int .i64 r5)).setCell ⟨s_, 6, none⟩ (.string r6)).setCell ⟨s_, 7, none⟩ (.bool y7)).setCell ⟨s_, 8, none⟩ (.int .i64 y8)) = w15 at yHC yH13 yHW yH15 yHB yHE ⊢
 have HC := Aside0.mk yHC
 clear yHC
 have H13 := Aside0.mk yH13
 clear yH13
 have HW := Aside0.mk yHW
 clear yHW
 have H15 := Aside0.mk yH15
 clear yH15
 have HB := Aside0.mk yHB
 clear yHB
 have HE := Aside0.mk yHE
 clear yHE
 clear HSy HBy HEy GESy GEE2y HCy H13y HWy NEHCy NEH13y NEHWy HCd H13d HWd HBd HEd
 generalize s_ = g15 at H15 ⊢
 go_wp2_with fail
 have HCd := Aside0.mk (blk_drew HC.out)
 have H13d := Aside0.mk (blk_drew H13.out)
 have HWd := Aside0.mk (blk_drew HW.out)
 have H15d := Aside0.mk (blk_drew H15.out)
 have HBd := Aside0.mk (below_drew1 HB.out)
 have HEd := Aside0.mk (below_drew1 HE.out)
 refine start_ (n := 14) (S := fun w' => w'.cell? ⟨w.heap.size, 0, none⟩ = some (.int .i64 x0) ∧ w'.cell? ⟨w.heap.size, 1, none⟩ = some (.int .i64 x1) ∧ w'.cell? ⟨w.heap.size, 2, none⟩ = some (.int .i64 x2) ∧ w'.cell? ⟨w.heap.size, 3, none⟩ = some (.int .i64 x3) ∧ w'.cell? ⟨w.heap.size, 4, none⟩ = some (.string x4) ∧ w'.cell? ⟨w.heap.size, 5, none⟩ = some (.string x5) ∧ w'.cell? ⟨w.heap.size, 6, none⟩ = some (.int .i64 x6) ∧ w'.cell? ⟨w.heap.size, 7, none⟩ = some (.int .u32 x7) ∧ w'.cell? ⟨w.heap.size, 8, none⟩ = some (.bool x8) ∧ w'.cell? ⟨g13, 0, none⟩ = some (.int .i64 r0) ∧ w'.cell? ⟨g13, 1, none⟩ = some (.int .i64 r1) ∧ w'.cell? ⟨g13, 2, none⟩ = some (.bool r2) ∧ w'.cell? ⟨g13, 3, none⟩ = some (.bool r3) ∧ w'.cell? ⟨g13, 4, none⟩ = some (.bool r4) ∧ w'.cell? ⟨g13, 5, none⟩ = some (.int .i64 r5) ∧ w'.cell? ⟨g13, 6, none⟩ = some (.string r6) ∧ w'.cell? ⟨g13, 7, none⟩ = some (.bool r7) ∧ w'.cell? ⟨g13, 8, none⟩ = some (.int .i64 r8) ∧ w'.cell? ⟨ge, 0, none⟩ = some (.int .i64 d0) ∧ w'.cell? ⟨ge, 1, none⟩ = some (.int .i64 d1) ∧ w'.cell? ⟨ge, 2, none⟩ = some (.int .i64 d2) ∧ w'.cell? ⟨ge, 3, none⟩ = some (.string d3) ∧ w'.cell? ⟨gw, 0, none⟩ = some (.int .i64 q0) ∧ w'.cell? ⟨gw, 1, none⟩ = some (.int .i64 q1) ∧ w'.cell? ⟨gw, 2, none⟩ = some (.slice Aq Lq cq)) (ds := [12]) #[false, false, false, false, false, false, false, false, false, false, false, false, false, false] (by kernel_rfl) rfl rfl ⟨((blk_cell HC.out 0).trans rfl), ((blk_cell HC.out 1).trans rfl), ((blk_cell HC.out 2).trans rfl), ((blk_cell HC.out 3).trans rfl), ((blk_cell HC.out 4).trans rfl), ((blk_cell HC.out 5).trans rfl), ((blk_cell HC.out 6).trans rfl), ((blk_cell HC.out 7).trans rfl), ((blk_cell HC.out 8).trans rfl), ((blk_cell H13.out 0).trans rfl), ((blk_cell H13.out 1).trans rfl), ((blk_cell H13.out 2).trans rfl), ((blk_cell H13.out 3).trans rfl), ((blk_cell H13.out 4).trans rfl), ((blk_cell H13.out 5).trans rfl), ((blk_cell H13.out 6).trans rfl), ((blk_cell H13.out 7).trans rfl), ((blk_cell H13.out 8).trans rfl), (HEC.out _ HE.out).1, (HEC.out _ HE.out).2.1, (HEC.out _ HE.out).2.2.1, (HEC.out _ HE.out).2.2.2, ((blk_cell HW.out 0).trans rfl), ((blk_cell HW.out 1).trans rfl), ((blk_cell HW.out 2).trans rfl)⟩ (fun hHeld => ?_)
 generalize w15.drew = wd at HCd H13d HWd H15d HBd HEd hHeld ⊢
 clear HB HE HC H13 HW H15
 refine pure_ (i := 2) (N := some 74) (v := ?_) (a' := ?_) #[false, false, true, false, false, false, false, false, false, false, false, false, false, false] rfl rfl (by kernel_rfl) (fun _ _ _ h => h) (Or.inl ⟨by rfl, ?_⟩) ?_ ?_
 rotate_left
 ·intro w'
  go_simp
  with_reducible rfl
 rotate_left
 ·simp only [Act.put, List.setIfInBounds_toArray, List.set_cons_zero, List.set_cons_succ, i64_w, i32_w]
  rfl
 refine pure_ (i := 3) (N := some 75) (v := ?_) (a' := ?_) #[false, false, true, true, false, false, false, false, false, false, false, false, false, false] rfl rfl (by kernel_rfl) (fun _ _ _ h => h) (Or.inl ⟨by rfl, ?_⟩) ?_ ?_
 rotate_left
 ·intro w'
  go_simp
  with_reducible rfl
 rotate_left
 ·simp only [Act.put, List.setIfInBounds_toArray, List.set_cons_zero, List.set_cons_succ, i64_w, i32_w]
  rfl
 refine pure_ (i := 5) (N := some 77) (v := ?_) (a' := ?_) #[false, false, true, true, false, true, false, false, false, false, false, false, false, false] rfl rfl (by kernel_rfl) (fun _ _ _ h => h) (Or.inl ⟨by rfl, ?_⟩) ?_ ?_
 rotate_left
 ·intro w'
  go_simp
  with_reducible rfl
 rotate_left
 ·simp only [Act.put, List.setIfInBounds_toArray, List.set_cons_zero, List.set_cons_succ, i64_w, i32_w]
  rfl
 refine take_ (i := 0) (N := some 72) (v := ?_) (a' := ?_) #[true, false, true, true, false, true, false, false, false, false, false, false, false, false] rfl rfl (by kernel_rfl) (fun _ _ _ h => h) (Or.inl ⟨by rfl, ?_⟩) hHeld ?_ ?_
 rotate_left
 ·rintro w' ⟨s0, s1, s2, s3, s4, s5, s6, s7, s8, s9, s10, s11, s12, s13, s14, s15, s16, s17, s18, s19, s20, s21, s22, s23, s24⟩
  go_simp
  with_reducible rfl
 rotate_left
 ·simp only [Act.put, List.setIfInBounds_toArray, List.set_cons_zero, List.set_cons_succ, i64_w, i32_w]
  rfl
 refine take_ (i := 1) (N := some 73) (v := ?_) (a' := ?_) #[true, true, true, true, false, true, false, false, false, false, false, false, false, false] rfl rfl (by kernel_rfl) (fun _ _ _ h => h) (Or.inl ⟨by rfl, ?_⟩) hHeld ?_ ?_
 rotate_left
 ·rintro w' ⟨s0, s1, s2, s3, s4, s5, s6, s7, s8, s9, s10, s11, s12, s13, s14, s15, s16, s17, s18, s19, s20, s21, s22, s23, s24⟩
  go_simp
  with_reducible rfl
 rotate_left
 ·simp only [Act.put, List.setIfInBounds_toArray, List.set_cons_zero, List.set_cons_succ, i64_w, i32_w]
  rfl
 refine take_ (i := 4) (N := some 76) (v := ?_) (a' := ?_) #[true, true, true, true, true, true, false, false, false, false, false, false, false, false] rfl rfl (by kernel_rfl) (fun _ _ _ h => h) (Or.inl ⟨by rfl, ?_⟩) hHeld ?_ ?_
 rotate_left
 ·rintro w' ⟨s0, s1, s2, s3, s4, s5, s6, s7, s8, s9, s10, s11, s12, s13, s14, s15, s16, s17, s18, s19, s20, s21, s22, s23, s24⟩
  go_simp
  with_reducible rfl
 rotate_left
 ·simp only [Act.put, List.setIfInBounds_toArray, List.set_cons_zero, List.set_cons_succ, i64_w, i32_w]
  rfl
 refine take_ (i := 6) (N := some 78) (v := ?_) (a' := ?_) #[true, true, true, true, true, true, true, false, false, false, false, false, false, false] rfl rfl (by kernel_rfl) (fun _ _ _ h => h) (Or.inl ⟨by rfl, ?_⟩) hHeld ?_ ?_
 rotate_left
 ·rintro w' ⟨s0, s1, s2, s3, s4, s5, s6, s7, s8, s9, s10, s11, s12, s13, s14, s15, s16, s17, s18, s19, s20, s21, s22, s23, s24⟩
  go_simp
  with_reducible rfl
 rotate_left
 ·simp only [Act.put, List.setIfInBounds_toArray, List.set_cons_zero, List.set_cons_succ, i64_w, i32_w]
  rfl
 refine join_ (σ := Nat) 2 #[true, true, true, true, true, true, true, true, true, true, true, true, false, false] (fun s_ => [(79, .tuple #[.agg #[.int .i64 r0, .int .i64 r1, .bool y2, .bool r3, .bool r4, .int .i64 r5, .string r6, .bool y7, .int .i64 y8], .bool yb]), (71, .tuple #[.agg #[.int .i64 r0, .int .i64 r1, .bool y2, .bool r3, .bool r4, .int .i64 r5, .string r6, .bool y7, .int .i64 y8], .bool yb]), (80, .agg #[.int .i64 r0, .int .i64 r1, .bool y2, .bool r3, .bool r4, .int .i64 r5, .string r6, .bool y7, .int .i64 y8]), (81, .bool yb), (17, .pointer (some ⟨s_, 0, none⟩))]) (fun s_ w' => w'.heap[s_]? = some (.cells #[.int .i64 0, .int .i64 0, .bool false, .bool false, .bool false, .int .i64 0, .string (⟨#[]⟩ : ByteArray), .bool false, .int .i64 0] 50 (0, 0)) ∧ w'.heap[w.heap.size]? = some (.cells #[.int .i64 x0, .int .i64 x1, .int .i64 x2, .int .i64 x3, .string x4, .string x5, .int .i64 x6, .int .u32 x7, .bool x8] 48 (0, 0)) ∧ w'.heap[g13]? = some (.cells #[.int .i64 r0, .int .i64 r1, .bool r2, .bool r3, .bool r4, .int .i64 r5, .string r6, .bool r7, .int .i64 r8] 50 (0, 0)) ∧ w'.heap[gw]? = some (.cells #[.int .i64 q0, .int .i64 q1, .slice Aq Lq cq] 52 (0, 0)) ∧ w'.heap[g15]? = some (.cells #[.int .i64 r0, .int .i64 r1, .bool y2, .bool r3, .bool r4, .int .i64 r5, .string r6, .bool y7, .int .i64 y8] 50 (0, 0)) ∧ Below w.heap.size w w' ∧ Below wE.heap.size wE w' ∧ w.heap.size ≤ s_ ∧ wE.heap.size ≤ s_ ∧ w.heap.size ≠ s_ ∧ g13 ≠ s_ ∧ gw ≠ s_ ∧ g15 ≠ s_) ?_ ?_
 rotate_left
 ·intro hCont
  refine two_ (i := 7) (j := 11) (Ni := some 79) (Nj := some 17) #[true, true, true, true, true, true, true, true, false, false, false, false, false, false] #[true, true, true, true, true, true, true, false, false, false, false, true, false, false] rfl rfl rfl rfl (by kernel_rfl) (by decide) (by decide) (fun K hK => ?_) (fun K hK => ?_)
  ·skip
   refine goes_ Tryd.func30 (by kernel_rfl) rfl #[.agg #[.int .i64 x0, .int .i64 x1, .int .i64 x2, .int .i64 x3, .string x4, .string x5, .int .i64 x6, .int .u32 x7, .bool x8], .agg #[.int .i64 r0, .int .i64 r1, .bool r2, .bool r3, .bool r4, .int .i64 r5, .string r6, .bool r7, .int .i64 r8], .agg #[.int .i64 d0, .int .i64 d1, .int .i64 d2, .string d3], .int .i64 a5, .agg #[.int .i64 q0, .int .i64 q1, .slice Aq Lq cq]] (by rfl) rfl rfl (by simp only [List.map_toArray, List.map_cons, List.map_nil]; rfl) ?_
   with_reducible refine (HRA.out wd HBd.out).mono ?_
   rintro e wz ⟨rfl, hbn⟩
   refine ⟨_, rfl, ?_⟩
   have HCz := Aside0.mk (blk_below HCd.out hbn)
   have H13z := Aside0.mk (blk_below H13d.out hbn)
   have HWz := Aside0.mk (blk_below HWd.out hbn)
   have H15z := Aside0.mk (blk_below H15d.out hbn)
   have HBz := Aside0.mk (below_step HBd.out hbn)
   have HEz := Aside0.mk (below_step HEd.out hbn)
   clear hbn
   refine hK.out _ _ ⟨((blk_cell HCz.out 0).trans rfl), ((blk_cell HCz.out 1).trans rfl), ((blk_cell HCz.out 2).trans rfl), ((blk_cell HCz.out 3).trans rfl), ((blk_cell HCz.out 4).trans rfl), ((blk_cell HCz.out 5).trans rfl), ((blk_cell HCz.out 6).trans rfl), ((blk_cell HCz.out 7).trans rfl), ((blk_cell HCz.out 8).trans rfl), ((blk_cell H13z.out 0).trans rfl), ((blk_cell H13z.out 1).trans rfl), ((blk_cell H13z.out 2).trans rfl), ((blk_cell H13z.out 3).trans rfl), ((blk_cell H13z.out 4).trans rfl), ((blk_cell H13z.out 5).trans rfl), ((blk_cell H13z.out 6).trans rfl), ((blk_cell H13z.out 7).trans rfl), ((blk_cell H13z.out 8).trans rfl), (HEC.out _ HEz.out).1, (HEC.out _ HEz.out).2.1, (HEC.out _ HEz.out).2.2.1, (HEC.out _ HEz.out).2.2.2, ((blk_cell HWz.out 0).trans rfl), ((blk_cell HWz.out 1).trans rfl), ((blk_cell HWz.out 2).trans rfl)⟩ (fun hHeld => ?_)
   clear hK K
   refine norm_ (a' := ?_) ?_ ?_
   rotate_left
   ·show Act.put _ (some 79) _ = _
    simp only [Act.put, List.setIfInBounds_toArray, List.set_cons_zero, List.set_cons_succ, i64_w, i32_w]
    rfl
   refine pure_ (i := 8) (N := some 71) (v := ?_) (a' := ?_) #[true, true, true, true, true, true, true, true, true, false, false, false, false, false] rfl rfl (by kernel_rfl) (fun _ _ _ h => h) (Or.inl ⟨by rfl, ?_⟩) ?_ ?_
   rotate_left
   ·intro w'
    go_simp
    with_reducible rfl
   rotate_left
   ·simp only [Act.put, List.setIfInBounds_toArray, List.set_cons_zero, List.set_cons_succ, i64_w, i32_w]
    rfl
   refine pure_ (i := 9) (N := some 80) (v := ?_) (a' := ?_) #[true, true, true, true, true, true, true, true, true, true, false, false, false, false] rfl rfl (by kernel_rfl) (fun _ _ _ h => h) (Or.inl ⟨by rfl, ?_⟩) ?_ ?_
   rotate_left
   ·intro w'
    go_simp
    with_reducible rfl
   rotate_left
   ·simp only [Act.put, List.setIfInBounds_toArray, List.set_cons_zero, List.set_cons_succ, i64_w, i32_w]
    rfl
   refine pure_ (i := 10) (N := some 81) (v := ?_) (a' := ?_) #[true, true, true, true, true, true, true, true, true, true, true, false, false, false] rfl rfl (by kernel_rfl) (fun _ _ _ h => h) (Or.inl ⟨by rfl, ?_⟩) ?_ ?_
   rotate_left
   ·intro w'
    go_simp
    with_reducible rfl
   rotate_left
   ·simp only [Act.put, List.setIfInBounds_toArray, List.set_cons_zero, List.set_cons_succ, i64_w, i32_w]
    rfl
   refine one_ (i := 11) (N := some 17) #[true, true, true, true, true, true, true, true, true, true, true, true, false, false] rfl rfl (by kernel_rfl) (by decide) (fun K hK => ?_)
   refine value_ (w1 := ?_) (v := ?_) (by rfl) rfl ?_ ?_
   rotate_left 2
   ·go_simp
    constructor
    ·rfl
    ·rfl
   refine hK.out _ _ ⟨((blk_cell (blk_alloc HCz.out (.cells #[.int .i64 0, .int .i64 0, .bool false, .bool false, .bool false, .int .i64 0, .string (⟨#[]⟩ : ByteArray), .bool false, .int .i64 0] 50)) 0).trans rfl), ((blk_cell (blk_alloc HCz.out (.cells #[.int .i64 0, .int .i64 0, .bool false, .bool false, .bool false, .int .i64 0, .string (⟨#[]⟩ : ByteArray), .bool false, .int .i64 0] 50)) 1).trans rfl), ((blk_cell (blk_alloc HCz.out (.cells #[.int .i64 0, .int .i64 0, .bool false, .bool false, .bool false, .int .i64 0, .string (⟨#[]⟩ : ByteArray), .bool false, .int .i64 0] 50)) 2).trans rfl), ((blk_cell (blk_alloc HCz.out (.cells #[.int .i64 0, .int .i64 0, .bool false, .bool false, .bool false, .int .i64 0, .string (⟨#[]⟩ : ByteArray), .bool false, .int .i64 0] 50)) 3).trans rfl), ((blk_cell (blk_alloc HCz.out (.cells #[.int .i64 0, .int .i64 0, .bool false, .bool false, .bool false, .int .i64 0, .string (⟨#[]⟩ : ByteArray), .bool false, .int .i64 0] 50)) 4).trans rfl), ((blk_cell (blk_alloc HCz.out (.cells #[.int .i64 0, .int .i64 0, .bool false, .bool false, .bool false, .int .i64 0, .string (⟨#[]⟩ : ByteArray), .bool false, .int .i64 0] 50)) 5).trans rfl), ((blk_cell (blk_alloc HCz.out (.cells #[.int .i64 0, .int .i64 0, .bool false, .bool false, .bool false, .int .i64 0, .string (⟨#[]⟩ : ByteArray), .bool false, .int .i64 0] 50)) 6).trans rfl), ((blk_cell (blk_alloc HCz.out (.cells #[.int .i64 0, .int .i64 0, .bool false, .bool false, .bool false, .int .i64 0, .string (⟨#[]⟩ : ByteArray), .bool false, .int .i64 0] 50)) 7).trans rfl), ((blk_cell (blk_alloc HCz.out (.cells #[.int .i64 0, .int .i64 0, .bool false, .bool false, .bool false, .int .i64 0, .string (⟨#[]⟩ : ByteArray), .bool false, .int .i64 0] 50)) 8).trans rfl), ((blk_cell (blk_alloc H13z.out (.cells #[.int .i64 0, .int .i64 0, .bool false, .bool false, .bool false, .int .i64 0, .string (⟨#[]⟩ : ByteArray), .bool false, .int .i64 0] 50)) 0).trans rfl), ((blk_cell (blk_alloc H13z.out (.cells #[.int .i64 0, .int .i64 0, .bool false, .bool false, .bool false, .int .i64 0, .string (⟨#[]⟩ : ByteArray), .bool false, .int .i64 0] 50)) 1).trans rfl), ((blk_cell (blk_alloc H13z.out (.cells #[.int .i64 0, .int .i64 0, .bool false, .bool false, .bool false, .int .i64 0, .string (⟨#[]⟩ : ByteArray), .bool false, .int .i64 0] 50)) 2).trans rfl), ((blk_cell (blk_alloc H13z.out (.cells #[.int .i64 0, .int .i64 0, .bool false, .bool false, .bool false, .int .i64 0, .string (⟨#[]⟩ : ByteArray), .bool false, .int .i64 0] 50)) 3).trans rfl), ((blk_cell (blk_alloc H13z.out (.cells #[.int .i64 0, .int .i64 0, .bool false, .bool false, .bool false, .int .i64 0, .string (⟨#[]⟩ : ByteArray), .bool false, .int .i64 0] 50)) 4).trans rfl), ((blk_cell (blk_alloc H13z.out (.cells #[.int .i64 0, .int .i64 0, .bool false, .bool false, .bool false, .int .i64 0, .string (⟨#[]⟩ : ByteArray), .bool false, .int .i64 0] 50)) 5).trans rfl), ((blk_cell (blk_alloc H13z.out (.cells #[.int .i64 0, .int .i64 0, .bool false, .bool false, .bool false, .int .i64 0, .string (⟨#[]⟩ : ByteArray), .bool false, .int .i64 0] 50)) 6).trans rfl), ((blk_cell (blk_alloc H13z.out (.cells #[.int .i64 0, .int .i64 0, .bool false, .bool false, .bool false, .int .i64 0, .string (⟨#[]⟩ : ByteArray), .bool false, .int .i64 0] 50)) 7).trans rfl), ((blk_cell (blk_alloc H13z.out (.cells #[.int .i64 0, .int .i64 0, .bool false, .bool false, .bool false, .int .i64 0, .string (⟨#[]⟩ : ByteArray), .bool false, .int .i64 0] 50)) 8).trans rfl), (HEC.out _ (below_alloc HEz.out (.cells #[.int .i64 0, .int .i64 0, .bool false, .bool false, .bool false, .int .i64 0, .string (⟨#[]⟩ : ByteArray), .bool false, .int .i64 0] 50))).1, (HEC.out _ (below_alloc HEz.out (.cells #[.int .i64 0, .int .i64 0, .bool false, .bool false, .bool false, .int .i64 0, .string (⟨#[]⟩ : ByteArray), .bool false, .int .i64 0] 50))).2.1, (HEC.out _ (below_alloc HEz.out (.cells #[.int .i64 0, .int .i64 0, .bool false, .bool false, .bool false, .int .i64 0, .string (⟨#[]⟩ : ByteArray), .bool false, .int .i64 0] 50))).2.2.1, (HEC.out _ (below_alloc HEz.out (.cells #[.int .i64 0, .int .i64 0, .bool false, .bool false, .bool false, .int .i64 0, .string (⟨#[]⟩ : ByteArray), .bool false, .int .i64 0] 50))).2.2.2, ((blk_cell (blk_alloc HWz.out (.cells #[.int .i64 0, .int .i64 0, .bool false, .bool false, .bool false, .int .i64 0, .string (⟨#[]⟩ : ByteArray), .bool false, .int .i64 0] 50)) 0).trans rfl), ((blk_cell (blk_alloc HWz.out (.cells #[.int .i64 0, .int .i64 0, .bool false, .bool false, .bool false, .int .i64 0, .string (⟨#[]⟩ : ByteArray), .bool false, .int .i64 0] 50)) 1).trans rfl), ((blk_cell (blk_alloc HWz.out (.cells #[.int .i64 0, .int .i64 0, .bool false, .bool false, .bool false, .int .i64 0, .string (⟨#[]⟩ : ByteArray), .bool false, .int .i64 0] 50)) 2).trans rfl)⟩ (fun hHeld => ?_)
   clear hK K
   refine norm_ (a' := ?_) ?_ ?_
   rotate_left
   ·show Act.put _ (some 17) _ = _
    simp only [Act.put, List.setIfInBounds_toArray, List.set_cons_zero, List.set_cons_succ, i64_w, i32_w]
    rfl
   exact norm_ (by simp only [putAll, Act.put, List.setIfInBounds_toArray, List.set_cons_zero, List.set_cons_succ]) (hCont wz.heap.size _ ⟨blk_new wz (.cells #[.int .i64 0, .int .i64 0, .bool false, .bool false, .bool false, .int .i64 0, .string (⟨#[]⟩ : ByteArray), .bool false, .int .i64 0] 50), (blk_alloc HCz.out (.cells #[.int .i64 0, .int .i64 0, .bool false, .bool false, .bool false, .int .i64 0, .string (⟨#[]⟩ : ByteArray), .bool false, .int .i64 0] 50)), (blk_alloc H13z.out (.cells #[.int .i64 0, .int .i64 0, .bool false, .bool false, .bool false, .int .i64 0, .string (⟨#[]⟩ : ByteArray), .bool false, .int .i64 0] 50)), (blk_alloc HWz.out (.cells #[.int .i64 0, .int .i64 0, .bool false, .bool false, .bool false, .int .i64 0, .string (⟨#[]⟩ : ByteArray), .bool false, .int .i64 0] 50)), (blk_alloc H15z.out (.cells #[.int .i64 0, .int .i64 0, .bool false, .bool false, .bool false, .int .i64 0, .string (⟨#[]⟩ : ByteArray), .bool false, .int .i64 0] 50)), (below_alloc HBz.out (.cells #[.int .i64 0, .int .i64 0, .bool false, .bool false, .bool false, .int .i64 0, .string (⟨#[]⟩ : ByteArray), .bool false, .int .i64 0] 50)), (below_alloc HEz.out (.cells #[.int .i64 0, .int .i64 0, .bool false, .bool false, .bool false, .int .i64 0, .string (⟨#[]⟩ : ByteArray), .bool false, .int .i64 0] 50)), below_size HBz.out, HEz.out.size, Nat.ne_of_lt (blk_lt HCz.out), Nat.ne_of_lt (blk_lt H13z.out), Nat.ne_of_lt (blk_lt HWz.out), Nat.ne_of_lt (blk_lt H15z.out)⟩)
  ·skip
   refine value_ (w1 := ?_) (v := ?_) (by rfl) rfl ?_ ?_
   rotate_left 2
   ·go_simp
    constructor
    ·rfl
    ·rfl
   refine hK.out _ _ ⟨((blk_cell (blk_alloc HCd.out (.cells #[.int .i64 0, .int .i64 0, .bool false, .bool false, .bool false, .int .i64 0, .string (⟨#[]⟩ : ByteArray), .bool false, .int .i64 0] 50)) 0).trans rfl), ((blk_cell (blk_alloc HCd.out (.cells #[.int .i64 0, .int .i64 0, .bool false, .bool false, .bool false, .int .i64 0, .string (⟨#[]⟩ : ByteArray), .bool false, .int .i64 0] 50)) 1).trans rfl), ((blk_cell (blk_alloc HCd.out (.cells #[.int .i64 0, .int .i64 0, .bool false, .bool false, .bool false, .int .i64 0, .string (⟨#[]⟩ : ByteArray), .bool false, .int .i64 0] 50)) 2).trans rfl), ((blk_cell (blk_alloc HCd.out (.cells #[.int .i64 0, .int .i64 0, .bool false, .bool false, .bool false, .int .i64 0, .string (⟨#[]⟩ : ByteArray), .bool false, .int .i64 0] 50)) 3).trans rfl), ((blk_cell (blk_alloc HCd.out (.cells #[.int .i64 0, .int .i64 0, .bool false, .bool false, .bool false, .int .i64 0, .string (⟨#[]⟩ : ByteArray), .bool false, .int .i64 0] 50)) 4).trans rfl), ((blk_cell (blk_alloc HCd.out (.cells #[.int .i64 0, .int .i64 0, .bool false, .bool false, .bool false, .int .i64 0, .string (⟨#[]⟩ : ByteArray), .bool false, .int .i64 0] 50)) 5).trans rfl), ((blk_cell (blk_alloc HCd.out (.cells #[.int .i64 0, .int .i64 0, .bool false, .bool false, .bool false, .int .i64 0, .string (⟨#[]⟩ : ByteArray), .bool false, .int .i64 0] 50)) 6).trans rfl), ((blk_cell (blk_alloc HCd.out (.cells #[.int .i64 0, .int .i64 0, .bool false, .bool false, .bool false, .int .i64 0, .string (⟨#[]⟩ : ByteArray), .bool false, .int .i64 0] 50)) 7).trans rfl), ((blk_cell (blk_alloc HCd.out (.cells #[.int .i64 0, .int .i64 0, .bool false, .bool false, .bool false, .int .i64 0, .string (⟨#[]⟩ : ByteArray), .bool false, .int .i64 0] 50)) 8).trans rfl), ((blk_cell (blk_alloc H13d.out (.cells #[.int .i64 0, .int .i64 0, .bool false, .bool false, .bool false, .int .i64 0, .string (⟨#[]⟩ : ByteArray), .bool false, .int .i64 0] 50)) 0).trans rfl), ((blk_cell (blk_alloc H13d.out (.cells #[.int .i64 0, .int .i64 0, .bool false, .bool false, .bool false, .int .i64 0, .string (⟨#[]⟩ : ByteArray), .bool false, .int .i64 0] 50)) 1).trans rfl), ((blk_cell (blk_alloc H13d.out (.cells #[.int .i64 0, .int .i64 0, .bool false, .bool false, .bool false, .int .i64 0, .string (⟨#[]⟩ : ByteArray), .bool false, .int .i64 0] 50)) 2).trans rfl), ((blk_cell (blk_alloc H13d.out (.cells #[.int .i64 0, .int .i64 0, .bool false, .bool false, .bool false, .int .i64 0, .string (⟨#[]⟩ : ByteArray), .bool false, .int .i64 0] 50)) 3).trans rfl), ((blk_cell (blk_alloc H13d.out (.cells #[.int .i64 0, .int .i64 0, .bool false, .bool false, .bool false, .int .i64 0, .string (⟨#[]⟩ : ByteArray), .bool false, .int .i64 0] 50)) 4).trans rfl), ((blk_cell (blk_alloc H13d.out (.cells #[.int .i64 0, .int .i64 0, .bool false, .bool false, .bool false, .int .i64 0, .string (⟨#[]⟩ : ByteArray), .bool false, .int .i64 0] 50)) 5).trans rfl), ((blk_cell (blk_alloc H13d.out (.cells #[.int .i64 0, .int .i64 0, .bool false, .bool false, .bool false, .int .i64 0, .string (⟨#[]⟩ : ByteArray), .bool false, .int .i64 0] 50)) 6).trans rfl), ((blk_cell (blk_alloc H13d.out (.cells #[.int .i64 0, .int .i64 0, .bool false, .bool false, .bool false, .int .i64 0, .string (⟨#[]⟩ : ByteArray), .bool false, .int .i64 0] 50)) 7).trans rfl), ((blk_cell (blk_alloc H13d.out (.cells #[.int .i64 0, .int .i64 0, .bool false, .bool false, .bool false, .int .i64 0, .string (⟨#[]⟩ : ByteArray), .bool false, .int .i64 0] 50)) 8).trans rfl), (HEC.out _ (below_alloc HEd.out (.cells #[.int .i64 0, .int .i64 0, .bool false, .bool false, .bool false, .int .i64 0, .string (⟨#[]⟩ : ByteArray), .bool false, .int .i64 0] 50))).1, (HEC.out _ (below_alloc HEd.out (.cells #[.int .i64 0, .int .i64 0, .bool false, .bool false, .bool false, .int .i64 0, .string (⟨#[]⟩ : ByteArray), .bool false, .int .i64 0] 50))).2.1, (HEC.out _ (below_alloc HEd.out (.cells #[.int .i64 0, .int .i64 0, .bool false, .bool false, .bool false, .int .i64 0, .string (⟨#[]⟩ : ByteArray), .bool false, .int .i64 0] 50))).2.2.1, (HEC.out _ (below_alloc HEd.out (.cells #[.int .i64 0, .int .i64 0, .bool false, .bool false, .bool false, .int .i64 0, .string (⟨#[]⟩ : ByteArray), .bool false, .int .i64 0] 50))).2.2.2, ((blk_cell (blk_alloc HWd.out (.cells #[.int .i64 0, .int .i64 0, .bool false, .bool false, .bool false, .int .i64 0, .string (⟨#[]⟩ : ByteArray), .bool false, .int .i64 0] 50)) 0).trans rfl), ((blk_cell (blk_alloc HWd.out (.cells #[.int .i64 0, .int .i64 0, .bool false, .bool false, .bool false, .int .i64 0, .string (⟨#[]⟩ : ByteArray), .bool false, .int .i64 0] 50)) 1).trans rfl), ((blk_cell (blk_alloc HWd.out (.cells #[.int .i64 0, .int .i64 0, .bool false, .bool false, .bool false, .int .i64 0, .string (⟨#[]⟩ : ByteArray), .bool false, .int .i64 0] 50)) 2).trans rfl)⟩ (fun hHeld => ?_)
   clear hK K
   refine norm_ (a' := ?_) ?_ ?_
   rotate_left
   ·show Act.put _ (some 17) _ = _
    simp only [Act.put, List.setIfInBounds_toArray, List.set_cons_zero, List.set_cons_succ, i64_w, i32_w]
    rfl
   refine one_ (i := 7) (N := some 79) #[true, true, true, true, true, true, true, true, false, false, false, true, false, false] rfl rfl (by kernel_rfl) (by decide) (fun K hK => ?_)
   refine goes_ Tryd.func30 (by kernel_rfl) rfl #[.agg #[.int .i64 x0, .int .i64 x1, .int .i64 x2, .int .i64 x3, .string x4, .string x5, .int .i64 x6, .int .u32 x7, .bool x8], .agg #[.int .i64 r0, .int .i64 r1, .bool r2, .bool r3, .bool r4, .int .i64 r5, .string r6, .bool r7, .int .i64 r8], .agg #[.int .i64 d0, .int .i64 d1, .int .i64 d2, .string d3], .int .i64 a5, .agg #[.int .i64 q0, .int .i64 q1, .slice Aq Lq cq]] (by rfl) rfl rfl (by simp only [List.map_toArray, List.map_cons, List.map_nil]; rfl) ?_
   with_reducible refine (HRA.out (wd.alloc (.cells #[.int .i64 0, .int .i64 0, .bool false, .bool false, .bool false, .int .i64 0, .string (⟨#[]⟩ : ByteArray), .bool false, .int .i64 0] 50)) (below_alloc HBd.out (.cells #[.int .i64 0, .int .i64 0, .bool false, .bool false, .bool false, .int .i64 0, .string (⟨#[]⟩ : ByteArray), .bool false, .int .i64 0] 50))).mono ?_
   rintro e wz ⟨rfl, hbn⟩
   refine ⟨_, rfl, ?_⟩
   have HCz := Aside0.mk (blk_below (blk_alloc HCd.out (.cells #[.int .i64 0, .int .i64 0, .bool false, .bool false, .bool false, .int .i64 0, .string (⟨#[]⟩ : ByteArray), .bool false, .int .i64 0] 50)) hbn)
   have H13z := Aside0.mk (blk_below (blk_alloc H13d.out (.cells #[.int .i64 0, .int .i64 0, .bool false, .bool false, .bool false, .int .i64 0, .string (⟨#[]⟩ : ByteArray), .bool false, .int .i64 0] 50)) hbn)
   have HWz := Aside0.mk (blk_below (blk_alloc HWd.out (.cells #[.int .i64 0, .int .i64 0, .bool false, .bool false, .bool false, .int .i64 0, .string (⟨#[]⟩ : ByteArray), .bool false, .int .i64 0] 50)) hbn)
   have H15z := Aside0.mk (blk_below (blk_alloc H15d.out (.cells #[.int .i64 0, .int .i64 0, .bool false, .bool false, .bool false, .int .i64 0, .string (⟨#[]⟩ : ByteArray), .bool false, .int .i64 0] 50)) hbn)
   have HBz := Aside0.mk (below_step (below_alloc HBd.out (.cells #[.int .i64 0, .int .i64 0, .bool false, .bool false, .bool false, .int .i64 0, .string (⟨#[]⟩ : ByteArray), .bool false, .int .i64 0] 50)) hbn)
   have HEz := Aside0.mk (below_step (below_alloc HEd.out (.cells #[.int .i64 0, .int .i64 0, .bool false, .bool false, .bool false, .int .i64 0, .string (⟨#[]⟩ : ByteArray), .bool false, .int .i64 0] 50)) hbn)
   have HSz := Aside0.mk (blk_below (blk_new wd (.cells #[.int .i64 0, .int .i64 0, .bool false, .bool false, .bool false, .int .i64 0, .string (⟨#[]⟩ : ByteArray), .bool false, .int .i64 0] 50)) hbn)
   clear hbn
   refine hK.out _ _ ⟨((blk_cell HCz.out 0).trans rfl), ((blk_cell HCz.out 1).trans rfl), ((blk_cell HCz.out 2).trans rfl), ((blk_cell HCz.out 3).trans rfl), ((blk_cell HCz.out 4).trans rfl), ((blk_cell HCz.out 5).trans rfl), ((blk_cell HCz.out 6).trans rfl), ((blk_cell HCz.out 7).trans rfl), ((blk_cell HCz.out 8).trans rfl), ((blk_cell H13z.out 0).trans rfl), ((blk_cell H13z.out 1).trans rfl), ((blk_cell H13z.out 2).trans rfl), ((blk_cell H13z.out 3).trans rfl), ((blk_cell H13z.out 4).trans rfl), ((blk_cell H13z.out 5).trans rfl), ((blk_cell H13z.out 6).trans rfl), ((blk_cell H13z.out 7).trans rfl), ((blk_cell H13z.out 8).trans rfl), (HEC.out _ HEz.out).1, (HEC.out _ HEz.out).2.1, (HEC.out _ HEz.out).2.2.1, (HEC.out _ HEz.out).2.2.2, ((blk_cell HWz.out 0).trans rfl), ((blk_cell HWz.out 1).trans rfl), ((blk_cell HWz.out 2).trans rfl)⟩ (fun hHeld => ?_)
   clear hK K
   refine norm_ (a' := ?_) ?_ ?_
   rotate_left
   ·show Act.put _ (some 79) _ = _
    simp only [Act.put, List.setIfInBounds_toArray, List.set_cons_zero, List.set_cons_succ, i64_w, i32_w]
    rfl
   refine pure_ (i := 8) (N := some 71) (v := ?_) (a' := ?_) #[true, true, true, true, true, true, true, true, true, false, false, true, false, false] rfl rfl (by kernel_rfl) (fun _ _ _ h => h) (Or.inl ⟨by rfl, ?_⟩) ?_ ?_
   rotate_left
   ·intro w'
    go_simp
    with_reducible rfl
   rotate_left
   ·simp only [Act.put, List.setIfInBounds_toArray, List.set_cons_zero, List.set_cons_succ, i64_w, i32_w]
    rfl
   refine pure_ (i := 9) (N := some 80) (v := ?_) (a' := ?_) #[true, true, true, true, true, true, true, true, true, true, false, true, false, false] rfl rfl (by kernel_rfl) (fun _ _ _ h => h) (Or.inl ⟨by rfl, ?_⟩) ?_ ?_
   rotate_left
   ·intro w'
    go_simp
    with_reducible rfl
   rotate_left
   ·simp only [Act.put, List.setIfInBounds_toArray, List.set_cons_zero, List.set_cons_succ, i64_w, i32_w]
    rfl
   refine pure_ (i := 10) (N := some 81) (v := ?_) (a' := ?_) #[true, true, true, true, true, true, true, true, true, true, true, true, false, false] rfl rfl (by kernel_rfl) (fun _ _ _ h => h) (Or.inl ⟨by rfl, ?_⟩) ?_ ?_
   rotate_left
   ·intro w'
    go_simp
    with_reducible rfl
   rotate_left
   ·simp only [Act.put, List.setIfInBounds_toArray, List.set_cons_zero, List.set_cons_succ, i64_w, i32_w]
    rfl
   exact norm_ (by simp only [putAll, Act.put, List.setIfInBounds_toArray, List.set_cons_zero, List.set_cons_succ]) (hCont wd.heap.size _ ⟨HSz.out, HCz.out, H13z.out, HWz.out, H15z.out, HBz.out, HEz.out, below_size HBd.out, HEd.out.size, Nat.ne_of_lt (blk_lt HCd.out), Nat.ne_of_lt (blk_lt H13d.out), Nat.ne_of_lt (blk_lt HWd.out), Nat.ne_of_lt (blk_lt H15d.out)⟩)
 rintro s_ wy ⟨hHS_, hHC_, hH13_, hHW_, hH15_, hHB_, hHE_, hGES_, hGEE2_, hNEHC_, hNEH13_, hNEHW_, hNEH15_⟩
 have HSy := Aside0.mk hHS_
 have HCy := Aside0.mk hHC_
 have H13y := Aside0.mk hH13_
 have HWy := Aside0.mk hHW_
 have H15y := Aside0.mk hH15_
 have HBy := Aside0.mk hHB_
 have HEy := Aside0.mk hHE_
 have GESy := Aside0.mk hGES_
 have GEE2y := Aside0.mk hGEE2_
 have NEHCy := Aside0.mk hNEHC_
 have NEH13y := Aside0.mk hNEH13_
 have NEHWy := Aside0.mk hNEHW_
 have NEH15y := Aside0.mk hNEH15_
 clear hHS_ hHC_ hH13_ hHW_ hH15_ hHB_ hHE_ hGES_ hGEE2_ hNEHC_ hNEH13_ hNEHW_ hNEH15_
 have hHeld := True.intro
 refine norm_ (a' := ?_) ?_ ?_
 rotate_left
 ·simp only [putAll, Act.put, List.setIfInBounds_toArray, List.set_cons_zero, List.set_cons_succ]
  rfl
 refine last_ (i := 12) (N := none) #[true, true, true, true, true, true, true, true, true, true, true, true, true, false] rfl rfl (by kernel_rfl) (by decide) (fun K hK => ?_)
 obtain ⟨u0_, u1_, u2_, u3_, u4_, u5_, u6_, u7_, u8_, uf0_, uf1_, uf2_, uf3_, uf4_, uf5_, uf6_, uf7_, uf8_⟩ := cells9 HSy.out
 refine skip_ (w1 := ?_) (by rfl) rfl ?_ ?_
 rotate_left
 ·go_simp
  rfl
 refine hK.out _ _ ?_
 clear hK K
 refine pure_ (i := 13) (N := some 18) (v := ?_) (a' := ?_) #[true, true, true, true, true, true, true, true, true, true, true, true, true, true] rfl rfl (by kernel_rfl) (fun _ _ _ h => h) (Or.inl ⟨by rfl, ?_⟩) ?_ ?_
 rotate_left
 ·intro w'
  go_simp
  with_reducible rfl
 rotate_left
 ·simp only [Act.put, List.setIfInBounds_toArray, List.set_cons_zero, List.set_cons_succ, i64_w, i32_w]
  rfl
 refine done_ (by kernel_rfl) ?_
 skip
 have yHC := set9_blk HCy.out NEHCy.out (.int .i64 r0) (.int .i64 r1) (.bool y2) (.bool r3) (.bool r4) (.int .i64 r5) (.string r6) (.bool y7) (.int .i64 y8)
 have yH13 := set9_blk H13y.out NEH13y.out (.int .i64 r0) (.int .i64 r1) (.bool y2) (.bool r3) (.bool r4) (.int .i64 r5) (.string r6) (.bool y7) (.int .i64 y8)
 have yHW := set9_blk HWy.out NEHWy.out (.int .i64 r0) (.int .i64 r1) (.bool y2) (.bool r3) (.bool r4) (.int .i64 r5) (.string r6) (.bool y7) (.int .i64 y8)
 have yH15 := set9_blk H15y.out NEH15y.out (.int .i64 r0) (.int .i64 r1) (.bool y2) (.bool r3) (.bool r4) (.int .i64 r5) (.string r6) (.bool y7) (.int .i64 y8)
 have yH17 := set9_row HSy.out (.int .i64 r0) (.int .i64 r1) (.bool y2) (.bool r3) (.bool r4) (.int .i64 r5) (.string r6) (.bool y7) (.int .i64 y8)
 have yHB := set9_below HBy.out GESy.out (.int .i64 r0) (.int .i64 r1) (.bool y2) (.bool r3) (.bool r4) (.int .i64 r5) (.string r6) (.bool y7) (.int .i64 y8)
 have yHE := set9_below HEy.out GEE2y.out (.int .i64 r0) (.int .i64 r1) (.bool y2) (.bool r3) (.bool r4) (.int .i64 r5) (.string r6) (.bool y7) (.int .i64 y8)
 unfold set9 at yHC
 unfold set9 at yH13
 unfold set9 at yHW
 unfold set9 at yH15
 unfold set9 at yH17
 unfold set9 at yHB
 unfold set9 at yHE
 generalize (((((((((wy.setCell ⟨s_, 0, none⟩ (.int .i64 r0)).setCell ⟨s_, 1, none⟩ (.int .i64 r1)).setCell ⟨s_, 2, none⟩ (.bool y2)).setCell ⟨s_, 3, none⟩ (.bool r3)).setCell ⟨s_, 4, none⟩ (.bool r4)).setCell ⟨s_, 5, none⟩ (.int .i64 r5)).setCell ⟨s_, 6, none⟩ (.string r6)).setCell ⟨s_, 7, none⟩ (.bool y7)).setCell ⟨s_, 8, none⟩ (.int .i64 y8)) = w17 at yHC yH13 yHW yH15 yH17 yHB yHE ⊢
 have HC := Aside0.mk yHC
 clear yHC
 have H13 := Aside0.mk yH13
 clear yH13
 have HW := Aside0.mk yHW
 clear yHW
 have H15 := Aside0.mk yH15
 clear yH15
 have H17 := Aside0.mk yH17
 clear yH17
 have HB := Aside0.mk yHB
 clear yHB
 have HE := Aside0.mk yHE
 clear yHE
 clear HSy HBy HEy GESy GEE2y HCy H13y HWy H15y NEHCy NEH13y NEHWy NEH15y HCd H13d HWd H15d HBd HEd
 generalize s_ = g17 at H17 ⊢
 obtain ⟨s_0, s_1, s_2, s_3, s_4, s_5, s_6, s_7, s_8, s_f0, s_f1, s_f2, s_f3, s_f4, s_f5, s_f6, s_f7, s_f8⟩ := cells9 H15.out
 obtain ⟨t_0, t_1, t_2, t_3, t_4, t_5, t_6, t_7, t_8, t_f0, t_f1, t_f2, t_f3, t_f4, t_f5, t_f6, t_f7, t_f8⟩ := cells9 H17.out
 cases yb
 all_goals go_wp2_with fail
 all_goals go_ret
 all_goals exact ⟨by first | rfl | simp, HB.out⟩
end
end Go.Proofs.YtgadhmoifhoilaaDoor.Ans
