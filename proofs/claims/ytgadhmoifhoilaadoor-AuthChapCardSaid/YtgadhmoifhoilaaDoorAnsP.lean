/-
  auth.Answer by hand: all ways.
-/
import Derived.Test.YtgadhmoifhoilaaDoorAnsB
import Derived.Deep.RegionWith
namespace Go.Proofs.YtgadhmoifhoilaaDoor.Ans
open Go.RowKit Go.Lib Go.Proofs.YtgadhmoifhoilaaDoorW.PrintWords Go.Proofs.YtgadhmoifhoilaaDoorW.PrintLast Go.Proofs.YtgadhmoifhoilaaDoorW.PrintMore Go.Proofs.YtgadhmoifhoilaaDoor.Kit
set_option linter.unusedVariables false
set_option linter.unusedSimpArgs false
set_option maxRecDepth 100000 in
set_option maxHeartbeats 4000000 in
theorem answer_calls (x0 x1 x2 x3 : Int) (x4 x5 : ByteArray) (x6 x7 : Int) (x8 : Bool) (l0 l1 : Int) (l2 l3 l4 : Bool) (l5 : Int) (l6 : ByteArray) (l7 : Bool) (l8 d0 d1 d2 : Int) (d3 : ByteArray) (a3 : Int) (pc pid : Int) (A : Option Addr) (c L : Nat) (tv : List Int) (T : Nat) (nm ni k9 k10 k11 c2 vk n16 oe ro good may q2 q7 qb : Bool) (q8 : Int) (w : World) (hnm : (a3 != d1) = nm) (hni : (pid != d2) = ni) (hk9 : (d0 == 9) = k9) (hk10 : (d0 == 10) = k10) (hk11 : (d0 == 11) = k11) (hc2 : (pc != 2) = !c2) (hn16 : ((T : Int) != 16) = !n16) (hoe : x5.toList.isEmpty = oe) (hd3 : d3.size ≤ 9223372036854775807) (HT : Aside0 (tv.length = T))
  (HJ : Aside0 ((nm || ni) = false → (k9 || k10) = true → ∀ W, Below w.heap.size w W → Calls Tryd.prog 46 #[.agg #[.int .i64 x0, .int .i64 x1, .int .i64 x2, .int .i64 x3, .string x4, .string x5, .int .i64 x6, .int .u32 x7, .bool x8], .agg #[.int .i64 l0, .int .i64 l1, .bool l2, .bool l3, .bool l4, .int .i64 l5, .string l6, .bool l7, .int .i64 l8], .agg #[.int .i64 d0, .int .i64 d1, .int .i64 d2, .string d3], .agg #[.int .i64 pc, .int .i64 pid, .slice A L c]] W fun e w' => e = .returned (.tuple #[.bool good, .bool may]) ∧ Below W.heap.size W w'))
  (HV : Aside0 (k11 = true → ∀ W, Below w.heap.size w W → Calls Tryd.prog 47 #[.agg #[.int .i64 pc, .int .i64 pid, .slice A L c]] W fun e w' => ∃ v0_ : Value, e = .returned (.tuple #[v0_, .bool vk]) ∧ Kd.R (Kd.int .u8) 5 w' W.heap.size (fun _ => True) v0_ tv ∧ Below W.heap.size W w'))
  (HRT : Aside0 (k11 = true → ∀ W A1 c1 A2 c2, Below w.heap.size w W → (Kd.int .u8).C W A1 d3.size (bytesOf d3) → d3.size ≤ c1 → (Kd.int .u8).C W A2 T tv → T ≤ c2 → Calls Tryd.prog 24 #[.int .i64 d2, .string x5, .slice A1 d3.size c1, .slice A2 T c2] W fun e w' => e = .returned (.bool ro) ∧ Below W.heap.size W w'))
  (h : (if (nm || ni) = true then (l2, l7, l8, false) else if (k9 || k10) = true then ((if (may && (good || k10)) = true then good else l2), l7, l8, may) else if (k11 && c2 && vk && n16 && (oe || ro)) = true then (l2, true, pid, true) else (l2, l7, l8, false)) = (q2, q7, q8, qb)) :
  Calls Tryd.prog 29 #[.agg #[.int .i64 x0, .int .i64 x1, .int .i64 x2, .int .i64 x3, .string x4, .string x5, .int .i64 x6, .int .u32 x7, .bool x8], .agg #[.int .i64 l0, .int .i64 l1, .bool l2, .bool l3, .bool l4, .int .i64 l5, .string l6, .bool l7, .int .i64 l8], .agg #[.int .i64 d0, .int .i64 d1, .int .i64 d2, .string d3], .int .i64 a3, .agg #[.int .i64 pc, .int .i64 pid, .slice A L c]] w fun e w' => e = .returned (.tuple #[.agg #[.int .i64 l0, .int .i64 l1, .bool q2, .bool l3, .bool l4, .int .i64 l5, .string l6, .bool q7, .int .i64 q8], .bool qb]) ∧ Below w.heap.size w w' := by
 have HQ := Aside0.mk h
 clear h
 have HB := Aside0.mk (Below.refl w.heap.size w)
 go_enter Tryd.func29, Tryd.ntmps29
 go_upto_region 1 with (fail)
 (try simp only [Act.put, List.setIfInBounds_toArray, List.set_cons_zero, List.set_cons_succ])
 have yk := blk5 w (.cells #[.int .i64 x0, .int .i64 x1, .int .i64 x2, .int .i64 x3, .string x4, .string x5, .int .i64 x6, .int .u32 x7, .bool x8] 48) (.cells #[.int .i64 l0, .int .i64 l1, .bool l2, .bool l3, .bool l4, .int .i64 l5, .string l6, .bool l7, .int .i64 l8] 50) (.cells #[.int .i64 d0, .int .i64 d1, .int .i64 d2, .string d3] 60) (.cells #[.int .i64 pc, .int .i64 pid, .slice A L c] 52) (.cells #[.int .i64 0, .int .i64 0, .bool false, .bool false, .bool false, .int .i64 0, .string (⟨#[]⟩ : ByteArray), .bool false, .int .i64 0] 50)
 have yB : Below w.heap.size w (((((w.alloc (.cells #[.int .i64 x0, .int .i64 x1, .int .i64 x2, .int .i64 x3, .string x4, .string x5, .int .i64 x6, .int .u32 x7, .bool x8] 48)).alloc (.cells #[.int .i64 l0, .int .i64 l1, .bool l2, .bool l3, .bool l4, .int .i64 l5, .string l6, .bool l7, .int .i64 l8] 50)).alloc (.cells #[.int .i64 d0, .int .i64 d1, .int .i64 d2, .string d3] 60)).alloc (.cells #[.int .i64 pc, .int .i64 pid, .slice A L c] 52)).alloc (.cells #[.int .i64 0, .int .i64 0, .bool false, .bool false, .bool false, .int .i64 0, .string (⟨#[]⟩ : ByteArray), .bool false, .int .i64 0] 50)) := (below_alloc (below_alloc (below_alloc (below_alloc (below_alloc (Below.refl _ _) _) _) _) _) _)
 generalize (((((w.alloc (.cells #[.int .i64 x0, .int .i64 x1, .int .i64 x2, .int .i64 x3, .string x4, .string x5, .int .i64 x6, .int .u32 x7, .bool x8] 48)).alloc (.cells #[.int .i64 l0, .int .i64 l1, .bool l2, .bool l3, .bool l4, .int .i64 l5, .string l6, .bool l7, .int .i64 l8] 50)).alloc (.cells #[.int .i64 d0, .int .i64 d1, .int .i64 d2, .string d3] 60)).alloc (.cells #[.int .i64 pc, .int .i64 pid, .slice A L c] 52)).alloc (.cells #[.int .i64 0, .int .i64 0, .bool false, .bool false, .bool false, .int .i64 0, .string (⟨#[]⟩ : ByteArray), .bool false, .int .i64 0] 50)) = wq at yk yB ⊢
 obtain ⟨gz, hgz⟩ : ∃ g, w.heap.size + 1 + 1 + 1 + 1 = g := ⟨_, rfl⟩
 obtain ⟨gp, hgp⟩ : ∃ g, w.heap.size + 1 + 1 + 1 = g := ⟨_, rfl⟩
 obtain ⟨gd, hgd⟩ : ∃ g, w.heap.size + 1 + 1 = g := ⟨_, rfl⟩
 obtain ⟨gl, hgl⟩ : ∃ g, w.heap.size + 1 = g := ⟨_, rfl⟩
 have HLZ := Aside0.mk (show gz ≠ gl from by omega)
 have HLP := Aside0.mk (show gl ≠ gp from by omega)
 have GEz := Aside0.mk (show w.heap.size ≤ gz from by omega)
 have GEl := Aside0.mk (show w.heap.size ≤ gl from by omega)
 rw [hgz] at yk ⊢
 rw [hgp] at yk ⊢
 rw [hgd] at yk ⊢
 rw [hgl] at yk ⊢
 clear hgz hgp hgd hgl
 obtain ⟨yHC, yHL, yHD, yHP, yHZ⟩ := yk
 have HC := Aside0.mk yHC
 clear yHC
 have HL := Aside0.mk yHL
 clear yHL
 have HD := Aside0.mk yHD
 clear yHD
 have HP := Aside0.mk yHP
 clear yHP
 have HZ := Aside0.mk yHZ
 clear yHZ
 replace HB := Aside0.mk yB
 clear yB
 obtain ⟨c_0, c_1, c_2, c_3, c_4, c_5, c_6, c_7, c_8, c_f0, c_f1, c_f2, c_f3, c_f4, c_f5, c_f6, c_f7, c_f8⟩ := cells9 HC.out
 obtain ⟨m_0, m_1, m_2, m_3, m_4, m_5, m_6, m_7, m_8, m_f0, m_f1, m_f2, m_f3, m_f4, m_f5, m_f6, m_f7, m_f8⟩ := cells9 HL.out
 obtain ⟨e_0, e_1, e_2, e_3, e_f0, e_f1, e_f2, e_f3⟩ := cells4 HD.out
 obtain ⟨p_0, p_1, p_2, p_f0, p_f1, p_f2⟩ := cells3 HP.out
 obtain ⟨z_0, z_1, z_2, z_3, z_4, z_5, z_6, z_7, z_8, z_f0, z_f1, z_f2, z_f3, z_f4, z_f5, z_f6, z_f7, z_f8⟩ := cells9 HZ.out
 cases nm
 case true =>
  have HX := Aside0.mk (set9_copy HZ.out HL.out)
  have HY := Aside0.mk (set9_copyB HB.out GEz.out HL.out)
  go_wp2_with fail
  refine bodyPost_ret (results_ct rfl _ _ gz 50 _ (0, 0) _ rfl HX.out Tryd.underlying50 rfl (by kernel_rfl)) rfl ?_
  have hq := HQ.out
  simp [answerB, judgedB] at hq
  obtain ⟨rfl, rfl, rfl, rfl⟩ := hq
  exact ⟨by first | rfl | simp, HY.out⟩
 case false =>
  cases ni
  case true =>
   have HX := Aside0.mk (set9_copy HZ.out HL.out)
   have HY := Aside0.mk (set9_copyB HB.out GEz.out HL.out)
   go_wp2_with fail
   refine bodyPost_ret (results_ct rfl _ _ gz 50 _ (0, 0) _ rfl HX.out Tryd.underlying50 rfl (by kernel_rfl)) rfl ?_
   have hq := HQ.out
   simp [answerB, judgedB] at hq
   obtain ⟨rfl, rfl, rfl, rfl⟩ := hq
   exact ⟨by first | rfl | simp, HY.out⟩
  case false =>
   go_upto_region 4 with fail
   (try simp only [Act.put, List.setIfInBounds_toArray, List.set_cons_zero, List.set_cons_succ])
   cases k9
   case true =>
    obtain rfl : d0 = 9 := by simpa using hk9
    obtain rfl : k10 = false := by simpa using hk10.symm
    clear HV HRT hnm hni hc2 hn16 hoe hk9 hk10 hk11
    go_upto_region 7 with (first | (go_at_call 46; (with_reducible refine (HJ.out rfl rfl _ HB.out).mono ?_); rintro e wq ⟨rfl, hbn⟩; clear c_0 c_f0 c_1 c_f1 c_2 c_f2 c_3 c_f3 c_4 c_f4 c_5 c_f5 c_6 c_f6 c_7 c_f7 c_8 c_f8; clear m_0 m_f0 m_1 m_f1 m_2 m_f2 m_3 m_f3 m_4 m_f4 m_5 m_f5 m_6 m_f6 m_7 m_f7 m_8 m_f8; clear e_0 e_f0 e_1 e_f1 e_2 e_f2 e_3 e_f3; clear p_0 p_f0 p_1 p_f1 p_2 p_f2; clear z_0 z_f0 z_1 z_f1 z_2 z_f2 z_3 z_f3 z_4 z_f4 z_5 z_f5 z_6 z_f6 z_7 z_f7 z_8 z_f8; replace HC := Aside0.mk (blk_below HC.out hbn); replace HL := Aside0.mk (blk_below HL.out hbn); replace HD := Aside0.mk (blk_below HD.out hbn); replace HP := Aside0.mk (blk_below HP.out hbn); replace HZ := Aside0.mk (blk_below HZ.out hbn); replace HB := Aside0.mk (below_step HB.out hbn); clear hbn; obtain ⟨c_0, c_1, c_2, c_3, c_4, c_5, c_6, c_7, c_8, c_f0, c_f1, c_f2, c_f3, c_f4, c_f5, c_f6, c_f7, c_f8⟩ := cells9 HC.out; obtain ⟨m_0, m_1, m_2, m_3, m_4, m_5, m_6, m_7, m_8, m_f0, m_f1, m_f2, m_f3, m_f4, m_f5, m_f6, m_f7, m_f8⟩ := cells9 HL.out; obtain ⟨e_0, e_1, e_2, e_3, e_f0, e_f1, e_f2, e_f3⟩ := cells4 HD.out; obtain ⟨p_0, p_1, p_2, p_f0, p_f1, p_f2⟩ := cells3 HP.out; obtain ⟨z_0, z_1, z_2, z_3, z_4, z_5, z_6, z_7, z_8, z_f0, z_f1, z_f2, z_f3, z_f4, z_f5, z_f6, z_f7, z_f8⟩ := cells9 HZ.out))
    (try simp only [Act.put, List.setIfInBounds_toArray, List.set_cons_zero, List.set_cons_succ])
    cases may
    case false =>
     have HX := Aside0.mk (set9_copy HZ.out HL.out)
     have HY := Aside0.mk (set9_copyB HB.out GEz.out HL.out)
     go_wp2_with fail
     refine bodyPost_ret (results_ct rfl _ _ gz 50 _ (0, 0) _ rfl HX.out Tryd.underlying50 rfl (by kernel_rfl)) rfl ?_
     have hq := HQ.out
     simp [answerB, judgedB] at hq
     obtain ⟨rfl, rfl, rfl, rfl⟩ := hq
     exact ⟨by first | rfl | simp, HY.out⟩
    case true =>
     cases good
     case false =>
      have HX := Aside0.mk (set9_copy HZ.out HL.out)
      have HY := Aside0.mk (set9_copyB HB.out GEz.out HL.out)
      go_wp2_with fail
      refine bodyPost_ret (results_ct rfl _ _ gz 50 _ (0, 0) _ rfl HX.out Tryd.underlying50 rfl (by kernel_rfl)) rfl ?_
      have hq := HQ.out
      simp [answerB, judgedB] at hq
      obtain ⟨rfl, rfl, rfl, rfl⟩ := hq
      exact ⟨by first | rfl | simp, HY.out⟩
     case true =>
      have HX := Aside0.mk (set9_copy (blk_far (p := ⟨gl, 2, none⟩) HZ.out HLZ.out (.bool true)) (blk_put (cs' := #[.int .i64 l0, .int .i64 l1, .bool true, .bool l3, .bool l4, .int .i64 l5, .string l6, .bool l7, .int .i64 l8]) HL.out 2 (.bool true) rfl))
      have HY := Aside0.mk (set9_copyB (HB.out.setCell (p := ⟨gl, 2, none⟩) GEl.out (.bool true)) GEz.out (blk_put (cs' := #[.int .i64 l0, .int .i64 l1, .bool true, .bool l3, .bool l4, .int .i64 l5, .string l6, .bool l7, .int .i64 l8]) HL.out 2 (.bool true) rfl))
      have hne1 := HLZ.out
      have hne2 : gl ≠ gz := fun e => hne1 e.symm
      have hne3 := HLP.out
      have hne4 : gp ≠ gl := fun e => hne3 e.symm
      go_wp2_with fail
      refine bodyPost_ret (results_ct rfl _ _ gz 50 _ (0, 0) _ rfl HX.out Tryd.underlying50 rfl (by kernel_rfl)) rfl ?_
      have hq := HQ.out
      simp [answerB, judgedB] at hq
      obtain ⟨rfl, rfl, rfl, rfl⟩ := hq
      exact ⟨by first | rfl | simp, HY.out⟩
   case false =>
    cases k10
    case true =>
     obtain rfl : d0 = 10 := by simpa using hk10
     clear HV HRT hnm hni hc2 hn16 hoe hk9 hk10 hk11
     go_upto_region 7 with (first | (go_at_call 46; (with_reducible refine (HJ.out rfl rfl _ HB.out).mono ?_); rintro e wq ⟨rfl, hbn⟩; clear c_0 c_f0 c_1 c_f1 c_2 c_f2 c_3 c_f3 c_4 c_f4 c_5 c_f5 c_6 c_f6 c_7 c_f7 c_8 c_f8; clear m_0 m_f0 m_1 m_f1 m_2 m_f2 m_3 m_f3 m_4 m_f4 m_5 m_f5 m_6 m_f6 m_7 m_f7 m_8 m_f8; clear e_0 e_f0 e_1 e_f1 e_2 e_f2 e_3 e_f3; clear p_0 p_f0 p_1 p_f1 p_2 p_f2; clear z_0 z_f0 z_1 z_f1 z_2 z_f2 z_3 z_f3 z_4 z_f4 z_5 z_f5 z_6 z_f6 z_7 z_f7 z_8 z_f8; replace HC := Aside0.mk (blk_below HC.out hbn); replace HL := Aside0.mk (blk_below HL.out hbn); replace HD := Aside0.mk (blk_below HD.out hbn); replace HP := Aside0.mk (blk_below HP.out hbn); replace HZ := Aside0.mk (blk_below HZ.out hbn); replace HB := Aside0.mk (below_step HB.out hbn); clear hbn; obtain ⟨c_0, c_1, c_2, c_3, c_4, c_5, c_6, c_7, c_8, c_f0, c_f1, c_f2, c_f3, c_f4, c_f5, c_f6, c_f7, c_f8⟩ := cells9 HC.out; obtain ⟨m_0, m_1, m_2, m_3, m_4, m_5, m_6, m_7, m_8, m_f0, m_f1, m_f2, m_f3, m_f4, m_f5, m_f6, m_f7, m_f8⟩ := cells9 HL.out; obtain ⟨e_0, e_1, e_2, e_3, e_f0, e_f1, e_f2, e_f3⟩ := cells4 HD.out; obtain ⟨p_0, p_1, p_2, p_f0, p_f1, p_f2⟩ := cells3 HP.out; obtain ⟨z_0, z_1, z_2, z_3, z_4, z_5, z_6, z_7, z_8, z_f0, z_f1, z_f2, z_f3, z_f4, z_f5, z_f6, z_f7, z_f8⟩ := cells9 HZ.out))
     (try simp only [Act.put, List.setIfInBounds_toArray, List.set_cons_zero, List.set_cons_succ])
     cases may
     case false =>
      have HX := Aside0.mk (set9_copy HZ.out HL.out)
      have HY := Aside0.mk (set9_copyB HB.out GEz.out HL.out)
      go_wp2_with fail
      refine bodyPost_ret (results_ct rfl _ _ gz 50 _ (0, 0) _ rfl HX.out Tryd.underlying50 rfl (by kernel_rfl)) rfl ?_
      have hq := HQ.out
      simp [answerB, judgedB] at hq
      obtain ⟨rfl, rfl, rfl, rfl⟩ := hq
      exact ⟨by first | rfl | simp, HY.out⟩
     case true =>
      cases good
      case false =>
       have HX := Aside0.mk (set9_copy (blk_far (p := ⟨gl, 2, none⟩) HZ.out HLZ.out (.bool false)) (blk_put (cs' := #[.int .i64 l0, .int .i64 l1, .bool false, .bool l3, .bool l4, .int .i64 l5, .string l6, .bool l7, .int .i64 l8]) HL.out 2 (.bool false) rfl))
       have HY := Aside0.mk (set9_copyB (HB.out.setCell (p := ⟨gl, 2, none⟩) GEl.out (.bool false)) GEz.out (blk_put (cs' := #[.int .i64 l0, .int .i64 l1, .bool false, .bool l3, .bool l4, .int .i64 l5, .string l6, .bool l7, .int .i64 l8]) HL.out 2 (.bool false) rfl))
       have hne1 := HLZ.out
       have hne2 : gl ≠ gz := fun e => hne1 e.symm
       have hne3 := HLP.out
       have hne4 : gp ≠ gl := fun e => hne3 e.symm
       go_wp2_with fail
       refine bodyPost_ret (results_ct rfl _ _ gz 50 _ (0, 0) _ rfl HX.out Tryd.underlying50 rfl (by kernel_rfl)) rfl ?_
       have hq := HQ.out
       simp [answerB, judgedB] at hq
       obtain ⟨rfl, rfl, rfl, rfl⟩ := hq
       exact ⟨by first | rfl | simp, HY.out⟩
      case true =>
       have HX := Aside0.mk (set9_copy (blk_far (p := ⟨gl, 2, none⟩) HZ.out HLZ.out (.bool true)) (blk_put (cs' := #[.int .i64 l0, .int .i64 l1, .bool true, .bool l3, .bool l4, .int .i64 l5, .string l6, .bool l7, .int .i64 l8]) HL.out 2 (.bool true) rfl))
       have HY := Aside0.mk (set9_copyB (HB.out.setCell (p := ⟨gl, 2, none⟩) GEl.out (.bool true)) GEz.out (blk_put (cs' := #[.int .i64 l0, .int .i64 l1, .bool true, .bool l3, .bool l4, .int .i64 l5, .string l6, .bool l7, .int .i64 l8]) HL.out 2 (.bool true) rfl))
       have hne1 := HLZ.out
       have hne2 : gl ≠ gz := fun e => hne1 e.symm
       have hne3 := HLP.out
       have hne4 : gp ≠ gl := fun e => hne3 e.symm
       go_wp2_with fail
       refine bodyPost_ret (results_ct rfl _ _ gz 50 _ (0, 0) _ rfl HX.out Tryd.underlying50 rfl (by kernel_rfl)) rfl ?_
       have hq := HQ.out
       simp [answerB, judgedB] at hq
       obtain ⟨rfl, rfl, rfl, rfl⟩ := hq
       exact ⟨by first | rfl | simp, HY.out⟩
    case false =>
     cases k11
     case false =>
      have HX := Aside0.mk (set9_copy HZ.out HL.out)
      have HY := Aside0.mk (set9_copyB HB.out GEz.out HL.out)
      go_wp2_with fail
      refine bodyPost_ret (results_ct rfl _ _ gz 50 _ (0, 0) _ rfl HX.out Tryd.underlying50 rfl (by kernel_rfl)) rfl ?_
      have hq := HQ.out
      simp [answerB, judgedB] at hq
      obtain ⟨rfl, rfl, rfl, rfl⟩ := hq
      exact ⟨by first | rfl | simp, HY.out⟩
     case true =>
      obtain rfl : d0 = 11 := by simpa using hk11
      replace HV := Aside0.mk (HV.out rfl)
      replace HRT := Aside0.mk (HRT.out rfl)
      clear HJ hk9 hk10 hk11 hnm hni
      go_upto_region 12 with (first | (go_at_call 47; (with_reducible refine (HV.out _ HB.out).mono ?_); rintro e wq ⟨v14, rfl, hr, hbn⟩; clear c_0 c_f0 c_1 c_f1 c_2 c_f2 c_3 c_f3 c_4 c_f4 c_5 c_f5 c_6 c_f6 c_7 c_f7 c_8 c_f8; clear m_0 m_f0 m_1 m_f1 m_2 m_f2 m_3 m_f3 m_4 m_f4 m_5 m_f5 m_6 m_f6 m_7 m_f7 m_8 m_f8; clear e_0 e_f0 e_1 e_f1 e_2 e_f2 e_3 e_f3; clear p_0 p_f0 p_1 p_f1 p_2 p_f2; clear z_0 z_f0 z_1 z_f1 z_2 z_f2 z_3 z_f3 z_4 z_f4 z_5 z_f5 z_6 z_f6 z_7 z_f7 z_8 z_f8; replace HC := Aside0.mk (blk_below HC.out hbn); replace HL := Aside0.mk (blk_below HL.out hbn); replace HD := Aside0.mk (blk_below HD.out hbn); replace HP := Aside0.mk (blk_below HP.out hbn); replace HZ := Aside0.mk (blk_below HZ.out hbn); replace HB := Aside0.mk (below_step HB.out hbn); obtain ⟨Av, cv, eo⟩ := Kd.R_slice hr; rw [HT.out] at eo; subst eo; have HR := Aside0.mk hr; clear hr; clear hbn; obtain ⟨c_0, c_1, c_2, c_3, c_4, c_5, c_6, c_7, c_8, c_f0, c_f1, c_f2, c_f3, c_f4, c_f5, c_f6, c_f7, c_f8⟩ := cells9 HC.out; obtain ⟨m_0, m_1, m_2, m_3, m_4, m_5, m_6, m_7, m_8, m_f0, m_f1, m_f2, m_f3, m_f4, m_f5, m_f6, m_f7, m_f8⟩ := cells9 HL.out; obtain ⟨e_0, e_1, e_2, e_3, e_f0, e_f1, e_f2, e_f3⟩ := cells4 HD.out; obtain ⟨p_0, p_1, p_2, p_f0, p_f1, p_f2⟩ := cells3 HP.out; obtain ⟨z_0, z_1, z_2, z_3, z_4, z_5, z_6, z_7, z_8, z_f0, z_f1, z_f2, z_f3, z_f4, z_f5, z_f6, z_f7, z_f8⟩ := cells9 HZ.out))
      (try simp only [Act.put, List.setIfInBounds_toArray, List.set_cons_zero, List.set_cons_succ])
      have HAv := Aside0.mk (by have q := (Kd.R_reads' HR.out).2.2; rw [HT.out] at q; exact q : (Kd.int .u8).C _ Av T tv)
      have hcv := (Kd.R_reads' HR.out).2.1
      clear HR HV
      cases c2
      case false =>
       have HX := Aside0.mk (set9_copy HZ.out HL.out)
       have HY := Aside0.mk (set9_copyB HB.out GEz.out HL.out)
       go_wp2_with fail
       refine bodyPost_ret (results_ct rfl _ _ gz 50 _ (0, 0) _ rfl HX.out Tryd.underlying50 rfl (by kernel_rfl)) rfl ?_
       have hq := HQ.out
       simp [answerB, judgedB] at hq
       obtain ⟨rfl, rfl, rfl, rfl⟩ := hq
       exact ⟨by first | rfl | simp, HY.out⟩
      case true =>
       cases vk
       case false =>
        have HX := Aside0.mk (set9_copy HZ.out HL.out)
        have HY := Aside0.mk (set9_copyB HB.out GEz.out HL.out)
        go_wp2_with fail
        refine bodyPost_ret (results_ct rfl _ _ gz 50 _ (0, 0) _ rfl HX.out Tryd.underlying50 rfl (by kernel_rfl)) rfl ?_
        have hq := HQ.out
        simp [answerB, judgedB] at hq
        obtain ⟨rfl, rfl, rfl, rfl⟩ := hq
        exact ⟨by first | rfl | simp, HY.out⟩
       case true =>
        cases n16
        case false =>
         have HX := Aside0.mk (set9_copy HZ.out HL.out)
         have HY := Aside0.mk (set9_copyB HB.out GEz.out HL.out)
         go_wp2_with fail
         refine bodyPost_ret (results_ct rfl _ _ gz 50 _ (0, 0) _ rfl HX.out Tryd.underlying50 rfl (by kernel_rfl)) rfl ?_
         have hq := HQ.out
         simp [answerB, judgedB] at hq
         obtain ⟨rfl, rfl, rfl, rfl⟩ := hq
         exact ⟨by first | rfl | simp, HY.out⟩
        case true =>
         cases oe
         case true =>
          go_upto_region 14 with fail
          (try simp only [Act.put, List.setIfInBounds_toArray, List.set_cons_zero, List.set_cons_succ])
          have HX := Aside0.mk (set9_copy (blk_far (p := ⟨gl, 8, none⟩) (blk_far (p := ⟨gl, 7, none⟩) HZ.out HLZ.out (.bool true)) HLZ.out (.int .i64 pid)) (blk_put (cs' := #[.int .i64 l0, .int .i64 l1, .bool l2, .bool l3, .bool l4, .int .i64 l5, .string l6, .bool true, .int .i64 pid]) (blk_put (cs' := #[.int .i64 l0, .int .i64 l1, .bool l2, .bool l3, .bool l4, .int .i64 l5, .string l6, .bool true, .int .i64 l8]) HL.out 7 (.bool true) rfl) 8 (.int .i64 pid) rfl))
          have HY := Aside0.mk (set9_copyB ((HB.out.setCell (p := ⟨gl, 7, none⟩) GEl.out (.bool true)).setCell (p := ⟨gl, 8, none⟩) GEl.out (.int .i64 pid)) GEz.out (blk_put (cs' := #[.int .i64 l0, .int .i64 l1, .bool l2, .bool l3, .bool l4, .int .i64 l5, .string l6, .bool true, .int .i64 pid]) (blk_put (cs' := #[.int .i64 l0, .int .i64 l1, .bool l2, .bool l3, .bool l4, .int .i64 l5, .string l6, .bool true, .int .i64 l8]) HL.out 7 (.bool true) rfl) 8 (.int .i64 pid) rfl))
          have hne1 := HLZ.out
          have hne2 : gl ≠ gz := fun e => hne1 e.symm
          have hne3 := HLP.out
          have hne4 : gp ≠ gl := fun e => hne3 e.symm
          go_region
          go_wp2
          refine bodyPost_ret (results_ct rfl _ _ gz 50 _ (0, 0) _ rfl (blk_drew HX.out) Tryd.underlying50 rfl (by kernel_rfl)) rfl ?_
          have hq := HQ.out
          simp [answerB, judgedB] at hq
          obtain ⟨rfl, rfl, rfl, rfl⟩ := hq
          exact ⟨by first | rfl | simp, below_drew1 HY.out⟩
         case false =>
          go_upto_if 89 with (first | ((with_reducible refine gate_dst (N := 84) rfl ?_); (try (refine gate_guard (by rfl) ?_; dsimp only)); refine bytes_own ?hg 9 22 5 (.tmp 83) rfl rfl Tryd.underlying9 Tryd.underlying22 Tryd.underlying5 ?hz ?_; (case hg => rfl); (case hz => omega); intro A1 n1 wq hcc hcr hbn; clear c_0 c_f0 c_1 c_f1 c_2 c_f2 c_3 c_f3 c_4 c_f4 c_5 c_f5 c_6 c_f6 c_7 c_f7 c_8 c_f8; clear m_0 m_f0 m_1 m_f1 m_2 m_f2 m_3 m_f3 m_4 m_f4 m_5 m_f5 m_6 m_f6 m_7 m_f7 m_8 m_f8; clear e_0 e_f0 e_1 e_f1 e_2 e_f2 e_3 e_f3; clear p_0 p_f0 p_1 p_f1 p_2 p_f2; clear z_0 z_f0 z_1 z_f1 z_2 z_f2 z_3 z_f3 z_4 z_f4 z_5 z_f5 z_6 z_f6 z_7 z_f7 z_8 z_f8; replace HC := Aside0.mk (blk_below HC.out hbn); replace HL := Aside0.mk (blk_below HL.out hbn); replace HD := Aside0.mk (blk_below HD.out hbn); replace HP := Aside0.mk (blk_below HP.out hbn); replace HZ := Aside0.mk (blk_below HZ.out hbn); replace HAv := Aside0.mk (Kd.C_below HAv.out hbn); replace HB := Aside0.mk (below_step HB.out hbn); have HA1 := Aside0.mk hcr; have HA1c := Aside0.mk hcc; clear hcc hcr hbn; obtain ⟨c_0, c_1, c_2, c_3, c_4, c_5, c_6, c_7, c_8, c_f0, c_f1, c_f2, c_f3, c_f4, c_f5, c_f6, c_f7, c_f8⟩ := cells9 HC.out; obtain ⟨m_0, m_1, m_2, m_3, m_4, m_5, m_6, m_7, m_8, m_f0, m_f1, m_f2, m_f3, m_f4, m_f5, m_f6, m_f7, m_f8⟩ := cells9 HL.out; obtain ⟨e_0, e_1, e_2, e_3, e_f0, e_f1, e_f2, e_f3⟩ := cells4 HD.out; obtain ⟨p_0, p_1, p_2, p_f0, p_f1, p_f2⟩ := cells3 HP.out; obtain ⟨z_0, z_1, z_2, z_3, z_4, z_5, z_6, z_7, z_8, z_f0, z_f1, z_f2, z_f3, z_f4, z_f5, z_f6, z_f7, z_f8⟩ := cells9 HZ.out) | (go_at_call 24; (with_reducible refine (HRT.out _ A1 n1 Av cv HB.out HA1.out HA1c.out HAv.out hcv).mono ?_); rintro e wq ⟨rfl, hbn⟩; clear c_0 c_f0 c_1 c_f1 c_2 c_f2 c_3 c_f3 c_4 c_f4 c_5 c_f5 c_6 c_f6 c_7 c_f7 c_8 c_f8; clear m_0 m_f0 m_1 m_f1 m_2 m_f2 m_3 m_f3 m_4 m_f4 m_5 m_f5 m_6 m_f6 m_7 m_f7 m_8 m_f8; clear e_0 e_f0 e_1 e_f1 e_2 e_f2 e_3 e_f3; clear p_0 p_f0 p_1 p_f1 p_2 p_f2; clear z_0 z_f0 z_1 z_f1 z_2 z_f2 z_3 z_f3 z_4 z_f4 z_5 z_f5 z_6 z_f6 z_7 z_f7 z_8 z_f8; replace HC := Aside0.mk (blk_below HC.out hbn); replace HL := Aside0.mk (blk_below HL.out hbn); replace HD := Aside0.mk (blk_below HD.out hbn); replace HP := Aside0.mk (blk_below HP.out hbn); replace HZ := Aside0.mk (blk_below HZ.out hbn); replace HAv := Aside0.mk (Kd.C_below HAv.out hbn); replace HA1 := Aside0.mk (Kd.C_below HA1.out hbn); replace HB := Aside0.mk (below_step HB.out hbn); clear hbn; obtain ⟨c_0, c_1, c_2, c_3, c_4, c_5, c_6, c_7, c_8, c_f0, c_f1, c_f2, c_f3, c_f4, c_f5, c_f6, c_f7, c_f8⟩ := cells9 HC.out; obtain ⟨m_0, m_1, m_2, m_3, m_4, m_5, m_6, m_7, m_8, m_f0, m_f1, m_f2, m_f3, m_f4, m_f5, m_f6, m_f7, m_f8⟩ := cells9 HL.out; obtain ⟨e_0, e_1, e_2, e_3, e_f0, e_f1, e_f2, e_f3⟩ := cells4 HD.out; obtain ⟨p_0, p_1, p_2, p_f0, p_f1, p_f2⟩ := cells3 HP.out; obtain ⟨z_0, z_1, z_2, z_3, z_4, z_5, z_6, z_7, z_8, z_f0, z_f1, z_f2, z_f3, z_f4, z_f5, z_f6, z_f7, z_f8⟩ := cells9 HZ.out))
          (try simp only [Act.put, List.setIfInBounds_toArray, List.set_cons_zero, List.set_cons_succ])
          cases ro
          case false =>
           have HX := Aside0.mk (set9_copy HZ.out HL.out)
           have HY := Aside0.mk (set9_copyB HB.out GEz.out HL.out)
           go_wp2_with fail
           refine bodyPost_ret (results_ct rfl _ _ gz 50 _ (0, 0) _ rfl HX.out Tryd.underlying50 rfl (by kernel_rfl)) rfl ?_
           have hq := HQ.out
           simp [answerB, judgedB] at hq
           obtain ⟨rfl, rfl, rfl, rfl⟩ := hq
           exact ⟨by first | rfl | simp, HY.out⟩
          case true =>
           go_upto_region 14 with fail
           (try simp only [Act.put, List.setIfInBounds_toArray, List.set_cons_zero, List.set_cons_succ])
           have HX := Aside0.mk (set9_copy (blk_far (p := ⟨gl, 8, none⟩) (blk_far (p := ⟨gl, 7, none⟩) HZ.out HLZ.out (.bool true)) HLZ.out (.int .i64 pid)) (blk_put (cs' := #[.int .i64 l0, .int .i64 l1, .bool l2, .bool l3, .bool l4, .int .i64 l5, .string l6, .bool true, .int .i64 pid]) (blk_put (cs' := #[.int .i64 l0, .int .i64 l1, .bool l2, .bool l3, .bool l4, .int .i64 l5, .string l6, .bool true, .int .i64 l8]) HL.out 7 (.bool true) rfl) 8 (.int .i64 pid) rfl))
           have HY := Aside0.mk (set9_copyB ((HB.out.setCell (p := ⟨gl, 7, none⟩) GEl.out (.bool true)).setCell (p := ⟨gl, 8, none⟩) GEl.out (.int .i64 pid)) GEz.out (blk_put (cs' := #[.int .i64 l0, .int .i64 l1, .bool l2, .bool l3, .bool l4, .int .i64 l5, .string l6, .bool true, .int .i64 pid]) (blk_put (cs' := #[.int .i64 l0, .int .i64 l1, .bool l2, .bool l3, .bool l4, .int .i64 l5, .string l6, .bool true, .int .i64 l8]) HL.out 7 (.bool true) rfl) 8 (.int .i64 pid) rfl))
           have hne1 := HLZ.out
           have hne2 : gl ≠ gz := fun e => hne1 e.symm
           have hne3 := HLP.out
           have hne4 : gp ≠ gl := fun e => hne3 e.symm
           go_region
           go_wp2
           refine bodyPost_ret (results_ct rfl _ _ gz 50 _ (0, 0) _ rfl (blk_drew HX.out) Tryd.underlying50 rfl (by kernel_rfl)) rfl ?_
           have hq := HQ.out
           simp [answerB, judgedB] at hq
           obtain ⟨rfl, rfl, rfl, rfl⟩ := hq
           exact ⟨by first | rfl | simp, below_drew1 HY.out⟩
end Go.Proofs.YtgadhmoifhoilaaDoor.Ans
