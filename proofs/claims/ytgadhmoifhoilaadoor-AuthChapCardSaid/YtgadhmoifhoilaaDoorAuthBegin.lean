/-
  auth.Begin by hand.
-/
import Derived.Test.YtgadhmoifhoilaaDoorAuthBaseD
import Derived.Test.YtgadhmoifhoilaaDoorAuthAnsD
namespace Go.Proofs.YtgadhmoifhoilaaDoor.AuthHand
open Go.RowKit Go.Lib Go.Proofs.YtgadhmoifhoilaaDoorW.PrintWords Go.Proofs.YtgadhmoifhoilaaDoorW.PrintLast Go.Proofs.YtgadhmoifhoilaaDoorW.PrintMore Go.Proofs.YtgadhmoifhoilaaDoor.Kit
attribute [local go_sem high] PAuthBase.eqA85
def auth_Begin.f (a0_0 a0_1 : Int) (a0_2 a0_3 a0_4 : Bool) (a0_5 : Int) (a0_6 : ByteArray) (a0_7 : Bool) (a0_8 a1 a2_0 a2_1 : Int) (l2_2 : List Int) : Option (Int × Int × Bool × Bool × Bool × Int × ByteArray × Bool × Int × Bool) :=
 if a1 = 49187 ∧ a2_0 = 1 then
  (if a0_1 = 49187 ∧ a0_3 = false then (PAuthBase.auth_ask.f a2_0 a2_1 l2_2).bind fun k => if k = true then some (a0_0, a0_1, a0_2, a0_3, a0_4, a0_5, a0_6, true, a2_1, true) else some (a0_0, a0_1, a0_2, a0_3, a0_4, a0_5, a0_6, a0_7, a0_8, false) else some (a0_0, a0_1, a0_2, a0_3, a0_4, a0_5, a0_6, a0_7, a0_8, false))
 else if a1 = 49699 ∧ a2_0 = 1 then
  (PAuthBase.auth_value.f a2_0 a2_1 l2_2).bind fun x => if x.2 = true ∧ a0_0 = 49699 then some (a0_0, a0_1, a0_2, a0_3, true, a2_1, strOfNums x.1, a0_7, a0_8, true) else some (a0_0, a0_1, a0_2, a0_3, a0_4, a0_5, a0_6, a0_7, a0_8, false)
 else some (a0_0, a0_1, a0_2, a0_3, a0_4, a0_5, a0_6, a0_7, a0_8, false)
theorem blk_new3' (w : World) (o1 o2 o3 : Obj) : (((w.alloc o1).alloc o2).alloc o3).heap[w.heap.size]? = some o1 ∧ (((w.alloc o1).alloc o2).alloc o3).heap[w.heap.size + 1]? = some o2 ∧ (((w.alloc o1).alloc o2).alloc o3).heap[w.heap.size + 1 + 1]? = some o3 := blk_new3 w o1 o2 o3
set_option maxRecDepth 100000 in
set_option maxHeartbeats 4000000 in
theorem begin_neither (a0_0 a0_1 : Int) (a0_2 a0_3 a0_4 : Bool) (a0_5 : Int) (a0_6 : ByteArray) (a0_7 : Bool) (a0_8 a1 a2_0 a2_1 : Int) (A : Option Addr) (c L : Nat) (w : World) (h1 : ¬ (a1 = 49187 ∧ a2_0 = 1)) (h2 : ¬ (a1 = 49699 ∧ a2_0 = 1)) :
  Calls Tryd.prog 32 #[.agg #[.int .i64 a0_0, .int .i64 a0_1, .bool a0_2, .bool a0_3, .bool a0_4, .int .i64 a0_5, .string a0_6, .bool a0_7, .int .i64 a0_8], .int .i64 a1, .agg #[.int .i64 a2_0, .int .i64 a2_1, .slice A L c]] w fun e w' =>
   e = .returned (.tuple #[.agg #[.int .i64 a0_0, .int .i64 a0_1, .bool a0_2, .bool a0_3, .bool a0_4, .int .i64 a0_5, .string a0_6, .bool a0_7, .int .i64 a0_8], .bool false]) ∧ Below w.heap.size w w' := by
 have HR := Aside0.mk (blk_new3' w (.cells #[.int .i64 a0_0, .int .i64 a0_1, .bool a0_2, .bool a0_3, .bool a0_4, .int .i64 a0_5, .string a0_6, .bool a0_7, .int .i64 a0_8] 50) (.cells #[.int .i64 a2_0, .int .i64 a2_1, .slice A L c] 52) (.cells #[.int .i64 a0_0, .int .i64 a0_1, .bool a0_2, .bool a0_3, .bool a0_4, .int .i64 a0_5, .string a0_6, .bool a0_7, .int .i64 a0_8] 50)).2.2
 have e1 : (a1 == 49187 && a2_0 == 1) = false := by
  by_cases h : a1 = 49187
  ·have : ¬ a2_0 = 1 := fun e => h1 ⟨h, e⟩
   simp [this]
  ·simp [h]
 have e2 : (a1 == 49699 && a2_0 == 1) = false := by
  by_cases h : a1 = 49699
  ·have : ¬ a2_0 = 1 := fun e => h2 ⟨h, e⟩
   simp [this]
  ·simp [h]
 clear h1 h2
 go_enter Tryd.func32, Tryd.ntmps32
 go_wp2
 refine bodyPost_ret (results_ct rfl _ _ (w.heap.size + 1 + 1) 50 #[.int .i64 a0_0, .int .i64 a0_1, .bool a0_2, .bool a0_3, .bool a0_4, .int .i64 a0_5, .string a0_6, .bool a0_7, .int .i64 a0_8] (0, 0) _ rfl HR.out Tryd.underlying50 rfl (by kernel_rfl)) rfl ?_
 exact ⟨rfl, below_alloc (below_alloc (below_alloc (Below.refl _ _) _) _) _⟩
set_option maxRecDepth 100000 in
set_option maxHeartbeats 4000000 in
theorem begin_pap_no (a0_0 a0_1 : Int) (a0_2 a0_3 a0_4 : Bool) (a0_5 : Int) (a0_6 : ByteArray) (a0_7 : Bool) (a0_8 a2_1 : Int) (A : Option Addr) (c L : Nat) (w : World) (h : ¬ (a0_1 = 49187 ∧ a0_3 = false)) :
  Calls Tryd.prog 32 #[.agg #[.int .i64 a0_0, .int .i64 a0_1, .bool a0_2, .bool a0_3, .bool a0_4, .int .i64 a0_5, .string a0_6, .bool a0_7, .int .i64 a0_8], .int .i64 49187, .agg #[.int .i64 1, .int .i64 a2_1, .slice A L c]] w fun e w' =>
   e = .returned (.tuple #[.agg #[.int .i64 a0_0, .int .i64 a0_1, .bool a0_2, .bool a0_3, .bool a0_4, .int .i64 a0_5, .string a0_6, .bool a0_7, .int .i64 a0_8], .bool false]) ∧ Below w.heap.size w w' := by
 have HR := Aside0.mk (blk_new3' w (.cells #[.int .i64 a0_0, .int .i64 a0_1, .bool a0_2, .bool a0_3, .bool a0_4, .int .i64 a0_5, .string a0_6, .bool a0_7, .int .i64 a0_8] 50) (.cells #[.int .i64 1, .int .i64 a2_1, .slice A L c] 52) (.cells #[.int .i64 a0_0, .int .i64 a0_1, .bool a0_2, .bool a0_3, .bool a0_4, .int .i64 a0_5, .string a0_6, .bool a0_7, .int .i64 a0_8] 50)).2.2
 by_cases h1 : a0_1 = 49187
 ·subst h1
  have h3 : a0_3 = true := by cases a0_3 with | true => rfl | false => exact absurd ⟨rfl, rfl⟩ h
  subst h3
  clear h
  go_enter Tryd.func32, Tryd.ntmps32
  go_wp2
  refine bodyPost_ret (results_ct rfl _ _ (w.heap.size + 1 + 1) 50 #[.int .i64 a0_0, .int .i64 49187, .bool a0_2, .bool true, .bool a0_4, .int .i64 a0_5, .string a0_6, .bool a0_7, .int .i64 a0_8] (0, 0) _ rfl HR.out Tryd.underlying50 rfl (by kernel_rfl)) rfl ?_
  exact ⟨rfl, below_alloc (below_alloc (below_alloc (Below.refl _ _) _) _) _⟩
 ·clear h
  go_enter Tryd.func32, Tryd.ntmps32
  go_wp2
  refine bodyPost_ret (results_ct rfl _ _ (w.heap.size + 1 + 1) 50 #[.int .i64 a0_0, .int .i64 a0_1, .bool a0_2, .bool a0_3, .bool a0_4, .int .i64 a0_5, .string a0_6, .bool a0_7, .int .i64 a0_8] (0, 0) _ rfl HR.out Tryd.underlying50 rfl (by kernel_rfl)) rfl ?_
  exact ⟨rfl, below_alloc (below_alloc (below_alloc (Below.refl _ _) _) _) _⟩
set_option maxRecDepth 100000 in
set_option maxHeartbeats 4000000 in
theorem begin_pap_yes (a0_0 : Int) (a0_2 a0_4 : Bool) (a0_5 : Int) (a0_6 : ByteArray) (a0_7 : Bool) (a0_8 a2_1 : Int) (A : Option Addr) (c L : Nat) (k : Bool) (w : World)
  (HCL : Aside0 (∀ W, Below w.heap.size w W → Calls Tryd.prog 48 #[.agg #[.int .i64 1, .int .i64 a2_1, .slice A L c]] W fun e w' => e = .returned (.bool k) ∧ Below W.heap.size W w')) :
  Calls Tryd.prog 32 #[.agg #[.int .i64 a0_0, .int .i64 49187, .bool a0_2, .bool false, .bool a0_4, .int .i64 a0_5, .string a0_6, .bool a0_7, .int .i64 a0_8], .int .i64 49187, .agg #[.int .i64 1, .int .i64 a2_1, .slice A L c]] w fun e w' =>
   e = .returned (.tuple #[.agg #[.int .i64 a0_0, .int .i64 49187, .bool a0_2, .bool false, .bool a0_4, .int .i64 a0_5, .string a0_6, .bool (if k = true then true else a0_7), .int .i64 (if k = true then a2_1 else a0_8)], .bool k]) ∧ Below w.heap.size w w' := by
 go_enter Tryd.func32, Tryd.ntmps32
 go_wp2_with fail
 generalize hwA : ((w.alloc (.cells #[.int .i64 a0_0, .int .i64 49187, .bool a0_2, .bool false, .bool a0_4, .int .i64 a0_5, .string a0_6, .bool a0_7, .int .i64 a0_8] 50)).alloc (.cells #[.int .i64 1, .int .i64 a2_1, .slice A L c] 52)).alloc (.cells #[.int .i64 0, .int .i64 0, .bool false, .bool false, .bool false, .int .i64 0, .string (⟨#[]⟩ : ByteArray), .bool false, .int .i64 0] 50) = wA
 have hbA : Below w.heap.size w wA := by rw [← hwA]; exact below_alloc (below_alloc (below_alloc (Below.refl _ _) _) _) _
 obtain ⟨hL5, hP5, hZ5⟩ := blk_new3' w (.cells #[.int .i64 a0_0, .int .i64 49187, .bool a0_2, .bool false, .bool a0_4, .int .i64 a0_5, .string a0_6, .bool a0_7, .int .i64 a0_8] 50) (.cells #[.int .i64 1, .int .i64 a2_1, .slice A L c] 52) (.cells #[.int .i64 0, .int .i64 0, .bool false, .bool false, .bool false, .int .i64 0, .string (⟨#[]⟩ : ByteArray), .bool false, .int .i64 0] 50)
 rw [hwA] at hL5 hP5 hZ5
 have HBA := Aside0.mk hbA
 clear hwA hbA
 refine (HCL.out _ HBA.out).mono ?_
 rintro e w6 ⟨rfl, hb6⟩
 have hL6 := blk_below hL5 hb6
 have hP6 := blk_below hP5 hb6
 have hZ6 := blk_below hZ5 hb6
 have HB6 := Aside0.mk (below_step HBA.out hb6)
 obtain ⟨g, hg⟩ : ∃ g, w.heap.size + 1 + 1 = g := ⟨_, rfl⟩
 obtain ⟨gp, hgp⟩ : ∃ gp, w.heap.size + 1 = gp := ⟨_, rfl⟩
 obtain ⟨gl, hgl⟩ : ∃ gl, w.heap.size = gl := ⟨_, rfl⟩
 have HG := Aside0.mk (show w.heap.size ≤ g ∧ w.heap.size ≤ gl ∧ g ≠ gl from ⟨by omega, by omega, by omega⟩)
 have hpl : gp ≠ gl := by omega
 have hlp : gl ≠ gp := by omega
 have hne1 : g ≠ gl := by omega
 have hne2 : gl ≠ g := by omega
 rw [hg] at hZ6 ⊢
 rw [hgp] at hP6 ⊢
 rw [hgl] at hL6 ⊢
 clear hL5 hP5 hZ5 hb6 hg hgp hgl
 have l0 : w6.cell? ⟨gl, 0, none⟩ = some (.int .i64 a0_0) := (blk_cell hL6 0).trans rfl
 have lf0 := blk_frozen hL6 0
 have l1 : w6.cell? ⟨gl, 1, none⟩ = some (.int .i64 49187) := (blk_cell hL6 1).trans rfl
 have lf1 := blk_frozen hL6 1
 have l2 : w6.cell? ⟨gl, 2, none⟩ = some (.bool a0_2) := (blk_cell hL6 2).trans rfl
 have lf2 := blk_frozen hL6 2
 have l3 : w6.cell? ⟨gl, 3, none⟩ = some (.bool false) := (blk_cell hL6 3).trans rfl
 have lf3 := blk_frozen hL6 3
 have l4 : w6.cell? ⟨gl, 4, none⟩ = some (.bool a0_4) := (blk_cell hL6 4).trans rfl
 have lf4 := blk_frozen hL6 4
 have l5 : w6.cell? ⟨gl, 5, none⟩ = some (.int .i64 a0_5) := (blk_cell hL6 5).trans rfl
 have lf5 := blk_frozen hL6 5
 have l6 : w6.cell? ⟨gl, 6, none⟩ = some (.string a0_6) := (blk_cell hL6 6).trans rfl
 have lf6 := blk_frozen hL6 6
 have l7 : w6.cell? ⟨gl, 7, none⟩ = some (.bool a0_7) := (blk_cell hL6 7).trans rfl
 have lf7 := blk_frozen hL6 7
 have l8 : w6.cell? ⟨gl, 8, none⟩ = some (.int .i64 a0_8) := (blk_cell hL6 8).trans rfl
 have lf8 := blk_frozen hL6 8
 have p0 : w6.cell? ⟨gp, 0, none⟩ = some (.int .i64 1) := (blk_cell hP6 0).trans rfl
 have p1 : w6.cell? ⟨gp, 1, none⟩ = some (.int .i64 a2_1) := (blk_cell hP6 1).trans rfl
 have p2 : w6.cell? ⟨gp, 2, none⟩ = some (.slice A L c) := (blk_cell hP6 2).trans rfl
 have z0 : w6.cell? ⟨g, 0, none⟩ = some (.int .i64 0) := (blk_cell hZ6 0).trans rfl
 have f0 := blk_frozen hZ6 0
 have z1 : w6.cell? ⟨g, 1, none⟩ = some (.int .i64 0) := (blk_cell hZ6 1).trans rfl
 have f1 := blk_frozen hZ6 1
 have z2 : w6.cell? ⟨g, 2, none⟩ = some (.bool false) := (blk_cell hZ6 2).trans rfl
 have f2 := blk_frozen hZ6 2
 have z3 : w6.cell? ⟨g, 3, none⟩ = some (.bool false) := (blk_cell hZ6 3).trans rfl
 have f3 := blk_frozen hZ6 3
 have z4 : w6.cell? ⟨g, 4, none⟩ = some (.bool false) := (blk_cell hZ6 4).trans rfl
 have f4 := blk_frozen hZ6 4
 have z5 : w6.cell? ⟨g, 5, none⟩ = some (.int .i64 0) := (blk_cell hZ6 5).trans rfl
 have f5 := blk_frozen hZ6 5
 have z6 : w6.cell? ⟨g, 6, none⟩ = some (.string (⟨#[]⟩ : ByteArray)) := (blk_cell hZ6 6).trans rfl
 have f6 := blk_frozen hZ6 6
 have z7 : w6.cell? ⟨g, 7, none⟩ = some (.bool false) := (blk_cell hZ6 7).trans rfl
 have f7 := blk_frozen hZ6 7
 have z8 : w6.cell? ⟨g, 8, none⟩ = some (.int .i64 0) := (blk_cell hZ6 8).trans rfl
 have f8 := blk_frozen hZ6 8
 have HZ := Aside0.mk hZ6
 clear hL6 hP6 hZ6
 cases k
 ·have HR := Aside0.mk (set9_row HZ.out (.int .i64 a0_0) (.int .i64 49187) (.bool a0_2) (.bool false) (.bool a0_4) (.int .i64 a0_5) (.string a0_6) (.bool a0_7) (.int .i64 a0_8))
  have HBB := Aside0.mk (set9_below HB6.out HG.out.1 (.int .i64 a0_0) (.int .i64 49187) (.bool a0_2) (.bool false) (.bool a0_4) (.int .i64 a0_5) (.string a0_6) (.bool a0_7) (.int .i64 a0_8))
  go_wp2
  refine bodyPost_ret (results_ct rfl _ _ g 50 #[.int .i64 a0_0, .int .i64 49187, .bool a0_2, .bool false, .bool a0_4, .int .i64 a0_5, .string a0_6, .bool a0_7, .int .i64 a0_8] (0, 0) _ rfl HR.out Tryd.underlying50 rfl (by kernel_rfl)) rfl ?_
  exact ⟨rfl, HBB.out⟩
 ·have HR := Aside0.mk (set9_row (blk_far (p := ⟨gl, 8, none⟩) (blk_far (p := ⟨gl, 7, none⟩) HZ.out HG.out.2.2 (.bool true)) HG.out.2.2 (.int .i64 a2_1)) (.int .i64 a0_0) (.int .i64 49187) (.bool a0_2) (.bool false) (.bool a0_4) (.int .i64 a0_5) (.string a0_6) (.bool true) (.int .i64 a2_1))
  have HBB := Aside0.mk (set9_below ((HB6.out.setCell (p := ⟨gl, 7, none⟩) HG.out.2.1 (.bool true)).setCell (p := ⟨gl, 8, none⟩) HG.out.2.1 (.int .i64 a2_1)) HG.out.1 (.int .i64 a0_0) (.int .i64 49187) (.bool a0_2) (.bool false) (.bool a0_4) (.int .i64 a0_5) (.string a0_6) (.bool true) (.int .i64 a2_1))
  go_wp2
  go_region
  go_wp2
  refine bodyPost_ret (results_ct rfl _ _ g 50 #[.int .i64 a0_0, .int .i64 49187, .bool a0_2, .bool false, .bool a0_4, .int .i64 a0_5, .string a0_6, .bool true, .int .i64 a2_1] (0, 0) _ rfl (blk_drew HR.out) Tryd.underlying50 rfl (by kernel_rfl)) rfl ?_
  exact ⟨rfl, below_drew1 HBB.out⟩
set_option maxRecDepth 100000 in
set_option maxHeartbeats 4000000 in
theorem begin_chap_no (a0_0 a0_1 : Int) (a0_2 a0_3 a0_4 : Bool) (a0_5 : Int) (a0_6 : ByteArray) (a0_7 : Bool) (a0_8 a2_1 : Int) (A : Option Addr) (c L : Nat) (tv : List Int) (k : Bool) (w : World)
  (hno : ¬ (k = true ∧ a0_0 = 49699)) (HCL : Aside0 (∀ W, Below w.heap.size w W → Calls Tryd.prog 47 #[.agg #[.int .i64 1, .int .i64 a2_1, .slice A L c]] W fun e w' => ∃ v0_ : Value, e = .returned (.tuple #[v0_, .bool k]) ∧ Kd.R (Kd.int .u8) 5 w' W.heap.size (fun _ => True) v0_ tv ∧ Below W.heap.size W w')) :
  Calls Tryd.prog 32 #[.agg #[.int .i64 a0_0, .int .i64 a0_1, .bool a0_2, .bool a0_3, .bool a0_4, .int .i64 a0_5, .string a0_6, .bool a0_7, .int .i64 a0_8], .int .i64 49699, .agg #[.int .i64 1, .int .i64 a2_1, .slice A L c]] w fun e w' =>
   e = .returned (.tuple #[.agg #[.int .i64 a0_0, .int .i64 a0_1, .bool a0_2, .bool a0_3, .bool a0_4, .int .i64 a0_5, .string a0_6, .bool a0_7, .int .i64 a0_8], .bool false]) ∧ Below w.heap.size w w' := by
 go_enter Tryd.func32, Tryd.ntmps32
 go_wp2_with fail
 generalize hwA : ((w.alloc (.cells #[.int .i64 a0_0, .int .i64 a0_1, .bool a0_2, .bool a0_3, .bool a0_4, .int .i64 a0_5, .string a0_6, .bool a0_7, .int .i64 a0_8] 50)).alloc (.cells #[.int .i64 1, .int .i64 a2_1, .slice A L c] 52)).alloc (.cells #[.int .i64 0, .int .i64 0, .bool false, .bool false, .bool false, .int .i64 0, .string (⟨#[]⟩ : ByteArray), .bool false, .int .i64 0] 50) = wA
 have hbA : Below w.heap.size w wA := by rw [← hwA]; exact below_alloc (below_alloc (below_alloc (Below.refl _ _) _) _) _
 obtain ⟨hL5, hP5, hZ5⟩ := blk_new3' w (.cells #[.int .i64 a0_0, .int .i64 a0_1, .bool a0_2, .bool a0_3, .bool a0_4, .int .i64 a0_5, .string a0_6, .bool a0_7, .int .i64 a0_8] 50) (.cells #[.int .i64 1, .int .i64 a2_1, .slice A L c] 52) (.cells #[.int .i64 0, .int .i64 0, .bool false, .bool false, .bool false, .int .i64 0, .string (⟨#[]⟩ : ByteArray), .bool false, .int .i64 0] 50)
 rw [hwA] at hL5 hP5 hZ5
 have HBA := Aside0.mk hbA
 clear hwA hbA
 refine (HCL.out _ HBA.out).mono ?_
 rintro e w6 ⟨v6, rfl, hR6, hb6⟩
 have HR6 := Aside0.mk hR6
 clear hR6
 have hL6 := blk_below hL5 hb6
 have hP6 := blk_below hP5 hb6
 have hZ6 := blk_below hZ5 hb6
 have HB6 := Aside0.mk (below_step HBA.out hb6)
 obtain ⟨g, hg⟩ : ∃ g, w.heap.size + 1 + 1 = g := ⟨_, rfl⟩
 obtain ⟨gp, hgp⟩ : ∃ gp, w.heap.size + 1 = gp := ⟨_, rfl⟩
 obtain ⟨gl, hgl⟩ : ∃ gl, w.heap.size = gl := ⟨_, rfl⟩
 have HG := Aside0.mk (show w.heap.size ≤ g ∧ w.heap.size ≤ gl ∧ g ≠ gl from ⟨by omega, by omega, by omega⟩)
 have hpl : gp ≠ gl := by omega
 have hlp : gl ≠ gp := by omega
 have hne1 : g ≠ gl := by omega
 have hne2 : gl ≠ g := by omega
 rw [hg] at hZ6 ⊢
 rw [hgp] at hP6 ⊢
 rw [hgl] at hL6 ⊢
 clear hL5 hP5 hZ5 hb6 hg hgp hgl
 have l0 : w6.cell? ⟨gl, 0, none⟩ = some (.int .i64 a0_0) := (blk_cell hL6 0).trans rfl
 have lf0 := blk_frozen hL6 0
 have l1 : w6.cell? ⟨gl, 1, none⟩ = some (.int .i64 a0_1) := (blk_cell hL6 1).trans rfl
 have lf1 := blk_frozen hL6 1
 have l2 : w6.cell? ⟨gl, 2, none⟩ = some (.bool a0_2) := (blk_cell hL6 2).trans rfl
 have lf2 := blk_frozen hL6 2
 have l3 : w6.cell? ⟨gl, 3, none⟩ = some (.bool a0_3) := (blk_cell hL6 3).trans rfl
 have lf3 := blk_frozen hL6 3
 have l4 : w6.cell? ⟨gl, 4, none⟩ = some (.bool a0_4) := (blk_cell hL6 4).trans rfl
 have lf4 := blk_frozen hL6 4
 have l5 : w6.cell? ⟨gl, 5, none⟩ = some (.int .i64 a0_5) := (blk_cell hL6 5).trans rfl
 have lf5 := blk_frozen hL6 5
 have l6 : w6.cell? ⟨gl, 6, none⟩ = some (.string a0_6) := (blk_cell hL6 6).trans rfl
 have lf6 := blk_frozen hL6 6
 have l7 : w6.cell? ⟨gl, 7, none⟩ = some (.bool a0_7) := (blk_cell hL6 7).trans rfl
 have lf7 := blk_frozen hL6 7
 have l8 : w6.cell? ⟨gl, 8, none⟩ = some (.int .i64 a0_8) := (blk_cell hL6 8).trans rfl
 have lf8 := blk_frozen hL6 8
 have p0 : w6.cell? ⟨gp, 0, none⟩ = some (.int .i64 1) := (blk_cell hP6 0).trans rfl
 have p1 : w6.cell? ⟨gp, 1, none⟩ = some (.int .i64 a2_1) := (blk_cell hP6 1).trans rfl
 have p2 : w6.cell? ⟨gp, 2, none⟩ = some (.slice A L c) := (blk_cell hP6 2).trans rfl
 have z0 : w6.cell? ⟨g, 0, none⟩ = some (.int .i64 0) := (blk_cell hZ6 0).trans rfl
 have f0 := blk_frozen hZ6 0
 have z1 : w6.cell? ⟨g, 1, none⟩ = some (.int .i64 0) := (blk_cell hZ6 1).trans rfl
 have f1 := blk_frozen hZ6 1
 have z2 : w6.cell? ⟨g, 2, none⟩ = some (.bool false) := (blk_cell hZ6 2).trans rfl
 have f2 := blk_frozen hZ6 2
 have z3 : w6.cell? ⟨g, 3, none⟩ = some (.bool false) := (blk_cell hZ6 3).trans rfl
 have f3 := blk_frozen hZ6 3
 have z4 : w6.cell? ⟨g, 4, none⟩ = some (.bool false) := (blk_cell hZ6 4).trans rfl
 have f4 := blk_frozen hZ6 4
 have z5 : w6.cell? ⟨g, 5, none⟩ = some (.int .i64 0) := (blk_cell hZ6 5).trans rfl
 have f5 := blk_frozen hZ6 5
 have z6 : w6.cell? ⟨g, 6, none⟩ = some (.string (⟨#[]⟩ : ByteArray)) := (blk_cell hZ6 6).trans rfl
 have f6 := blk_frozen hZ6 6
 have z7 : w6.cell? ⟨g, 7, none⟩ = some (.bool false) := (blk_cell hZ6 7).trans rfl
 have f7 := blk_frozen hZ6 7
 have z8 : w6.cell? ⟨g, 8, none⟩ = some (.int .i64 0) := (blk_cell hZ6 8).trans rfl
 have f8 := blk_frozen hZ6 8
 have HZ := Aside0.mk hZ6
 clear hL6 hP6 hZ6
 cases k
 ·have HR := Aside0.mk (set9_row HZ.out (.int .i64 a0_0) (.int .i64 a0_1) (.bool a0_2) (.bool a0_3) (.bool a0_4) (.int .i64 a0_5) (.string a0_6) (.bool a0_7) (.int .i64 a0_8))
  have HBB := Aside0.mk (set9_below HB6.out HG.out.1 (.int .i64 a0_0) (.int .i64 a0_1) (.bool a0_2) (.bool a0_3) (.bool a0_4) (.int .i64 a0_5) (.string a0_6) (.bool a0_7) (.int .i64 a0_8))
  clear hno
  go_wp2
  refine bodyPost_ret (results_ct rfl _ _ g 50 #[.int .i64 a0_0, .int .i64 a0_1, .bool a0_2, .bool a0_3, .bool a0_4, .int .i64 a0_5, .string a0_6, .bool a0_7, .int .i64 a0_8] (0, 0) _ rfl HR.out Tryd.underlying50 rfl (by kernel_rfl)) rfl ?_
  exact ⟨rfl, HBB.out⟩
 ·have HR := Aside0.mk (set9_row HZ.out (.int .i64 a0_0) (.int .i64 a0_1) (.bool a0_2) (.bool a0_3) (.bool a0_4) (.int .i64 a0_5) (.string a0_6) (.bool a0_7) (.int .i64 a0_8))
  have HBB := Aside0.mk (set9_below HB6.out HG.out.1 (.int .i64 a0_0) (.int .i64 a0_1) (.bool a0_2) (.bool a0_3) (.bool a0_4) (.int .i64 a0_5) (.string a0_6) (.bool a0_7) (.int .i64 a0_8))
  have hn : ¬ a0_0 = 49699 := fun e => hno ⟨rfl, e⟩
  clear hno
  go_wp2
  refine bodyPost_ret (results_ct rfl _ _ g 50 #[.int .i64 a0_0, .int .i64 a0_1, .bool a0_2, .bool a0_3, .bool a0_4, .int .i64 a0_5, .string a0_6, .bool a0_7, .int .i64 a0_8] (0, 0) _ rfl HR.out Tryd.underlying50 rfl (by kernel_rfl)) rfl ?_
  exact ⟨rfl, HBB.out⟩
set_option maxRecDepth 100000 in
set_option maxHeartbeats 4000000 in
theorem begin_chap_yes (a0_1 : Int) (a0_2 a0_3 a0_4 : Bool) (a0_5 : Int) (a0_6 : ByteArray) (a0_7 : Bool) (a0_8 a2_1 : Int) (A : Option Addr) (c L : Nat) (tv : List Int) (w : World)
  (HCL : Aside0 (∀ W, Below w.heap.size w W → Calls Tryd.prog 47 #[.agg #[.int .i64 1, .int .i64 a2_1, .slice A L c]] W fun e w' => ∃ v0_ : Value, e = .returned (.tuple #[v0_, .bool true]) ∧ Kd.R (Kd.int .u8) 5 w' W.heap.size (fun _ => True) v0_ tv ∧ Below W.heap.size W w')) :
  Calls Tryd.prog 32 #[.agg #[.int .i64 49699, .int .i64 a0_1, .bool a0_2, .bool a0_3, .bool a0_4, .int .i64 a0_5, .string a0_6, .bool a0_7, .int .i64 a0_8], .int .i64 49699, .agg #[.int .i64 1, .int .i64 a2_1, .slice A L c]] w fun e w' =>
   e = .returned (.tuple #[.agg #[.int .i64 49699, .int .i64 a0_1, .bool a0_2, .bool a0_3, .bool true, .int .i64 a2_1, .string (strOfNums tv), .bool a0_7, .int .i64 a0_8], .bool true]) ∧ Below w.heap.size w w' := by
 go_enter Tryd.func32, Tryd.ntmps32
 go_wp2_with fail
 generalize hwA : ((w.alloc (.cells #[.int .i64 49699, .int .i64 a0_1, .bool a0_2, .bool a0_3, .bool a0_4, .int .i64 a0_5, .string a0_6, .bool a0_7, .int .i64 a0_8] 50)).alloc (.cells #[.int .i64 1, .int .i64 a2_1, .slice A L c] 52)).alloc (.cells #[.int .i64 0, .int .i64 0, .bool false, .bool false, .bool false, .int .i64 0, .string (⟨#[]⟩ : ByteArray), .bool false, .int .i64 0] 50) = wA
 have hbA : Below w.heap.size w wA := by rw [← hwA]; exact below_alloc (below_alloc (below_alloc (Below.refl _ _) _) _) _
 obtain ⟨hL5, hP5, hZ5⟩ := blk_new3' w (.cells #[.int .i64 49699, .int .i64 a0_1, .bool a0_2, .bool a0_3, .bool a0_4, .int .i64 a0_5, .string a0_6, .bool a0_7, .int .i64 a0_8] 50) (.cells #[.int .i64 1, .int .i64 a2_1, .slice A L c] 52) (.cells #[.int .i64 0, .int .i64 0, .bool false, .bool false, .bool false, .int .i64 0, .string (⟨#[]⟩ : ByteArray), .bool false, .int .i64 0] 50)
 rw [hwA] at hL5 hP5 hZ5
 have HBA := Aside0.mk hbA
 clear hwA hbA
 refine (HCL.out _ HBA.out).mono ?_
 rintro e w6 ⟨v6, rfl, hR6, hb6⟩
 obtain ⟨Ao, co, eo⟩ := Kd.R_slice hR6
 subst eo
 have HR6 := Aside0.mk hR6
 have hcv := own_string (P := Tryd.prog) (src := 22) (dst := 9) Tryd.underlying22 Tryd.underlying5 Tryd.underlying9 (Kd.own_of_R (Kd.R_drew hR6))
 clear hR6
 have hL6 := blk_below hL5 hb6
 have hP6 := blk_below hP5 hb6
 have hZ6 := blk_below hZ5 hb6
 have HB6 := Aside0.mk (below_step HBA.out hb6)
 obtain ⟨g, hg⟩ : ∃ g, w.heap.size + 1 + 1 = g := ⟨_, rfl⟩
 obtain ⟨gp, hgp⟩ : ∃ gp, w.heap.size + 1 = gp := ⟨_, rfl⟩
 obtain ⟨gl, hgl⟩ : ∃ gl, w.heap.size = gl := ⟨_, rfl⟩
 have HG := Aside0.mk (show w.heap.size ≤ g ∧ w.heap.size ≤ gl ∧ g ≠ gl from ⟨by omega, by omega, by omega⟩)
 have hpl : gp ≠ gl := by omega
 have hlp : gl ≠ gp := by omega
 have hne1 : g ≠ gl := by omega
 have hne2 : gl ≠ g := by omega
 rw [hg] at hZ6 ⊢
 rw [hgp] at hP6 ⊢
 rw [hgl] at hL6 ⊢
 clear hL5 hP5 hZ5 hb6 hg hgp hgl
 have l0 : w6.cell? ⟨gl, 0, none⟩ = some (.int .i64 49699) := (blk_cell hL6 0).trans rfl
 have lf0 := blk_frozen hL6 0
 have l1 : w6.cell? ⟨gl, 1, none⟩ = some (.int .i64 a0_1) := (blk_cell hL6 1).trans rfl
 have lf1 := blk_frozen hL6 1
 have l2 : w6.cell? ⟨gl, 2, none⟩ = some (.bool a0_2) := (blk_cell hL6 2).trans rfl
 have lf2 := blk_frozen hL6 2
 have l3 : w6.cell? ⟨gl, 3, none⟩ = some (.bool a0_3) := (blk_cell hL6 3).trans rfl
 have lf3 := blk_frozen hL6 3
 have l4 : w6.cell? ⟨gl, 4, none⟩ = some (.bool a0_4) := (blk_cell hL6 4).trans rfl
 have lf4 := blk_frozen hL6 4
 have l5 : w6.cell? ⟨gl, 5, none⟩ = some (.int .i64 a0_5) := (blk_cell hL6 5).trans rfl
 have lf5 := blk_frozen hL6 5
 have l6 : w6.cell? ⟨gl, 6, none⟩ = some (.string a0_6) := (blk_cell hL6 6).trans rfl
 have lf6 := blk_frozen hL6 6
 have l7 : w6.cell? ⟨gl, 7, none⟩ = some (.bool a0_7) := (blk_cell hL6 7).trans rfl
 have lf7 := blk_frozen hL6 7
 have l8 : w6.cell? ⟨gl, 8, none⟩ = some (.int .i64 a0_8) := (blk_cell hL6 8).trans rfl
 have lf8 := blk_frozen hL6 8
 have p0 : w6.cell? ⟨gp, 0, none⟩ = some (.int .i64 1) := (blk_cell hP6 0).trans rfl
 have p1 : w6.cell? ⟨gp, 1, none⟩ = some (.int .i64 a2_1) := (blk_cell hP6 1).trans rfl
 have p2 : w6.cell? ⟨gp, 2, none⟩ = some (.slice A L c) := (blk_cell hP6 2).trans rfl
 have z0 : w6.cell? ⟨g, 0, none⟩ = some (.int .i64 0) := (blk_cell hZ6 0).trans rfl
 have f0 := blk_frozen hZ6 0
 have z1 : w6.cell? ⟨g, 1, none⟩ = some (.int .i64 0) := (blk_cell hZ6 1).trans rfl
 have f1 := blk_frozen hZ6 1
 have z2 : w6.cell? ⟨g, 2, none⟩ = some (.bool false) := (blk_cell hZ6 2).trans rfl
 have f2 := blk_frozen hZ6 2
 have z3 : w6.cell? ⟨g, 3, none⟩ = some (.bool false) := (blk_cell hZ6 3).trans rfl
 have f3 := blk_frozen hZ6 3
 have z4 : w6.cell? ⟨g, 4, none⟩ = some (.bool false) := (blk_cell hZ6 4).trans rfl
 have f4 := blk_frozen hZ6 4
 have z5 : w6.cell? ⟨g, 5, none⟩ = some (.int .i64 0) := (blk_cell hZ6 5).trans rfl
 have f5 := blk_frozen hZ6 5
 have z6 : w6.cell? ⟨g, 6, none⟩ = some (.string (⟨#[]⟩ : ByteArray)) := (blk_cell hZ6 6).trans rfl
 have f6 := blk_frozen hZ6 6
 have z7 : w6.cell? ⟨g, 7, none⟩ = some (.bool false) := (blk_cell hZ6 7).trans rfl
 have f7 := blk_frozen hZ6 7
 have z8 : w6.cell? ⟨g, 8, none⟩ = some (.int .i64 0) := (blk_cell hZ6 8).trans rfl
 have f8 := blk_frozen hZ6 8
 have HZ := Aside0.mk hZ6
 have ht : ∀ x, x ∈ (5 : TypeId) :: (Kd.int IntKind.u8).E → x ≠ 50 := fun x hx => by cases hx with | head => decide | tail _ h => cases h
 have r4 := Kd.R_set HR6.out hL6 ht 4 (.bool true)
 have r5 := Kd.R_set r4 (blk_set hL6 4 (.bool true)) ht 5 (.int .i64 a2_1)
 have hcv4 := own_string (P := Tryd.prog) (src := 22) (dst := 9) Tryd.underlying22 Tryd.underlying5 Tryd.underlying9 (Kd.own_of_R (Kd.R_drew r4))
 have hcv5 := own_string (P := Tryd.prog) (src := 22) (dst := 9) Tryd.underlying22 Tryd.underlying5 Tryd.underlying9 (Kd.own_of_R (Kd.R_drew r5))
 clear ht r4 r5
 clear hL6 hP6 hZ6
 obtain ⟨sv, hsv⟩ : ∃ sv, strOfNums tv = sv := ⟨_, rfl⟩
 rw [hsv] at hcv hcv4 hcv5
 have HSV := Aside0.mk hsv
 clear hsv
 have HR := Aside0.mk (set9_row (blk_far (p := ⟨gl, 6, none⟩) (blk_far (p := ⟨gl, 5, none⟩) (blk_far (p := ⟨gl, 4, none⟩) HZ.out HG.out.2.2 (.bool true)) HG.out.2.2 (.int .i64 a2_1)) HG.out.2.2 (.string sv)) (.int .i64 49699) (.int .i64 a0_1) (.bool a0_2) (.bool a0_3) (.bool true) (.int .i64 a2_1) (.string sv) (.bool a0_7) (.int .i64 a0_8))
 have HBB := Aside0.mk (set9_below (((HB6.out.setCell (p := ⟨gl, 4, none⟩) HG.out.2.1 (.bool true)).setCell (p := ⟨gl, 5, none⟩) HG.out.2.1 (.int .i64 a2_1)).setCell (p := ⟨gl, 6, none⟩) HG.out.2.1 (.string sv)) HG.out.1 (.int .i64 49699) (.int .i64 a0_1) (.bool a0_2) (.bool a0_3) (.bool true) (.int .i64 a2_1) (.string sv) (.bool a0_7) (.int .i64 a0_8))
 go_wp2
 go_region
 all_goals go_wp2
 all_goals (refine bodyPost_ret (results_ct rfl _ _ g 50 #[.int .i64 49699, .int .i64 a0_1, .bool a0_2, .bool a0_3, .bool true, .int .i64 a2_1, .string sv, .bool a0_7, .int .i64 a0_8] (0, 0) _ rfl (blk_drew HR.out) Tryd.underlying50 rfl (by kernel_rfl)) rfl ?_)
 all_goals exact ⟨by rw [HSV.out]; first | rfl | (simp; done), below_drew1 HBB.out⟩
theorem auth_Begin.calls (a0_0 a0_1 : Int) (a0_2 a0_3 a0_4 : Bool) (a0_5 : Int) (a0_6 : ByteArray) (a0_7 : Bool) (a0_8 a1 a2_0 a2_1 : Int) (A2_2 : Option Addr) (c2_2 : Nat) (l2_2 : List Int) (r1 r2 : Int) (r3 r4 r5 : Bool) (r6 : Int) (r7 : ByteArray) (r8 : Bool) (r9 : Int) (r10 : Bool) (w : World) (hr2_2 : Kd.C (Kd.int .u8) w A2_2 l2_2.length l2_2) (hc2_2 : l2_2.length ≤ c2_2)
  (h : auth_Begin.f a0_0 a0_1 a0_2 a0_3 a0_4 a0_5 a0_6 a0_7 a0_8 a1 a2_0 a2_1 l2_2 = some (r1, r2, r3, r4, r5, r6, r7, r8, r9, r10)) :
  Calls Tryd.prog 32 #[.agg #[.int .i64 a0_0, .int .i64 a0_1, .bool a0_2, .bool a0_3, .bool a0_4, .int .i64 a0_5, .string a0_6, .bool a0_7, .int .i64 a0_8], .int .i64 a1, .agg #[.int .i64 a2_0, .int .i64 a2_1, .slice A2_2 l2_2.length c2_2]] w fun e w' =>
   e = .returned (.tuple #[.agg #[.int .i64 r1, .int .i64 r2, .bool r3, .bool r4, .bool r5, .int .i64 r6, .string r7, .bool r8, .int .i64 r9], .bool r10]) ∧ Below w.heap.size w w' := by
 unfold auth_Begin.f at h
 by_cases h1 : a1 = 49187 ∧ a2_0 = 1
 ·rw [if_pos h1] at h
  obtain ⟨rfl, rfl⟩ := h1
  by_cases h2 : a0_1 = 49187 ∧ a0_3 = false
  ·rw [if_pos h2] at h
   obtain ⟨rfl, rfl⟩ := h2
   obtain ⟨k, hk, hx⟩ := Option.bind_eq_some_iff.1 h
   have hy := begin_pap_yes a0_0 a0_2 a0_4 a0_5 a0_6 a0_7 a0_8 a2_1 A2_2 c2_2 l2_2.length k w ⟨fun W hb => PAuthBase.auth_ask.calls 1 a2_1 A2_2 c2_2 l2_2 k W (Kd.C_below hr2_2 hb) hc2_2 hk⟩
   cases k
   ·rw [if_neg (by simp)] at hx
    simp only [Option.some.injEq, Prod.mk.injEq] at hx
    obtain ⟨rfl, rfl, rfl, rfl, rfl, rfl, rfl, rfl, rfl, rfl⟩ := hx
    exact hy
   ·rw [if_pos rfl] at hx
    simp only [Option.some.injEq, Prod.mk.injEq] at hx
    obtain ⟨rfl, rfl, rfl, rfl, rfl, rfl, rfl, rfl, rfl, rfl⟩ := hx
    exact hy
  ·rw [if_neg h2] at h
   simp only [Option.some.injEq, Prod.mk.injEq] at h
   obtain ⟨rfl, rfl, rfl, rfl, rfl, rfl, rfl, rfl, rfl, rfl⟩ := h
   exact begin_pap_no _ _ _ _ _ _ _ _ _ _ A2_2 c2_2 _ w h2
 ·rw [if_neg h1] at h
  by_cases h2 : a1 = 49699 ∧ a2_0 = 1
  ·rw [if_pos h2] at h
   obtain ⟨rfl, rfl⟩ := h2
   obtain ⟨⟨tv, ok⟩, hv, hx⟩ := Option.bind_eq_some_iff.1 h
   have HCL := Aside0.mk (show ∀ W, Below w.heap.size w W → Calls Tryd.prog 47 #[.agg #[.int .i64 1, .int .i64 a2_1, .slice A2_2 l2_2.length c2_2]] W fun e w' => ∃ v0_ : Value, e = .returned (.tuple #[v0_, .bool ok]) ∧ Kd.R (Kd.int .u8) 5 w' W.heap.size (fun _ => True) v0_ tv ∧ Below W.heap.size W w' from fun W hb => PAuthBase.auth_value.calls 1 a2_1 A2_2 c2_2 l2_2 tv ok W (Kd.C_below hr2_2 hb) hc2_2 hv)
   by_cases h3 : ok = true ∧ a0_0 = 49699
   ·obtain ⟨rfl, rfl⟩ := h3
    simp only [and_self, if_true, Option.some.injEq, Prod.mk.injEq] at hx
    obtain ⟨rfl, rfl, rfl, rfl, rfl, rfl, rfl, rfl, rfl, rfl⟩ := hx
    exact begin_chap_yes _ _ _ _ _ _ _ _ _ A2_2 c2_2 _ tv w HCL
   ·rw [if_neg h3] at hx
    simp only [Option.some.injEq, Prod.mk.injEq] at hx
    obtain ⟨rfl, rfl, rfl, rfl, rfl, rfl, rfl, rfl, rfl, rfl⟩ := hx
    exact begin_chap_no _ _ _ _ _ _ _ _ _ _ A2_2 c2_2 _ tv ok w h3 HCL
  ·rw [if_neg h2] at h
   simp only [Option.some.injEq, Prod.mk.injEq] at h
   obtain ⟨rfl, rfl, rfl, rfl, rfl, rfl, rfl, rfl, rfl, rfl⟩ := h
   exact begin_neither _ _ _ _ _ _ _ _ _ _ _ _ A2_2 c2_2 _ w h1 h2
end Go.Proofs.YtgadhmoifhoilaaDoor.AuthHand
