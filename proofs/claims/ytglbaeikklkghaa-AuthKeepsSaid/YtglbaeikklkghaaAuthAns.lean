/-
  auth.Answer where what is owed is PAP's answer: all that the laws' awake asks of it.
-/
import Derived.Test.YtglbaeikklkghaaPAuthBasex3
import Derived.Test.YtglbaeikklkghaaKit
import Derived.WalkLawsBesides
import Derived.Deep.RegionHeld3
import Derived.Deep.DrawnRows
namespace Go.Proofs.Ytglbaeikklkghaa.AuthHand
open Go.RowKit Go.Lib Go.Proofs.YtglbaeikklkghaaW.PrintWords Go.Proofs.YtglbaeikklkghaaW.PrintLast Go.Proofs.YtglbaeikklkghaaW.PrintMore Go.Proofs.Ytglbaeikklkghaa.Kit

set_option linter.unusedSimpArgs false
set_option linter.unusedVariables false
theorem blk_new5 (w : World) (o1 o2 o3 o4 o5 : Obj) : (((((w.alloc o1).alloc o2).alloc o3).alloc o4).alloc o5).heap[w.heap.size + 1]? = some o2 ∧ (((((w.alloc o1).alloc o2).alloc o3).alloc o4).alloc o5).heap[w.heap.size + 1 + 1]? = some o3 ∧ (((((w.alloc o1).alloc o2).alloc o3).alloc o4).alloc o5).heap[w.heap.size + 1 + 1 + 1 + 1]? = some o5 := by
  have h2 := blk_new (w.alloc o1) o2
  have h3 := blk_new ((w.alloc o1).alloc o2) o3
  have h5 := blk_new ((((w.alloc o1).alloc o2).alloc o3).alloc o4) o5
  simp only [World.size_alloc] at h2 h3 h5
  exact ⟨blk_alloc (blk_alloc (blk_alloc h2 _) _) _, blk_alloc (blk_alloc h3 _) _, h5⟩

def set9 (W : World) (b : Nat) (v0 v1 v2 v3 v4 v5 v6 v7 v8 : Value) : World := (((((((((W.setCell ⟨b, 0, none⟩ v0).setCell ⟨b, 1, none⟩ v1).setCell ⟨b, 2, none⟩ v2).setCell ⟨b, 3, none⟩ v3).setCell ⟨b, 4, none⟩ v4).setCell ⟨b, 5, none⟩ v5).setCell ⟨b, 6, none⟩ v6).setCell ⟨b, 7, none⟩ v7).setCell ⟨b, 8, none⟩ v8)
theorem set9_row {W : World} {b : Nat} {t : TypeId} {c0 c1 c2 c3 c4 c5 c6 c7 c8 : Value} (h : W.heap[b]? = some (.cells #[c0, c1, c2, c3, c4, c5, c6, c7, c8] t (0, 0))) (v0 v1 v2 v3 v4 v5 v6 v7 v8 : Value) : (set9 W b v0 v1 v2 v3 v4 v5 v6 v7 v8).heap[b]? = some (.cells #[v0, v1, v2, v3, v4, v5, v6, v7, v8] t (0, 0)) := by
  have h0 := blk_put (cs' := #[v0, c1, c2, c3, c4, c5, c6, c7, c8]) h 0 v0 rfl
  have h1 := blk_put (cs' := #[v0, v1, c2, c3, c4, c5, c6, c7, c8]) h0 1 v1 rfl
  have h2 := blk_put (cs' := #[v0, v1, v2, c3, c4, c5, c6, c7, c8]) h1 2 v2 rfl
  have h3 := blk_put (cs' := #[v0, v1, v2, v3, c4, c5, c6, c7, c8]) h2 3 v3 rfl
  have h4 := blk_put (cs' := #[v0, v1, v2, v3, v4, c5, c6, c7, c8]) h3 4 v4 rfl
  have h5 := blk_put (cs' := #[v0, v1, v2, v3, v4, v5, c6, c7, c8]) h4 5 v5 rfl
  have h6 := blk_put (cs' := #[v0, v1, v2, v3, v4, v5, v6, c7, c8]) h5 6 v6 rfl
  have h7 := blk_put (cs' := #[v0, v1, v2, v3, v4, v5, v6, v7, c8]) h6 7 v7 rfl
  have h8 := blk_put (cs' := #[v0, v1, v2, v3, v4, v5, v6, v7, v8]) h7 8 v8 rfl
  exact h8
theorem set9_below {w W : World} {b B : Nat} (h : Below B w W) (hb : B ≤ b) (v0 v1 v2 v3 v4 v5 v6 v7 v8 : Value) : Below B w (set9 W b v0 v1 v2 v3 v4 v5 v6 v7 v8) := (((((((((h.setCell (p := ⟨b, 0, none⟩) hb _).setCell (p := ⟨b, 1, none⟩) hb _).setCell (p := ⟨b, 2, none⟩) hb _).setCell (p := ⟨b, 3, none⟩) hb _).setCell (p := ⟨b, 4, none⟩) hb _).setCell (p := ⟨b, 5, none⟩) hb _).setCell (p := ⟨b, 6, none⟩) hb _).setCell (p := ⟨b, 7, none⟩) hb _).setCell (p := ⟨b, 8, none⟩) hb _)

theorem blk_new4 (w : World) (o1 o2 o3 o4 : Obj) : ((((w.alloc o1).alloc o2).alloc o3).alloc o4).heap[w.heap.size + 1 + 1]? = some o3 ∧ ((((w.alloc o1).alloc o2).alloc o3).alloc o4).heap[w.heap.size + 1 + 1 + 1]? = some o4 := by
  have h3 := blk_new ((w.alloc o1).alloc o2) o3
  have h4 := blk_new (((w.alloc o1).alloc o2).alloc o3) o4
  simp only [World.size_alloc] at h3 h4
  exact ⟨blk_alloc h3 _, h4⟩
section
attribute [local go_sem ↓] Go.wp_at_zero Go.wp_at_succ
set_option maxRecDepth 100000 in
set_option maxHeartbeats 4000000 in
/-- judged where PAP's answer is owed, at an Authenticate-Ack. -/
theorem judged_ack (a0_0 a0_1 a0_2 a0_3 : Int) (a0_4 a0_5 : ByteArray) (a0_6 a0_7 : Int) (a0_8 : Bool) (a1_0 a1_1 : Int) (a1_2 a1_3 a1_4 : Bool) (a1_5 : Int) (a1_6 : ByteArray) (a1_7 : Bool) (a1_8 : Int) (a2_1 a2_2 : Int) (a2_3 : ByteArray) (a4_1 : Int) (A : Option Addr) (L c : Nat) (k : Bool) (w : World)
    (HCL : Aside0 (∀ W, Below w.heap.size w W → Calls Try.prog 37 #[.agg #[.int .i64 2, .int .i64 a4_1, .slice A L c]] W fun e w' => e = .returned (.bool k) ∧ Below W.heap.size W w')) :
    Calls Try.prog 42 #[.agg #[.int .i64 a0_0, .int .i64 a0_1, .int .i64 a0_2, .int .i64 a0_3, .string a0_4, .string a0_5, .int .i64 a0_6, .int .u32 a0_7, .bool a0_8], .agg #[.int .i64 a1_0, .int .i64 a1_1, .bool a1_2, .bool a1_3, .bool a1_4, .int .i64 a1_5, .string a1_6, .bool a1_7, .int .i64 a1_8], .agg #[.int .i64 9, .int .i64 a2_1, .int .i64 a2_2, .string a2_3], .agg #[.int .i64 2, .int .i64 a4_1, .slice A L c]] w fun e w' =>
      e = .returned (.tuple #[.bool true, .bool k]) ∧ Below w.heap.size w w' := by
  go_enter Try.func42, Try.ntmps42
  go_wp2_with fail
  generalize hwA : (((w.alloc (.cells #[.int .i64 a0_0, .int .i64 a0_1, .int .i64 a0_2, .int .i64 a0_3, .string a0_4, .string a0_5, .int .i64 a0_6, .int .u32 a0_7, .bool a0_8] 70)).alloc (.cells #[.int .i64 a1_0, .int .i64 a1_1, .bool a1_2, .bool a1_3, .bool a1_4, .int .i64 a1_5, .string a1_6, .bool a1_7, .int .i64 a1_8] 47)).alloc (.cells #[.int .i64 9, .int .i64 a2_1, .int .i64 a2_2, .string a2_3] 60)).alloc (.cells #[.int .i64 2, .int .i64 a4_1, .slice A L c] 49) = wA
  have hbA : Below w.heap.size w wA := by rw [← hwA]; exact below_alloc (below_alloc (below_alloc (below_alloc (Below.refl _ _) _) _) _) _
  obtain ⟨_, hP⟩ := blk_new4 w (.cells #[.int .i64 a0_0, .int .i64 a0_1, .int .i64 a0_2, .int .i64 a0_3, .string a0_4, .string a0_5, .int .i64 a0_6, .int .u32 a0_7, .bool a0_8] 70) (.cells #[.int .i64 a1_0, .int .i64 a1_1, .bool a1_2, .bool a1_3, .bool a1_4, .int .i64 a1_5, .string a1_6, .bool a1_7, .int .i64 a1_8] 47) (.cells #[.int .i64 9, .int .i64 a2_1, .int .i64 a2_2, .string a2_3] 60) (.cells #[.int .i64 2, .int .i64 a4_1, .slice A L c] 49)
  rw [hwA] at hP
  have HBA := Aside0.mk hbA
  clear hwA hbA
  obtain ⟨g, hg⟩ : ∃ g, w.heap.size + 1 + 1 + 1 = g := ⟨_, rfl⟩
  rw [hg] at hP ⊢
  clear hg
  have HP := Aside0.mk hP
  have p0 : wA.cell? ⟨g, 0, none⟩ = some (.int .i64 2) := (blk_cell hP 0).trans rfl
  have p1 : wA.cell? ⟨g, 1, none⟩ = some (.int .i64 a4_1) := (blk_cell hP 1).trans rfl
  have p2 : wA.cell? ⟨g, 2, none⟩ = some (.slice A L c) := (blk_cell hP 2).trans rfl
  clear hP
  refine start_ (n := 22) (S := fun w' => w'.cell? ⟨g, 0, none⟩ = some (.int .i64 2) ∧ w'.cell? ⟨g, 1, none⟩ = some (.int .i64 a4_1) ∧ w'.cell? ⟨g, 2, none⟩ = some (.slice A L c)) (ds := []) #[false, false, false, false, false, false, false, false, false, false, false, false, false, false, false, false, false, false, false, false, false, false] (by kernel_rfl) rfl rfl ⟨p0, p1, p2⟩ (fun hHeld => ?_)
  refine pure_ (i := 0) (N := some 15) (v := ?_) (a' := ?_) #[true, false, false, false, false, false, false, false, false, false, false, false, false, false, false, false, false, false, false, false, false, false] rfl rfl (by kernel_rfl) (fun _ _ _ h => h) (Or.inl ⟨by rfl, ?_⟩) ?_ ?_
  rotate_left
  · intro w'
    go_simp
    with_reducible rfl
  rotate_left
  · simp only [Act.put, List.setIfInBounds_toArray, List.set_cons_zero, List.set_cons_succ, i64_w, i32_w]
    rfl
  refine pure_ (i := 3) (N := some 18) (v := ?_) (a' := ?_) #[true, false, false, true, false, false, false, false, false, false, false, false, false, false, false, false, false, false, false, false, false, false] rfl rfl (by kernel_rfl) (fun _ _ _ h => h) (Or.inl ⟨by rfl, ?_⟩) ?_ ?_
  rotate_left
  · intro w'
    go_simp
    with_reducible rfl
  rotate_left
  · simp only [Act.put, List.setIfInBounds_toArray, List.set_cons_zero, List.set_cons_succ, i64_w, i32_w]
    rfl
  refine take_ (i := 1) (N := some 16) (v := ?_) (a' := ?_) #[true, true, false, true, false, false, false, false, false, false, false, false, false, false, false, false, false, false, false, false, false, false] rfl rfl (by kernel_rfl) (fun _ _ _ h => h) (Or.inl ⟨by rfl, ?_⟩) hHeld ?_ ?_
  rotate_left
  · rintro w' ⟨s0, s1, s2⟩
    go_simp
    with_reducible rfl
  rotate_left
  · simp only [Act.put, List.setIfInBounds_toArray, List.set_cons_zero, List.set_cons_succ, i64_w, i32_w]
    rfl
  refine pure_ (i := 2) (N := some 17) (v := ?_) (a' := ?_) #[true, true, true, true, false, false, false, false, false, false, false, false, false, false, false, false, false, false, false, false, false, false] rfl rfl (by kernel_rfl) (fun _ _ _ h => h) (Or.inl ⟨by rfl, ?_⟩) ?_ ?_
  rotate_left
  · intro w'
    go_simp
    with_reducible rfl
  rotate_left
  · simp only [Act.put, List.setIfInBounds_toArray, List.set_cons_zero, List.set_cons_succ, i64_w, i32_w]
    rfl
  refine take_ (i := 4) (N := some 19) (v := ?_) (a' := ?_) #[true, true, true, true, true, false, false, false, false, false, false, false, false, false, false, false, false, false, false, false, false, false] rfl rfl (by kernel_rfl) (fun _ _ _ h => h) (Or.inl ⟨by rfl, ?_⟩) hHeld ?_ ?_
  rotate_left
  · rintro w' ⟨s0, s1, s2⟩
    go_simp
    with_reducible rfl
  rotate_left
  · simp only [Act.put, List.setIfInBounds_toArray, List.set_cons_zero, List.set_cons_succ, i64_w, i32_w]
    rfl
  refine pure_ (i := 5) (N := some 20) (v := ?_) (a' := ?_) #[true, true, true, true, true, true, false, false, false, false, false, false, false, false, false, false, false, false, false, false, false, false] rfl rfl (by kernel_rfl) (fun _ _ _ h => h) (Or.inl ⟨by rfl, ?_⟩) ?_ ?_
  rotate_left
  · intro w'
    go_simp
    with_reducible rfl
  rotate_left
  · simp only [Act.put, List.setIfInBounds_toArray, List.set_cons_zero, List.set_cons_succ, i64_w, i32_w]
    rfl
  refine pure_ (i := 6) (N := some 21) (v := ?_) (a' := ?_) #[true, true, true, true, true, true, true, false, false, false, false, false, false, false, false, false, false, false, false, false, false, false] rfl rfl (by kernel_rfl) (fun _ _ _ h => h) (Or.inl ⟨by rfl, ?_⟩) ?_ ?_
  rotate_left
  · intro w'
    go_simp
    with_reducible rfl
  rotate_left
  · simp only [Act.put, List.setIfInBounds_toArray, List.set_cons_zero, List.set_cons_succ, i64_w, i32_w]
    rfl
  refine pure_ (i := 7) (N := some 22) (v := undef) (a' := ?_) #[true, true, true, true, true, true, true, true, false, false, false, false, false, false, false, false, false, false, false, false, false, false] rfl rfl (by kernel_rfl) (fun _ _ _ h => h) (Or.inr ⟨by rfl, rfl⟩) ?_ ?_
  rotate_left
  · simp only [Act.put, List.setIfInBounds_toArray, List.set_cons_zero, List.set_cons_succ, i64_w, i32_w]
    rfl
  refine pure_ (i := 8) (N := some 23) (v := undef) (a' := ?_) #[true, true, true, true, true, true, true, true, true, false, false, false, false, false, false, false, false, false, false, false, false, false] rfl rfl (by kernel_rfl) (fun _ _ _ h => h) (Or.inr ⟨by rfl, rfl⟩) ?_ ?_
  rotate_left
  · simp only [Act.put, List.setIfInBounds_toArray, List.set_cons_zero, List.set_cons_succ, i64_w, i32_w]
    rfl
  refine pure_ (i := 9) (N := some 24) (v := undef) (a' := ?_) #[true, true, true, true, true, true, true, true, true, true, false, false, false, false, false, false, false, false, false, false, false, false] rfl rfl (by kernel_rfl) (fun _ _ _ h => h) (Or.inr ⟨by rfl, rfl⟩) ?_ ?_
  rotate_left
  · simp only [Act.put, List.setIfInBounds_toArray, List.set_cons_zero, List.set_cons_succ, i64_w, i32_w]
    rfl
  refine pure_ (i := 10) (N := some 25) (v := undef) (a' := ?_) #[true, true, true, true, true, true, true, true, true, true, true, false, false, false, false, false, false, false, false, false, false, false] rfl rfl (by kernel_rfl) (fun _ _ _ h => h) (Or.inr ⟨by rfl, rfl⟩) ?_ ?_
  rotate_left
  · simp only [Act.put, List.setIfInBounds_toArray, List.set_cons_zero, List.set_cons_succ, i64_w, i32_w]
    rfl
  refine pure_ (i := 11) (N := some 26) (v := undef) (a' := ?_) #[true, true, true, true, true, true, true, true, true, true, true, true, false, false, false, false, false, false, false, false, false, false] rfl rfl (by kernel_rfl) (fun _ _ _ h => h) (Or.inr ⟨by rfl, rfl⟩) ?_ ?_
  rotate_left
  · simp only [Act.put, List.setIfInBounds_toArray, List.set_cons_zero, List.set_cons_succ, i64_w, i32_w]
    rfl
  refine pure_ (i := 12) (N := some 27) (v := undef) (a' := ?_) #[true, true, true, true, true, true, true, true, true, true, true, true, true, false, false, false, false, false, false, false, false, false] rfl rfl (by kernel_rfl) (fun _ _ _ h => h) (Or.inr ⟨by rfl, rfl⟩) ?_ ?_
  rotate_left
  · simp only [Act.put, List.setIfInBounds_toArray, List.set_cons_zero, List.set_cons_succ, i64_w, i32_w]
    rfl
  refine pure_ (i := 13) (N := some 28) (v := undef) (a' := ?_) #[true, true, true, true, true, true, true, true, true, true, true, true, true, true, false, false, false, false, false, false, false, false] rfl rfl (by kernel_rfl) (fun _ _ _ h => h) (Or.inr ⟨by rfl, rfl⟩) ?_ ?_
  rotate_left
  · simp only [Act.put, List.setIfInBounds_toArray, List.set_cons_zero, List.set_cons_succ, i64_w, i32_w]
    rfl
  refine pure_ (i := 14) (N := some 29) (v := undef) (a' := ?_) #[true, true, true, true, true, true, true, true, true, true, true, true, true, true, true, false, false, false, false, false, false, false] rfl rfl (by kernel_rfl) (fun _ _ _ h => h) (Or.inr ⟨by rfl, rfl⟩) ?_ ?_
  rotate_left
  · simp only [Act.put, List.setIfInBounds_toArray, List.set_cons_zero, List.set_cons_succ, i64_w, i32_w]
    rfl
  refine pure_ (i := 15) (N := some 30) (v := ?_) (a' := ?_) #[true, true, true, true, true, true, true, true, true, true, true, true, true, true, true, true, false, false, false, false, false, false] rfl rfl (by kernel_rfl) (fun _ _ _ h => h) (Or.inl ⟨by rfl, ?_⟩) ?_ ?_
  rotate_left
  · intro w'
    go_simp
    with_reducible rfl
  rotate_left
  · simp only [Act.put, List.setIfInBounds_toArray, List.set_cons_zero, List.set_cons_succ, i64_w, i32_w]
    rfl
  refine pure_ (i := 16) (N := some 31) (v := ?_) (a' := ?_) #[true, true, true, true, true, true, true, true, true, true, true, true, true, true, true, true, true, false, false, false, false, false] rfl rfl (by kernel_rfl) (fun _ _ _ h => h) (Or.inl ⟨by rfl, ?_⟩) ?_ ?_
  rotate_left
  · intro w'
    go_simp
    with_reducible rfl
  rotate_left
  · simp only [Act.put, List.setIfInBounds_toArray, List.set_cons_zero, List.set_cons_succ, i64_w, i32_w]
    rfl
  refine take_ (i := 17) (N := some 32) (v := ?_) (a' := ?_) #[true, true, true, true, true, true, true, true, true, true, true, true, true, true, true, true, true, true, false, false, false, false] rfl rfl (by kernel_rfl) (fun _ _ _ h => h) (Or.inl ⟨by rfl, ?_⟩) hHeld ?_ ?_
  rotate_left
  · rintro w' ⟨s0, s1, s2⟩
    go_simp
    with_reducible rfl
  rotate_left
  · simp only [Act.put, List.setIfInBounds_toArray, List.set_cons_zero, List.set_cons_succ, i64_w, i32_w]
    rfl
  refine one_ (i := 18) (N := some 33) #[true, true, true, true, true, true, true, true, true, true, true, true, true, true, true, true, true, true, true, false, false, false] rfl rfl (by kernel_rfl) (by decide) (fun K hK => ?_)
  refine goes_ Try.func37 (by kernel_rfl) rfl #[.agg #[.int .i64 2, .int .i64 a4_1, .slice A L c]] (by rfl) rfl rfl (by simp only [List.map_toArray, List.map_cons, List.map_nil]; rfl) ?_
  with_reducible refine (HCL.out _ (below_drew1 HBA.out)).mono ?_
  rintro e w7 ⟨rfl, hb7⟩
  refine ⟨_, rfl, ?_⟩
  have HP7 := Aside0.mk (blk_below (blk_drew HP.out) hb7)
  have HB7 := Aside0.mk (below_step (below_drew1 HBA.out) hb7)
  clear hb7
  refine hK.out _ _ ⟨((blk_cell HP7.out 0).trans rfl), ((blk_cell HP7.out 1).trans rfl), ((blk_cell HP7.out 2).trans rfl)⟩ (fun hHeld => ?_)
  clear hK K
  refine norm_ (a' := ?_) ?_ ?_
  rotate_left
  · show Act.put _ (some 33) _ = _
    simp only [Act.put, List.setIfInBounds_toArray, List.set_cons_zero, List.set_cons_succ, i64_w, i32_w]
    rfl
  refine pure_ (i := 19) (N := some 34) (v := ?_) (a' := ?_) #[true, true, true, true, true, true, true, true, true, true, true, true, true, true, true, true, true, true, true, true, false, false] rfl rfl (by kernel_rfl) (fun _ _ _ h => h) (Or.inl ⟨by rfl, ?_⟩) ?_ ?_
  rotate_left
  · intro w'
    go_simp
    with_reducible rfl
  rotate_left
  · simp only [Act.put, List.setIfInBounds_toArray, List.set_cons_zero, List.set_cons_succ, i64_w, i32_w]
    rfl
  refine pure_ (i := 20) (N := some 8) (v := ?_) (a' := ?_) #[true, true, true, true, true, true, true, true, true, true, true, true, true, true, true, true, true, true, true, true, true, false] rfl rfl (by kernel_rfl) (fun _ _ _ h => h) (Or.inl ⟨by rfl, ?_⟩) ?_ ?_
  rotate_left
  · intro w'
    go_simp
    with_reducible rfl
  rotate_left
  · simp only [Act.put, List.setIfInBounds_toArray, List.set_cons_zero, List.set_cons_succ, i64_w, i32_w]
    rfl
  refine pure_ (i := 21) (N := some 9) (v := ?_) (a' := ?_) #[true, true, true, true, true, true, true, true, true, true, true, true, true, true, true, true, true, true, true, true, true, true] rfl rfl (by kernel_rfl) (fun _ _ _ h => h) (Or.inl ⟨by rfl, ?_⟩) ?_ ?_
  rotate_left
  · intro w'
    go_simp
    with_reducible rfl
  rotate_left
  · simp only [Act.put, List.setIfInBounds_toArray, List.set_cons_zero, List.set_cons_succ, i64_w, i32_w]
    rfl
  refine done_ (by kernel_rfl) ?_
  go_wp2
  go_ret2
  exact ⟨rfl, HB7.out⟩
end

def auth_Answer.f (a0_0 a0_1 a0_2 a0_3 : Int) (a0_4 a0_5 : ByteArray) (a0_6 a0_7 : Int) (a0_8 : Bool) (a1_0 a1_1 : Int) (a1_2 a1_3 a1_4 : Bool) (a1_5 : Int) (a1_6 : ByteArray) (a1_7 : Bool) (a1_8 : Int) (a2_0 a2_1 a2_2 : Int) (a2_3 : ByteArray) (a3 a4_0 a4_1 : Int) (l4_2 : List Int) : Option (Int × Int × Bool × Bool × Bool × Int × ByteArray × Bool × Int × Bool) :=
  if a2_0 = 9 ∧ a4_0 = 2 then
    (if a3 = a2_1 ∧ a4_1 = a2_2 then
      (PAuthBase.auth_say.f 2 a4_1 l4_2).bind fun k => some (a1_0, a1_1, (if k = true then true else a1_2), a1_3, a1_4, a1_5, a1_6, a1_7, a1_8, k)
     else some (a1_0, a1_1, a1_2, a1_3, a1_4, a1_5, a1_6, a1_7, a1_8, false))
  else none

set_option maxRecDepth 100000 in
set_option maxHeartbeats 4000000 in
theorem auth_Answer.calls (a0_0 a0_1 a0_2 a0_3 : Int) (a0_4 a0_5 : ByteArray) (a0_6 a0_7 : Int) (a0_8 : Bool) (a1_0 a1_1 : Int) (a1_2 a1_3 a1_4 : Bool) (a1_5 : Int) (a1_6 : ByteArray) (a1_7 : Bool) (a1_8 : Int) (a2_0 a2_1 a2_2 : Int) (a2_3 : ByteArray) (a3 a4_0 a4_1 : Int) (A4_2 : Option Addr) (c4_2 : Nat) (l4_2 : List Int) (r1 r2 : Int) (r3 r4 r5 : Bool) (r6 : Int) (r7 : ByteArray) (r8 : Bool) (r9 : Int) (r10 : Bool) (w : World) (hr4_2 : Kd.C (Kd.int .u8) w A4_2 l4_2.length l4_2) (hc4_2 : l4_2.length ≤ c4_2)
    (h : auth_Answer.f a0_0 a0_1 a0_2 a0_3 a0_4 a0_5 a0_6 a0_7 a0_8 a1_0 a1_1 a1_2 a1_3 a1_4 a1_5 a1_6 a1_7 a1_8 a2_0 a2_1 a2_2 a2_3 a3 a4_0 a4_1 l4_2 = some (r1, r2, r3, r4, r5, r6, r7, r8, r9, r10)) :
    Calls Try.prog 33 #[.agg #[.int .i64 a0_0, .int .i64 a0_1, .int .i64 a0_2, .int .i64 a0_3, .string a0_4, .string a0_5, .int .i64 a0_6, .int .u32 a0_7, .bool a0_8], .agg #[.int .i64 a1_0, .int .i64 a1_1, .bool a1_2, .bool a1_3, .bool a1_4, .int .i64 a1_5, .string a1_6, .bool a1_7, .int .i64 a1_8], .agg #[.int .i64 a2_0, .int .i64 a2_1, .int .i64 a2_2, .string a2_3], .int .i64 a3, .agg #[.int .i64 a4_0, .int .i64 a4_1, .slice A4_2 l4_2.length c4_2]] w fun e w' =>
      e = .returned (.tuple #[.agg #[.int .i64 r1, .int .i64 r2, .bool r3, .bool r4, .bool r5, .int .i64 r6, .string r7, .bool r8, .int .i64 r9], .bool r10]) ∧ Below w.heap.size w w' := by
  unfold auth_Answer.f at h
  split at h
  case isFalse => cases h
  case isTrue h9 =>
  obtain ⟨rfl, rfl⟩ := h9
  have HC := Aside0.mk hr4_2
  obtain ⟨L, hL⟩ : ∃ L, l4_2.length = L := ⟨_, rfl⟩
  by_cases hm : a3 = a2_1 ∧ a4_1 = a2_2
  · rw [if_pos hm] at h
    obtain ⟨rfl, rfl⟩ := hm
    obtain ⟨may, hj, hk⟩ := Option.bind_eq_some_iff.1 h
    simp only [Option.some.injEq, Prod.mk.injEq] at hk
    obtain ⟨rfl, rfl, rfl, rfl, rfl, rfl, rfl, rfl, rfl, rfl⟩ := hk
    have HCL := Aside0.mk (show ∀ W, Below w.heap.size w W → Calls Try.prog 42 #[.agg #[.int .i64 a0_0, .int .i64 a0_1, .int .i64 a0_2, .int .i64 a0_3, .string a0_4, .string a0_5, .int .i64 a0_6, .int .u32 a0_7, .bool a0_8], .agg #[.int .i64 a1_0, .int .i64 a1_1, .bool a1_2, .bool a1_3, .bool a1_4, .int .i64 a1_5, .string a1_6, .bool a1_7, .int .i64 a1_8], .agg #[.int .i64 9, .int .i64 a3, .int .i64 a4_1, .string a2_3], .agg #[.int .i64 2, .int .i64 a4_1, .slice A4_2 L c4_2]] W fun e w' => e = .returned (.tuple #[.bool true, .bool may]) ∧ Below W.heap.size W w' from fun W hb => by
      refine judged_ack _ _ _ _ _ _ _ _ _ _ _ _ _ _ _ _ _ _ _ _ _ _ A4_2 L c4_2 may W ⟨fun W' hb' => ?_⟩
      rw [← hL]
      exact PAuthBase.auth_say.calls 2 a4_1 A4_2 c4_2 l4_2 may W' (Kd.C_below HC.out (below_step hb hb')) hc4_2 hj)
    rw [hL]
    clear hL hj h hc4_2 hr4_2 HC
    go_enter Try.func33, Try.ntmps33
    go_wp2_with fail
    generalize hwA : ((((w.alloc (.cells #[.int .i64 a0_0, .int .i64 a0_1, .int .i64 a0_2, .int .i64 a0_3, .string a0_4, .string a0_5, .int .i64 a0_6, .int .u32 a0_7, .bool a0_8] 70)).alloc (.cells #[.int .i64 a1_0, .int .i64 a1_1, .bool a1_2, .bool a1_3, .bool a1_4, .int .i64 a1_5, .string a1_6, .bool a1_7, .int .i64 a1_8] 47)).alloc (.cells #[.int .i64 9, .int .i64 a3, .int .i64 a4_1, .string a2_3] 60)).alloc (.cells #[.int .i64 2, .int .i64 a4_1, .slice A4_2 L c4_2] 49)).alloc (.cells #[.int .i64 0, .int .i64 0, .bool false, .bool false, .bool false, .int .i64 0, .string (⟨#[]⟩ : ByteArray), .bool false, .int .i64 0] 47) = wA
    have hbA : Below w.heap.size w wA := by rw [← hwA]; exact below_alloc (below_alloc (below_alloc (below_alloc (below_alloc (Below.refl _ _) _) _) _) _) _
    obtain ⟨hL5, hD5, hZ5⟩ := blk_new5 w (.cells #[.int .i64 a0_0, .int .i64 a0_1, .int .i64 a0_2, .int .i64 a0_3, .string a0_4, .string a0_5, .int .i64 a0_6, .int .u32 a0_7, .bool a0_8] 70) (.cells #[.int .i64 a1_0, .int .i64 a1_1, .bool a1_2, .bool a1_3, .bool a1_4, .int .i64 a1_5, .string a1_6, .bool a1_7, .int .i64 a1_8] 47) (.cells #[.int .i64 9, .int .i64 a3, .int .i64 a4_1, .string a2_3] 60) (.cells #[.int .i64 2, .int .i64 a4_1, .slice A4_2 L c4_2] 49) (.cells #[.int .i64 0, .int .i64 0, .bool false, .bool false, .bool false, .int .i64 0, .string (⟨#[]⟩ : ByteArray), .bool false, .int .i64 0] 47)
    rw [hwA] at hL5 hD5 hZ5
    have HBA := Aside0.mk hbA
    clear hwA hbA
    refine (HCL.out _ HBA.out).mono ?_
    rintro e w6 ⟨rfl, hb6⟩
    have hL6 := blk_below hL5 hb6
    have hD6 := blk_below hD5 hb6
    have hZ6 := blk_below hZ5 hb6
    have HB6 := Aside0.mk (below_step HBA.out hb6)
    obtain ⟨g, hg⟩ : ∃ g, w.heap.size + 1 + 1 + 1 + 1 = g := ⟨_, rfl⟩
    obtain ⟨gd, hgd⟩ : ∃ gd, w.heap.size + 1 + 1 = gd := ⟨_, rfl⟩
    obtain ⟨gl, hgl⟩ : ∃ gl, w.heap.size + 1 = gl := ⟨_, rfl⟩
    have HG := Aside0.mk (show w.heap.size ≤ g ∧ w.heap.size ≤ gl ∧ g ≠ gl from ⟨by omega, by omega, by omega⟩)
    rw [hg] at hZ6 ⊢
    rw [hgd] at hD6 ⊢
    rw [hgl] at hL6 ⊢
    clear hL5 hD5 hZ5 hb6 hg hgd hgl
    have l0 : w6.cell? ⟨gl, 0, none⟩ = some (.int .i64 a1_0) := (blk_cell hL6 0).trans rfl
    have l1 : w6.cell? ⟨gl, 1, none⟩ = some (.int .i64 a1_1) := (blk_cell hL6 1).trans rfl
    have l2 : w6.cell? ⟨gl, 2, none⟩ = some (.bool a1_2) := (blk_cell hL6 2).trans rfl
    have l3 : w6.cell? ⟨gl, 3, none⟩ = some (.bool a1_3) := (blk_cell hL6 3).trans rfl
    have l4 : w6.cell? ⟨gl, 4, none⟩ = some (.bool a1_4) := (blk_cell hL6 4).trans rfl
    have l5 : w6.cell? ⟨gl, 5, none⟩ = some (.int .i64 a1_5) := (blk_cell hL6 5).trans rfl
    have l6 : w6.cell? ⟨gl, 6, none⟩ = some (.string a1_6) := (blk_cell hL6 6).trans rfl
    have l7 : w6.cell? ⟨gl, 7, none⟩ = some (.bool a1_7) := (blk_cell hL6 7).trans rfl
    have l8 : w6.cell? ⟨gl, 8, none⟩ = some (.int .i64 a1_8) := (blk_cell hL6 8).trans rfl
    have lf2 := blk_frozen hL6 2
    have d0 : w6.cell? ⟨gd, 0, none⟩ = some (.int .i64 9) := (blk_cell hD6 0).trans rfl
    have z0 : w6.cell? ⟨g, 0, none⟩ = some (.int .i64 0) := (blk_cell hZ6 0).trans rfl
    have f0 := blk_frozen hZ6 0
    have z1 : w6.cell? ⟨g, 1, none⟩ = some (.int .i64 0) := (blk_cell hZ6 1).trans rfl
    have f1 := blk_frozen hZ6 1
    have z2 : w6.cell? ⟨g, 2, none⟩ = some (.bool false) := (blk_cell hZ6 2).trans rfl
    have f2 := blk_frozen hZ6 2
    have z3 : w6.cell? ⟨g, 3, none⟩ = some (.bool false) := (blk_cell hZ6 3).trans rfl
    have f3 := blk_frozen hZ6 3
    have z4 : w6.cell? ⟨g, 4, none⟩ = some (.bool false) := (blk_cell hZ6 4).trans rfl
    have f4 := blk_frozen hZ6 4
    have z5 : w6.cell? ⟨g, 5, none⟩ = some (.int .i64 0) := (blk_cell hZ6 5).trans rfl
    have f5 := blk_frozen hZ6 5
    have z6 : w6.cell? ⟨g, 6, none⟩ = some (.string (⟨#[]⟩ : ByteArray)) := (blk_cell hZ6 6).trans rfl
    have f6 := blk_frozen hZ6 6
    have z7 : w6.cell? ⟨g, 7, none⟩ = some (.bool false) := (blk_cell hZ6 7).trans rfl
    have f7 := blk_frozen hZ6 7
    have z8 : w6.cell? ⟨g, 8, none⟩ = some (.int .i64 0) := (blk_cell hZ6 8).trans rfl
    have f8 := blk_frozen hZ6 8
    have HZ := Aside0.mk hZ6
    have hne1 : g ≠ gl := HG.out.2.2
    have hne2 : gl ≠ g := fun e => hne1 e.symm
    clear hL6 hD6 hZ6
    cases may
    · have HR := Aside0.mk (set9_row HZ.out (.int .i64 a1_0) (.int .i64 a1_1) (.bool a1_2) (.bool a1_3) (.bool a1_4) (.int .i64 a1_5) (.string a1_6) (.bool a1_7) (.int .i64 a1_8))
      have HBB := Aside0.mk (set9_below HB6.out HG.out.1 (.int .i64 a1_0) (.int .i64 a1_1) (.bool a1_2) (.bool a1_3) (.bool a1_4) (.int .i64 a1_5) (.string a1_6) (.bool a1_7) (.int .i64 a1_8))
      go_wp2
      refine bodyPost_ret (results_ct rfl _ _ g 47 #[.int .i64 a1_0, .int .i64 a1_1, .bool a1_2, .bool a1_3, .bool a1_4, .int .i64 a1_5, .string a1_6, .bool a1_7, .int .i64 a1_8] (0, 0) _ rfl HR.out Try.underlying47 rfl (by kernel_rfl)) rfl ?_
      exact ⟨rfl, HBB.out⟩
    · have HR := Aside0.mk (set9_row (blk_far (p := ⟨gl, 2, none⟩) HZ.out HG.out.2.2 (.bool true)) (.int .i64 a1_0) (.int .i64 a1_1) (.bool true) (.bool a1_3) (.bool a1_4) (.int .i64 a1_5) (.string a1_6) (.bool a1_7) (.int .i64 a1_8))
      have HBB := Aside0.mk (set9_below (HB6.out.setCell (p := ⟨gl, 2, none⟩) HG.out.2.1 (.bool true)) HG.out.1 (.int .i64 a1_0) (.int .i64 a1_1) (.bool true) (.bool a1_3) (.bool a1_4) (.int .i64 a1_5) (.string a1_6) (.bool a1_7) (.int .i64 a1_8))
      go_wp2
      refine bodyPost_ret (results_ct rfl _ _ g 47 #[.int .i64 a1_0, .int .i64 a1_1, .bool true, .bool a1_3, .bool a1_4, .int .i64 a1_5, .string a1_6, .bool a1_7, .int .i64 a1_8] (0, 0) _ rfl HR.out Try.underlying47 rfl (by kernel_rfl)) rfl ?_
      exact ⟨rfl, HBB.out⟩
  · rw [if_neg hm] at h
    simp only [Option.some.injEq, Prod.mk.injEq] at h
    obtain ⟨rfl, rfl, rfl, rfl, rfl, rfl, rfl, rfl, rfl, rfl⟩ := h
    rw [hL]
    clear hL hc4_2 hr4_2 HC
    by_cases h1 : a3 = a2_1
    · subst h1
      have h2 : ¬ a4_1 = a2_2 := fun e => hm ⟨rfl, e⟩
      clear hm
      have HR := Aside0.mk (blk_new5 w (.cells #[.int .i64 a0_0, .int .i64 a0_1, .int .i64 a0_2, .int .i64 a0_3, .string a0_4, .string a0_5, .int .i64 a0_6, .int .u32 a0_7, .bool a0_8] 70) (.cells #[.int .i64 a1_0, .int .i64 a1_1, .bool a1_2, .bool a1_3, .bool a1_4, .int .i64 a1_5, .string a1_6, .bool a1_7, .int .i64 a1_8] 47) (.cells #[.int .i64 9, .int .i64 a3, .int .i64 a2_2, .string a2_3] 60) (.cells #[.int .i64 2, .int .i64 a4_1, .slice A4_2 L c4_2] 49) (.cells #[.int .i64 a1_0, .int .i64 a1_1, .bool a1_2, .bool a1_3, .bool a1_4, .int .i64 a1_5, .string a1_6, .bool a1_7, .int .i64 a1_8] 47)).2.2
      go_enter Try.func33, Try.ntmps33
      go_wp2
      refine bodyPost_ret (results_ct rfl _ _ (w.heap.size + 1 + 1 + 1 + 1) 47 #[.int .i64 a1_0, .int .i64 a1_1, .bool a1_2, .bool a1_3, .bool a1_4, .int .i64 a1_5, .string a1_6, .bool a1_7, .int .i64 a1_8] (0, 0) _ rfl HR.out Try.underlying47 rfl (by kernel_rfl)) rfl ?_
      exact ⟨rfl, below_alloc (below_alloc (below_alloc (below_alloc (below_alloc (Below.refl _ _) _) _) _) _) _⟩
    · clear hm
      have HR := Aside0.mk (blk_new5 w (.cells #[.int .i64 a0_0, .int .i64 a0_1, .int .i64 a0_2, .int .i64 a0_3, .string a0_4, .string a0_5, .int .i64 a0_6, .int .u32 a0_7, .bool a0_8] 70) (.cells #[.int .i64 a1_0, .int .i64 a1_1, .bool a1_2, .bool a1_3, .bool a1_4, .int .i64 a1_5, .string a1_6, .bool a1_7, .int .i64 a1_8] 47) (.cells #[.int .i64 9, .int .i64 a2_1, .int .i64 a2_2, .string a2_3] 60) (.cells #[.int .i64 2, .int .i64 a4_1, .slice A4_2 L c4_2] 49) (.cells #[.int .i64 a1_0, .int .i64 a1_1, .bool a1_2, .bool a1_3, .bool a1_4, .int .i64 a1_5, .string a1_6, .bool a1_7, .int .i64 a1_8] 47)).2.2
      go_enter Try.func33, Try.ntmps33
      go_wp2
      refine bodyPost_ret (results_ct rfl _ _ (w.heap.size + 1 + 1 + 1 + 1) 47 #[.int .i64 a1_0, .int .i64 a1_1, .bool a1_2, .bool a1_3, .bool a1_4, .int .i64 a1_5, .string a1_6, .bool a1_7, .int .i64 a1_8] (0, 0) _ rfl HR.out Try.underlying47 rfl (by kernel_rfl)) rfl ?_
      exact ⟨rfl, below_alloc (below_alloc (below_alloc (below_alloc (below_alloc (Below.refl _ _) _) _) _) _) _⟩
end Go.Proofs.Ytglbaeikklkghaa.AuthHand
