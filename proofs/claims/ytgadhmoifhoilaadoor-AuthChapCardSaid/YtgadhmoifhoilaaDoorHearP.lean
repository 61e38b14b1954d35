/-
  auth.Hear by hand where PAP's Ack, PAP's request or CHAP's Response comes: what the laws ask of it.
-/
import Derived.Test.YtgadhmoifhoilaaDoorAnsB
import Derived.Test.YtgadhmoifhoilaaDoorPAuthBasex1
import Derived.Test.YtgadhmoifhoilaaDoorPAuthBasex2
import Derived.Deep.RegionWith
import Derived.Deep.RegionHeld3
import Derived.Deep.DrawnRows
namespace Go.Proofs.YtgadhmoifhoilaaDoor.PAuthBase
open Go.RowKit Go.Lib Go.Proofs.YtgadhmoifhoilaaDoorW.PrintWords Go.Proofs.YtgadhmoifhoilaaDoorW.PrintLast Go.Proofs.YtgadhmoifhoilaaDoorW.PrintMore Go.Proofs.YtgadhmoifhoilaaDoor.Kit Go.Proofs.YtgadhmoifhoilaaDoor.Ans
set_option linter.unusedVariables false
set_option linter.unusedSimpArgs false
theorem blk3 (w : World) (o1 o2 o3 : Obj) : (((w.alloc o1).alloc o2).alloc o3).heap[w.heap.size]? = some o1 ∧ (((w.alloc o1).alloc o2).alloc o3).heap[w.heap.size + 1]? = some o2 ∧ (((w.alloc o1).alloc o2).alloc o3).heap[w.heap.size + 1 + 1]? = some o3 := by
 have h2 := blk_new (w.alloc o1) o2
 have h3 := blk_new ((w.alloc o1).alloc o2) o3
 simp only [World.size_alloc] at h2 h3
 exact ⟨blk_alloc (blk_alloc (blk_new w o1) _) _, blk_alloc h2 _, h3⟩
theorem set9_R {α : Type} {d : Kd α} {e : Nat} {W : World} {base : Nat} {ok : Nat → Prop} {v : Value} {xs : List α} (h : d.R e W base ok v xs) {b t : Nat} {cells : Array Value} (hb : W.heap[b]? = some (.cells cells t (0, 0))) (ht : ∀ q, q ∈ e :: d.E → q ≠ t) (v0 v1 v2 v3 v4 v5 v6 v7 v8 : Value) : d.R e (set9 W b v0 v1 v2 v3 v4 v5 v6 v7 v8) base ok v xs :=
 Kd.R_mono (Kd.R_step (Kd.R_types h hb ht) (fun k hk _ => by
  have hk := hk.2
  unfold set9
  rw [Below.heap_setCell _ _ _ k hk, Below.heap_setCell _ _ _ k hk, Below.heap_setCell _ _ _ k hk, Below.heap_setCell _ _ _ k hk, Below.heap_setCell _ _ _ k hk, Below.heap_setCell _ _ _ k hk, Below.heap_setCell _ _ _ k hk, Below.heap_setCell _ _ _ k hk, Below.heap_setCell _ _ _ k hk])) (fun _ hk => hk.1)
theorem due_ne : ∀ x, x ∈ (60 : TypeId) :: k60.E → x ≠ 50 := fun x hx => by cases hx with | head => decide | tail _ h => cases h
section
attribute [local go_sem ↓] Go.wp_at_zero Go.wp_at_succ
attribute [local go_sem high] eqA85
set_option maxRecDepth 100000 in
set_option maxHeartbeats 4000000 in
theorem hear_ack (l0 : Int) (l2 l4 : Bool) (l5 : Int) (l6 : ByteArray) (l8 pid : Int) (A : Option Addr) (c L : Nat) (i ks : Bool) (w : World) (hi : (l8 == pid) = i)
  (HSY : Aside0 (∀ W, Below w.heap.size w W → Calls Tryd.prog 50 #[.agg #[.int .i64 2, .int .i64 pid, .slice A L c]] W fun e w' => e = .returned (.bool ks) ∧ Below W.heap.size W w')) :
  Calls Tryd.prog 31 #[.agg #[.int .i64 l0, .int .i64 49187, .bool l2, .bool false, .bool l4, .int .i64 l5, .string l6, .bool true, .int .i64 l8], .int .i64 49187, .agg #[.int .i64 2, .int .i64 pid, .slice A L c]] w fun e w' => ∃ v0_ : Value, e = .returned (.tuple #[.agg #[.int .i64 l0, .int .i64 49187, .bool l2, .bool (i && ks), .bool l4, .int .i64 l5, .string l6, .bool true, .int .i64 l8], v0_]) ∧ Kd.R k60 60 w' w.heap.size (fun _ => True) v0_ [] ∧ Below w.heap.size w w' := by
 have HB := Aside0.mk (Below.refl w.heap.size w)
 go_enter Tryd.func31, Tryd.ntmps31
 go_upto_region 1 with (fail)
 (try simp only [Act.put, List.setIfInBounds_toArray, List.set_cons_zero, List.set_cons_succ])
 have yk := blk3 w (.cells #[.int .i64 l0, .int .i64 49187, .bool l2, .bool false, .bool l4, .int .i64 l5, .string l6, .bool true, .int .i64 l8] 50) (.cells #[.int .i64 2, .int .i64 pid, .slice A L c] 52) (.cells #[.int .i64 0, .int .i64 0, .bool false, .bool false, .bool false, .int .i64 0, .string (⟨#[]⟩ : ByteArray), .bool false, .int .i64 0] 50)
 have yB : Below w.heap.size w (((w.alloc (.cells #[.int .i64 l0, .int .i64 49187, .bool l2, .bool false, .bool l4, .int .i64 l5, .string l6, .bool true, .int .i64 l8] 50)).alloc (.cells #[.int .i64 2, .int .i64 pid, .slice A L c] 52)).alloc (.cells #[.int .i64 0, .int .i64 0, .bool false, .bool false, .bool false, .int .i64 0, .string (⟨#[]⟩ : ByteArray), .bool false, .int .i64 0] 50)) := (below_alloc (below_alloc (below_alloc (Below.refl _ _) _) _) _)
 generalize (((w.alloc (.cells #[.int .i64 l0, .int .i64 49187, .bool l2, .bool false, .bool l4, .int .i64 l5, .string l6, .bool true, .int .i64 l8] 50)).alloc (.cells #[.int .i64 2, .int .i64 pid, .slice A L c] 52)).alloc (.cells #[.int .i64 0, .int .i64 0, .bool false, .bool false, .bool false, .int .i64 0, .string (⟨#[]⟩ : ByteArray), .bool false, .int .i64 0] 50)) = wq at yk yB ⊢
 obtain ⟨gz, hgz⟩ : ∃ g, w.heap.size + 1 + 1 = g := ⟨_, rfl⟩
 obtain ⟨gp, hgp⟩ : ∃ g, w.heap.size + 1 = g := ⟨_, rfl⟩
 have HLZ := Aside0.mk (show gz ≠ w.heap.size from by omega)
 have HLP := Aside0.mk (show w.heap.size ≠ gp from by omega)
 have GEz := Aside0.mk (show w.heap.size ≤ gz from by omega)
 have GEl := Aside0.mk (Nat.le_refl w.heap.size)
 rw [hgz] at yk ⊢
 rw [hgp] at yk ⊢
 clear hgz hgp
 obtain ⟨yHL, yHP, yHZ⟩ := yk
 have HL := Aside0.mk yHL
 clear yHL
 have HP := Aside0.mk yHP
 clear yHP
 have HZ := Aside0.mk yHZ
 clear yHZ
 replace HB := Aside0.mk yB
 clear yB
 obtain ⟨m_0, m_1, m_2, m_3, m_4, m_5, m_6, m_7, m_8, m_f0, m_f1, m_f2, m_f3, m_f4, m_f5, m_f6, m_f7, m_f8⟩ := cells9 HL.out
 obtain ⟨p_0, p_1, p_2, p_f0, p_f1, p_f2⟩ := cells3 HP.out
 obtain ⟨z_0, z_1, z_2, z_3, z_4, z_5, z_6, z_7, z_8, z_f0, z_f1, z_f2, z_f3, z_f4, z_f5, z_f6, z_f7, z_f8⟩ := cells9 HZ.out
 cases i
 ·go_upto_region 7 with fail
  (try simp only [Act.put, List.setIfInBounds_toArray, List.set_cons_zero, List.set_cons_succ])
  have HX := Aside0.mk (set9_copy (blk_far (p := ⟨w.heap.size, 3, none⟩) HZ.out HLZ.out (.bool false)) (blk_put (cs' := #[.int .i64 l0, .int .i64 49187, .bool l2, .bool false, .bool l4, .int .i64 l5, .string l6, .bool true, .int .i64 l8]) HL.out 3 (.bool false) rfl))
  have HY := Aside0.mk (set9_copyB (HB.out.setCell (p := ⟨w.heap.size, 3, none⟩) GEl.out (.bool false)) GEz.out (blk_put (cs' := #[.int .i64 l0, .int .i64 49187, .bool l2, .bool false, .bool l4, .int .i64 l5, .string l6, .bool true, .int .i64 l8]) HL.out 3 (.bool false) rfl))
  have hne1 := HLZ.out
  have hne2 : w.heap.size ≠ gz := fun e => hne1 e.symm
  have hne3 := HLP.out
  have hne4 : gp ≠ w.heap.size := fun e => hne3 e.symm
  go_wp2_with fail
  refine bodyPost_ret (results_ct rfl _ _ gz 50 _ (0, 0) _ rfl HX.out Tryd.underlying50 rfl (by kernel_rfl)) rfl ?_
  exact ⟨_, by first | rfl | simp, Kd.R_nil _ _ _ _ _, HY.out⟩
 ·go_upto_region 7 with fail
  (try simp only [Act.put, List.setIfInBounds_toArray, List.set_cons_zero, List.set_cons_succ])
  go_wp2_with (first | (go_at_call 50; (with_reducible refine (HSY.out _ HB.out).mono ?_); rintro e wq ⟨rfl, hbn⟩; clear m_0 m_f0 m_1 m_f1 m_2 m_f2 m_3 m_f3 m_4 m_f4 m_5 m_f5 m_6 m_f6 m_7 m_f7 m_8 m_f8; clear p_0 p_f0 p_1 p_f1 p_2 p_f2; clear z_0 z_f0 z_1 z_f1 z_2 z_f2 z_3 z_f3 z_4 z_f4 z_5 z_f5 z_6 z_f6 z_7 z_f7 z_8 z_f8; replace HL := Aside0.mk (blk_below HL.out hbn); replace HP := Aside0.mk (blk_below HP.out hbn); replace HZ := Aside0.mk (blk_below HZ.out hbn); replace HB := Aside0.mk (below_step HB.out hbn); clear hbn; obtain ⟨m_0, m_1, m_2, m_3, m_4, m_5, m_6, m_7, m_8, m_f0, m_f1, m_f2, m_f3, m_f4, m_f5, m_f6, m_f7, m_f8⟩ := cells9 HL.out; obtain ⟨p_0, p_1, p_2, p_f0, p_f1, p_f2⟩ := cells3 HP.out; obtain ⟨z_0, z_1, z_2, z_3, z_4, z_5, z_6, z_7, z_8, z_f0, z_f1, z_f2, z_f3, z_f4, z_f5, z_f6, z_f7, z_f8⟩ := cells9 HZ.out; have hne1 := HLZ.out; have hne2 : w.heap.size ≠ gz := fun e => hne1 e.symm; have hne3 := HLP.out; have hne4 : gp ≠ w.heap.size := fun e => hne3 e.symm))
  have HX := Aside0.mk (set9_copy (blk_far (p := ⟨w.heap.size, 3, none⟩) HZ.out HLZ.out (.bool ks)) (blk_put (cs' := #[.int .i64 l0, .int .i64 49187, .bool l2, .bool ks, .bool l4, .int .i64 l5, .string l6, .bool true, .int .i64 l8]) HL.out 3 (.bool ks) rfl))
  have HY := Aside0.mk (set9_copyB (HB.out.setCell (p := ⟨w.heap.size, 3, none⟩) GEl.out (.bool ks)) GEz.out (blk_put (cs' := #[.int .i64 l0, .int .i64 49187, .bool l2, .bool ks, .bool l4, .int .i64 l5, .string l6, .bool true, .int .i64 l8]) HL.out 3 (.bool ks) rfl))
  refine bodyPost_ret (results_ct rfl _ _ gz 50 _ (0, 0) _ rfl HX.out Tryd.underlying50 rfl (by kernel_rfl)) rfl ?_
  exact ⟨_, by first | rfl | simp, Kd.R_nil _ _ _ _ _, HY.out⟩
set_option maxRecDepth 100000 in
set_option maxHeartbeats 4000000 in
theorem hear_req (l1 : Int) (l2 l3 l4 : Bool) (l5 : Int) (l6 : ByteArray) (l7 : Bool) (l8 pid : Int) (A : Option Addr) (c L : Nat) (D : List S60) (t : Bool) (w : World) (ht : (l1 == 49187) = t)
  (HAS : Aside0 (∀ W, Below w.heap.size w W → Calls Tryd.prog 48 #[.agg #[.int .i64 1, .int .i64 pid, .slice A L c]] W fun e w' => e = .returned (.bool true) ∧ Below W.heap.size W w'))
  (HOW : Aside0 (∀ W, Below w.heap.size w W → Calls Tryd.prog 49 #[.int .i64 9, .int .i64 49187, .agg #[.int .i64 1, .int .i64 pid, .slice A L c], .slice none 0 0] W fun e w' => ∃ v0_ : Value, e = .returned v0_ ∧ Kd.R k60 60 w' W.heap.size (fun _ => True) v0_ D ∧ Below W.heap.size W w')) :
  Calls Tryd.prog 31 #[.agg #[.int .i64 49187, .int .i64 l1, .bool l2, .bool l3, .bool l4, .int .i64 l5, .string l6, .bool l7, .int .i64 l8], .int .i64 49187, .agg #[.int .i64 1, .int .i64 pid, .slice A L c]] w fun e w' => ∃ v0_ : Value, e = .returned (.tuple #[.agg #[.int .i64 49187, .int .i64 l1, .bool l2, .bool l3, .bool l4, .int .i64 l5, .string l6, .bool l7, .int .i64 l8], v0_]) ∧ Kd.R k60 60 w' w.heap.size (fun _ => True) v0_ D ∧ Below w.heap.size w w' := by
 have HB := Aside0.mk (Below.refl w.heap.size w)
 go_enter Tryd.func31, Tryd.ntmps31
 go_upto_region 1 with (fail)
 (try simp only [Act.put, List.setIfInBounds_toArray, List.set_cons_zero, List.set_cons_succ])
 have yk := blk3 w (.cells #[.int .i64 49187, .int .i64 l1, .bool l2, .bool l3, .bool l4, .int .i64 l5, .string l6, .bool l7, .int .i64 l8] 50) (.cells #[.int .i64 1, .int .i64 pid, .slice A L c] 52) (.cells #[.int .i64 0, .int .i64 0, .bool false, .bool false, .bool false, .int .i64 0, .string (⟨#[]⟩ : ByteArray), .bool false, .int .i64 0] 50)
 have yB : Below w.heap.size w (((w.alloc (.cells #[.int .i64 49187, .int .i64 l1, .bool l2, .bool l3, .bool l4, .int .i64 l5, .string l6, .bool l7, .int .i64 l8] 50)).alloc (.cells #[.int .i64 1, .int .i64 pid, .slice A L c] 52)).alloc (.cells #[.int .i64 0, .int .i64 0, .bool false, .bool false, .bool false, .int .i64 0, .string (⟨#[]⟩ : ByteArray), .bool false, .int .i64 0] 50)) := (below_alloc (below_alloc (below_alloc (Below.refl _ _) _) _) _)
 generalize (((w.alloc (.cells #[.int .i64 49187, .int .i64 l1, .bool l2, .bool l3, .bool l4, .int .i64 l5, .string l6, .bool l7, .int .i64 l8] 50)).alloc (.cells #[.int .i64 1, .int .i64 pid, .slice A L c] 52)).alloc (.cells #[.int .i64 0, .int .i64 0, .bool false, .bool false, .bool false, .int .i64 0, .string (⟨#[]⟩ : ByteArray), .bool false, .int .i64 0] 50)) = wq at yk yB ⊢
 obtain ⟨gz, hgz⟩ : ∃ g, w.heap.size + 1 + 1 = g := ⟨_, rfl⟩
 obtain ⟨gp, hgp⟩ : ∃ g, w.heap.size + 1 = g := ⟨_, rfl⟩
 have HLZ := Aside0.mk (show gz ≠ w.heap.size from by omega)
 have HLP := Aside0.mk (show w.heap.size ≠ gp from by omega)
 have GEz := Aside0.mk (show w.heap.size ≤ gz from by omega)
 have GEl := Aside0.mk (Nat.le_refl w.heap.size)
 rw [hgz] at yk ⊢
 rw [hgp] at yk ⊢
 clear hgz hgp
 obtain ⟨yHL, yHP, yHZ⟩ := yk
 have HL := Aside0.mk yHL
 clear yHL
 have HP := Aside0.mk yHP
 clear yHP
 have HZ := Aside0.mk yHZ
 clear yHZ
 replace HB := Aside0.mk yB
 clear yB
 obtain ⟨m_0, m_1, m_2, m_3, m_4, m_5, m_6, m_7, m_8, m_f0, m_f1, m_f2, m_f3, m_f4, m_f5, m_f6, m_f7, m_f8⟩ := cells9 HL.out
 obtain ⟨p_0, p_1, p_2, p_f0, p_f1, p_f2⟩ := cells3 HP.out
 obtain ⟨z_0, z_1, z_2, z_3, z_4, z_5, z_6, z_7, z_8, z_f0, z_f1, z_f2, z_f3, z_f4, z_f5, z_f6, z_f7, z_f8⟩ := cells9 HZ.out
 go_cut [8] (fun v8 wc => (∃ b : Bool, v8 = .bool b) ∧ wq = wc)
 case first =>
  cases t <;> cases l7
  all_goals go_wp2_with fail
  all_goals go_meet
  all_goals (case rel => exact ⟨⟨_, rfl⟩, rfl⟩)
 obtain ⟨⟨b8, rfl⟩, rfl⟩ := hcut
 clear ht
 go_upto_region 5 with (first | (go_at_call 48; (with_reducible refine (HAS.out _ HB.out).mono ?_); rintro e wq ⟨rfl, hbn⟩; clear m_0 m_f0 m_1 m_f1 m_2 m_f2 m_3 m_f3 m_4 m_f4 m_5 m_f5 m_6 m_f6 m_7 m_f7 m_8 m_f8; clear p_0 p_f0 p_1 p_f1 p_2 p_f2; clear z_0 z_f0 z_1 z_f1 z_2 z_f2 z_3 z_f3 z_4 z_f4 z_5 z_f5 z_6 z_f6 z_7 z_f7 z_8 z_f8; replace HL := Aside0.mk (blk_below HL.out hbn); replace HP := Aside0.mk (blk_below HP.out hbn); replace HZ := Aside0.mk (blk_below HZ.out hbn); replace HB := Aside0.mk (below_step HB.out hbn); clear hbn; obtain ⟨m_0, m_1, m_2, m_3, m_4, m_5, m_6, m_7, m_8, m_f0, m_f1, m_f2, m_f3, m_f4, m_f5, m_f6, m_f7, m_f8⟩ := cells9 HL.out; obtain ⟨p_0, p_1, p_2, p_f0, p_f1, p_f2⟩ := cells3 HP.out; obtain ⟨z_0, z_1, z_2, z_3, z_4, z_5, z_6, z_7, z_8, z_f0, z_f1, z_f2, z_f3, z_f4, z_f5, z_f6, z_f7, z_f8⟩ := cells9 HZ.out))
 (try simp only [Act.put, List.setIfInBounds_toArray, List.set_cons_zero, List.set_cons_succ])
 have HLd := Aside0.mk (blk_drew HL.out)
 have HPd := Aside0.mk (blk_drew HP.out)
 have HZd := Aside0.mk (blk_drew HZ.out)
 have HBd := Aside0.mk (below_drew1 HB.out)
 refine start_ (n := 6) (S := fun w' => w'.cell? ⟨w.heap.size, 0, none⟩ = some (.int .i64 49187) ∧ w'.cell? ⟨w.heap.size, 1, none⟩ = some (.int .i64 l1) ∧ w'.cell? ⟨w.heap.size, 2, none⟩ = some (.bool l2) ∧ w'.cell? ⟨w.heap.size, 3, none⟩ = some (.bool l3) ∧ w'.cell? ⟨w.heap.size, 4, none⟩ = some (.bool l4) ∧ w'.cell? ⟨w.heap.size, 5, none⟩ = some (.int .i64 l5) ∧ w'.cell? ⟨w.heap.size, 6, none⟩ = some (.string l6) ∧ w'.cell? ⟨w.heap.size, 7, none⟩ = some (.bool l7) ∧ w'.cell? ⟨w.heap.size, 8, none⟩ = some (.int .i64 l8) ∧ w'.cell? ⟨gp, 0, none⟩ = some (.int .i64 1) ∧ w'.cell? ⟨gp, 1, none⟩ = some (.int .i64 pid) ∧ w'.cell? ⟨gp, 2, none⟩ = some (.slice A L c)) (ds := [4]) #[false, false, false, false, false, false] (by kernel_rfl) rfl rfl ⟨((blk_cell HL.out 0).trans rfl), ((blk_cell HL.out 1).trans rfl), ((blk_cell HL.out 2).trans rfl), ((blk_cell HL.out 3).trans rfl), ((blk_cell HL.out 4).trans rfl), ((blk_cell HL.out 5).trans rfl), ((blk_cell HL.out 6).trans rfl), ((blk_cell HL.out 7).trans rfl), ((blk_cell HL.out 8).trans rfl), ((blk_cell HP.out 0).trans rfl), ((blk_cell HP.out 1).trans rfl), ((blk_cell HP.out 2).trans rfl)⟩ (fun hHeld => ?_)
 generalize wq.drew = wd at HLd HPd HZd HBd hHeld ⊢
 refine pure_ (i := 1) (N := some 43) (v := ?_) (a' := ?_) #[false, true, false, false, false, false] rfl rfl (by kernel_rfl) (fun _ _ _ h => h) (Or.inl ⟨by rfl, ?_⟩) ?_ ?_
 rotate_left
 ·intro w'
  go_simp
  with_reducible rfl
 rotate_left
 ·simp only [Act.put, List.setIfInBounds_toArray, List.set_cons_zero, List.set_cons_succ, i64_w, i32_w]
  rfl
 refine take_ (i := 0) (N := some 42) (v := ?_) (a' := ?_) #[true, true, false, false, false, false] rfl rfl (by kernel_rfl) (fun _ _ _ h => h) (Or.inl ⟨by rfl, ?_⟩) hHeld ?_ ?_
 rotate_left
 ·rintro w' ⟨s0, s1, s2, s3, s4, s5, s6, s7, s8, s9, s10, s11⟩
  go_simp
  with_reducible rfl
 rotate_left
 ·simp only [Act.put, List.setIfInBounds_toArray, List.set_cons_zero, List.set_cons_succ, i64_w, i32_w]
  rfl
 refine take_ (i := 2) (N := some 44) (v := ?_) (a' := ?_) #[true, true, true, false, false, false] rfl rfl (by kernel_rfl) (fun _ _ _ h => h) (Or.inl ⟨by rfl, ?_⟩) hHeld ?_ ?_
 rotate_left
 ·rintro w' ⟨s0, s1, s2, s3, s4, s5, s6, s7, s8, s9, s10, s11⟩
  go_simp
  with_reducible rfl
 rotate_left
 ·simp only [Act.put, List.setIfInBounds_toArray, List.set_cons_zero, List.set_cons_succ, i64_w, i32_w]
  rfl
 refine one_ (i := 3) (N := some 45) #[true, true, true, true, false, false] rfl rfl (by kernel_rfl) (by decide) (fun K hK => ?_)
 refine goes_ Tryd.func49 (by kernel_rfl) rfl #[.int .i64 9, .int .i64 49187, .agg #[.int .i64 1, .int .i64 pid, .slice A L c], .slice none 0 0] (by rfl) rfl rfl (by simp only [List.map_toArray, List.map_cons, List.map_nil]; rfl) ?_
 with_reducible refine (HOW.out wd HBd.out).mono ?_
 rintro e wz ⟨v0_, rfl, hr, hbn⟩
 refine ⟨_, rfl, ?_⟩
 have HLz := Aside0.mk (blk_below HLd.out hbn)
 have HPz := Aside0.mk (blk_below HPd.out hbn)
 have HZz := Aside0.mk (blk_below HZd.out hbn)
 have HRz := Aside0.mk (Kd.R_lower hr (below_size HBd.out))
 have HBz := Aside0.mk (below_step HBd.out hbn)
 clear hbn hr
 refine hK.out _ _ ⟨((blk_cell HLz.out 0).trans rfl), ((blk_cell HLz.out 1).trans rfl), ((blk_cell HLz.out 2).trans rfl), ((blk_cell HLz.out 3).trans rfl), ((blk_cell HLz.out 4).trans rfl), ((blk_cell HLz.out 5).trans rfl), ((blk_cell HLz.out 6).trans rfl), ((blk_cell HLz.out 7).trans rfl), ((blk_cell HLz.out 8).trans rfl), ((blk_cell HPz.out 0).trans rfl), ((blk_cell HPz.out 1).trans rfl), ((blk_cell HPz.out 2).trans rfl)⟩ (fun hHeld => ?_)
 clear hK K
 refine norm_ (a' := ?_) ?_ ?_
 rotate_left
 ·show Act.put _ (some 45) _ = _
  simp only [Act.put, List.setIfInBounds_toArray, List.set_cons_zero, List.set_cons_succ, i64_w, i32_w]
  rfl
 refine last_ (i := 4) (N := none) #[true, true, true, true, true, false] rfl rfl (by kernel_rfl) (by decide) (fun K hK => ?_)
 obtain ⟨u0_, u1_, u2_, u3_, u4_, u5_, u6_, u7_, u8_, uf0_, uf1_, uf2_, uf3_, uf4_, uf5_, uf6_, uf7_, uf8_⟩ := cells9 HZz.out
 refine skip_ (w1 := ?_) (by rfl) rfl ?_ ?_
 rotate_left
 ·go_simp
  rfl
 refine hK.out _ _ ?_
 clear hK K
 refine pure_ (i := 5) (N := some 7) (v := ?_) (a' := ?_) #[true, true, true, true, true, true] rfl rfl (by kernel_rfl) (fun _ _ _ h => h) (Or.inl ⟨by rfl, ?_⟩) ?_ ?_
 rotate_left
 ·intro w'
  go_simp
  with_reducible rfl
 rotate_left
 ·simp only [Act.put, List.setIfInBounds_toArray, List.set_cons_zero, List.set_cons_succ, i64_w, i32_w]
  rfl
 refine done_ (by kernel_rfl) ?_
 have HX := Aside0.mk (set9_copy HZz.out HLz.out)
 have HY := Aside0.mk (set9_copyB HBz.out GEz.out HLz.out)
 have HW := Aside0.mk (set9_R HRz.out HZz.out due_ne (.int .i64 49187) (.int .i64 l1) (.bool l2) (.bool l3) (.bool l4) (.int .i64 l5) (.string l6) (.bool l7) (.int .i64 l8))
 try go_wp2
 refine bodyPost_ret (results_ct rfl _ _ gz 50 _ (0, 0) _ rfl HX.out Tryd.underlying50 rfl (by kernel_rfl)) rfl ?_
 exact ⟨_, rfl, HW.out, HY.out⟩
set_option maxRecDepth 100000 in
set_option maxHeartbeats 4000000 in
theorem hear_resp (l1 : Int) (l2 l3 l4 : Bool) (l5 : Int) (l6 : ByteArray) (l7 : Bool) (l8 pid : Int) (A : Option Addr) (c L : Nat) (tv : List Int) (T : Nat) (D : List S60) (t vk i n : Bool) (w : World) (ht : (l1 == 49699) = t) (hi : (l5 == pid) = i) (hn : ((T : Int) == 16) = n) (HT : Aside0 (tv.length = T))
  (HV : Aside0 (∀ W, Below w.heap.size w W → Calls Tryd.prog 47 #[.agg #[.int .i64 2, .int .i64 pid, .slice A L c]] W fun e w' => ∃ v0_ : Value, e = .returned (.tuple #[v0_, .bool vk]) ∧ Kd.R (Kd.int .u8) 5 w' W.heap.size (fun _ => True) v0_ tv ∧ Below W.heap.size W w'))
  (HOW : Aside0 (∀ W A3 c3, Below w.heap.size w W → (Kd.int .u8).C W A3 T tv → T ≤ c3 → Calls Tryd.prog 49 #[.int .i64 10, .int .i64 49699, .agg #[.int .i64 2, .int .i64 pid, .slice A L c], .slice A3 T c3] W fun e w' => ∃ v0_ : Value, e = .returned v0_ ∧ Kd.R k60 60 w' W.heap.size (fun _ => True) v0_ D ∧ Below W.heap.size W w')) :
  Calls Tryd.prog 31 #[.agg #[.int .i64 49699, .int .i64 l1, .bool l2, .bool l3, .bool l4, .int .i64 l5, .string l6, .bool l7, .int .i64 l8], .int .i64 49699, .agg #[.int .i64 2, .int .i64 pid, .slice A L c]] w fun e w' => ∃ v0_ : Value, e = .returned (.tuple #[.agg #[.int .i64 49699, .int .i64 l1, .bool l2, .bool l3, .bool l4, .int .i64 l5, .string l6, .bool l7, .int .i64 l8], v0_]) ∧ Kd.R k60 60 w' w.heap.size (fun _ => True) v0_ (if (vk && l4 && i && n) = true then D else []) ∧ Below w.heap.size w w' := by
 have HB := Aside0.mk (Below.refl w.heap.size w)
 go_enter Tryd.func31, Tryd.ntmps31
 go_upto_region 1 with (fail)
 (try simp only [Act.put, List.setIfInBounds_toArray, List.set_cons_zero, List.set_cons_succ])
 have yk := blk3 w (.cells #[.int .i64 49699, .int .i64 l1, .bool l2, .bool l3, .bool l4, .int .i64 l5, .string l6, .bool l7, .int .i64 l8] 50) (.cells #[.int .i64 2, .int .i64 pid, .slice A L c] 52) (.cells #[.int .i64 0, .int .i64 0, .bool false, .bool false, .bool false, .int .i64 0, .string (⟨#[]⟩ : ByteArray), .bool false, .int .i64 0] 50)
 have yB : Below w.heap.size w (((w.alloc (.cells #[.int .i64 49699, .int .i64 l1, .bool l2, .bool l3, .bool l4, .int .i64 l5, .string l6, .bool l7, .int .i64 l8] 50)).alloc (.cells #[.int .i64 2, .int .i64 pid, .slice A L c] 52)).alloc (.cells #[.int .i64 0, .int .i64 0, .bool false, .bool false, .bool false, .int .i64 0, .string (⟨#[]⟩ : ByteArray), .bool false, .int .i64 0] 50)) := (below_alloc (below_alloc (below_alloc (Below.refl _ _) _) _) _)
 generalize (((w.alloc (.cells #[.int .i64 49699, .int .i64 l1, .bool l2, .bool l3, .bool l4, .int .i64 l5, .string l6, .bool l7, .int .i64 l8] 50)).alloc (.cells #[.int .i64 2, .int .i64 pid, .slice A L c] 52)).alloc (.cells #[.int .i64 0, .int .i64 0, .bool false, .bool false, .bool false, .int .i64 0, .string (⟨#[]⟩ : ByteArray), .bool false, .int .i64 0] 50)) = wq at yk yB ⊢
 obtain ⟨gz, hgz⟩ : ∃ g, w.heap.size + 1 + 1 = g := ⟨_, rfl⟩
 obtain ⟨gp, hgp⟩ : ∃ g, w.heap.size + 1 = g := ⟨_, rfl⟩
 have HLZ := Aside0.mk (show gz ≠ w.heap.size from by omega)
 have HLP := Aside0.mk (show w.heap.size ≠ gp from by omega)
 have GEz := Aside0.mk (show w.heap.size ≤ gz from by omega)
 have GEl := Aside0.mk (Nat.le_refl w.heap.size)
 rw [hgz] at yk ⊢
 rw [hgp] at yk ⊢
 clear hgz hgp
 obtain ⟨yHL, yHP, yHZ⟩ := yk
 have HL := Aside0.mk yHL
 clear yHL
 have HP := Aside0.mk yHP
 clear yHP
 have HZ := Aside0.mk yHZ
 clear yHZ
 replace HB := Aside0.mk yB
 clear yB
 obtain ⟨m_0, m_1, m_2, m_3, m_4, m_5, m_6, m_7, m_8, m_f0, m_f1, m_f2, m_f3, m_f4, m_f5, m_f6, m_f7, m_f8⟩ := cells9 HL.out
 obtain ⟨p_0, p_1, p_2, p_f0, p_f1, p_f2⟩ := cells3 HP.out
 obtain ⟨z_0, z_1, z_2, z_3, z_4, z_5, z_6, z_7, z_8, z_f0, z_f1, z_f2, z_f3, z_f4, z_f5, z_f6, z_f7, z_f8⟩ := cells9 HZ.out
 go_cut [8] (fun v8 wc => (∃ b : Bool, v8 = .bool b) ∧ wq = wc)
 case first =>
  cases t <;> cases l7
  all_goals go_wp2_with fail
  all_goals go_meet
  all_goals (case rel => exact ⟨⟨_, rfl⟩, rfl⟩)
 obtain ⟨⟨b8, rfl⟩, rfl⟩ := hcut
 clear ht
 go_upto_region 16 with (first | (go_at_call 47; (with_reducible refine (HV.out _ HB.out).mono ?_); rintro e wq ⟨v11, rfl, hr, hbn⟩; clear m_0 m_f0 m_1 m_f1 m_2 m_f2 m_3 m_f3 m_4 m_f4 m_5 m_f5 m_6 m_f6 m_7 m_f7 m_8 m_f8; clear p_0 p_f0 p_1 p_f1 p_2 p_f2; clear z_0 z_f0 z_1 z_f1 z_2 z_f2 z_3 z_f3 z_4 z_f4 z_5 z_f5 z_6 z_f6 z_7 z_f7 z_8 z_f8; replace HL := Aside0.mk (blk_below HL.out hbn); replace HP := Aside0.mk (blk_below HP.out hbn); replace HZ := Aside0.mk (blk_below HZ.out hbn); replace HB := Aside0.mk (below_step HB.out hbn); obtain ⟨Av, cv, eo⟩ := Kd.R_slice hr; rw [HT.out] at eo; subst eo; have HR := Aside0.mk hr; clear hr; clear hbn; obtain ⟨m_0, m_1, m_2, m_3, m_4, m_5, m_6, m_7, m_8, m_f0, m_f1, m_f2, m_f3, m_f4, m_f5, m_f6, m_f7, m_f8⟩ := cells9 HL.out; obtain ⟨p_0, p_1, p_2, p_f0, p_f1, p_f2⟩ := cells3 HP.out; obtain ⟨z_0, z_1, z_2, z_3, z_4, z_5, z_6, z_7, z_8, z_f0, z_f1, z_f2, z_f3, z_f4, z_f5, z_f6, z_f7, z_f8⟩ := cells9 HZ.out))
 (try simp only [Act.put, List.setIfInBounds_toArray, List.set_cons_zero, List.set_cons_succ])
 have HAv := Aside0.mk (by have q := (Kd.R_reads' HR.out).2.2; rw [HT.out] at q; exact q : (Kd.int .u8).C _ Av T tv)
 have hcv := (Kd.R_reads' HR.out).2.1
 clear HR HV
 cases vk
 case false =>
  have HX := Aside0.mk (set9_copy HZ.out HL.out)
  have HY := Aside0.mk (set9_copyB HB.out GEz.out HL.out)
  go_wp2_with fail
  refine bodyPost_ret (results_ct rfl _ _ gz 50 _ (0, 0) _ rfl HX.out Tryd.underlying50 rfl (by kernel_rfl)) rfl ?_
  exact ⟨_, by first | rfl | simp, Kd.R_nil _ _ _ _ _, HY.out⟩
 case true =>
  cases l4
  case false =>
   have HX := Aside0.mk (set9_copy HZ.out HL.out)
   have HY := Aside0.mk (set9_copyB HB.out GEz.out HL.out)
   go_wp2_with fail
   refine bodyPost_ret (results_ct rfl _ _ gz 50 _ (0, 0) _ rfl HX.out Tryd.underlying50 rfl (by kernel_rfl)) rfl ?_
   exact ⟨_, by first | rfl | simp, Kd.R_nil _ _ _ _ _, HY.out⟩
  case true =>
   cases i
   case false =>
    have HX := Aside0.mk (set9_copy HZ.out HL.out)
    have HY := Aside0.mk (set9_copyB HB.out GEz.out HL.out)
    go_wp2_with fail
    refine bodyPost_ret (results_ct rfl _ _ gz 50 _ (0, 0) _ rfl HX.out Tryd.underlying50 rfl (by kernel_rfl)) rfl ?_
    exact ⟨_, by first | rfl | simp, Kd.R_nil _ _ _ _ _, HY.out⟩
   case true =>
    cases n
    case false =>
     have HX := Aside0.mk (set9_copy HZ.out HL.out)
     have HY := Aside0.mk (set9_copyB HB.out GEz.out HL.out)
     go_wp2_with fail
     refine bodyPost_ret (results_ct rfl _ _ gz 50 _ (0, 0) _ rfl HX.out Tryd.underlying50 rfl (by kernel_rfl)) rfl ?_
     exact ⟨_, by first | rfl | simp, Kd.R_nil _ _ _ _ _, HY.out⟩
    case true =>
     go_upto_region 17 with fail
     (try simp only [Act.put, List.setIfInBounds_toArray, List.set_cons_zero, List.set_cons_succ])
     have HLd := Aside0.mk (blk_drew HL.out)
     have HPd := Aside0.mk (blk_drew HP.out)
     have HZd := Aside0.mk (blk_drew HZ.out)
     have HBd := Aside0.mk (below_drew1 HB.out)
     have HAvd := Aside0.mk (show (Kd.int .u8).C wq.drew Av T tv from HAv.out)
     refine start_ (n := 7) (S := fun w' => w'.cell? ⟨w.heap.size, 0, none⟩ = some (.int .i64 49699) ∧ w'.cell? ⟨w.heap.size, 1, none⟩ = some (.int .i64 l1) ∧ w'.cell? ⟨w.heap.size, 2, none⟩ = some (.bool l2) ∧ w'.cell? ⟨w.heap.size, 3, none⟩ = some (.bool l3) ∧ w'.cell? ⟨w.heap.size, 4, none⟩ = some (.bool true) ∧ w'.cell? ⟨w.heap.size, 5, none⟩ = some (.int .i64 l5) ∧ w'.cell? ⟨w.heap.size, 6, none⟩ = some (.string l6) ∧ w'.cell? ⟨w.heap.size, 7, none⟩ = some (.bool l7) ∧ w'.cell? ⟨w.heap.size, 8, none⟩ = some (.int .i64 l8) ∧ w'.cell? ⟨gp, 0, none⟩ = some (.int .i64 2) ∧ w'.cell? ⟨gp, 1, none⟩ = some (.int .i64 pid) ∧ w'.cell? ⟨gp, 2, none⟩ = some (.slice A L c)) (ds := [5]) #[false, false, false, false, false, false, false] (by kernel_rfl) rfl rfl ⟨((blk_cell HL.out 0).trans rfl), ((blk_cell HL.out 1).trans rfl), ((blk_cell HL.out 2).trans rfl), ((blk_cell HL.out 3).trans rfl), ((blk_cell HL.out 4).trans rfl), ((blk_cell HL.out 5).trans rfl), ((blk_cell HL.out 6).trans rfl), ((blk_cell HL.out 7).trans rfl), ((blk_cell HL.out 8).trans rfl), ((blk_cell HP.out 0).trans rfl), ((blk_cell HP.out 1).trans rfl), ((blk_cell HP.out 2).trans rfl)⟩ (fun hHeld => ?_)
     generalize wq.drew = wd at HLd HPd HZd HBd HAvd hHeld ⊢
     refine pure_ (i := 1) (N := some 123) (v := ?_) (a' := ?_) #[false, true, false, false, false, false, false] rfl rfl (by kernel_rfl) (fun _ _ _ h => h) (Or.inl ⟨by rfl, ?_⟩) ?_ ?_
     rotate_left
     ·intro w'
      go_simp
      with_reducible rfl
     rotate_left
     ·simp only [Act.put, List.setIfInBounds_toArray, List.set_cons_zero, List.set_cons_succ, i64_w, i32_w]
      rfl
     refine pure_ (i := 3) (N := some 125) (v := ?_) (a' := ?_) #[false, true, false, true, false, false, false] rfl rfl (by kernel_rfl) (fun _ _ _ h => h) (Or.inl ⟨by rfl, ?_⟩) ?_ ?_
     rotate_left
     ·intro w'
      go_simp
      with_reducible rfl
     rotate_left
     ·simp only [Act.put, List.setIfInBounds_toArray, List.set_cons_zero, List.set_cons_succ, i64_w, i32_w]
      rfl
     refine take_ (i := 0) (N := some 122) (v := ?_) (a' := ?_) #[true, true, false, true, false, false, false] rfl rfl (by kernel_rfl) (fun _ _ _ h => h) (Or.inl ⟨by rfl, ?_⟩) hHeld ?_ ?_
     rotate_left
     ·rintro w' ⟨s0, s1, s2, s3, s4, s5, s6, s7, s8, s9, s10, s11⟩
      go_simp
      with_reducible rfl
     rotate_left
     ·simp only [Act.put, List.setIfInBounds_toArray, List.set_cons_zero, List.set_cons_succ, i64_w, i32_w]
      rfl
     refine take_ (i := 2) (N := some 124) (v := ?_) (a' := ?_) #[true, true, true, true, false, false, false] rfl rfl (by kernel_rfl) (fun _ _ _ h => h) (Or.inl ⟨by rfl, ?_⟩) hHeld ?_ ?_
     rotate_left
     ·rintro w' ⟨s0, s1, s2, s3, s4, s5, s6, s7, s8, s9, s10, s11⟩
      go_simp
      with_reducible rfl
     rotate_left
     ·simp only [Act.put, List.setIfInBounds_toArray, List.set_cons_zero, List.set_cons_succ, i64_w, i32_w]
      rfl
     refine one_ (i := 4) (N := some 126) #[true, true, true, true, true, false, false] rfl rfl (by kernel_rfl) (by decide) (fun K hK => ?_)
     refine goes_ Tryd.func49 (by kernel_rfl) rfl #[.int .i64 10, .int .i64 49699, .agg #[.int .i64 2, .int .i64 pid, .slice A L c], .slice Av T cv] (by rfl) rfl rfl (by simp only [List.map_toArray, List.map_cons, List.map_nil]; rfl) ?_
     with_reducible refine (HOW.out wd Av cv HBd.out HAvd.out hcv).mono ?_
     rintro e wz ⟨v0_, rfl, hr, hbn⟩
     refine ⟨_, rfl, ?_⟩
     have HLz := Aside0.mk (blk_below HLd.out hbn)
     have HPz := Aside0.mk (blk_below HPd.out hbn)
     have HZz := Aside0.mk (blk_below HZd.out hbn)
     have HRz := Aside0.mk (Kd.R_lower hr (below_size HBd.out))
     have HBz := Aside0.mk (below_step HBd.out hbn)
     clear hbn hr
     refine hK.out _ _ ⟨((blk_cell HLz.out 0).trans rfl), ((blk_cell HLz.out 1).trans rfl), ((blk_cell HLz.out 2).trans rfl), ((blk_cell HLz.out 3).trans rfl), ((blk_cell HLz.out 4).trans rfl), ((blk_cell HLz.out 5).trans rfl), ((blk_cell HLz.out 6).trans rfl), ((blk_cell HLz.out 7).trans rfl), ((blk_cell HLz.out 8).trans rfl), ((blk_cell HPz.out 0).trans rfl), ((blk_cell HPz.out 1).trans rfl), ((blk_cell HPz.out 2).trans rfl)⟩ (fun hHeld => ?_)
     clear hK K
     refine norm_ (a' := ?_) ?_ ?_
     rotate_left
     ·show Act.put _ (some 126) _ = _
      simp only [Act.put, List.setIfInBounds_toArray, List.set_cons_zero, List.set_cons_succ, i64_w, i32_w]
      rfl
     refine last_ (i := 5) (N := none) #[true, true, true, true, true, true, false] rfl rfl (by kernel_rfl) (by decide) (fun K hK => ?_)
     obtain ⟨u0_, u1_, u2_, u3_, u4_, u5_, u6_, u7_, u8_, uf0_, uf1_, uf2_, uf3_, uf4_, uf5_, uf6_, uf7_, uf8_⟩ := cells9 HZz.out
     refine skip_ (w1 := ?_) (by rfl) rfl ?_ ?_
     rotate_left
     ·go_simp
      rfl
     refine hK.out _ _ ?_
     clear hK K
     refine pure_ (i := 6) (N := some 7) (v := ?_) (a' := ?_) #[true, true, true, true, true, true, true] rfl rfl (by kernel_rfl) (fun _ _ _ h => h) (Or.inl ⟨by rfl, ?_⟩) ?_ ?_
     rotate_left
     ·intro w'
      go_simp
      with_reducible rfl
     rotate_left
     ·simp only [Act.put, List.setIfInBounds_toArray, List.set_cons_zero, List.set_cons_succ, i64_w, i32_w]
      rfl
     refine done_ (by kernel_rfl) ?_
     have HX := Aside0.mk (set9_copy HZz.out HLz.out)
     have HY := Aside0.mk (set9_copyB HBz.out GEz.out HLz.out)
     have HW := Aside0.mk (set9_R HRz.out HZz.out due_ne (.int .i64 49699) (.int .i64 l1) (.bool l2) (.bool l3) (.bool true) (.int .i64 l5) (.string l6) (.bool l7) (.int .i64 l8))
     try go_wp2
     refine bodyPost_ret (results_ct rfl _ _ gz 50 _ (0, 0) _ rfl HX.out Tryd.underlying50 rfl (by kernel_rfl)) rfl ?_
     exact ⟨_, rfl, HW.out, HY.out⟩
def auth_Hear.f (k : Nat) (a0_0 a0_1 : Int) (a0_2 a0_3 a0_4 : Bool) (a0_5 : Int) (a0_6 : ByteArray) (a0_7 : Bool) (a0_8 a1 a2_0 a2_1 : Int) (l2_2 : List Int) : Option (Int × Int × Bool × Bool × Bool × Int × ByteArray × Bool × Int × List S60) :=
 if a1 = 49187 ∧ a2_0 = 2 ∧ a0_1 = 49187 ∧ a0_3 = false ∧ a0_7 = true then (auth_say.f a2_0 a2_1 l2_2).bind fun ks => some (a0_0, a0_1, a0_2, (a0_8 == a2_1) && ks, a0_4, a0_5, a0_6, a0_7, a0_8, [])
 else if a1 = 49187 ∧ a2_0 = 1 ∧ a0_0 = 49187 then (auth_ask.f a2_0 a2_1 l2_2).bind fun ka => if ka = true then some (a0_0, a0_1, a0_2, a0_3, a0_4, a0_5, a0_6, a0_7, a0_8, [⟨9, a1, a2_1, strOfNums []⟩]) else none
 else if a1 = 49699 ∧ a2_0 = 2 ∧ a0_0 = 49699 then (auth_value.f a2_0 a2_1 l2_2).bind fun v => some (a0_0, a0_1, a0_2, a0_3, a0_4, a0_5, a0_6, a0_7, a0_8, if (v.2 && a0_4 && (a0_5 == a2_1) && ((v.1.length : Int) == 16)) = true then [⟨10, a1, a2_1, strOfNums v.1⟩] else [])
 else none
theorem auth_Hear.calls (k : Nat) (a0_0 a0_1 : Int) (a0_2 a0_3 a0_4 : Bool) (a0_5 : Int) (a0_6 : ByteArray) (a0_7 : Bool) (a0_8 a1 a2_0 a2_1 : Int) (A2_2 : Option Addr) (c2_2 : Nat) (l2_2 : List Int) (r1 r2 : Int) (r3 r4 r5 : Bool) (r6 : Int) (r7 : ByteArray) (r8 : Bool) (r9 : Int) (r10 : List S60) (w : World) (hr2_2 : Kd.C (Kd.int .u8) w A2_2 l2_2.length l2_2) (hc2_2 : l2_2.length ≤ c2_2)
  (h : auth_Hear.f k a0_0 a0_1 a0_2 a0_3 a0_4 a0_5 a0_6 a0_7 a0_8 a1 a2_0 a2_1 l2_2 = some (r1, r2, r3, r4, r5, r6, r7, r8, r9, r10)) :
  Calls Tryd.prog 31 #[.agg #[.int .i64 a0_0, .int .i64 a0_1, .bool a0_2, .bool a0_3, .bool a0_4, .int .i64 a0_5, .string a0_6, .bool a0_7, .int .i64 a0_8], .int .i64 a1, .agg #[.int .i64 a2_0, .int .i64 a2_1, .slice A2_2 l2_2.length c2_2]] w fun e w' =>
   ∃ v9_ : Value, e = .returned (.tuple #[.agg #[.int .i64 r1, .int .i64 r2, .bool r3, .bool r4, .bool r5, .int .i64 r6, .string r7, .bool r8, .int .i64 r9], v9_]) ∧ Kd.R k60 60 w' w.heap.size (fun _ => True) v9_ r10 ∧ Below w.heap.size w w' := by
 unfold auth_Hear.f at h
 split at h
 ·rename_i hc
  obtain ⟨rfl, rfl, rfl, rfl, rfl⟩ := hc
  obtain ⟨ks, hk, h2⟩ := Option.bind_eq_some_iff.1 h
  simp only [Option.some.injEq, Prod.mk.injEq] at h2
  obtain ⟨rfl, rfl, rfl, rfl, rfl, rfl, rfl, rfl, rfl, rfl⟩ := h2
  exact hear_ack a0_0 a0_2 a0_4 a0_5 a0_6 a0_8 a2_1 A2_2 c2_2 l2_2.length (a0_8 == a2_1) ks w rfl ⟨fun W hb => auth_say.calls 2 a2_1 A2_2 c2_2 l2_2 ks W (Kd.C_below hr2_2 hb) hc2_2 hk⟩
 ·split at h
  ·rename_i hc
   obtain ⟨rfl, rfl, rfl⟩ := hc
   obtain ⟨ka, hk, h2⟩ := Option.bind_eq_some_iff.1 h
   split at h2
   ·rename_i hka
    subst hka
    simp only [Option.some.injEq, Prod.mk.injEq] at h2
    obtain ⟨rfl, rfl, rfl, rfl, rfl, rfl, rfl, rfl, rfl, rfl⟩ := h2
    exact hear_req a0_1 a0_2 a0_3 a0_4 a0_5 a0_6 a0_7 a0_8 a2_1 A2_2 c2_2 l2_2.length _ (a0_1 == 49187) w rfl ⟨fun W hb => auth_ask.calls 1 a2_1 A2_2 c2_2 l2_2 true W (Kd.C_below hr2_2 hb) hc2_2 hk⟩ ⟨fun W hb => auth_owed.calls 9 49187 1 a2_1 A2_2 c2_2 l2_2 none 0 [] _ W (Kd.C_below hr2_2 hb) hc2_2 (Kd.C_nil _ _) (Nat.le_refl _) rfl⟩
   ·cases h2
  ·split at h
   ·rename_i hc
    obtain ⟨rfl, rfl, rfl⟩ := hc
    obtain ⟨⟨tv, vk⟩, hk, h2⟩ := Option.bind_eq_some_iff.1 h
    simp only [Option.some.injEq, Prod.mk.injEq] at h2
    obtain ⟨rfl, rfl, rfl, rfl, rfl, rfl, rfl, rfl, rfl, rfl⟩ := h2
    exact hear_resp a0_1 a0_2 a0_3 a0_4 a0_5 a0_6 a0_7 a0_8 a2_1 A2_2 c2_2 l2_2.length tv tv.length [⟨10, 49699, a2_1, strOfNums tv⟩] (a0_1 == 49699) vk (a0_5 == a2_1) ((tv.length : Int) == 16) w rfl rfl rfl ⟨rfl⟩ ⟨fun W hb => auth_value.calls 2 a2_1 A2_2 c2_2 l2_2 tv vk W (Kd.C_below hr2_2 hb) hc2_2 hk⟩ ⟨fun W A3 c3 hb q1 q2 => auth_owed.calls 10 49699 2 a2_1 A2_2 c2_2 l2_2 A3 c3 tv _ W (Kd.C_below hr2_2 hb) hc2_2 q1 q2 rfl⟩
   ·cases h
end
end Go.Proofs.YtgadhmoifhoilaaDoor.PAuthBase
