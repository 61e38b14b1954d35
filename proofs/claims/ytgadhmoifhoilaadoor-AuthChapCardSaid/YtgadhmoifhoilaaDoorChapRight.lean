/-
  chap.Right, umpireref17.Right by hand.
-/
import Derived.Test.YtgadhmoifhoilaaDoorChapEq
import Derived.Deep.RegionWith
namespace Go.Proofs.YtgadhmoifhoilaaDoor.Chap
open Go.RowKit Go.Lib Go.Proofs.YtgadhmoifhoilaaDoorW.PrintWords Go.Proofs.YtgadhmoifhoilaaDoorW.PrintLast Go.Proofs.YtgadhmoifhoilaaDoorW.PrintMore Go.Proofs.YtgadhmoifhoilaaDoor.Kit Go.Proofs.YtgadhmoifhoilaaDoor.Md5
set_option linter.unusedVariables false
set_option linter.unusedSimpArgs false
theorem digest_cells {s : St} {o0 o1 o2 o3 o4 o5 o6 o7 o8 o9 o10 o11 o12 o13 o14 o15 : Int} (h : s.out = #[.int .u8 o0, .int .u8 o1, .int .u8 o2, .int .u8 o3, .int .u8 o4, .int .u8 o5, .int .u8 o6, .int .u8 o7, .int .u8 o8, .int .u8 o9, .int .u8 o10, .int .u8 o11, .int .u8 o12, .int .u8 o13, .int .u8 o14, .int .u8 o15]) : digest s = [o0, o1, o2, o3, o4, o5, o6, o7, o8, o9, o10, o11, o12, o13, o14, o15] := by
 have h1 : s.out.toList = (digest s).map (Value.int .u8) := by unfold St.out; simp
 rw [h] at h1
 have h2 : ([o0, o1, o2, o3, o4, o5, o6, o7, o8, o9, o10, o11, o12, o13, o14, o15].map (Value.int .u8)) = (digest s).map (Value.int .u8) := h1
 exact (List.map_inj_right (fun a b e => by injection e)).1 h2.symm
theorem cells16 {W : World} {ad : Addr} {x0 x1 x2 x3 x4 x5 x6 x7 x8 x9 x10 x11 x12 x13 x14 x15 : Int} (hC : (Kd.int .u8).C W (some ad) 16 [x0, x1, x2, x3, x4, x5, x6, x7, x8, x9, x10, x11, x12, x13, x14, x15]) : W.cell? ad = some (.int .u8 x0) ∧ W.cell? ⟨ad.block, ad.off + 1, none⟩ = some (.int .u8 x1) ∧ W.cell? ⟨ad.block, ad.off + 2, none⟩ = some (.int .u8 x2) ∧ W.cell? ⟨ad.block, ad.off + 3, none⟩ = some (.int .u8 x3) ∧ W.cell? ⟨ad.block, ad.off + 4, none⟩ = some (.int .u8 x4) ∧ W.cell? ⟨ad.block, ad.off + 5, none⟩ = some (.int .u8 x5) ∧ W.cell? ⟨ad.block, ad.off + 6, none⟩ = some (.int .u8 x6) ∧ W.cell? ⟨ad.block, ad.off + 7, none⟩ = some (.int .u8 x7) ∧ W.cell? ⟨ad.block, ad.off + 8, none⟩ = some (.int .u8 x8) ∧ W.cell? ⟨ad.block, ad.off + 9, none⟩ = some (.int .u8 x9) ∧ W.cell? ⟨ad.block, ad.off + 10, none⟩ = some (.int .u8 x10) ∧ W.cell? ⟨ad.block, ad.off + 11, none⟩ = some (.int .u8 x11) ∧ W.cell? ⟨ad.block, ad.off + 12, none⟩ = some (.int .u8 x12) ∧ W.cell? ⟨ad.block, ad.off + 13, none⟩ = some (.int .u8 x13) ∧ W.cell? ⟨ad.block, ad.off + 14, none⟩ = some (.int .u8 x14) ∧ W.cell? ⟨ad.block, ad.off + 15, none⟩ = some (.int .u8 x15) := by
 have hr := Kd.reads_of_C (enc := Value.int .u8) (d := (0 : Int)) (h1 := fun _ => rfl) hC
 obtain ⟨ad', e, hc⟩ := hr.2.2 (by decide)
 cases e
 exact ⟨hc 0 (by decide), hc 1 (by decide), hc 2 (by decide), hc 3 (by decide), hc 4 (by decide), hc 5 (by decide), hc 6 (by decide), hc 7 (by decide), hc 8 (by decide), hc 9 (by decide), hc 10 (by decide), hc 11 (by decide), hc 12 (by decide), hc 13 (by decide), hc 14 (by decide), hc 15 (by decide)⟩
set_option maxRecDepth 100000 in
set_option maxHeartbeats 8000000 in
theorem right_calls (id : Int) (s : ByteArray) (A : Option Addr) (c : Nat) (l : List Int) (A2 : Option Addr) (c2 : Nat) (a : List Int) (w : World) (hC : (Kd.int .u8).C w A l.length l) (hc : l.length ≤ c) (hB : isB l = true) (hs : s.size ≤ 100000) (hl : l.length ≤ 100000) (hC2 : (Kd.int .u8).C w A2 a.length a) (hc2 : a.length ≤ c2)  :
  Calls Tryd.prog 24 #[.int .i64 id, .string s, .slice A l.length c, .slice A2 a.length c2] w fun e w' => e = .returned (.bool (rightF id s l a)) ∧ Below w.heap.size w w' := by
 have HC2 := Aside0.mk hC2
 obtain ⟨o0, o1, o2, o3, o4, o5, o6, o7, o8, o9, o10, o11, o12, o13, o14, o15, hO⟩ := out_cells (ansOf id s l)
 have hD := digest_cells hO
 have HRF := Aside0.mk (show rightF id s l a = decide (a = [o0, o1, o2, o3, o4, o5, o6, o7, o8, o9, o10, o11, o12, o13, o14, o15]) by unfold rightF; rw [hD])
 rw [HRF.out]
 have HAN := Aside0.mk (show ∀ W, Below w.heap.size w W → Calls Tryd.prog 22 #[.int .i64 id, .string s, .slice A l.length c] W fun e w' => e = .returned (.agg #[.int .u8 o0, .int .u8 o1, .int .u8 o2, .int .u8 o3, .int .u8 o4, .int .u8 o5, .int .u8 o6, .int .u8 o7, .int .u8 o8, .int .u8 o9, .int .u8 o10, .int .u8 o11, .int .u8 o12, .int .u8 o13, .int .u8 o14, .int .u8 o15]) ∧ Below W.heap.size W w' from fun W hb => by
  rw [← hO]
  exact answer_calls id s A c l W (Kd.C_below hC hb) hc hB hs hl)
 have HB := Aside0.mk (Below.refl w.heap.size w)
 obtain ⟨L, hL⟩ : ∃ L, l.length = L := ⟨_, rfl⟩
 obtain ⟨N, hN⟩ : ∃ N, a.length = N := ⟨_, rfl⟩
 have HN := Aside0.mk hN
 have hN2 := hC2.2.1
 rw [hL] at HAN ⊢
 rw [hN] at hc2 hN2 ⊢
 by_cases h16 : N = 16
 ·have hn16 : ((N : Int) == 16) = true := by simp; omega
  subst h16
  obtain ⟨ad, rfl, _⟩ := Kd.at_int hC2 0 (by omega) (by omega)
  obtain ⟨x0, x1, x2, x3, x4, x5, x6, x7, x8, x9, x10, x11, x12, x13, x14, x15, ha⟩ := row16 a hN
  have HLD := Aside0.mk (show ∀ W, Below w.heap.size w W → W.cell? ad = some (.int .u8 x0) ∧ W.cell? ⟨ad.block, ad.off + 1, none⟩ = some (.int .u8 x1) ∧ W.cell? ⟨ad.block, ad.off + 2, none⟩ = some (.int .u8 x2) ∧ W.cell? ⟨ad.block, ad.off + 3, none⟩ = some (.int .u8 x3) ∧ W.cell? ⟨ad.block, ad.off + 4, none⟩ = some (.int .u8 x4) ∧ W.cell? ⟨ad.block, ad.off + 5, none⟩ = some (.int .u8 x5) ∧ W.cell? ⟨ad.block, ad.off + 6, none⟩ = some (.int .u8 x6) ∧ W.cell? ⟨ad.block, ad.off + 7, none⟩ = some (.int .u8 x7) ∧ W.cell? ⟨ad.block, ad.off + 8, none⟩ = some (.int .u8 x8) ∧ W.cell? ⟨ad.block, ad.off + 9, none⟩ = some (.int .u8 x9) ∧ W.cell? ⟨ad.block, ad.off + 10, none⟩ = some (.int .u8 x10) ∧ W.cell? ⟨ad.block, ad.off + 11, none⟩ = some (.int .u8 x11) ∧ W.cell? ⟨ad.block, ad.off + 12, none⟩ = some (.int .u8 x12) ∧ W.cell? ⟨ad.block, ad.off + 13, none⟩ = some (.int .u8 x13) ∧ W.cell? ⟨ad.block, ad.off + 14, none⟩ = some (.int .u8 x14) ∧ W.cell? ⟨ad.block, ad.off + 15, none⟩ = some (.int .u8 x15) from fun W hb => cells16 (by have h := Kd.C_below hC2 hb; rw [ha] at h; exact h))
  have hAA : ∀ W, (Instr.arrayAt 24 (.slice (some ad) 16 c2)).run Tryd.prog W = .ok (.pointer (some ad)) W := fun W => run_arrayAt _ _ _ 16 _ _ _ Tryd.underlying24 (Nat.le_refl _)
  have heq := fun W => eq16g x0 x1 x2 x3 x4 x5 x6 x7 x8 x9 x10 x11 x12 x13 x14 x15 o0 o1 o2 o3 o4 o5 o6 o7 o8 o9 o10 o11 o12 o13 o14 o15 W
  rw [ha]
  generalize decide ([x0, x1, x2, x3, x4, x5, x6, x7, x8, x9, x10, x11, x12, x13, x14, x15] = [o0, o1, o2, o3, o4, o5, o6, o7, o8, o9, o10, o11, o12, o13, o14, o15]) = b at heq ⊢
  clear hC hc hB hs hl hC2 hO hD hL hN HRF ha HC2 HN
  go_enter Tryd.func24, Tryd.ntmps24
  go_wp2_with fail
  refine start_ (n := 14) (S := fun w' => w'.cell? ad = some (.int .u8 x0) ∧ w'.cell? ⟨ad.block, ad.off + 1, none⟩ = some (.int .u8 x1) ∧ w'.cell? ⟨ad.block, ad.off + 2, none⟩ = some (.int .u8 x2) ∧ w'.cell? ⟨ad.block, ad.off + 3, none⟩ = some (.int .u8 x3) ∧ w'.cell? ⟨ad.block, ad.off + 4, none⟩ = some (.int .u8 x4) ∧ w'.cell? ⟨ad.block, ad.off + 5, none⟩ = some (.int .u8 x5) ∧ w'.cell? ⟨ad.block, ad.off + 6, none⟩ = some (.int .u8 x6) ∧ w'.cell? ⟨ad.block, ad.off + 7, none⟩ = some (.int .u8 x7) ∧ w'.cell? ⟨ad.block, ad.off + 8, none⟩ = some (.int .u8 x8) ∧ w'.cell? ⟨ad.block, ad.off + 9, none⟩ = some (.int .u8 x9) ∧ w'.cell? ⟨ad.block, ad.off + 10, none⟩ = some (.int .u8 x10) ∧ w'.cell? ⟨ad.block, ad.off + 11, none⟩ = some (.int .u8 x11) ∧ w'.cell? ⟨ad.block, ad.off + 12, none⟩ = some (.int .u8 x12) ∧ w'.cell? ⟨ad.block, ad.off + 13, none⟩ = some (.int .u8 x13) ∧ w'.cell? ⟨ad.block, ad.off + 14, none⟩ = some (.int .u8 x14) ∧ w'.cell? ⟨ad.block, ad.off + 15, none⟩ = some (.int .u8 x15)) (ds := []) #[false, false, false, false, false, false, false, false, false, false, false, false, false, false] (by kernel_rfl) rfl rfl ⟨(HLD.out _ (below_drew1 HB.out)).1, (HLD.out _ (below_drew1 HB.out)).2.1, (HLD.out _ (below_drew1 HB.out)).2.2.1, (HLD.out _ (below_drew1 HB.out)).2.2.2.1, (HLD.out _ (below_drew1 HB.out)).2.2.2.2.1, (HLD.out _ (below_drew1 HB.out)).2.2.2.2.2.1, (HLD.out _ (below_drew1 HB.out)).2.2.2.2.2.2.1, (HLD.out _ (below_drew1 HB.out)).2.2.2.2.2.2.2.1, (HLD.out _ (below_drew1 HB.out)).2.2.2.2.2.2.2.2.1, (HLD.out _ (below_drew1 HB.out)).2.2.2.2.2.2.2.2.2.1, (HLD.out _ (below_drew1 HB.out)).2.2.2.2.2.2.2.2.2.2.1, (HLD.out _ (below_drew1 HB.out)).2.2.2.2.2.2.2.2.2.2.2.1, (HLD.out _ (below_drew1 HB.out)).2.2.2.2.2.2.2.2.2.2.2.2.1, (HLD.out _ (below_drew1 HB.out)).2.2.2.2.2.2.2.2.2.2.2.2.2.1, (HLD.out _ (below_drew1 HB.out)).2.2.2.2.2.2.2.2.2.2.2.2.2.2.1, (HLD.out _ (below_drew1 HB.out)).2.2.2.2.2.2.2.2.2.2.2.2.2.2.2⟩ (fun hHeld => ?_)
  refine pure_ (i := 0) (N := some 9) (v := ?_) (a' := ?_) #[true, false, false, false, false, false, false, false, false, false, false, false, false, false] rfl rfl (by kernel_rfl) (fun _ _ _ h => h) (Or.inl ⟨by rfl, ?_⟩) ?_ ?_
  rotate_left
  ·intro w'
   go_simp
   with_reducible rfl
  rotate_left
  ·simp only [Act.put, List.setIfInBounds_toArray, List.set_cons_zero, List.set_cons_succ, i64_w, i32_w]
   rfl
  refine pure_ (i := 1) (N := some 10) (v := ?_) (a' := ?_) #[true, true, false, false, false, false, false, false, false, false, false, false, false, false] rfl rfl (by kernel_rfl) (fun _ _ _ h => h) (Or.inl ⟨by rfl, ?_⟩) ?_ ?_
  rotate_left
  ·intro w'
   go_simp
   with_reducible rfl
  rotate_left
  ·simp only [Act.put, List.setIfInBounds_toArray, List.set_cons_zero, List.set_cons_succ, i64_w, i32_w]
   rfl
  refine pure_ (i := 2) (N := some 11) (v := ?_) (a' := ?_) #[true, true, true, false, false, false, false, false, false, false, false, false, false, false] rfl rfl (by kernel_rfl) (fun _ _ _ h => h) (Or.inl ⟨by rfl, ?_⟩) ?_ ?_
  rotate_left
  ·intro w'
   go_simp
   with_reducible rfl
  rotate_left
  ·simp only [Act.put, List.setIfInBounds_toArray, List.set_cons_zero, List.set_cons_succ, i64_w, i32_w]
   rfl
  refine pure_ (i := 3) (N := some 12) (v := ?_) (a' := ?_) #[true, true, true, true, false, false, false, false, false, false, false, false, false, false] rfl rfl (by kernel_rfl) (fun _ _ _ h => h) (Or.inl ⟨by rfl, ?_⟩) ?_ ?_
  rotate_left
  ·intro w'
   go_simp
   with_reducible rfl
  rotate_left
  ·simp only [Act.put, List.setIfInBounds_toArray, List.set_cons_zero, List.set_cons_succ, i64_w, i32_w]
   rfl
  refine pure_ (i := 4) (N := some 13) (v := ?_) (a' := ?_) #[true, true, true, true, true, false, false, false, false, false, false, false, false, false] rfl rfl (by kernel_rfl) (fun _ _ _ h => h) (Or.inl ⟨by rfl, ?_⟩) ?_ ?_
  rotate_left
  ·intro w'
   go_simp
   with_reducible rfl
  rotate_left
  ·simp only [Act.put, List.setIfInBounds_toArray, List.set_cons_zero, List.set_cons_succ, i64_w, i32_w]
   rfl
  refine pure_ (i := 5) (N := some 14) (v := ?_) (a' := ?_) #[true, true, true, true, true, true, false, false, false, false, false, false, false, false] rfl rfl (by kernel_rfl) (fun _ _ _ h => h) (Or.inl ⟨by rfl, ?_⟩) ?_ ?_
  rotate_left
  ·intro w'
   go_simp
   with_reducible rfl
  rotate_left
  ·simp only [Act.put, List.setIfInBounds_toArray, List.set_cons_zero, List.set_cons_succ, i64_w, i32_w]
   rfl
  refine pure_ (i := 7) (N := some 16) (v := ?_) (a' := ?_) #[true, true, true, true, true, true, false, true, false, false, false, false, false, false] rfl rfl (by kernel_rfl) (fun _ _ _ h => h) (Or.inl ⟨by rfl, ?_⟩) ?_ ?_
  rotate_left
  ·intro w'
   go_simp
   with_reducible rfl
  rotate_left
  ·simp only [Act.put, List.setIfInBounds_toArray, List.set_cons_zero, List.set_cons_succ, i64_w, i32_w]
   rfl
  refine pure_ (i := 8) (N := some 17) (v := ?_) (a' := ?_) #[true, true, true, true, true, true, false, true, true, false, false, false, false, false] rfl rfl (by kernel_rfl) (fun _ _ _ h => h) (Or.inl ⟨by rfl, ?_⟩) ?_ ?_
  rotate_left
  ·intro w'
   go_simp
   with_reducible rfl
  rotate_left
  ·simp only [Act.put, List.setIfInBounds_toArray, List.set_cons_zero, List.set_cons_succ, i64_w, i32_w]
   rfl
  refine pure_ (i := 9) (N := some 18) (v := ?_) (a' := ?_) #[true, true, true, true, true, true, false, true, true, true, false, false, false, false] rfl rfl (by kernel_rfl) (fun _ _ _ h => h) (Or.inl ⟨by rfl, ?_⟩) ?_ ?_
  rotate_left
  ·intro w'
   go_simp
   with_reducible rfl
  rotate_left
  ·simp only [Act.put, List.setIfInBounds_toArray, List.set_cons_zero, List.set_cons_succ, i64_w, i32_w]
   rfl
  refine take_ (i := 6) (N := some 15) (v := ?_) (a' := ?_) #[true, true, true, true, true, true, true, true, true, true, false, false, false, false] rfl rfl (by kernel_rfl) (fun _ _ _ h => h) (Or.inl ⟨by rfl, ?_⟩) hHeld ?_ ?_
  rotate_left
  ·rintro w' ⟨s0, s1, s2, s3, s4, s5, s6, s7, s8, s9, s10, s11, s12, s13, s14, s15⟩
   go_simp
   with_reducible rfl
  rotate_left
  ·simp only [Act.put, List.setIfInBounds_toArray, List.set_cons_zero, List.set_cons_succ, i64_w, i32_w]
   rfl
  refine one_ (i := 10) (N := some 19) #[true, true, true, true, true, true, true, true, true, true, true, false, false, false] rfl rfl (by kernel_rfl) (by decide) (fun K hK => ?_)
  refine goes_ Tryd.func22 (by kernel_rfl) rfl #[.int .i64 id, .string s, .slice A L c] (by rfl) rfl rfl (by simp only [List.map_toArray, List.map_cons, List.map_nil]; rfl) ?_
  with_reducible refine (HAN.out _ (below_drew1 HB.out)).mono ?_
  rintro e w3 ⟨rfl, hbn⟩
  refine ⟨_, rfl, ?_⟩
  have HB3 := Aside0.mk (below_step (below_drew1 HB.out) hbn)
  clear hbn
  refine hK.out _ _ ⟨(HLD.out _ HB3.out).1, (HLD.out _ HB3.out).2.1, (HLD.out _ HB3.out).2.2.1, (HLD.out _ HB3.out).2.2.2.1, (HLD.out _ HB3.out).2.2.2.2.1, (HLD.out _ HB3.out).2.2.2.2.2.1, (HLD.out _ HB3.out).2.2.2.2.2.2.1, (HLD.out _ HB3.out).2.2.2.2.2.2.2.1, (HLD.out _ HB3.out).2.2.2.2.2.2.2.2.1, (HLD.out _ HB3.out).2.2.2.2.2.2.2.2.2.1, (HLD.out _ HB3.out).2.2.2.2.2.2.2.2.2.2.1, (HLD.out _ HB3.out).2.2.2.2.2.2.2.2.2.2.2.1, (HLD.out _ HB3.out).2.2.2.2.2.2.2.2.2.2.2.2.1, (HLD.out _ HB3.out).2.2.2.2.2.2.2.2.2.2.2.2.2.1, (HLD.out _ HB3.out).2.2.2.2.2.2.2.2.2.2.2.2.2.2.1, (HLD.out _ HB3.out).2.2.2.2.2.2.2.2.2.2.2.2.2.2.2⟩ (fun hHeld => ?_)
  clear hK K
  refine norm_ (a' := ?_) ?_ ?_
  rotate_left
  ·show Act.put _ (some 19) _ = _
   simp only [Act.put, List.setIfInBounds_toArray, List.set_cons_zero, List.set_cons_succ, i64_w, i32_w]
   rfl
  refine pure_ (i := 11) (N := some 20) (v := ?_) (a' := ?_) #[true, true, true, true, true, true, true, true, true, true, true, true, false, false] rfl rfl (by kernel_rfl) (fun _ _ _ h => h) (Or.inl ⟨by rfl, ?_⟩) ?_ ?_
  rotate_left
  ·intro w'
   go_simp
   with_reducible rfl
  rotate_left
  ·simp only [Act.put, List.setIfInBounds_toArray, List.set_cons_zero, List.set_cons_succ, i64_w, i32_w]
   rfl
  refine pure_ (i := 12) (N := some 21) (v := ?_) (a' := ?_) #[true, true, true, true, true, true, true, true, true, true, true, true, true, false] rfl rfl (by kernel_rfl) (fun _ _ _ h => h) (Or.inl ⟨by rfl, ?_⟩) ?_ ?_
  rotate_left
  ·intro w'
   go_simp
   with_reducible rfl
  rotate_left
  ·simp only [Act.put, List.setIfInBounds_toArray, List.set_cons_zero, List.set_cons_succ, i64_w, i32_w]
   rfl
  refine pure_ (i := 13) (N := some 8) (v := ?_) (a' := ?_) #[true, true, true, true, true, true, true, true, true, true, true, true, true, true] rfl rfl (by kernel_rfl) (fun _ _ _ h => h) (Or.inl ⟨by rfl, ?_⟩) ?_ ?_
  rotate_left
  ·intro w'
   go_simp
   with_reducible rfl
  rotate_left
  ·simp only [Act.put, List.setIfInBounds_toArray, List.set_cons_zero, List.set_cons_succ, i64_w, i32_w]
   rfl
  refine done_ (by kernel_rfl) ?_
  go_wp2
  go_ret
  exact ⟨by first | rfl | simp, HB3.out⟩
 ·have hn16 : ((N : Int) == 16) = false := by simp; omega
  have hfin : decide (a = [o0, o1, o2, o3, o4, o5, o6, o7, o8, o9, o10, o11, o12, o13, o14, o15]) = false := decide_eq_false (fun e => h16 (by rw [← hN, e]; rfl))
  rw [hfin]
  clear hC hc hB hs hl hC2 hO hD hL hN HRF HC2 HN hfin
  go_enter Tryd.func24, Tryd.ntmps24
  go_wp2_with fail
  refine start_ (n := 14) (S := fun w' => True) (ds := []) #[false, false, false, false, false, false, false, false, false, false, false, false, false, false] (by kernel_rfl) rfl rfl trivial (fun hHeld => ?_)
  refine pure_ (i := 0) (N := some 9) (v := ?_) (a' := ?_) #[true, false, false, false, false, false, false, false, false, false, false, false, false, false] rfl rfl (by kernel_rfl) (fun _ _ _ h => h) (Or.inl ⟨by rfl, ?_⟩) ?_ ?_
  rotate_left
  ·intro w'
   go_simp
   with_reducible rfl
  rotate_left
  ·simp only [Act.put, List.setIfInBounds_toArray, List.set_cons_zero, List.set_cons_succ, i64_w, i32_w]
   rfl
  refine pure_ (i := 1) (N := some 10) (v := ?_) (a' := ?_) #[true, true, false, false, false, false, false, false, false, false, false, false, false, false] rfl rfl (by kernel_rfl) (fun _ _ _ h => h) (Or.inl ⟨by rfl, ?_⟩) ?_ ?_
  rotate_left
  ·intro w'
   go_simp
   with_reducible rfl
  rotate_left
  ·simp only [Act.put, List.setIfInBounds_toArray, List.set_cons_zero, List.set_cons_succ, i64_w, i32_w]
   rfl
  refine pure_ (i := 2) (N := some 11) (v := ?_) (a' := ?_) #[true, true, true, false, false, false, false, false, false, false, false, false, false, false] rfl rfl (by kernel_rfl) (fun _ _ _ h => h) (Or.inl ⟨by rfl, ?_⟩) ?_ ?_
  rotate_left
  ·intro w'
   go_simp
   with_reducible rfl
  rotate_left
  ·simp only [Act.put, List.setIfInBounds_toArray, List.set_cons_zero, List.set_cons_succ, i64_w, i32_w]
   rfl
  refine pure_ (i := 3) (N := some 12) (v := ?_) (a' := ?_) #[true, true, true, true, false, false, false, false, false, false, false, false, false, false] rfl rfl (by kernel_rfl) (fun _ _ _ h => h) (Or.inl ⟨by rfl, ?_⟩) ?_ ?_
  rotate_left
  ·intro w'
   go_simp
   with_reducible rfl
  rotate_left
  ·simp only [Act.put, List.setIfInBounds_toArray, List.set_cons_zero, List.set_cons_succ, i64_w, i32_w]
   rfl
  refine pure_ (i := 4) (N := some 13) (v := undef) (a' := ?_) #[true, true, true, true, true, false, false, false, false, false, false, false, false, false] rfl rfl (by kernel_rfl) (fun _ _ _ h => h) (Or.inr ⟨by rfl, rfl⟩) ?_ ?_
  rotate_left
  ·simp only [Act.put, List.setIfInBounds_toArray, List.set_cons_zero, List.set_cons_succ, i64_w, i32_w]
   rfl
  refine pure_ (i := 5) (N := some 14) (v := undef) (a' := ?_) #[true, true, true, true, true, true, false, false, false, false, false, false, false, false] rfl rfl (by kernel_rfl) (fun _ _ _ h => h) (Or.inr ⟨by rfl, rfl⟩) ?_ ?_
  rotate_left
  ·simp only [Act.put, List.setIfInBounds_toArray, List.set_cons_zero, List.set_cons_succ, i64_w, i32_w]
   rfl
  refine pure_ (i := 6) (N := some 15) (v := undef) (a' := ?_) #[true, true, true, true, true, true, true, false, false, false, false, false, false, false] rfl rfl (by kernel_rfl) (fun _ _ _ h => h) (Or.inr ⟨by rfl, rfl⟩) ?_ ?_
  rotate_left
  ·simp only [Act.put, List.setIfInBounds_toArray, List.set_cons_zero, List.set_cons_succ, i64_w, i32_w]
   rfl
  refine pure_ (i := 7) (N := some 16) (v := undef) (a' := ?_) #[true, true, true, true, true, true, true, true, false, false, false, false, false, false] rfl rfl (by kernel_rfl) (fun _ _ _ h => h) (Or.inr ⟨by rfl, rfl⟩) ?_ ?_
  rotate_left
  ·simp only [Act.put, List.setIfInBounds_toArray, List.set_cons_zero, List.set_cons_succ, i64_w, i32_w]
   rfl
  refine pure_ (i := 8) (N := some 17) (v := undef) (a' := ?_) #[true, true, true, true, true, true, true, true, true, false, false, false, false, false] rfl rfl (by kernel_rfl) (fun _ _ _ h => h) (Or.inr ⟨by rfl, rfl⟩) ?_ ?_
  rotate_left
  ·simp only [Act.put, List.setIfInBounds_toArray, List.set_cons_zero, List.set_cons_succ, i64_w, i32_w]
   rfl
  refine pure_ (i := 9) (N := some 18) (v := undef) (a' := ?_) #[true, true, true, true, true, true, true, true, true, true, false, false, false, false] rfl rfl (by kernel_rfl) (fun _ _ _ h => h) (Or.inr ⟨by rfl, rfl⟩) ?_ ?_
  rotate_left
  ·simp only [Act.put, List.setIfInBounds_toArray, List.set_cons_zero, List.set_cons_succ, i64_w, i32_w]
   rfl
  refine pure_ (i := 10) (N := some 19) (v := undef) (a' := ?_) #[true, true, true, true, true, true, true, true, true, true, true, false, false, false] rfl rfl (by kernel_rfl) (fun _ _ _ h => h) (Or.inr ⟨by rfl, rfl⟩) ?_ ?_
  rotate_left
  ·simp only [Act.put, List.setIfInBounds_toArray, List.set_cons_zero, List.set_cons_succ, i64_w, i32_w]
   rfl
  refine pure_ (i := 11) (N := some 20) (v := undef) (a' := ?_) #[true, true, true, true, true, true, true, true, true, true, true, true, false, false] rfl rfl (by kernel_rfl) (fun _ _ _ h => h) (Or.inr ⟨by rfl, rfl⟩) ?_ ?_
  rotate_left
  ·simp only [Act.put, List.setIfInBounds_toArray, List.set_cons_zero, List.set_cons_succ, i64_w, i32_w]
   rfl
  refine pure_ (i := 12) (N := some 21) (v := ?_) (a' := ?_) #[true, true, true, true, true, true, true, true, true, true, true, true, true, false] rfl rfl (by kernel_rfl) (fun _ _ _ h => h) (Or.inl ⟨by rfl, ?_⟩) ?_ ?_
  rotate_left
  ·intro w'
   go_simp
   with_reducible rfl
  rotate_left
  ·simp only [Act.put, List.setIfInBounds_toArray, List.set_cons_zero, List.set_cons_succ, i64_w, i32_w]
   rfl
  refine pure_ (i := 13) (N := some 8) (v := ?_) (a' := ?_) #[true, true, true, true, true, true, true, true, true, true, true, true, true, true] rfl rfl (by kernel_rfl) (fun _ _ _ h => h) (Or.inl ⟨by rfl, ?_⟩) ?_ ?_
  rotate_left
  ·intro w'
   go_simp
   with_reducible rfl
  rotate_left
  ·simp only [Act.put, List.setIfInBounds_toArray, List.set_cons_zero, List.set_cons_succ, i64_w, i32_w]
   rfl
  refine done_ (by kernel_rfl) ?_
  go_wp2
  go_ret
  exact ⟨rfl, below_drew1 HB.out⟩
end Go.Proofs.YtgadhmoifhoilaaDoor.Chap
