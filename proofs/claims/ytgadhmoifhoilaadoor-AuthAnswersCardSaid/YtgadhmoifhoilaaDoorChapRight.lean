/-
  chap.Right, umpireref17.Right by hand.
-/
import Derived.Test.YtgadhmoifhoilaaDoorChapEq
import Derived.Deep.RegionWith
namespace Go.Proofs.YtgadhmoifhoilaaDoor.Chap
open Go.RowKit Go.Lib Go.Proofs.YtgadhmoifhoilaaDoorW.PrintWords Go.Proofs.YtgadhmoifhoilaaDoorW.PrintLast Go.Proofs.YtgadhmoifhoilaaDoorW.PrintMore Go.Proofs.YtgadhmoifhoilaaDoor.Kit Go.Proofs.YtgadhmoifhoilaaDoor.Md5
set_option linter.unusedVariables false
set_option linter.unusedSimpArgs false
theorem digest_cells {s : St} {o0 o1 o2 o3 o4 o5 o6 o7 o8 o9 o10 o11 o12 o13 o14 o15 : Int} (h : s.out = #[.int .u8 o0, .int .u8 o1, .int .u8 o2, .int .u8 o3, .int .u8 o4, .int .u8 o5, .int .u8 o6, .int .u8 o7, .int .u8 o8, .int .u8 o9, .int .u8 o10, .int .u8 o11, .int .u8 o12, .int .u8 o13, .int .u8 o14, .int .u8 o15]) : digest s = [o0, o1, o2, o3, o4, o5, o6, o7, o8, o9, o10, o11, o12, o13, o14, o15] := by
 have h1 : s.out.toList = (digest s).map (Value.int .u8) := by unfold St.out; simp
 rw [h] at h1
 have h2 : ([o0, o1, o2, o3, o4, o5, o6, o7, o8, o9, o10, o11, o12, o13, o14, o15].map (Value.int .u8)) = (digest s).map (Value.int .u8) := h1
 exact (List.map_inj_right (fun a b e => by injection e)).1 h2.symm
theorem cells16 {W : World} {ad : Addr} {x0 x1 x2 x3 x4 x5 x6 x7 x8 x9 x10 x11 x12 x13 x14 x15 : Int} (hC : (Kd.int .u8).C W (some ad) 16 [x0, x1, x2, x3, x4, x5, x6, x7, x8, x9, x10, x11, x12, x13, x14, x15]) : W.cell? ad = some (.int .u8 x0) ∧ W.cell? ⟨ad.block, ad.off + 1, none⟩ = some (.int .u8 x1) ∧ W.cell? ⟨ad.block, ad.off + 2, none⟩ = some (.int .u8 x2) ∧ W.cell? ⟨ad.block, ad.off + 3, none⟩ = some (.int .u8 x3) ∧ W.cell? ⟨ad.block, ad.off + 4, none⟩ = some (.int .u8 x4) ∧ W.cell? ⟨ad.block, ad.off + 5, none⟩ = some (.int .u8 x5) ∧ W.cell? ⟨ad.block, ad.off + 6, none⟩ = some (.int .u8 x6) ∧ W.cell? ⟨ad.block, ad.off + 7, none⟩ = some (.int .u8 x7) ∧ W.cell? ⟨ad.block, ad.off + 8, none⟩ = some (.int .u8 x8) ∧ W.cell? ⟨ad.block, ad.off + 9, none⟩ = some (.int .u8 x9) ∧ W.cell? ⟨ad.block, ad.off + 10, none⟩ = some (.int .u8 x10) ∧ W.cell? ⟨ad.block, ad.off + 11, none⟩ = some (.int .u8 x11) ∧ W.cell? ⟨ad.block, ad.off + 12, none⟩ = some (.int .u8 x12) ∧ W.cell? ⟨ad.block, ad.off + 13, none⟩ = some (.int .u8 x13) ∧ W.cell? ⟨ad.block, ad.off + 14, none⟩ = some (.int .u8 x14) ∧ W.cell? ⟨ad.block, ad.off + 15, none⟩ = some (.int .u8 x15) := by
 have hr := Kd.reads_of_C (enc := Value.int .u8) (d := (0 : Int)) (h1 := fun _ => rfl) hC
 obtain ⟨ad', e, hc⟩ := hr.2.2 (by decide)
 cases e
 exact ⟨hc 0 (by decide), hc 1 (by decide), hc 2 (by decide), hc 3 (by decide), hc 4 (by decide), hc 5 (by decide), hc 6 (by decide), hc 7 (by decide), hc 8 (by decide), hc 9 (by decide), hc 10 (by decide), hc 11 (by decide), hc 12 (by decide), hc 13 (by decide), hc 14 (by decide), hc 15 (by decide)⟩
theorem take_step (l : List Int) (i : Nat) (h : i < l.length) : l.take (i + 1) = l.take i ++ [rd l (i : Int)] := by
 rw [List.take_succ_eq_append_getElem h]
 simp [rd, h]
set_option maxRecDepth 100000 in
set_option maxHeartbeats 8000000 in
theorem refright_calls (id : Int) (s : ByteArray) (A : Option Addr) (c : Nat) (l : List Int) (A2 : Option Addr) (c2 : Nat) (a : List Int) (w : World) (hC : (Kd.int .u8).C w A l.length l) (hc : l.length ≤ c) (hB : isB l = true) (hs : s.size ≤ 100000) (hl : l.length ≤ 100000) (hC2 : (Kd.int .u8).C w A2 a.length a) (hc2 : a.length ≤ c2) (hg : Laid w) (h3 : 3 ≤ w.heap.size) :
  Calls Tryd.prog 25 #[.int .i64 id, .string s, .slice A l.length c, .slice A2 a.length c2] w fun e w' => e = .returned (.bool (rightF id s l a)) ∧ Below w.heap.size w w' := by
 have HC2 := Aside0.mk hC2
 obtain ⟨o0, o1, o2, o3, o4, o5, o6, o7, o8, o9, o10, o11, o12, o13, o14, o15, hO⟩ := out_cells (ansOf id s l)
 have hD := digest_cells hO
 have HRF := Aside0.mk (show rightF id s l a = decide (a = [o0, o1, o2, o3, o4, o5, o6, o7, o8, o9, o10, o11, o12, o13, o14, o15]) by unfold rightF; rw [hD])
 rw [HRF.out]
 have HAN := Aside0.mk (show ∀ W, Below w.heap.size w W → Calls Tryd.prog 23 #[.int .i64 id, .string s, .slice A l.length c] W fun e w' => e = .returned (.agg #[.int .u8 o0, .int .u8 o1, .int .u8 o2, .int .u8 o3, .int .u8 o4, .int .u8 o5, .int .u8 o6, .int .u8 o7, .int .u8 o8, .int .u8 o9, .int .u8 o10, .int .u8 o11, .int .u8 o12, .int .u8 o13, .int .u8 o14, .int .u8 o15]) ∧ Below W.heap.size W w' from fun W hb => by
  rw [← hO]
  exact refanswer_calls id s A c l W (Kd.C_below hC hb) hc hB hs hl (hg.below hb h3) (Nat.le_trans h3 hb.size))
 have HB := Aside0.mk (Below.refl w.heap.size w)
 obtain ⟨L, hL⟩ : ∃ L, l.length = L := ⟨_, rfl⟩
 obtain ⟨N, hN⟩ : ∃ N, a.length = N := ⟨_, rfl⟩
 have HN := Aside0.mk hN
 have hN2 := hC2.2.1
 rw [hL] at HAN ⊢
 rw [hN] at hc2 hN2 ⊢
 clear hC hc hB hs hl hC2 hO hD hL hN hg h3 HRF
 obtain ⟨D, hDD⟩ : ∃ D : List Int, [o0, o1, o2, o3, o4, o5, o6, o7, o8, o9, o10, o11, o12, o13, o14, o15] = D := ⟨_, rfl⟩
 rw [hDD]
 have HDR := Aside0.mk (show ∀ (W : World) (gd_ : Nat), W.heap[gd_]? = some (.cells #[.int .u8 o0, .int .u8 o1, .int .u8 o2, .int .u8 o3, .int .u8 o4, .int .u8 o5, .int .u8 o6, .int .u8 o7, .int .u8 o8, .int .u8 o9, .int .u8 o10, .int .u8 o11, .int .u8 o12, .int .u8 o13, .int .u8 o14, .int .u8 o15] 24 (0, 0)) → ∀ i : Nat, i < 16 → W.cell? ⟨gd_, i, none⟩ = some (.int .u8 (rd D (i : Int))) from fun W gd_ h i hi => by
  rw [← hDD]
  rw [blk_cell h i]
  have hi : i = 0 ∨ i = 1 ∨ i = 2 ∨ i = 3 ∨ i = 4 ∨ i = 5 ∨ i = 6 ∨ i = 7 ∨ i = 8 ∨ i = 9 ∨ i = 10 ∨ i = 11 ∨ i = 12 ∨ i = 13 ∨ i = 14 ∨ i = 15 := by omega
  rcases hi with rfl | rfl | rfl | rfl | rfl | rfl | rfl | rfl | rfl | rfl | rfl | rfl | rfl | rfl | rfl | rfl <;> rfl)
 have hDl : D.length = 16 := by rw [← hDD]; rfl
 have HDL := Aside0.mk hDl
 clear hDD hDl
 go_enter Tryd.func25, Tryd.ntmps25
 go_upto_region 2 with (first | (go_at_call 23; (with_reducible refine (HAN.out _ HB.out).mono ?_); rintro e w1 ⟨rfl, hbn⟩; have HB_ := Aside0.mk (below_step (show Below w.heap.size w w from HB.out) hbn); clear HB; have HB := HB_; clear HB_; clear hbn) | ((with_reducible refine gate_dst (N := 9) rfl ?_); refine' box_event ?hg (N := 9) ?hd (t := 24) ?hr ?_; (case hd => rfl); (case hg => rfl); (case hr => first | (go_simp; done) | (go_simp; rfl)); intro gd hgn w2 hbox hbn; have GEgd := Aside0.mk (show w.heap.size ≤ gd from Nat.le_trans (below_size (show Below w.heap.size w w1 from HB.out)) (Nat.le_of_eq hgn.symm)); have HB_ := Aside0.mk (below_step (show Below w.heap.size w w1 from HB.out) hbn); clear HB; have HB := HB_; clear HB_; have Bgd := Aside0.mk hbox; clear hbox hbn hgn; have y0 := (blk_cell Bgd.out 0).trans (rfl : _ = some (Value.int .u8 0)); have f0 := blk_frozen Bgd.out 0; have y1 := (blk_cell Bgd.out 1).trans (rfl : _ = some (Value.int .u8 0)); have f1 := blk_frozen Bgd.out 1; have y2 := (blk_cell Bgd.out 2).trans (rfl : _ = some (Value.int .u8 0)); have f2 := blk_frozen Bgd.out 2; have y3 := (blk_cell Bgd.out 3).trans (rfl : _ = some (Value.int .u8 0)); have f3 := blk_frozen Bgd.out 3; have y4 := (blk_cell Bgd.out 4).trans (rfl : _ = some (Value.int .u8 0)); have f4 := blk_frozen Bgd.out 4; have y5 := (blk_cell Bgd.out 5).trans (rfl : _ = some (Value.int .u8 0)); have f5 := blk_frozen Bgd.out 5; have y6 := (blk_cell Bgd.out 6).trans (rfl : _ = some (Value.int .u8 0)); have f6 := blk_frozen Bgd.out 6; have y7 := (blk_cell Bgd.out 7).trans (rfl : _ = some (Value.int .u8 0)); have f7 := blk_frozen Bgd.out 7; have y8 := (blk_cell Bgd.out 8).trans (rfl : _ = some (Value.int .u8 0)); have f8 := blk_frozen Bgd.out 8; have y9 := (blk_cell Bgd.out 9).trans (rfl : _ = some (Value.int .u8 0)); have f9 := blk_frozen Bgd.out 9; have y10 := (blk_cell Bgd.out 10).trans (rfl : _ = some (Value.int .u8 0)); have f10 := blk_frozen Bgd.out 10; have y11 := (blk_cell Bgd.out 11).trans (rfl : _ = some (Value.int .u8 0)); have f11 := blk_frozen Bgd.out 11; have y12 := (blk_cell Bgd.out 12).trans (rfl : _ = some (Value.int .u8 0)); have f12 := blk_frozen Bgd.out 12; have y13 := (blk_cell Bgd.out 13).trans (rfl : _ = some (Value.int .u8 0)); have f13 := blk_frozen Bgd.out 13; have y14 := (blk_cell Bgd.out 14).trans (rfl : _ = some (Value.int .u8 0)); have f14 := blk_frozen Bgd.out 14; have y15 := (blk_cell Bgd.out 15).trans (rfl : _ = some (Value.int .u8 0)); have f15 := blk_frozen Bgd.out 15))
 (try simp only [Act.put, List.setIfInBounds_toArray, List.set_cons_zero, List.set_cons_succ])
 have yD := set16_row Bgd.out (.int .u8 o0) (.int .u8 o1) (.int .u8 o2) (.int .u8 o3) (.int .u8 o4) (.int .u8 o5) (.int .u8 o6) (.int .u8 o7) (.int .u8 o8) (.int .u8 o9) (.int .u8 o10) (.int .u8 o11) (.int .u8 o12) (.int .u8 o13) (.int .u8 o14) (.int .u8 o15)
 have yB := set16_below HB.out GEgd.out (.int .u8 o0) (.int .u8 o1) (.int .u8 o2) (.int .u8 o3) (.int .u8 o4) (.int .u8 o5) (.int .u8 o6) (.int .u8 o7) (.int .u8 o8) (.int .u8 o9) (.int .u8 o10) (.int .u8 o11) (.int .u8 o12) (.int .u8 o13) (.int .u8 o14) (.int .u8 o15)
 clear HB Bgd y0 f0 y1 f1 y2 f2 y3 f3 y4 f4 y5 f5 y6 f6 y7 f7 y8 f8 y9 f9 y10 f10 y11 f11 y12 f12 y13 f13 y14 f14 y15 f15
 change (World.heap ((((((((((((((((w2.setCell ⟨gd, 0, none⟩ (.int .u8 o0)).setCell ⟨gd, 1, none⟩ (.int .u8 o1)).setCell ⟨gd, 2, none⟩ (.int .u8 o2)).setCell ⟨gd, 3, none⟩ (.int .u8 o3)).setCell ⟨gd, 4, none⟩ (.int .u8 o4)).setCell ⟨gd, 5, none⟩ (.int .u8 o5)).setCell ⟨gd, 6, none⟩ (.int .u8 o6)).setCell ⟨gd, 7, none⟩ (.int .u8 o7)).setCell ⟨gd, 8, none⟩ (.int .u8 o8)).setCell ⟨gd, 9, none⟩ (.int .u8 o9)).setCell ⟨gd, 10, none⟩ (.int .u8 o10)).setCell ⟨gd, 11, none⟩ (.int .u8 o11)).setCell ⟨gd, 12, none⟩ (.int .u8 o12)).setCell ⟨gd, 13, none⟩ (.int .u8 o13)).setCell ⟨gd, 14, none⟩ (.int .u8 o14)).setCell ⟨gd, 15, none⟩ (.int .u8 o15)))[gd]? = _ at yD
 change Below _ _ ((((((((((((((((w2.setCell ⟨gd, 0, none⟩ (.int .u8 o0)).setCell ⟨gd, 1, none⟩ (.int .u8 o1)).setCell ⟨gd, 2, none⟩ (.int .u8 o2)).setCell ⟨gd, 3, none⟩ (.int .u8 o3)).setCell ⟨gd, 4, none⟩ (.int .u8 o4)).setCell ⟨gd, 5, none⟩ (.int .u8 o5)).setCell ⟨gd, 6, none⟩ (.int .u8 o6)).setCell ⟨gd, 7, none⟩ (.int .u8 o7)).setCell ⟨gd, 8, none⟩ (.int .u8 o8)).setCell ⟨gd, 9, none⟩ (.int .u8 o9)).setCell ⟨gd, 10, none⟩ (.int .u8 o10)).setCell ⟨gd, 11, none⟩ (.int .u8 o11)).setCell ⟨gd, 12, none⟩ (.int .u8 o12)).setCell ⟨gd, 13, none⟩ (.int .u8 o13)).setCell ⟨gd, 14, none⟩ (.int .u8 o14)).setCell ⟨gd, 15, none⟩ (.int .u8 o15)) at yB
 generalize ((((((((((((((((w2.setCell ⟨gd, 0, none⟩ (.int .u8 o0)).setCell ⟨gd, 1, none⟩ (.int .u8 o1)).setCell ⟨gd, 2, none⟩ (.int .u8 o2)).setCell ⟨gd, 3, none⟩ (.int .u8 o3)).setCell ⟨gd, 4, none⟩ (.int .u8 o4)).setCell ⟨gd, 5, none⟩ (.int .u8 o5)).setCell ⟨gd, 6, none⟩ (.int .u8 o6)).setCell ⟨gd, 7, none⟩ (.int .u8 o7)).setCell ⟨gd, 8, none⟩ (.int .u8 o8)).setCell ⟨gd, 9, none⟩ (.int .u8 o9)).setCell ⟨gd, 10, none⟩ (.int .u8 o10)).setCell ⟨gd, 11, none⟩ (.int .u8 o11)).setCell ⟨gd, 12, none⟩ (.int .u8 o12)).setCell ⟨gd, 13, none⟩ (.int .u8 o13)).setCell ⟨gd, 14, none⟩ (.int .u8 o14)).setCell ⟨gd, 15, none⟩ (.int .u8 o15)) = w3 at yD yB ⊢
 have HD := Aside0.mk yD
 have HB := Aside0.mk yB
 clear yD yB
 clear HAN
 by_cases h16 : N = 16
 ·have hn16 : (N : Int) = 16 := by omega
  have hne : ((N : Int) != 16) = false := by simp [hn16]
  subst h16
  go_wp2_with fail
  go_loopw [10] (fun v10 wr => ∃ i : Nat, i ≤ 16 ∧ v10 = .int .i64 (i : Int) ∧ Aside0 (a.take i = D.take i) ∧ Aside0 (Below w.heap.size w wr) ∧ Aside0 (wr.heap[gd]? = some (.cells #[.int .u8 o0, .int .u8 o1, .int .u8 o2, .int .u8 o3, .int .u8 o4, .int .u8 o5, .int .u8 o6, .int .u8 o7, .int .u8 o8, .int .u8 o9, .int .u8 o10, .int .u8 o11, .int .u8 o12, .int .u8 o13, .int .u8 o14, .int .u8 o15] 24 (0, 0)))) (fun v10 _ => 16 - (intOf v10).toNat)
  case atStart => exact ⟨0, by omega, rfl, ⟨by simp⟩, HB, HD⟩
  case round =>
   clear HB HD
   obtain ⟨i, hi, rfl, HT, HB, HD⟩ := hrel
   by_cases hlt : i < 16
   ·have hlt2 : (i : Int) < 16 := by omega
    have hi0 : (0 : Int) ≤ (i : Int) := by omega
    obtain ⟨ad, rfl, hx⟩ := Kd.at_int (Kd.C_below HC2.out HB.out) (i : Int) (by omega) (by rw [HN.out]; omega)
    rw [Int.toNat_natCast] at hx
    have hy := HDR.out _ _ HD.out i hlt
    have HX := Aside0.mk (show a.take (i + 1) = a.take i ++ [rd a (i : Int)] from take_step a i (by rw [HN.out]; omega))
    have HY := Aside0.mk (show D.take (i + 1) = D.take i ++ [rd D (i : Int)] from take_step D i (by rw [HDL.out]; omega))
    have HNE := Aside0.mk (show rd a (i : Int) ≠ rd D (i : Int) → a ≠ D from fun h e => h (by rw [e]))
    generalize rd a (i : Int) = x at *
    generalize rd D (i : Int) = y at *
    go_wp2_with fail
    by_cases hxy : x = y
    ·have hb1 : (x != y) = false := by simp [hxy]
     refine start_ (n := 8) (S := fun w' => w'.cell? (ad.add i) = some (.int .u8 x) ∧ w'.cell? ⟨gd, i, none⟩ = some (.int .u8 y)) (ds := []) #[false, false, false, false, false, false, false, false] (by kernel_rfl) rfl rfl ⟨(show wr.drew.cell? _ = _ from hx), (show wr.drew.cell? _ = _ from hy)⟩ (fun hHeld => ?_)
     refine pure_ (i := 0) (N := some 22) (v := ?_) (a' := ?_) #[true, false, false, false, false, false, false, false] rfl rfl (by kernel_rfl) (fun _ _ _ h => h) (Or.inl ⟨by rfl, ?_⟩) ?_ ?_
     rotate_left
     ·intro w'
      go_simp
      with_reducible rfl
     rotate_left
     ·simp only [Act.put, List.setIfInBounds_toArray, List.set_cons_zero, List.set_cons_succ, i64_w, i32_w]
      rfl
     refine pure_ (i := 1) (N := some 23) (v := ?_) (a' := ?_) #[true, true, false, false, false, false, false, false] rfl rfl (by kernel_rfl) (fun _ _ _ h => h) (Or.inl ⟨by rfl, ?_⟩) ?_ ?_
     rotate_left
     ·intro w'
      go_simp
      with_reducible rfl
     rotate_left
     ·simp only [Act.put, List.setIfInBounds_toArray, List.set_cons_zero, List.set_cons_succ, i64_w, i32_w]
      rfl
     refine pure_ (i := 2) (N := some 24) (v := ?_) (a' := ?_) #[true, true, true, false, false, false, false, false] rfl rfl (by kernel_rfl) (fun _ _ _ h => h) (Or.inl ⟨by rfl, ?_⟩) ?_ ?_
     rotate_left
     ·intro w'
      go_simp
      with_reducible rfl
     rotate_left
     ·simp only [Act.put, List.setIfInBounds_toArray, List.set_cons_zero, List.set_cons_succ, i64_w, i32_w]
      rfl
     refine pure_ (i := 4) (N := some 26) (v := ?_) (a' := ?_) #[true, true, true, false, true, false, false, false] rfl rfl (by kernel_rfl) (fun _ _ _ h => h) (Or.inl ⟨by rfl, ?_⟩) ?_ ?_
     rotate_left
     ·intro w'
      go_simp
      with_reducible rfl
     rotate_left
     ·simp only [Act.put, List.setIfInBounds_toArray, List.set_cons_zero, List.set_cons_succ, i64_w, i32_w]
      rfl
     refine pure_ (i := 5) (N := some 27) (v := ?_) (a' := ?_) #[true, true, true, false, true, true, false, false] rfl rfl (by kernel_rfl) (fun _ _ _ h => h) (Or.inl ⟨by rfl, ?_⟩) ?_ ?_
     rotate_left
     ·intro w'
      go_simp
      with_reducible rfl
     rotate_left
     ·simp only [Act.put, List.setIfInBounds_toArray, List.set_cons_zero, List.set_cons_succ, i64_w, i32_w]
      rfl
     refine take_ (i := 3) (N := some 25) (v := ?_) (a' := ?_) #[true, true, true, true, true, true, false, false] rfl rfl (by kernel_rfl) (fun _ _ _ h => h) (Or.inl ⟨by rfl, ?_⟩) hHeld ?_ ?_
     rotate_left
     ·rintro w' ⟨s0, s1⟩
      go_simp
      with_reducible rfl
     rotate_left
     ·simp only [Act.put, List.setIfInBounds_toArray, List.set_cons_zero, List.set_cons_succ, i64_w, i32_w]
      rfl
     refine take_ (i := 6) (N := some 28) (v := ?_) (a' := ?_) #[true, true, true, true, true, true, true, false] rfl rfl (by kernel_rfl) (fun _ _ _ h => h) (Or.inl ⟨by rfl, ?_⟩) hHeld ?_ ?_
     rotate_left
     ·rintro w' ⟨s0, s1⟩
      go_simp
      with_reducible rfl
     rotate_left
     ·simp only [Act.put, List.setIfInBounds_toArray, List.set_cons_zero, List.set_cons_succ, i64_w, i32_w]
      rfl
     refine pure_ (i := 7) (N := some 29) (v := ?_) (a' := ?_) #[true, true, true, true, true, true, true, true] rfl rfl (by kernel_rfl) (fun _ _ _ h => h) (Or.inl ⟨by rfl, ?_⟩) ?_ ?_
     rotate_left
     ·intro w'
      go_simp
      with_reducible rfl
     rotate_left
     ·simp only [Act.put, List.setIfInBounds_toArray, List.set_cons_zero, List.set_cons_succ, i64_w, i32_w]
      rfl
     refine done_ (by kernel_rfl) ?_
     have HT2 := Aside0.mk (show a.take (i + 1) = D.take (i + 1) by rw [HX.out, HY.out, HT.out, hxy])
     have HB2 := Aside0.mk (below_drew1 HB.out)
     have HD2 := Aside0.mk (blk_drew HD.out)
     clear HT HB HD
     go_wp2_with fail
     go_roundw
     case rel => exact ⟨i + 1, by omega, by go_num, HT2, HB2, HD2⟩
     case measure => simp [intOf]; omega
    ·have hb1 : (x != y) = true := by simp [hxy]
     refine start_ (n := 8) (S := fun w' => w'.cell? (ad.add i) = some (.int .u8 x) ∧ w'.cell? ⟨gd, i, none⟩ = some (.int .u8 y)) (ds := []) #[false, false, false, false, false, false, false, false] (by kernel_rfl) rfl rfl ⟨(show wr.drew.cell? _ = _ from hx), (show wr.drew.cell? _ = _ from hy)⟩ (fun hHeld => ?_)
     refine pure_ (i := 0) (N := some 22) (v := ?_) (a' := ?_) #[true, false, false, false, false, false, false, false] rfl rfl (by kernel_rfl) (fun _ _ _ h => h) (Or.inl ⟨by rfl, ?_⟩) ?_ ?_
     rotate_left
     ·intro w'
      go_simp
      with_reducible rfl
     rotate_left
     ·simp only [Act.put, List.setIfInBounds_toArray, List.set_cons_zero, List.set_cons_succ, i64_w, i32_w]
      rfl
     refine pure_ (i := 1) (N := some 23) (v := ?_) (a' := ?_) #[true, true, false, false, false, false, false, false] rfl rfl (by kernel_rfl) (fun _ _ _ h => h) (Or.inl ⟨by rfl, ?_⟩) ?_ ?_
     rotate_left
     ·intro w'
      go_simp
      with_reducible rfl
     rotate_left
     ·simp only [Act.put, List.setIfInBounds_toArray, List.set_cons_zero, List.set_cons_succ, i64_w, i32_w]
      rfl
     refine pure_ (i := 2) (N := some 24) (v := ?_) (a' := ?_) #[true, true, true, false, false, false, false, false] rfl rfl (by kernel_rfl) (fun _ _ _ h => h) (Or.inl ⟨by rfl, ?_⟩) ?_ ?_
     rotate_left
     ·intro w'
      go_simp
      with_reducible rfl
     rotate_left
     ·simp only [Act.put, List.setIfInBounds_toArray, List.set_cons_zero, List.set_cons_succ, i64_w, i32_w]
      rfl
     refine pure_ (i := 4) (N := some 26) (v := ?_) (a' := ?_) #[true, true, true, false, true, false, false, false] rfl rfl (by kernel_rfl) (fun _ _ _ h => h) (Or.inl ⟨by rfl, ?_⟩) ?_ ?_
     rotate_left
     ·intro w'
      go_simp
      with_reducible rfl
     rotate_left
     ·simp only [Act.put, List.setIfInBounds_toArray, List.set_cons_zero, List.set_cons_succ, i64_w, i32_w]
      rfl
     refine pure_ (i := 5) (N := some 27) (v := ?_) (a' := ?_) #[true, true, true, false, true, true, false, false] rfl rfl (by kernel_rfl) (fun _ _ _ h => h) (Or.inl ⟨by rfl, ?_⟩) ?_ ?_
     rotate_left
     ·intro w'
      go_simp
      with_reducible rfl
     rotate_left
     ·simp only [Act.put, List.setIfInBounds_toArray, List.set_cons_zero, List.set_cons_succ, i64_w, i32_w]
      rfl
     refine take_ (i := 3) (N := some 25) (v := ?_) (a' := ?_) #[true, true, true, true, true, true, false, false] rfl rfl (by kernel_rfl) (fun _ _ _ h => h) (Or.inl ⟨by rfl, ?_⟩) hHeld ?_ ?_
     rotate_left
     ·rintro w' ⟨s0, s1⟩
      go_simp
      with_reducible rfl
     rotate_left
     ·simp only [Act.put, List.setIfInBounds_toArray, List.set_cons_zero, List.set_cons_succ, i64_w, i32_w]
      rfl
     refine take_ (i := 6) (N := some 28) (v := ?_) (a' := ?_) #[true, true, true, true, true, true, true, false] rfl rfl (by kernel_rfl) (fun _ _ _ h => h) (Or.inl ⟨by rfl, ?_⟩) hHeld ?_ ?_
     rotate_left
     ·rintro w' ⟨s0, s1⟩
      go_simp
      with_reducible rfl
     rotate_left
     ·simp only [Act.put, List.setIfInBounds_toArray, List.set_cons_zero, List.set_cons_succ, i64_w, i32_w]
      rfl
     refine pure_ (i := 7) (N := some 29) (v := ?_) (a' := ?_) #[true, true, true, true, true, true, true, true] rfl rfl (by kernel_rfl) (fun _ _ _ h => h) (Or.inl ⟨by rfl, ?_⟩) ?_ ?_
     rotate_left
     ·intro w'
      go_simp
      with_reducible rfl
     rotate_left
     ·simp only [Act.put, List.setIfInBounds_toArray, List.set_cons_zero, List.set_cons_succ, i64_w, i32_w]
      rfl
     refine done_ (by kernel_rfl) ?_
     have hfin : decide (a = D) = false := decide_eq_false (HNE.out hxy)
     go_wp2_with fail
     go_ret
     exact ⟨by first | (rw [hfin]; rfl) | rfl, below_drew1 HB.out⟩
   ·have hge : ¬ (i : Int) < 16 := by omega
    have ei : i = 16 := by omega
    have hfin : decide (a = D) = true := decide_eq_true (by
     have h := HT.out
     rw [ei, List.take_of_length_le (Nat.le_of_eq HN.out), List.take_of_length_le (Nat.le_of_eq HDL.out)] at h
     exact h)
    go_wp2_with fail
    go_ret
    exact ⟨by first | (rw [hfin]; rfl) | rfl, HB.out⟩
 ·have hne : ((N : Int) != 16) = true := by simp; omega
  have hn2 : ¬ (N : Int) = 16 := by omega
  have hfin : decide (a = D) = false := decide_eq_false (fun e => h16 (by rw [← HN.out, e, HDL.out]))
  go_wp2_with fail
  go_ret
  exact ⟨by first | (rw [hfin]; rfl) | rfl, HB.out⟩
set_option maxRecDepth 100000 in
set_option maxHeartbeats 8000000 in
theorem right_calls (id : Int) (s : ByteArray) (A : Option Addr) (c : Nat) (l : List Int) (A2 : Option Addr) (c2 : Nat) (a : List Int) (w : World) (hC : (Kd.int .u8).C w A l.length l) (hc : l.length ≤ c) (hB : isB l = true) (hs : s.size ≤ 100000) (hl : l.length ≤ 100000) (hC2 : (Kd.int .u8).C w A2 a.length a) (hc2 : a.length ≤ c2)  :
  Calls Tryd.prog 24 #[.int .i64 id, .string s, .slice A l.length c, .slice A2 a.length c2] w fun e w' => e = .returned (.bool (rightF id s l a)) ∧ Below w.heap.size w w' := by
 have HC2 := Aside0.mk hC2
 obtain ⟨o0, o1, o2, o3, o4, o5, o6, o7, o8, o9, o10, o11, o12, o13, o14, o15, hO⟩ := out_cells (ansOf id s l)
 have hD := digest_cells hO
 have HRF := Aside0.mk (show rightF id s l a = decide (a = [o0, o1, o2, o3, o4, o5, o6, o7, o8, o9, o10, o11, o12, o13, o14, o15]) by unfold rightF; rw [hD])
 rw [HRF.out]
 have HAN := Aside0.mk (show ∀ W, Below w.heap.size w W → Calls Tryd.prog 22 #[.int .i64 id, .string s, .slice A l.length c] W fun e w' => e = .returned (.agg #[.int .u8 o0, .int .u8 o1, .int .u8 o2, .int .u8 o3, .int .u8 o4, .int .u8 o5, .int .u8 o6, .int .u8 o7, .int .u8 o8, .int .u8 o9, .int .u8 o10, .int .u8 o11, .int .u8 o12, .int .u8 o13, .int .u8 o14, .int .u8 o15]) ∧ Below W.heap.size W w' from fun W hb => by
  rw [← hO]
  exact answer_calls id s A c l W (Kd.C_below hC hb) hc hB hs hl)
 have HB := Aside0.mk (Below.refl w.heap.size w)
 obtain ⟨L, hL⟩ : ∃ L, l.length = L := ⟨_, rfl⟩
 obtain ⟨N, hN⟩ : ∃ N, a.length = N := ⟨_, rfl⟩
 have HN := Aside0.mk hN
 have hN2 := hC2.2.1
 rw [hL] at HAN ⊢
 rw [hN] at hc2 hN2 ⊢
 by_cases h16 : N = 16
 ·have hn16 : ((N : Int) == 16) = true := by simp; omega
  subst h16
  obtain ⟨ad, rfl, _⟩ := Kd.at_int hC2 0 (by omega) (by omega)
  obtain ⟨x0, x1, x2, x3, x4, x5, x6, x7, x8, x9, x10, x11, x12, x13, x14, x15, ha⟩ := row16 a hN
  have HLD := Aside0.mk (show ∀ W, Below w.heap.size w W → W.cell? ad = some (.int .u8 x0) ∧ W.cell? ⟨ad.block, ad.off + 1, none⟩ = some (.int .u8 x1) ∧ W.cell? ⟨ad.block, ad.off + 2, none⟩ = some (.int .u8 x2) ∧ W.cell? ⟨ad.block, ad.off + 3, none⟩ = some (.int .u8 x3) ∧ W.cell? ⟨ad.block, ad.off + 4, none⟩ = some (.int .u8 x4) ∧ W.cell? ⟨ad.block, ad.off + 5, none⟩ = some (.int .u8 x5) ∧ W.cell? ⟨ad.block, ad.off + 6, none⟩ = some (.int .u8 x6) ∧ W.cell? ⟨ad.block, ad.off + 7, none⟩ = some (.int .u8 x7) ∧ W.cell? ⟨ad.block, ad.off + 8, none⟩ = some (.int .u8 x8) ∧ W.cell? ⟨ad.block, ad.off + 9, none⟩ = some (.int .u8 x9) ∧ W.cell? ⟨ad.block, ad.off + 10, none⟩ = some (.int .u8 x10) ∧ W.cell? ⟨ad.block, ad.off + 11, none⟩ = some (.int .u8 x11) ∧ W.cell? ⟨ad.block, ad.off + 12, none⟩ = some (.int .u8 x12) ∧ W.cell? ⟨ad.block, ad.off + 13, none⟩ = some (.int .u8 x13) ∧ W.cell? ⟨ad.block, ad.off + 14, none⟩ = some (.int .u8 x14) ∧ W.cell? ⟨ad.block, ad.off + 15, none⟩ = some (.int .u8 x15) from fun W hb => cells16 (by have h := Kd.C_below hC2 hb; rw [ha] at h; exact h))
  have hAA : ∀ W, (Instr.arrayAt 24 (.slice (some ad) 16 c2)).run Tryd.prog W = .ok (.pointer (some ad)) W := fun W => run_arrayAt _ _ _ 16 _ _ _ Tryd.underlying24 (Nat.le_refl _)
  have heq := fun W => eq16g x0 x1 x2 x3 x4 x5 x6 x7 x8 x9 x10 x11 x12 x13 x14 x15 o0 o1 o2 o3 o4 o5 o6 o7 o8 o9 o10 o11 o12 o13 o14 o15 W
  rw [ha]
  generalize decide ([x0, x1, x2, x3, x4, x5, x6, x7, x8, x9, x10, x11, x12, x13, x14, x15] = [o0, o1, o2, o3, o4, o5, o6, o7, o8, o9, o10, o11, o12, o13, o14, o15]) = b at heq ⊢
  clear hC hc hB hs hl hC2 hO hD hL hN HRF ha HC2 HN
  go_enter Tryd.func24, Tryd.ntmps24
  go_wp2_with fail
  refine start_ (n := 14) (S := fun w' => w'.cell? ad = some (.int .u8 x0) ∧ w'.cell? ⟨ad.block, ad.off + 1, none⟩ = some (.int .u8 x1) ∧ w'.cell? ⟨ad.block, ad.off + 2, none⟩ = some (.int .u8 x2) ∧ w'.cell? ⟨ad.block, ad.off + 3, none⟩ = some (.int .u8 x3) ∧ w'.cell? ⟨ad.block, ad.off + 4, none⟩ = some (.int .u8 x4) ∧ w'.cell? ⟨ad.block, ad.off + 5, none⟩ = some (.int .u8 x5) ∧ w'.cell? ⟨ad.block, ad.off + 6, none⟩ = some (.int .u8 x6) ∧ w'.cell? ⟨ad.block, ad.off + 7, none⟩ = some (.int .u8 x7) ∧ w'.cell? ⟨ad.block, ad.off + 8, none⟩ = some (.int .u8 x8) ∧ w'.cell? ⟨ad.block, ad.off + 9, none⟩ = some (.int .u8 x9) ∧ w'.cell? ⟨ad.block, ad.off + 10, none⟩ = some (.int .u8 x10) ∧ w'.cell? ⟨ad.block, ad.off + 11, none⟩ = some (.int .u8 x11) ∧ w'.cell? ⟨ad.block, ad.off + 12, none⟩ = some (.int .u8 x12) ∧ w'.cell? ⟨ad.block, ad.off + 13, none⟩ = some (.int .u8 x13) ∧ w'.cell? ⟨ad.block, ad.off + 14, none⟩ = some (.int .u8 x14) ∧ w'.cell? ⟨ad.block, ad.off + 15, none⟩ = some (.int .u8 x15)) (ds := []) #[false, false, false, false, false, false, false, false, false, false, false, false, false, false] (by kernel_rfl) rfl rfl ⟨(HLD.out _ (below_drew1 HB.out)).1, (HLD.out _ (below_drew1 HB.out)).2.1, (HLD.out _ (below_drew1 HB.out)).2.2.1, (HLD.out _ (below_drew1 HB.out)).2.2.2.1, (HLD.out _ (below_drew1 HB.out)).2.2.2.2.1, (HLD.out _ (below_drew1 HB.out)).2.2.2.2.2.1, (HLD.out _ (below_drew1 HB.out)).2.2.2.2.2.2.1, (HLD.out _ (below_drew1 HB.out)).2.2.2.2.2.2.2.1, (HLD.out _ (below_drew1 HB.out)).2.2.2.2.2.2.2.2.1, (HLD.out _ (below_drew1 HB.out)).2.2.2.2.2.2.2.2.2.1, (HLD.out _ (below_drew1 HB.out)).2.2.2.2.2.2.2.2.2.2.1, (HLD.out _ (below_drew1 HB.out)).2.2.2.2.2.2.2.2.2.2.2.1, (HLD.out _ (below_drew1 HB.out)).2.2.2.2.2.2.2.2.2.2.2.2.1, (HLD.out _ (below_drew1 HB.out)).2.2.2.2.2.2.2.2.2.2.2.2.2.1, (HLD.out _ (below_drew1 HB.out)).2.2.2.2.2.2.2.2.2.2.2.2.2.2.1, (HLD.out _ (below_drew1 HB.out)).2.2.2.2.2.2.2.2.2.2.2.2.2.2.2⟩ (fun hHeld => ?_)
  refine pure_ (i := 0) (N := some 9) (v := ?_) (a' := ?_) #[true, false, false, false, false, false, false, false, false, false, false, false, false, false] rfl rfl (by kernel_rfl) (fun _ _ _ h => h) (Or.inl ⟨by rfl, ?_⟩) ?_ ?_
  rotate_left
  ·intro w'
   go_simp
   with_reducible rfl
  rotate_left
  ·simp only [Act.put, List.setIfInBounds_toArray, List.set_cons_zero, List.set_cons_succ, i64_w, i32_w]
   rfl
  refine pure_ (i := 1) (N := some 10) (v := ?_) (a' := ?_) #[true, true, false, false, false, false, false, false, false, false, false, false, false, false] rfl rfl (by kernel_rfl) (fun _ _ _ h => h) (Or.inl ⟨by rfl, ?_⟩) ?_ ?_
  rotate_left
  ·intro w'
   go_simp
   with_reducible rfl
  rotate_left
  ·simp only [Act.put, List.setIfInBounds_toArray, List.set_cons_zero, List.set_cons_succ, i64_w, i32_w]
   rfl
  refine pure_ (i := 2) (N := some 11) (v := ?_) (a' := ?_) #[true, true, true, false, false, false, false, false, false, false, false, false, false, false] rfl rfl (by kernel_rfl) (fun _ _ _ h => h) (Or.inl ⟨by rfl, ?_⟩) ?_ ?_
  rotate_left
  ·intro w'
   go_simp
   with_reducible rfl
  rotate_left
  ·simp only [Act.put, List.setIfInBounds_toArray, List.set_cons_zero, List.set_cons_succ, i64_w, i32_w]
   rfl
  refine pure_ (i := 3) (N := some 12) (v := ?_) (a' := ?_) #[true, true, true, true, false, false, false, false, false, false, false, false, false, false] rfl rfl (by kernel_rfl) (fun _ _ _ h => h) (Or.inl ⟨by rfl, ?_⟩) ?_ ?_
  rotate_left
  ·intro w'
   go_simp
   with_reducible rfl
  rotate_left
  ·simp only [Act.put, List.setIfInBounds_toArray, List.set_cons_zero, List.set_cons_succ, i64_w, i32_w]
   rfl
  refine pure_ (i := 4) (N := some 13) (v := ?_) (a' := ?_) #[true, true, true, true, true, false, false, false, false, false, false, false, false, false] rfl rfl (by kernel_rfl) (fun _ _ _ h => h) (Or.inl ⟨by rfl, ?_⟩) ?_ ?_
  rotate_left
  ·intro w'
   go_simp
   with_reducible rfl
  rotate_left
  ·simp only [Act.put, List.setIfInBounds_toArray, List.set_cons_zero, List.set_cons_succ, i64_w, i32_w]
   rfl
  refine pure_ (i := 5) (N := some 14) (v := ?_) (a' := ?_) #[true, true, true, true, true, true, false, false, false, false, false, false, false, false] rfl rfl (by kernel_rfl) (fun _ _ _ h => h) (Or.inl ⟨by rfl, ?_⟩) ?_ ?_
  rotate_left
  ·intro w'
   go_simp
   with_reducible rfl
  rotate_left
  ·simp only [Act.put, List.setIfInBounds_toArray, List.set_cons_zero, List.set_cons_succ, i64_w, i32_w]
   rfl
  refine pure_ (i := 7) (N := some 16) (v := ?_) (a' := ?_) #[true, true, true, true, true, true, false, true, false, false, false, false, false, false] rfl rfl (by kernel_rfl) (fun _ _ _ h => h) (Or.inl ⟨by rfl, ?_⟩) ?_ ?_
  rotate_left
  ·intro w'
   go_simp
   with_reducible rfl
  rotate_left
  ·simp only [Act.put, List.setIfInBounds_toArray, List.set_cons_zero, List.set_cons_succ, i64_w, i32_w]
   rfl
  refine pure_ (i := 8) (N := some 17) (v := ?_) (a' := ?_) #[true, true, true, true, true, true, false, true, true, false, false, false, false, false] rfl rfl (by kernel_rfl) (fun _ _ _ h => h) (Or.inl ⟨by rfl, ?_⟩) ?_ ?_
  rotate_left
  ·intro w'
   go_simp
   with_reducible rfl
  rotate_left
  ·simp only [Act.put, List.setIfInBounds_toArray, List.set_cons_zero, List.set_cons_succ, i64_w, i32_w]
   rfl
  refine pure_ (i := 9) (N := some 18) (v := ?_) (a' := ?_) #[true, true, true, true, true, true, false, true, true, true, false, false, false, false] rfl rfl (by kernel_rfl) (fun _ _ _ h => h) (Or.inl ⟨by rfl, ?_⟩) ?_ ?_
  rotate_left
  ·intro w'
   go_simp
   with_reducible rfl
  rotate_left
  ·simp only [Act.put, List.setIfInBounds_toArray, List.set_cons_zero, List.set_cons_succ, i64_w, i32_w]
   rfl
  refine take_ (i := 6) (N := some 15) (v := ?_) (a' := ?_) #[true, true, true, true, true, true, true, true, true, true, false, false, false, false] rfl rfl (by kernel_rfl) (fun _ _ _ h => h) (Or.inl ⟨by rfl, ?_⟩) hHeld ?_ ?_
  rotate_left
  ·rintro w' ⟨s0, s1, s2, s3, s4, s5, s6, s7, s8, s9, s10, s11, s12, s13, s14, s15⟩
   go_simp
   with_reducible rfl
  rotate_left
  ·simp only [Act.put, List.setIfInBounds_toArray, List.set_cons_zero, List.set_cons_succ, i64_w, i32_w]
   rfl
  refine one_ (i := 10) (N := some 19) #[true, true, true, true, true, true, true, true, true, true, true, false, false, false] rfl rfl (by kernel_rfl) (by decide) (fun K hK => ?_)
  refine goes_ Tryd.func22 (by kernel_rfl) rfl #[.int .i64 id, .string s, .slice A L c] (by rfl) rfl rfl (by simp only [List.map_toArray, List.map_cons, List.map_nil]; rfl) ?_
  with_reducible refine (HAN.out _ (below_drew1 HB.out)).mono ?_
  rintro e w3 ⟨rfl, hbn⟩
  refine ⟨_, rfl, ?_⟩
  have HB3 := Aside0.mk (below_step (below_drew1 HB.out) hbn)
  clear hbn
  refine hK.out _ _ ⟨(HLD.out _ HB3.out).1, (HLD.out _ HB3.out).2.1, (HLD.out _ HB3.out).2.2.1, (HLD.out _ HB3.out).2.2.2.1, (HLD.out _ HB3.out).2.2.2.2.1, (HLD.out _ HB3.out).2.2.2.2.2.1, (HLD.out _ HB3.out).2.2.2.2.2.2.1, (HLD.out _ HB3.out).2.2.2.2.2.2.2.1, (HLD.out _ HB3.out).2.2.2.2.2.2.2.2.1, (HLD.out _ HB3.out).2.2.2.2.2.2.2.2.2.1, (HLD.out _ HB3.out).2.2.2.2.2.2.2.2.2.2.1, (HLD.out _ HB3.out).2.2.2.2.2.2.2.2.2.2.2.1, (HLD.out _ HB3.out).2.2.2.2.2.2.2.2.2.2.2.2.1, (HLD.out _ HB3.out).2.2.2.2.2.2.2.2.2.2.2.2.2.1, (HLD.out _ HB3.out).2.2.2.2.2.2.2.2.2.2.2.2.2.2.1, (HLD.out _ HB3.out).2.2.2.2.2.2.2.2.2.2.2.2.2.2.2⟩ (fun hHeld => ?_)
  clear hK K
  refine norm_ (a' := ?_) ?_ ?_
  rotate_left
  ·show Act.put _ (some 19) _ = _
   simp only [Act.put, List.setIfInBounds_toArray, List.set_cons_zero, List.set_cons_succ, i64_w, i32_w]
   rfl
  refine pure_ (i := 11) (N := some 20) (v := ?_) (a' := ?_) #[true, true, true, true, true, true, true, true, true, true, true, true, false, false] rfl rfl (by kernel_rfl) (fun _ _ _ h => h) (Or.inl ⟨by rfl, ?_⟩) ?_ ?_
  rotate_left
  ·intro w'
   go_simp
   with_reducible rfl
  rotate_left
  ·simp only [Act.put, List.setIfInBounds_toArray, List.set_cons_zero, List.set_cons_succ, i64_w, i32_w]
   rfl
  refine pure_ (i := 12) (N := some 21) (v := ?_) (a' := ?_) #[true, true, true, true, true, true, true, true, true, true, true, true, true, false] rfl rfl (by kernel_rfl) (fun _ _ _ h => h) (Or.inl ⟨by rfl, ?_⟩) ?_ ?_
  rotate_left
  ·intro w'
   go_simp
   with_reducible rfl
  rotate_left
  ·simp only [Act.put, List.setIfInBounds_toArray, List.set_cons_zero, List.set_cons_succ, i64_w, i32_w]
   rfl
  refine pure_ (i := 13) (N := some 8) (v := ?_) (a' := ?_) #[true, true, true, true, true, true, true, true, true, true, true, true, true, true] rfl rfl (by kernel_rfl) (fun _ _ _ h => h) (Or.inl ⟨by rfl, ?_⟩) ?_ ?_
  rotate_left
  ·intro w'
   go_simp
   with_reducible rfl
  rotate_left
  ·simp only [Act.put, List.setIfInBounds_toArray, List.set_cons_zero, List.set_cons_succ, i64_w, i32_w]
   rfl
  refine done_ (by kernel_rfl) ?_
  go_wp2
  go_ret
  exact ⟨by first | rfl | simp, HB3.out⟩
 ·have hn16 : ((N : Int) == 16) = false := by simp; omega
  have hfin : decide (a = [o0, o1, o2, o3, o4, o5, o6, o7, o8, o9, o10, o11, o12, o13, o14, o15]) = false := decide_eq_false (fun e => h16 (by rw [← hN, e]; rfl))
  rw [hfin]
  clear hC hc hB hs hl hC2 hO hD hL hN HRF HC2 HN hfin
  go_enter Tryd.func24, Tryd.ntmps24
  go_wp2_with fail
  refine start_ (n := 14) (S := fun w' => True) (ds := []) #[false, false, false, false, false, false, false, false, false, false, false, false, false, false] (by kernel_rfl) rfl rfl trivial (fun hHeld => ?_)
  refine pure_ (i := 0) (N := some 9) (v := ?_) (a' := ?_) #[true, false, false, false, false, false, false, false, false, false, false, false, false, false] rfl rfl (by kernel_rfl) (fun _ _ _ h => h) (Or.inl ⟨by rfl, ?_⟩) ?_ ?_
  rotate_left
  ·intro w'
   go_simp
   with_reducible rfl
  rotate_left
  ·simp only [Act.put, List.setIfInBounds_toArray, List.set_cons_zero, List.set_cons_succ, i64_w, i32_w]
   rfl
  refine pure_ (i := 1) (N := some 10) (v := ?_) (a' := ?_) #[true, true, false, false, false, false, false, false, false, false, false, false, false, false] rfl rfl (by kernel_rfl) (fun _ _ _ h => h) (Or.inl ⟨by rfl, ?_⟩) ?_ ?_
  rotate_left
  ·intro w'
   go_simp
   with_reducible rfl
  rotate_left
  ·simp only [Act.put, List.setIfInBounds_toArray, List.set_cons_zero, List.set_cons_succ, i64_w, i32_w]
   rfl
  refine pure_ (i := 2) (N := some 11) (v := ?_) (a' := ?_) #[true, true, true, false, false, false, false, false, false, false, false, false, false, false] rfl rfl (by kernel_rfl) (fun _ _ _ h => h) (Or.inl ⟨by rfl, ?_⟩) ?_ ?_
  rotate_left
  ·intro w'
   go_simp
   with_reducible rfl
  rotate_left
  ·simp only [Act.put, List.setIfInBounds_toArray, List.set_cons_zero, List.set_cons_succ, i64_w, i32_w]
   rfl
  refine pure_ (i := 3) (N := some 12) (v := ?_) (a' := ?_) #[true, true, true, true, false, false, false, false, false, false, false, false, false, false] rfl rfl (by kernel_rfl) (fun _ _ _ h => h) (Or.inl ⟨by rfl, ?_⟩) ?_ ?_
  rotate_left
  ·intro w'
   go_simp
   with_reducible rfl
  rotate_left
  ·simp only [Act.put, List.setIfInBounds_toArray, List.set_cons_zero, List.set_cons_succ, i64_w, i32_w]
   rfl
  refine pure_ (i := 4) (N := some 13) (v := undef) (a' := ?_) #[true, true, true, true, true, false, false, false, false, false, false, false, false, false] rfl rfl (by kernel_rfl) (fun _ _ _ h => h) (Or.inr ⟨by rfl, rfl⟩) ?_ ?_
  rotate_left
  ·simp only [Act.put, List.setIfInBounds_toArray, List.set_cons_zero, List.set_cons_succ, i64_w, i32_w]
   rfl
  refine pure_ (i := 5) (N := some 14) (v := undef) (a' := ?_) #[true, true, true, true, true, true, false, false, false, false, false, false, false, false] rfl rfl (by kernel_rfl) (fun _ _ _ h => h) (Or.inr ⟨by rfl, rfl⟩) ?_ ?_
  rotate_left
  ·simp only [Act.put, List.setIfInBounds_toArray, List.set_cons_zero, List.set_cons_succ, i64_w, i32_w]
   rfl
  refine pure_ (i := 6) (N := some 15) (v := undef) (a' := ?_) #[true, true, true, true, true, true, true, false, false, false, false, false, false, false] rfl rfl (by kernel_rfl) (fun _ _ _ h => h) (Or.inr ⟨by rfl, rfl⟩) ?_ ?_
  rotate_left
  ·simp only [Act.put, List.setIfInBounds_toArray, List.set_cons_zero, List.set_cons_succ, i64_w, i32_w]
   rfl
  refine pure_ (i := 7) (N := some 16) (v := undef) (a' := ?_) #[true, true, true, true, true, true, true, true, false, false, false, false, false, false] rfl rfl (by kernel_rfl) (fun _ _ _ h => h) (Or.inr ⟨by rfl, rfl⟩) ?_ ?_
  rotate_left
  ·simp only [Act.put, List.setIfInBounds_toArray, List.set_cons_zero, List.set_cons_succ, i64_w, i32_w]
   rfl
  refine pure_ (i := 8) (N := some 17) (v := undef) (a' := ?_) #[true, true, true, true, true, true, true, true, true, false, false, false, false, false] rfl rfl (by kernel_rfl) (fun _ _ _ h => h) (Or.inr ⟨by rfl, rfl⟩) ?_ ?_
  rotate_left
  ·simp only [Act.put, List.setIfInBounds_toArray, List.set_cons_zero, List.set_cons_succ, i64_w, i32_w]
   rfl
  refine pure_ (i := 9) (N := some 18) (v := undef) (a' := ?_) #[true, true, true, true, true, true, true, true, true, true, false, false, false, false] rfl rfl (by kernel_rfl) (fun _ _ _ h => h) (Or.inr ⟨by rfl, rfl⟩) ?_ ?_
  rotate_left
  ·simp only [Act.put, List.setIfInBounds_toArray, List.set_cons_zero, List.set_cons_succ, i64_w, i32_w]
   rfl
  refine pure_ (i := 10) (N := some 19) (v := undef) (a' := ?_) #[true, true, true, true, true, true, true, true, true, true, true, false, false, false] rfl rfl (by kernel_rfl) (fun _ _ _ h => h) (Or.inr ⟨by rfl, rfl⟩) ?_ ?_
  rotate_left
  ·simp only [Act.put, List.setIfInBounds_toArray, List.set_cons_zero, List.set_cons_succ, i64_w, i32_w]
   rfl
  refine pure_ (i := 11) (N := some 20) (v := undef) (a' := ?_) #[true, true, true, true, true, true, true, true, true, true, true, true, false, false] rfl rfl (by kernel_rfl) (fun _ _ _ h => h) (Or.inr ⟨by rfl, rfl⟩) ?_ ?_
  rotate_left
  ·simp only [Act.put, List.setIfInBounds_toArray, List.set_cons_zero, List.set_cons_succ, i64_w, i32_w]
   rfl
  refine pure_ (i := 12) (N := some 21) (v := ?_) (a' := ?_) #[true, true, true, true, true, true, true, true, true, true, true, true, true, false] rfl rfl (by kernel_rfl) (fun _ _ _ h => h) (Or.inl ⟨by rfl, ?_⟩) ?_ ?_
  rotate_left
  ·intro w'
   go_simp
   with_reducible rfl
  rotate_left
  ·simp only [Act.put, List.setIfInBounds_toArray, List.set_cons_zero, List.set_cons_succ, i64_w, i32_w]
   rfl
  refine pure_ (i := 13) (N := some 8) (v := ?_) (a' := ?_) #[true, true, true, true, true, true, true, true, true, true, true, true, true, true] rfl rfl (by kernel_rfl) (fun _ _ _ h => h) (Or.inl ⟨by rfl, ?_⟩) ?_ ?_
  rotate_left
  ·intro w'
   go_simp
   with_reducible rfl
  rotate_left
  ·simp only [Act.put, List.setIfInBounds_toArray, List.set_cons_zero, List.set_cons_succ, i64_w, i32_w]
   rfl
  refine done_ (by kernel_rfl) ?_
  go_wp2
  go_ret
  exact ⟨rfl, below_drew1 HB.out⟩
end Go.Proofs.YtgadhmoifhoilaaDoor.Chap
