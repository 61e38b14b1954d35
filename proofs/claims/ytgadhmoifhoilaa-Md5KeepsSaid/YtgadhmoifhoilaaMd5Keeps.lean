/-
  The law Md5Keeps, walked.
-/
import Derived.Test.YtgadhmoifhoilaaMd5Parts
import Derived.Laws.CopyOwn
namespace Go.Proofs.Ytgadhmoifhoilaa.Md5
open Go.RowKit Go.Lib Go.Proofs.YtgadhmoifhoilaaW.PrintWords Go.Proofs.YtgadhmoifhoilaaW.PrintLast Go.Proofs.YtgadhmoifhoilaaW.PrintMore Go.Proofs.Ytgadhmoifhoilaa.Kit

/-- The room: the data, j sevens, zeros up to a hundred. -/
def roomL (l : List Int) (j : Nat) : List Int := l ++ (List.replicate j 7 ++ List.replicate (100 - j) 0)
theorem roomL_len (l : List Int) (j : Nat) (h : j ≤ 100) : (roomL l j).length = l.length + 100 := by simp [roomL]; omega
theorem roomL_set (l : List Int) (j i : Nat) (h : j < 100) (hi : i = l.length + j) : (nums .u8 (roomL l j)).toArray.setIfInBounds i (.int .u8 7) = (nums .u8 (roomL l (j + 1))).toArray := by
  subst hi
  have e : (roomL l j).set (l.length + j) 7 = roomL l (j + 1) := by
    unfold roomL
    rw [List.set_append_right _ _ (by omega), show l.length + j - l.length = j from by omega, List.set_append_right _ _ (by simp), List.length_replicate, Nat.sub_self, show 100 - j = (99 - j) + 1 from by omega, List.replicate_succ, List.set_cons_zero, show 100 - (j + 1) = 99 - j from by omega]
    congr 1
    rw [show j + 1 = j + 1 from rfl, List.replicate_succ', List.append_assoc]
    rfl
  rw [← e]
  simp [nums, List.map_set]
theorem roomL_seven (l : List Int) (i : Nat) (h0 : l.length ≤ i) (h1 : i < l.length + 100) : (nums .u8 (roomL l 100)).toArray[i]? = some (.int .u8 7) := by
  unfold nums roomL
  simp only [List.getElem?_toArray, List.getElem?_map]
  rw [List.getElem?_append_right h0, List.getElem?_append_left (by simp; omega), List.getElem?_replicate, if_pos (by omega)]
  rfl
theorem roomL_some (l : List Int) (j i : Nat) (hj : j ≤ 100) (h1 : i < l.length + 100) : ∃ v, (nums .u8 (roomL l j)).toArray[i]? = some v := by
  have : i < (nums .u8 (roomL l j)).toArray.size := by simp [nums, roomL_len l j hj]; omega
  exact ⟨_, Array.getElem?_eq_getElem this⟩
theorem made_zero (n : Nat) : madeCells #[.int .u8 0] n = (List.replicate n (Value.int .u8 0)).toArray := by
  apply Array.ext
  · simp [madeCells]
  · intro i h1 h2
    simp [madeCells, Nat.mod_one]
theorem room_start (l : List Int) : splice (List.replicate (l.length + 100) (Value.int .u8 0)) 0 (nums .u8 l) = nums .u8 (roomL l 0) := by
  unfold splice roomL nums
  simp

theorem out_cells (s : St) : ∃ o0 o1 o2 o3 o4 o5 o6 o7 o8 o9 o10 o11 o12 o13 o14 o15 : Int, s.out = #[.int .u8 o0, .int .u8 o1, .int .u8 o2, .int .u8 o3, .int .u8 o4, .int .u8 o5, .int .u8 o6, .int .u8 o7, .int .u8 o8, .int .u8 o9, .int .u8 o10, .int .u8 o11, .int .u8 o12, .int .u8 o13, .int .u8 o14, .int .u8 o15] := ⟨_, _, _, _, _, _, _, _, _, _, _, _, _, _, _, _, rfl⟩
theorem sum_at (l : List Int) (L : Nat) (hL : l.length = L) (O : Array Value) (hO : (sumOf l).out = O) (W : World) (g : Nat) (A : Option Addr) (c : Nat) (t : TypeId) (hb : W.heap[g]? = some (.cells #[.slice A L c] t (0, 0))) (hC : (Kd.int .u8).C W A L l) (hc : L ≤ c) (hl : L ≤ 1000000) (hB : isB l = true) :
    Calls Try.prog 6 #[.slice (some ⟨g, 0, none⟩) 1 1] W fun e w' => e = .returned (.agg O) ∧ Below W.heap.size W w' := by
  subst hL
  subst hO
  exact sum1 hb hC hc hl hB

structure RoomInv (w : World) (l : List Int) (g : Nat) (j : Nat) (wr : World) : Prop where
  bel : Below w.heap.size w wr
  row : wr.heap[g]? = some (.cells (nums .u8 (roomL l j)).toArray 5 (0, 0))

set_option maxRecDepth 100000 in
set_option maxHeartbeats 4000000 in
theorem md5Keeps_law (Aa0 : Option Addr) (ca0 : Nat) (a0 : List Int) (w : World) (la0 : a0.length ≤ ca0) (ra0 : (Kd.int .u8).C w Aa0 a0.length a0) (wa0 : ∀ n ∈ a0, (Lit.int .u8 n).wf = true) :
    Calls Try.prog 4 #[.slice Aa0 a0.length ca0] w fun e w' => e = .returned (.bool true) ∧ Below w.heap.size w w' := by
  have hB := isB_of_wf wa0
  have HB := Aside0.mk hB
  have HC := Aside0.mk ra0
  have HL := Aside0.mk la0
  clear wa0 hB ra0
  obtain ⟨L, hL⟩ : ∃ L, a0.length = L := ⟨_, rfl⟩
  have HLE := Aside0.mk hL
  rw [hL] at la0 ⊢
  clear hL
  by_cases hbig : 2000 < L
  · go_enter Try.func4, Try.ntmps4
    go_wp2_with fail
    refine (awake_calls _).mono ?_
    rintro e w1 ⟨rfl, hb1⟩
    have hb1 := Aside0.mk hb1
    go_wp2_with fail
    refine (awake_calls _).mono ?_
    rintro e w2 ⟨rfl, hb2⟩
    have hb2 := Aside0.mk hb2
    go_wp2_with fail
    go_ret
    exact ⟨rfl, below_step hb1.out hb2.out⟩
  · have hsm : L ≤ 2000 := by omega
    obtain ⟨o0, o1, o2, o3, o4, o5, o6, o7, o8, o9, o10, o11, o12, o13, o14, o15, hO⟩ := out_cells (sumOf a0)
    have HS := Aside0.mk (sum_at a0 L HLE.out _ hO)
    have heq : ∀ W, (binOp .eql 25 (.agg #[.int .u8 o0, .int .u8 o1, .int .u8 o2, .int .u8 o3, .int .u8 o4, .int .u8 o5, .int .u8 o6, .int .u8 o7, .int .u8 o8, .int .u8 o9, .int .u8 o10, .int .u8 o11, .int .u8 o12, .int .u8 o13, .int .u8 o14, .int .u8 o15]) (.agg #[.int .u8 o0, .int .u8 o1, .int .u8 o2, .int .u8 o3, .int .u8 o4, .int .u8 o5, .int .u8 o6, .int .u8 o7, .int .u8 o8, .int .u8 o9, .int .u8 o10, .int .u8 o11, .int .u8 o12, .int .u8 o13, .int .u8 o14, .int .u8 o15])).run Try.prog W = .ok (.bool true) W := by rw [← hO]; exact eq_out _
    clear hO
    obtain ⟨N, hN⟩ : ∃ N, L + 100 = N := ⟨_, rfl⟩
    have hmk := print_make_int (P := Try.prog) 22 5 (.int .u8 0) 1 Try.underlying22 info5 rfl (by decide) ((L : Int) + 100) (by omega) (by omega)
    rw [show ((L : Int) + 100).toNat = N from by omega, made_zero N] at hmk
    obtain ⟨Z, hZ⟩ : ∃ Z, (List.replicate N (Value.int .u8 0)).toArray = Z := ⟨_, rfl⟩
    rw [hZ] at hmk
    have HZ := Aside0.mk hZ
    have HN := Aside0.mk hN
    clear hZ hN
    go_enter Try.func4, Try.ntmps4
    go_wp2_with fail
    refine (awake_calls _).mono ?_
    rintro e w1 ⟨rfl, hb1⟩
    have HB1 := Aside0.mk hb1
    clear hb1
    have hbA : Below w.heap.size w (w1.alloc (.cells Z 5)) := below_alloc HB1.out _
    have hgA : (w1.alloc (.cells Z 5)).heap[w1.heap.size]? = some (.cells (List.replicate N (Value.int .u8 0)).toArray 5 (0, 0)) := by rw [HZ.out]; exact blk_new _ _
    have hcpos : 0 < (nums .u8 a0).length → ∃ ad, Aa0 = some ad ∧ ∀ j v, (nums .u8 a0)[j]? = some v → (w1.alloc (.cells Z 5)).cell? (ad.add j) = some v := fun hp => by
      have hr := Kd.reads_of_C (enc := Value.int .u8) (d := (0 : Int)) (h1 := fun _ => rfl) (Kd.C_below HC.out hbA)
      obtain ⟨ad, e, hc⟩ := hr.2.2 (by simpa [nums] using hp)
      refine ⟨ad, e, fun j v hj => ?_⟩
      have hjl : j < a0.length := by
        have := (List.getElem?_eq_some_iff.1 hj).1
        simpa [nums] using this
      rw [hc j hjl]
      simp [nums, hjl] at hj
      rw [← hj]
      simp [List.getD_eq_getElem?_getD, hjl]
    have HA := Aside0.mk hbA
    have HG := Aside0.mk hgA
    have HP := Aside0.mk hcpos
    have hlc : (nums .u8 a0).length = L := by rw [← HLE.out]; simp [nums]
    have HLC := Aside0.mk hlc
    clear hbA hgA hcpos hlc
    go_wp2_with (first | ((with_reducible refine gate_builtin (b := .copy) (xs := #[.tmp 19, .tmp 20]) rfl ?_); go_loud (refine wpList_copy_splice rfl (.tmp 19) (.tmp 20) 22 22 rfl 5 Try.underlying22 (by kernel_rfl) (some ⟨w1.heap.size, 0, none⟩) Aa0 N N L ca0 rfl rfl w1.heap.size 0 (List.replicate N (Value.int .u8 0)) 5 HG.out (nums .u8 a0) (by rw [HLC.out]; exact (Nat.min_eq_left (by have := HN.out; omega)).symm) (fun h => ⟨rfl, HP.out h⟩) (by rw [HLC.out, List.length_replicate]; have := HN.out; omega) (fun v hv => by simp [nums] at hv; obtain ⟨x, _, rfl⟩ := hv; rfl) w.heap.size w HA.out HB1.out.size ?_; intro w3 hblk3 hb3; have HB3 := Aside0.mk hb3; have HK3 := Aside0.mk hblk3; clear hb3 hblk3)))
    have hNs : N ≤ 2100 := by have := HN.out; omega
    have hg0 : w.heap.size ≤ w1.heap.size := HB1.out.size
    have hI0 : Aside0 (RoomInv w a0 w1.heap.size 0 w3) := ⟨⟨HB3.out, by
      have h := HK3.out.out
      rw [← HN.out, ← HLE.out, room_start] at h
      exact h⟩⟩
    generalize w1.heap.size = g at *
    have HG0 := Aside0.mk hg0
    clear hg0 HB1 HA HG HP HK3 HB3
    go_loopw [4] (fun v wr => ∃ j i : Nat, j ≤ 100 ∧ i = L + j ∧ v = .int .i64 i ∧ Aside0 (RoomInv w a0 g j wr)) (fun v _ => N - (intOf v).toNat)
    case atStart => exact ⟨0, L, by omega, by omega, rfl, hI0⟩
    case round =>
      clear hI0
      obtain ⟨j, i, hj, hij, rfl, HI⟩ := hrel
      have hNe := HN.out
      by_cases hlt : i < N
      · obtain ⟨v, hv⟩ := roomL_some a0 j i hj (by rw [HLE.out]; omega)
        have hz : wr.cell? ⟨g, i, none⟩ = some v := (blk_cell HI.out.row i).trans hv
        have hf := blk_frozen HI.out.row i
        have HJ := Aside0.mk (show RoomInv w a0 g (j + 1) (wr.setCell ⟨g, i, none⟩ (.int .u8 7)) from ⟨HI.out.bel.setCell (p := ⟨g, i, none⟩) HG0.out _, by rw [← roomL_set a0 j i (by omega) (by rw [HLE.out]; exact hij)]; exact blk_set HI.out.row i _⟩)
        have HIJ := Aside0.mk hij
        have HJ1 := Aside0.mk (show j + 1 ≤ 100 ∧ i + 1 = L + (j + 1) ∧ N - (i + 1) < N - i from by omega)
        clear hv HI hij hNe
        go_wp2
        exact ⟨⟨j + 1, i + 1, HJ1.out.1, HJ1.out.2.1, by go_num, HJ⟩, by have := HJ1.out.2.2; simp [intOf]; omega⟩
      · have hj1 : j = 100 := by omega
        have hi1 : i = N := by omega
        subst hj1
        subst hi1
        clear hij hNe hlt hj
        have hcL : (Kd.int .u8).C wr (some ⟨g, 0, none⟩) L a0 := by
          have h := Kd.C_take (m := L) (C_block HI.out.row rfl (by rw [roomL_len _ _ (by omega), HLE.out]; omega)) (by rw [roomL_len _ _ (by omega), HLE.out]; omega)
          have e : (roomL a0 100).take L = a0 := by unfold roomL; rw [← HLE.out, List.take_left]
          rw [e, HLE.out] at h
          exact h
        have HCL := Aside0.mk hcL
        have hLN : L ≤ i := by have := HN.out; omega
        have hcut : ∀ W, (Instr.slice 22 (.slice (some ⟨g, 0, none⟩) i i) none (some (.int .i64 (L : Int))) none).run Try.prog W = .ok (.slice (some ⟨g, 0, none⟩) L i) W := by
          obtain ⟨i0, hi0, _, _, _⟩ := info_parts info5
          intro W
          have := cut_to 22 5 .i64 Try.underlying22 hi0 (some ⟨g, 0, none⟩) i i (L : Int) (by omega) (by omega) (by omega) W
          simpa using this
        clear hcL
        go_wp2_with fail
        refine (HS.out _ _ (some ⟨g, 0, none⟩) i 22 (blk_new _ _) (Kd.C_below HCL.out (below_alloc (Below.refl _ _) _)) hLN (by omega) HB.out).mono ?_
        rintro e w4 ⟨rfl, hb4⟩
        have HB4 := Aside0.mk hb4
        clear hb4
        go_wp2_with fail
        generalize hw5 : w4.alloc (.cells #[.int .u8 o0, .int .u8 o1, .int .u8 o2, .int .u8 o3, .int .u8 o4, .int .u8 o5, .int .u8 o6, .int .u8 o7, .int .u8 o8, .int .u8 o9, .int .u8 o10, .int .u8 o11, .int .u8 o12, .int .u8 o13, .int .u8 o14, .int .u8 o15] 25) = w5
        have hx5 : w5.heap[w4.heap.size]? = some (.cells #[.int .u8 o0, .int .u8 o1, .int .u8 o2, .int .u8 o3, .int .u8 o4, .int .u8 o5, .int .u8 o6, .int .u8 o7, .int .u8 o8, .int .u8 o9, .int .u8 o10, .int .u8 o11, .int .u8 o12, .int .u8 o13, .int .u8 o14, .int .u8 o15] 25 (0, 0)) := by rw [← hw5]; exact blk_new _ _
        have hb5 : Below w.heap.size w w5 := by rw [← hw5]; exact below_alloc (below_step (below_alloc HI.out.bel _) HB4.out) _
        have hb6 : Below wr.heap.size wr w5 := by rw [← hw5]; exact below_alloc (below_step (below_alloc (Below.refl _ _) _) HB4.out) _
        have hr5 : w5.heap[g]? = some (.cells (nums .u8 (roomL a0 100)).toArray 5 (0, 0)) := blk_below HI.out.row hb6
        have HX5 := Aside0.mk hx5
        have HB5 := Aside0.mk hb5
        have HR5 := Aside0.mk hr5
        have HC5 := Aside0.mk (Kd.C_below HCL.out hb6)
        have HD5 := Aside0.mk (Kd.C_below HC.out hb5)
        generalize w4.heap.size = xb at *
        clear hw5 hx5 hb5 hb6 hr5 HB4 HI HCL
        go_loop [6] (fun v => ∃ m : Nat, L ≤ m ∧ m ≤ i ∧ v = .int .i64 m) (fun v => i - (intOf v).toNat)
        case atStart => exact ⟨L, by omega, by omega, rfl⟩
        case round =>
          obtain ⟨m, hm0, hm1, rfl⟩ := hrel
          by_cases hlt : m < i
          · have hz : w5.cell? ⟨g, m, none⟩ = some (.int .u8 7) := (blk_cell HR5.out m).trans (roomL_seven a0 m (by rw [HLE.out]; exact hm0) (by rw [HLE.out]; have := HN.out; omega))
            go_wp2
            exact ⟨⟨m + 1, by omega, by omega, by go_num⟩, by simp [intOf]; omega⟩
          · have e : m = i := by omega
            subst e
            clear hlt hm1
            have hcv1 : (convert 22 9 (.slice (some ⟨g, 0, none⟩) L m)).run Try.prog w5.drew = .ok (.string (strOfNums a0)) w5.drew := by
              have h := Kd.C_drewN HC5.out 1
              exact Kd.C_string Try.underlying22 Try.underlying5 Try.underlying9 h
            have hcv2 : (convert 22 9 (.slice Aa0 L ca0)).run Try.prog w5.drew = .ok (.string (strOfNums a0)) w5.drew := by
              have h := HD5.out
              rw [HLE.out] at h
              exact Kd.C_string Try.underlying22 Try.underlying5 Try.underlying9 (Kd.C_drewN h 1)
            generalize strOfNums a0 = sv at *
            have z0 : w5.cell? ⟨xb, 0, none⟩ = some (.int .u8 o0) := (blk_cell HX5.out 0).trans rfl
            have z1 : w5.cell? ⟨xb, 1, none⟩ = some (.int .u8 o1) := (blk_cell HX5.out 1).trans rfl
            have z2 : w5.cell? ⟨xb, 2, none⟩ = some (.int .u8 o2) := (blk_cell HX5.out 2).trans rfl
            have z3 : w5.cell? ⟨xb, 3, none⟩ = some (.int .u8 o3) := (blk_cell HX5.out 3).trans rfl
            have z4 : w5.cell? ⟨xb, 4, none⟩ = some (.int .u8 o4) := (blk_cell HX5.out 4).trans rfl
            have z5 : w5.cell? ⟨xb, 5, none⟩ = some (.int .u8 o5) := (blk_cell HX5.out 5).trans rfl
            have z6 : w5.cell? ⟨xb, 6, none⟩ = some (.int .u8 o6) := (blk_cell HX5.out 6).trans rfl
            have z7 : w5.cell? ⟨xb, 7, none⟩ = some (.int .u8 o7) := (blk_cell HX5.out 7).trans rfl
            have z8 : w5.cell? ⟨xb, 8, none⟩ = some (.int .u8 o8) := (blk_cell HX5.out 8).trans rfl
            have z9 : w5.cell? ⟨xb, 9, none⟩ = some (.int .u8 o9) := (blk_cell HX5.out 9).trans rfl
            have z10 : w5.cell? ⟨xb, 10, none⟩ = some (.int .u8 o10) := (blk_cell HX5.out 10).trans rfl
            have z11 : w5.cell? ⟨xb, 11, none⟩ = some (.int .u8 o11) := (blk_cell HX5.out 11).trans rfl
            have z12 : w5.cell? ⟨xb, 12, none⟩ = some (.int .u8 o12) := (blk_cell HX5.out 12).trans rfl
            have z13 : w5.cell? ⟨xb, 13, none⟩ = some (.int .u8 o13) := (blk_cell HX5.out 13).trans rfl
            have z14 : w5.cell? ⟨xb, 14, none⟩ = some (.int .u8 o14) := (blk_cell HX5.out 14).trans rfl
            have z15 : w5.cell? ⟨xb, 15, none⟩ = some (.int .u8 o15) := (blk_cell HX5.out 15).trans rfl
            have hxne : ¬ xb = w5.heap.size := by have := blk_lt HX5.out; omega
            have hxne2 : ¬ w5.heap.size = xb := by have := blk_lt HX5.out; omega
            have hxlt : xb < w5.heap.size := blk_lt HX5.out
            have HE5 := Aside0.mk (show ∀ W, Below w5.heap.size w5 W → (Kd.int .u8).C W Aa0 L a0 from fun W hb => by
              have h := Kd.C_below HD5.out hb
              rw [HLE.out] at h
              exact h)
            go_wp2_with fail
            refine wp_region_any (by kernel_rfl) ?_
            try (change wpAny _ _ _ _ _ _ _ (World.drew _))
            refine wpAny_take (i := 0) (v := .slice (some ⟨g, 0, none⟩) m m) rfl (by kernel_rfl) (by kernel_rfl) (by kernel_rfl) (fun _ _ _ h => h) (Or.inl ⟨by rfl, by intro w; go_simp⟩) ?_
            refine wpAny_take (i := 1) (v := .slice Aa0 L ca0) rfl (by kernel_rfl) (by kernel_rfl) (by kernel_rfl) (fun _ _ _ h => h) (Or.inl ⟨by rfl, by intro w; go_simp⟩) ?_
            refine wpAny_take (i := 2) (v := .int .i64 (L : Int)) rfl (by kernel_rfl) (by kernel_rfl) (by kernel_rfl) (fun _ _ _ h => h) (Or.inl ⟨by rfl, by intro w; go_simp⟩) ?_
            refine wpAny_take (i := 3) (v := .slice (some ⟨g, 0, none⟩) L m) rfl (by kernel_rfl) (by kernel_rfl) (by kernel_rfl) (fun _ _ _ h => h) (Or.inl ⟨by rfl, by intro w; go_simp⟩) ?_
            refine wpAny_take (i := 5) (v := .slice Aa0 L ca0) rfl (by kernel_rfl) (by kernel_rfl) (by kernel_rfl) (fun _ _ _ h => h) (Or.inl ⟨by rfl, by intro w; go_simp⟩) ?_
            refine wpAny_ready (rs := [4, 6]) (by kernel_rfl) (by simp) ?_
            refine AllReady.cons rfl (fun K hK => ?_) ?_
            · skip
              go_simp
              refine hK _ _ ?_
              clear hK K
              refine wpAny_ready (rs := [6]) (by kernel_rfl) (by simp) ?_
              refine AllReady.cons rfl (fun K hK => ?_) ?_
              · skip
                go_simp
                refine hK _ _ ?_
                clear hK K
                refine wpAny_take (i := 7) (v := .bool true) rfl (by kernel_rfl) (by kernel_rfl) (by kernel_rfl) (fun _ _ _ h => h) (Or.inl ⟨by rfl, by intro w; go_simp⟩) ?_
                refine wpAny_take (i := 8) (v := .bool true) rfl (by kernel_rfl) (by kernel_rfl) (by kernel_rfl) (fun _ _ _ h => h) (Or.inl ⟨by rfl, by intro w; go_simp⟩) ?_
                refine wpAny_take (i := 10) (v := .slice Aa0 L ca0) rfl (by kernel_rfl) (by kernel_rfl) (by kernel_rfl) (fun _ _ _ h => h) (Or.inl ⟨by rfl, by intro w; go_simp⟩) ?_
                refine wpAny_ready (rs := [9, 11]) (by kernel_rfl) (by simp) ?_
                refine AllReady.cons rfl (fun K hK => ?_) ?_
                · skip
                  refine (if_pos (by rfl)).mpr ?_
                  refine wp_load_row 25 (.tmp 5) rfl xb rfl 25 #[.int .u8 o0, .int .u8 o1, .int .u8 o2, .int .u8 o3, .int .u8 o4, .int .u8 o5, .int .u8 o6, .int .u8 o7, .int .u8 o8, .int .u8 o9, .int .u8 o10, .int .u8 o11, .int .u8 o12, .int .u8 o13, .int .u8 o14, .int .u8 o15] (0, 0) _ (blk_drew HX5.out) Try.underlying25 rfl (by kernel_rfl) ?_
                  refine hK _ _ ?_
                  clear hK K
                  refine wpAny_ready (rs := [11]) (by kernel_rfl) (by simp) ?_
                  refine AllReady.cons rfl (fun K hK => ?_) ?_
                  · skip
                    go_simp
                    refine hK _ _ ?_
                    clear hK K
                    refine wpAny_ready (rs := [12]) (by kernel_rfl) (by simp) ?_
                    refine AllReady.cons rfl (fun K hK => ?_) ?_
                    · skip
                      go_simp
                      go_wp2_with (first | (go_at_call 6; refine (HS.out _ _ Aa0 ca0 22 (blk_drew (blk_new _ _)) (HE5.out _ (below_drew1 (below_alloc (Below.refl _ _) _))) la0 (by omega) HB.out).mono ?_; rintro e w6 ⟨rfl, hb6⟩; have HB6 := Aside0.mk hb6; clear hb6))
                      refine wpAny_take (i := 13) (v := .bool true) rfl (by kernel_rfl) (by kernel_rfl) (by kernel_rfl) (fun _ _ _ h => h) (Or.inl ⟨by rfl, by intro w; go_simp⟩) ?_
                      refine wpAny_take (i := 14) (v := .bool true) rfl (by kernel_rfl) (by kernel_rfl) (by kernel_rfl) (fun _ _ _ h => h) (Or.inl ⟨by rfl, by intro w; go_simp⟩) ?_
                      refine wpAny_take (i := 15) (v := .bool true) rfl (by kernel_rfl) (by kernel_rfl) (by kernel_rfl) (fun _ _ _ h => h) (Or.inl ⟨by rfl, by intro w; go_simp⟩) ?_
                      refine wpAny_done (by kernel_rfl) ?_ _
                      go_wp2
                      go_ret
                      exact ⟨rfl, below_step (below_drew1 (below_alloc HB5.out _)) HB6.out⟩
                    exact AllReady.nil
                  exact AllReady.nil
                refine AllReady.cons rfl (fun K hK => ?_) ?_
                · skip
                  go_simp
                  refine hK _ _ ?_
                  clear hK K
                  refine wpAny_ready (rs := [9, 12]) (by kernel_rfl) (by simp) ?_
                  refine AllReady.cons rfl (fun K hK => ?_) ?_
                  · skip
                    refine (if_pos (by rfl)).mpr ?_
                    refine wp_load_row 25 (.tmp 5) rfl xb rfl 25 #[.int .u8 o0, .int .u8 o1, .int .u8 o2, .int .u8 o3, .int .u8 o4, .int .u8 o5, .int .u8 o6, .int .u8 o7, .int .u8 o8, .int .u8 o9, .int .u8 o10, .int .u8 o11, .int .u8 o12, .int .u8 o13, .int .u8 o14, .int .u8 o15] (0, 0) _ (blk_drew (blk_alloc HX5.out _)) Try.underlying25 rfl (by kernel_rfl) ?_
                    refine hK _ _ ?_
                    clear hK K
                    refine wpAny_ready (rs := [12]) (by kernel_rfl) (by simp) ?_
                    refine AllReady.cons rfl (fun K hK => ?_) ?_
                    · skip
                      go_simp
                      go_wp2_with (first | (go_at_call 6; refine (HS.out _ _ Aa0 ca0 22 (blk_drew (blk_new _ _)) (HE5.out _ (below_drew1 (below_alloc (Below.refl _ _) _))) la0 (by omega) HB.out).mono ?_; rintro e w6 ⟨rfl, hb6⟩; have HB6 := Aside0.mk hb6; clear hb6))
                      refine wpAny_take (i := 13) (v := .bool true) rfl (by kernel_rfl) (by kernel_rfl) (by kernel_rfl) (fun _ _ _ h => h) (Or.inl ⟨by rfl, by intro w; go_simp⟩) ?_
                      refine wpAny_take (i := 14) (v := .bool true) rfl (by kernel_rfl) (by kernel_rfl) (by kernel_rfl) (fun _ _ _ h => h) (Or.inl ⟨by rfl, by intro w; go_simp⟩) ?_
                      refine wpAny_take (i := 15) (v := .bool true) rfl (by kernel_rfl) (by kernel_rfl) (by kernel_rfl) (fun _ _ _ h => h) (Or.inl ⟨by rfl, by intro w; go_simp⟩) ?_
                      refine wpAny_done (by kernel_rfl) ?_ _
                      go_wp2
                      go_ret
                      exact ⟨rfl, below_step (below_drew1 (below_alloc HB5.out _)) HB6.out⟩
                    exact AllReady.nil
                  refine AllReady.cons rfl (fun K hK => ?_) ?_
                  · skip
                    go_simp
                    go_wp2_with (first | (go_at_call 6; refine (HS.out _ _ Aa0 ca0 22 (blk_drew (blk_new _ _)) (HE5.out _ (below_drew1 (below_alloc (Below.refl _ _) _))) la0 (by omega) HB.out).mono ?_; rintro e w6 ⟨rfl, hb6⟩; have HB6 := Aside0.mk hb6; clear hb6))
                    refine wpAny_ready (rs := [9]) (by kernel_rfl) (by simp) ?_
                    refine AllReady.cons rfl (fun K hK => ?_) ?_
                    · skip
                      refine (if_pos (by rfl)).mpr ?_
                      refine wp_load_row 25 (.tmp 5) rfl xb rfl 25 #[.int .u8 o0, .int .u8 o1, .int .u8 o2, .int .u8 o3, .int .u8 o4, .int .u8 o5, .int .u8 o6, .int .u8 o7, .int .u8 o8, .int .u8 o9, .int .u8 o10, .int .u8 o11, .int .u8 o12, .int .u8 o13, .int .u8 o14, .int .u8 o15] (0, 0) _ (blk_below (blk_drew (blk_alloc HX5.out _)) HB6.out) Try.underlying25 rfl (by kernel_rfl) ?_
                      refine hK _ _ ?_
                      clear hK K
                      refine wpAny_take (i := 13) (v := .bool true) rfl (by kernel_rfl) (by kernel_rfl) (by kernel_rfl) (fun _ _ _ h => h) (Or.inl ⟨by rfl, by intro w; go_simp⟩) ?_
                      refine wpAny_take (i := 14) (v := .bool true) rfl (by kernel_rfl) (by kernel_rfl) (by kernel_rfl) (fun _ _ _ h => h) (Or.inl ⟨by rfl, by intro w; go_simp⟩) ?_
                      refine wpAny_take (i := 15) (v := .bool true) rfl (by kernel_rfl) (by kernel_rfl) (by kernel_rfl) (fun _ _ _ h => h) (Or.inl ⟨by rfl, by intro w; go_simp⟩) ?_
                      refine wpAny_done (by kernel_rfl) ?_ _
                      go_wp2
                      go_ret
                      exact ⟨rfl, below_step (below_drew1 (below_alloc HB5.out _)) HB6.out⟩
                    exact AllReady.nil
                  exact AllReady.nil
                exact AllReady.nil
              exact AllReady.nil
            refine AllReady.cons rfl (fun K hK => ?_) ?_
            · skip
              go_simp
              refine hK _ _ ?_
              clear hK K
              refine wpAny_ready (rs := [4]) (by kernel_rfl) (by simp) ?_
              refine AllReady.cons rfl (fun K hK => ?_) ?_
              · skip
                go_simp
                refine hK _ _ ?_
                clear hK K
                refine wpAny_take (i := 7) (v := .bool true) rfl (by kernel_rfl) (by kernel_rfl) (by kernel_rfl) (fun _ _ _ h => h) (Or.inl ⟨by rfl, by intro w; go_simp⟩) ?_
                refine wpAny_take (i := 8) (v := .bool true) rfl (by kernel_rfl) (by kernel_rfl) (by kernel_rfl) (fun _ _ _ h => h) (Or.inl ⟨by rfl, by intro w; go_simp⟩) ?_
                refine wpAny_take (i := 10) (v := .slice Aa0 L ca0) rfl (by kernel_rfl) (by kernel_rfl) (by kernel_rfl) (fun _ _ _ h => h) (Or.inl ⟨by rfl, by intro w; go_simp⟩) ?_
                refine wpAny_ready (rs := [9, 11]) (by kernel_rfl) (by simp) ?_
                refine AllReady.cons rfl (fun K hK => ?_) ?_
                · skip
                  refine (if_pos (by rfl)).mpr ?_
                  refine wp_load_row 25 (.tmp 5) rfl xb rfl 25 #[.int .u8 o0, .int .u8 o1, .int .u8 o2, .int .u8 o3, .int .u8 o4, .int .u8 o5, .int .u8 o6, .int .u8 o7, .int .u8 o8, .int .u8 o9, .int .u8 o10, .int .u8 o11, .int .u8 o12, .int .u8 o13, .int .u8 o14, .int .u8 o15] (0, 0) _ (blk_drew HX5.out) Try.underlying25 rfl (by kernel_rfl) ?_
                  refine hK _ _ ?_
                  clear hK K
                  refine wpAny_ready (rs := [11]) (by kernel_rfl) (by simp) ?_
                  refine AllReady.cons rfl (fun K hK => ?_) ?_
                  · skip
                    go_simp
                    refine hK _ _ ?_
                    clear hK K
                    refine wpAny_ready (rs := [12]) (by kernel_rfl) (by simp) ?_
                    refine AllReady.cons rfl (fun K hK => ?_) ?_
                    · skip
                      go_simp
                      go_wp2_with (first | (go_at_call 6; refine (HS.out _ _ Aa0 ca0 22 (blk_drew (blk_new _ _)) (HE5.out _ (below_drew1 (below_alloc (Below.refl _ _) _))) la0 (by omega) HB.out).mono ?_; rintro e w6 ⟨rfl, hb6⟩; have HB6 := Aside0.mk hb6; clear hb6))
                      refine wpAny_take (i := 13) (v := .bool true) rfl (by kernel_rfl) (by kernel_rfl) (by kernel_rfl) (fun _ _ _ h => h) (Or.inl ⟨by rfl, by intro w; go_simp⟩) ?_
                      refine wpAny_take (i := 14) (v := .bool true) rfl (by kernel_rfl) (by kernel_rfl) (by kernel_rfl) (fun _ _ _ h => h) (Or.inl ⟨by rfl, by intro w; go_simp⟩) ?_
                      refine wpAny_take (i := 15) (v := .bool true) rfl (by kernel_rfl) (by kernel_rfl) (by kernel_rfl) (fun _ _ _ h => h) (Or.inl ⟨by rfl, by intro w; go_simp⟩) ?_
                      refine wpAny_done (by kernel_rfl) ?_ _
                      go_wp2
                      go_ret
                      exact ⟨rfl, below_step (below_drew1 (below_alloc HB5.out _)) HB6.out⟩
                    exact AllReady.nil
                  exact AllReady.nil
                refine AllReady.cons rfl (fun K hK => ?_) ?_
                · skip
                  go_simp
                  refine hK _ _ ?_
                  clear hK K
                  refine wpAny_ready (rs := [9, 12]) (by kernel_rfl) (by simp) ?_
                  refine AllReady.cons rfl (fun K hK => ?_) ?_
                  · skip
                    refine (if_pos (by rfl)).mpr ?_
                    refine wp_load_row 25 (.tmp 5) rfl xb rfl 25 #[.int .u8 o0, .int .u8 o1, .int .u8 o2, .int .u8 o3, .int .u8 o4, .int .u8 o5, .int .u8 o6, .int .u8 o7, .int .u8 o8, .int .u8 o9, .int .u8 o10, .int .u8 o11, .int .u8 o12, .int .u8 o13, .int .u8 o14, .int .u8 o15] (0, 0) _ (blk_drew (blk_alloc HX5.out _)) Try.underlying25 rfl (by kernel_rfl) ?_
                    refine hK _ _ ?_
                    clear hK K
                    refine wpAny_ready (rs := [12]) (by kernel_rfl) (by simp) ?_
                    refine AllReady.cons rfl (fun K hK => ?_) ?_
                    · skip
                      go_simp
                      go_wp2_with (first | (go_at_call 6; refine (HS.out _ _ Aa0 ca0 22 (blk_drew (blk_new _ _)) (HE5.out _ (below_drew1 (below_alloc (Below.refl _ _) _))) la0 (by omega) HB.out).mono ?_; rintro e w6 ⟨rfl, hb6⟩; have HB6 := Aside0.mk hb6; clear hb6))
                      refine wpAny_take (i := 13) (v := .bool true) rfl (by kernel_rfl) (by kernel_rfl) (by kernel_rfl) (fun _ _ _ h => h) (Or.inl ⟨by rfl, by intro w; go_simp⟩) ?_
                      refine wpAny_take (i := 14) (v := .bool true) rfl (by kernel_rfl) (by kernel_rfl) (by kernel_rfl) (fun _ _ _ h => h) (Or.inl ⟨by rfl, by intro w; go_simp⟩) ?_
                      refine wpAny_take (i := 15) (v := .bool true) rfl (by kernel_rfl) (by kernel_rfl) (by kernel_rfl) (fun _ _ _ h => h) (Or.inl ⟨by rfl, by intro w; go_simp⟩) ?_
                      refine wpAny_done (by kernel_rfl) ?_ _
                      go_wp2
                      go_ret
                      exact ⟨rfl, below_step (below_drew1 (below_alloc HB5.out _)) HB6.out⟩
                    exact AllReady.nil
                  refine AllReady.cons rfl (fun K hK => ?_) ?_
                  · skip
                    go_simp
                    go_wp2_with (first | (go_at_call 6; refine (HS.out _ _ Aa0 ca0 22 (blk_drew (blk_new _ _)) (HE5.out _ (below_drew1 (below_alloc (Below.refl _ _) _))) la0 (by omega) HB.out).mono ?_; rintro e w6 ⟨rfl, hb6⟩; have HB6 := Aside0.mk hb6; clear hb6))
                    refine wpAny_ready (rs := [9]) (by kernel_rfl) (by simp) ?_
                    refine AllReady.cons rfl (fun K hK => ?_) ?_
                    · skip
                      refine (if_pos (by rfl)).mpr ?_
                      refine wp_load_row 25 (.tmp 5) rfl xb rfl 25 #[.int .u8 o0, .int .u8 o1, .int .u8 o2, .int .u8 o3, .int .u8 o4, .int .u8 o5, .int .u8 o6, .int .u8 o7, .int .u8 o8, .int .u8 o9, .int .u8 o10, .int .u8 o11, .int .u8 o12, .int .u8 o13, .int .u8 o14, .int .u8 o15] (0, 0) _ (blk_below (blk_drew (blk_alloc HX5.out _)) HB6.out) Try.underlying25 rfl (by kernel_rfl) ?_
                      refine hK _ _ ?_
                      clear hK K
                      refine wpAny_take (i := 13) (v := .bool true) rfl (by kernel_rfl) (by kernel_rfl) (by kernel_rfl) (fun _ _ _ h => h) (Or.inl ⟨by rfl, by intro w; go_simp⟩) ?_
                      refine wpAny_take (i := 14) (v := .bool true) rfl (by kernel_rfl) (by kernel_rfl) (by kernel_rfl) (fun _ _ _ h => h) (Or.inl ⟨by rfl, by intro w; go_simp⟩) ?_
                      refine wpAny_take (i := 15) (v := .bool true) rfl (by kernel_rfl) (by kernel_rfl) (by kernel_rfl) (fun _ _ _ h => h) (Or.inl ⟨by rfl, by intro w; go_simp⟩) ?_
                      refine wpAny_done (by kernel_rfl) ?_ _
                      go_wp2
                      go_ret
                      exact ⟨rfl, below_step (below_drew1 (below_alloc HB5.out _)) HB6.out⟩
                    exact AllReady.nil
                  exact AllReady.nil
                exact AllReady.nil
              exact AllReady.nil
            exact AllReady.nil
end Go.Proofs.Ytgadhmoifhoilaa.Md5
