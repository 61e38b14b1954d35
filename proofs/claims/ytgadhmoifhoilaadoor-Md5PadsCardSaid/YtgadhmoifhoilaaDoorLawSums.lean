/-
  The laws Md5Sums and Md5Pads, walked.
-/
import Derived.Test.YtgadhmoifhoilaaDoorRefSum
import Derived.Test.YtgadhmoifhoilaaDoorLaid
namespace Go.Proofs.YtgadhmoifhoilaaDoor.Md5
open Go.RowKit Go.Lib Go.Proofs.YtgadhmoifhoilaaDoorW.PrintWords Go.Proofs.YtgadhmoifhoilaaDoorW.PrintLast Go.Proofs.YtgadhmoifhoilaaDoorW.PrintMore Go.Proofs.YtgadhmoifhoilaaDoor.Kit

theorem sum_at (l : List Int) (L : Nat) (hL : l.length = L) (O : Array Value) (hO : (sumOf l).out = O) (W : World) (g : Nat) (A : Option Addr) (c : Nat) (t : TypeId) (hb : W.heap[g]? = some (.cells #[.slice A L c] t (0, 0))) (hC : (Kd.int .u8).C W A L l) (hc : L ≤ c) (hl : L ≤ 1000000) (hB : isB l = true) :
    Calls Tryd.prog 14 #[.slice (some ⟨g, 0, none⟩) 1 1] W fun e w' => e = .returned (.agg O) ∧ Below W.heap.size W w' := by
  subst hL
  subst hO
  exact sum1 hb hC hc hl hB
theorem ref_at (l : List Int) (L : Nat) (hL : l.length = L) (O : Array Value) (hO : (sumOf l).out = O) (W : World) (A : Option Addr) (c : Nat) (hC : (Kd.int .u8).C W A L l) (hc : L ≤ c) (hl : L ≤ 1000000) (hB : isB l = true) (hg : Laid W) (h3 : 3 ≤ W.heap.size) :
    Calls Tryd.prog 15 #[.slice A L c] W fun e w' => e = .returned (.agg O) ∧ Below W.heap.size W w' := by
  subst hL
  subst hO
  exact refsum_calls A c l W hC hc hB hl hg h3

set_option maxRecDepth 100000 in
set_option maxHeartbeats 4000000 in
theorem md5Sums_law (Aa0 : Option Addr) (ca0 : Nat) (a0 : List Int) (w : World) (la0 : a0.length ≤ ca0) (ra0 : (Kd.int .u8).C w Aa0 a0.length a0) (wa0 : ∀ n ∈ a0, (Lit.int .u8 n).wf = true) (hLD : laidMetH Tryd.prog laid3 w) :
    Calls Tryd.prog 3 #[.slice Aa0 a0.length ca0] w fun e w' => e = .returned (.bool true) ∧ Below w.heap.size w w' := by
  have HB := Aside0.mk (isB_of_wf wa0)
  have HC := Aside0.mk ra0
  obtain ⟨hG, h3⟩ := of_laid hLD
  have HG := Aside0.mk hG
  have H3 := Aside0.mk h3
  clear wa0 ra0 hLD hG h3
  obtain ⟨L, hL⟩ : ∃ L, a0.length = L := ⟨_, rfl⟩
  have HLE := Aside0.mk hL
  rw [hL] at la0 ⊢
  rw [hL] at HC
  clear hL
  by_cases hbig : 2000 < L
  · go_enter Tryd.func3, Tryd.ntmps3
    go_wp2_with fail
    refine (awake_calls _).mono ?_
    rintro e w1 ⟨rfl, hb1⟩
    have hb1 := Aside0.mk hb1
    go_wp2_with fail
    refine (awake_calls _).mono ?_
    rintro e w2 ⟨rfl, hb2⟩
    have hb2 := Aside0.mk hb2
    go_wp2_with fail
    go_ret
    exact ⟨rfl, below_step hb1.out hb2.out⟩
  · have hsm : L ≤ 2000 := by omega
    obtain ⟨O, hO⟩ : ∃ O, (sumOf a0).out = O := ⟨_, rfl⟩
    have HS := Aside0.mk (show ∀ (W : World) (g : Nat), Below w.heap.size w W → W.heap[g]? = some (.cells #[.slice Aa0 L ca0] 22 (0, 0)) → Calls Tryd.prog 14 #[.slice (some ⟨g, 0, none⟩) 1 1] W fun e w' => e = .returned (.agg O) ∧ Below W.heap.size W w' from fun W g hb hblk => sum_at a0 L HLE.out O hO W g Aa0 ca0 _ hblk (Kd.C_below HC.out hb) la0 (by omega) HB.out)
    have HR := Aside0.mk (show ∀ (W : World), Below w.heap.size w W → Calls Tryd.prog 15 #[.slice Aa0 L ca0] W fun e w' => e = .returned (.agg O) ∧ Below W.heap.size W w' from fun W hb => ref_at a0 L HLE.out O hO W Aa0 ca0 (Kd.C_below HC.out hb) la0 (by omega) HB.out (HG.out.below hb H3.out) (Nat.le_trans H3.out hb.size))
    have heq : ∀ W, (binOp .eql 24 (.agg O) (.agg O)).run Tryd.prog W = .ok (.bool true) W := by rw [← hO]; exact eq_out _
    clear hO
    go_enter Tryd.func3, Tryd.ntmps3
    go_wp2_with fail
    refine (awake_calls _).mono ?_
    rintro e w1 ⟨rfl, hb1⟩
    have HB1 := Aside0.mk hb1
    clear hb1
    go_wp2_with (first | (go_at_call 14; (with_reducible refine (HS.out _ w1.heap.size (below_alloc HB1.out _) (blk_new _ _)).mono ?_); rintro e w2 ⟨rfl, hb2⟩; have HB2 := Aside0.mk (below_step (below_alloc HB1.out _) hb2); clear hb2) | (go_at_call 15; (with_reducible refine (HR.out _ HB2.out).mono ?_); rintro e w3 ⟨rfl, hb3⟩; have HB3 := Aside0.mk (below_step HB2.out hb3); clear hb3))
    go_ret
    exact ⟨rfl, HB3.out⟩

/-- j bytes c, then zeros. -/
def padL (N : Nat) (c : Int) (j : Nat) : List Int := List.replicate j c ++ List.replicate (N - j) 0
theorem padL_len (N : Nat) (c : Int) (j : Nat) (h : j ≤ N) : (padL N c j).length = N := by simp [padL]; omega
theorem padL_set (N : Nat) (c : Int) (j : Nat) (h : j < N) : (nums .u8 (padL N c j)).toArray.setIfInBounds j (.int .u8 c) = (nums .u8 (padL N c (j + 1))).toArray := by
  have e : (padL N c j).set j c = padL N c (j + 1) := by
    unfold padL
    rw [List.set_append_right _ _ (by simp), List.length_replicate, Nat.sub_self, show N - j = (N - (j + 1)) + 1 from by omega, List.replicate_succ, List.set_cons_zero, List.replicate_succ', List.append_assoc]
    rfl
  rw [← e]
  simp [nums, List.map_set]
theorem padL_some (N : Nat) (c : Int) (j i : Nat) (h : j ≤ N) (hi : i < N) : ∃ v, (nums .u8 (padL N c j)).toArray[i]? = some v := by
  have : i < (nums .u8 (padL N c j)).toArray.size := by simp [nums, padL_len N c j h]; omega
  exact ⟨_, Array.getElem?_eq_getElem this⟩
theorem made_zero (n : Nat) : madeCells #[.int .u8 0] n = (List.replicate n (Value.int .u8 0)).toArray := by
  apply Array.ext
  · simp [madeCells]
  · intro i h1 h2
    simp [madeCells, Nat.mod_one]
structure PadInv (w : World) (N : Nat) (c : Int) (g : Nat) (j : Nat) (wr : World) : Prop where
  bel : Below w.heap.size w wr
  row : wr.heap[g]? = some (.cells (nums .u8 (padL N c j)).toArray 5 (0, 0))

set_option maxRecDepth 100000 in
set_option maxHeartbeats 4000000 in
theorem md5Pads_law (a0 : Int) (a1 : Int) (w : World) (wa0 : (Lit.int .u8 a0).wf = true) (wa1 : (Lit.int .u8 a1).wf = true) (hLD : laidMetH Tryd.prog laid3 w) :
    Calls Tryd.prog 4 #[.int .u8 a0, .int .u8 a1] w fun e w' => e = .returned (.bool true) ∧ Below w.heap.size w w' := by
  have hb0 : 0 ≤ a0 ∧ a0 < 256 := by simp [Lit.wf, IntKind.min, IntKind.max, IntKind.signed, IntKind.bits] at wa0; omega
  have hb1 : 0 ≤ a1 ∧ a1 < 256 := by simp [Lit.wf, IntKind.min, IntKind.max, IntKind.signed, IntKind.bits] at wa1; omega
  obtain ⟨h10, h11⟩ := hb1
  obtain ⟨N, rfl⟩ := Int.eq_ofNat_of_zero_le hb0.1
  have hN : N < 256 := by omega
  have hN2 : (N : Int) < 256 := by omega
  obtain ⟨hG, h3⟩ := of_laid hLD
  have HG := Aside0.mk hG
  have H3 := Aside0.mk h3
  clear wa0 wa1 hLD hG h3 hb0
  have hB : isB (padL N a1 N) = true := by
    unfold isB padL
    rw [List.all_eq_true]
    intro x hx
    rcases List.mem_append.1 hx with h | h
    · rw [List.eq_of_mem_replicate h]; simp; omega
    · rw [List.eq_of_mem_replicate h]; decide
  have hl := padL_len N a1 N (Nat.le_refl _)
  have HBB := Aside0.mk hB
  have HLL := Aside0.mk hl
  obtain ⟨O, hO⟩ : ∃ O, (sumOf (padL N a1 N)).out = O := ⟨_, rfl⟩
  have HCB := Aside0.mk (show ∀ (W : World) (g : Nat), W.heap[g]? = some (.cells (nums .u8 (padL N a1 N)).toArray 5 (0, 0)) → (Kd.int .u8).C W (some ⟨g, 0, none⟩) N (padL N a1 N) from fun W g h => by
    have := C_block h rfl (by rw [hl]; omega)
    rwa [hl] at this)
  have HS := Aside0.mk (show ∀ (W : World) (g h : Nat), W.heap[h]? = some (.cells (nums .u8 (padL N a1 N)).toArray 5 (0, 0)) → W.heap[g]? = some (.cells #[.slice (some ⟨h, 0, none⟩) N N] 22 (0, 0)) → Calls Tryd.prog 14 #[.slice (some ⟨g, 0, none⟩) 1 1] W fun e w' => e = .returned (.agg O) ∧ Below W.heap.size W w' from fun W g h hb hblk => sum_at _ N HLL.out O hO W g _ N _ hblk (HCB.out W h hb) (Nat.le_refl _) (by omega) HBB.out)
  have HR := Aside0.mk (show ∀ (W : World) (h : Nat), W.heap[h]? = some (.cells (nums .u8 (padL N a1 N)).toArray 5 (0, 0)) → Below w.heap.size w W → Calls Tryd.prog 15 #[.slice (some ⟨h, 0, none⟩) N N] W fun e w' => e = .returned (.agg O) ∧ Below W.heap.size W w' from fun W h hb hbe => ref_at _ N HLL.out O hO W _ N (HCB.out W h hb) (Nat.le_refl _) (by omega) HBB.out (HG.out.below hbe H3.out) (Nat.le_trans H3.out hbe.size))
  have heq : ∀ W, (binOp .eql 24 (.agg O) (.agg O)).run Tryd.prog W = .ok (.bool true) W := by rw [← hO]; exact eq_out _
  clear hO hB hl
  have hmk := print_make_int (P := Tryd.prog) 22 5 (.int .u8 0) 1 Tryd.underlying22 info5 rfl (by decide) (N : Int) (by omega) (by omega)
  rw [show ((N : Int)).toNat = N from by omega, made_zero N] at hmk
  obtain ⟨Z, hZ⟩ : ∃ Z, (List.replicate N (Value.int .u8 0)).toArray = Z := ⟨_, rfl⟩
  rw [hZ] at hmk
  have HZ := Aside0.mk hZ
  clear hZ
  go_enter Tryd.func4, Tryd.ntmps4
  go_wp2_with fail
  refine (awake_calls _).mono ?_
  rintro e w1 ⟨rfl, hb1⟩
  have HB1 := Aside0.mk hb1
  clear hb1
  go_wp2_with fail
  have hI0 : Aside0 (PadInv w N a1 w1.heap.size 0 (w1.alloc (.cells Z 5))) := ⟨⟨below_alloc HB1.out _, by
    have h := blk_new w1 (.cells Z 5)
    rw [← HZ.out] at h ⊢
    have e : (nums .u8 (padL N a1 0)).toArray = (List.replicate N (Value.int .u8 0)).toArray := by simp [nums, padL]
    rw [e]
    exact h⟩⟩
  have HG0 := Aside0.mk (show w.heap.size ≤ w1.heap.size from HB1.out.size)
  clear HB1 hmk HZ
  generalize w1.alloc (.cells Z 5) = w2 at hI0 ⊢
  generalize w1.heap.size = g at *
  go_loopw [6] (fun v wr => ∃ j : Nat, j ≤ N ∧ v = .int .i64 (j : Int) ∧ Aside0 (PadInv w N a1 g j wr)) (fun v _ => N - (intOf v).toNat)
  case atStart => exact ⟨0, by omega, rfl, hI0⟩
  case round =>
    clear hI0
    obtain ⟨j, hj, rfl, HI⟩ := hrel
    by_cases hlt : j < N
    · obtain ⟨v, hv⟩ := padL_some N a1 j j hj hlt
      have hz : wr.cell? ⟨g, j, none⟩ = some v := (blk_cell HI.out.row j).trans hv
      have hf := blk_frozen HI.out.row j
      have HJ := Aside0.mk (show PadInv w N a1 g (j + 1) (wr.setCell ⟨g, j, none⟩ (.int .u8 a1)) from ⟨HI.out.bel.setCell (p := ⟨g, j, none⟩) HG0.out _, by rw [← padL_set N a1 j hlt]; exact blk_set HI.out.row j _⟩)
      clear hv HI
      go_wp2_with fail
      exact ⟨⟨j + 1, by omega, by go_num, HJ⟩, by simp [intOf]; omega⟩
    · have ej : j = N := by omega
      subst ej
      have HI2 := Aside0.mk HI.out.row
      have HB2 := Aside0.mk HI.out.bel
      clear HI
      go_wp2_with (first | (go_at_call 14; (with_reducible refine (HS.out _ wr.heap.size g (blk_alloc HI2.out _) (blk_new _ _)).mono ?_); rintro e w3 ⟨rfl, hb3⟩; have HB3 := Aside0.mk (below_step (below_alloc HB2.out _) hb3); have HI3 := Aside0.mk (blk_below (blk_alloc HI2.out _) hb3); clear hb3) | (go_at_call 15; (with_reducible refine (HR.out _ g HI3.out HB3.out).mono ?_); rintro e w4 ⟨rfl, hb4⟩; have HB4 := Aside0.mk (below_step HB3.out hb4); clear hb4))
      go_ret
      exact ⟨rfl, HB4.out⟩
end Go.Proofs.YtgadhmoifhoilaaDoor.Md5
