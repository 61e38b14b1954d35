/-
  The law Md5Parts, walked.
-/
import Derived.Test.YtgadhmoifhoilaaMd5Pad
import Derived.Laws.StructEq
import Derived.Laws.Tables
import Derived.Laws.Cover2
import Derived.Deep.RegionWith
namespace Go.Proofs.Ytgadhmoifhoilaa.Md5
open Go.RowKit Go.Proofs.YtgadhmoifhoilaaW.PrintWords Go.Proofs.YtgadhmoifhoilaaW.PrintLast Go.Proofs.YtgadhmoifhoilaaW.PrintMore Go.Proofs.Ytgadhmoifhoilaa.Kit

theorem eq16 (a0 a1 a2 a3 a4 a5 a6 a7 a8 a9 a10 a11 a12 a13 a14 a15 : Int) (O : Array Value) (hO : O = #[.int .u8 a0, .int .u8 a1, .int .u8 a2, .int .u8 a3, .int .u8 a4, .int .u8 a5, .int .u8 a6, .int .u8 a7, .int .u8 a8, .int .u8 a9, .int .u8 a10, .int .u8 a11, .int .u8 a12, .int .u8 a13, .int .u8 a14, .int .u8 a15]) (w : World) :
    (Op.equalIn 10000 25 (.agg O) (.agg O)).run Try.prog w = .ok true w := by
  subst hO
  have u3 := Try.underlying5
  have z3 := Try.sizeOf5
  rw [show (10000 : Nat) = 9999 + 1 from rfl, Op.equalIn]
  simp only [Sem.run_bind, run_underlying Try.underlying25, Result.andThen_ok]
  simp only [Std.Legacy.Range.forIn_eq_forIn_range', Std.Legacy.Range.size, Nat.sub_zero, Nat.add_sub_cancel, Nat.div_one, List.range'_succ, List.range'_zero, List.forIn_cons, List.forIn_nil]
  go_simp
theorem eq_out (s : St) (w : World) : (binOp .eql 25 (.agg s.out) (.agg s.out)).run Try.prog w = .ok (.bool true) w := by
  rw [run_eql_struct, eq16 _ _ _ _ _ _ _ _ _ _ _ _ _ _ _ _ s.out rfl w]
  rfl

set_option maxRecDepth 100000 in
set_option maxHeartbeats 4000000 in
theorem md5Parts_law (Aa0 : Option Addr) (ca0 : Nat) (a0 : List Int) (a1 : Int) (a2 : Int) (w : World) (la0 : a0.length ≤ ca0) (ra0 : (Kd.int .u8).C w Aa0 a0.length a0) (wa0 : ∀ n ∈ a0, (Lit.int .u8 n).wf = true) (wa1 : (Lit.int .u16 a1).wf = true) (wa2 : (Lit.int .u16 a2).wf = true) :
    Calls Try.prog 3 #[.slice Aa0 a0.length ca0, .int .u16 a1, .int .u16 a2] w fun e w' => e = .returned (.bool true) ∧ Below w.heap.size w w' := by
  have hb1 : 0 ≤ a1 ∧ a1 < 65536 := by simp [Lit.wf, IntKind.min, IntKind.max, IntKind.signed, IntKind.bits] at wa1; omega
  have hb2 : 0 ≤ a2 ∧ a2 < 65536 := by simp [Lit.wf, IntKind.min, IntKind.max, IntKind.signed, IntKind.bits] at wa2; omega
  obtain ⟨h10, h11⟩ := hb1
  obtain ⟨h20, h21⟩ := hb2
  have hB := isB_of_wf wa0
  have HB := Aside0.mk hB
  have HC := Aside0.mk ra0
  have HL := Aside0.mk la0
  clear wa0 wa1 wa2 hB ra0
  obtain ⟨L, hL⟩ : ∃ L, a0.length = L := ⟨_, rfl⟩
  have HLE := Aside0.mk hL
  rw [hL] at la0 ⊢
  clear hL
  by_cases hbig : 2000 < L
  · go_enter Try.func3, Try.ntmps3
    go_wp2_with fail
    refine (awake_calls _).mono ?_
    rintro e w1 ⟨rfl, hb1⟩
    have hb1 := Aside0.mk hb1
    go_wp2_with fail
    refine (awake_calls _).mono ?_
    rintro e w2 ⟨rfl, hb2⟩
    have hb2 := Aside0.mk hb2
    go_wp2_with fail
    go_ret
    exact ⟨rfl, below_step hb1.out hb2.out⟩
  · have hsm : L ≤ 2000 := by omega
    obtain ⟨m, hm⟩ : ∃ m : Nat, a1 % ((L : Int) + 1) = (m : Int) := ⟨(a1 % ((L : Int) + 1)).toNat, by have := Int.emod_nonneg a1 (b := (L : Int) + 1) (by omega); omega⟩
    have hmL : m ≤ L := by have := Int.emod_lt_of_pos a1 (b := (L : Int) + 1) (by omega); omega
    have hDp : (0 : Int) < (L : Int) + 1 - (m : Int) := by omega
    obtain ⟨k, hk⟩ : ∃ k : Nat, a2 % ((L : Int) + 1 - (m : Int)) = (k : Int) := ⟨(a2 % ((L : Int) + 1 - (m : Int))).toNat, by have := Int.emod_nonneg a2 (b := (L : Int) + 1 - (m : Int)) (by omega); omega⟩
    have hkD : (k : Int) < (L : Int) + 1 - (m : Int) := by rw [← hk]; exact Int.emod_lt_of_pos a2 hDp
    obtain ⟨n, hnm⟩ : ∃ n : Nat, n = m + k := ⟨_, rfl⟩
    have hmn : m ≤ n := by omega
    have hnL : n ≤ L := by omega
    have HX := Aside0.mk (show wrap64 ((m : Int) + a2 % ((L : Int) + 1 - (m : Int))) = (n : Int) from by rw [hk, wrapS (by omega) (by omega)]; omega)
    have HM := Aside0.mk hm
    clear hk hkD hnm
    obtain ⟨i0, hi0, _, hsz0, _⟩ := info_parts info5
    have hlen := HLE.out
    obtain ⟨A3, hcut3, hC3⟩ := cut_low 22 5 .i64 Try.underlying22 hi0 hsz0 Aa0 ca0 a0 (n : Int) n rfl (by omega) (by omega) HC.out
    have hcut2 := cut_mid 22 5 .i64 .i64 Try.underlying22 hi0 1 hsz0 Aa0 L ca0 (m : Int) (n : Int) (by omega) (by omega) (by omega) (by omega)
    have hC2 := Kd.C_mid (lo := m) (hi := n) (c := ca0) HC.out (by omega) (by omega) (by omega)
    have hcut1 : ∀ W, (Instr.slice 22 (.slice Aa0 L ca0) none (some (.int .i64 (m : Int))) none).run Try.prog W = .ok (.slice Aa0 m ca0) W := by
      intro W
      have := cut_to 22 5 .i64 Try.underlying22 hi0 Aa0 L ca0 (m : Int) (by omega) (by omega) (by omega) W
      simpa using this
    have hC1 := Kd.C_take HC.out (m := m) (by omega)
    have e1 : (a0.take m).length = m := by rw [List.length_take]; omega
    have e2 : ((a0.take n).drop m).length = n - m := by rw [List.length_drop, List.length_take]; omega
    have e3 : (a0.drop n).length = L - n := by rw [List.length_drop]; omega
    rw [show (m : Int).toNat = m from by omega, show (n : Int).toNat = n from by omega] at hcut2
    rw [hlen, e3] at hcut3
    obtain ⟨A2, hA2⟩ : ∃ A2, (if ca0 = m then Aa0 else Aa0.map (·.add (m * 1))) = A2 := ⟨_, rfl⟩
    rw [hA2] at hcut2
    have hA2' : (if ca0 = m then Aa0 else Aa0.map (·.add (m * (Kd.int IntKind.u8).sz))) = A2 := hA2
    rw [hA2'] at hC2
    clear hA2 hA2'
    have hall : a0.take m ++ ((a0.take n).drop m ++ a0.drop n) = a0 := by
      have h1 : (a0.take n).take m = a0.take m := by rw [List.take_take, Nat.min_eq_left hmn]
      rw [← List.append_assoc, ← h1, List.take_append_drop, List.take_append_drop]
    obtain ⟨O, hO⟩ : ∃ O, (sumOf a0).out = O := ⟨_, rfl⟩
    obtain ⟨N2, hN2⟩ : ∃ N2, n - m = N2 := ⟨_, rfl⟩
    obtain ⟨N3, hN3⟩ : ∃ N3, L - n = N3 := ⟨_, rfl⟩
    obtain ⟨c2, hc2⟩ : ∃ c2, ca0 - m = c2 := ⟨_, rfl⟩
    obtain ⟨c3, hc3⟩ : ∃ c3, ca0 - n = c3 := ⟨_, rfl⟩
    rw [hN2, hc2] at hcut2
    rw [hN3, hc3] at hcut3
    rw [hN2] at e2
    rw [hN3] at e3
    have HS4 := Aside0.mk (show ∀ (W1 W : World) (g : Nat) (t : TypeId), Below w.heap.size w W → W.heap[g]? = some (.cells #[.slice Aa0 m ca0, .slice A2 N2 c2, .slice none 0 0, .slice A3 N3 c3] t (0, 0)) → Calls Try.prog 6 #[.slice (some ⟨g, 0, none⟩) 4 4] W fun e w' => e = .returned (.agg O) ∧ Below W.heap.size W w' ∧ Below w.heap.size w w' from fun _ W g t hb hblk => by
      rw [← e1, ← e2, ← e3] at hblk
      rw [← hO]
      exact (sum4 hblk (Kd.C_below hC1 hb) (by omega) (Kd.C_below hC2 hb) (by omega) (Kd.C_below hC3 hb) (by omega) a0 hall (by omega) HB.out).mono fun _ _ h => ⟨h.1, h.2, below_step hb h.2⟩)
    have HS1 := Aside0.mk (show ∀ (W1 W : World) (g : Nat) (t : TypeId), Below w.heap.size w W → W.heap[g]? = some (.cells #[.slice Aa0 L ca0] t (0, 0)) → Calls Try.prog 6 #[.slice (some ⟨g, 0, none⟩) 1 1] W fun e w' => e = .returned (.agg O) ∧ Below W.heap.size W w' ∧ Below w.heap.size w w' from fun _ W g t hb hblk => by
      rw [← hlen] at hblk
      rw [← hO]
      exact (sum1 hblk (Kd.C_below HC.out hb) (by omega) (by omega) HB.out).mono fun _ _ h => ⟨h.1, h.2, below_step hb h.2⟩)
    have heq : ∀ W, (binOp .eql 25 (.agg O) (.agg O)).run Try.prog W = .ok (.bool true) W := by rw [← hO]; exact eq_out _
    clear hC1 hC2 hC3 e1 e2 e3 hN2 hN3 hc2 hc3 hO hall hlen hi0 hsz0
    go_enter Try.func3, Try.ntmps3
    go_wp2_with fail
    refine (awake_calls _).mono ?_
    rintro e w1 ⟨rfl, hb1⟩
    have HB1 := Aside0.mk hb1
    clear hb1
    go_wp2_with fail
    rw [HM.out, HX.out]
    clear hm
    go_region_with (first | (go_at_call 6; with_reducible refine (HS4.out w _ _ 22 ?hb ?hblk).mono ?_; (case hb => (first | with_reducible exact HC2.out | with_reducible exact below_alloc HC2.out _ | with_reducible exact below_drew1 (below_alloc HB1.out _) | with_reducible exact below_drew1 (below_alloc (below_alloc HB1.out _) _))); (case hblk => (first | with_reducible exact blk_drew (blk_new _ _) | with_reducible exact blk_drew (blk_alloc (blk_new _ _) _) | with_reducible exact blk_drew (blk_new2 _ _ _) | with_reducible exact blk_new _ _ | with_reducible exact blk_below (blk_drew (blk_new _ _)) HB2.out | with_reducible exact blk_below (blk_drew (blk_alloc (blk_new _ _) _)) HB2.out | with_reducible exact blk_below (blk_drew (blk_new2 _ _ _)) HB2.out)); rintro e w2 ⟨rfl, hb2, hc2⟩; have HB2 := Aside0.mk hb2; have HC2 := Aside0.mk hc2; clear hb2 hc2) | (go_at_call 6; with_reducible refine (HS1.out w _ _ 22 ?hb ?hblk).mono ?_; (case hb => (first | with_reducible exact HC2.out | with_reducible exact below_alloc HC2.out _ | with_reducible exact below_drew1 (below_alloc HB1.out _) | with_reducible exact below_drew1 (below_alloc (below_alloc HB1.out _) _))); (case hblk => (first | with_reducible exact blk_drew (blk_new _ _) | with_reducible exact blk_drew (blk_alloc (blk_new _ _) _) | with_reducible exact blk_drew (blk_new2 _ _ _) | with_reducible exact blk_new _ _ | with_reducible exact blk_below (blk_drew (blk_new _ _)) HB2.out | with_reducible exact blk_below (blk_drew (blk_alloc (blk_new _ _) _)) HB2.out | with_reducible exact blk_below (blk_drew (blk_new2 _ _ _)) HB2.out)); rintro e w3 ⟨rfl, hb3, hc3⟩; have HB3 := Aside0.mk hb3; have HC3 := Aside0.mk hc3; clear hb3 hc3))
    all_goals go_wp2
    all_goals go_ret
    all_goals exact ⟨rfl, HC3.out⟩
end Go.Proofs.Ytgadhmoifhoilaa.Md5
