/-
  The law ChapReads, walked.
-/
import Derived.Test.YtgadhmoifhoilaaDoorChapAwake
import Derived.Test.YtgadhmoifhoilaaDoorLaid
namespace Go.Proofs.YtgadhmoifhoilaaDoor.Chap
open Go.RowKit Go.Lib Go.Proofs.YtgadhmoifhoilaaDoorW.PrintWords Go.Proofs.YtgadhmoifhoilaaDoorW.PrintLast Go.Proofs.YtgadhmoifhoilaaDoorW.PrintMore Go.Proofs.YtgadhmoifhoilaaDoor.Kit Go.Proofs.YtgadhmoifhoilaaDoor.Md5
set_option linter.unusedVariables false
set_option linter.unusedSimpArgs false

theorem chap_ref {l : List Int} (h : Kit.isB l = true) (hl : l.length ≤ 1000000) : PChapBase.umpireref17_Read.f l = AuthHand.chap_Read.f l := by
  unfold PChapBase.umpireref17_Read.f AuthHand.chap_Read.f
  have hr := Kit.rd_byte h 0
  rw [if_pos (show Kit.isB l = true ∧ l.length ≤ 1000000 from ⟨h, hl⟩)]
  by_cases h0 : l.length = 0
  · rw [if_pos (by omega), if_pos h0]
  · rw [if_neg (by omega), if_neg h0, if_pos (by omega)]
    have e1 : wrap64 (rd l 0) = rd l 0 := wrapS (by omega) (by omega)
    have e2 : wrap64 (1 + rd l 0) = 1 + rd l 0 := wrapS (by omega) (by omega)
    have e3 : wrap64 ((l.length : Int) - 1) = (l.length : Int) - 1 := wrapS (by omega) (by omega)
    have e4 : wrap64 ((l.length : Int) - 1 - rd l 0) = (l.length : Int) - 1 - rd l 0 := wrapS (by omega) (by omega)
    rw [e1, e2, e3, e4]
    by_cases h1 : rd l 0 = 0
    · rw [if_pos h1, if_pos h1]
    · rw [if_neg h1, if_neg h1]
      by_cases h2 : (l.length : Int) - 1 < rd l 0
      · rw [if_pos h2, if_pos (by omega)]
      · rw [if_neg h2, if_neg (by omega)]
        by_cases h3 : 65526 < (l.length : Int) - 1 - rd l 0
        · rw [if_pos h3, if_pos h3]
        · rw [if_neg h3, if_neg h3, if_pos (by omega), if_pos (by omega), if_pos (by omega), if_pos (by simp; omega)]
          obtain ⟨n, hn⟩ : ∃ n : Nat, rd l 0 = (n : Int) := ⟨(rd l 0).toNat, by omega⟩
          rw [hn, show ((1 : Int) + (n : Int)).toNat = 1 + n from by omega, Int.toNat_natCast, List.nil_append, List.drop_take, List.drop_drop, show 1 + n - 1 = n from by omega]
theorem read_total {l : List Int} (h : isB l = true) (hl : l.length ≤ 1000000) : ∃ r, AuthHand.chap_Read.f l = some r := by
  unfold AuthHand.chap_Read.f
  rw [if_pos ⟨h, hl⟩]
  split
  · exact ⟨_, rfl⟩
  · split
    · exact ⟨_, rfl⟩
    · split
      · exact ⟨_, rfl⟩
      · split <;> exact ⟨_, rfl⟩
theorem same_self (l : List Int) (s : ByteArray) : PChapBase.umpireref17_Same.f l s l s = some true := by unfold PChapBase.umpireref17_Same.f; simp
set_option maxRecDepth 100000 in
set_option maxHeartbeats 4000000 in
theorem chapReads_law (Aa0 : Option Addr) (ca0 : Nat) (a0 : List Int) (w : World) (la0 : a0.length ≤ ca0) (ra0 : (Kd.int .u8).C w Aa0 a0.length a0) (wa0 : ∀ n ∈ a0, (Lit.int .u8 n).wf = true) (hLD : laidMetH Tryd.prog laid3 w) :
    Calls Tryd.prog 6 #[.slice Aa0 a0.length ca0] w fun e w' => e = .returned (.bool true) ∧ Below w.heap.size w w' := by
  have hIB := isB_of_wf wa0
  have HC := Aside0.mk ra0
  obtain ⟨hG, h3⟩ := of_laid hLD
  have HAW := Aside0.mk (show ∀ W, Below w.heap.size w W → Calls Tryd.prog 16 #[] W fun e w' => e = .returned (.bool true) ∧ Below W.heap.size W w' from fun W hb => awake_calls W (hG.below hb h3) (Nat.le_trans h3 hb.size))
  have HB := Aside0.mk (Below.refl w.heap.size w)
  by_cases hbig : 70000 < a0.length
  · obtain ⟨L, hL⟩ : ∃ L, a0.length = L := ⟨_, rfl⟩
    rw [hL] at hbig la0 ⊢
    clear wa0 ra0 hLD hG h3 hIB HC hL
    go_enter Tryd.func6, Tryd.ntmps6
    go_wp2_with fail
    refine (HAW.out _ HB.out).mono ?_
    rintro e w1 ⟨rfl, hb1⟩
    have HB1 := Aside0.mk (below_step HB.out hb1)
    clear hb1
    go_wp2_with fail
    refine (HAW.out _ HB1.out).mono ?_
    rintro e w2 ⟨rfl, hb2⟩
    have HB2 := Aside0.mk (below_step HB1.out hb2)
    clear hb2
    go_wp2_with fail
    go_ret
    exact ⟨rfl, HB2.out⟩
  · obtain ⟨⟨r1, r2, r3⟩, hr⟩ := read_total hIB (show a0.length ≤ 1000000 by omega)
    have hr' := (chap_ref hIB (show a0.length ≤ 1000000 by omega)).trans hr
    have HX := Aside0.mk (show ∀ W, Below w.heap.size w W → Calls Tryd.prog 19 #[.slice Aa0 a0.length ca0] W fun e w' => ∃ v0_ : Value, e = .returned (.tuple #[.agg #[v0_, .string r2], .int .i64 r3]) ∧ Kd.R (Kd.int .u8) 5 w' W.heap.size (fun _ => True) v0_ r1 ∧ Below W.heap.size W w' from fun W hb => AuthHand.chap_Read.calls Aa0 ca0 a0 r1 r2 r3 W (Kd.C_below HC.out hb) la0 hr)
    have HY := Aside0.mk (show ∀ W, Below w.heap.size w W → Calls Tryd.prog 20 #[.slice Aa0 a0.length ca0] W fun e w' => ∃ v0_ : Value, e = .returned (.tuple #[.agg #[v0_, .string r2], .int .i64 r3]) ∧ Kd.R (Kd.int .u8) 5 w' W.heap.size (fun _ => True) v0_ r1 ∧ Below W.heap.size W w' from fun W hb => PChapBase.umpireref17_Read.calls Aa0 ca0 a0 r1 r2 r3 W (Kd.C_below HC.out hb) la0 hr')
    have HSM := Aside0.mk (show ∀ W A c A' c', (Kd.int .u8).C W A r1.length r1 → r1.length ≤ c → (Kd.int .u8).C W A' r1.length r1 → r1.length ≤ c' → Calls Tryd.prog 21 #[.agg #[.slice A r1.length c, .string r2], .agg #[.slice A' r1.length c', .string r2]] W fun e w' => e = .returned (.bool true) ∧ Below W.heap.size W w' from fun W A c A' c' h hc h' hc' => PChapBase.umpireref17_Same.calls A c r1 r2 A' c' r1 r2 true W h hc h' hc' (same_self r1 r2))
    obtain ⟨L, hL⟩ : ∃ L, a0.length = L := ⟨_, rfl⟩
    rw [hL] at hbig la0 HX HY ⊢
    clear wa0 ra0 hLD hG h3 hIB HC hL hr hr'
    go_enter Tryd.func6, Tryd.ntmps6
    go_upto_region 3 with (first | (go_at_call 16; (with_reducible refine (HAW.out _ HB.out).mono ?_); rintro e w1 ⟨rfl, hbn⟩; have HB_ := Aside0.mk (below_step (show Below w.heap.size w w from HB.out) hbn); clear HB; have HB := HB_; clear HB_; clear hbn))
    (try simp only [Act.put, List.setIfInBounds_toArray, List.set_cons_zero, List.set_cons_succ])
    go_upto_region 4 with (first | (go_at_call 19; (with_reducible refine (HX.out _ HB.out).mono ?_); rintro e w2 ⟨v5, rfl, hr, hbn⟩; obtain ⟨A5, c5, rfl⟩ := Kd.R_slice hr; have HV5 := Aside0.mk (Kd.R_lower hr (below_size (show Below w.heap.size w w1 from HB.out))); clear hr; have HB_ := Aside0.mk (below_step (show Below w.heap.size w w1 from HB.out) hbn); clear HB; have HB := HB_; clear HB_; clear hbn) | ((with_reducible refine gate_dst (N := 3) rfl ?_); refine' box_event ?hg (N := 3) ?hd (t := 30) ?hr ?_; (case hd => rfl); (case hg => rfl); (case hr => first | (go_simp; done) | (go_simp; rfl)); intro g3 hgn w3 hbox hbn; have GEg3 := Aside0.mk (show w.heap.size ≤ g3 from Nat.le_trans (below_size (show Below w.heap.size w w2 from HB.out)) (Nat.le_of_eq hgn.symm)); have HV5_ := Aside0.mk (Kd.R_below HV5.out hbn); clear HV5; have HV5 := HV5_; clear HV5_; have HB_ := Aside0.mk (below_step (show Below w.heap.size w w2 from HB.out) hbn); clear HB; have HB := HB_; clear HB_; have Bg3 := Aside0.mk hbox; clear hbox hbn hgn; obtain ⟨c0g3, c1g3, f0g3, f1g3⟩ := cell2 Bg3.out))
    (try simp only [Act.put, List.setIfInBounds_toArray, List.set_cons_zero, List.set_cons_succ])
    clear c0g3 c1g3 f0g3 f1g3
    have yHV5 := Kd.R_set (Kd.R_set HV5.out Bg3.out chaps_ne 0 (.slice A5 r1.length c5)) (blk_set Bg3.out 0 (.slice A5 r1.length c5)) chaps_ne 1 (.string r2)
    have yBg3 := blk_put (blk_put (cs' := #[.slice A5 r1.length c5, .string (⟨#[]⟩ : ByteArray)]) Bg3.out 0 (.slice A5 r1.length c5) rfl) 1 (.string r2) (cs' := #[.slice A5 r1.length c5, .string r2]) rfl
    have yHB := (HB.out.setCell (p := ⟨g3, 0, none⟩) GEg3.out (.slice A5 r1.length c5)).setCell (p := ⟨g3, 1, none⟩) GEg3.out (.string r2)
    clear HV5 Bg3 HB
    generalize ((w3.setCell ⟨g3, 0, none⟩ (.slice A5 r1.length c5)).setCell ⟨g3, 1, none⟩ (.string r2)) = w4 at yHV5 yBg3 yHB ⊢
    have HV5 := Aside0.mk yHV5
    clear yHV5
    have Bg3 := Aside0.mk yBg3
    clear yBg3
    have HB := Aside0.mk yHB
    clear yHB
    go_upto_region 5 with (first | (go_at_call 20; (with_reducible refine (HY.out _ HB.out).mono ?_); rintro e w5 ⟨v6, rfl, hr, hbn⟩; obtain ⟨A6, c6, rfl⟩ := Kd.R_slice hr; have HV6 := Aside0.mk (Kd.R_lower hr (below_size (show Below w.heap.size w w4 from HB.out))); clear hr; have HV5_ := Aside0.mk (Kd.R_below HV5.out hbn); clear HV5; have HV5 := HV5_; clear HV5_; have Bg3_ := Aside0.mk (blk_below Bg3.out hbn); clear Bg3; have Bg3 := Bg3_; clear Bg3_; have HB_ := Aside0.mk (below_step (show Below w.heap.size w w4 from HB.out) hbn); clear HB; have HB := HB_; clear HB_; clear hbn) | ((with_reducible refine gate_dst (N := 5) rfl ?_); refine' box_event ?hg (N := 5) ?hd (t := 30) ?hr ?_; (case hd => rfl); (case hg => rfl); (case hr => first | (go_simp; done) | (go_simp; rfl)); intro g5 hgn w6 hbox hbn; have NEg3g5 := Aside0.mk (show g3 ≠ g5 from Nat.ne_of_lt (Nat.lt_of_lt_of_eq (blk_lt Bg3.out) hgn.symm)); have GEg5 := Aside0.mk (show w.heap.size ≤ g5 from Nat.le_trans (below_size (show Below w.heap.size w w5 from HB.out)) (Nat.le_of_eq hgn.symm)); have HV5_ := Aside0.mk (Kd.R_below HV5.out hbn); clear HV5; have HV5 := HV5_; clear HV5_; have Bg3_ := Aside0.mk (blk_below Bg3.out hbn); clear Bg3; have Bg3 := Bg3_; clear Bg3_; have HV6_ := Aside0.mk (Kd.R_below HV6.out hbn); clear HV6; have HV6 := HV6_; clear HV6_; have HB_ := Aside0.mk (below_step (show Below w.heap.size w w5 from HB.out) hbn); clear HB; have HB := HB_; clear HB_; have Bg5 := Aside0.mk hbox; clear hbox hbn hgn; obtain ⟨c0g5, c1g5, f0g5, f1g5⟩ := cell2 Bg5.out))
    (try simp only [Act.put, List.setIfInBounds_toArray, List.set_cons_zero, List.set_cons_succ])
    clear c0g5 c1g5 f0g5 f1g5
    have yHV5 := Kd.R_set (Kd.R_set HV5.out Bg5.out chaps_ne 0 (.slice A6 r1.length c6)) (blk_set Bg5.out 0 (.slice A6 r1.length c6)) chaps_ne 1 (.string r2)
    have yBg3 := blk_far (p := ⟨g5, 1, none⟩) (blk_far (p := ⟨g5, 0, none⟩) Bg3.out NEg3g5.out (.slice A6 r1.length c6)) NEg3g5.out (.string r2)
    have yHV6 := Kd.R_set (Kd.R_set HV6.out Bg5.out chaps_ne 0 (.slice A6 r1.length c6)) (blk_set Bg5.out 0 (.slice A6 r1.length c6)) chaps_ne 1 (.string r2)
    have yBg5 := blk_put (blk_put (cs' := #[.slice A6 r1.length c6, .string (⟨#[]⟩ : ByteArray)]) Bg5.out 0 (.slice A6 r1.length c6) rfl) 1 (.string r2) (cs' := #[.slice A6 r1.length c6, .string r2]) rfl
    have yHB := (HB.out.setCell (p := ⟨g5, 0, none⟩) GEg5.out (.slice A6 r1.length c6)).setCell (p := ⟨g5, 1, none⟩) GEg5.out (.string r2)
    clear HV5 Bg3 HV6 Bg5 HB
    generalize ((w6.setCell ⟨g5, 0, none⟩ (.slice A6 r1.length c6)).setCell ⟨g5, 1, none⟩ (.string r2)) = w7 at yHV5 yBg3 yHV6 yBg5 yHB ⊢
    have HV5 := Aside0.mk yHV5
    clear yHV5
    have Bg3 := Aside0.mk yBg3
    clear yBg3
    have HV6 := Aside0.mk yHV6
    clear yHV6
    have Bg5 := Aside0.mk yBg5
    clear yBg5
    have HB := Aside0.mk yHB
    clear yHB
    have q5 := Kd.R_reads' HV5.out
    have q6 := Kd.R_reads' HV6.out
    have Q5 := Aside0.mk q5
    have Q6 := Aside0.mk q6
    clear q5 q6
    obtain ⟨c0g3, c1g3, f0g3, f1g3⟩ := cell2 Bg3.out
    obtain ⟨c0g5, c1g5, f0g5, f1g5⟩ := cell2 Bg5.out
    go_wp2_with (first | (go_at_call 21; (with_reducible refine (HSM.out _ A5 c5 A6 c6 Q5.out.2.2 Q5.out.2.1 Q6.out.2.2 Q6.out.2.1).mono ?_); rintro e wf ⟨rfl, hbn⟩; have HBF := Aside0.mk (below_step HB.out hbn); clear hbn))
    go_ret
    exact ⟨rfl, HBF.out⟩
end Go.Proofs.YtgadhmoifhoilaaDoor.Chap
