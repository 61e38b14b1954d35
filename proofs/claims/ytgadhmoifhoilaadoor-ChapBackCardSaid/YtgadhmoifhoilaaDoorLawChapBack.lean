/-
  The law ChapBack, walked.
-/
import Derived.Test.YtgadhmoifhoilaaDoorChapAwake
import Derived.Test.YtgadhmoifhoilaaDoorLaid
import Derived.Test.YtgadhmoifhoilaaDoorChapPlain
import Derived.Test.YtgadhmoifhoilaaDoorLawChapReads
namespace Go.Proofs.YtgadhmoifhoilaaDoor.Chap
open Go.RowKit Go.Lib Go.Proofs.YtgadhmoifhoilaaDoorW.PrintWords Go.Proofs.YtgadhmoifhoilaaDoorW.PrintLast Go.Proofs.YtgadhmoifhoilaaDoorW.PrintMore Go.Proofs.YtgadhmoifhoilaaDoor.Kit Go.Proofs.YtgadhmoifhoilaaDoor.Md5
set_option linter.unusedVariables false
set_option linter.unusedSimpArgs false

set_option maxRecDepth 100000 in
set_option maxHeartbeats 8000000 in
theorem chapBack_law (Aa0_0 : Option Addr) (ca0_0 : Nat) (a0_0 : List Int) (a0_1 : ByteArray) (Aa1 : Option Addr) (ca1 : Nat) (a1 : List Int) (w : World) (la0_0 : a0_0.length ≤ ca0_0) (ra0_0 : (Kd.int .u8).C w Aa0_0 a0_0.length a0_0) (wa0_0 : ∀ n ∈ a0_0, (Lit.int .u8 n).wf = true) (ya0_1 : a0_1.size ≤ maxLen) (la1 : a1.length ≤ ca1) (ra1 : (Kd.int .u8).C w Aa1 a1.length a1) (wa1 : ∀ n ∈ a1, (Lit.int .u8 n).wf = true) (hLD : laidMetH Tryd.prog laid3 w) :
    Calls Tryd.prog 9 #[.agg #[.slice Aa0_0 a0_0.length ca0_0, .string a0_1], .slice Aa1 a1.length ca1] w fun e w' => e = .returned (.bool true) ∧ Below w.heap.size w w' := by
  have HC := Aside0.mk ra0_0
  have HC1 := Aside0.mk ra1
  have hIB0 := isB_of_wf wa0_0
  have hIB1 := isB_of_wf wa1
  obtain ⟨hG, h3⟩ := of_laid hLD
  have hml : a0_1.size ≤ 9223372036854775807 := ya0_1
  have HAW := Aside0.mk (show ∀ W, Below w.heap.size w W → Calls Tryd.prog 16 #[] W fun e w' => e = .returned (.bool true) ∧ Below W.heap.size W w' from fun W hb => awake_calls W (hG.below hb h3) (Nat.le_trans h3 hb.size))
  have HB := Aside0.mk (Below.refl w.heap.size w)
  have hn2 := ra0_0.2.1
  have hn3 := ra1.2.1
  by_cases hsm : a0_0.length ≤ 1000 ∧ a0_1.size ≤ 70000 ∧ a1.length ≤ 70000
  case neg =>
    obtain ⟨L, hL⟩ : ∃ L, a0_0.length = L := ⟨_, rfl⟩
    obtain ⟨L1, hL1⟩ : ∃ L, a1.length = L := ⟨_, rfl⟩
    rw [hL, hL1] at hsm ⊢
    rw [hL] at la0_0 hn2
    rw [hL1] at la1 hn3
    clear wa0_0 ra0_0 wa1 ra1 hLD hG h3 HC HC1 hL hL1 hIB0 hIB1
    have hbig : (1000 < L) ∨ (L ≤ 1000 ∧ 70000 < a0_1.size) ∨ (L ≤ 1000 ∧ a0_1.size ≤ 70000 ∧ 70000 < L1) := by omega
    clear hsm
    rcases hbig with hbig | ⟨hb0, hbig⟩ | ⟨hb0, hb1, hbig⟩
    all_goals go_enter Tryd.func9, Tryd.ntmps9
    all_goals go_wp2_with (first | ((with_reducible refine gate_dst (N := 2) rfl ?_); refine' box_event ?hg (N := 2) ?hd (t := 30) ?hr ?_; (case hd => rfl); (case hg => rfl); (case hr => first | (go_simp; done) | (go_simp; rfl)); intro g1 hgn w1 hbox hbn; have GEg1 := Aside0.mk (show w.heap.size ≤ g1 from Nat.le_trans (below_size (show Below w.heap.size w w from HB.out)) (Nat.le_of_eq hgn.symm)); have HB_ := Aside0.mk (below_step (show Below w.heap.size w w from HB.out) hbn); clear HB; have HB := HB_; clear HB_; have Bg1 := Aside0.mk hbox; clear hbox hbn hgn; obtain ⟨c0g1, c1g1, f0g1, f1g1⟩ := cell2 Bg1.out) | (go_at_call 16; (with_reducible refine (HAW.out _ HB.out).mono ?_); rintro e wq ⟨rfl, hbn⟩; clear c0g1 c1g1 f0g1 f1g1; have Bg1_ := Aside0.mk (blk_below Bg1.out hbn); clear Bg1; have Bg1 := Bg1_; clear Bg1_; have HB_ := Aside0.mk (below_step HB.out hbn); clear HB hbn; have HB := HB_; clear HB_; obtain ⟨c0g1, c1g1, f0g1, f1g1⟩ := cell2 Bg1.out))
    all_goals go_ret
    all_goals exact ⟨rfl, HB.out⟩
  case pos =>
    obtain ⟨hl1, hs1, hl2⟩ := hsm
    obtain ⟨⟨p1, p2⟩, hp⟩ : ∃ r, PChapBase.chap_Put.f 5 a0_0 a0_1 = some r := ⟨_, put_form a0_0 a0_1 (by omega) (by omega)⟩
    obtain ⟨⟨v1, n1, e1⟩, hr⟩ := read_total hIB1 (show a1.length ≤ 1000000 by omega)
    have HRP := Aside0.mk (read_put hIB1 (show a1.length ≤ 1000000 by omega) hr)
    have HPR := Aside0.mk (fun (h : p2 = 0) => put_read hIB0 (show a0_0.length ≤ 1000000 by omega) (show a0_1.size ≤ 1000000 by omega) (show PChapBase.chap_Put.f 5 a0_0 a0_1 = some (p1, 0) by rw [hp, h]))
    have HPUT := Aside0.mk (show ∀ W, Below w.heap.size w W → Calls Tryd.prog 17 #[.agg #[.slice Aa0_0 a0_0.length ca0_0, .string a0_1]] W fun e w' => ∃ v0_ : Value, e = .returned (.tuple #[v0_, .int .i64 p2]) ∧ Kd.R (Kd.int .u8) 5 w' W.heap.size (fun _ => True) v0_ p1 ∧ Below W.heap.size W w' from fun W hb => PChapBase.chap_Put.calls 5 Aa0_0 ca0_0 a0_0 a0_1 p1 p2 W (Kd.C_below HC.out hb) la0_0 hp)
    have HRB := Aside0.mk (show ∀ W, Below w.heap.size w W → Calls Tryd.prog 19 #[.slice Aa1 a1.length ca1] W fun e w' => ∃ v0_ : Value, e = .returned (.tuple #[.agg #[v0_, .string n1], .int .i64 e1]) ∧ Kd.R (Kd.int .u8) 5 w' W.heap.size (fun _ => True) v0_ v1 ∧ Below W.heap.size W w' from fun W hb => AuthHand.chap_Read.calls Aa1 ca1 a1 v1 n1 e1 W (Kd.C_below HC1.out hb) la1 hr)
    have HCV := Aside0.mk (show ∀ W, Below w.heap.size w W → (convert 22 9 (.slice Aa1 a1.length ca1)).run Tryd.prog W = .ok (.string (strOfNums a1)) W from fun W hb => Kd.C_string (P := Tryd.prog) Tryd.underlying22 Tryd.underlying5 Tryd.underlying9 (Kd.C_below HC1.out hb))
    have HSM := Aside0.mk (show ∀ W A c A' c' (l : List Int) (s : ByteArray), (Kd.int .u8).C W A l.length l → l.length ≤ c → (Kd.int .u8).C W A' l.length l → l.length ≤ c' → Calls Tryd.prog 21 #[.agg #[.slice A l.length c, .string s], .agg #[.slice A' l.length c', .string s]] W fun e w' => e = .returned (.bool true) ∧ Below W.heap.size W w' from fun W A c A' c' l s h hc h' hc' => PChapBase.umpireref17_Same.calls A c l s A' c' l s true W h hc h' hc' (same_self l s))
    have HLA := Aside0.mk la0_0
    obtain ⟨L, hL⟩ : ∃ L, a0_0.length = L := ⟨_, rfl⟩
    obtain ⟨L1, hL1⟩ : ∃ L, a1.length = L := ⟨_, rfl⟩
    have HLE := Aside0.mk hL
    rw [hL] at hl1 la0_0 hn2 HPUT ⊢
    rw [hL1] at hl2 la1 hn3 HRB HCV ⊢
    clear wa0_0 ra0_0 wa1 ra1 hLD hG h3 hL hL1 hIB0 hIB1 hp hr
    go_enter Tryd.func9, Tryd.ntmps9
    go_upto_if 39 with (first | ((with_reducible refine gate_dst (N := 2) rfl ?_); refine' box_event ?hg (N := 2) ?hd (t := 30) ?hr ?_; (case hd => rfl); (case hg => rfl); (case hr => first | (go_simp; done) | (go_simp; rfl)); intro g1 hgn w1 hbox hbn; have GEg1 := Aside0.mk (show w.heap.size ≤ g1 from Nat.le_trans (below_size (show Below w.heap.size w w from HB.out)) (Nat.le_of_eq hgn.symm)); have HB_ := Aside0.mk (below_step (show Below w.heap.size w w from HB.out) hbn); clear HB; have HB := HB_; clear HB_; have Bg1 := Aside0.mk hbox; clear hbox hbn hgn; obtain ⟨c0g1, c1g1, f0g1, f1g1⟩ := cell2 Bg1.out) | (go_at_call 16; (with_reducible refine (HAW.out _ HB.out).mono ?_); rintro e wq ⟨rfl, hbn⟩; clear c0g1 c1g1 f0g1 f1g1; have Bg1_ := Aside0.mk (blk_below Bg1.out hbn); clear Bg1; have Bg1 := Bg1_; clear Bg1_; have HB_ := Aside0.mk (below_step HB.out hbn); clear HB hbn; have HB := HB_; clear HB_; obtain ⟨c0g1, c1g1, f0g1, f1g1⟩ := cell2 Bg1.out) | (go_at_call 17; (with_reducible refine (HPUT.out _ HB.out).mono ?_); rintro e wq ⟨vx, rfl, hr, hbn⟩; clear c0g1 c1g1 f0g1 f1g1; obtain ⟨Ax, cx, rfl⟩ := Kd.R_slice hr; have HVX := Aside0.mk hr; clear hr; have Bg1_ := Aside0.mk (blk_below Bg1.out hbn); clear Bg1; have Bg1 := Bg1_; clear Bg1_; have HB_ := Aside0.mk (below_step HB.out hbn); clear HB hbn; have HB := HB_; clear HB_; obtain ⟨c0g1, c1g1, f0g1, f1g1⟩ := cell2 Bg1.out))
    (try simp only [Act.put, List.setIfInBounds_toArray, List.set_cons_zero, List.set_cons_succ])
    clear HPUT HAW
    have HIN := Aside0.mk (show ∀ W, Below w.heap.size w W → (Kd.int .u8).C W Aa0_0 a0_0.length a0_0 from fun W hb => Kd.C_below HC.out hb)
    go_cut [] (fun wc => Aside0 (Below w.heap.size w wc))
    case first =>
      clear HRP HRB HCV
      by_cases h0 : p2 = 0
      · obtain ⟨hb1, hb2, hb3⟩ := HPR.out h0
        have h0b : (p2 == 0) = true := by simp [h0]
        clear h0
        have q5 := Kd.R_reads' HVX.out
        have HX2 := Aside0.mk (show ∀ W, Below wq.heap.size wq W → Calls Tryd.prog 19 #[.slice Ax p1.length cx] W fun e w' => ∃ v0_ : Value, e = .returned (.tuple #[.agg #[v0_, .string a0_1], .int .i64 0]) ∧ Kd.R (Kd.int .u8) 5 w' W.heap.size (fun _ => True) v0_ a0_0 ∧ Below W.heap.size W w' from fun W hb => AuthHand.chap_Read.calls Ax cx p1 a0_0 a0_1 0 W (Kd.C_below q5.2.2 hb) q5.2.1 hb1)
        clear q5 hb1 hb2 HPR
        clear c0g1 c1g1 f0g1 f1g1
        generalize wq = w9 at HB HVX Bg1 HX2 ⊢
        clear HVX
        go_upto_region 6 with (first | (go_at_call 19; (with_reducible refine (HX2.out _ (Below.refl _ _)).mono ?_); rintro e w10 ⟨v7, rfl, hr, hbn⟩; obtain ⟨A7, c7, rfl⟩ := Kd.R_slice hr; have HV7 := Aside0.mk (Kd.R_lower hr (below_size (show Below w.heap.size w w9 from HB.out))); clear hr; have Bg1_ := Aside0.mk (blk_below Bg1.out hbn); clear Bg1; have Bg1 := Bg1_; clear Bg1_; have HB_ := Aside0.mk (below_step (show Below w.heap.size w w9 from HB.out) hbn); clear HB; have HB := HB_; clear HB_; clear hbn) | ((with_reducible refine gate_dst (N := 7) rfl ?_); refine' box_event ?hg (N := 7) ?hd (t := 30) ?hr ?_; (case hd => rfl); (case hg => rfl); (case hr => first | (go_simp; done) | (go_simp; rfl)); intro g7 hgn w11 hbox hbn; have NEg1g7 := Aside0.mk (show g1 ≠ g7 from Nat.ne_of_lt (Nat.lt_of_lt_of_eq (blk_lt Bg1.out) hgn.symm)); have GEg7 := Aside0.mk (show w.heap.size ≤ g7 from Nat.le_trans (below_size (show Below w.heap.size w w10 from HB.out)) (Nat.le_of_eq hgn.symm)); have Bg1_ := Aside0.mk (blk_below Bg1.out hbn); clear Bg1; have Bg1 := Bg1_; clear Bg1_; have HV7_ := Aside0.mk (Kd.R_below HV7.out hbn); clear HV7; have HV7 := HV7_; clear HV7_; have HB_ := Aside0.mk (below_step (show Below w.heap.size w w10 from HB.out) hbn); clear HB; have HB := HB_; clear HB_; have Bg7 := Aside0.mk hbox; clear hbox hbn hgn; obtain ⟨c0g7, c1g7, f0g7, f1g7⟩ := cell2 Bg7.out))
        (try simp only [Act.put, List.setIfInBounds_toArray, List.set_cons_zero, List.set_cons_succ])
        clear c0g7 c1g7 f0g7 f1g7
        have yBg1 := blk_far (p := ⟨g7, 1, none⟩) (blk_far (p := ⟨g7, 0, none⟩) Bg1.out NEg1g7.out (.slice A7 a0_0.length c7)) NEg1g7.out (.string a0_1)
        have yHV7 := Kd.R_set (Kd.R_set HV7.out Bg7.out chaps_ne 0 (.slice A7 a0_0.length c7)) (blk_set Bg7.out 0 (.slice A7 a0_0.length c7)) chaps_ne 1 (.string a0_1)
        have yBg7 := blk_put (blk_put (cs' := #[.slice A7 a0_0.length c7, .string (⟨#[]⟩ : ByteArray)]) Bg7.out 0 (.slice A7 a0_0.length c7) rfl) 1 (.string a0_1) (cs' := #[.slice A7 a0_0.length c7, .string a0_1]) rfl
        have yHB := (HB.out.setCell (p := ⟨g7, 0, none⟩) GEg7.out (.slice A7 a0_0.length c7)).setCell (p := ⟨g7, 1, none⟩) GEg7.out (.string a0_1)
        clear Bg1 HV7 Bg7 HB
        generalize ((w11.setCell ⟨g7, 0, none⟩ (.slice A7 a0_0.length c7)).setCell ⟨g7, 1, none⟩ (.string a0_1)) = w12 at yBg1 yHV7 yBg7 yHB ⊢
        have Bg1 := Aside0.mk yBg1
        clear yBg1
        have HV7 := Aside0.mk yHV7
        clear yHV7
        have Bg7 := Aside0.mk yBg7
        clear yBg7
        have HB := Aside0.mk yHB
        clear yHB
        have q7 := Kd.R_reads' HV7.out
        have Q7 := Aside0.mk q7
        clear q7
        have HQ := Aside0.mk (HIN.out _ HB.out)
        have HSM2 := Aside0.mk (show ∀ W A', Below w.heap.size w W → ∀ c', (Kd.int .u8).C W A' a0_0.length a0_0 → a0_0.length ≤ c' → Calls Tryd.prog 21 #[.agg #[.slice Aa0_0 L ca0_0, .string a0_1], .agg #[.slice A' L c', .string a0_1]] W fun e w' => e = .returned (.bool true) ∧ Below W.heap.size W w' from fun W A' hb c' h hc => by
          have h2 := HSM.out W Aa0_0 ca0_0 A' c' a0_0 a0_1 (HIN.out W hb) HLA.out h hc
          rw [HLE.out] at h2
          exact h2)
        rw [HLE.out] at Bg7 ⊢
        obtain ⟨c0g1, c1g1, f0g1, f1g1⟩ := cell2 Bg1.out
        obtain ⟨c0g7, c1g7, f0g7, f1g7⟩ := cell2 Bg7.out
        go_wp2_with (first | (go_at_call 21; (with_reducible refine (HSM2.out _ A7 HB.out c7 Q7.out.2.2 Q7.out.2.1).mono ?_); rintro e wf ⟨rfl, hbn⟩; have HBF := Aside0.mk (below_step HB.out hbn); clear hbn))
        go_meet
        case rel => exact HBF
      · have h0b : (p2 == 0) = false := by simp [h0]
        go_wp2_with fail
        go_meet
        case rel => exact HB
    clear HB HVX Bg1 HPR HIN c0g1 c1g1 f0g1 f1g1
    have HB := hcut
    clear hcut
    generalize wc = w9 at HB ⊢
    go_upto_region 9 with (first | (go_at_call 19; (with_reducible refine (HRB.out _ HB.out).mono ?_); rintro e w10 ⟨v9, rfl, hr, hbn⟩; obtain ⟨A9, c9, rfl⟩ := Kd.R_slice hr; have HV9 := Aside0.mk (Kd.R_lower hr (below_size (show Below w.heap.size w w9 from HB.out))); clear hr; have HB_ := Aside0.mk (below_step (show Below w.heap.size w w9 from HB.out) hbn); clear HB; have HB := HB_; clear HB_; clear hbn) | ((with_reducible refine gate_dst (N := 9) rfl ?_); refine' box_event ?hg (N := 9) ?hd (t := 30) ?hr ?_; (case hd => rfl); (case hg => rfl); (case hr => first | (go_simp; done) | (go_simp; rfl)); intro g9 hgn w11 hbox hbn; have GEg9 := Aside0.mk (show w.heap.size ≤ g9 from Nat.le_trans (below_size (show Below w.heap.size w w10 from HB.out)) (Nat.le_of_eq hgn.symm)); have HV9_ := Aside0.mk (Kd.R_below HV9.out hbn); clear HV9; have HV9 := HV9_; clear HV9_; have HB_ := Aside0.mk (below_step (show Below w.heap.size w w10 from HB.out) hbn); clear HB; have HB := HB_; clear HB_; have Bg9 := Aside0.mk hbox; clear hbox hbn hgn; obtain ⟨c0g9, c1g9, f0g9, f1g9⟩ := cell2 Bg9.out))
    (try simp only [Act.put, List.setIfInBounds_toArray, List.set_cons_zero, List.set_cons_succ])
    clear c0g9 c1g9 f0g9 f1g9
    have yHV9 := Kd.R_set (Kd.R_set HV9.out Bg9.out chaps_ne 0 (.slice A9 v1.length c9)) (blk_set Bg9.out 0 (.slice A9 v1.length c9)) chaps_ne 1 (.string n1)
    have yBg9 := blk_put (blk_put (cs' := #[.slice A9 v1.length c9, .string (⟨#[]⟩ : ByteArray)]) Bg9.out 0 (.slice A9 v1.length c9) rfl) 1 (.string n1) (cs' := #[.slice A9 v1.length c9, .string n1]) rfl
    have yHB := (HB.out.setCell (p := ⟨g9, 0, none⟩) GEg9.out (.slice A9 v1.length c9)).setCell (p := ⟨g9, 1, none⟩) GEg9.out (.string n1)
    clear HV9 Bg9 HB
    generalize ((w11.setCell ⟨g9, 0, none⟩ (.slice A9 v1.length c9)).setCell ⟨g9, 1, none⟩ (.string n1)) = w12 at yHV9 yBg9 yHB ⊢
    have HV9 := Aside0.mk yHV9
    clear yHV9
    have Bg9 := Aside0.mk yBg9
    clear yBg9
    have HB := Aside0.mk yHB
    clear yHB
    have q9 := Kd.R_reads' HV9.out
    have Q9 := Aside0.mk q9
    clear q9
    rcases HRP.out with ⟨he, rfl, rfl⟩ | ⟨rfl, hput, hv1, hn1⟩
    · have heb : (e1 != 0) = true := by simp [he]
      obtain ⟨c0g9, c1g9, f0g9, f1g9⟩ := cell2 Bg9.out
      go_wp2_with (first | (go_at_call 21; refine (HSM.out _ A9 c9 none 0 [] (⟨#[]⟩ : ByteArray) Q9.out.2.2 Q9.out.2.1 (Kd.C_nil _ _) (Nat.le_refl _)).mono ?_; rintro e wf ⟨rfl, hbn⟩; have HBF := Aside0.mk (below_step HB.out hbn); clear hbn))
      go_ret
      exact ⟨rfl, HBF.out⟩
    · have HP2 := Aside0.mk (show ∀ W, Below w.heap.size w W → (Kd.int .u8).C W A9 v1.length v1 → v1.length ≤ c9 → Calls Tryd.prog 17 #[.agg #[.slice A9 v1.length c9, .string n1]] W fun e w' => ∃ v0_ : Value, e = .returned (.tuple #[v0_, .int .i64 0]) ∧ Kd.R (Kd.int .u8) 5 w' W.heap.size (fun _ => True) v0_ a1 ∧ Below W.heap.size W w' from fun W hb h hc => PChapBase.chap_Put.calls 5 A9 c9 v1 n1 a1 0 W h hc hput)
      obtain ⟨c0g9, c1g9, f0g9, f1g9⟩ := cell2 Bg9.out
      clear hput
      go_upto_region 12 with (first | (go_at_call 17; (with_reducible refine (HP2.out _ HB.out Q9.out.2.2 Q9.out.2.1).mono ?_); rintro e wp ⟨vp, rfl, hr, hbn⟩; obtain ⟨Ap, cp, rfl⟩ := Kd.R_slice hr; have HVP := Aside0.mk hr; have HBP := Aside0.mk (below_step HB.out hbn); clear hr hbn))
      (try simp only [Act.put, List.setIfInBounds_toArray, List.set_cons_zero, List.set_cons_succ])
      have hcv1 := HCV.out _ HBP.out
      have hcv2 := own_string (P := Tryd.prog) (src := 22) (dst := 9) Tryd.underlying22 Tryd.underlying5 Tryd.underlying9 (Kd.own_of_R HVP.out)
      go_wp2_with fail
      go_ret
      exact ⟨by first | rfl | simp, HBP.out⟩
end Go.Proofs.YtgadhmoifhoilaaDoor.Chap
