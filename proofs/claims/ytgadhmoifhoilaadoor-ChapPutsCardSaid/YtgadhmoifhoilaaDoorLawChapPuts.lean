/-
  The law ChapPuts, walked.
-/
import Derived.Test.YtgadhmoifhoilaaDoorChapAwake
import Derived.Test.YtgadhmoifhoilaaDoorLaid
namespace Go.Proofs.YtgadhmoifhoilaaDoor.Chap
open Go.RowKit Go.Lib Go.Proofs.YtgadhmoifhoilaaDoorW.PrintWords Go.Proofs.YtgadhmoifhoilaaDoorW.PrintLast Go.Proofs.YtgadhmoifhoilaaDoorW.PrintMore Go.Proofs.YtgadhmoifhoilaaDoor.Kit Go.Proofs.YtgadhmoifhoilaaDoor.Md5
set_option linter.unusedVariables false
set_option linter.unusedSimpArgs false

theorem put_total (l : List Int) (s : ByteArray) (hl : l.length ≤ 1000) (hs : s.size ≤ 70000) : ∃ r, PChapBase.chap_Put.f 5 l s = some r ∧ PChapBase.umpireref17_Put.f 5 l s = some r := by
  have j : ∀ b, ∃ r, PChapBase.chap_Put.j0 5 b l s = some r ∧ PChapBase.umpireref17_Put.j0 5 b l s = some r := by
    intro b
    simp only [PChapBase.chap_Put.j0, PChapBase.umpireref17_Put.j0]
    split
    · exact ⟨_, rfl, rfl⟩
    · split
      · exact ⟨_, rfl, rfl⟩
      · simp only [Option.bind_some]
        rw [if_pos (by simp; omega), if_pos (by simp; omega), if_pos (by simp), if_pos (by simp; omega), if_pos (by simp; omega)]
        exact ⟨_, rfl, rfl⟩
  unfold PChapBase.chap_Put.f PChapBase.umpireref17_Put.f
  split
  · exact j _
  · exact j _
set_option maxRecDepth 100000 in
set_option maxHeartbeats 4000000 in
theorem chapPuts_law (Aa0_0 : Option Addr) (ca0_0 : Nat) (a0_0 : List Int) (a0_1 : ByteArray) (w : World) (la0_0 : a0_0.length ≤ ca0_0) (ra0_0 : (Kd.int .u8).C w Aa0_0 a0_0.length a0_0) (wa0_0 : ∀ n ∈ a0_0, (Lit.int .u8 n).wf = true) (ya0_1 : a0_1.size ≤ maxLen) (hLD : laidMetH Tryd.prog laid3 w) :
    Calls Tryd.prog 5 #[.agg #[.slice Aa0_0 a0_0.length ca0_0, .string a0_1]] w fun e w' => e = .returned (.bool true) ∧ Below w.heap.size w w' := by
  have HC := Aside0.mk ra0_0
  obtain ⟨hG, h3⟩ := of_laid hLD
  have hml : a0_1.size ≤ 9223372036854775807 := ya0_1
  have HAW := Aside0.mk (show ∀ W, Below w.heap.size w W → Calls Tryd.prog 16 #[] W fun e w' => e = .returned (.bool true) ∧ Below W.heap.size W w' from fun W hb => awake_calls W (hG.below hb h3) (Nat.le_trans h3 hb.size))
  have HB := Aside0.mk (Below.refl w.heap.size w)
  have hn2 := ra0_0.2.1
  by_cases hsm : a0_0.length ≤ 1000 ∧ a0_1.size ≤ 70000
  case neg =>
    obtain ⟨L, hL⟩ : ∃ L, a0_0.length = L := ⟨_, rfl⟩
    rw [hL] at hsm la0_0 hn2 ⊢
    clear wa0_0 ra0_0 hLD hG h3 HC hL
    have hbig : (1000 < L) ∨ (L ≤ 1000 ∧ 70000 < a0_1.size) := by omega
    clear hsm
    rcases hbig with hbig | ⟨hb0, hbig⟩
    all_goals go_enter Tryd.func5, Tryd.ntmps5
    all_goals go_wp2_with (first | ((with_reducible refine gate_dst (N := 1) rfl ?_); refine' box_event ?hg (N := 1) ?hd (t := 30) ?hr ?_; (case hd => rfl); (case hg => rfl); (case hr => first | (go_simp; done) | (go_simp; rfl)); intro g1 hgn w1 hbox hbn; have GEg1 := Aside0.mk (show w.heap.size ≤ g1 from Nat.le_trans (below_size (show Below w.heap.size w w from HB.out)) (Nat.le_of_eq hgn.symm)); have HB_ := Aside0.mk (below_step (show Below w.heap.size w w from HB.out) hbn); clear HB; have HB := HB_; clear HB_; have Bg1 := Aside0.mk hbox; clear hbox hbn hgn; obtain ⟨c0g1, c1g1, f0g1, f1g1⟩ := cell2 Bg1.out) | (go_at_call 16; (with_reducible refine (HAW.out _ HB.out).mono ?_); rintro e wq ⟨rfl, hbn⟩; clear c0g1 c1g1 f0g1 f1g1; have Bg1_ := Aside0.mk (blk_below Bg1.out hbn); have HB_ := Aside0.mk (below_step HB.out hbn); clear Bg1 HB hbn; have Bg1 := Bg1_; have HB := HB_; clear Bg1_ HB_; obtain ⟨c0g1, c1g1, f0g1, f1g1⟩ := cell2 Bg1.out))
    all_goals go_ret
    all_goals exact ⟨rfl, HB.out⟩
  case pos =>
    obtain ⟨hl1, hs1⟩ := hsm
    obtain ⟨⟨r1, r2⟩, hr, hr'⟩ := put_total a0_0 a0_1 hl1 hs1
    have HX := Aside0.mk (show ∀ W, Below w.heap.size w W → Calls Tryd.prog 17 #[.agg #[.slice Aa0_0 a0_0.length ca0_0, .string a0_1]] W fun e w' => ∃ v0_ : Value, e = .returned (.tuple #[v0_, .int .i64 r2]) ∧ Kd.R (Kd.int .u8) 5 w' W.heap.size (fun _ => True) v0_ r1 ∧ Below W.heap.size W w' from fun W hb => PChapBase.chap_Put.calls 5 Aa0_0 ca0_0 a0_0 a0_1 r1 r2 W (Kd.C_below HC.out hb) la0_0 hr)
    have HY := Aside0.mk (show ∀ W, Below w.heap.size w W → Calls Tryd.prog 18 #[.agg #[.slice Aa0_0 a0_0.length ca0_0, .string a0_1]] W fun e w' => ∃ v0_ : Value, e = .returned (.tuple #[v0_, .int .i64 r2]) ∧ Kd.R (Kd.int .u8) 5 w' W.heap.size (fun _ => True) v0_ r1 ∧ Below W.heap.size W w' from fun W hb => PChapBase.umpireref17_Put.calls 5 Aa0_0 ca0_0 a0_0 a0_1 r1 r2 W (Kd.C_below HC.out hb) la0_0 hr')
    obtain ⟨L, hL⟩ : ∃ L, a0_0.length = L := ⟨_, rfl⟩
    rw [hL] at hl1 la0_0 hn2 HX HY ⊢
    clear wa0_0 ra0_0 hLD hG h3 HC hL hr hr'
    go_enter Tryd.func5, Tryd.ntmps5
    go_upto_region 5 with (first | ((with_reducible refine gate_dst (N := 1) rfl ?_); refine' box_event ?hg (N := 1) ?hd (t := 30) ?hr ?_; (case hd => rfl); (case hg => rfl); (case hr => first | (go_simp; done) | (go_simp; rfl)); intro g1 hgn w1 hbox hbn; have GEg1 := Aside0.mk (show w.heap.size ≤ g1 from Nat.le_trans (below_size (show Below w.heap.size w w from HB.out)) (Nat.le_of_eq hgn.symm)); have HB_ := Aside0.mk (below_step (show Below w.heap.size w w from HB.out) hbn); clear HB; have HB := HB_; clear HB_; have Bg1 := Aside0.mk hbox; clear hbox hbn hgn; obtain ⟨c0g1, c1g1, f0g1, f1g1⟩ := cell2 Bg1.out) | (go_at_call 16; (with_reducible refine (HAW.out _ HB.out).mono ?_); rintro e wq ⟨rfl, hbn⟩; clear c0g1 c1g1 f0g1 f1g1; have Bg1_ := Aside0.mk (blk_below Bg1.out hbn); have HB_ := Aside0.mk (below_step HB.out hbn); clear Bg1 HB hbn; have Bg1 := Bg1_; have HB := HB_; clear Bg1_ HB_; obtain ⟨c0g1, c1g1, f0g1, f1g1⟩ := cell2 Bg1.out) | (go_at_call 17; (with_reducible refine (HX.out _ HB.out).mono ?_); rintro e wx ⟨vx, rfl, hr, hbn⟩; obtain ⟨Ax, cx, rfl⟩ := Kd.R_slice hr; have HVX := Aside0.mk hr; clear hr; clear c0g1 c1g1 f0g1 f1g1; have Bg1_ := Aside0.mk (blk_below Bg1.out hbn); have HB_ := Aside0.mk (below_step HB.out hbn); clear Bg1 HB hbn; have Bg1 := Bg1_; have HB := HB_; clear Bg1_ HB_; obtain ⟨c0g1, c1g1, f0g1, f1g1⟩ := cell2 Bg1.out) | (go_at_call 18; (with_reducible refine (HY.out _ HB.out).mono ?_); rintro e wy ⟨vy, rfl, hr, hbn⟩; obtain ⟨Ay, cy, rfl⟩ := Kd.R_slice hr; have HVY := Aside0.mk hr; clear hr; clear c0g1 c1g1 f0g1 f1g1; have HVX_ := Aside0.mk (Kd.R_below HVX.out hbn); have HB_ := Aside0.mk (below_step HB.out hbn); clear HVX HB hbn Bg1; have HVX := HVX_; have HB := HB_; clear HVX_ HB_))
    (try simp only [Act.put, List.setIfInBounds_toArray, List.set_cons_zero, List.set_cons_succ])
    have hcx := own_string (P := Tryd.prog) (src := 22) (dst := 9) Tryd.underlying22 Tryd.underlying5 Tryd.underlying9 (Kd.own_of_R HVX.out)
    have hcy := own_string (P := Tryd.prog) (src := 22) (dst := 9) Tryd.underlying22 Tryd.underlying5 Tryd.underlying9 (Kd.own_of_R HVY.out)
    go_wp2_with fail
    go_ret
    exact ⟨by first | rfl | simp, HB.out⟩
end Go.Proofs.YtgadhmoifhoilaaDoor.Chap
