/-
  The law ChapKeeps, walked.
-/
import Derived.Test.YtgadhmoifhoilaaDoorChapAwake
import Derived.Test.YtgadhmoifhoilaaDoorLaid
import Derived.Test.YtgadhmoifhoilaaDoorChapPlain
import Derived.Test.YtgadhmoifhoilaaDoorLawChapReads
import Derived.Test.YtgadhmoifhoilaaDoorLawChapRight
import Derived.Deep.RegionWith
namespace Go.Proofs.YtgadhmoifhoilaaDoor.Chap
open Go.RowKit Go.Lib Go.Proofs.YtgadhmoifhoilaaDoorW.PrintWords Go.Proofs.YtgadhmoifhoilaaDoorW.PrintLast Go.Proofs.YtgadhmoifhoilaaDoorW.PrintMore Go.Proofs.YtgadhmoifhoilaaDoor.Kit Go.Proofs.YtgadhmoifhoilaaDoor.Md5
set_option linter.unusedVariables false
set_option linter.unusedSimpArgs false

theorem R_apart {α : Type} {d : Kd α} {e base : Nat} {w : World} {ok : Nat → Prop} {v : Value} {xs : List α} (h : d.R e w base ok v xs) {g : Nat} (hg : g < base) : some g ≠ v.ownBlock := by
  obtain ⟨inner, ho⟩ := Kd.R_own h
  intro e
  have := own_base ho g e.symm
  omega
theorem R_before {α : Type} {d : Kd α} {e base : Nat} {w : World} {ok : Nat → Prop} {v : Value} {xs : List α} (h : d.R e w base ok v xs) {g b : Nat} (hb : w.heap.size ≤ b) (hg : b ≤ g) : some g ≠ v.ownBlock := by
  obtain ⟨inner, ho⟩ := Kd.R_own h
  intro e
  have := own_lt ho g e.symm
  omega
theorem neq16 (o0 o1 o2 o3 o4 o5 o6 o7 o8 o9 o10 o11 o12 o13 o14 o15 : Int) (w : World) : (binOp .neq 24 (.agg #[.int .u8 o0, .int .u8 o1, .int .u8 o2, .int .u8 o3, .int .u8 o4, .int .u8 o5, .int .u8 o6, .int .u8 o7, .int .u8 o8, .int .u8 o9, .int .u8 o10, .int .u8 o11, .int .u8 o12, .int .u8 o13, .int .u8 o14, .int .u8 o15]) (.agg #[.int .u8 o0, .int .u8 o1, .int .u8 o2, .int .u8 o3, .int .u8 o4, .int .u8 o5, .int .u8 o6, .int .u8 o7, .int .u8 o8, .int .u8 o9, .int .u8 o10, .int .u8 o11, .int .u8 o12, .int .u8 o13, .int .u8 o14, .int .u8 o15])).run Tryd.prog w = .ok (.bool false) w := by
  have h := eq16g o0 o1 o2 o3 o4 o5 o6 o7 o8 o9 o10 o11 o12 o13 o14 o15 o0 o1 o2 o3 o4 o5 o6 o7 o8 o9 o10 o11 o12 o13 o14 o15 w
  rw [run_eql_struct] at h
  rw [run_neq_struct]
  generalize (Op.equalIn 10000 24 (.agg #[.int .u8 o0, .int .u8 o1, .int .u8 o2, .int .u8 o3, .int .u8 o4, .int .u8 o5, .int .u8 o6, .int .u8 o7, .int .u8 o8, .int .u8 o9, .int .u8 o10, .int .u8 o11, .int .u8 o12, .int .u8 o13, .int .u8 o14, .int .u8 o15]) (.agg #[.int .u8 o0, .int .u8 o1, .int .u8 o2, .int .u8 o3, .int .u8 o4, .int .u8 o5, .int .u8 o6, .int .u8 o7, .int .u8 o8, .int .u8 o9, .int .u8 o10, .int .u8 o11, .int .u8 o12, .int .u8 o13, .int .u8 o14, .int .u8 o15])).run Tryd.prog w = R at h ⊢
  cases R <;> simp_all [Result.andThen]
set_option maxRecDepth 100000 in
set_option maxHeartbeats 8000000 in
theorem chapKeeps_law (Aa0 : Option Addr) (ca0 : Nat) (a0 : List Int) (w : World) (la0 : a0.length ≤ ca0) (ra0 : (Kd.int .u8).C w Aa0 a0.length a0) (wa0 : ∀ n ∈ a0, (Lit.int .u8 n).wf = true) (hLD : laidMetH Tryd.prog laid3 w) :
    Calls Tryd.prog 10 #[.slice Aa0 a0.length ca0] w fun e w' => e = .returned (.bool true) ∧ Below w.heap.size w w' := by
  have hIB := isB_of_wf wa0
  have HC := Aside0.mk ra0
  obtain ⟨hG, h3⟩ := of_laid hLD
  have hn0 := ra0.2.1
  have HAW := Aside0.mk (show ∀ W, Below w.heap.size w W → Calls Tryd.prog 16 #[] W fun e w' => e = .returned (.bool true) ∧ Below W.heap.size W w' from fun W hb => awake_calls W (hG.below hb h3) (Nat.le_trans h3 hb.size))
  have HB := Aside0.mk (Below.refl w.heap.size w)
  by_cases hbig : 70000 < a0.length
  · obtain ⟨L, hL⟩ : ∃ L, a0.length = L := ⟨_, rfl⟩
    rw [hL] at hbig la0 hn0 ⊢
    clear wa0 ra0 hLD hG h3 hIB HC hL
    go_enter Tryd.func10, Tryd.ntmps10
    go_wp2_with (first | (go_at_call 16; (with_reducible refine (HAW.out _ HB.out).mono ?_); rintro e wq ⟨rfl, hbn⟩; have HB_ := Aside0.mk (below_step HB.out hbn); clear HB hbn; have HB := HB_; clear HB_))
    go_ret
    exact ⟨rfl, HB.out⟩
  · have hsm : a0.length ≤ 70000 := by omega
    obtain ⟨⟨r1, r2, r3⟩, hr⟩ := read_total hIB (show a0.length ≤ 1000000 by omega)
    have hr' := (chap_ref hIB (show a0.length ≤ 1000000 by omega)).trans hr
    have hrp := read_put hIB (show a0.length ≤ 1000000 by omega) hr
    have hv1 : r1.length ≤ 255 ∧ r2.size ≤ 65526 := by
      rcases hrp with ⟨_, rfl, rfl⟩ | ⟨_, _, h1, h2⟩
      · exact ⟨by decide, by decide⟩
      · exact ⟨h1, h2⟩
    obtain ⟨⟨p1, p2⟩, hp⟩ : ∃ r, PChapBase.chap_Put.f 5 r1 r2 = some r := ⟨_, put_form r1 r2 (by omega) (by omega)⟩
    obtain ⟨o0, o1, o2, o3, o4, o5, o6, o7, o8, o9, o10, o11, o12, o13, o14, o15, hO⟩ := out_cells (ansOf 1 (⟨#[115]⟩ : ByteArray) a0)
    have HX := Aside0.mk (show ∀ W A c, (Kd.int .u8).C W A a0.length a0 → a0.length ≤ c → Calls Tryd.prog 19 #[.slice A a0.length c] W fun e w' => ∃ v0_ : Value, e = .returned (.tuple #[.agg #[v0_, .string r2], .int .i64 r3]) ∧ Kd.R (Kd.int .u8) 5 w' W.heap.size (fun _ => True) v0_ r1 ∧ Below W.heap.size W w' from fun W A c h hc => AuthHand.chap_Read.calls A c a0 r1 r2 r3 W h hc hr)
    have HY := Aside0.mk (show ∀ W, Below w.heap.size w W → Calls Tryd.prog 20 #[.slice Aa0 a0.length ca0] W fun e w' => ∃ v0_ : Value, e = .returned (.tuple #[.agg #[v0_, .string r2], .int .i64 r3]) ∧ Kd.R (Kd.int .u8) 5 w' W.heap.size (fun _ => True) v0_ r1 ∧ Below W.heap.size W w' from fun W hb => PChapBase.umpireref17_Read.calls Aa0 ca0 a0 r1 r2 r3 W (Kd.C_below HC.out hb) la0 hr')
    have HSM := Aside0.mk (show ∀ W A c A' c', (Kd.int .u8).C W A r1.length r1 → r1.length ≤ c → (Kd.int .u8).C W A' r1.length r1 → r1.length ≤ c' → Calls Tryd.prog 21 #[.agg #[.slice A r1.length c, .string r2], .agg #[.slice A' r1.length c', .string r2]] W fun e w' => e = .returned (.bool true) ∧ Below W.heap.size W w' from fun W A c A' c' h hc h' hc' => PChapBase.umpireref17_Same.calls A c r1 r2 A' c' r1 r2 true W h hc h' hc' (same_self r1 r2))
    have HPT := Aside0.mk (show ∀ W A c, (Kd.int .u8).C W A r1.length r1 → r1.length ≤ c → Calls Tryd.prog 17 #[.agg #[.slice A r1.length c, .string r2]] W fun e w' => ∃ v0_ : Value, e = .returned (.tuple #[v0_, .int .i64 p2]) ∧ Kd.R (Kd.int .u8) 5 w' W.heap.size (fun _ => True) v0_ p1 ∧ Below W.heap.size W w' from fun W A c h hc => PChapBase.chap_Put.calls 5 A c r1 r2 p1 p2 W h hc hp)
    have HAN := Aside0.mk (show ∀ W A c, (Kd.int .u8).C W A a0.length a0 → a0.length ≤ c → Calls Tryd.prog 22 #[.int .i64 1, .string (⟨#[115]⟩ : ByteArray), .slice A a0.length c] W fun e w' => e = .returned (.agg #[.int .u8 o0, .int .u8 o1, .int .u8 o2, .int .u8 o3, .int .u8 o4, .int .u8 o5, .int .u8 o6, .int .u8 o7, .int .u8 o8, .int .u8 o9, .int .u8 o10, .int .u8 o11, .int .u8 o12, .int .u8 o13, .int .u8 o14, .int .u8 o15]) ∧ Below W.heap.size W w' from fun W A c h hc => by rw [← hO]; exact answer_calls 1 (⟨#[115]⟩ : ByteArray) A c a0 W h hc hIB (by decide) (by omega))
    have HCL := Aside0.mk (show ∀ W, Below w.heap.size w W → (Kd.int .u8).C W Aa0 a0.length a0 from fun W hb => Kd.C_below HC.out hb)
    have HCV := Aside0.mk (show ∀ W, Below w.heap.size w W → (convert 22 9 (.slice Aa0 a0.length ca0)).run Tryd.prog W = .ok (.string (strOfNums a0)) W from fun W hb => Kd.C_string (P := Tryd.prog) Tryd.underlying22 Tryd.underlying5 Tryd.underlying9 (Kd.C_below HC.out hb))
    have HLA := Aside0.mk la0
    obtain ⟨L, hL⟩ : ∃ L, a0.length = L := ⟨_, rfl⟩
    have HL := Aside0.mk hL
    rw [hL] at hbig hsm la0 hn0 HX HY HAN HCL HCV HLA ⊢
    obtain ⟨LP, hLP⟩ : ∃ L, p1.length = L := ⟨_, rfl⟩
    have HLP := Aside0.mk hLP
    clear wa0 ra0 hLD hG h3 hIB HC hL hr hr' hrp hv1 hp hO hLP
    go_enter Tryd.func10, Tryd.ntmps10
    go_upto_region 4 with (first | (go_at_call 16; (with_reducible refine (HAW.out _ HB.out).mono ?_); rintro e w1 ⟨rfl, hbn⟩; have HB_ := Aside0.mk (below_step (show Below w.heap.size w w from HB.out) hbn); clear HB; have HB := HB_; clear HB_; clear hbn) | ((with_reducible refine gate_dst (N := 21) rfl ?_); (try (refine gate_guard (by rfl) ?_; dsimp only)); refine Kd.R_lit (Kd.int .u8) _ 5 ?hg (N := 21) ?hd (xs := ([] : List Int)) (inner := []) (ok := fun _ => True) (okp := fun _ => True) ?hr ?hp (fun _ hk => hk) trivial (Below.refl _ _) (Nat.le_refl _) (by simp) ?_; (case hd => rfl); (case hg => rfl); (case hr => first | (go_simp; done) | (go_simp; rfl)); (case hp => exact (Reps.none _ _)); intro v21 w2 ho hbn hg_ hnew_; clear hg_ hnew_; have HO21 := Aside0.mk (Kd.R_lower ho (below_size (show Below w.heap.size w w1 from HB.out))); clear ho; have HB_ := Aside0.mk (below_step (show Below w.heap.size w w1 from HB.out) hbn); clear HB; have HB := HB_; clear HB_; clear hbn) | ((with_reducible refine gate_builtin (b := .append) (xs := #[.tmp 21, .tmp 22]) rfl ?_); (try (refine gate_guard (by rfl) ?_; dsimp only)); at_builtin; refine Kd.R_append_rows (Kd.int .u8) (w0 := w) w.heap.size rfl (.tmp 21) (.tmp 22) 22 5 (.int .u8 0) 1 rfl Tryd.underlying22 info5 rfl (by decide) (by omega) v21 ([] : List Int) a0 _ _ _ (fun _ => True) (fun _ => False) rfl rfl ?aO ?aR (fun _ _ h => h) (fun _ h => h.elim) ?aF ?aB ?aS ?aL ?_; (case aR => exact HCL.out _ HB.out); (case aB => exact HB.out); (case aF => exact (fun _ _ => trivial)); (case aO => exact HO21.out); (case aS => exact (below_size HB.out)); (case aL => first | (simp; done) | (simp [HDL.out]; done) | (simp; omega) | omega); intro v23 w3 ho hb hg hat; rw [List.nil_append] at ho; obtain ⟨Ao, co, eo⟩ := Kd.R_slice ho; rw [HL.out] at eo; subst eo; have hco := (RC ho).2; have HB_ := Aside0.mk hb; have HO := Aside0.mk ho; clear HO21 HB  ho hb hg hat; have HB := HB_; clear HB_))
    (try simp only [Act.put, List.setIfInBounds_toArray, List.set_cons_zero, List.set_cons_succ])
    clear HAW
    obtain ⟨b4, hb4⟩ : ∃ b, w3.heap.size = b := ⟨_, rfl⟩
    have HB4 := Aside0.mk hb4
    clear hb4
    have HOB := Aside0.mk (show ∀ gr : Nat, (Value.slice Ao L co).ownBlock = some gr → gr < b4 from fun gr h => by
      obtain ⟨inner, ho⟩ := Kd.R_own HO.out
      have := own_lt ho gr h
      have := HB4.out
      omega)
    go_upto_region 5 with (first | (go_at_call 19; (with_reducible refine (HX.out _ Ao co (RC HO.out).1 (RC HO.out).2).mono ?_); rintro e w4 ⟨v4, rfl, hr, hbn⟩; obtain ⟨A4, c4, rfl⟩ := Kd.R_slice hr; have HV4 := Aside0.mk (show Kd.R (Kd.int .u8) 5 _ b4 (fun _ => True) _ r1 from HB4.out ▸ hr); clear hr; have HO_ := Aside0.mk (Kd.R_below HO.out hbn); clear HO; have HO := HO_; clear HO_; have HB_ := Aside0.mk (below_step (show Below w.heap.size w w3 from HB.out) hbn); clear HB; have HB := HB_; clear HB_; clear hbn) | ((with_reducible refine gate_dst (N := 4) rfl ?_); refine' box_event ?hg (N := 4) ?hd (t := 30) ?hr ?_; (case hd => rfl); (case hg => rfl); (case hr => first | (go_simp; done) | (go_simp; rfl)); intro g4 hgn w5 hbox hbn; have GEg4 := Aside0.mk (show w.heap.size ≤ g4 from Nat.le_trans (below_size (show Below w.heap.size w w4 from HB.out)) (Nat.le_of_eq hgn.symm)); have HO_ := Aside0.mk (Kd.R_below HO.out hbn); clear HO; have HO := HO_; clear HO_; have HV4_ := Aside0.mk (Kd.R_below HV4.out hbn); clear HV4; have HV4 := HV4_; clear HV4_; have HB_ := Aside0.mk (below_step (show Below w.heap.size w w4 from HB.out) hbn); clear HB; have HB := HB_; clear HB_; have Bg4 := Aside0.mk hbox; clear hbox hbn hgn; obtain ⟨c0g4, c1g4, f0g4, f1g4⟩ := cell2 Bg4.out))
    (try simp only [Act.put, List.setIfInBounds_toArray, List.set_cons_zero, List.set_cons_succ])
    clear c0g4 c1g4 f0g4 f1g4
    have yHO := Kd.R_set (Kd.R_set HO.out Bg4.out chaps_ne 0 (.slice A4 r1.length c4)) (blk_set Bg4.out 0 (.slice A4 r1.length c4)) chaps_ne 1 (.string r2)
    have yHV4 := Kd.R_set (Kd.R_set HV4.out Bg4.out chaps_ne 0 (.slice A4 r1.length c4)) (blk_set Bg4.out 0 (.slice A4 r1.length c4)) chaps_ne 1 (.string r2)
    have yBg4 := blk_put (blk_put (cs' := #[.slice A4 r1.length c4, .string (⟨#[]⟩ : ByteArray)]) Bg4.out 0 (.slice A4 r1.length c4) rfl) 1 (.string r2) (cs' := #[.slice A4 r1.length c4, .string r2]) rfl
    have yHB := (HB.out.setCell (p := ⟨g4, 0, none⟩) GEg4.out (.slice A4 r1.length c4)).setCell (p := ⟨g4, 1, none⟩) GEg4.out (.string r2)
    clear HO HV4 Bg4 HB
    generalize ((w5.setCell ⟨g4, 0, none⟩ (.slice A4 r1.length c4)).setCell ⟨g4, 1, none⟩ (.string r2)) = w6 at yHO yHV4 yBg4 yHB ⊢
    have HO := Aside0.mk yHO
    clear yHO
    have HV4 := Aside0.mk yHV4
    clear yHV4
    have Bg4 := Aside0.mk yBg4
    clear yBg4
    have HB := Aside0.mk yHB
    clear yHB
    go_upto_region 6 with (first | (go_at_call 22; (with_reducible refine (HAN.out _ Ao co (RC HO.out).1 (RC HO.out).2).mono ?_); rintro e w7 ⟨rfl, hbn⟩; have HO_ := Aside0.mk (Kd.R_below HO.out hbn); clear HO; have HO := HO_; clear HO_; have HV4_ := Aside0.mk (Kd.R_below HV4.out hbn); clear HV4; have HV4 := HV4_; clear HV4_; have Bg4_ := Aside0.mk (blk_below Bg4.out hbn); clear Bg4; have Bg4 := Bg4_; clear Bg4_; have HB_ := Aside0.mk (below_step (show Below w.heap.size w w6 from HB.out) hbn); clear HB; have HB := HB_; clear HB_; clear hbn) | ((with_reducible refine gate_dst (N := 6) rfl ?_); refine' box_event ?hg (N := 6) ?hd (t := 24) ?hr ?_; (case hd => rfl); (case hg => rfl); (case hr => first | (go_simp; done) | (go_simp; rfl)); intro g6 hgn w8 hbox hbn; have NEg4g6 := Aside0.mk (show g4 ≠ g6 from Nat.ne_of_lt (Nat.lt_of_lt_of_eq (blk_lt Bg4.out) hgn.symm)); have GEg6 := Aside0.mk (show w.heap.size ≤ g6 from Nat.le_trans (below_size (show Below w.heap.size w w7 from HB.out)) (Nat.le_of_eq hgn.symm)); have HO_ := Aside0.mk (Kd.R_below HO.out hbn); clear HO; have HO := HO_; clear HO_; have HV4_ := Aside0.mk (Kd.R_below HV4.out hbn); clear HV4; have HV4 := HV4_; clear HV4_; have Bg4_ := Aside0.mk (blk_below Bg4.out hbn); clear Bg4; have Bg4 := Bg4_; clear Bg4_; have HB_ := Aside0.mk (below_step (show Below w.heap.size w w7 from HB.out) hbn); clear HB; have HB := HB_; clear HB_; have Bg6 := Aside0.mk hbox; clear hbox hbn hgn; have y0 := (blk_cell Bg6.out 0).trans (rfl : _ = some (Value.int .u8 0)); have f0 := blk_frozen Bg6.out 0; have y1 := (blk_cell Bg6.out 1).trans (rfl : _ = some (Value.int .u8 0)); have f1 := blk_frozen Bg6.out 1; have y2 := (blk_cell Bg6.out 2).trans (rfl : _ = some (Value.int .u8 0)); have f2 := blk_frozen Bg6.out 2; have y3 := (blk_cell Bg6.out 3).trans (rfl : _ = some (Value.int .u8 0)); have f3 := blk_frozen Bg6.out 3; have y4 := (blk_cell Bg6.out 4).trans (rfl : _ = some (Value.int .u8 0)); have f4 := blk_frozen Bg6.out 4; have y5 := (blk_cell Bg6.out 5).trans (rfl : _ = some (Value.int .u8 0)); have f5 := blk_frozen Bg6.out 5; have y6 := (blk_cell Bg6.out 6).trans (rfl : _ = some (Value.int .u8 0)); have f6 := blk_frozen Bg6.out 6; have y7 := (blk_cell Bg6.out 7).trans (rfl : _ = some (Value.int .u8 0)); have f7 := blk_frozen Bg6.out 7; have y8 := (blk_cell Bg6.out 8).trans (rfl : _ = some (Value.int .u8 0)); have f8 := blk_frozen Bg6.out 8; have y9 := (blk_cell Bg6.out 9).trans (rfl : _ = some (Value.int .u8 0)); have f9 := blk_frozen Bg6.out 9; have y10 := (blk_cell Bg6.out 10).trans (rfl : _ = some (Value.int .u8 0)); have f10 := blk_frozen Bg6.out 10; have y11 := (blk_cell Bg6.out 11).trans (rfl : _ = some (Value.int .u8 0)); have f11 := blk_frozen Bg6.out 11; have y12 := (blk_cell Bg6.out 12).trans (rfl : _ = some (Value.int .u8 0)); have f12 := blk_frozen Bg6.out 12; have y13 := (blk_cell Bg6.out 13).trans (rfl : _ = some (Value.int .u8 0)); have f13 := blk_frozen Bg6.out 13; have y14 := (blk_cell Bg6.out 14).trans (rfl : _ = some (Value.int .u8 0)); have f14 := blk_frozen Bg6.out 14; have y15 := (blk_cell Bg6.out 15).trans (rfl : _ = some (Value.int .u8 0)); have f15 := blk_frozen Bg6.out 15))
    (try simp only [Act.put, List.setIfInBounds_toArray, List.set_cons_zero, List.set_cons_succ])
    have yD := set16_row Bg6.out (.int .u8 o0) (.int .u8 o1) (.int .u8 o2) (.int .u8 o3) (.int .u8 o4) (.int .u8 o5) (.int .u8 o6) (.int .u8 o7) (.int .u8 o8) (.int .u8 o9) (.int .u8 o10) (.int .u8 o11) (.int .u8 o12) (.int .u8 o13) (.int .u8 o14) (.int .u8 o15)
    have yB := set16_below HB.out GEg6.out (.int .u8 o0) (.int .u8 o1) (.int .u8 o2) (.int .u8 o3) (.int .u8 o4) (.int .u8 o5) (.int .u8 o6) (.int .u8 o7) (.int .u8 o8) (.int .u8 o9) (.int .u8 o10) (.int .u8 o11) (.int .u8 o12) (.int .u8 o13) (.int .u8 o14) (.int .u8 o15)
    have y4_ := (set16_other w8 g6 g4 NEg4g6.out (.int .u8 o0) (.int .u8 o1) (.int .u8 o2) (.int .u8 o3) (.int .u8 o4) (.int .u8 o5) (.int .u8 o6) (.int .u8 o7) (.int .u8 o8) (.int .u8 o9) (.int .u8 o10) (.int .u8 o11) (.int .u8 o12) (.int .u8 o13) (.int .u8 o14) (.int .u8 o15)).trans Bg4.out
    have yV := (Kd.R_set (Kd.R_set (Kd.R_set (Kd.R_set (Kd.R_set (Kd.R_set (Kd.R_set (Kd.R_set (Kd.R_set (Kd.R_set (Kd.R_set (Kd.R_set (Kd.R_set (Kd.R_set (Kd.R_set (Kd.R_set HV4.out Bg6.out arr_ne 0 (.int .u8 o0)) (blk_set Bg6.out 0 (.int .u8 o0)) arr_ne 1 (.int .u8 o1)) (blk_set (blk_set Bg6.out 0 (.int .u8 o0)) 1 (.int .u8 o1)) arr_ne 2 (.int .u8 o2)) (blk_set (blk_set (blk_set Bg6.out 0 (.int .u8 o0)) 1 (.int .u8 o1)) 2 (.int .u8 o2)) arr_ne 3 (.int .u8 o3)) (blk_set (blk_set (blk_set (blk_set Bg6.out 0 (.int .u8 o0)) 1 (.int .u8 o1)) 2 (.int .u8 o2)) 3 (.int .u8 o3)) arr_ne 4 (.int .u8 o4)) (blk_set (blk_set (blk_set (blk_set (blk_set Bg6.out 0 (.int .u8 o0)) 1 (.int .u8 o1)) 2 (.int .u8 o2)) 3 (.int .u8 o3)) 4 (.int .u8 o4)) arr_ne 5 (.int .u8 o5)) (blk_set (blk_set (blk_set (blk_set (blk_set (blk_set Bg6.out 0 (.int .u8 o0)) 1 (.int .u8 o1)) 2 (.int .u8 o2)) 3 (.int .u8 o3)) 4 (.int .u8 o4)) 5 (.int .u8 o5)) arr_ne 6 (.int .u8 o6)) (blk_set (blk_set (blk_set (blk_set (blk_set (blk_set (blk_set Bg6.out 0 (.int .u8 o0)) 1 (.int .u8 o1)) 2 (.int .u8 o2)) 3 (.int .u8 o3)) 4 (.int .u8 o4)) 5 (.int .u8 o5)) 6 (.int .u8 o6)) arr_ne 7 (.int .u8 o7)) (blk_set (blk_set (blk_set (blk_set (blk_set (blk_set (blk_set (blk_set Bg6.out 0 (.int .u8 o0)) 1 (.int .u8 o1)) 2 (.int .u8 o2)) 3 (.int .u8 o3)) 4 (.int .u8 o4)) 5 (.int .u8 o5)) 6 (.int .u8 o6)) 7 (.int .u8 o7)) arr_ne 8 (.int .u8 o8)) (blk_set (blk_set (blk_set (blk_set (blk_set (blk_set (blk_set (blk_set (blk_set Bg6.out 0 (.int .u8 o0)) 1 (.int .u8 o1)) 2 (.int .u8 o2)) 3 (.int .u8 o3)) 4 (.int .u8 o4)) 5 (.int .u8 o5)) 6 (.int .u8 o6)) 7 (.int .u8 o7)) 8 (.int .u8 o8)) arr_ne 9 (.int .u8 o9)) (blk_set (blk_set (blk_set (blk_set (blk_set (blk_set (blk_set (blk_set (blk_set (blk_set Bg6.out 0 (.int .u8 o0)) 1 (.int .u8 o1)) 2 (.int .u8 o2)) 3 (.int .u8 o3)) 4 (.int .u8 o4)) 5 (.int .u8 o5)) 6 (.int .u8 o6)) 7 (.int .u8 o7)) 8 (.int .u8 o8)) 9 (.int .u8 o9)) arr_ne 10 (.int .u8 o10)) (blk_set (blk_set (blk_set (blk_set (blk_set (blk_set (blk_set (blk_set (blk_set (blk_set (blk_set Bg6.out 0 (.int .u8 o0)) 1 (.int .u8 o1)) 2 (.int .u8 o2)) 3 (.int .u8 o3)) 4 (.int .u8 o4)) 5 (.int .u8 o5)) 6 (.int .u8 o6)) 7 (.int .u8 o7)) 8 (.int .u8 o8)) 9 (.int .u8 o9)) 10 (.int .u8 o10)) arr_ne 11 (.int .u8 o11)) (blk_set (blk_set (blk_set (blk_set (blk_set (blk_set (blk_set (blk_set (blk_set (blk_set (blk_set (blk_set Bg6.out 0 (.int .u8 o0)) 1 (.int .u8 o1)) 2 (.int .u8 o2)) 3 (.int .u8 o3)) 4 (.int .u8 o4)) 5 (.int .u8 o5)) 6 (.int .u8 o6)) 7 (.int .u8 o7)) 8 (.int .u8 o8)) 9 (.int .u8 o9)) 10 (.int .u8 o10)) 11 (.int .u8 o11)) arr_ne 12 (.int .u8 o12)) (blk_set (blk_set (blk_set (blk_set (blk_set (blk_set (blk_set (blk_set (blk_set (blk_set (blk_set (blk_set (blk_set Bg6.out 0 (.int .u8 o0)) 1 (.int .u8 o1)) 2 (.int .u8 o2)) 3 (.int .u8 o3)) 4 (.int .u8 o4)) 5 (.int .u8 o5)) 6 (.int .u8 o6)) 7 (.int .u8 o7)) 8 (.int .u8 o8)) 9 (.int .u8 o9)) 10 (.int .u8 o10)) 11 (.int .u8 o11)) 12 (.int .u8 o12)) arr_ne 13 (.int .u8 o13)) (blk_set (blk_set (blk_set (blk_set (blk_set (blk_set (blk_set (blk_set (blk_set (blk_set (blk_set (blk_set (blk_set (blk_set Bg6.out 0 (.int .u8 o0)) 1 (.int .u8 o1)) 2 (.int .u8 o2)) 3 (.int .u8 o3)) 4 (.int .u8 o4)) 5 (.int .u8 o5)) 6 (.int .u8 o6)) 7 (.int .u8 o7)) 8 (.int .u8 o8)) 9 (.int .u8 o9)) 10 (.int .u8 o10)) 11 (.int .u8 o11)) 12 (.int .u8 o12)) 13 (.int .u8 o13)) arr_ne 14 (.int .u8 o14)) (blk_set (blk_set (blk_set (blk_set (blk_set (blk_set (blk_set (blk_set (blk_set (blk_set (blk_set (blk_set (blk_set (blk_set (blk_set Bg6.out 0 (.int .u8 o0)) 1 (.int .u8 o1)) 2 (.int .u8 o2)) 3 (.int .u8 o3)) 4 (.int .u8 o4)) 5 (.int .u8 o5)) 6 (.int .u8 o6)) 7 (.int .u8 o7)) 8 (.int .u8 o8)) 9 (.int .u8 o9)) 10 (.int .u8 o10)) 11 (.int .u8 o11)) 12 (.int .u8 o12)) 13 (.int .u8 o13)) 14 (.int .u8 o14)) arr_ne 15 (.int .u8 o15))
    have yO := (Kd.R_set (Kd.R_set (Kd.R_set (Kd.R_set (Kd.R_set (Kd.R_set (Kd.R_set (Kd.R_set (Kd.R_set (Kd.R_set (Kd.R_set (Kd.R_set (Kd.R_set (Kd.R_set (Kd.R_set (Kd.R_set HO.out Bg6.out arr_ne 0 (.int .u8 o0)) (blk_set Bg6.out 0 (.int .u8 o0)) arr_ne 1 (.int .u8 o1)) (blk_set (blk_set Bg6.out 0 (.int .u8 o0)) 1 (.int .u8 o1)) arr_ne 2 (.int .u8 o2)) (blk_set (blk_set (blk_set Bg6.out 0 (.int .u8 o0)) 1 (.int .u8 o1)) 2 (.int .u8 o2)) arr_ne 3 (.int .u8 o3)) (blk_set (blk_set (blk_set (blk_set Bg6.out 0 (.int .u8 o0)) 1 (.int .u8 o1)) 2 (.int .u8 o2)) 3 (.int .u8 o3)) arr_ne 4 (.int .u8 o4)) (blk_set (blk_set (blk_set (blk_set (blk_set Bg6.out 0 (.int .u8 o0)) 1 (.int .u8 o1)) 2 (.int .u8 o2)) 3 (.int .u8 o3)) 4 (.int .u8 o4)) arr_ne 5 (.int .u8 o5)) (blk_set (blk_set (blk_set (blk_set (blk_set (blk_set Bg6.out 0 (.int .u8 o0)) 1 (.int .u8 o1)) 2 (.int .u8 o2)) 3 (.int .u8 o3)) 4 (.int .u8 o4)) 5 (.int .u8 o5)) arr_ne 6 (.int .u8 o6)) (blk_set (blk_set (blk_set (blk_set (blk_set (blk_set (blk_set Bg6.out 0 (.int .u8 o0)) 1 (.int .u8 o1)) 2 (.int .u8 o2)) 3 (.int .u8 o3)) 4 (.int .u8 o4)) 5 (.int .u8 o5)) 6 (.int .u8 o6)) arr_ne 7 (.int .u8 o7)) (blk_set (blk_set (blk_set (blk_set (blk_set (blk_set (blk_set (blk_set Bg6.out 0 (.int .u8 o0)) 1 (.int .u8 o1)) 2 (.int .u8 o2)) 3 (.int .u8 o3)) 4 (.int .u8 o4)) 5 (.int .u8 o5)) 6 (.int .u8 o6)) 7 (.int .u8 o7)) arr_ne 8 (.int .u8 o8)) (blk_set (blk_set (blk_set (blk_set (blk_set (blk_set (blk_set (blk_set (blk_set Bg6.out 0 (.int .u8 o0)) 1 (.int .u8 o1)) 2 (.int .u8 o2)) 3 (.int .u8 o3)) 4 (.int .u8 o4)) 5 (.int .u8 o5)) 6 (.int .u8 o6)) 7 (.int .u8 o7)) 8 (.int .u8 o8)) arr_ne 9 (.int .u8 o9)) (blk_set (blk_set (blk_set (blk_set (blk_set (blk_set (blk_set (blk_set (blk_set (blk_set Bg6.out 0 (.int .u8 o0)) 1 (.int .u8 o1)) 2 (.int .u8 o2)) 3 (.int .u8 o3)) 4 (.int .u8 o4)) 5 (.int .u8 o5)) 6 (.int .u8 o6)) 7 (.int .u8 o7)) 8 (.int .u8 o8)) 9 (.int .u8 o9)) arr_ne 10 (.int .u8 o10)) (blk_set (blk_set (blk_set (blk_set (blk_set (blk_set (blk_set (blk_set (blk_set (blk_set (blk_set Bg6.out 0 (.int .u8 o0)) 1 (.int .u8 o1)) 2 (.int .u8 o2)) 3 (.int .u8 o3)) 4 (.int .u8 o4)) 5 (.int .u8 o5)) 6 (.int .u8 o6)) 7 (.int .u8 o7)) 8 (.int .u8 o8)) 9 (.int .u8 o9)) 10 (.int .u8 o10)) arr_ne 11 (.int .u8 o11)) (blk_set (blk_set (blk_set (blk_set (blk_set (blk_set (blk_set (blk_set (blk_set (blk_set (blk_set (blk_set Bg6.out 0 (.int .u8 o0)) 1 (.int .u8 o1)) 2 (.int .u8 o2)) 3 (.int .u8 o3)) 4 (.int .u8 o4)) 5 (.int .u8 o5)) 6 (.int .u8 o6)) 7 (.int .u8 o7)) 8 (.int .u8 o8)) 9 (.int .u8 o9)) 10 (.int .u8 o10)) 11 (.int .u8 o11)) arr_ne 12 (.int .u8 o12)) (blk_set (blk_set (blk_set (blk_set (blk_set (blk_set (blk_set (blk_set (blk_set (blk_set (blk_set (blk_set (blk_set Bg6.out 0 (.int .u8 o0)) 1 (.int .u8 o1)) 2 (.int .u8 o2)) 3 (.int .u8 o3)) 4 (.int .u8 o4)) 5 (.int .u8 o5)) 6 (.int .u8 o6)) 7 (.int .u8 o7)) 8 (.int .u8 o8)) 9 (.int .u8 o9)) 10 (.int .u8 o10)) 11 (.int .u8 o11)) 12 (.int .u8 o12)) arr_ne 13 (.int .u8 o13)) (blk_set (blk_set (blk_set (blk_set (blk_set (blk_set (blk_set (blk_set (blk_set (blk_set (blk_set (blk_set (blk_set (blk_set Bg6.out 0 (.int .u8 o0)) 1 (.int .u8 o1)) 2 (.int .u8 o2)) 3 (.int .u8 o3)) 4 (.int .u8 o4)) 5 (.int .u8 o5)) 6 (.int .u8 o6)) 7 (.int .u8 o7)) 8 (.int .u8 o8)) 9 (.int .u8 o9)) 10 (.int .u8 o10)) 11 (.int .u8 o11)) 12 (.int .u8 o12)) 13 (.int .u8 o13)) arr_ne 14 (.int .u8 o14)) (blk_set (blk_set (blk_set (blk_set (blk_set (blk_set (blk_set (blk_set (blk_set (blk_set (blk_set (blk_set (blk_set (blk_set (blk_set Bg6.out 0 (.int .u8 o0)) 1 (.int .u8 o1)) 2 (.int .u8 o2)) 3 (.int .u8 o3)) 4 (.int .u8 o4)) 5 (.int .u8 o5)) 6 (.int .u8 o6)) 7 (.int .u8 o7)) 8 (.int .u8 o8)) 9 (.int .u8 o9)) 10 (.int .u8 o10)) 11 (.int .u8 o11)) 12 (.int .u8 o12)) 13 (.int .u8 o13)) 14 (.int .u8 o14)) arr_ne 15 (.int .u8 o15))
    clear HB Bg6 Bg4 HV4 HO y0 f0 y1 f1 y2 f2 y3 f3 y4 f4 y5 f5 y6 f6 y7 f7 y8 f8 y9 f9 y10 f10 y11 f11 y12 f12 y13 f13 y14 f14 y15 f15
    change (World.heap ((((((((((((((((w8.setCell ⟨g6, 0, none⟩ (.int .u8 o0)).setCell ⟨g6, 1, none⟩ (.int .u8 o1)).setCell ⟨g6, 2, none⟩ (.int .u8 o2)).setCell ⟨g6, 3, none⟩ (.int .u8 o3)).setCell ⟨g6, 4, none⟩ (.int .u8 o4)).setCell ⟨g6, 5, none⟩ (.int .u8 o5)).setCell ⟨g6, 6, none⟩ (.int .u8 o6)).setCell ⟨g6, 7, none⟩ (.int .u8 o7)).setCell ⟨g6, 8, none⟩ (.int .u8 o8)).setCell ⟨g6, 9, none⟩ (.int .u8 o9)).setCell ⟨g6, 10, none⟩ (.int .u8 o10)).setCell ⟨g6, 11, none⟩ (.int .u8 o11)).setCell ⟨g6, 12, none⟩ (.int .u8 o12)).setCell ⟨g6, 13, none⟩ (.int .u8 o13)).setCell ⟨g6, 14, none⟩ (.int .u8 o14)).setCell ⟨g6, 15, none⟩ (.int .u8 o15)))[g6]? = _ at yD
    change Below _ _ ((((((((((((((((w8.setCell ⟨g6, 0, none⟩ (.int .u8 o0)).setCell ⟨g6, 1, none⟩ (.int .u8 o1)).setCell ⟨g6, 2, none⟩ (.int .u8 o2)).setCell ⟨g6, 3, none⟩ (.int .u8 o3)).setCell ⟨g6, 4, none⟩ (.int .u8 o4)).setCell ⟨g6, 5, none⟩ (.int .u8 o5)).setCell ⟨g6, 6, none⟩ (.int .u8 o6)).setCell ⟨g6, 7, none⟩ (.int .u8 o7)).setCell ⟨g6, 8, none⟩ (.int .u8 o8)).setCell ⟨g6, 9, none⟩ (.int .u8 o9)).setCell ⟨g6, 10, none⟩ (.int .u8 o10)).setCell ⟨g6, 11, none⟩ (.int .u8 o11)).setCell ⟨g6, 12, none⟩ (.int .u8 o12)).setCell ⟨g6, 13, none⟩ (.int .u8 o13)).setCell ⟨g6, 14, none⟩ (.int .u8 o14)).setCell ⟨g6, 15, none⟩ (.int .u8 o15)) at yB
    change (World.heap ((((((((((((((((w8.setCell ⟨g6, 0, none⟩ (.int .u8 o0)).setCell ⟨g6, 1, none⟩ (.int .u8 o1)).setCell ⟨g6, 2, none⟩ (.int .u8 o2)).setCell ⟨g6, 3, none⟩ (.int .u8 o3)).setCell ⟨g6, 4, none⟩ (.int .u8 o4)).setCell ⟨g6, 5, none⟩ (.int .u8 o5)).setCell ⟨g6, 6, none⟩ (.int .u8 o6)).setCell ⟨g6, 7, none⟩ (.int .u8 o7)).setCell ⟨g6, 8, none⟩ (.int .u8 o8)).setCell ⟨g6, 9, none⟩ (.int .u8 o9)).setCell ⟨g6, 10, none⟩ (.int .u8 o10)).setCell ⟨g6, 11, none⟩ (.int .u8 o11)).setCell ⟨g6, 12, none⟩ (.int .u8 o12)).setCell ⟨g6, 13, none⟩ (.int .u8 o13)).setCell ⟨g6, 14, none⟩ (.int .u8 o14)).setCell ⟨g6, 15, none⟩ (.int .u8 o15)))[g4]? = _ at y4_
    generalize ((((((((((((((((w8.setCell ⟨g6, 0, none⟩ (.int .u8 o0)).setCell ⟨g6, 1, none⟩ (.int .u8 o1)).setCell ⟨g6, 2, none⟩ (.int .u8 o2)).setCell ⟨g6, 3, none⟩ (.int .u8 o3)).setCell ⟨g6, 4, none⟩ (.int .u8 o4)).setCell ⟨g6, 5, none⟩ (.int .u8 o5)).setCell ⟨g6, 6, none⟩ (.int .u8 o6)).setCell ⟨g6, 7, none⟩ (.int .u8 o7)).setCell ⟨g6, 8, none⟩ (.int .u8 o8)).setCell ⟨g6, 9, none⟩ (.int .u8 o9)).setCell ⟨g6, 10, none⟩ (.int .u8 o10)).setCell ⟨g6, 11, none⟩ (.int .u8 o11)).setCell ⟨g6, 12, none⟩ (.int .u8 o12)).setCell ⟨g6, 13, none⟩ (.int .u8 o13)).setCell ⟨g6, 14, none⟩ (.int .u8 o14)).setCell ⟨g6, 15, none⟩ (.int .u8 o15)) = wz at yD yB y4_ yV yO ⊢
    have Bg6 := Aside0.mk yD
    have HB := Aside0.mk yB
    have Bg4 := Aside0.mk y4_
    have HV4 := Aside0.mk yV
    have HO := Aside0.mk yO
    clear yD yB y4_ yV yO
    have hcv1 := HCV.out _ HB.out
    have hcv2 : (convert 22 9 (.slice Ao L co)).run Tryd.prog wz = .ok (.string (strOfNums a0)) wz := own_string (P := Tryd.prog) Tryd.underlying22 Tryd.underlying5 Tryd.underlying9 (Kd.own_of_R HO.out)
    go_wp2_with fail
    clear hcv1 hcv2
    go_loopw [7] (fun v7 wr => ∃ (i : Nat) (xs : List Int), v7 = .int .i64 (i : Int) ∧ Aside0 (i ≤ L) ∧ Aside0 (xs.length = L) ∧ Aside0 (Kd.R (Kd.int .u8) 5 wr w.heap.size (fun _ => True) (.slice Ao L co) xs) ∧ Aside0 (Kd.R (Kd.int .u8) 5 wr b4 (fun _ => True) (.slice A4 r1.length c4) r1) ∧ Aside0 (wr.heap[g4]? = some (.cells #[.slice A4 r1.length c4, .string r2] 30 (0, 0))) ∧ Aside0 (wr.heap[g6]? = some (.cells #[.int .u8 o0, .int .u8 o1, .int .u8 o2, .int .u8 o3, .int .u8 o4, .int .u8 o5, .int .u8 o6, .int .u8 o7, .int .u8 o8, .int .u8 o9, .int .u8 o10, .int .u8 o11, .int .u8 o12, .int .u8 o13, .int .u8 o14, .int .u8 o15] 24 (0, 0))) ∧ Aside0 (Below w.heap.size w wr) ∧ Aside0 (∀ gr : Nat, (Value.slice Ao L co).ownBlock = some gr → gr < b4)) (fun v7 _ => L - (intOf v7).toNat)
    case atStart => exact ⟨0, a0, rfl, ⟨Nat.zero_le _⟩, HL, HO, HV4, Bg4, Bg6, HB, HOB⟩
    case round =>
      clear HO HV4 Bg4 Bg6 HB HOB
      obtain ⟨i, xs, rfl, HI, HXL, HO, HV4, Bg4, Bg6, HB, HOB⟩ := hrel
      by_cases hlt : i < L
      · skip
        have hb0 : (0 : Int) ≤ (i : Int) := by omega
        have hb1 : (i : Int) < (L : Int) := by omega
        have hxl := HXL.out
        obtain ⟨gr, cr, er, gbr, glr, _⟩ := Kd.R_form HO.out (by omega)
        simp only [Value.slice.injEq] at er
        obtain ⟨rfl, hz_, rfl⟩ := er
        clear hz_
        obtain ⟨hx0, hf0⟩ := Kd.R_celln 0 HO.out (i : Int) hb0 hb1
        rw [Int.toNat_natCast] at hx0 hf0
        generalize hx : rdOf (0 : Int) xs (i : Int) = x at hx0
        clear hx
        have HPUT := Aside0.mk (Kd.R_putg HO.out (i : Int) ((x + 1) % 256))
        rw [Int.toNat_natCast] at HPUT
        have GBR := Aside0.mk gbr
        clear gbr glr hxl
        have NEHV4 := Aside0.mk (show some gr ≠ (Value.slice A4 r1.length c4).ownBlock from R_apart HV4.out (HOB.out gr rfl))
        go_wp2_with fail
        have hput := HPUT.out
        have TB := Aside0.mk (HB.out.setCell (p := ⟨gr, i, none⟩) (GBR.out) (.int .u8 ((x + 1) % 256)))
        have THV4 := Aside0.mk (Kd.R_grown1 HV4.out rfl hput.2 NEHV4.out)
        have TBg4 := Aside0.mk (blk_grown Bg4.out hput.2 (Kd.R_ne HO.out Bg4.out (by decide)))
        have TBg6 := Aside0.mk (blk_grown Bg6.out hput.2 (Kd.R_ne HO.out Bg6.out (by decide)))
        have TR := Aside0.mk hput.1
        have TX := Aside0.mk ((xs.length_set (i := i) (a := (x + 1) % 256)).trans HXL.out)
        clear hput hx0 hf0 HPUT HO HV4 Bg4 Bg6 HB
        go_roundw
        case rel => exact ⟨i + 1, _, by go_num, ⟨by omega⟩, TX, TR, THV4, TBg4, TBg6, TB, HOB⟩
        case measure => simp [intOf]; omega
      · have hge : ¬ (i : Int) < (L : Int) := by omega
        generalize wr = w20 at HV4 Bg4 Bg6 HB ⊢
        clear HO HOB HXL HI
        go_upto_region 13 with (first | (go_at_call 20; (with_reducible refine (HY.out _ HB.out).mono ?_); rintro e w21 ⟨v8, rfl, hr, hbn⟩; obtain ⟨A8, c8, rfl⟩ := Kd.R_slice hr; have HV8 := Aside0.mk (Kd.R_lower hr (below_size (show Below w.heap.size w w20 from HB.out))); clear hr; have HV4_ := Aside0.mk (Kd.R_below HV4.out hbn); clear HV4; have HV4 := HV4_; clear HV4_; have Bg4_ := Aside0.mk (blk_below Bg4.out hbn); clear Bg4; have Bg4 := Bg4_; clear Bg4_; have Bg6_ := Aside0.mk (blk_below Bg6.out hbn); clear Bg6; have Bg6 := Bg6_; clear Bg6_; have HB_ := Aside0.mk (below_step (show Below w.heap.size w w20 from HB.out) hbn); clear HB; have HB := HB_; clear HB_; clear hbn) | ((with_reducible refine gate_dst (N := 8) rfl ?_); refine' box_event ?hg (N := 8) ?hd (t := 30) ?hr ?_; (case hd => rfl); (case hg => rfl); (case hr => first | (go_simp; done) | (go_simp; rfl)); intro g8 hgn w22 hbox hbn; have NEg4g8 := Aside0.mk (show g4 ≠ g8 from Nat.ne_of_lt (Nat.lt_of_lt_of_eq (blk_lt Bg4.out) hgn.symm)); have NEg6g8 := Aside0.mk (show g6 ≠ g8 from Nat.ne_of_lt (Nat.lt_of_lt_of_eq (blk_lt Bg6.out) hgn.symm)); have GEg8 := Aside0.mk (show w.heap.size ≤ g8 from Nat.le_trans (below_size (show Below w.heap.size w w21 from HB.out)) (Nat.le_of_eq hgn.symm)); have HV4_ := Aside0.mk (Kd.R_below HV4.out hbn); clear HV4; have HV4 := HV4_; clear HV4_; have Bg4_ := Aside0.mk (blk_below Bg4.out hbn); clear Bg4; have Bg4 := Bg4_; clear Bg4_; have Bg6_ := Aside0.mk (blk_below Bg6.out hbn); clear Bg6; have Bg6 := Bg6_; clear Bg6_; have HV8_ := Aside0.mk (Kd.R_below HV8.out hbn); clear HV8; have HV8 := HV8_; clear HV8_; have HB_ := Aside0.mk (below_step (show Below w.heap.size w w21 from HB.out) hbn); clear HB; have HB := HB_; clear HB_; have Bg8 := Aside0.mk hbox; clear hbox hbn hgn; obtain ⟨c0g8, c1g8, f0g8, f1g8⟩ := cell2 Bg8.out))
        (try simp only [Act.put, List.setIfInBounds_toArray, List.set_cons_zero, List.set_cons_succ])
        clear c0g8 c1g8 f0g8 f1g8
        have yHV4 := Kd.R_set (Kd.R_set HV4.out Bg8.out chaps_ne 0 (.slice A8 r1.length c8)) (blk_set Bg8.out 0 (.slice A8 r1.length c8)) chaps_ne 1 (.string r2)
        have yBg4 := blk_far (p := ⟨g8, 1, none⟩) (blk_far (p := ⟨g8, 0, none⟩) Bg4.out NEg4g8.out (.slice A8 r1.length c8)) NEg4g8.out (.string r2)
        have yBg6 := blk_far (p := ⟨g8, 1, none⟩) (blk_far (p := ⟨g8, 0, none⟩) Bg6.out NEg6g8.out (.slice A8 r1.length c8)) NEg6g8.out (.string r2)
        have yHV8 := Kd.R_set (Kd.R_set HV8.out Bg8.out chaps_ne 0 (.slice A8 r1.length c8)) (blk_set Bg8.out 0 (.slice A8 r1.length c8)) chaps_ne 1 (.string r2)
        have yBg8 := blk_put (blk_put (cs' := #[.slice A8 r1.length c8, .string (⟨#[]⟩ : ByteArray)]) Bg8.out 0 (.slice A8 r1.length c8) rfl) 1 (.string r2) (cs' := #[.slice A8 r1.length c8, .string r2]) rfl
        have yHB := (HB.out.setCell (p := ⟨g8, 0, none⟩) GEg8.out (.slice A8 r1.length c8)).setCell (p := ⟨g8, 1, none⟩) GEg8.out (.string r2)
        clear HV4 Bg4 Bg6 HV8 Bg8 HB
        generalize ((w22.setCell ⟨g8, 0, none⟩ (.slice A8 r1.length c8)).setCell ⟨g8, 1, none⟩ (.string r2)) = w23 at yHV4 yBg4 yBg6 yHV8 yBg8 yHB ⊢
        have HV4 := Aside0.mk yHV4
        clear yHV4
        have Bg4 := Aside0.mk yBg4
        clear yBg4
        have Bg6 := Aside0.mk yBg6
        clear yBg6
        have HV8 := Aside0.mk yHV8
        clear yHV8
        have Bg8 := Aside0.mk yBg8
        clear yBg8
        have HB := Aside0.mk yHB
        clear yHB
        have hneq := fun W => neq16 o0 o1 o2 o3 o4 o5 o6 o7 o8 o9 o10 o11 o12 o13 o14 o15 W
        refine start_ (n := 10) (S := fun w' => w'.cell? ⟨g4, 0, none⟩ = some (.slice A4 r1.length c4) ∧ w'.cell? ⟨g4, 1, none⟩ = some (.string r2) ∧ w'.cell? ⟨g8, 0, none⟩ = some (.slice A8 r1.length c8) ∧ w'.cell? ⟨g8, 1, none⟩ = some (.string r2) ∧ w'.cell? ⟨g6, 0, none⟩ = some (.int .u8 o0) ∧ w'.cell? ⟨g6, 1, none⟩ = some (.int .u8 o1) ∧ w'.cell? ⟨g6, 2, none⟩ = some (.int .u8 o2) ∧ w'.cell? ⟨g6, 3, none⟩ = some (.int .u8 o3) ∧ w'.cell? ⟨g6, 4, none⟩ = some (.int .u8 o4) ∧ w'.cell? ⟨g6, 5, none⟩ = some (.int .u8 o5) ∧ w'.cell? ⟨g6, 6, none⟩ = some (.int .u8 o6) ∧ w'.cell? ⟨g6, 7, none⟩ = some (.int .u8 o7) ∧ w'.cell? ⟨g6, 8, none⟩ = some (.int .u8 o8) ∧ w'.cell? ⟨g6, 9, none⟩ = some (.int .u8 o9) ∧ w'.cell? ⟨g6, 10, none⟩ = some (.int .u8 o10) ∧ w'.cell? ⟨g6, 11, none⟩ = some (.int .u8 o11) ∧ w'.cell? ⟨g6, 12, none⟩ = some (.int .u8 o12) ∧ w'.cell? ⟨g6, 13, none⟩ = some (.int .u8 o13) ∧ w'.cell? ⟨g6, 14, none⟩ = some (.int .u8 o14) ∧ w'.cell? ⟨g6, 15, none⟩ = some (.int .u8 o15)) (ds := []) #[false, false, false, false, false, false, false, false, false, false] (by as_aux_lemma => kernel_rfl) rfl rfl ⟨(cell2 (blk_drew Bg4.out)).1, (cell2 (blk_drew Bg4.out)).2.1, (cell2 (blk_drew Bg8.out)).1, (cell2 (blk_drew Bg8.out)).2.1, ((blk_cell (blk_drew Bg6.out) 0).trans rfl), ((blk_cell (blk_drew Bg6.out) 1).trans rfl), ((blk_cell (blk_drew Bg6.out) 2).trans rfl), ((blk_cell (blk_drew Bg6.out) 3).trans rfl), ((blk_cell (blk_drew Bg6.out) 4).trans rfl), ((blk_cell (blk_drew Bg6.out) 5).trans rfl), ((blk_cell (blk_drew Bg6.out) 6).trans rfl), ((blk_cell (blk_drew Bg6.out) 7).trans rfl), ((blk_cell (blk_drew Bg6.out) 8).trans rfl), ((blk_cell (blk_drew Bg6.out) 9).trans rfl), ((blk_cell (blk_drew Bg6.out) 10).trans rfl), ((blk_cell (blk_drew Bg6.out) 11).trans rfl), ((blk_cell (blk_drew Bg6.out) 12).trans rfl), ((blk_cell (blk_drew Bg6.out) 13).trans rfl), ((blk_cell (blk_drew Bg6.out) 14).trans rfl), ((blk_cell (blk_drew Bg6.out) 15).trans rfl)⟩ (fun hHeld => ?_)
        refine take_ (i := 0) (N := some 55) (v := ?_) (a' := ?_) #[true, false, false, false, false, false, false, false, false, false] rfl rfl (by as_aux_lemma => kernel_rfl) (fun _ _ _ h => h) (Or.inl ⟨by rfl, ?_⟩) hHeld ?_ ?_
        rotate_left
        · rintro w' ⟨s0, s1, s2, s3, s4, s5, s6, s7, s8, s9, s10, s11, s12, s13, s14, s15, s16, s17, s18, s19⟩
          go_simp
          with_reducible rfl
        rotate_left
        · simp only [Act.put, List.setIfInBounds_toArray, List.set_cons_zero, List.set_cons_succ, i64_w, i32_w]
          rfl
        refine take_ (i := 1) (N := some 56) (v := ?_) (a' := ?_) #[true, true, false, false, false, false, false, false, false, false] rfl rfl (by as_aux_lemma => kernel_rfl) (fun _ _ _ h => h) (Or.inl ⟨by rfl, ?_⟩) hHeld ?_ ?_
        rotate_left
        · rintro w' ⟨s0, s1, s2, s3, s4, s5, s6, s7, s8, s9, s10, s11, s12, s13, s14, s15, s16, s17, s18, s19⟩
          go_simp
          with_reducible rfl
        rotate_left
        · simp only [Act.put, List.setIfInBounds_toArray, List.set_cons_zero, List.set_cons_succ, i64_w, i32_w]
          rfl
        refine one_ (i := 2) (N := some 57) #[true, true, true, false, false, false, false, false, false, false] rfl rfl (by as_aux_lemma => kernel_rfl) (by decide) (fun K hK => ?_)
        refine goes_ Tryd.func21 (by as_aux_lemma => kernel_rfl) rfl #[.agg #[.slice A4 r1.length c4, .string r2], .agg #[.slice A8 r1.length c8, .string r2]] (by rfl) rfl rfl (by simp only [List.map_toArray, List.map_cons, List.map_nil]; rfl) ?_
        with_reducible refine (HSM.out _ A4 c4 A8 c8 (RC (Kd.R_drew HV4.out)).1 (RC (Kd.R_drew HV4.out)).2 (RC (Kd.R_drew HV8.out)).1 (RC (Kd.R_drew HV8.out)).2).mono ?_
        rintro e wa ⟨rfl, hbn⟩
        refine ⟨_, rfl, ?_⟩
        have HV4a := Aside0.mk (Kd.R_below (Kd.R_drew HV4.out) hbn)
        have HV8a := Aside0.mk (Kd.R_below (Kd.R_drew HV8.out) hbn)
        have Bg4a := Aside0.mk (blk_below (blk_drew Bg4.out) hbn)
        have Bg8a := Aside0.mk (blk_below (blk_drew Bg8.out) hbn)
        have Bg6a := Aside0.mk (blk_below (blk_drew Bg6.out) hbn)
        have HBa := Aside0.mk (below_step (below_drew1 HB.out) hbn)
        clear hbn
        refine hK.out _ _ ⟨(cell2 Bg4a.out).1, (cell2 Bg4a.out).2.1, (cell2 Bg8a.out).1, (cell2 Bg8a.out).2.1, ((blk_cell Bg6a.out 0).trans rfl), ((blk_cell Bg6a.out 1).trans rfl), ((blk_cell Bg6a.out 2).trans rfl), ((blk_cell Bg6a.out 3).trans rfl), ((blk_cell Bg6a.out 4).trans rfl), ((blk_cell Bg6a.out 5).trans rfl), ((blk_cell Bg6a.out 6).trans rfl), ((blk_cell Bg6a.out 7).trans rfl), ((blk_cell Bg6a.out 8).trans rfl), ((blk_cell Bg6a.out 9).trans rfl), ((blk_cell Bg6a.out 10).trans rfl), ((blk_cell Bg6a.out 11).trans rfl), ((blk_cell Bg6a.out 12).trans rfl), ((blk_cell Bg6a.out 13).trans rfl), ((blk_cell Bg6a.out 14).trans rfl), ((blk_cell Bg6a.out 15).trans rfl)⟩ (fun hHeld => ?_)
        clear hK K
        refine norm_ (a' := ?_) ?_ ?_
        rotate_left
        · show Act.put _ (some 57) _ = _
          simp only [Act.put, List.setIfInBounds_toArray, List.set_cons_zero, List.set_cons_succ, i64_w, i32_w]
          rfl
        refine pure_ (i := 3) (N := some 58) (v := ?_) (a' := ?_) #[true, true, true, true, false, false, false, false, false, false] rfl rfl (by as_aux_lemma => kernel_rfl) (fun _ _ _ h => h) (Or.inl ⟨by rfl, ?_⟩) ?_ ?_
        rotate_left
        · intro w'
          go_simp
          with_reducible rfl
        rotate_left
        · simp only [Act.put, List.setIfInBounds_toArray, List.set_cons_zero, List.set_cons_succ, i64_w, i32_w]
          rfl
        refine pure_ (i := 4) (N := some 59) (v := ?_) (a' := ?_) #[true, true, true, true, true, false, false, false, false, false] rfl rfl (by as_aux_lemma => kernel_rfl) (fun _ _ _ h => h) (Or.inl ⟨by rfl, ?_⟩) ?_ ?_
        rotate_left
        · intro w'
          go_simp
          with_reducible rfl
        rotate_left
        · simp only [Act.put, List.setIfInBounds_toArray, List.set_cons_zero, List.set_cons_succ, i64_w, i32_w]
          rfl
        refine pure_ (i := 6) (N := some 61) (v := ?_) (a' := ?_) #[true, true, true, true, true, false, true, false, false, false] rfl rfl (by as_aux_lemma => kernel_rfl) (fun _ _ _ h => h) (Or.inl ⟨by rfl, ?_⟩) ?_ ?_
        rotate_left
        · intro w'
          go_simp
          with_reducible rfl
        rotate_left
        · simp only [Act.put, List.setIfInBounds_toArray, List.set_cons_zero, List.set_cons_succ, i64_w, i32_w]
          rfl
        refine take_ (i := 5) (N := some 60) (v := ?_) (a' := ?_) #[true, true, true, true, true, true, true, false, false, false] rfl rfl (by as_aux_lemma => kernel_rfl) (fun _ _ _ h => h) (Or.inl ⟨by rfl, ?_⟩) hHeld ?_ ?_
        rotate_left
        · rintro w' ⟨s0, s1, s2, s3, s4, s5, s6, s7, s8, s9, s10, s11, s12, s13, s14, s15, s16, s17, s18, s19⟩
          go_simp
          with_reducible rfl
        rotate_left
        · simp only [Act.put, List.setIfInBounds_toArray, List.set_cons_zero, List.set_cons_succ, i64_w, i32_w]
          rfl
        refine one_ (i := 7) (N := some 62) #[true, true, true, true, true, true, true, true, false, false] rfl rfl (by as_aux_lemma => kernel_rfl) (by decide) (fun K hK => ?_)
        refine goes_ Tryd.func22 (by as_aux_lemma => kernel_rfl) rfl #[.int .i64 1, .string (⟨#[115]⟩ : ByteArray), .slice Aa0 L ca0] (by rfl) rfl rfl (by simp only [List.map_toArray, List.map_cons, List.map_nil]; rfl) ?_
        with_reducible refine (HAN.out _ Aa0 ca0 (HCL.out _ HBa.out) HLA.out).mono ?_
        rintro e wb ⟨rfl, hbn⟩
        refine ⟨_, rfl, ?_⟩
        have HV4b := Aside0.mk (Kd.R_below HV4a.out hbn)
        have HV8b := Aside0.mk (Kd.R_below HV8a.out hbn)
        have Bg4b := Aside0.mk (blk_below Bg4a.out hbn)
        have Bg8b := Aside0.mk (blk_below Bg8a.out hbn)
        have Bg6b := Aside0.mk (blk_below Bg6a.out hbn)
        have HBb := Aside0.mk (below_step HBa.out hbn)
        clear hbn
        refine hK.out _ _ ⟨(cell2 Bg4b.out).1, (cell2 Bg4b.out).2.1, (cell2 Bg8b.out).1, (cell2 Bg8b.out).2.1, ((blk_cell Bg6b.out 0).trans rfl), ((blk_cell Bg6b.out 1).trans rfl), ((blk_cell Bg6b.out 2).trans rfl), ((blk_cell Bg6b.out 3).trans rfl), ((blk_cell Bg6b.out 4).trans rfl), ((blk_cell Bg6b.out 5).trans rfl), ((blk_cell Bg6b.out 6).trans rfl), ((blk_cell Bg6b.out 7).trans rfl), ((blk_cell Bg6b.out 8).trans rfl), ((blk_cell Bg6b.out 9).trans rfl), ((blk_cell Bg6b.out 10).trans rfl), ((blk_cell Bg6b.out 11).trans rfl), ((blk_cell Bg6b.out 12).trans rfl), ((blk_cell Bg6b.out 13).trans rfl), ((blk_cell Bg6b.out 14).trans rfl), ((blk_cell Bg6b.out 15).trans rfl)⟩ (fun hHeld => ?_)
        clear hK K
        refine norm_ (a' := ?_) ?_ ?_
        rotate_left
        · show Act.put _ (some 62) _ = _
          simp only [Act.put, List.setIfInBounds_toArray, List.set_cons_zero, List.set_cons_succ, i64_w, i32_w]
          rfl
        refine pure_ (i := 8) (N := some 63) (v := ?_) (a' := ?_) #[true, true, true, true, true, true, true, true, true, false] rfl rfl (by as_aux_lemma => kernel_rfl) (fun _ _ _ h => h) (Or.inl ⟨by rfl, ?_⟩) ?_ ?_
        rotate_left
        · intro w'
          go_simp
          with_reducible rfl
        rotate_left
        · simp only [Act.put, List.setIfInBounds_toArray, List.set_cons_zero, List.set_cons_succ, i64_w, i32_w]
          rfl
        refine pure_ (i := 9) (N := some 64) (v := ?_) (a' := ?_) #[true, true, true, true, true, true, true, true, true, true] rfl rfl (by as_aux_lemma => kernel_rfl) (fun _ _ _ h => h) (Or.inl ⟨by rfl, ?_⟩) ?_ ?_
        rotate_left
        · intro w'
          go_simp
          with_reducible rfl
        rotate_left
        · simp only [Act.put, List.setIfInBounds_toArray, List.set_cons_zero, List.set_cons_succ, i64_w, i32_w]
          rfl
        refine done_ (by as_aux_lemma => kernel_rfl) ?_
        clear hHeld hneq HB HV4 HV8 Bg4 Bg8 Bg6 HBa HV4a HV8a Bg4a Bg8a Bg6a Bg6b
        generalize wb = w50 at HBb HV4b HV8b Bg4b Bg8b ⊢
        have HB := HBb
        clear HBb
        have HV4 := HV4b
        clear HV4b
        have HV8 := HV8b
        clear HV8b
        have Bg4 := Bg4b
        clear Bg4b
        have Bg8 := Bg8b
        clear Bg8b
        obtain ⟨b10, hb10⟩ : ∃ b, w50.heap.size = b := ⟨_, rfl⟩
        have HB10 := Aside0.mk hb10
        clear hb10
        have HBW := Aside0.mk (show w.heap.size ≤ b10 from HB10.out ▸ below_size HB.out)
        have HVL4 := Aside0.mk (show ∀ gr : Nat, (Value.slice A4 r1.length c4).ownBlock = some gr → gr < b10 from fun gr h => by
          obtain ⟨inner, ho⟩ := Kd.R_own HV4.out
          have := own_lt ho gr h
          have := HB10.out
          omega)
        have HVL8 := Aside0.mk (show ∀ gr : Nat, (Value.slice A8 r1.length c8).ownBlock = some gr → gr < b10 from fun gr h => by
          obtain ⟨inner, ho⟩ := Kd.R_own HV8.out
          have := own_lt ho gr h
          have := HB10.out
          omega)
        obtain ⟨c0g4, c1g4, f0g4, f1g4⟩ := cell2 Bg4.out
        go_upto_region 16 with (first | (go_at_call 17; (with_reducible refine (HPT.out _ A4 c4 (RC HV4.out).1 (RC HV4.out).2).mono ?_); rintro e w51 ⟨v10, rfl, hr, hbn⟩; obtain ⟨A10, c10, e10⟩ := Kd.R_slice hr; rw [HLP.out] at e10; subst e10; have HX10 := Aside0.mk (show Kd.R (Kd.int .u8) 5 _ b10 (fun _ => True) _ p1 from HB10.out ▸ hr); clear hr; clear c0g4 c1g4 f0g4 f1g4; have HV4_ := Aside0.mk (Kd.R_below HV4.out hbn); clear HV4; have HV4 := HV4_; clear HV4_; have HV8_ := Aside0.mk (Kd.R_below HV8.out hbn); clear HV8; have HV8 := HV8_; clear HV8_; have Bg4_ := Aside0.mk (blk_below Bg4.out hbn); clear Bg4; have Bg4 := Bg4_; clear Bg4_; have Bg8_ := Aside0.mk (blk_below Bg8.out hbn); clear Bg8; have Bg8 := Bg8_; clear Bg8_; have HB_ := Aside0.mk (below_step (show Below w.heap.size w w50 from HB.out) hbn); clear HB; have HB := HB_; clear HB_; clear hbn))
        (try simp only [Act.put, List.setIfInBounds_toArray, List.set_cons_zero, List.set_cons_succ])
        go_wp2_with fail
        go_loopw [12] (fun v12 wr => ∃ (i : Nat) (xs : List Int), v12 = .int .i64 (i : Int) ∧ Aside0 (i ≤ LP) ∧ Aside0 (xs.length = LP) ∧ Aside0 (Kd.R (Kd.int .u8) 5 wr b10 (fun _ => True) (.slice A10 LP c10) xs) ∧ Aside0 (Kd.R (Kd.int .u8) 5 wr b4 (fun _ => True) (.slice A4 r1.length c4) r1) ∧ Aside0 (Kd.R (Kd.int .u8) 5 wr w.heap.size (fun _ => True) (.slice A8 r1.length c8) r1) ∧ Aside0 (wr.heap[g4]? = some (.cells #[.slice A4 r1.length c4, .string r2] 30 (0, 0))) ∧ Aside0 (wr.heap[g8]? = some (.cells #[.slice A8 r1.length c8, .string r2] 30 (0, 0))) ∧ Aside0 (Below w.heap.size w wr)) (fun v12 _ => LP - (intOf v12).toNat)
        case atStart => exact ⟨0, p1, rfl, ⟨Nat.zero_le _⟩, HLP, HX10, HV4, HV8, Bg4, Bg8, HB⟩
        case round =>
          clear HX10 HV4 HV8 Bg4 Bg8 HB
          obtain ⟨i, xs, rfl, HI, HXL, HX10, HV4, HV8, Bg4, Bg8, HB⟩ := hrel
          have hlp9 : LP ≤ 9223372036854775807 := by have h_ := HXL.out; have h2_ := Kd.C_max (RC HX10.out).1; omega
          by_cases hlt2 : i < LP
          · skip
            have hb0 : (0 : Int) ≤ (i : Int) := by omega
            have hb1 : (i : Int) < (LP : Int) := by omega
            have hxl := HXL.out
            obtain ⟨gr, cr, er, gbr, glr, _⟩ := Kd.R_form HX10.out (by omega)
            simp only [Value.slice.injEq] at er
            obtain ⟨rfl, hz_, rfl⟩ := er
            clear hz_
            obtain ⟨hx0, hf0⟩ := Kd.R_celln 0 HX10.out (i : Int) hb0 hb1
            rw [Int.toNat_natCast] at hx0 hf0
            generalize hx : rdOf (0 : Int) xs (i : Int) = x at hx0
            clear hx
            have HPUT := Aside0.mk (Kd.R_putg HX10.out (i : Int) ((x + 1) % 256))
            rw [Int.toNat_natCast] at HPUT
            have GBR := Aside0.mk gbr
            clear gbr glr hxl
            have NEHV4 := Aside0.mk (show some gr ≠ (Value.slice A4 r1.length c4).ownBlock from fun e => by have h1_ := HVL4.out gr e.symm; have h2_ := GBR.out; omega)
            have NEHV8 := Aside0.mk (show some gr ≠ (Value.slice A8 r1.length c8).ownBlock from fun e => by have h1_ := HVL8.out gr e.symm; have h2_ := GBR.out; omega)
            go_wp2_with fail
            have hput := HPUT.out
            have TB := Aside0.mk (HB.out.setCell (p := ⟨gr, i, none⟩) (Nat.le_trans HBW.out GBR.out) (.int .u8 ((x + 1) % 256)))
            have THV4 := Aside0.mk (Kd.R_grown1 HV4.out rfl hput.2 NEHV4.out)
            have THV8 := Aside0.mk (Kd.R_grown1 HV8.out rfl hput.2 NEHV8.out)
            have TBg4 := Aside0.mk (blk_grown Bg4.out hput.2 (Kd.R_ne HX10.out Bg4.out (by decide)))
            have TBg8 := Aside0.mk (blk_grown Bg8.out hput.2 (Kd.R_ne HX10.out Bg8.out (by decide)))
            have TR := Aside0.mk hput.1
            have TX := Aside0.mk ((xs.length_set (i := i) (a := (x + 1) % 256)).trans HXL.out)
            clear hput hx0 hf0 HPUT HX10 HV4 HV8 Bg4 Bg8 HB
            go_roundw
            case rel => exact ⟨i + 1, _, by go_num, ⟨by omega⟩, TX, TR, THV4, THV8, TBg4, TBg8, TB⟩
            case measure => simp [intOf]; omega
          · have hge2 : ¬ (i : Int) < (LP : Int) := by omega
            obtain ⟨c0g4, c1g4, f0g4, f1g4⟩ := cell2 Bg4.out
            obtain ⟨c0g8, c1g8, f0g8, f1g8⟩ := cell2 Bg8.out
            go_wp2_with (first | (go_at_call 21; (with_reducible refine (HSM.out _ A4 c4 A8 c8 (RC HV4.out).1 (RC HV4.out).2 (RC HV8.out).1 (RC HV8.out).2).mono ?_); rintro e wf ⟨rfl, hbn⟩; have HBF := Aside0.mk (below_step HB.out hbn); clear hbn))
            go_ret
            exact ⟨rfl, HBF.out⟩
end Go.Proofs.YtgadhmoifhoilaaDoor.Chap
