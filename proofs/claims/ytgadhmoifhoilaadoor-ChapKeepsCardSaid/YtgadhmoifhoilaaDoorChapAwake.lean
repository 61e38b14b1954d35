/-
  umpirelaw17.awake by hand: it is true.
-/
import Derived.Test.YtgadhmoifhoilaaDoorChapRight
import Derived.Test.YtgadhmoifhoilaaDoorAuthChap
import Derived.Test.YtgadhmoifhoilaaDoorPChapBasex1
namespace Go.Proofs.YtgadhmoifhoilaaDoor.Chap
open Go.RowKit Go.Lib Go.Proofs.YtgadhmoifhoilaaDoorW.PrintWords Go.Proofs.YtgadhmoifhoilaaDoorW.PrintLast Go.Proofs.YtgadhmoifhoilaaDoorW.PrintMore Go.Proofs.YtgadhmoifhoilaaDoor.Kit Go.Proofs.YtgadhmoifhoilaaDoor.Md5
set_option linter.unusedVariables false
set_option linter.unusedSimpArgs false

theorem cell2 {W : World} {g : Nat} {t : TypeId} {v0 v1 : Value} (h : W.heap[g]? = some (.cells #[v0, v1] t (0, 0))) : W.cell? ⟨g, 0, none⟩ = some v0 ∧ W.cell? ⟨g, 1, none⟩ = some v1 ∧ W.frozen? ⟨g, 0, none⟩ = false ∧ W.frozen? ⟨g, 1, none⟩ = false := ⟨(blk_cell h 0).trans rfl, (blk_cell h 1).trans rfl, blk_frozen h 0, blk_frozen h 1⟩
theorem chaps_ne : ∀ x, x ∈ (5 : TypeId) :: (Kd.int IntKind.u8).E → x ≠ 30 := fun x hx => by cases hx with | head => decide | tail _ h => cases h
theorem arr_ne : ∀ x, x ∈ (5 : TypeId) :: (Kd.int IntKind.u8).E → x ≠ 24 := fun x hx => by cases hx with | head => decide | tail _ h => cases h
theorem ansl7 : ansL 7 (⟨#[115]⟩ : ByteArray) [118] = [7, 115, 118] := by kernel_rfl
theorem ans7 : ansOf 7 (⟨#[115]⟩ : ByteArray) [118] = sumOf [7, 115, 118] := by unfold ansOf; rw [ansl7]
theorem r7 : rightF 7 (⟨#[115]⟩ : ByteArray) [118] (digest (sumOf [7, 115, 118])) = true := by unfold rightF; rw [ans7]; simp
theorem r8 : rightF 8 (⟨#[115]⟩ : ByteArray) [118] (digest (sumOf [7, 115, 118])) = false := by kernel_rfl
theorem rd1 : AuthHand.chap_Read.f [3, 1, 2, 3, 97, 98] = some ([1, 2, 3], (⟨#[97, 98]⟩ : ByteArray), 0) := by kernel_rfl
theorem rd3 : AuthHand.chap_Read.f [] = some ([], (⟨#[]⟩ : ByteArray), 2) := by kernel_rfl
theorem rd4 : AuthHand.chap_Read.f [0, 1] = some ([], (⟨#[]⟩ : ByteArray), 1) := by kernel_rfl
theorem rd5 : AuthHand.chap_Read.f [2, 1] = some ([], (⟨#[]⟩ : ByteArray), 2) := by kernel_rfl
theorem pt2 : PChapBase.chap_Put.f 5 [1, 2, 3] (⟨#[97, 98]⟩ : ByteArray) = some ([3, 1, 2, 3, 97, 98], 0) := by kernel_rfl
theorem pt6 : PChapBase.chap_Put.f 5 [] (⟨#[]⟩ : ByteArray) = some ([], 1) := by kernel_rfl
set_option maxRecDepth 100000 in
set_option maxHeartbeats 8000000 in
theorem awake_calls (w : World) (hg : Laid w) (h3 : 3 ≤ w.heap.size) : Calls Tryd.prog 16 #[] w fun e w' => e = .returned (.bool true) ∧ Below w.heap.size w w' := by
  have HG := Aside0.mk hg
  have H3 := Aside0.mk h3
  clear hg h3
  have HB := Aside0.mk (Below.refl w.heap.size w)
  have HR1 := Aside0.mk (show ∀ (W : World) (g : Nat), W.heap[g]? = some (.cells #[.int .u8 3, .int .u8 1, .int .u8 2, .int .u8 3, .int .u8 97, .int .u8 98] 5 (0, 0)) → Calls Tryd.prog 19 #[.slice (some ⟨g, 0, none⟩) 6 6] W fun e w' => ∃ v0_ : Value, e = .returned (.tuple #[.agg #[v0_, .string (⟨#[97, 98]⟩ : ByteArray)], .int .i64 0]) ∧ Kd.R (Kd.int .u8) 5 w' W.heap.size (fun _ => True) v0_ [1, 2, 3] ∧ Below W.heap.size W w' from fun W g h => AuthHand.chap_Read.calls (some ⟨g, 0, none⟩) 6 [3, 1, 2, 3, 97, 98] _ _ _ W (C_block h rfl (by decide)) (by decide) rd1)
  have HR3 := Aside0.mk (show ∀ (W : World), Calls Tryd.prog 19 #[.slice none 0 0] W fun e w' => ∃ v0_ : Value, e = .returned (.tuple #[.agg #[v0_, .string (⟨#[]⟩ : ByteArray)], .int .i64 2]) ∧ Kd.R (Kd.int .u8) 5 w' W.heap.size (fun _ => True) v0_ ([] : List Int) ∧ Below W.heap.size W w' from fun W => AuthHand.chap_Read.calls none 0 ([] : List Int) _ _ _ W (Kd.C_nil _ _) (by decide) rd3)
  have HR4 := Aside0.mk (show ∀ (W : World) (g : Nat), W.heap[g]? = some (.cells #[.int .u8 0, .int .u8 1] 5 (0, 0)) → Calls Tryd.prog 19 #[.slice (some ⟨g, 0, none⟩) 2 2] W fun e w' => ∃ v0_ : Value, e = .returned (.tuple #[.agg #[v0_, .string (⟨#[]⟩ : ByteArray)], .int .i64 1]) ∧ Kd.R (Kd.int .u8) 5 w' W.heap.size (fun _ => True) v0_ ([] : List Int) ∧ Below W.heap.size W w' from fun W g h => AuthHand.chap_Read.calls (some ⟨g, 0, none⟩) 2 [0, 1] _ _ _ W (C_block h rfl (by decide)) (by decide) rd4)
  have HR5 := Aside0.mk (show ∀ (W : World) (g : Nat), W.heap[g]? = some (.cells #[.int .u8 2, .int .u8 1] 5 (0, 0)) → Calls Tryd.prog 19 #[.slice (some ⟨g, 0, none⟩) 2 2] W fun e w' => ∃ v0_ : Value, e = .returned (.tuple #[.agg #[v0_, .string (⟨#[]⟩ : ByteArray)], .int .i64 2]) ∧ Kd.R (Kd.int .u8) 5 w' W.heap.size (fun _ => True) v0_ ([] : List Int) ∧ Below W.heap.size W w' from fun W g h => AuthHand.chap_Read.calls (some ⟨g, 0, none⟩) 2 [2, 1] _ _ _ W (C_block h rfl (by decide)) (by decide) rd5)
  have HP2 := Aside0.mk (show ∀ (W : World) (A : Option Addr) (c : Nat), (Kd.int .u8).C W A 3 [1, 2, 3] → 3 ≤ c → Calls Tryd.prog 17 #[.agg #[.slice A 3 c, .string (⟨#[97, 98]⟩ : ByteArray)]] W fun e w' => ∃ v0_ : Value, e = .returned (.tuple #[v0_, .int .i64 0]) ∧ Kd.R (Kd.int .u8) 5 w' W.heap.size (fun _ => True) v0_ [3, 1, 2, 3, 97, 98] ∧ Below W.heap.size W w' from fun W A c h hc => PChapBase.chap_Put.calls 5 A c [1, 2, 3] (⟨#[97, 98]⟩ : ByteArray) _ _ W h hc pt2)
  have HP6 := Aside0.mk (show ∀ (W : World), Calls Tryd.prog 17 #[.agg #[.slice none 0 0, .string (⟨#[]⟩ : ByteArray)]] W fun e w' => ∃ v0_ : Value, e = .returned (.tuple #[v0_, .int .i64 1]) ∧ Kd.R (Kd.int .u8) 5 w' W.heap.size (fun _ => True) v0_ ([] : List Int) ∧ Below W.heap.size W w' from fun W => PChapBase.chap_Put.calls 5 none 0 ([] : List Int) (⟨#[]⟩ : ByteArray) _ _ W (Kd.C_nil _ _) (by decide) pt6)
  go_enter Tryd.func16, Tryd.ntmps16
  go_upto_region 2 with (first | ((with_reducible refine gate_dst (N := 15) rfl ?_); refine' lit_event ?hg (N := 15) ?hd (t := 5) (n := 6) ?hr ?_; (case hd => rfl); (case hg => rfl); (case hr => first | (go_simp; done) | (go_simp; rfl)); intro g15 hgn w1 hbox hbn; have GEg15 := Aside0.mk (show w.heap.size ≤ g15 from Nat.le_trans (below_size (show Below w.heap.size w w from HB.out)) (Nat.le_of_eq hgn.symm)); have HB_ := Aside0.mk (below_step (show Below w.heap.size w w from HB.out) hbn); clear HB; have HB := HB_; clear HB_; have Bg15 := Aside0.mk hbox; clear hbox hbn hgn) | (go_at_call 19; (with_reducible refine (HR1.out _ g15 Bg15.out).mono ?_); rintro e w2 ⟨v0, rfl, hr, hbn⟩; obtain ⟨A0, c0, rfl⟩ := Kd.R_slice hr; have HV0 := Aside0.mk (Kd.R_lower hr (below_size (show Below w.heap.size w w1 from HB.out))); clear hr; have Bg15_ := Aside0.mk (blk_below Bg15.out hbn); clear Bg15; have Bg15 := Bg15_; clear Bg15_; have HB_ := Aside0.mk (below_step (show Below w.heap.size w w1 from HB.out) hbn); clear HB; have HB := HB_; clear HB_; clear hbn) | ((with_reducible refine gate_dst (N := 1) rfl ?_); refine' box_event ?hg (N := 1) ?hd (t := 30) ?hr ?_; (case hd => rfl); (case hg => rfl); (case hr => first | (go_simp; done) | (go_simp; rfl)); intro g1 hgn w3 hbox hbn; have NEg15g1 := Aside0.mk (show g15 ≠ g1 from Nat.ne_of_lt (Nat.lt_of_lt_of_eq (blk_lt Bg15.out) hgn.symm)); have GEg1 := Aside0.mk (show w.heap.size ≤ g1 from Nat.le_trans (below_size (show Below w.heap.size w w2 from HB.out)) (Nat.le_of_eq hgn.symm)); have Bg15_ := Aside0.mk (blk_below Bg15.out hbn); clear Bg15; have Bg15 := Bg15_; clear Bg15_; have HV0_ := Aside0.mk (Kd.R_below HV0.out hbn); clear HV0; have HV0 := HV0_; clear HV0_; have HB_ := Aside0.mk (below_step (show Below w.heap.size w w2 from HB.out) hbn); clear HB; have HB := HB_; clear HB_; have Bg1 := Aside0.mk hbox; clear hbox hbn hgn; obtain ⟨c0g1, c1g1, f0g1, f1g1⟩ := cell2 Bg1.out))
  (try simp only [Act.put, List.setIfInBounds_toArray, List.set_cons_zero, List.set_cons_succ])
  clear c0g1 c1g1 f0g1 f1g1
  have yBg15 := blk_far (p := ⟨g1, 1, none⟩) (blk_far (p := ⟨g1, 0, none⟩) Bg15.out NEg15g1.out (.slice A0 3 c0)) NEg15g1.out (.string (⟨#[97, 98]⟩ : ByteArray))
  have yHV0 := Kd.R_set (Kd.R_set HV0.out Bg1.out chaps_ne 0 (.slice A0 3 c0)) (blk_set Bg1.out 0 (.slice A0 3 c0)) chaps_ne 1 (.string (⟨#[97, 98]⟩ : ByteArray))
  have yBg1 := blk_put (blk_put (cs' := #[.slice A0 3 c0, .string (⟨#[]⟩ : ByteArray)]) Bg1.out 0 (.slice A0 3 c0) rfl) 1 (.string (⟨#[97, 98]⟩ : ByteArray)) (cs' := #[.slice A0 3 c0, .string (⟨#[97, 98]⟩ : ByteArray)]) rfl
  have yHB := (HB.out.setCell (p := ⟨g1, 0, none⟩) GEg1.out (.slice A0 3 c0)).setCell (p := ⟨g1, 1, none⟩) GEg1.out (.string (⟨#[97, 98]⟩ : ByteArray))
  clear Bg15 HV0 Bg1 HB
  generalize ((w3.setCell ⟨g1, 0, none⟩ (.slice A0 3 c0)).setCell ⟨g1, 1, none⟩ (.string (⟨#[97, 98]⟩ : ByteArray))) = w4 at yBg15 yHV0 yBg1 yHB ⊢
  have Bg15 := Aside0.mk yBg15
  clear yBg15
  have HV0 := Aside0.mk yHV0
  clear yHV0
  have Bg1 := Aside0.mk yBg1
  clear yBg1
  have HB := Aside0.mk yHB
  clear yHB
  clear Bg15
  have hq := Kd.R_reads' HV0.out
  have HC0 := Aside0.mk (show 3 ≤ c0 from hq.2.1)
  have HQ0 := Aside0.mk (show (Kd.int .u8).C w4 A0 3 [1, 2, 3] from hq.2.2)
  clear hq
  obtain ⟨c0g1, c1g1, f0g1, f1g1⟩ := cell2 Bg1.out
  go_upto_region 3 with (first | (go_at_call 17; (with_reducible refine (HP2.out _ A0 c0 HQ0.out HC0.out).mono ?_); rintro e w5 ⟨vb, rfl, hr, hbn⟩; obtain ⟨Ab, cb, rfl⟩ := Kd.R_slice hr; have HVB := Aside0.mk (Kd.R_lower hr (below_size (show Below w.heap.size w w4 from HB.out))); clear hr; clear c0g1 c1g1 f0g1 f1g1; have HV0_ := Aside0.mk (Kd.R_below HV0.out hbn); clear HV0; have HV0 := HV0_; clear HV0_; have Bg1_ := Aside0.mk (blk_below Bg1.out hbn); clear Bg1; have Bg1 := Bg1_; clear Bg1_; have HB_ := Aside0.mk (below_step (show Below w.heap.size w w4 from HB.out) hbn); clear HB; have HB := HB_; clear HB_; clear hbn))
  (try simp only [Act.put, List.setIfInBounds_toArray, List.set_cons_zero, List.set_cons_succ])
  go_upto_region 4 with (first | (go_at_call 19; (with_reducible refine (HR3.out _).mono ?_); rintro e w6 ⟨vr, rfl, hr, hbn⟩; obtain ⟨Ar, cr, rfl⟩ := Kd.R_slice hr; clear hr; have HV0_ := Aside0.mk (Kd.R_below HV0.out hbn); clear HV0; have HV0 := HV0_; clear HV0_; have Bg1_ := Aside0.mk (blk_below Bg1.out hbn); clear Bg1; have Bg1 := Bg1_; clear Bg1_; have HVB_ := Aside0.mk (Kd.R_below HVB.out hbn); clear HVB; have HVB := HVB_; clear HVB_; have HB_ := Aside0.mk (below_step (show Below w.heap.size w w5 from HB.out) hbn); clear HB; have HB := HB_; clear HB_; clear hbn) | ((with_reducible refine gate_dst (N := 5) rfl ?_); refine' box_event ?hg (N := 5) ?hd (t := 30) ?hr ?_; (case hd => rfl); (case hg => rfl); (case hr => first | (go_simp; done) | (go_simp; rfl)); intro g5 hgn w7 hbox hbn; have NEg1g5 := Aside0.mk (show g1 ≠ g5 from Nat.ne_of_lt (Nat.lt_of_lt_of_eq (blk_lt Bg1.out) hgn.symm)); have GEg5 := Aside0.mk (show w.heap.size ≤ g5 from Nat.le_trans (below_size (show Below w.heap.size w w6 from HB.out)) (Nat.le_of_eq hgn.symm)); have HV0_ := Aside0.mk (Kd.R_below HV0.out hbn); clear HV0; have HV0 := HV0_; clear HV0_; have Bg1_ := Aside0.mk (blk_below Bg1.out hbn); clear Bg1; have Bg1 := Bg1_; clear Bg1_; have HVB_ := Aside0.mk (Kd.R_below HVB.out hbn); clear HVB; have HVB := HVB_; clear HVB_; have HB_ := Aside0.mk (below_step (show Below w.heap.size w w6 from HB.out) hbn); clear HB; have HB := HB_; clear HB_; have Bg5 := Aside0.mk hbox; clear hbox hbn hgn; obtain ⟨c0g5, c1g5, f0g5, f1g5⟩ := cell2 Bg5.out))
  (try simp only [Act.put, List.setIfInBounds_toArray, List.set_cons_zero, List.set_cons_succ])
  clear c0g5 c1g5 f0g5 f1g5
  have yHV0 := Kd.R_set (Kd.R_set HV0.out Bg5.out chaps_ne 0 (.slice Ar 0 cr)) (blk_set Bg5.out 0 (.slice Ar 0 cr)) chaps_ne 1 (.string (⟨#[]⟩ : ByteArray))
  have yBg1 := blk_far (p := ⟨g5, 1, none⟩) (blk_far (p := ⟨g5, 0, none⟩) Bg1.out NEg1g5.out (.slice Ar 0 cr)) NEg1g5.out (.string (⟨#[]⟩ : ByteArray))
  have yHVB := Kd.R_set (Kd.R_set HVB.out Bg5.out chaps_ne 0 (.slice Ar 0 cr)) (blk_set Bg5.out 0 (.slice Ar 0 cr)) chaps_ne 1 (.string (⟨#[]⟩ : ByteArray))
  have yBg5 := blk_put (blk_put (cs' := #[.slice Ar 0 cr, .string (⟨#[]⟩ : ByteArray)]) Bg5.out 0 (.slice Ar 0 cr) rfl) 1 (.string (⟨#[]⟩ : ByteArray)) (cs' := #[.slice Ar 0 cr, .string (⟨#[]⟩ : ByteArray)]) rfl
  have yHB := (HB.out.setCell (p := ⟨g5, 0, none⟩) GEg5.out (.slice Ar 0 cr)).setCell (p := ⟨g5, 1, none⟩) GEg5.out (.string (⟨#[]⟩ : ByteArray))
  clear HV0 Bg1 HVB Bg5 HB
  generalize ((w7.setCell ⟨g5, 0, none⟩ (.slice Ar 0 cr)).setCell ⟨g5, 1, none⟩ (.string (⟨#[]⟩ : ByteArray))) = w8 at yHV0 yBg1 yHVB yBg5 yHB ⊢
  have HV0 := Aside0.mk yHV0
  clear yHV0
  have Bg1 := Aside0.mk yBg1
  clear yBg1
  have HVB := Aside0.mk yHVB
  clear yHVB
  have Bg5 := Aside0.mk yBg5
  clear yBg5
  have HB := Aside0.mk yHB
  clear yHB
  clear Bg5
  go_upto_region 5 with (first | ((with_reducible refine gate_dst (N := 29) rfl ?_); refine' lit_event ?hg (N := 29) ?hd (t := 5) (n := 2) ?hr ?_; (case hd => rfl); (case hg => rfl); (case hr => first | (go_simp; done) | (go_simp; rfl)); intro gl4 hgn w9 hbox hbn; have NEg1gl4 := Aside0.mk (show g1 ≠ gl4 from Nat.ne_of_lt (Nat.lt_of_lt_of_eq (blk_lt Bg1.out) hgn.symm)); have GEgl4 := Aside0.mk (show w.heap.size ≤ gl4 from Nat.le_trans (below_size (show Below w.heap.size w w8 from HB.out)) (Nat.le_of_eq hgn.symm)); have HV0_ := Aside0.mk (Kd.R_below HV0.out hbn); clear HV0; have HV0 := HV0_; clear HV0_; have Bg1_ := Aside0.mk (blk_below Bg1.out hbn); clear Bg1; have Bg1 := Bg1_; clear Bg1_; have HVB_ := Aside0.mk (Kd.R_below HVB.out hbn); clear HVB; have HVB := HVB_; clear HVB_; have HB_ := Aside0.mk (below_step (show Below w.heap.size w w8 from HB.out) hbn); clear HB; have HB := HB_; clear HB_; have Bgl4 := Aside0.mk hbox; clear hbox hbn hgn) | (go_at_call 19; (with_reducible refine (HR4.out _ gl4 Bgl4.out).mono ?_); rintro e w10 ⟨vr, rfl, hr, hbn⟩; obtain ⟨Ar, cr, rfl⟩ := Kd.R_slice hr; clear hr; have HV0_ := Aside0.mk (Kd.R_below HV0.out hbn); clear HV0; have HV0 := HV0_; clear HV0_; have Bg1_ := Aside0.mk (blk_below Bg1.out hbn); clear Bg1; have Bg1 := Bg1_; clear Bg1_; have HVB_ := Aside0.mk (Kd.R_below HVB.out hbn); clear HVB; have HVB := HVB_; clear HVB_; have Bgl4_ := Aside0.mk (blk_below Bgl4.out hbn); clear Bgl4; have Bgl4 := Bgl4_; clear Bgl4_; have HB_ := Aside0.mk (below_step (show Below w.heap.size w w9 from HB.out) hbn); clear HB; have HB := HB_; clear HB_; clear hbn) | ((with_reducible refine gate_dst (N := 7) rfl ?_); refine' box_event ?hg (N := 7) ?hd (t := 30) ?hr ?_; (case hd => rfl); (case hg => rfl); (case hr => first | (go_simp; done) | (go_simp; rfl)); intro g7 hgn w11 hbox hbn; have NEg1g7 := Aside0.mk (show g1 ≠ g7 from Nat.ne_of_lt (Nat.lt_of_lt_of_eq (blk_lt Bg1.out) hgn.symm)); have NEgl4g7 := Aside0.mk (show gl4 ≠ g7 from Nat.ne_of_lt (Nat.lt_of_lt_of_eq (blk_lt Bgl4.out) hgn.symm)); have GEg7 := Aside0.mk (show w.heap.size ≤ g7 from Nat.le_trans (below_size (show Below w.heap.size w w10 from HB.out)) (Nat.le_of_eq hgn.symm)); have HV0_ := Aside0.mk (Kd.R_below HV0.out hbn); clear HV0; have HV0 := HV0_; clear HV0_; have Bg1_ := Aside0.mk (blk_below Bg1.out hbn); clear Bg1; have Bg1 := Bg1_; clear Bg1_; have HVB_ := Aside0.mk (Kd.R_below HVB.out hbn); clear HVB; have HVB := HVB_; clear HVB_; have Bgl4_ := Aside0.mk (blk_below Bgl4.out hbn); clear Bgl4; have Bgl4 := Bgl4_; clear Bgl4_; have HB_ := Aside0.mk (below_step (show Below w.heap.size w w10 from HB.out) hbn); clear HB; have HB := HB_; clear HB_; have Bg7 := Aside0.mk hbox; clear hbox hbn hgn; obtain ⟨c0g7, c1g7, f0g7, f1g7⟩ := cell2 Bg7.out))
  (try simp only [Act.put, List.setIfInBounds_toArray, List.set_cons_zero, List.set_cons_succ])
  clear c0g7 c1g7 f0g7 f1g7
  have yHV0 := Kd.R_set (Kd.R_set HV0.out Bg7.out chaps_ne 0 (.slice Ar 0 cr)) (blk_set Bg7.out 0 (.slice Ar 0 cr)) chaps_ne 1 (.string (⟨#[]⟩ : ByteArray))
  have yBg1 := blk_far (p := ⟨g7, 1, none⟩) (blk_far (p := ⟨g7, 0, none⟩) Bg1.out NEg1g7.out (.slice Ar 0 cr)) NEg1g7.out (.string (⟨#[]⟩ : ByteArray))
  have yHVB := Kd.R_set (Kd.R_set HVB.out Bg7.out chaps_ne 0 (.slice Ar 0 cr)) (blk_set Bg7.out 0 (.slice Ar 0 cr)) chaps_ne 1 (.string (⟨#[]⟩ : ByteArray))
  have yBgl4 := blk_far (p := ⟨g7, 1, none⟩) (blk_far (p := ⟨g7, 0, none⟩) Bgl4.out NEgl4g7.out (.slice Ar 0 cr)) NEgl4g7.out (.string (⟨#[]⟩ : ByteArray))
  have yBg7 := blk_put (blk_put (cs' := #[.slice Ar 0 cr, .string (⟨#[]⟩ : ByteArray)]) Bg7.out 0 (.slice Ar 0 cr) rfl) 1 (.string (⟨#[]⟩ : ByteArray)) (cs' := #[.slice Ar 0 cr, .string (⟨#[]⟩ : ByteArray)]) rfl
  have yHB := (HB.out.setCell (p := ⟨g7, 0, none⟩) GEg7.out (.slice Ar 0 cr)).setCell (p := ⟨g7, 1, none⟩) GEg7.out (.string (⟨#[]⟩ : ByteArray))
  clear HV0 Bg1 HVB Bgl4 Bg7 HB
  generalize ((w11.setCell ⟨g7, 0, none⟩ (.slice Ar 0 cr)).setCell ⟨g7, 1, none⟩ (.string (⟨#[]⟩ : ByteArray))) = w12 at yHV0 yBg1 yHVB yBgl4 yBg7 yHB ⊢
  have HV0 := Aside0.mk yHV0
  clear yHV0
  have Bg1 := Aside0.mk yBg1
  clear yBg1
  have HVB := Aside0.mk yHVB
  clear yHVB
  have Bgl4 := Aside0.mk yBgl4
  clear yBgl4
  have Bg7 := Aside0.mk yBg7
  clear yBg7
  have HB := Aside0.mk yHB
  clear yHB
  clear Bgl4
  clear Bg7
  go_upto_region 6 with (first | ((with_reducible refine gate_dst (N := 34) rfl ?_); refine' lit_event ?hg (N := 34) ?hd (t := 5) (n := 2) ?hr ?_; (case hd => rfl); (case hg => rfl); (case hr => first | (go_simp; done) | (go_simp; rfl)); intro gl5 hgn w13 hbox hbn; have NEg1gl5 := Aside0.mk (show g1 ≠ gl5 from Nat.ne_of_lt (Nat.lt_of_lt_of_eq (blk_lt Bg1.out) hgn.symm)); have GEgl5 := Aside0.mk (show w.heap.size ≤ gl5 from Nat.le_trans (below_size (show Below w.heap.size w w12 from HB.out)) (Nat.le_of_eq hgn.symm)); have HV0_ := Aside0.mk (Kd.R_below HV0.out hbn); clear HV0; have HV0 := HV0_; clear HV0_; have Bg1_ := Aside0.mk (blk_below Bg1.out hbn); clear Bg1; have Bg1 := Bg1_; clear Bg1_; have HVB_ := Aside0.mk (Kd.R_below HVB.out hbn); clear HVB; have HVB := HVB_; clear HVB_; have HB_ := Aside0.mk (below_step (show Below w.heap.size w w12 from HB.out) hbn); clear HB; have HB := HB_; clear HB_; have Bgl5 := Aside0.mk hbox; clear hbox hbn hgn) | (go_at_call 19; (with_reducible refine (HR5.out _ gl5 Bgl5.out).mono ?_); rintro e w14 ⟨vr, rfl, hr, hbn⟩; obtain ⟨Ar, cr, rfl⟩ := Kd.R_slice hr; clear hr; have HV0_ := Aside0.mk (Kd.R_below HV0.out hbn); clear HV0; have HV0 := HV0_; clear HV0_; have Bg1_ := Aside0.mk (blk_below Bg1.out hbn); clear Bg1; have Bg1 := Bg1_; clear Bg1_; have HVB_ := Aside0.mk (Kd.R_below HVB.out hbn); clear HVB; have HVB := HVB_; clear HVB_; have Bgl5_ := Aside0.mk (blk_below Bgl5.out hbn); clear Bgl5; have Bgl5 := Bgl5_; clear Bgl5_; have HB_ := Aside0.mk (below_step (show Below w.heap.size w w13 from HB.out) hbn); clear HB; have HB := HB_; clear HB_; clear hbn) | ((with_reducible refine gate_dst (N := 9) rfl ?_); refine' box_event ?hg (N := 9) ?hd (t := 30) ?hr ?_; (case hd => rfl); (case hg => rfl); (case hr => first | (go_simp; done) | (go_simp; rfl)); intro g9 hgn w15 hbox hbn; have NEg1g9 := Aside0.mk (show g1 ≠ g9 from Nat.ne_of_lt (Nat.lt_of_lt_of_eq (blk_lt Bg1.out) hgn.symm)); have NEgl5g9 := Aside0.mk (show gl5 ≠ g9 from Nat.ne_of_lt (Nat.lt_of_lt_of_eq (blk_lt Bgl5.out) hgn.symm)); have GEg9 := Aside0.mk (show w.heap.size ≤ g9 from Nat.le_trans (below_size (show Below w.heap.size w w14 from HB.out)) (Nat.le_of_eq hgn.symm)); have HV0_ := Aside0.mk (Kd.R_below HV0.out hbn); clear HV0; have HV0 := HV0_; clear HV0_; have Bg1_ := Aside0.mk (blk_below Bg1.out hbn); clear Bg1; have Bg1 := Bg1_; clear Bg1_; have HVB_ := Aside0.mk (Kd.R_below HVB.out hbn); clear HVB; have HVB := HVB_; clear HVB_; have Bgl5_ := Aside0.mk (blk_below Bgl5.out hbn); clear Bgl5; have Bgl5 := Bgl5_; clear Bgl5_; have HB_ := Aside0.mk (below_step (show Below w.heap.size w w14 from HB.out) hbn); clear HB; have HB := HB_; clear HB_; have Bg9 := Aside0.mk hbox; clear hbox hbn hgn; obtain ⟨c0g9, c1g9, f0g9, f1g9⟩ := cell2 Bg9.out))
  (try simp only [Act.put, List.setIfInBounds_toArray, List.set_cons_zero, List.set_cons_succ])
  clear c0g9 c1g9 f0g9 f1g9
  have yHV0 := Kd.R_set (Kd.R_set HV0.out Bg9.out chaps_ne 0 (.slice Ar 0 cr)) (blk_set Bg9.out 0 (.slice Ar 0 cr)) chaps_ne 1 (.string (⟨#[]⟩ : ByteArray))
  have yBg1 := blk_far (p := ⟨g9, 1, none⟩) (blk_far (p := ⟨g9, 0, none⟩) Bg1.out NEg1g9.out (.slice Ar 0 cr)) NEg1g9.out (.string (⟨#[]⟩ : ByteArray))
  have yHVB := Kd.R_set (Kd.R_set HVB.out Bg9.out chaps_ne 0 (.slice Ar 0 cr)) (blk_set Bg9.out 0 (.slice Ar 0 cr)) chaps_ne 1 (.string (⟨#[]⟩ : ByteArray))
  have yBgl5 := blk_far (p := ⟨g9, 1, none⟩) (blk_far (p := ⟨g9, 0, none⟩) Bgl5.out NEgl5g9.out (.slice Ar 0 cr)) NEgl5g9.out (.string (⟨#[]⟩ : ByteArray))
  have yBg9 := blk_put (blk_put (cs' := #[.slice Ar 0 cr, .string (⟨#[]⟩ : ByteArray)]) Bg9.out 0 (.slice Ar 0 cr) rfl) 1 (.string (⟨#[]⟩ : ByteArray)) (cs' := #[.slice Ar 0 cr, .string (⟨#[]⟩ : ByteArray)]) rfl
  have yHB := (HB.out.setCell (p := ⟨g9, 0, none⟩) GEg9.out (.slice Ar 0 cr)).setCell (p := ⟨g9, 1, none⟩) GEg9.out (.string (⟨#[]⟩ : ByteArray))
  clear HV0 Bg1 HVB Bgl5 Bg9 HB
  generalize ((w15.setCell ⟨g9, 0, none⟩ (.slice Ar 0 cr)).setCell ⟨g9, 1, none⟩ (.string (⟨#[]⟩ : ByteArray))) = w16 at yHV0 yBg1 yHVB yBgl5 yBg9 yHB ⊢
  have HV0 := Aside0.mk yHV0
  clear yHV0
  have Bg1 := Aside0.mk yBg1
  clear yBg1
  have HVB := Aside0.mk yHVB
  clear yHVB
  have Bgl5 := Aside0.mk yBgl5
  clear yBgl5
  have Bg9 := Aside0.mk yBg9
  clear yBg9
  have HB := Aside0.mk yHB
  clear yHB
  clear Bgl5
  clear Bg9
  go_upto_region 7 with (first | (go_at_call 17; (with_reducible refine (HP6.out _).mono ?_); rintro e w17 ⟨vr, rfl, hr, hbn⟩; clear hr; have HV0_ := Aside0.mk (Kd.R_below HV0.out hbn); clear HV0; have HV0 := HV0_; clear HV0_; have Bg1_ := Aside0.mk (blk_below Bg1.out hbn); clear Bg1; have Bg1 := Bg1_; clear Bg1_; have HVB_ := Aside0.mk (Kd.R_below HVB.out hbn); clear HVB; have HVB := HVB_; clear HVB_; have HB_ := Aside0.mk (below_step (show Below w.heap.size w w16 from HB.out) hbn); clear HB; have HB := HB_; clear HB_; clear hbn))
  (try simp only [Act.put, List.setIfInBounds_toArray, List.set_cons_zero, List.set_cons_succ])
  have kc := fun (w : World) (C : Array Value) (n c : Nat) => Lib.run_convert_bytes_const (P := Tryd.prog) w 22 5 C n c Tryd.underlying22 Tryd.underlying5
  have kcd : ∀ (w : World) (C : Array Value) (n c : Nat), (convert 22 22 (.slice (some ⟨w.heap.size, 0, none⟩) n c)).run Tryd.prog (w.alloc (.cells C 5)).drew = .ok (.slice (some ⟨w.heap.size, 0, none⟩) n c) (w.alloc (.cells C 5 (C.size, C.size + 1))).drew := fun w C n c => kc w.drew C n c
  obtain ⟨o0, o1, o2, o3, o4, o5, o6, o7, o8, o9, o10, o11, o12, o13, o14, o15, hO⟩ := out_cells (sumOf [7, 115, 118])
  have hdg := digest_cells hO
  have HS7 := Aside0.mk (show ∀ (W : World) (g : Nat), W.heap[g]? = some (.cells #[.int .u8 7, .int .u8 115, .int .u8 118] 5 (3, 4)) → Below w.heap.size w W → Calls Tryd.prog 15 #[.slice (some ⟨g, 0, none⟩) 3 3] W fun e w' => e = .returned (.agg #[.int .u8 o0, .int .u8 o1, .int .u8 o2, .int .u8 o3, .int .u8 o4, .int .u8 o5, .int .u8 o6, .int .u8 o7, .int .u8 o8, .int .u8 o9, .int .u8 o10, .int .u8 o11, .int .u8 o12, .int .u8 o13, .int .u8 o14, .int .u8 o15]) ∧ Below W.heap.size W w' from fun W g h hb => by
    rw [← hO]
    exact refsum_calls (some ⟨g, 0, none⟩) 3 [7, 115, 118] W (C_block' h rfl (by decide)) (by decide) (by decide) (by decide) (HG.out.below hb H3.out) (Nat.le_trans H3.out hb.size))
  have HAN := Aside0.mk (show ∀ (W : World) (g : Nat), W.heap[g]? = some (.cells #[.int .u8 118] 5 (1, 2)) → Calls Tryd.prog 22 #[.int .i64 7, .string (⟨#[115]⟩ : ByteArray), .slice (some ⟨g, 0, none⟩) 1 1] W fun e w' => e = .returned (.agg #[.int .u8 o0, .int .u8 o1, .int .u8 o2, .int .u8 o3, .int .u8 o4, .int .u8 o5, .int .u8 o6, .int .u8 o7, .int .u8 o8, .int .u8 o9, .int .u8 o10, .int .u8 o11, .int .u8 o12, .int .u8 o13, .int .u8 o14, .int .u8 o15]) ∧ Below W.heap.size W w' from fun W g h => by
    rw [← hO, ← ans7]
    exact answer_calls 7 (⟨#[115]⟩ : ByteArray) (some ⟨g, 0, none⟩) 1 [118] W (C_block' h rfl (by decide)) (by decide) (by decide) (by decide) (by decide))
  have HT7 := Aside0.mk (show ∀ (W : World) (g gd : Nat), W.heap[g]? = some (.cells #[.int .u8 118] 5 (1, 2)) → W.heap[gd]? = some (.cells #[.int .u8 o0, .int .u8 o1, .int .u8 o2, .int .u8 o3, .int .u8 o4, .int .u8 o5, .int .u8 o6, .int .u8 o7, .int .u8 o8, .int .u8 o9, .int .u8 o10, .int .u8 o11, .int .u8 o12, .int .u8 o13, .int .u8 o14, .int .u8 o15] 24 (0, 0)) → Calls Tryd.prog 24 #[.int .i64 7, .string (⟨#[115]⟩ : ByteArray), .slice (some ⟨g, 0, none⟩) 1 1, .slice (some ⟨gd, 0, none⟩) 16 16] W fun e w' => e = .returned (.bool true) ∧ Below W.heap.size W w' from fun W g gd h hd => by
    have hr : rightF 7 (⟨#[115]⟩ : ByteArray) [118] [o0, o1, o2, o3, o4, o5, o6, o7, o8, o9, o10, o11, o12, o13, o14, o15] = true := by rw [← hdg]; exact r7
    rw [← hr]
    exact right_calls 7 (⟨#[115]⟩ : ByteArray) (some ⟨g, 0, none⟩) 1 [118] (some ⟨gd, 0, none⟩) 16 [o0, o1, o2, o3, o4, o5, o6, o7, o8, o9, o10, o11, o12, o13, o14, o15] W (C_block' h rfl (by decide)) (by decide) (by decide) (by decide) (by decide) (C_block' hd rfl (show (16 : Nat) ≤ 9223372036854775807 by decide)) (Nat.le_refl 16))
  have HT8 := Aside0.mk (show ∀ (W : World) (g gd : Nat), W.heap[g]? = some (.cells #[.int .u8 118] 5 (1, 2)) → W.heap[gd]? = some (.cells #[.int .u8 o0, .int .u8 o1, .int .u8 o2, .int .u8 o3, .int .u8 o4, .int .u8 o5, .int .u8 o6, .int .u8 o7, .int .u8 o8, .int .u8 o9, .int .u8 o10, .int .u8 o11, .int .u8 o12, .int .u8 o13, .int .u8 o14, .int .u8 o15] 24 (0, 0)) → Calls Tryd.prog 24 #[.int .i64 8, .string (⟨#[115]⟩ : ByteArray), .slice (some ⟨g, 0, none⟩) 1 1, .slice (some ⟨gd, 0, none⟩) 16 16] W fun e w' => e = .returned (.bool false) ∧ Below W.heap.size W w' from fun W g gd h hd => by
    have hr : rightF 8 (⟨#[115]⟩ : ByteArray) [118] [o0, o1, o2, o3, o4, o5, o6, o7, o8, o9, o10, o11, o12, o13, o14, o15] = false := by rw [← hdg]; exact r8
    rw [← hr]
    exact right_calls 8 (⟨#[115]⟩ : ByteArray) (some ⟨g, 0, none⟩) 1 [118] (some ⟨gd, 0, none⟩) 16 [o0, o1, o2, o3, o4, o5, o6, o7, o8, o9, o10, o11, o12, o13, o14, o15] W (C_block' h rfl (by decide)) (by decide) (by decide) (by decide) (by decide) (C_block' hd rfl (show (16 : Nat) ≤ 9223372036854775807 by decide)) (Nat.le_refl 16))
  have heq : ∀ W, (binOp .eql 24 (.agg #[.int .u8 o0, .int .u8 o1, .int .u8 o2, .int .u8 o3, .int .u8 o4, .int .u8 o5, .int .u8 o6, .int .u8 o7, .int .u8 o8, .int .u8 o9, .int .u8 o10, .int .u8 o11, .int .u8 o12, .int .u8 o13, .int .u8 o14, .int .u8 o15]) (.agg #[.int .u8 o0, .int .u8 o1, .int .u8 o2, .int .u8 o3, .int .u8 o4, .int .u8 o5, .int .u8 o6, .int .u8 o7, .int .u8 o8, .int .u8 o9, .int .u8 o10, .int .u8 o11, .int .u8 o12, .int .u8 o13, .int .u8 o14, .int .u8 o15])).run Tryd.prog W = .ok (.bool true) W := by rw [← hO]; exact eq_out _
  have HCV0 := Aside0.mk (show ∀ (W : World) (b : Nat), Kd.R (Kd.int .u8) 5 W b (fun _ => True) (.slice A0 3 c0) [1, 2, 3] → (convert 22 9 (.slice A0 3 c0)).run Tryd.prog W = .ok (.string (⟨#[1, 2, 3]⟩ : ByteArray)) W from fun W b h => own_string Tryd.underlying22 Tryd.underlying5 Tryd.underlying9 (Kd.own_of_R h))
  have HCVB := Aside0.mk (show ∀ (W : World) (b : Nat), Kd.R (Kd.int .u8) 5 W b (fun _ => True) (.slice Ab 6 cb) [3, 1, 2, 3, 97, 98] → (convert 22 9 (.slice Ab 6 cb)).run Tryd.prog W = .ok (.string (⟨#[3, 1, 2, 3, 97, 98]⟩ : ByteArray)) W from fun W b h => own_string Tryd.underlying22 Tryd.underlying5 Tryd.underlying9 (Kd.own_of_R h))
  clear hO hdg HR1 HR3 HR4 HR5 HP2 HP6 HC0
  go_upto_region 8 with (first | (go_at_call 15; (with_reducible refine (HS7.out _ w17.heap.size (blk_new _ _) (below_alloc HB.out _)).mono ?_); rintro e w18 ⟨rfl, hbn⟩; have HV0_ := Aside0.mk (Kd.R_below (Kd.R_alloc HV0.out _) hbn); clear HV0; have HV0 := HV0_; clear HV0_; have Bg1_ := Aside0.mk (blk_below (blk_alloc Bg1.out _) hbn); clear Bg1; have Bg1 := Bg1_; clear Bg1_; have HVB_ := Aside0.mk (Kd.R_below (Kd.R_alloc HVB.out _) hbn); clear HVB; have HVB := HVB_; clear HVB_; have HB_ := Aside0.mk (below_step (below_alloc HB.out _) hbn); clear HB; have HB := HB_; clear HB_; clear hbn) | ((with_reducible refine gate_dst (N := 13) rfl ?_); refine' box_event ?hg (N := 13) ?hd (t := 24) ?hr ?_; (case hd => rfl); (case hg => rfl); (case hr => first | (go_simp; done) | (go_simp; rfl)); intro g13 hgn w19 hbox hbn; have NEg1g13 := Aside0.mk (show g1 ≠ g13 from Nat.ne_of_lt (Nat.lt_of_lt_of_eq (blk_lt Bg1.out) hgn.symm)); have GEg13 := Aside0.mk (show w.heap.size ≤ g13 from Nat.le_trans (below_size (show Below w.heap.size w w18 from HB.out)) (Nat.le_of_eq hgn.symm)); have HV0_ := Aside0.mk (Kd.R_below HV0.out hbn); clear HV0; have HV0 := HV0_; clear HV0_; have Bg1_ := Aside0.mk (blk_below Bg1.out hbn); clear Bg1; have Bg1 := Bg1_; clear Bg1_; have HVB_ := Aside0.mk (Kd.R_below HVB.out hbn); clear HVB; have HVB := HVB_; clear HVB_; have HB_ := Aside0.mk (below_step (show Below w.heap.size w w18 from HB.out) hbn); clear HB; have HB := HB_; clear HB_; have Bg13 := Aside0.mk hbox; clear hbox hbn hgn; have y0 := (blk_cell Bg13.out 0).trans (rfl : _ = some (Value.int .u8 0)); have f0 := blk_frozen Bg13.out 0; have y1 := (blk_cell Bg13.out 1).trans (rfl : _ = some (Value.int .u8 0)); have f1 := blk_frozen Bg13.out 1; have y2 := (blk_cell Bg13.out 2).trans (rfl : _ = some (Value.int .u8 0)); have f2 := blk_frozen Bg13.out 2; have y3 := (blk_cell Bg13.out 3).trans (rfl : _ = some (Value.int .u8 0)); have f3 := blk_frozen Bg13.out 3; have y4 := (blk_cell Bg13.out 4).trans (rfl : _ = some (Value.int .u8 0)); have f4 := blk_frozen Bg13.out 4; have y5 := (blk_cell Bg13.out 5).trans (rfl : _ = some (Value.int .u8 0)); have f5 := blk_frozen Bg13.out 5; have y6 := (blk_cell Bg13.out 6).trans (rfl : _ = some (Value.int .u8 0)); have f6 := blk_frozen Bg13.out 6; have y7 := (blk_cell Bg13.out 7).trans (rfl : _ = some (Value.int .u8 0)); have f7 := blk_frozen Bg13.out 7; have y8 := (blk_cell Bg13.out 8).trans (rfl : _ = some (Value.int .u8 0)); have f8 := blk_frozen Bg13.out 8; have y9 := (blk_cell Bg13.out 9).trans (rfl : _ = some (Value.int .u8 0)); have f9 := blk_frozen Bg13.out 9; have y10 := (blk_cell Bg13.out 10).trans (rfl : _ = some (Value.int .u8 0)); have f10 := blk_frozen Bg13.out 10; have y11 := (blk_cell Bg13.out 11).trans (rfl : _ = some (Value.int .u8 0)); have f11 := blk_frozen Bg13.out 11; have y12 := (blk_cell Bg13.out 12).trans (rfl : _ = some (Value.int .u8 0)); have f12 := blk_frozen Bg13.out 12; have y13 := (blk_cell Bg13.out 13).trans (rfl : _ = some (Value.int .u8 0)); have f13 := blk_frozen Bg13.out 13; have y14 := (blk_cell Bg13.out 14).trans (rfl : _ = some (Value.int .u8 0)); have f14 := blk_frozen Bg13.out 14; have y15 := (blk_cell Bg13.out 15).trans (rfl : _ = some (Value.int .u8 0)); have f15 := blk_frozen Bg13.out 15))
  (try simp only [Act.put, List.setIfInBounds_toArray, List.set_cons_zero, List.set_cons_succ])
  have yD := set16_row Bg13.out (.int .u8 o0) (.int .u8 o1) (.int .u8 o2) (.int .u8 o3) (.int .u8 o4) (.int .u8 o5) (.int .u8 o6) (.int .u8 o7) (.int .u8 o8) (.int .u8 o9) (.int .u8 o10) (.int .u8 o11) (.int .u8 o12) (.int .u8 o13) (.int .u8 o14) (.int .u8 o15)
  have yB := set16_below HB.out GEg13.out (.int .u8 o0) (.int .u8 o1) (.int .u8 o2) (.int .u8 o3) (.int .u8 o4) (.int .u8 o5) (.int .u8 o6) (.int .u8 o7) (.int .u8 o8) (.int .u8 o9) (.int .u8 o10) (.int .u8 o11) (.int .u8 o12) (.int .u8 o13) (.int .u8 o14) (.int .u8 o15)
  have y1_ := (set16_other w19 g13 g1 NEg1g13.out (.int .u8 o0) (.int .u8 o1) (.int .u8 o2) (.int .u8 o3) (.int .u8 o4) (.int .u8 o5) (.int .u8 o6) (.int .u8 o7) (.int .u8 o8) (.int .u8 o9) (.int .u8 o10) (.int .u8 o11) (.int .u8 o12) (.int .u8 o13) (.int .u8 o14) (.int .u8 o15)).trans Bg1.out
  have yV := (Kd.R_set (Kd.R_set (Kd.R_set (Kd.R_set (Kd.R_set (Kd.R_set (Kd.R_set (Kd.R_set (Kd.R_set (Kd.R_set (Kd.R_set (Kd.R_set (Kd.R_set (Kd.R_set (Kd.R_set (Kd.R_set HV0.out Bg13.out arr_ne 0 (.int .u8 o0)) (blk_set Bg13.out 0 (.int .u8 o0)) arr_ne 1 (.int .u8 o1)) (blk_set (blk_set Bg13.out 0 (.int .u8 o0)) 1 (.int .u8 o1)) arr_ne 2 (.int .u8 o2)) (blk_set (blk_set (blk_set Bg13.out 0 (.int .u8 o0)) 1 (.int .u8 o1)) 2 (.int .u8 o2)) arr_ne 3 (.int .u8 o3)) (blk_set (blk_set (blk_set (blk_set Bg13.out 0 (.int .u8 o0)) 1 (.int .u8 o1)) 2 (.int .u8 o2)) 3 (.int .u8 o3)) arr_ne 4 (.int .u8 o4)) (blk_set (blk_set (blk_set (blk_set (blk_set Bg13.out 0 (.int .u8 o0)) 1 (.int .u8 o1)) 2 (.int .u8 o2)) 3 (.int .u8 o3)) 4 (.int .u8 o4)) arr_ne 5 (.int .u8 o5)) (blk_set (blk_set (blk_set (blk_set (blk_set (blk_set Bg13.out 0 (.int .u8 o0)) 1 (.int .u8 o1)) 2 (.int .u8 o2)) 3 (.int .u8 o3)) 4 (.int .u8 o4)) 5 (.int .u8 o5)) arr_ne 6 (.int .u8 o6)) (blk_set (blk_set (blk_set (blk_set (blk_set (blk_set (blk_set Bg13.out 0 (.int .u8 o0)) 1 (.int .u8 o1)) 2 (.int .u8 o2)) 3 (.int .u8 o3)) 4 (.int .u8 o4)) 5 (.int .u8 o5)) 6 (.int .u8 o6)) arr_ne 7 (.int .u8 o7)) (blk_set (blk_set (blk_set (blk_set (blk_set (blk_set (blk_set (blk_set Bg13.out 0 (.int .u8 o0)) 1 (.int .u8 o1)) 2 (.int .u8 o2)) 3 (.int .u8 o3)) 4 (.int .u8 o4)) 5 (.int .u8 o5)) 6 (.int .u8 o6)) 7 (.int .u8 o7)) arr_ne 8 (.int .u8 o8)) (blk_set (blk_set (blk_set (blk_set (blk_set (blk_set (blk_set (blk_set (blk_set Bg13.out 0 (.int .u8 o0)) 1 (.int .u8 o1)) 2 (.int .u8 o2)) 3 (.int .u8 o3)) 4 (.int .u8 o4)) 5 (.int .u8 o5)) 6 (.int .u8 o6)) 7 (.int .u8 o7)) 8 (.int .u8 o8)) arr_ne 9 (.int .u8 o9)) (blk_set (blk_set (blk_set (blk_set (blk_set (blk_set (blk_set (blk_set (blk_set (blk_set Bg13.out 0 (.int .u8 o0)) 1 (.int .u8 o1)) 2 (.int .u8 o2)) 3 (.int .u8 o3)) 4 (.int .u8 o4)) 5 (.int .u8 o5)) 6 (.int .u8 o6)) 7 (.int .u8 o7)) 8 (.int .u8 o8)) 9 (.int .u8 o9)) arr_ne 10 (.int .u8 o10)) (blk_set (blk_set (blk_set (blk_set (blk_set (blk_set (blk_set (blk_set (blk_set (blk_set (blk_set Bg13.out 0 (.int .u8 o0)) 1 (.int .u8 o1)) 2 (.int .u8 o2)) 3 (.int .u8 o3)) 4 (.int .u8 o4)) 5 (.int .u8 o5)) 6 (.int .u8 o6)) 7 (.int .u8 o7)) 8 (.int .u8 o8)) 9 (.int .u8 o9)) 10 (.int .u8 o10)) arr_ne 11 (.int .u8 o11)) (blk_set (blk_set (blk_set (blk_set (blk_set (blk_set (blk_set (blk_set (blk_set (blk_set (blk_set (blk_set Bg13.out 0 (.int .u8 o0)) 1 (.int .u8 o1)) 2 (.int .u8 o2)) 3 (.int .u8 o3)) 4 (.int .u8 o4)) 5 (.int .u8 o5)) 6 (.int .u8 o6)) 7 (.int .u8 o7)) 8 (.int .u8 o8)) 9 (.int .u8 o9)) 10 (.int .u8 o10)) 11 (.int .u8 o11)) arr_ne 12 (.int .u8 o12)) (blk_set (blk_set (blk_set (blk_set (blk_set (blk_set (blk_set (blk_set (blk_set (blk_set (blk_set (blk_set (blk_set Bg13.out 0 (.int .u8 o0)) 1 (.int .u8 o1)) 2 (.int .u8 o2)) 3 (.int .u8 o3)) 4 (.int .u8 o4)) 5 (.int .u8 o5)) 6 (.int .u8 o6)) 7 (.int .u8 o7)) 8 (.int .u8 o8)) 9 (.int .u8 o9)) 10 (.int .u8 o10)) 11 (.int .u8 o11)) 12 (.int .u8 o12)) arr_ne 13 (.int .u8 o13)) (blk_set (blk_set (blk_set (blk_set (blk_set (blk_set (blk_set (blk_set (blk_set (blk_set (blk_set (blk_set (blk_set (blk_set Bg13.out 0 (.int .u8 o0)) 1 (.int .u8 o1)) 2 (.int .u8 o2)) 3 (.int .u8 o3)) 4 (.int .u8 o4)) 5 (.int .u8 o5)) 6 (.int .u8 o6)) 7 (.int .u8 o7)) 8 (.int .u8 o8)) 9 (.int .u8 o9)) 10 (.int .u8 o10)) 11 (.int .u8 o11)) 12 (.int .u8 o12)) 13 (.int .u8 o13)) arr_ne 14 (.int .u8 o14)) (blk_set (blk_set (blk_set (blk_set (blk_set (blk_set (blk_set (blk_set (blk_set (blk_set (blk_set (blk_set (blk_set (blk_set (blk_set Bg13.out 0 (.int .u8 o0)) 1 (.int .u8 o1)) 2 (.int .u8 o2)) 3 (.int .u8 o3)) 4 (.int .u8 o4)) 5 (.int .u8 o5)) 6 (.int .u8 o6)) 7 (.int .u8 o7)) 8 (.int .u8 o8)) 9 (.int .u8 o9)) 10 (.int .u8 o10)) 11 (.int .u8 o11)) 12 (.int .u8 o12)) 13 (.int .u8 o13)) 14 (.int .u8 o14)) arr_ne 15 (.int .u8 o15))
  have yW := (Kd.R_set (Kd.R_set (Kd.R_set (Kd.R_set (Kd.R_set (Kd.R_set (Kd.R_set (Kd.R_set (Kd.R_set (Kd.R_set (Kd.R_set (Kd.R_set (Kd.R_set (Kd.R_set (Kd.R_set (Kd.R_set HVB.out Bg13.out arr_ne 0 (.int .u8 o0)) (blk_set Bg13.out 0 (.int .u8 o0)) arr_ne 1 (.int .u8 o1)) (blk_set (blk_set Bg13.out 0 (.int .u8 o0)) 1 (.int .u8 o1)) arr_ne 2 (.int .u8 o2)) (blk_set (blk_set (blk_set Bg13.out 0 (.int .u8 o0)) 1 (.int .u8 o1)) 2 (.int .u8 o2)) arr_ne 3 (.int .u8 o3)) (blk_set (blk_set (blk_set (blk_set Bg13.out 0 (.int .u8 o0)) 1 (.int .u8 o1)) 2 (.int .u8 o2)) 3 (.int .u8 o3)) arr_ne 4 (.int .u8 o4)) (blk_set (blk_set (blk_set (blk_set (blk_set Bg13.out 0 (.int .u8 o0)) 1 (.int .u8 o1)) 2 (.int .u8 o2)) 3 (.int .u8 o3)) 4 (.int .u8 o4)) arr_ne 5 (.int .u8 o5)) (blk_set (blk_set (blk_set (blk_set (blk_set (blk_set Bg13.out 0 (.int .u8 o0)) 1 (.int .u8 o1)) 2 (.int .u8 o2)) 3 (.int .u8 o3)) 4 (.int .u8 o4)) 5 (.int .u8 o5)) arr_ne 6 (.int .u8 o6)) (blk_set (blk_set (blk_set (blk_set (blk_set (blk_set (blk_set Bg13.out 0 (.int .u8 o0)) 1 (.int .u8 o1)) 2 (.int .u8 o2)) 3 (.int .u8 o3)) 4 (.int .u8 o4)) 5 (.int .u8 o5)) 6 (.int .u8 o6)) arr_ne 7 (.int .u8 o7)) (blk_set (blk_set (blk_set (blk_set (blk_set (blk_set (blk_set (blk_set Bg13.out 0 (.int .u8 o0)) 1 (.int .u8 o1)) 2 (.int .u8 o2)) 3 (.int .u8 o3)) 4 (.int .u8 o4)) 5 (.int .u8 o5)) 6 (.int .u8 o6)) 7 (.int .u8 o7)) arr_ne 8 (.int .u8 o8)) (blk_set (blk_set (blk_set (blk_set (blk_set (blk_set (blk_set (blk_set (blk_set Bg13.out 0 (.int .u8 o0)) 1 (.int .u8 o1)) 2 (.int .u8 o2)) 3 (.int .u8 o3)) 4 (.int .u8 o4)) 5 (.int .u8 o5)) 6 (.int .u8 o6)) 7 (.int .u8 o7)) 8 (.int .u8 o8)) arr_ne 9 (.int .u8 o9)) (blk_set (blk_set (blk_set (blk_set (blk_set (blk_set (blk_set (blk_set (blk_set (blk_set Bg13.out 0 (.int .u8 o0)) 1 (.int .u8 o1)) 2 (.int .u8 o2)) 3 (.int .u8 o3)) 4 (.int .u8 o4)) 5 (.int .u8 o5)) 6 (.int .u8 o6)) 7 (.int .u8 o7)) 8 (.int .u8 o8)) 9 (.int .u8 o9)) arr_ne 10 (.int .u8 o10)) (blk_set (blk_set (blk_set (blk_set (blk_set (blk_set (blk_set (blk_set (blk_set (blk_set (blk_set Bg13.out 0 (.int .u8 o0)) 1 (.int .u8 o1)) 2 (.int .u8 o2)) 3 (.int .u8 o3)) 4 (.int .u8 o4)) 5 (.int .u8 o5)) 6 (.int .u8 o6)) 7 (.int .u8 o7)) 8 (.int .u8 o8)) 9 (.int .u8 o9)) 10 (.int .u8 o10)) arr_ne 11 (.int .u8 o11)) (blk_set (blk_set (blk_set (blk_set (blk_set (blk_set (blk_set (blk_set (blk_set (blk_set (blk_set (blk_set Bg13.out 0 (.int .u8 o0)) 1 (.int .u8 o1)) 2 (.int .u8 o2)) 3 (.int .u8 o3)) 4 (.int .u8 o4)) 5 (.int .u8 o5)) 6 (.int .u8 o6)) 7 (.int .u8 o7)) 8 (.int .u8 o8)) 9 (.int .u8 o9)) 10 (.int .u8 o10)) 11 (.int .u8 o11)) arr_ne 12 (.int .u8 o12)) (blk_set (blk_set (blk_set (blk_set (blk_set (blk_set (blk_set (blk_set (blk_set (blk_set (blk_set (blk_set (blk_set Bg13.out 0 (.int .u8 o0)) 1 (.int .u8 o1)) 2 (.int .u8 o2)) 3 (.int .u8 o3)) 4 (.int .u8 o4)) 5 (.int .u8 o5)) 6 (.int .u8 o6)) 7 (.int .u8 o7)) 8 (.int .u8 o8)) 9 (.int .u8 o9)) 10 (.int .u8 o10)) 11 (.int .u8 o11)) 12 (.int .u8 o12)) arr_ne 13 (.int .u8 o13)) (blk_set (blk_set (blk_set (blk_set (blk_set (blk_set (blk_set (blk_set (blk_set (blk_set (blk_set (blk_set (blk_set (blk_set Bg13.out 0 (.int .u8 o0)) 1 (.int .u8 o1)) 2 (.int .u8 o2)) 3 (.int .u8 o3)) 4 (.int .u8 o4)) 5 (.int .u8 o5)) 6 (.int .u8 o6)) 7 (.int .u8 o7)) 8 (.int .u8 o8)) 9 (.int .u8 o9)) 10 (.int .u8 o10)) 11 (.int .u8 o11)) 12 (.int .u8 o12)) 13 (.int .u8 o13)) arr_ne 14 (.int .u8 o14)) (blk_set (blk_set (blk_set (blk_set (blk_set (blk_set (blk_set (blk_set (blk_set (blk_set (blk_set (blk_set (blk_set (blk_set (blk_set Bg13.out 0 (.int .u8 o0)) 1 (.int .u8 o1)) 2 (.int .u8 o2)) 3 (.int .u8 o3)) 4 (.int .u8 o4)) 5 (.int .u8 o5)) 6 (.int .u8 o6)) 7 (.int .u8 o7)) 8 (.int .u8 o8)) 9 (.int .u8 o9)) 10 (.int .u8 o10)) 11 (.int .u8 o11)) 12 (.int .u8 o12)) 13 (.int .u8 o13)) 14 (.int .u8 o14)) arr_ne 15 (.int .u8 o15))
  clear HB Bg13 Bg1 HV0 HVB HQ0 y0 f0 y1 f1 y2 f2 y3 f3 y4 f4 y5 f5 y6 f6 y7 f7 y8 f8 y9 f9 y10 f10 y11 f11 y12 f12 y13 f13 y14 f14 y15 f15
  change (World.heap ((((((((((((((((w19.setCell ⟨g13, 0, none⟩ (.int .u8 o0)).setCell ⟨g13, 1, none⟩ (.int .u8 o1)).setCell ⟨g13, 2, none⟩ (.int .u8 o2)).setCell ⟨g13, 3, none⟩ (.int .u8 o3)).setCell ⟨g13, 4, none⟩ (.int .u8 o4)).setCell ⟨g13, 5, none⟩ (.int .u8 o5)).setCell ⟨g13, 6, none⟩ (.int .u8 o6)).setCell ⟨g13, 7, none⟩ (.int .u8 o7)).setCell ⟨g13, 8, none⟩ (.int .u8 o8)).setCell ⟨g13, 9, none⟩ (.int .u8 o9)).setCell ⟨g13, 10, none⟩ (.int .u8 o10)).setCell ⟨g13, 11, none⟩ (.int .u8 o11)).setCell ⟨g13, 12, none⟩ (.int .u8 o12)).setCell ⟨g13, 13, none⟩ (.int .u8 o13)).setCell ⟨g13, 14, none⟩ (.int .u8 o14)).setCell ⟨g13, 15, none⟩ (.int .u8 o15)))[g13]? = _ at yD
  change Below _ _ ((((((((((((((((w19.setCell ⟨g13, 0, none⟩ (.int .u8 o0)).setCell ⟨g13, 1, none⟩ (.int .u8 o1)).setCell ⟨g13, 2, none⟩ (.int .u8 o2)).setCell ⟨g13, 3, none⟩ (.int .u8 o3)).setCell ⟨g13, 4, none⟩ (.int .u8 o4)).setCell ⟨g13, 5, none⟩ (.int .u8 o5)).setCell ⟨g13, 6, none⟩ (.int .u8 o6)).setCell ⟨g13, 7, none⟩ (.int .u8 o7)).setCell ⟨g13, 8, none⟩ (.int .u8 o8)).setCell ⟨g13, 9, none⟩ (.int .u8 o9)).setCell ⟨g13, 10, none⟩ (.int .u8 o10)).setCell ⟨g13, 11, none⟩ (.int .u8 o11)).setCell ⟨g13, 12, none⟩ (.int .u8 o12)).setCell ⟨g13, 13, none⟩ (.int .u8 o13)).setCell ⟨g13, 14, none⟩ (.int .u8 o14)).setCell ⟨g13, 15, none⟩ (.int .u8 o15)) at yB
  change (World.heap ((((((((((((((((w19.setCell ⟨g13, 0, none⟩ (.int .u8 o0)).setCell ⟨g13, 1, none⟩ (.int .u8 o1)).setCell ⟨g13, 2, none⟩ (.int .u8 o2)).setCell ⟨g13, 3, none⟩ (.int .u8 o3)).setCell ⟨g13, 4, none⟩ (.int .u8 o4)).setCell ⟨g13, 5, none⟩ (.int .u8 o5)).setCell ⟨g13, 6, none⟩ (.int .u8 o6)).setCell ⟨g13, 7, none⟩ (.int .u8 o7)).setCell ⟨g13, 8, none⟩ (.int .u8 o8)).setCell ⟨g13, 9, none⟩ (.int .u8 o9)).setCell ⟨g13, 10, none⟩ (.int .u8 o10)).setCell ⟨g13, 11, none⟩ (.int .u8 o11)).setCell ⟨g13, 12, none⟩ (.int .u8 o12)).setCell ⟨g13, 13, none⟩ (.int .u8 o13)).setCell ⟨g13, 14, none⟩ (.int .u8 o14)).setCell ⟨g13, 15, none⟩ (.int .u8 o15)))[g1]? = _ at y1_
  generalize ((((((((((((((((w19.setCell ⟨g13, 0, none⟩ (.int .u8 o0)).setCell ⟨g13, 1, none⟩ (.int .u8 o1)).setCell ⟨g13, 2, none⟩ (.int .u8 o2)).setCell ⟨g13, 3, none⟩ (.int .u8 o3)).setCell ⟨g13, 4, none⟩ (.int .u8 o4)).setCell ⟨g13, 5, none⟩ (.int .u8 o5)).setCell ⟨g13, 6, none⟩ (.int .u8 o6)).setCell ⟨g13, 7, none⟩ (.int .u8 o7)).setCell ⟨g13, 8, none⟩ (.int .u8 o8)).setCell ⟨g13, 9, none⟩ (.int .u8 o9)).setCell ⟨g13, 10, none⟩ (.int .u8 o10)).setCell ⟨g13, 11, none⟩ (.int .u8 o11)).setCell ⟨g13, 12, none⟩ (.int .u8 o12)).setCell ⟨g13, 13, none⟩ (.int .u8 o13)).setCell ⟨g13, 14, none⟩ (.int .u8 o14)).setCell ⟨g13, 15, none⟩ (.int .u8 o15)) = wz at yD yB y1_ yV yW ⊢
  have Bg13 := Aside0.mk yD
  have HB := Aside0.mk yB
  have Bg1 := Aside0.mk y1_
  have HV0 := Aside0.mk yV
  have HVB := Aside0.mk yW
  clear yD yB y1_ yV yW
  refine start_ (n := 59) (S := fun w' => w'.cell? ⟨g1, 0, none⟩ = some (.slice A0 3 c0) ∧ w'.cell? ⟨g1, 1, none⟩ = some (.string (⟨#[97, 98]⟩ : ByteArray)) ∧ (convert 22 9 (.slice A0 3 c0)).run Tryd.prog w' = .ok (.string (⟨#[1, 2, 3]⟩ : ByteArray)) w' ∧ (convert 22 9 (.slice Ab 6 cb)).run Tryd.prog w' = .ok (.string (⟨#[3, 1, 2, 3, 97, 98]⟩ : ByteArray)) w' ∧ w'.cell? ⟨g13, 0, none⟩ = some (.int .u8 o0) ∧ w'.cell? ⟨g13, 1, none⟩ = some (.int .u8 o1) ∧ w'.cell? ⟨g13, 2, none⟩ = some (.int .u8 o2) ∧ w'.cell? ⟨g13, 3, none⟩ = some (.int .u8 o3) ∧ w'.cell? ⟨g13, 4, none⟩ = some (.int .u8 o4) ∧ w'.cell? ⟨g13, 5, none⟩ = some (.int .u8 o5) ∧ w'.cell? ⟨g13, 6, none⟩ = some (.int .u8 o6) ∧ w'.cell? ⟨g13, 7, none⟩ = some (.int .u8 o7) ∧ w'.cell? ⟨g13, 8, none⟩ = some (.int .u8 o8) ∧ w'.cell? ⟨g13, 9, none⟩ = some (.int .u8 o9) ∧ w'.cell? ⟨g13, 10, none⟩ = some (.int .u8 o10) ∧ w'.cell? ⟨g13, 11, none⟩ = some (.int .u8 o11) ∧ w'.cell? ⟨g13, 12, none⟩ = some (.int .u8 o12) ∧ w'.cell? ⟨g13, 13, none⟩ = some (.int .u8 o13) ∧ w'.cell? ⟨g13, 14, none⟩ = some (.int .u8 o14) ∧ w'.cell? ⟨g13, 15, none⟩ = some (.int .u8 o15)) (ds := []) #[false, false, false, false, false, false, false, false, false, false, false, false, false, false, false, false, false, false, false, false, false, false, false, false, false, false, false, false, false, false, false, false, false, false, false, false, false, false, false, false, false, false, false, false, false, false, false, false, false, false, false, false, false, false, false, false, false, false, false] (by as_aux_lemma => kernel_rfl) rfl rfl ⟨(cell2 (blk_drew Bg1.out)).1, (cell2 (blk_drew Bg1.out)).2.1, (HCV0.out _ _ (Kd.R_drew HV0.out)), (HCVB.out _ _ (Kd.R_drew HVB.out)), ((blk_cell (blk_drew Bg13.out) 0).trans rfl), ((blk_cell (blk_drew Bg13.out) 1).trans rfl), ((blk_cell (blk_drew Bg13.out) 2).trans rfl), ((blk_cell (blk_drew Bg13.out) 3).trans rfl), ((blk_cell (blk_drew Bg13.out) 4).trans rfl), ((blk_cell (blk_drew Bg13.out) 5).trans rfl), ((blk_cell (blk_drew Bg13.out) 6).trans rfl), ((blk_cell (blk_drew Bg13.out) 7).trans rfl), ((blk_cell (blk_drew Bg13.out) 8).trans rfl), ((blk_cell (blk_drew Bg13.out) 9).trans rfl), ((blk_cell (blk_drew Bg13.out) 10).trans rfl), ((blk_cell (blk_drew Bg13.out) 11).trans rfl), ((blk_cell (blk_drew Bg13.out) 12).trans rfl), ((blk_cell (blk_drew Bg13.out) 13).trans rfl), ((blk_cell (blk_drew Bg13.out) 14).trans rfl), ((blk_cell (blk_drew Bg13.out) 15).trans rfl)⟩ (fun hHeld => ?_)
  refine pure_ (i := 0) (N := some 46) (v := ?_) (a' := ?_) #[true, false, false, false, false, false, false, false, false, false, false, false, false, false, false, false, false, false, false, false, false, false, false, false, false, false, false, false, false, false, false, false, false, false, false, false, false, false, false, false, false, false, false, false, false, false, false, false, false, false, false, false, false, false, false, false, false, false, false] rfl rfl (by as_aux_lemma => kernel_rfl) (fun _ _ _ h => h) (Or.inl ⟨by rfl, ?_⟩) ?_ ?_
  rotate_left
  · intro w'
    go_simp
    with_reducible rfl
  rotate_left
  · simp only [Act.put, List.setIfInBounds_toArray, List.set_cons_zero, List.set_cons_succ, i64_w, i32_w]
    rfl
  refine pure_ (i := 1) (N := some 47) (v := ?_) (a' := ?_) #[true, true, false, false, false, false, false, false, false, false, false, false, false, false, false, false, false, false, false, false, false, false, false, false, false, false, false, false, false, false, false, false, false, false, false, false, false, false, false, false, false, false, false, false, false, false, false, false, false, false, false, false, false, false, false, false, false, false, false] rfl rfl (by as_aux_lemma => kernel_rfl) (fun _ _ _ h => h) (Or.inl ⟨by rfl, ?_⟩) ?_ ?_
  rotate_left
  · intro w'
    go_simp
    with_reducible rfl
  rotate_left
  · simp only [Act.put, List.setIfInBounds_toArray, List.set_cons_zero, List.set_cons_succ, i64_w, i32_w]
    rfl
  refine pure_ (i := 2) (N := some 48) (v := ?_) (a' := ?_) #[true, true, true, false, false, false, false, false, false, false, false, false, false, false, false, false, false, false, false, false, false, false, false, false, false, false, false, false, false, false, false, false, false, false, false, false, false, false, false, false, false, false, false, false, false, false, false, false, false, false, false, false, false, false, false, false, false, false, false] rfl rfl (by as_aux_lemma => kernel_rfl) (fun _ _ _ h => h) (Or.inl ⟨by rfl, ?_⟩) ?_ ?_
  rotate_left
  · intro w'
    go_simp
    with_reducible rfl
  rotate_left
  · simp only [Act.put, List.setIfInBounds_toArray, List.set_cons_zero, List.set_cons_succ, i64_w, i32_w]
    rfl
  refine pure_ (i := 3) (N := some 49) (v := ?_) (a' := ?_) #[true, true, true, true, false, false, false, false, false, false, false, false, false, false, false, false, false, false, false, false, false, false, false, false, false, false, false, false, false, false, false, false, false, false, false, false, false, false, false, false, false, false, false, false, false, false, false, false, false, false, false, false, false, false, false, false, false, false, false] rfl rfl (by as_aux_lemma => kernel_rfl) (fun _ _ _ h => h) (Or.inl ⟨by rfl, ?_⟩) ?_ ?_
  rotate_left
  · intro w'
    go_simp
    with_reducible rfl
  rotate_left
  · simp only [Act.put, List.setIfInBounds_toArray, List.set_cons_zero, List.set_cons_succ, i64_w, i32_w]
    rfl
  refine take_ (i := 4) (N := some 50) (v := ?_) (a' := ?_) #[true, true, true, true, true, false, false, false, false, false, false, false, false, false, false, false, false, false, false, false, false, false, false, false, false, false, false, false, false, false, false, false, false, false, false, false, false, false, false, false, false, false, false, false, false, false, false, false, false, false, false, false, false, false, false, false, false, false, false] rfl rfl (by as_aux_lemma => kernel_rfl) (fun _ _ _ h => h) (Or.inl ⟨by rfl, ?_⟩) hHeld ?_ ?_
  rotate_left
  · rintro w' ⟨s0, s1, s2, s3, s4, s5, s6, s7, s8, s9, s10, s11, s12, s13, s14, s15, s16, s17, s18, s19⟩
    go_simp
    with_reducible rfl
  rotate_left
  · simp only [Act.put, List.setIfInBounds_toArray, List.set_cons_zero, List.set_cons_succ, i64_w, i32_w]
    rfl
  refine take_ (i := 5) (N := some 51) (v := ?_) (a' := ?_) #[true, true, true, true, true, true, false, false, false, false, false, false, false, false, false, false, false, false, false, false, false, false, false, false, false, false, false, false, false, false, false, false, false, false, false, false, false, false, false, false, false, false, false, false, false, false, false, false, false, false, false, false, false, false, false, false, false, false, false] rfl rfl (by as_aux_lemma => kernel_rfl) (fun _ _ _ h => h) (Or.inl ⟨by rfl, ?_⟩) hHeld ?_ ?_
  rotate_left
  · rintro w' ⟨s0, s1, s2, s3, s4, s5, s6, s7, s8, s9, s10, s11, s12, s13, s14, s15, s16, s17, s18, s19⟩
    go_simp
    with_reducible rfl
  rotate_left
  · simp only [Act.put, List.setIfInBounds_toArray, List.set_cons_zero, List.set_cons_succ, i64_w, i32_w]
    rfl
  refine pure_ (i := 6) (N := some 52) (v := ?_) (a' := ?_) #[true, true, true, true, true, true, true, false, false, false, false, false, false, false, false, false, false, false, false, false, false, false, false, false, false, false, false, false, false, false, false, false, false, false, false, false, false, false, false, false, false, false, false, false, false, false, false, false, false, false, false, false, false, false, false, false, false, false, false] rfl rfl (by as_aux_lemma => kernel_rfl) (fun _ _ _ h => h) (Or.inl ⟨by rfl, ?_⟩) ?_ ?_
  rotate_left
  · intro w'
    go_simp
    with_reducible rfl
  rotate_left
  · simp only [Act.put, List.setIfInBounds_toArray, List.set_cons_zero, List.set_cons_succ, i64_w, i32_w]
    rfl
  refine pure_ (i := 7) (N := some 53) (v := ?_) (a' := ?_) #[true, true, true, true, true, true, true, true, false, false, false, false, false, false, false, false, false, false, false, false, false, false, false, false, false, false, false, false, false, false, false, false, false, false, false, false, false, false, false, false, false, false, false, false, false, false, false, false, false, false, false, false, false, false, false, false, false, false, false] rfl rfl (by as_aux_lemma => kernel_rfl) (fun _ _ _ h => h) (Or.inl ⟨by rfl, ?_⟩) ?_ ?_
  rotate_left
  · intro w'
    go_simp
    with_reducible rfl
  rotate_left
  · simp only [Act.put, List.setIfInBounds_toArray, List.set_cons_zero, List.set_cons_succ, i64_w, i32_w]
    rfl
  refine pure_ (i := 8) (N := some 54) (v := ?_) (a' := ?_) #[true, true, true, true, true, true, true, true, true, false, false, false, false, false, false, false, false, false, false, false, false, false, false, false, false, false, false, false, false, false, false, false, false, false, false, false, false, false, false, false, false, false, false, false, false, false, false, false, false, false, false, false, false, false, false, false, false, false, false] rfl rfl (by as_aux_lemma => kernel_rfl) (fun _ _ _ h => h) (Or.inl ⟨by rfl, ?_⟩) ?_ ?_
  rotate_left
  · intro w'
    go_simp
    with_reducible rfl
  rotate_left
  · simp only [Act.put, List.setIfInBounds_toArray, List.set_cons_zero, List.set_cons_succ, i64_w, i32_w]
    rfl
  refine pure_ (i := 9) (N := some 55) (v := ?_) (a' := ?_) #[true, true, true, true, true, true, true, true, true, true, false, false, false, false, false, false, false, false, false, false, false, false, false, false, false, false, false, false, false, false, false, false, false, false, false, false, false, false, false, false, false, false, false, false, false, false, false, false, false, false, false, false, false, false, false, false, false, false, false] rfl rfl (by as_aux_lemma => kernel_rfl) (fun _ _ _ h => h) (Or.inl ⟨by rfl, ?_⟩) ?_ ?_
  rotate_left
  · intro w'
    go_simp
    with_reducible rfl
  rotate_left
  · simp only [Act.put, List.setIfInBounds_toArray, List.set_cons_zero, List.set_cons_succ, i64_w, i32_w]
    rfl
  refine take_ (i := 10) (N := some 56) (v := ?_) (a' := ?_) #[true, true, true, true, true, true, true, true, true, true, true, false, false, false, false, false, false, false, false, false, false, false, false, false, false, false, false, false, false, false, false, false, false, false, false, false, false, false, false, false, false, false, false, false, false, false, false, false, false, false, false, false, false, false, false, false, false, false, false] rfl rfl (by as_aux_lemma => kernel_rfl) (fun _ _ _ h => h) (Or.inl ⟨by rfl, ?_⟩) hHeld ?_ ?_
  rotate_left
  · rintro w' ⟨s0, s1, s2, s3, s4, s5, s6, s7, s8, s9, s10, s11, s12, s13, s14, s15, s16, s17, s18, s19⟩
    go_simp
    with_reducible rfl
  rotate_left
  · simp only [Act.put, List.setIfInBounds_toArray, List.set_cons_zero, List.set_cons_succ, i64_w, i32_w]
    rfl
  refine pure_ (i := 11) (N := some 57) (v := ?_) (a' := ?_) #[true, true, true, true, true, true, true, true, true, true, true, true, false, false, false, false, false, false, false, false, false, false, false, false, false, false, false, false, false, false, false, false, false, false, false, false, false, false, false, false, false, false, false, false, false, false, false, false, false, false, false, false, false, false, false, false, false, false, false] rfl rfl (by as_aux_lemma => kernel_rfl) (fun _ _ _ h => h) (Or.inl ⟨by rfl, ?_⟩) ?_ ?_
  rotate_left
  · intro w'
    go_simp
    with_reducible rfl
  rotate_left
  · simp only [Act.put, List.setIfInBounds_toArray, List.set_cons_zero, List.set_cons_succ, i64_w, i32_w]
    rfl
  refine pure_ (i := 12) (N := some 58) (v := ?_) (a' := ?_) #[true, true, true, true, true, true, true, true, true, true, true, true, true, false, false, false, false, false, false, false, false, false, false, false, false, false, false, false, false, false, false, false, false, false, false, false, false, false, false, false, false, false, false, false, false, false, false, false, false, false, false, false, false, false, false, false, false, false, false] rfl rfl (by as_aux_lemma => kernel_rfl) (fun _ _ _ h => h) (Or.inl ⟨by rfl, ?_⟩) ?_ ?_
  rotate_left
  · intro w'
    go_simp
    with_reducible rfl
  rotate_left
  · simp only [Act.put, List.setIfInBounds_toArray, List.set_cons_zero, List.set_cons_succ, i64_w, i32_w]
    rfl
  refine pure_ (i := 13) (N := some 59) (v := ?_) (a' := ?_) #[true, true, true, true, true, true, true, true, true, true, true, true, true, true, false, false, false, false, false, false, false, false, false, false, false, false, false, false, false, false, false, false, false, false, false, false, false, false, false, false, false, false, false, false, false, false, false, false, false, false, false, false, false, false, false, false, false, false, false] rfl rfl (by as_aux_lemma => kernel_rfl) (fun _ _ _ h => h) (Or.inl ⟨by rfl, ?_⟩) ?_ ?_
  rotate_left
  · intro w'
    go_simp
    with_reducible rfl
  rotate_left
  · simp only [Act.put, List.setIfInBounds_toArray, List.set_cons_zero, List.set_cons_succ, i64_w, i32_w]
    rfl
  refine pure_ (i := 14) (N := some 60) (v := ?_) (a' := ?_) #[true, true, true, true, true, true, true, true, true, true, true, true, true, true, true, false, false, false, false, false, false, false, false, false, false, false, false, false, false, false, false, false, false, false, false, false, false, false, false, false, false, false, false, false, false, false, false, false, false, false, false, false, false, false, false, false, false, false, false] rfl rfl (by as_aux_lemma => kernel_rfl) (fun _ _ _ h => h) (Or.inl ⟨by rfl, ?_⟩) ?_ ?_
  rotate_left
  · intro w'
    go_simp
    with_reducible rfl
  rotate_left
  · simp only [Act.put, List.setIfInBounds_toArray, List.set_cons_zero, List.set_cons_succ, i64_w, i32_w]
    rfl
  refine pure_ (i := 15) (N := some 61) (v := ?_) (a' := ?_) #[true, true, true, true, true, true, true, true, true, true, true, true, true, true, true, true, false, false, false, false, false, false, false, false, false, false, false, false, false, false, false, false, false, false, false, false, false, false, false, false, false, false, false, false, false, false, false, false, false, false, false, false, false, false, false, false, false, false, false] rfl rfl (by as_aux_lemma => kernel_rfl) (fun _ _ _ h => h) (Or.inl ⟨by rfl, ?_⟩) ?_ ?_
  rotate_left
  · intro w'
    go_simp
    with_reducible rfl
  rotate_left
  · simp only [Act.put, List.setIfInBounds_toArray, List.set_cons_zero, List.set_cons_succ, i64_w, i32_w]
    rfl
  refine pure_ (i := 16) (N := some 62) (v := ?_) (a' := ?_) #[true, true, true, true, true, true, true, true, true, true, true, true, true, true, true, true, true, false, false, false, false, false, false, false, false, false, false, false, false, false, false, false, false, false, false, false, false, false, false, false, false, false, false, false, false, false, false, false, false, false, false, false, false, false, false, false, false, false, false] rfl rfl (by as_aux_lemma => kernel_rfl) (fun _ _ _ h => h) (Or.inl ⟨by rfl, ?_⟩) ?_ ?_
  rotate_left
  · intro w'
    go_simp
    with_reducible rfl
  rotate_left
  · simp only [Act.put, List.setIfInBounds_toArray, List.set_cons_zero, List.set_cons_succ, i64_w, i32_w]
    rfl
  refine pure_ (i := 17) (N := some 63) (v := ?_) (a' := ?_) #[true, true, true, true, true, true, true, true, true, true, true, true, true, true, true, true, true, true, false, false, false, false, false, false, false, false, false, false, false, false, false, false, false, false, false, false, false, false, false, false, false, false, false, false, false, false, false, false, false, false, false, false, false, false, false, false, false, false, false] rfl rfl (by as_aux_lemma => kernel_rfl) (fun _ _ _ h => h) (Or.inl ⟨by rfl, ?_⟩) ?_ ?_
  rotate_left
  · intro w'
    go_simp
    with_reducible rfl
  rotate_left
  · simp only [Act.put, List.setIfInBounds_toArray, List.set_cons_zero, List.set_cons_succ, i64_w, i32_w]
    rfl
  refine pure_ (i := 18) (N := some 64) (v := ?_) (a' := ?_) #[true, true, true, true, true, true, true, true, true, true, true, true, true, true, true, true, true, true, true, false, false, false, false, false, false, false, false, false, false, false, false, false, false, false, false, false, false, false, false, false, false, false, false, false, false, false, false, false, false, false, false, false, false, false, false, false, false, false, false] rfl rfl (by as_aux_lemma => kernel_rfl) (fun _ _ _ h => h) (Or.inl ⟨by rfl, ?_⟩) ?_ ?_
  rotate_left
  · intro w'
    go_simp
    with_reducible rfl
  rotate_left
  · simp only [Act.put, List.setIfInBounds_toArray, List.set_cons_zero, List.set_cons_succ, i64_w, i32_w]
    rfl
  refine take_ (i := 19) (N := some 65) (v := ?_) (a' := ?_) #[true, true, true, true, true, true, true, true, true, true, true, true, true, true, true, true, true, true, true, true, false, false, false, false, false, false, false, false, false, false, false, false, false, false, false, false, false, false, false, false, false, false, false, false, false, false, false, false, false, false, false, false, false, false, false, false, false, false, false] rfl rfl (by as_aux_lemma => kernel_rfl) (fun _ _ _ h => h) (Or.inl ⟨by rfl, ?_⟩) hHeld ?_ ?_
  rotate_left
  · rintro w' ⟨s0, s1, s2, s3, s4, s5, s6, s7, s8, s9, s10, s11, s12, s13, s14, s15, s16, s17, s18, s19⟩
    go_simp
    with_reducible rfl
  rotate_left
  · simp only [Act.put, List.setIfInBounds_toArray, List.set_cons_zero, List.set_cons_succ, i64_w, i32_w]
    rfl
  refine pure_ (i := 20) (N := some 66) (v := ?_) (a' := ?_) #[true, true, true, true, true, true, true, true, true, true, true, true, true, true, true, true, true, true, true, true, true, false, false, false, false, false, false, false, false, false, false, false, false, false, false, false, false, false, false, false, false, false, false, false, false, false, false, false, false, false, false, false, false, false, false, false, false, false, false] rfl rfl (by as_aux_lemma => kernel_rfl) (fun _ _ _ h => h) (Or.inl ⟨by rfl, ?_⟩) ?_ ?_
  rotate_left
  · intro w'
    go_simp
    with_reducible rfl
  rotate_left
  · simp only [Act.put, List.setIfInBounds_toArray, List.set_cons_zero, List.set_cons_succ, i64_w, i32_w]
    rfl
  refine pure_ (i := 21) (N := some 67) (v := ?_) (a' := ?_) #[true, true, true, true, true, true, true, true, true, true, true, true, true, true, true, true, true, true, true, true, true, true, false, false, false, false, false, false, false, false, false, false, false, false, false, false, false, false, false, false, false, false, false, false, false, false, false, false, false, false, false, false, false, false, false, false, false, false, false] rfl rfl (by as_aux_lemma => kernel_rfl) (fun _ _ _ h => h) (Or.inl ⟨by rfl, ?_⟩) ?_ ?_
  rotate_left
  · intro w'
    go_simp
    with_reducible rfl
  rotate_left
  · simp only [Act.put, List.setIfInBounds_toArray, List.set_cons_zero, List.set_cons_succ, i64_w, i32_w]
    rfl
  refine pure_ (i := 22) (N := some 68) (v := ?_) (a' := ?_) #[true, true, true, true, true, true, true, true, true, true, true, true, true, true, true, true, true, true, true, true, true, true, true, false, false, false, false, false, false, false, false, false, false, false, false, false, false, false, false, false, false, false, false, false, false, false, false, false, false, false, false, false, false, false, false, false, false, false, false] rfl rfl (by as_aux_lemma => kernel_rfl) (fun _ _ _ h => h) (Or.inl ⟨by rfl, ?_⟩) ?_ ?_
  rotate_left
  · intro w'
    go_simp
    with_reducible rfl
  rotate_left
  · simp only [Act.put, List.setIfInBounds_toArray, List.set_cons_zero, List.set_cons_succ, i64_w, i32_w]
    rfl
  refine pure_ (i := 23) (N := some 69) (v := ?_) (a' := ?_) #[true, true, true, true, true, true, true, true, true, true, true, true, true, true, true, true, true, true, true, true, true, true, true, true, false, false, false, false, false, false, false, false, false, false, false, false, false, false, false, false, false, false, false, false, false, false, false, false, false, false, false, false, false, false, false, false, false, false, false] rfl rfl (by as_aux_lemma => kernel_rfl) (fun _ _ _ h => h) (Or.inl ⟨by rfl, ?_⟩) ?_ ?_
  rotate_left
  · intro w'
    go_simp
    with_reducible rfl
  rotate_left
  · simp only [Act.put, List.setIfInBounds_toArray, List.set_cons_zero, List.set_cons_succ, i64_w, i32_w]
    rfl
  refine pure_ (i := 24) (N := some 70) (v := ?_) (a' := ?_) #[true, true, true, true, true, true, true, true, true, true, true, true, true, true, true, true, true, true, true, true, true, true, true, true, true, false, false, false, false, false, false, false, false, false, false, false, false, false, false, false, false, false, false, false, false, false, false, false, false, false, false, false, false, false, false, false, false, false, false] rfl rfl (by as_aux_lemma => kernel_rfl) (fun _ _ _ h => h) (Or.inl ⟨by rfl, ?_⟩) ?_ ?_
  rotate_left
  · intro w'
    go_simp
    with_reducible rfl
  rotate_left
  · simp only [Act.put, List.setIfInBounds_toArray, List.set_cons_zero, List.set_cons_succ, i64_w, i32_w]
    rfl
  refine pure_ (i := 25) (N := some 71) (v := ?_) (a' := ?_) #[true, true, true, true, true, true, true, true, true, true, true, true, true, true, true, true, true, true, true, true, true, true, true, true, true, true, false, false, false, false, false, false, false, false, false, false, false, false, false, false, false, false, false, false, false, false, false, false, false, false, false, false, false, false, false, false, false, false, false] rfl rfl (by as_aux_lemma => kernel_rfl) (fun _ _ _ h => h) (Or.inl ⟨by rfl, ?_⟩) ?_ ?_
  rotate_left
  · intro w'
    go_simp
    with_reducible rfl
  rotate_left
  · simp only [Act.put, List.setIfInBounds_toArray, List.set_cons_zero, List.set_cons_succ, i64_w, i32_w]
    rfl
  refine pure_ (i := 26) (N := some 72) (v := ?_) (a' := ?_) #[true, true, true, true, true, true, true, true, true, true, true, true, true, true, true, true, true, true, true, true, true, true, true, true, true, true, true, false, false, false, false, false, false, false, false, false, false, false, false, false, false, false, false, false, false, false, false, false, false, false, false, false, false, false, false, false, false, false, false] rfl rfl (by as_aux_lemma => kernel_rfl) (fun _ _ _ h => h) (Or.inl ⟨by rfl, ?_⟩) ?_ ?_
  rotate_left
  · intro w'
    go_simp
    with_reducible rfl
  rotate_left
  · simp only [Act.put, List.setIfInBounds_toArray, List.set_cons_zero, List.set_cons_succ, i64_w, i32_w]
    rfl
  refine pure_ (i := 27) (N := some 73) (v := ?_) (a' := ?_) #[true, true, true, true, true, true, true, true, true, true, true, true, true, true, true, true, true, true, true, true, true, true, true, true, true, true, true, true, false, false, false, false, false, false, false, false, false, false, false, false, false, false, false, false, false, false, false, false, false, false, false, false, false, false, false, false, false, false, false] rfl rfl (by as_aux_lemma => kernel_rfl) (fun _ _ _ h => h) (Or.inl ⟨by rfl, ?_⟩) ?_ ?_
  rotate_left
  · intro w'
    go_simp
    with_reducible rfl
  rotate_left
  · simp only [Act.put, List.setIfInBounds_toArray, List.set_cons_zero, List.set_cons_succ, i64_w, i32_w]
    rfl
  refine pure_ (i := 28) (N := some 74) (v := ?_) (a' := ?_) #[true, true, true, true, true, true, true, true, true, true, true, true, true, true, true, true, true, true, true, true, true, true, true, true, true, true, true, true, true, false, false, false, false, false, false, false, false, false, false, false, false, false, false, false, false, false, false, false, false, false, false, false, false, false, false, false, false, false, false] rfl rfl (by as_aux_lemma => kernel_rfl) (fun _ _ _ h => h) (Or.inl ⟨by rfl, ?_⟩) ?_ ?_
  rotate_left
  · intro w'
    go_simp
    with_reducible rfl
  rotate_left
  · simp only [Act.put, List.setIfInBounds_toArray, List.set_cons_zero, List.set_cons_succ, i64_w, i32_w]
    rfl
  refine pure_ (i := 29) (N := some 75) (v := ?_) (a' := ?_) #[true, true, true, true, true, true, true, true, true, true, true, true, true, true, true, true, true, true, true, true, true, true, true, true, true, true, true, true, true, true, false, false, false, false, false, false, false, false, false, false, false, false, false, false, false, false, false, false, false, false, false, false, false, false, false, false, false, false, false] rfl rfl (by as_aux_lemma => kernel_rfl) (fun _ _ _ h => h) (Or.inl ⟨by rfl, ?_⟩) ?_ ?_
  rotate_left
  · intro w'
    go_simp
    with_reducible rfl
  rotate_left
  · simp only [Act.put, List.setIfInBounds_toArray, List.set_cons_zero, List.set_cons_succ, i64_w, i32_w]
    rfl
  refine pure_ (i := 30) (N := some 76) (v := ?_) (a' := ?_) #[true, true, true, true, true, true, true, true, true, true, true, true, true, true, true, true, true, true, true, true, true, true, true, true, true, true, true, true, true, true, true, false, false, false, false, false, false, false, false, false, false, false, false, false, false, false, false, false, false, false, false, false, false, false, false, false, false, false, false] rfl rfl (by as_aux_lemma => kernel_rfl) (fun _ _ _ h => h) (Or.inl ⟨by rfl, ?_⟩) ?_ ?_
  rotate_left
  · intro w'
    go_simp
    with_reducible rfl
  rotate_left
  · simp only [Act.put, List.setIfInBounds_toArray, List.set_cons_zero, List.set_cons_succ, i64_w, i32_w]
    rfl
  refine pure_ (i := 31) (N := some 77) (v := ?_) (a' := ?_) #[true, true, true, true, true, true, true, true, true, true, true, true, true, true, true, true, true, true, true, true, true, true, true, true, true, true, true, true, true, true, true, true, false, false, false, false, false, false, false, false, false, false, false, false, false, false, false, false, false, false, false, false, false, false, false, false, false, false, false] rfl rfl (by as_aux_lemma => kernel_rfl) (fun _ _ _ h => h) (Or.inl ⟨by rfl, ?_⟩) ?_ ?_
  rotate_left
  · intro w'
    go_simp
    with_reducible rfl
  rotate_left
  · simp only [Act.put, List.setIfInBounds_toArray, List.set_cons_zero, List.set_cons_succ, i64_w, i32_w]
    rfl
  refine pure_ (i := 32) (N := some 78) (v := ?_) (a' := ?_) #[true, true, true, true, true, true, true, true, true, true, true, true, true, true, true, true, true, true, true, true, true, true, true, true, true, true, true, true, true, true, true, true, true, false, false, false, false, false, false, false, false, false, false, false, false, false, false, false, false, false, false, false, false, false, false, false, false, false, false] rfl rfl (by as_aux_lemma => kernel_rfl) (fun _ _ _ h => h) (Or.inl ⟨by rfl, ?_⟩) ?_ ?_
  rotate_left
  · intro w'
    go_simp
    with_reducible rfl
  rotate_left
  · simp only [Act.put, List.setIfInBounds_toArray, List.set_cons_zero, List.set_cons_succ, i64_w, i32_w]
    rfl
  refine pure_ (i := 33) (N := some 79) (v := ?_) (a' := ?_) #[true, true, true, true, true, true, true, true, true, true, true, true, true, true, true, true, true, true, true, true, true, true, true, true, true, true, true, true, true, true, true, true, true, true, false, false, false, false, false, false, false, false, false, false, false, false, false, false, false, false, false, false, false, false, false, false, false, false, false] rfl rfl (by as_aux_lemma => kernel_rfl) (fun _ _ _ h => h) (Or.inl ⟨by rfl, ?_⟩) ?_ ?_
  rotate_left
  · intro w'
    go_simp
    with_reducible rfl
  rotate_left
  · simp only [Act.put, List.setIfInBounds_toArray, List.set_cons_zero, List.set_cons_succ, i64_w, i32_w]
    rfl
  refine pure_ (i := 34) (N := some 80) (v := ?_) (a' := ?_) #[true, true, true, true, true, true, true, true, true, true, true, true, true, true, true, true, true, true, true, true, true, true, true, true, true, true, true, true, true, true, true, true, true, true, true, false, false, false, false, false, false, false, false, false, false, false, false, false, false, false, false, false, false, false, false, false, false, false, false] rfl rfl (by as_aux_lemma => kernel_rfl) (fun _ _ _ h => h) (Or.inl ⟨by rfl, ?_⟩) ?_ ?_
  rotate_left
  · intro w'
    go_simp
    with_reducible rfl
  rotate_left
  · simp only [Act.put, List.setIfInBounds_toArray, List.set_cons_zero, List.set_cons_succ, i64_w, i32_w]
    rfl
  refine pure_ (i := 35) (N := some 81) (v := ?_) (a' := ?_) #[true, true, true, true, true, true, true, true, true, true, true, true, true, true, true, true, true, true, true, true, true, true, true, true, true, true, true, true, true, true, true, true, true, true, true, true, false, false, false, false, false, false, false, false, false, false, false, false, false, false, false, false, false, false, false, false, false, false, false] rfl rfl (by as_aux_lemma => kernel_rfl) (fun _ _ _ h => h) (Or.inl ⟨by rfl, ?_⟩) ?_ ?_
  rotate_left
  · intro w'
    go_simp
    with_reducible rfl
  rotate_left
  · simp only [Act.put, List.setIfInBounds_toArray, List.set_cons_zero, List.set_cons_succ, i64_w, i32_w]
    rfl
  refine pure_ (i := 36) (N := some 82) (v := ?_) (a' := ?_) #[true, true, true, true, true, true, true, true, true, true, true, true, true, true, true, true, true, true, true, true, true, true, true, true, true, true, true, true, true, true, true, true, true, true, true, true, true, false, false, false, false, false, false, false, false, false, false, false, false, false, false, false, false, false, false, false, false, false, false] rfl rfl (by as_aux_lemma => kernel_rfl) (fun _ _ _ h => h) (Or.inl ⟨by rfl, ?_⟩) ?_ ?_
  rotate_left
  · intro w'
    go_simp
    with_reducible rfl
  rotate_left
  · simp only [Act.put, List.setIfInBounds_toArray, List.set_cons_zero, List.set_cons_succ, i64_w, i32_w]
    rfl
  refine pure_ (i := 37) (N := some 83) (v := ?_) (a' := ?_) #[true, true, true, true, true, true, true, true, true, true, true, true, true, true, true, true, true, true, true, true, true, true, true, true, true, true, true, true, true, true, true, true, true, true, true, true, true, true, false, false, false, false, false, false, false, false, false, false, false, false, false, false, false, false, false, false, false, false, false] rfl rfl (by as_aux_lemma => kernel_rfl) (fun _ _ _ h => h) (Or.inl ⟨by rfl, ?_⟩) ?_ ?_
  rotate_left
  · intro w'
    go_simp
    with_reducible rfl
  rotate_left
  · simp only [Act.put, List.setIfInBounds_toArray, List.set_cons_zero, List.set_cons_succ, i64_w, i32_w]
    rfl
  refine pure_ (i := 38) (N := some 84) (v := ?_) (a' := ?_) #[true, true, true, true, true, true, true, true, true, true, true, true, true, true, true, true, true, true, true, true, true, true, true, true, true, true, true, true, true, true, true, true, true, true, true, true, true, true, true, false, false, false, false, false, false, false, false, false, false, false, false, false, false, false, false, false, false, false, false] rfl rfl (by as_aux_lemma => kernel_rfl) (fun _ _ _ h => h) (Or.inl ⟨by rfl, ?_⟩) ?_ ?_
  rotate_left
  · intro w'
    go_simp
    with_reducible rfl
  rotate_left
  · simp only [Act.put, List.setIfInBounds_toArray, List.set_cons_zero, List.set_cons_succ, i64_w, i32_w]
    rfl
  refine take_ (i := 42) (N := some 88) (v := ?_) (a' := ?_) #[true, true, true, true, true, true, true, true, true, true, true, true, true, true, true, true, true, true, true, true, true, true, true, true, true, true, true, true, true, true, true, true, true, true, true, true, true, true, true, false, false, false, true, false, false, false, false, false, false, false, false, false, false, false, false, false, false, false, false] rfl rfl (by as_aux_lemma => kernel_rfl) (fun _ _ _ h => h) (Or.inl ⟨by rfl, ?_⟩) hHeld ?_ ?_
  rotate_left
  · rintro w' ⟨s0, s1, s2, s3, s4, s5, s6, s7, s8, s9, s10, s11, s12, s13, s14, s15, s16, s17, s18, s19⟩
    go_simp
    with_reducible rfl
  rotate_left
  · simp only [Act.put, List.setIfInBounds_toArray, List.set_cons_zero, List.set_cons_succ, i64_w, i32_w]
    rfl
  refine one_ (i := 39) (N := some 85) #[true, true, true, true, true, true, true, true, true, true, true, true, true, true, true, true, true, true, true, true, true, true, true, true, true, true, true, true, true, true, true, true, true, true, true, true, true, true, true, true, false, false, true, false, false, false, false, false, false, false, false, false, false, false, false, false, false, false, false] rfl rfl (by as_aux_lemma => kernel_rfl) (by decide) (fun K hK => ?_)
  refine value_ (w1 := ?_) (v := ?_) (by rfl) rfl ?_ ?_
  rotate_left 2
  · go_simp
    constructor
    · rfl
    · rfl
  refine hK.out _ _ ⟨(cell2 (blk_alloc (blk_drew Bg1.out) _)).1, (cell2 (blk_alloc (blk_drew Bg1.out) _)).2.1, (HCV0.out _ _ (Kd.R_alloc (Kd.R_drew HV0.out) _)), (HCVB.out _ _ (Kd.R_alloc (Kd.R_drew HVB.out) _)), ((blk_cell (blk_alloc (blk_drew Bg13.out) _) 0).trans rfl), ((blk_cell (blk_alloc (blk_drew Bg13.out) _) 1).trans rfl), ((blk_cell (blk_alloc (blk_drew Bg13.out) _) 2).trans rfl), ((blk_cell (blk_alloc (blk_drew Bg13.out) _) 3).trans rfl), ((blk_cell (blk_alloc (blk_drew Bg13.out) _) 4).trans rfl), ((blk_cell (blk_alloc (blk_drew Bg13.out) _) 5).trans rfl), ((blk_cell (blk_alloc (blk_drew Bg13.out) _) 6).trans rfl), ((blk_cell (blk_alloc (blk_drew Bg13.out) _) 7).trans rfl), ((blk_cell (blk_alloc (blk_drew Bg13.out) _) 8).trans rfl), ((blk_cell (blk_alloc (blk_drew Bg13.out) _) 9).trans rfl), ((blk_cell (blk_alloc (blk_drew Bg13.out) _) 10).trans rfl), ((blk_cell (blk_alloc (blk_drew Bg13.out) _) 11).trans rfl), ((blk_cell (blk_alloc (blk_drew Bg13.out) _) 12).trans rfl), ((blk_cell (blk_alloc (blk_drew Bg13.out) _) 13).trans rfl), ((blk_cell (blk_alloc (blk_drew Bg13.out) _) 14).trans rfl), ((blk_cell (blk_alloc (blk_drew Bg13.out) _) 15).trans rfl)⟩ (fun hHeld => ?_)
  clear hK K
  refine norm_ (a' := ?_) ?_ ?_
  rotate_left
  · show Act.put _ (some 85) _ = _
    simp only [Act.put, List.setIfInBounds_toArray, List.set_cons_zero, List.set_cons_succ, i64_w, i32_w]
    rfl
  refine one_ (i := 40) (N := some 86) #[true, true, true, true, true, true, true, true, true, true, true, true, true, true, true, true, true, true, true, true, true, true, true, true, true, true, true, true, true, true, true, true, true, true, true, true, true, true, true, true, true, false, true, false, false, false, false, false, false, false, false, false, false, false, false, false, false, false, false] rfl rfl (by as_aux_lemma => kernel_rfl) (by decide) (fun K hK => ?_)
  refine value_ (w1 := ?_) (v := ?_) (by rfl) rfl ?_ ?_
  rotate_left 2
  · go_simp
    constructor
    · rfl
    · rfl
  refine hK.out _ _ ⟨(cell2 (blk_alloc (blk_drew Bg1.out) _)).1, (cell2 (blk_alloc (blk_drew Bg1.out) _)).2.1, (HCV0.out _ _ (Kd.R_alloc (Kd.R_drew HV0.out) _)), (HCVB.out _ _ (Kd.R_alloc (Kd.R_drew HVB.out) _)), ((blk_cell (blk_alloc (blk_drew Bg13.out) _) 0).trans rfl), ((blk_cell (blk_alloc (blk_drew Bg13.out) _) 1).trans rfl), ((blk_cell (blk_alloc (blk_drew Bg13.out) _) 2).trans rfl), ((blk_cell (blk_alloc (blk_drew Bg13.out) _) 3).trans rfl), ((blk_cell (blk_alloc (blk_drew Bg13.out) _) 4).trans rfl), ((blk_cell (blk_alloc (blk_drew Bg13.out) _) 5).trans rfl), ((blk_cell (blk_alloc (blk_drew Bg13.out) _) 6).trans rfl), ((blk_cell (blk_alloc (blk_drew Bg13.out) _) 7).trans rfl), ((blk_cell (blk_alloc (blk_drew Bg13.out) _) 8).trans rfl), ((blk_cell (blk_alloc (blk_drew Bg13.out) _) 9).trans rfl), ((blk_cell (blk_alloc (blk_drew Bg13.out) _) 10).trans rfl), ((blk_cell (blk_alloc (blk_drew Bg13.out) _) 11).trans rfl), ((blk_cell (blk_alloc (blk_drew Bg13.out) _) 12).trans rfl), ((blk_cell (blk_alloc (blk_drew Bg13.out) _) 13).trans rfl), ((blk_cell (blk_alloc (blk_drew Bg13.out) _) 14).trans rfl), ((blk_cell (blk_alloc (blk_drew Bg13.out) _) 15).trans rfl)⟩ (fun hHeld => ?_)
  clear hK K
  refine norm_ (a' := ?_) ?_ ?_
  rotate_left
  · show Act.put _ (some 86) _ = _
    simp only [Act.put, List.setIfInBounds_toArray, List.set_cons_zero, List.set_cons_succ, i64_w, i32_w]
    rfl
  refine one_ (i := 41) (N := some 87) #[true, true, true, true, true, true, true, true, true, true, true, true, true, true, true, true, true, true, true, true, true, true, true, true, true, true, true, true, true, true, true, true, true, true, true, true, true, true, true, true, true, true, true, false, false, false, false, false, false, false, false, false, false, false, false, false, false, false, false] rfl rfl (by as_aux_lemma => kernel_rfl) (by decide) (fun K hK => ?_)
  refine goes_ Tryd.func22 (by as_aux_lemma => kernel_rfl) rfl #[.int .i64 7, .string (⟨#[115]⟩ : ByteArray), .slice (some ⟨wz.heap.size, 0, none⟩) 1 1] (by rfl) rfl rfl (by simp only [List.map_toArray, List.map_cons, List.map_nil]; rfl) ?_
  with_reducible refine (HAN.out (wz.alloc (.cells #[.int .u8 118] 5 (1, 2))).drew wz.heap.size (blk_drew (blk_new _ _))).mono ?_
  rintro e wa ⟨rfl, hbn⟩
  refine ⟨_, rfl, ?_⟩
  have Bg1a := Aside0.mk (blk_below (blk_alloc (blk_drew Bg1.out) _) hbn)
  have HV0a := Aside0.mk (Kd.R_below (Kd.R_alloc (Kd.R_drew HV0.out) _) hbn)
  have HVBa := Aside0.mk (Kd.R_below (Kd.R_alloc (Kd.R_drew HVB.out) _) hbn)
  have Bg13a := Aside0.mk (blk_below (blk_alloc (blk_drew Bg13.out) _) hbn)
  have HBa := Aside0.mk (below_step (below_alloc (below_drew1 HB.out) _) hbn)
  clear hbn
  refine hK.out _ _ ⟨(cell2 Bg1a.out).1, (cell2 Bg1a.out).2.1, (HCV0.out _ _ HV0a.out), (HCVB.out _ _ HVBa.out), ((blk_cell Bg13a.out 0).trans rfl), ((blk_cell Bg13a.out 1).trans rfl), ((blk_cell Bg13a.out 2).trans rfl), ((blk_cell Bg13a.out 3).trans rfl), ((blk_cell Bg13a.out 4).trans rfl), ((blk_cell Bg13a.out 5).trans rfl), ((blk_cell Bg13a.out 6).trans rfl), ((blk_cell Bg13a.out 7).trans rfl), ((blk_cell Bg13a.out 8).trans rfl), ((blk_cell Bg13a.out 9).trans rfl), ((blk_cell Bg13a.out 10).trans rfl), ((blk_cell Bg13a.out 11).trans rfl), ((blk_cell Bg13a.out 12).trans rfl), ((blk_cell Bg13a.out 13).trans rfl), ((blk_cell Bg13a.out 14).trans rfl), ((blk_cell Bg13a.out 15).trans rfl)⟩ (fun hHeld => ?_)
  clear hK K
  refine norm_ (a' := ?_) ?_ ?_
  rotate_left
  · show Act.put _ (some 87) _ = _
    simp only [Act.put, List.setIfInBounds_toArray, List.set_cons_zero, List.set_cons_succ, i64_w, i32_w]
    rfl
  refine pure_ (i := 43) (N := some 89) (v := ?_) (a' := ?_) #[true, true, true, true, true, true, true, true, true, true, true, true, true, true, true, true, true, true, true, true, true, true, true, true, true, true, true, true, true, true, true, true, true, true, true, true, true, true, true, true, true, true, true, true, false, false, false, false, false, false, false, false, false, false, false, false, false, false, false] rfl rfl (by as_aux_lemma => kernel_rfl) (fun _ _ _ h => h) (Or.inl ⟨by rfl, ?_⟩) ?_ ?_
  rotate_left
  · intro w'
    go_simp
    with_reducible rfl
  rotate_left
  · simp only [Act.put, List.setIfInBounds_toArray, List.set_cons_zero, List.set_cons_succ, i64_w, i32_w]
    rfl
  refine pure_ (i := 44) (N := some 90) (v := ?_) (a' := ?_) #[true, true, true, true, true, true, true, true, true, true, true, true, true, true, true, true, true, true, true, true, true, true, true, true, true, true, true, true, true, true, true, true, true, true, true, true, true, true, true, true, true, true, true, true, true, false, false, false, false, false, false, false, false, false, false, false, false, false, false] rfl rfl (by as_aux_lemma => kernel_rfl) (fun _ _ _ h => h) (Or.inl ⟨by rfl, ?_⟩) ?_ ?_
  rotate_left
  · intro w'
    go_simp
    with_reducible rfl
  rotate_left
  · simp only [Act.put, List.setIfInBounds_toArray, List.set_cons_zero, List.set_cons_succ, i64_w, i32_w]
    rfl
  refine pure_ (i := 45) (N := some 91) (v := ?_) (a' := ?_) #[true, true, true, true, true, true, true, true, true, true, true, true, true, true, true, true, true, true, true, true, true, true, true, true, true, true, true, true, true, true, true, true, true, true, true, true, true, true, true, true, true, true, true, true, true, true, false, false, false, false, false, false, false, false, false, false, false, false, false] rfl rfl (by as_aux_lemma => kernel_rfl) (fun _ _ _ h => h) (Or.inl ⟨by rfl, ?_⟩) ?_ ?_
  rotate_left
  · intro w'
    go_simp
    with_reducible rfl
  rotate_left
  · simp only [Act.put, List.setIfInBounds_toArray, List.set_cons_zero, List.set_cons_succ, i64_w, i32_w]
    rfl
  refine pure_ (i := 48) (N := some 94) (v := ?_) (a' := ?_) #[true, true, true, true, true, true, true, true, true, true, true, true, true, true, true, true, true, true, true, true, true, true, true, true, true, true, true, true, true, true, true, true, true, true, true, true, true, true, true, true, true, true, true, true, true, true, false, false, true, false, false, false, false, false, false, false, false, false, false] rfl rfl (by as_aux_lemma => kernel_rfl) (fun _ _ _ h => h) (Or.inl ⟨by rfl, ?_⟩) ?_ ?_
  rotate_left
  · intro w'
    go_simp
    with_reducible rfl
  rotate_left
  · simp only [Act.put, List.setIfInBounds_toArray, List.set_cons_zero, List.set_cons_succ, i64_w, i32_w]
    rfl
  refine one_ (i := 46) (N := some 92) #[true, true, true, true, true, true, true, true, true, true, true, true, true, true, true, true, true, true, true, true, true, true, true, true, true, true, true, true, true, true, true, true, true, true, true, true, true, true, true, true, true, true, true, true, true, true, true, false, true, false, false, false, false, false, false, false, false, false, false] rfl rfl (by as_aux_lemma => kernel_rfl) (by decide) (fun K hK => ?_)
  refine value_ (w1 := ?_) (v := ?_) (by rfl) rfl ?_ ?_
  rotate_left 2
  · go_simp
    constructor
    · rfl
    · rfl
  refine hK.out _ _ ⟨(cell2 (blk_alloc Bg1a.out _)).1, (cell2 (blk_alloc Bg1a.out _)).2.1, (HCV0.out _ _ (Kd.R_alloc HV0a.out _)), (HCVB.out _ _ (Kd.R_alloc HVBa.out _)), ((blk_cell (blk_alloc Bg13a.out _) 0).trans rfl), ((blk_cell (blk_alloc Bg13a.out _) 1).trans rfl), ((blk_cell (blk_alloc Bg13a.out _) 2).trans rfl), ((blk_cell (blk_alloc Bg13a.out _) 3).trans rfl), ((blk_cell (blk_alloc Bg13a.out _) 4).trans rfl), ((blk_cell (blk_alloc Bg13a.out _) 5).trans rfl), ((blk_cell (blk_alloc Bg13a.out _) 6).trans rfl), ((blk_cell (blk_alloc Bg13a.out _) 7).trans rfl), ((blk_cell (blk_alloc Bg13a.out _) 8).trans rfl), ((blk_cell (blk_alloc Bg13a.out _) 9).trans rfl), ((blk_cell (blk_alloc Bg13a.out _) 10).trans rfl), ((blk_cell (blk_alloc Bg13a.out _) 11).trans rfl), ((blk_cell (blk_alloc Bg13a.out _) 12).trans rfl), ((blk_cell (blk_alloc Bg13a.out _) 13).trans rfl), ((blk_cell (blk_alloc Bg13a.out _) 14).trans rfl), ((blk_cell (blk_alloc Bg13a.out _) 15).trans rfl)⟩ (fun hHeld => ?_)
  clear hK K
  refine norm_ (a' := ?_) ?_ ?_
  rotate_left
  · show Act.put _ (some 92) _ = _
    simp only [Act.put, List.setIfInBounds_toArray, List.set_cons_zero, List.set_cons_succ, i64_w, i32_w]
    rfl
  refine one_ (i := 47) (N := some 93) #[true, true, true, true, true, true, true, true, true, true, true, true, true, true, true, true, true, true, true, true, true, true, true, true, true, true, true, true, true, true, true, true, true, true, true, true, true, true, true, true, true, true, true, true, true, true, true, true, true, false, false, false, false, false, false, false, false, false, false] rfl rfl (by as_aux_lemma => kernel_rfl) (by decide) (fun K hK => ?_)
  refine value_ (w1 := ?_) (v := ?_) (by rfl) rfl ?_ ?_
  rotate_left 2
  · go_simp
    constructor
    · rfl
    · rfl
  refine hK.out _ _ ⟨(cell2 (blk_alloc Bg1a.out _)).1, (cell2 (blk_alloc Bg1a.out _)).2.1, (HCV0.out _ _ (Kd.R_alloc HV0a.out _)), (HCVB.out _ _ (Kd.R_alloc HVBa.out _)), ((blk_cell (blk_alloc Bg13a.out _) 0).trans rfl), ((blk_cell (blk_alloc Bg13a.out _) 1).trans rfl), ((blk_cell (blk_alloc Bg13a.out _) 2).trans rfl), ((blk_cell (blk_alloc Bg13a.out _) 3).trans rfl), ((blk_cell (blk_alloc Bg13a.out _) 4).trans rfl), ((blk_cell (blk_alloc Bg13a.out _) 5).trans rfl), ((blk_cell (blk_alloc Bg13a.out _) 6).trans rfl), ((blk_cell (blk_alloc Bg13a.out _) 7).trans rfl), ((blk_cell (blk_alloc Bg13a.out _) 8).trans rfl), ((blk_cell (blk_alloc Bg13a.out _) 9).trans rfl), ((blk_cell (blk_alloc Bg13a.out _) 10).trans rfl), ((blk_cell (blk_alloc Bg13a.out _) 11).trans rfl), ((blk_cell (blk_alloc Bg13a.out _) 12).trans rfl), ((blk_cell (blk_alloc Bg13a.out _) 13).trans rfl), ((blk_cell (blk_alloc Bg13a.out _) 14).trans rfl), ((blk_cell (blk_alloc Bg13a.out _) 15).trans rfl)⟩ (fun hHeld => ?_)
  clear hK K
  refine norm_ (a' := ?_) ?_ ?_
  rotate_left
  · show Act.put _ (some 93) _ = _
    simp only [Act.put, List.setIfInBounds_toArray, List.set_cons_zero, List.set_cons_succ, i64_w, i32_w]
    rfl
  refine one_ (i := 49) (N := some 95) #[true, true, true, true, true, true, true, true, true, true, true, true, true, true, true, true, true, true, true, true, true, true, true, true, true, true, true, true, true, true, true, true, true, true, true, true, true, true, true, true, true, true, true, true, true, true, true, true, true, true, false, false, false, false, false, false, false, false, false] rfl rfl (by as_aux_lemma => kernel_rfl) (by decide) (fun K hK => ?_)
  refine goes_ Tryd.func24 (by as_aux_lemma => kernel_rfl) rfl #[.int .i64 7, .string (⟨#[115]⟩ : ByteArray), .slice (some ⟨wa.heap.size, 0, none⟩) 1 1, .slice (some ⟨g13, 0, none⟩) 16 16] (by rfl) rfl rfl (by simp only [List.map_toArray, List.map_cons, List.map_nil]; rfl) ?_
  with_reducible refine (HT7.out (wa.alloc (.cells #[.int .u8 118] 5 (1, 2))) wa.heap.size g13 (blk_new _ _) (blk_alloc Bg13a.out _)).mono ?_
  rintro e wb ⟨rfl, hbn⟩
  refine ⟨_, rfl, ?_⟩
  have Bg1b := Aside0.mk (blk_below (blk_alloc Bg1a.out _) hbn)
  have HV0b := Aside0.mk (Kd.R_below (Kd.R_alloc HV0a.out _) hbn)
  have HVBb := Aside0.mk (Kd.R_below (Kd.R_alloc HVBa.out _) hbn)
  have Bg13b := Aside0.mk (blk_below (blk_alloc Bg13a.out _) hbn)
  have HBb := Aside0.mk (below_step (below_alloc HBa.out _) hbn)
  clear hbn
  refine hK.out _ _ ⟨(cell2 Bg1b.out).1, (cell2 Bg1b.out).2.1, (HCV0.out _ _ HV0b.out), (HCVB.out _ _ HVBb.out), ((blk_cell Bg13b.out 0).trans rfl), ((blk_cell Bg13b.out 1).trans rfl), ((blk_cell Bg13b.out 2).trans rfl), ((blk_cell Bg13b.out 3).trans rfl), ((blk_cell Bg13b.out 4).trans rfl), ((blk_cell Bg13b.out 5).trans rfl), ((blk_cell Bg13b.out 6).trans rfl), ((blk_cell Bg13b.out 7).trans rfl), ((blk_cell Bg13b.out 8).trans rfl), ((blk_cell Bg13b.out 9).trans rfl), ((blk_cell Bg13b.out 10).trans rfl), ((blk_cell Bg13b.out 11).trans rfl), ((blk_cell Bg13b.out 12).trans rfl), ((blk_cell Bg13b.out 13).trans rfl), ((blk_cell Bg13b.out 14).trans rfl), ((blk_cell Bg13b.out 15).trans rfl)⟩ (fun hHeld => ?_)
  clear hK K
  refine norm_ (a' := ?_) ?_ ?_
  rotate_left
  · show Act.put _ (some 95) _ = _
    simp only [Act.put, List.setIfInBounds_toArray, List.set_cons_zero, List.set_cons_succ, i64_w, i32_w]
    rfl
  refine pure_ (i := 50) (N := some 96) (v := ?_) (a' := ?_) #[true, true, true, true, true, true, true, true, true, true, true, true, true, true, true, true, true, true, true, true, true, true, true, true, true, true, true, true, true, true, true, true, true, true, true, true, true, true, true, true, true, true, true, true, true, true, true, true, true, true, true, false, false, false, false, false, false, false, false] rfl rfl (by as_aux_lemma => kernel_rfl) (fun _ _ _ h => h) (Or.inl ⟨by rfl, ?_⟩) ?_ ?_
  rotate_left
  · intro w'
    go_simp
    with_reducible rfl
  rotate_left
  · simp only [Act.put, List.setIfInBounds_toArray, List.set_cons_zero, List.set_cons_succ, i64_w, i32_w]
    rfl
  refine pure_ (i := 51) (N := some 97) (v := ?_) (a' := ?_) #[true, true, true, true, true, true, true, true, true, true, true, true, true, true, true, true, true, true, true, true, true, true, true, true, true, true, true, true, true, true, true, true, true, true, true, true, true, true, true, true, true, true, true, true, true, true, true, true, true, true, true, true, false, false, false, false, false, false, false] rfl rfl (by as_aux_lemma => kernel_rfl) (fun _ _ _ h => h) (Or.inl ⟨by rfl, ?_⟩) ?_ ?_
  rotate_left
  · intro w'
    go_simp
    with_reducible rfl
  rotate_left
  · simp only [Act.put, List.setIfInBounds_toArray, List.set_cons_zero, List.set_cons_succ, i64_w, i32_w]
    rfl
  refine pure_ (i := 54) (N := some 100) (v := ?_) (a' := ?_) #[true, true, true, true, true, true, true, true, true, true, true, true, true, true, true, true, true, true, true, true, true, true, true, true, true, true, true, true, true, true, true, true, true, true, true, true, true, true, true, true, true, true, true, true, true, true, true, true, true, true, true, true, false, false, true, false, false, false, false] rfl rfl (by as_aux_lemma => kernel_rfl) (fun _ _ _ h => h) (Or.inl ⟨by rfl, ?_⟩) ?_ ?_
  rotate_left
  · intro w'
    go_simp
    with_reducible rfl
  rotate_left
  · simp only [Act.put, List.setIfInBounds_toArray, List.set_cons_zero, List.set_cons_succ, i64_w, i32_w]
    rfl
  refine one_ (i := 52) (N := some 98) #[true, true, true, true, true, true, true, true, true, true, true, true, true, true, true, true, true, true, true, true, true, true, true, true, true, true, true, true, true, true, true, true, true, true, true, true, true, true, true, true, true, true, true, true, true, true, true, true, true, true, true, true, true, false, true, false, false, false, false] rfl rfl (by as_aux_lemma => kernel_rfl) (by decide) (fun K hK => ?_)
  refine value_ (w1 := ?_) (v := ?_) (by rfl) rfl ?_ ?_
  rotate_left 2
  · go_simp
    constructor
    · rfl
    · rfl
  refine hK.out _ _ ⟨(cell2 (blk_alloc Bg1b.out _)).1, (cell2 (blk_alloc Bg1b.out _)).2.1, (HCV0.out _ _ (Kd.R_alloc HV0b.out _)), (HCVB.out _ _ (Kd.R_alloc HVBb.out _)), ((blk_cell (blk_alloc Bg13b.out _) 0).trans rfl), ((blk_cell (blk_alloc Bg13b.out _) 1).trans rfl), ((blk_cell (blk_alloc Bg13b.out _) 2).trans rfl), ((blk_cell (blk_alloc Bg13b.out _) 3).trans rfl), ((blk_cell (blk_alloc Bg13b.out _) 4).trans rfl), ((blk_cell (blk_alloc Bg13b.out _) 5).trans rfl), ((blk_cell (blk_alloc Bg13b.out _) 6).trans rfl), ((blk_cell (blk_alloc Bg13b.out _) 7).trans rfl), ((blk_cell (blk_alloc Bg13b.out _) 8).trans rfl), ((blk_cell (blk_alloc Bg13b.out _) 9).trans rfl), ((blk_cell (blk_alloc Bg13b.out _) 10).trans rfl), ((blk_cell (blk_alloc Bg13b.out _) 11).trans rfl), ((blk_cell (blk_alloc Bg13b.out _) 12).trans rfl), ((blk_cell (blk_alloc Bg13b.out _) 13).trans rfl), ((blk_cell (blk_alloc Bg13b.out _) 14).trans rfl), ((blk_cell (blk_alloc Bg13b.out _) 15).trans rfl)⟩ (fun hHeld => ?_)
  clear hK K
  refine norm_ (a' := ?_) ?_ ?_
  rotate_left
  · show Act.put _ (some 98) _ = _
    simp only [Act.put, List.setIfInBounds_toArray, List.set_cons_zero, List.set_cons_succ, i64_w, i32_w]
    rfl
  refine one_ (i := 53) (N := some 99) #[true, true, true, true, true, true, true, true, true, true, true, true, true, true, true, true, true, true, true, true, true, true, true, true, true, true, true, true, true, true, true, true, true, true, true, true, true, true, true, true, true, true, true, true, true, true, true, true, true, true, true, true, true, true, true, false, false, false, false] rfl rfl (by as_aux_lemma => kernel_rfl) (by decide) (fun K hK => ?_)
  refine value_ (w1 := ?_) (v := ?_) (by rfl) rfl ?_ ?_
  rotate_left 2
  · go_simp
    constructor
    · rfl
    · rfl
  refine hK.out _ _ ⟨(cell2 (blk_alloc Bg1b.out _)).1, (cell2 (blk_alloc Bg1b.out _)).2.1, (HCV0.out _ _ (Kd.R_alloc HV0b.out _)), (HCVB.out _ _ (Kd.R_alloc HVBb.out _)), ((blk_cell (blk_alloc Bg13b.out _) 0).trans rfl), ((blk_cell (blk_alloc Bg13b.out _) 1).trans rfl), ((blk_cell (blk_alloc Bg13b.out _) 2).trans rfl), ((blk_cell (blk_alloc Bg13b.out _) 3).trans rfl), ((blk_cell (blk_alloc Bg13b.out _) 4).trans rfl), ((blk_cell (blk_alloc Bg13b.out _) 5).trans rfl), ((blk_cell (blk_alloc Bg13b.out _) 6).trans rfl), ((blk_cell (blk_alloc Bg13b.out _) 7).trans rfl), ((blk_cell (blk_alloc Bg13b.out _) 8).trans rfl), ((blk_cell (blk_alloc Bg13b.out _) 9).trans rfl), ((blk_cell (blk_alloc Bg13b.out _) 10).trans rfl), ((blk_cell (blk_alloc Bg13b.out _) 11).trans rfl), ((blk_cell (blk_alloc Bg13b.out _) 12).trans rfl), ((blk_cell (blk_alloc Bg13b.out _) 13).trans rfl), ((blk_cell (blk_alloc Bg13b.out _) 14).trans rfl), ((blk_cell (blk_alloc Bg13b.out _) 15).trans rfl)⟩ (fun hHeld => ?_)
  clear hK K
  refine norm_ (a' := ?_) ?_ ?_
  rotate_left
  · show Act.put _ (some 99) _ = _
    simp only [Act.put, List.setIfInBounds_toArray, List.set_cons_zero, List.set_cons_succ, i64_w, i32_w]
    rfl
  refine one_ (i := 55) (N := some 101) #[true, true, true, true, true, true, true, true, true, true, true, true, true, true, true, true, true, true, true, true, true, true, true, true, true, true, true, true, true, true, true, true, true, true, true, true, true, true, true, true, true, true, true, true, true, true, true, true, true, true, true, true, true, true, true, true, false, false, false] rfl rfl (by as_aux_lemma => kernel_rfl) (by decide) (fun K hK => ?_)
  refine goes_ Tryd.func24 (by as_aux_lemma => kernel_rfl) rfl #[.int .i64 8, .string (⟨#[115]⟩ : ByteArray), .slice (some ⟨wb.heap.size, 0, none⟩) 1 1, .slice (some ⟨g13, 0, none⟩) 16 16] (by rfl) rfl rfl (by simp only [List.map_toArray, List.map_cons, List.map_nil]; rfl) ?_
  with_reducible refine (HT8.out (wb.alloc (.cells #[.int .u8 118] 5 (1, 2))) wb.heap.size g13 (blk_new _ _) (blk_alloc Bg13b.out _)).mono ?_
  rintro e wc ⟨rfl, hbn⟩
  refine ⟨_, rfl, ?_⟩
  have Bg1c := Aside0.mk (blk_below (blk_alloc Bg1b.out _) hbn)
  have HV0c := Aside0.mk (Kd.R_below (Kd.R_alloc HV0b.out _) hbn)
  have HVBc := Aside0.mk (Kd.R_below (Kd.R_alloc HVBb.out _) hbn)
  have Bg13c := Aside0.mk (blk_below (blk_alloc Bg13b.out _) hbn)
  have HBc := Aside0.mk (below_step (below_alloc HBb.out _) hbn)
  clear hbn
  refine hK.out _ _ ⟨(cell2 Bg1c.out).1, (cell2 Bg1c.out).2.1, (HCV0.out _ _ HV0c.out), (HCVB.out _ _ HVBc.out), ((blk_cell Bg13c.out 0).trans rfl), ((blk_cell Bg13c.out 1).trans rfl), ((blk_cell Bg13c.out 2).trans rfl), ((blk_cell Bg13c.out 3).trans rfl), ((blk_cell Bg13c.out 4).trans rfl), ((blk_cell Bg13c.out 5).trans rfl), ((blk_cell Bg13c.out 6).trans rfl), ((blk_cell Bg13c.out 7).trans rfl), ((blk_cell Bg13c.out 8).trans rfl), ((blk_cell Bg13c.out 9).trans rfl), ((blk_cell Bg13c.out 10).trans rfl), ((blk_cell Bg13c.out 11).trans rfl), ((blk_cell Bg13c.out 12).trans rfl), ((blk_cell Bg13c.out 13).trans rfl), ((blk_cell Bg13c.out 14).trans rfl), ((blk_cell Bg13c.out 15).trans rfl)⟩ (fun hHeld => ?_)
  clear hK K
  refine norm_ (a' := ?_) ?_ ?_
  rotate_left
  · show Act.put _ (some 101) _ = _
    simp only [Act.put, List.setIfInBounds_toArray, List.set_cons_zero, List.set_cons_succ, i64_w, i32_w]
    rfl
  refine pure_ (i := 56) (N := some 102) (v := ?_) (a' := ?_) #[true, true, true, true, true, true, true, true, true, true, true, true, true, true, true, true, true, true, true, true, true, true, true, true, true, true, true, true, true, true, true, true, true, true, true, true, true, true, true, true, true, true, true, true, true, true, true, true, true, true, true, true, true, true, true, true, true, false, false] rfl rfl (by as_aux_lemma => kernel_rfl) (fun _ _ _ h => h) (Or.inl ⟨by rfl, ?_⟩) ?_ ?_
  rotate_left
  · intro w'
    go_simp
    with_reducible rfl
  rotate_left
  · simp only [Act.put, List.setIfInBounds_toArray, List.set_cons_zero, List.set_cons_succ, i64_w, i32_w]
    rfl
  refine pure_ (i := 57) (N := some 103) (v := ?_) (a' := ?_) #[true, true, true, true, true, true, true, true, true, true, true, true, true, true, true, true, true, true, true, true, true, true, true, true, true, true, true, true, true, true, true, true, true, true, true, true, true, true, true, true, true, true, true, true, true, true, true, true, true, true, true, true, true, true, true, true, true, true, false] rfl rfl (by as_aux_lemma => kernel_rfl) (fun _ _ _ h => h) (Or.inl ⟨by rfl, ?_⟩) ?_ ?_
  rotate_left
  · intro w'
    go_simp
    with_reducible rfl
  rotate_left
  · simp only [Act.put, List.setIfInBounds_toArray, List.set_cons_zero, List.set_cons_succ, i64_w, i32_w]
    rfl
  refine pure_ (i := 58) (N := some 0) (v := ?_) (a' := ?_) #[true, true, true, true, true, true, true, true, true, true, true, true, true, true, true, true, true, true, true, true, true, true, true, true, true, true, true, true, true, true, true, true, true, true, true, true, true, true, true, true, true, true, true, true, true, true, true, true, true, true, true, true, true, true, true, true, true, true, true] rfl rfl (by as_aux_lemma => kernel_rfl) (fun _ _ _ h => h) (Or.inl ⟨by rfl, ?_⟩) ?_ ?_
  rotate_left
  · intro w'
    go_simp
    with_reducible rfl
  rotate_left
  · simp only [Act.put, List.setIfInBounds_toArray, List.set_cons_zero, List.set_cons_succ, i64_w, i32_w]
    rfl
  refine done_ (by as_aux_lemma => kernel_rfl) ?_
  go_wp2
  go_ret
  exact ⟨by first | rfl | simp, HBc.out⟩
end Go.Proofs.YtgadhmoifhoilaaDoor.Chap
