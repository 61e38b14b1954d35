/-
  The law AuthKeeps by hand: the walk, over its calls.
-/
import Derived.Test.YtglbaeikklkghaaAuthRef0
namespace Go.Proofs.Ytglbaeikklkghaa.AuthHand
open Go.RowKit Go.Lib Go.Proofs.YtglbaeikklkghaaW.PrintWords Go.Proofs.YtglbaeikklkghaaW.PrintLast Go.Proofs.YtglbaeikklkghaaW.PrintMore Go.Proofs.Ytglbaeikklkghaa.Kit
set_option linter.unusedVariables false
set_option linter.unusedSimpArgs false
theorem eqL (d : Nat) (w : World) (x0 y0 : Int) (x1 y1 : Int) (x2 y2 : Bool) (x3 y3 : Bool) (x4 y4 : Bool) (x5 y5 : Int) (x6 y6 : ByteArray) (x7 y7 : Bool) (x8 y8 : Int) :
    (Op.equalIn (d + 2) 47 (.agg #[.int .i64 x0, .int .i64 x1, .bool x2, .bool x3, .bool x4, .int .i64 x5, .string x6, .bool x7, .int .i64 x8]) (.agg #[.int .i64 y0, .int .i64 y1, .bool y2, .bool y3, .bool y4, .int .i64 y5, .string y6, .bool y7, .int .i64 y8])).run Try.prog w = .ok (x0 == y0 && (x1 == y1 && (x2 == y2 && (x3 == y3 && (x4 == y4 && (x5 == y5 && (x6.toList == y6.toList && (x7 == y7 && (x8 == y8))))))))) w := by
  refine eqA_of Try.underlying47 (by kernel_rfl) ?_
  refine eqf_cons (by rfl) (by go_simp; rfl) (by go_simp; rfl) (by go_simp) ?_
  refine eqf_cons (by rfl) (by go_simp; rfl) (by go_simp; rfl) (by go_simp) ?_
  refine eqf_cons (by rfl) (by go_simp; rfl) (by go_simp; rfl) (by go_simp) ?_
  refine eqf_cons (by rfl) (by go_simp; rfl) (by go_simp; rfl) (by go_simp) ?_
  refine eqf_cons (by rfl) (by go_simp; rfl) (by go_simp; rfl) (by go_simp) ?_
  refine eqf_cons (by rfl) (by go_simp; rfl) (by go_simp; rfl) (by go_simp) ?_
  refine eqf_cons (by rfl) (by go_simp; rfl) (by go_simp; rfl) (by go_simp) ?_
  refine eqf_cons (by rfl) (by go_simp; rfl) (by go_simp; rfl) (by go_simp) ?_
  exact eqf_last (by rfl) (by go_simp; rfl) (by go_simp; rfl) (by go_simp)
attribute [local go_sem high] eqL
set_option maxRecDepth 100000 in
set_option maxHeartbeats 4000000 in
theorem AuthKeeps_no (a0_0 a0_1 : Int) (a0_2 a0_3 a0_4 : Bool) (a0_5 : Int) (a0_6 : ByteArray) (a0_7 : Bool) (a0_8 a1 a2_0 a2_1 : Int) (A : Option Addr) (c L : Nat) (w : World) (HAW : Aside0 (∀ W, Below w.heap.size w W → Calls Try.prog 20 #[] W fun e w' => e = .returned (.bool true) ∧ Below W.heap.size W w')) (HMY : Aside0 (∀ W, Below w.heap.size w W → Calls Try.prog 21 #[.agg #[.int .i64 a2_0, .int .i64 a2_1, .slice A L c]] W fun e w' => e = .returned (.bool false) ∧ Below W.heap.size W w')) :
    Calls Try.prog 11 #[.agg #[.int .i64 a0_0, .int .i64 a0_1, .bool a0_2, .bool a0_3, .bool a0_4, .int .i64 a0_5, .string a0_6, .bool a0_7, .int .i64 a0_8], .int .i64 a1, .agg #[.int .i64 a2_0, .int .i64 a2_1, .slice A L c]] w fun e w' => e = .returned (.bool true) ∧ Below w.heap.size w w' := by
  have HB := Aside0.mk (Below.refl w.heap.size w)
  go_enter Try.func11, Try.ntmps11
  go_wp2_with (first | ((with_reducible refine gate_dst (N := 3) rfl ?_); refine' box_event ?hg (N := 3) ?hd (t := 47) ?hr ?_; (case hd => rfl); (case hg => rfl); (case hr => first | (go_simp; done) | (go_simp; rfl)); intro gl hgn w1 hbox hbn; have HB_ := Aside0.mk (below_step (show Below w.heap.size w w from HB.out) hbn); have GEgl := Aside0.mk (show w.heap.size ≤ gl from Nat.le_trans (below_size (show Below w.heap.size w w from HB.out)) (Nat.le_of_eq hgn.symm)); clear HB; have HB := HB_; clear HB_; have HL := Aside0.mk hbox; clear hbox hbn hgn; obtain ⟨l0, l1, l2, l3, l4, l5, l6, l7, l8, lf0, lf1, lf2, lf3, lf4, lf5, lf6, lf7, lf8⟩ := cells9 HL.out) | ((with_reducible refine gate_dst (N := 5) rfl ?_); refine' box_event ?hg (N := 5) ?hd (t := 49) ?hr ?_; (case hd => rfl); (case hg => rfl); (case hr => first | (go_simp; done) | (go_simp; rfl)); intro gp hgn w2 hbox hbn; have nglgp : gl ≠ gp := Nat.ne_of_lt (Nat.lt_of_lt_of_eq (blk_lt HL.out) hgn.symm); have ngpgl : gp ≠ gl := fun e_ => nglgp e_.symm; clear l0 lf0 l1 lf1 l2 lf2 l3 lf3 l4 lf4 l5 lf5 l6 lf6 l7 lf7 l8 lf8; have HL_ := Aside0.mk (blk_below HL.out hbn); clear HL; have HL := HL_; clear HL_; have HB_ := Aside0.mk (below_step (show Below w.heap.size w w1 from HB.out) hbn); have GEgp := Aside0.mk (show w.heap.size ≤ gp from Nat.le_trans (below_size (show Below w.heap.size w w1 from HB.out)) (Nat.le_of_eq hgn.symm)); clear HB; have HB := HB_; clear HB_; have HP := Aside0.mk hbox; clear hbox hbn hgn; obtain ⟨p0, p1, p2, pf0, pf1, pf2⟩ := cells3 HP.out; obtain ⟨l0, l1, l2, l3, l4, l5, l6, l7, l8, lf0, lf1, lf2, lf3, lf4, lf5, lf6, lf7, lf8⟩ := cells9 HL.out))
  clear l0 lf0 l1 lf1 l2 lf2 l3 lf3 l4 lf4 l5 lf5 l6 lf6 l7 lf7 l8 lf8 p0 pf0 p1 pf1 p2 pf2
  refine (HAW.out _ HB.out).mono ?_
  rintro e w3 ⟨rfl, hb⟩
  have HL_ := Aside0.mk (blk_below HL.out hb)
  have HP_ := Aside0.mk (blk_below HP.out hb)
  have HB_ := Aside0.mk (below_step HB.out hb)
  clear hb
  clear HL HP HB
  have HL := HL_
  clear HL_
  have HP := HP_
  clear HP_
  have HB := HB_
  clear HB_
  obtain ⟨p0, p1, p2, pf0, pf1, pf2⟩ := cells3 HP.out
  have ltp := blk_lt HP.out
  go_wp2_with fail
  clear p0 pf0 p1 pf1 p2 pf2 ltp
  refine (HMY.out _ HB.out).mono ?_
  rintro e w4 ⟨rfl, hb⟩
  have HL_ := Aside0.mk (blk_below HL.out hb)
  have HP_ := Aside0.mk (blk_below HP.out hb)
  have HB_ := Aside0.mk (below_step HB.out hb)
  clear hb
  clear HL HP HB
  have HL := HL_
  clear HL_
  have HP := HP_
  clear HP_
  have HB := HB_
  clear HB_
  go_wp2_with fail
  refine (HAW.out _ HB.out).mono ?_
  rintro e w5 ⟨rfl, hb⟩
  have HL_ := Aside0.mk (blk_below HL.out hb)
  have HP_ := Aside0.mk (blk_below HP.out hb)
  have HB_ := Aside0.mk (below_step HB.out hb)
  clear hb
  clear HL HP HB
  have HL := HL_
  clear HL_
  have HP := HP_
  clear HP_
  have HB := HB_
  clear HB_
  go_wp2_with fail
  go_ret
  exact ⟨rfl, HB.out⟩
set_option maxRecDepth 100000 in
set_option maxHeartbeats 40000000 in
theorem AuthKeeps_yes (a0_0 a0_1 : Int) (a0_2 a0_3 a0_4 : Bool) (a0_5 : Int) (a0_6 : ByteArray) (a0_7 : Bool) (a0_8 a1 a2_0 a2_1 : Int) (A : Option Addr) (c L : Nat) (l : List Int) (r0 r1 : Int) (r2 r3 r4 : Bool) (r5 : Int) (r6 : ByteArray) (r7 : Bool) (r8 : Int)(s0 s1 : Int) (s2 s3 s4 : Bool) (s5 : Int) (s6 : ByteArray) (s7 : Bool) (s8 : Int) (D : List PAuthBase.S60) (k : Bool) (w : World) (HAW : Aside0 (∀ W, Below w.heap.size w W → Calls Try.prog 20 #[] W fun e w' => e = .returned (.bool true) ∧ Below W.heap.size W w')) (HMY : Aside0 (∀ W, Below w.heap.size w W → Calls Try.prog 21 #[.agg #[.int .i64 a2_0, .int .i64 a2_1, .slice A L c]] W fun e w' => e = .returned (.bool true) ∧ Below W.heap.size W w')) (HCL : Aside0 (Kd.C (Kd.int .u8) w A L l)) (hL : L ≤ 1000) (HX : Aside0 (∀ W A1 c1, Kd.C (Kd.int .u8) W A1 L l → L ≤ c1 → Calls Try.prog 22 #[.agg #[.int .i64 a0_0, .int .i64 a0_1, .bool a0_2, .bool a0_3, .bool a0_4, .int .i64 a0_5, .string a0_6, .bool a0_7, .int .i64 a0_8], .int .i64 a1, .agg #[.int .i64 a2_0, .int .i64 a2_1, .slice A1 L c1]] W fun e w' => ∃ v9_ : Value, e = .returned (.tuple #[.agg #[.int .i64 r0, .int .i64 r1, .bool r2, .bool r3, .bool r4, .int .i64 r5, .string r6, .bool r7, .int .i64 r8], v9_]) ∧ Kd.R PAuthBase.k60 60 w' W.heap.size (fun _ => True) v9_ D ∧ Below W.heap.size W w')) (HY : Aside0 (∀ W A1 c1, Kd.C (Kd.int .u8) W A1 L l → L ≤ c1 → Calls Try.prog 27 #[.agg #[.int .i64 a0_0, .int .i64 a0_1, .bool a0_2, .bool a0_3, .bool a0_4, .int .i64 a0_5, .string a0_6, .bool a0_7, .int .i64 a0_8], .int .i64 a1, .agg #[.int .i64 a2_0, .int .i64 a2_1, .slice A1 L c1]] W fun e w' => e = .returned (.tuple #[.agg #[.int .i64 s0, .int .i64 s1, .bool s2, .bool s3, .bool s4, .int .i64 s5, .string s6, .bool s7, .int .i64 s8], .bool k]) ∧ Below W.heap.size W w')) (HRH : Aside0 (∀ W, Below w.heap.size w W → Calls Try.prog 23 #[.agg #[.int .i64 a0_0, .int .i64 a0_1, .bool a0_2, .bool a0_3, .bool a0_4, .int .i64 a0_5, .string a0_6, .bool a0_7, .int .i64 a0_8], .int .i64 a1, .agg #[.int .i64 a2_0, .int .i64 a2_1, .slice A L c]] W fun e w' => ∃ v9_ : Value, e = .returned (.tuple #[.agg #[.int .i64 r0, .int .i64 r1, .bool r2, .bool r3, .bool r4, .int .i64 r5, .string r6, .bool r7, .int .i64 r8], v9_]) ∧ Kd.R PAuthBase.k60 60 w' W.heap.size (fun _ => True) v9_ D ∧ Below W.heap.size W w')) (HRB : Aside0 (∀ W, Below w.heap.size w W → Calls Try.prog 28 #[.agg #[.int .i64 a0_0, .int .i64 a0_1, .bool a0_2, .bool a0_3, .bool a0_4, .int .i64 a0_5, .string a0_6, .bool a0_7, .int .i64 a0_8], .int .i64 a1, .agg #[.int .i64 a2_0, .int .i64 a2_1, .slice A L c]] W fun e w' => e = .returned (.tuple #[.agg #[.int .i64 s0, .int .i64 s1, .bool s2, .bool s3, .bool s4, .int .i64 s5, .string s6, .bool s7, .int .i64 s8], .bool k]) ∧ Below W.heap.size W w')) (HSM : Aside0 (∀ W A1 c1 A2 c2, Kd.C PAuthBase.k60 W A1 D.length D → D.length ≤ c1 → Kd.C PAuthBase.k60 W A2 D.length D → D.length ≤ c2 → Calls Try.prog 24 #[.slice A1 D.length c1, .slice A2 D.length c2] W fun e w' => e = .returned (.bool true) ∧ Drawn0 W w')) :
    Calls Try.prog 11 #[.agg #[.int .i64 a0_0, .int .i64 a0_1, .bool a0_2, .bool a0_3, .bool a0_4, .int .i64 a0_5, .string a0_6, .bool a0_7, .int .i64 a0_8], .int .i64 a1, .agg #[.int .i64 a2_0, .int .i64 a2_1, .slice A L c]] w fun e w' => e = .returned (.bool true) ∧ Below w.heap.size w w' := by
  have hlen : l.length = L := Kd.C_len HCL.out
  have HLEN := Aside0.mk hlen
  clear hlen
  have HB := Aside0.mk (Below.refl w.heap.size w)
  go_enter Try.func11, Try.ntmps11
  go_wp2_with (first | ((with_reducible refine gate_dst (N := 3) rfl ?_); refine' box_event ?hg (N := 3) ?hd (t := 47) ?hr ?_; (case hd => rfl); (case hg => rfl); (case hr => first | (go_simp; done) | (go_simp; rfl)); intro gl hgn w1 hbox hbn; have HB_ := Aside0.mk (below_step (show Below w.heap.size w w from HB.out) hbn); have GEgl := Aside0.mk (show w.heap.size ≤ gl from Nat.le_trans (below_size (show Below w.heap.size w w from HB.out)) (Nat.le_of_eq hgn.symm)); clear HB; have HB := HB_; clear HB_; have HL := Aside0.mk hbox; clear hbox hbn hgn; obtain ⟨l0, l1, l2, l3, l4, l5, l6, l7, l8, lf0, lf1, lf2, lf3, lf4, lf5, lf6, lf7, lf8⟩ := cells9 HL.out) | ((with_reducible refine gate_dst (N := 5) rfl ?_); refine' box_event ?hg (N := 5) ?hd (t := 49) ?hr ?_; (case hd => rfl); (case hg => rfl); (case hr => first | (go_simp; done) | (go_simp; rfl)); intro gp hgn w2 hbox hbn; have nglgp : gl ≠ gp := Nat.ne_of_lt (Nat.lt_of_lt_of_eq (blk_lt HL.out) hgn.symm); have ngpgl : gp ≠ gl := fun e_ => nglgp e_.symm; clear l0 lf0 l1 lf1 l2 lf2 l3 lf3 l4 lf4 l5 lf5 l6 lf6 l7 lf7 l8 lf8; have HL_ := Aside0.mk (blk_below HL.out hbn); clear HL; have HL := HL_; clear HL_; have HB_ := Aside0.mk (below_step (show Below w.heap.size w w1 from HB.out) hbn); have GEgp := Aside0.mk (show w.heap.size ≤ gp from Nat.le_trans (below_size (show Below w.heap.size w w1 from HB.out)) (Nat.le_of_eq hgn.symm)); clear HB; have HB := HB_; clear HB_; have HP := Aside0.mk hbox; clear hbox hbn hgn; obtain ⟨p0, p1, p2, pf0, pf1, pf2⟩ := cells3 HP.out; obtain ⟨l0, l1, l2, l3, l4, l5, l6, l7, l8, lf0, lf1, lf2, lf3, lf4, lf5, lf6, lf7, lf8⟩ := cells9 HL.out))
  clear l0 lf0 l1 lf1 l2 lf2 l3 lf3 l4 lf4 l5 lf5 l6 lf6 l7 lf7 l8 lf8 p0 pf0 p1 pf1 p2 pf2
  refine (HAW.out _ HB.out).mono ?_
  rintro e w3 ⟨rfl, hb⟩
  have HL_ := Aside0.mk (blk_below HL.out hb)
  have HP_ := Aside0.mk (blk_below HP.out hb)
  have HB_ := Aside0.mk (below_step HB.out hb)
  clear hb
  clear HL HP HB
  have HL := HL_
  clear HL_
  have HP := HP_
  clear HP_
  have HB := HB_
  clear HB_
  obtain ⟨p0, p1, p2, pf0, pf1, pf2⟩ := cells3 HP.out
  have ltp := blk_lt HP.out
  go_wp2_with fail
  clear p0 pf0 p1 pf1 p2 pf2 ltp
  refine (HMY.out _ HB.out).mono ?_
  rintro e w4 ⟨rfl, hb⟩
  have HL_ := Aside0.mk (blk_below HL.out hb)
  have HP_ := Aside0.mk (blk_below HP.out hb)
  have HB_ := Aside0.mk (below_step HB.out hb)
  clear hb
  clear HL HP HB
  have HL := HL_
  clear HL_
  have HP := HP_
  clear HP_
  have HB := HB_
  clear HB_
  obtain ⟨p0, p1, p2, pf0, pf1, pf2⟩ := cells3 HP.out
  have ltp := blk_lt HP.out
  go_upto_region 4 with (fail)
  (try simp only [Act.put, List.setIfInBounds_toArray, List.set_cons_zero, List.set_cons_succ])
  clear p0 pf0 p1 pf1 p2 pf2 ltp
  have HL_ := Aside0.mk (blk_alloc HL.out (.cells #[.int .i64 a2_0, .int .i64 a2_1, .slice A L c] 49))
  have HP_ := Aside0.mk (blk_alloc HP.out (.cells #[.int .i64 a2_0, .int .i64 a2_1, .slice A L c] 49))
  have HO_ := Aside0.mk (blk_new w4 (.cells #[.int .i64 a2_0, .int .i64 a2_1, .slice A L c] 49))
  have HB_ := Aside0.mk (below_alloc HB.out (.cells #[.int .i64 a2_0, .int .i64 a2_1, .slice A L c] 49))
  have NEP := Aside0.mk (show gp ≠ w4.heap.size from Nat.ne_of_lt (blk_lt HP.out))
  have NEL := Aside0.mk (show gl ≠ w4.heap.size from Nat.ne_of_lt (blk_lt HL.out))
  have GEO := Aside0.mk (show w.heap.size ≤ w4.heap.size from below_size HB.out)
  clear HL HP HB
  obtain ⟨go, hgo⟩ : ∃ g, w4.heap.size = g := ⟨_, rfl⟩
  rw [hgo] at HO_ NEP NEL GEO ⊢
  clear hgo
  generalize w4.alloc (.cells #[.int .i64 a2_0, .int .i64 a2_1, .slice A L c] 49) = w5 at HL_ HP_ HO_ HB_ ⊢
  have HL := HL_
  clear HL_
  have HP := HP_
  clear HP_
  have HO := HO_
  clear HO_
  have HB := HB_
  clear HB_
  obtain ⟨p0, p1, p2, pf0, pf1, pf2⟩ := cells3 HP.out
  have ltp := blk_lt HP.out
  obtain ⟨o0, o1, o2, of0, of1, of2⟩ := cells3 HO.out
  have lto := blk_lt HO.out
  go_upto_region 5 with (first | ((with_reducible refine gate_dst (N := 26) rfl ?_); refine Kd.R_lit (Kd.int .u8) _ 5 ?hg (N := 26) ?hd (xs := ([] : List Int)) (inner := []) (ok := fun _ => True) (okp := fun _ => True) ?hr ?hp (fun _ hk => hk) trivial (Below.refl _ _) (Nat.le_refl _) (by simp) ?_; (case hd => rfl); (case hg => rfl); (case hr => first | (go_simp; done) | (go_simp; rfl)); (case hp => exact (Reps.none _ _)); intro v26 w6 ho hb hg_ hnew_; clear hg_ hnew_; have HO26 := Aside0.mk (Kd.R_lower ho (below_size (show Below w.heap.size w w5 from HB.out))); have HL_ := Aside0.mk (blk_below HL.out hb); have HP_ := Aside0.mk (blk_below HP.out hb); have HO_ := Aside0.mk (blk_below HO.out hb); have HB_ := Aside0.mk (below_step (show Below w.heap.size w w5 from HB.out) hb); clear HL HP HO HB ho hb; have HL := HL_; have HP := HP_; have HO := HO_; have HB := HB_; clear HL_ HP_ HO_ HB_; clear p0 pf0 p1 pf1 p2 pf2 o0 of0 o1 of1 o2 of2 ltp lto; obtain ⟨p0, p1, p2, pf0, pf1, pf2⟩ := cells3 HP.out; obtain ⟨o0, o1, o2, of0, of1, of2⟩ := cells3 HO.out) | ((with_reducible refine gate_builtin (b := .append) (xs := #[.tmp 26, .tmp 28]) rfl ?_); at_builtin; refine Kd.R_append_rows (Kd.int .u8) (w0 := w) w.heap.size rfl (.tmp 26) (.tmp 28) 25 5 (.int .u8 0) 1 rfl Try.underlying25 PAuthBase.info5 rfl (by decide) (by omega) v26 ([] : List Int) l _ _ _ (fun _ => True) (fun _ => False) rfl rfl ?aO ?aR (fun _ _ h => h) (fun _ h => h.elim) ?aF ?aB ?aS ?aL ?_; (case aR => exact Kd.C_below HCL.out HB.out); (case aB => exact HB.out); (case aF => exact (fun _ _ => trivial)); (case aO => exact HO26.out); (case aS => exact (below_size HB.out)); (case aL => simp; omega); intro v27 w7 ho hb hg hat; rw [List.nil_append] at ho; have HL_ := Aside0.mk (blk_grown HL.out hg (Kd.R_ne HO26.out HL.out (by decide))); have HP_ := Aside0.mk (blk_grown HP.out hg (Kd.R_ne HO26.out HP.out (by decide))); have HO_ := Aside0.mk (blk_grown HO.out hg (Kd.R_ne HO26.out HO.out (by decide))); have HR := Aside0.mk ho; obtain ⟨Ao, co, eo⟩ := Kd.R_slice ho; rw [HLEN.out] at eo; subst eo; have HB_ := Aside0.mk hb; clear HL HP HO HB HO26 ho hb hg hat; have HL := HL_; have HP := HP_; have HO := HO_; have HB := HB_; clear HL_ HP_ HO_ HB_; clear p0 pf0 p1 pf1 p2 pf2 o0 of0 o1 of1 o2 of2; obtain ⟨p0, p1, p2, pf0, pf1, pf2⟩ := cells3 HP.out; obtain ⟨o0, o1, o2, of0, of1, of2⟩ := cells3 HO.out))
  (try simp only [Act.put, List.setIfInBounds_toArray, List.set_cons_zero, List.set_cons_succ])
  have nlo : gl ≠ go := NEL.out
  have npo : gp ≠ go := NEP.out
  have hty : ∀ x, x ∈ (5 : TypeId) :: (Kd.int IntKind.u8).E → x ≠ 49 := fun x hx => by cases hx with | head => decide | tail _ h => cases h
  have yL := blk_far (p := ⟨go, 2, none⟩) HL.out nlo (.slice Ao L co)
  have yP := blk_far (p := ⟨go, 2, none⟩) HP.out npo (.slice Ao L co)
  have yO : (w7.setCell ⟨go, 2, none⟩ (.slice Ao L co)).heap[go]? = some (.cells #[.int .i64 a2_0, .int .i64 a2_1, .slice Ao L co] 49 (0, 0)) := blk_put HO.out 2 _ rfl
  have yR : Kd.R (Kd.int .u8) 5 (w7.setCell ⟨go, 2, none⟩ (.slice Ao L co)) w.heap.size (fun _ => True) (.slice Ao L co) l := Kd.R_set HR.out HO.out hty 2 _
  have yB : Below w.heap.size w (w7.setCell ⟨go, 2, none⟩ (.slice Ao L co)) := HB.out.setCell (p := ⟨go, 2, none⟩) GEO.out _
  clear p0 pf0 p1 pf1 p2 pf2 o0 of0 o1 of1 o2 of2 HL HP HO HR HB hty nlo npo
  generalize (w7.setCell ⟨go, 2, none⟩ (.slice Ao L co)) = w8 at yL yP yO yR yB ⊢
  have HL := Aside0.mk yL
  have HP := Aside0.mk yP
  have HO := Aside0.mk yO
  have HR := Aside0.mk yR
  have HB := Aside0.mk yB
  clear yL yP yO yR yB
  obtain ⟨l0, l1, l2, l3, l4, l5, l6, l7, l8, lf0, lf1, lf2, lf3, lf4, lf5, lf6, lf7, lf8⟩ := cells9 HL.out
  have ltl := blk_lt HL.out
  obtain ⟨o0, o1, o2, of0, of1, of2⟩ := cells3 HO.out
  have lto := blk_lt HO.out
  go_wp2_with fail
  clear l0 lf0 l1 lf1 l2 lf2 l3 lf3 l4 lf4 l5 lf5 l6 lf6 l7 lf7 l8 lf8 ltl
  clear o0 of0 o1 of1 o2 of2 lto
  have qO := Kd.R_reads' HR.out
  have HCO := Aside0.mk qO.2.1
  clear qO
  have cO : Kd.C (Kd.int .u8) w8 Ao L l := by have q := (Kd.R_reads' HR.out).2.2; rwa [HLEN.out] at q
  refine (HX.out _ Ao co cO HCO.out).mono ?_
  rintro e w9 ⟨v9, rfl, hd, hb⟩
  have HL_ := Aside0.mk (blk_below HL.out hb)
  have HP_ := Aside0.mk (blk_below HP.out hb)
  have HO_ := Aside0.mk (blk_below HO.out hb)
  have HR_ := Aside0.mk (Kd.R_below HR.out hb)
  have HB_ := Aside0.mk (below_step HB.out hb)
  clear hb
  clear HL HP HO HR HB
  have HL := HL_
  clear HL_
  have HP := HP_
  clear HP_
  have HO := HO_
  clear HO_
  have HR := HR_
  clear HR_
  have HB := HB_
  clear HB_
  clear cO
  have HD := Aside0.mk hd
  obtain ⟨Ad, cd, rfl, hcd, _⟩ := Kd.R_reads hd
  have HCD := Aside0.mk hcd
  clear hd hcd
  obtain ⟨l0, l1, l2, l3, l4, l5, l6, l7, l8, lf0, lf1, lf2, lf3, lf4, lf5, lf6, lf7, lf8⟩ := cells9 HL.out
  have ltl := blk_lt HL.out
  obtain ⟨o0, o1, o2, of0, of1, of2⟩ := cells3 HO.out
  have lto := blk_lt HO.out
  go_wp2_with fail
  clear l0 lf0 l1 lf1 l2 lf2 l3 lf3 l4 lf4 l5 lf5 l6 lf6 l7 lf7 l8 lf8 ltl
  clear o0 of0 o1 of1 o2 of2 lto
  have cO : Kd.C (Kd.int .u8) w9 Ao L l := by have q := (Kd.R_reads' HR.out).2.2; rwa [HLEN.out] at q
  refine (HY.out _ Ao co (Kd.C_alloc cO _) HCO.out).mono ?_
  rintro e w10 ⟨rfl, hb⟩
  have HL_ := Aside0.mk (blk_below (blk_alloc HL.out _) hb)
  have HP_ := Aside0.mk (blk_below (blk_alloc HP.out _) hb)
  have HO_ := Aside0.mk (blk_below (blk_alloc HO.out _) hb)
  have HR_ := Aside0.mk (Kd.R_below (Kd.R_alloc HR.out _) hb)
  have HD_ := Aside0.mk (Kd.R_below (Kd.R_alloc HD.out _) hb)
  have HXX_ := Aside0.mk (blk_below (blk_new w9 _) hb)
  have HB_ := Aside0.mk (below_step (below_alloc HB.out _) hb)
  clear hb
  clear HL HP HO HR HD HB
  have HL := HL_
  clear HL_
  have HP := HP_
  clear HP_
  have HO := HO_
  clear HO_
  have HR := HR_
  clear HR_
  have HD := HD_
  clear HD_
  have HXX := HXX_
  clear HXX_
  have HB := HB_
  clear HB_
  obtain ⟨gx, hgx⟩ : ∃ g, w9.heap.size = g := ⟨_, rfl⟩
  rw [hgx] at HXX ⊢
  clear hgx
  clear cO
  go_upto_region 7 with (fail)
  (try simp only [Act.put, List.setIfInBounds_toArray, List.set_cons_zero, List.set_cons_succ])
  have HL_ := Aside0.mk (blk_alloc HL.out (.cells #[.int .i64 s0, .int .i64 s1, .bool s2, .bool s3, .bool s4, .int .i64 s5, .string s6, .bool s7, .int .i64 s8] 47))
  have HP_ := Aside0.mk (blk_alloc HP.out (.cells #[.int .i64 s0, .int .i64 s1, .bool s2, .bool s3, .bool s4, .int .i64 s5, .string s6, .bool s7, .int .i64 s8] 47))
  have HO_ := Aside0.mk (blk_alloc HO.out (.cells #[.int .i64 s0, .int .i64 s1, .bool s2, .bool s3, .bool s4, .int .i64 s5, .string s6, .bool s7, .int .i64 s8] 47))
  have HR_ := Aside0.mk (Kd.R_alloc HR.out (.cells #[.int .i64 s0, .int .i64 s1, .bool s2, .bool s3, .bool s4, .int .i64 s5, .string s6, .bool s7, .int .i64 s8] 47))
  have HD_ := Aside0.mk (Kd.R_alloc HD.out (.cells #[.int .i64 s0, .int .i64 s1, .bool s2, .bool s3, .bool s4, .int .i64 s5, .string s6, .bool s7, .int .i64 s8] 47))
  have HXX_ := Aside0.mk (blk_alloc HXX.out (.cells #[.int .i64 s0, .int .i64 s1, .bool s2, .bool s3, .bool s4, .int .i64 s5, .string s6, .bool s7, .int .i64 s8] 47))
  have HYY_ := Aside0.mk (blk_new w10 (.cells #[.int .i64 s0, .int .i64 s1, .bool s2, .bool s3, .bool s4, .int .i64 s5, .string s6, .bool s7, .int .i64 s8] 47))
  have HB_ := Aside0.mk (below_alloc HB.out (.cells #[.int .i64 s0, .int .i64 s1, .bool s2, .bool s3, .bool s4, .int .i64 s5, .string s6, .bool s7, .int .i64 s8] 47))
  clear HL HP HO HR HD HXX HB
  obtain ⟨gy, hgy⟩ : ∃ g, w10.heap.size = g := ⟨_, rfl⟩
  rw [hgy] at HYY_ ⊢
  clear hgy
  generalize w10.alloc (.cells #[.int .i64 s0, .int .i64 s1, .bool s2, .bool s3, .bool s4, .int .i64 s5, .string s6, .bool s7, .int .i64 s8] 47) = w11 at HL_ HP_ HO_ HR_ HD_ HXX_ HYY_ HB_ ⊢
  have HL := HL_
  clear HL_
  have HP := HP_
  clear HP_
  have HO := HO_
  clear HO_
  have HR := HR_
  clear HR_
  have HD := HD_
  clear HD_
  have HXX := HXX_
  clear HXX_
  have HYY := HYY_
  clear HYY_
  have HB := HB_
  clear HB_
  have hcv1 : (convert 25 9 (.slice Ao L co)).run Try.prog w11 = .ok (.string (strOfNums l)) w11 := own_string Try.underlying25 Try.underlying5 Try.underlying9 (Kd.own_of_R HR.out)
  have hcv2 : (convert 25 9 (.slice A L c)).run Try.prog w11 = .ok (.string (strOfNums l)) w11 := Kd.C_string (P := Try.prog) Try.underlying25 Try.underlying5 Try.underlying9 (Kd.C_below HCL.out HB.out)
  obtain ⟨p0, p1, p2, pf0, pf1, pf2⟩ := cells3 HP.out
  have ltp := blk_lt HP.out
  obtain ⟨o0, o1, o2, of0, of1, of2⟩ := cells3 HO.out
  have lto := blk_lt HO.out
  go_wp2_with fail
  clear hcv1 hcv2
  clear p0 pf0 p1 pf1 p2 pf2 ltp
  clear o0 of0 o1 of1 o2 of2 lto
  obtain ⟨bD, hbD⟩ : ∃ b, w8.heap.size = b := ⟨_, rfl⟩
  rw [hbD] at HD
  clear hbD
  go_loopw [12] (fun v12 wr => ∃ (i : Nat) (xs : List Int), v12 = .int .i64 (i : Int) ∧ Aside0 (i ≤ L) ∧ Aside0 (xs.length = L) ∧ Aside0 (Kd.R (Kd.int .u8) 5 wr w.heap.size (fun _ => True) (.slice Ao L co) xs) ∧ Aside0 (wr.heap[gl]? = some (.cells #[.int .i64 a0_0, .int .i64 a0_1, .bool a0_2, .bool a0_3, .bool a0_4, .int .i64 a0_5, .string a0_6, .bool a0_7, .int .i64 a0_8] 47 (0, 0))) ∧ Aside0 (wr.heap[gp]? = some (.cells #[.int .i64 a2_0, .int .i64 a2_1, .slice A L c] 49 (0, 0))) ∧ Aside0 (wr.heap[go]? = some (.cells #[.int .i64 a2_0, .int .i64 a2_1, .slice Ao L co] 49 (0, 0))) ∧ Aside0 (wr.heap[gx]? = some (.cells #[.int .i64 r0, .int .i64 r1, .bool r2, .bool r3, .bool r4, .int .i64 r5, .string r6, .bool r7, .int .i64 r8] 47 (0, 0))) ∧ Aside0 (wr.heap[gy]? = some (.cells #[.int .i64 s0, .int .i64 s1, .bool s2, .bool s3, .bool s4, .int .i64 s5, .string s6, .bool s7, .int .i64 s8] 47 (0, 0))) ∧ Aside0 (Kd.R PAuthBase.k60 60 wr bD (fun _ => True) (.slice Ad D.length cd) D) ∧ Aside0 (Below w.heap.size w wr)) (fun v12 _ => L - (intOf v12).toNat)
  case atStart => exact ⟨0, l, rfl, ⟨Nat.zero_le _⟩, HLEN, HR, HL, HP, HO, HXX, HYY, HD, HB⟩
  case round =>
    clear HL HP HO HXX HYY HD HB HR
    obtain ⟨i, xs, rfl, HI, HXL, HR, HL, HP, HO, HXX, HYY, HD, HB⟩ := hrel
    by_cases hlt : i < L
    · have hb0 : (0 : Int) ≤ (i : Int) := by omega
      have hb1 : (i : Int) < (L : Int) := by omega
      have hxl := HXL.out
      obtain ⟨gr, cr, er, gbr, glr, _⟩ := Kd.R_form HR.out (by omega)
      simp only [Value.slice.injEq] at er
      obtain ⟨rfl, _, rfl⟩ := er
      obtain ⟨hx0, hf0⟩ := Kd.R_celln 0 (Kd.R_drew HR.out) (i : Int) hb0 hb1
      rw [Int.toNat_natCast] at hx0 hf0
      generalize hx : rdOf (0 : Int) xs (i : Int) = x at hx0
      clear hx
      have HPUT := Aside0.mk (Kd.R_putg HR.out (i : Int) ((x + 1) % 256))
      rw [Int.toNat_natCast] at HPUT
      have HX0 := Aside0.mk hx0
      have HF0 := Aside0.mk hf0
      have GBR := Aside0.mk gbr
      clear gbr glr hx0 hf0 hxl
      have NHL := Aside0.mk (Kd.R_ne HR.out HL.out (by decide))
      have NHP := Aside0.mk (Kd.R_ne HR.out HP.out (by decide))
      have NHO := Aside0.mk (Kd.R_ne HR.out HO.out (by decide))
      have NHXX := Aside0.mk (Kd.R_ne HR.out HXX.out (by decide))
      have NHYY := Aside0.mk (Kd.R_ne HR.out HYY.out (by decide))
      have HDN := Aside0.mk (show ∀ x, x ∈ (60 : TypeId) :: PAuthBase.k60.E → x ≠ 5 from fun x hx => by cases hx with | head => decide | tail _ h => cases h)
      obtain ⟨o0, o1, o2, of0, of1, of2⟩ := cells3 HO.out
      go_wp2_with fail
      refine start_ (n := 11) (S := fun w' => w'.cell? ⟨go, 2, none⟩ = some (.slice (some ⟨gr, 0, none⟩) L co) ∧ w'.cell? ⟨gr, i, none⟩ = some (.int .u8 x)) (ds := [10]) #[false, false, false, false, false, false, false, false, false, false, false] (by kernel_rfl) rfl rfl ⟨o2, HX0.out⟩ (fun hHeld => ?_)
      refine pure_ (i := 0) (N := some 59) (v := ?_) (a' := ?_) #[true, false, false, false, false, false, false, false, false, false, false] rfl rfl (by kernel_rfl) (fun _ _ _ h => h) (Or.inl ⟨by rfl, ?_⟩) ?_ ?_
      rotate_left
      · intro w'
        go_simp
        with_reducible rfl
      rotate_left
      · simp only [Act.put, List.setIfInBounds_toArray, List.set_cons_zero, List.set_cons_succ, i64_w, i32_w]
        rfl
      refine pure_ (i := 2) (N := some 61) (v := ?_) (a' := ?_) #[true, false, true, false, false, false, false, false, false, false, false] rfl rfl (by kernel_rfl) (fun _ _ _ h => h) (Or.inl ⟨by rfl, ?_⟩) ?_ ?_
      rotate_left
      · intro w'
        go_simp
        with_reducible rfl
      rotate_left
      · simp only [Act.put, List.setIfInBounds_toArray, List.set_cons_zero, List.set_cons_succ, i64_w, i32_w]
        rfl
      refine pure_ (i := 3) (N := some 62) (v := ?_) (a' := ?_) #[true, false, true, true, false, false, false, false, false, false, false] rfl rfl (by kernel_rfl) (fun _ _ _ h => h) (Or.inl ⟨by rfl, ?_⟩) ?_ ?_
      rotate_left
      · intro w'
        go_simp
        with_reducible rfl
      rotate_left
      · simp only [Act.put, List.setIfInBounds_toArray, List.set_cons_zero, List.set_cons_succ, i64_w, i32_w]
        rfl
      refine pure_ (i := 5) (N := some 64) (v := ?_) (a' := ?_) #[true, false, true, true, false, true, false, false, false, false, false] rfl rfl (by kernel_rfl) (fun _ _ _ h => h) (Or.inl ⟨by rfl, ?_⟩) ?_ ?_
      rotate_left
      · intro w'
        go_simp
        with_reducible rfl
      rotate_left
      · simp only [Act.put, List.setIfInBounds_toArray, List.set_cons_zero, List.set_cons_succ, i64_w, i32_w]
        rfl
      refine take_ (i := 1) (N := some 60) (v := ?_) (a' := ?_) #[true, true, true, true, false, true, false, false, false, false, false] rfl rfl (by kernel_rfl) (fun _ _ _ h => h) (Or.inl ⟨by rfl, ?_⟩) hHeld ?_ ?_
      rotate_left
      · rintro w' ⟨s0, s1⟩
        go_simp
        with_reducible rfl
      rotate_left
      · simp only [Act.put, List.setIfInBounds_toArray, List.set_cons_zero, List.set_cons_succ, i64_w, i32_w]
        rfl
      refine take_ (i := 4) (N := some 63) (v := ?_) (a' := ?_) #[true, true, true, true, true, true, false, false, false, false, false] rfl rfl (by kernel_rfl) (fun _ _ _ h => h) (Or.inl ⟨by rfl, ?_⟩) hHeld ?_ ?_
      rotate_left
      · rintro w' ⟨s0, s1⟩
        go_simp
        with_reducible rfl
      rotate_left
      · simp only [Act.put, List.setIfInBounds_toArray, List.set_cons_zero, List.set_cons_succ, i64_w, i32_w]
        rfl
      refine pure_ (i := 6) (N := some 65) (v := ?_) (a' := ?_) #[true, true, true, true, true, true, true, false, false, false, false] rfl rfl (by kernel_rfl) (fun _ _ _ h => h) (Or.inl ⟨by rfl, ?_⟩) ?_ ?_
      rotate_left
      · intro w'
        go_simp
        with_reducible rfl
      rotate_left
      · simp only [Act.put, List.setIfInBounds_toArray, List.set_cons_zero, List.set_cons_succ, i64_w, i32_w]
        rfl
      refine take_ (i := 7) (N := some 66) (v := ?_) (a' := ?_) #[true, true, true, true, true, true, true, true, false, false, false] rfl rfl (by kernel_rfl) (fun _ _ _ h => h) (Or.inl ⟨by rfl, ?_⟩) hHeld ?_ ?_
      rotate_left
      · rintro w' ⟨s0, s1⟩
        go_simp
        with_reducible rfl
      rotate_left
      · simp only [Act.put, List.setIfInBounds_toArray, List.set_cons_zero, List.set_cons_succ, i64_w, i32_w]
        rfl
      refine pure_ (i := 8) (N := some 67) (v := ?_) (a' := ?_) #[true, true, true, true, true, true, true, true, true, false, false] rfl rfl (by kernel_rfl) (fun _ _ _ h => h) (Or.inl ⟨by rfl, ?_⟩) ?_ ?_
      rotate_left
      · intro w'
        go_simp
        with_reducible rfl
      rotate_left
      · simp only [Act.put, List.setIfInBounds_toArray, List.set_cons_zero, List.set_cons_succ, i64_w, i32_w]
        rfl
      refine pure_ (i := 9) (N := some 68) (v := ?_) (a' := ?_) #[true, true, true, true, true, true, true, true, true, true, false] rfl rfl (by kernel_rfl) (fun _ _ _ h => h) (Or.inl ⟨by rfl, ?_⟩) ?_ ?_
      rotate_left
      · intro w'
        go_simp
        with_reducible rfl
      rotate_left
      · simp only [Act.put, List.setIfInBounds_toArray, List.set_cons_zero, List.set_cons_succ, i64_w, i32_w]
        rfl
      refine last_ (i := 10) (N := none) #[true, true, true, true, true, true, true, true, true, true, true] rfl rfl (by kernel_rfl) (by decide) (fun K hK => ?_)
      have hx0 := HX0.out
      have hf0 := HF0.out
      refine skip_ (w1 := ?_) (by rfl) rfl ?_ ?_
      rotate_left
      · go_simp
        rfl
      refine hK.out _ _ ?_
      clear hK K
      refine done_ (by kernel_rfl) ?_
      clear o0 o1 o2 of0 of1 of2
      have hput := HPUT.out
      have yB := below_drew1 (HB.out.setCell (p := ⟨gr, i, none⟩) GBR.out (.int .u8 ((x + 1) % 256)))
      have yHL := blk_drew (blk_grown HL.out hput.2 NHL.out)
      have yHP := blk_drew (blk_grown HP.out hput.2 NHP.out)
      have yHO := blk_drew (blk_grown HO.out hput.2 NHO.out)
      have yHXX := blk_drew (blk_grown HXX.out hput.2 NHXX.out)
      have yHYY := blk_drew (blk_grown HYY.out hput.2 NHYY.out)
      have yD := Kd.R_drew (Kd.R_over HD.out HR.out HDN.out hput.2)
      have yR := Kd.R_drew hput.1
      have yX := (xs.length_set (i := i) (a := (x + 1) % 256)).trans HXL.out
      clear hput HPUT HL HP HO HXX HYY HD HR HB NHL NHP NHO NHXX NHYY HDN HX0 HF0
      have TB := Aside0.mk yB
      have THL := Aside0.mk yHL
      have THP := Aside0.mk yHP
      have THO := Aside0.mk yHO
      have THXX := Aside0.mk yHXX
      have THYY := Aside0.mk yHYY
      have TD := Aside0.mk yD
      have TR := Aside0.mk yR
      have TX := Aside0.mk yX
      clear yB yHL yHP yHO yHXX yHYY yD yR yX
      go_wp2_with fail
      go_roundw
      case rel => exact ⟨i + 1, _, by go_num, ⟨by omega⟩, TX, TR, THL, THP, THO, THXX, THYY, TD, TB⟩
      case measure => simp [intOf]; omega
    · have hge : ¬ (i : Int) < (L : Int) := by omega
      obtain ⟨o0, o1, o2, of0, of1, of2⟩ := cells3 HO.out
      obtain ⟨l0, l1, l2, l3, l4, l5, l6, l7, l8, lf0, lf1, lf2, lf3, lf4, lf5, lf6, lf7, lf8⟩ := cells9 HL.out
      have ltl := blk_lt HL.out
      obtain ⟨p0, p1, p2, pf0, pf1, pf2⟩ := cells3 HP.out
      have ltp := blk_lt HP.out
      go_wp2_with fail
      clear l0 lf0 l1 lf1 l2 lf2 l3 lf3 l4 lf4 l5 lf5 l6 lf6 l7 lf7 l8 lf8 ltl
      clear p0 pf0 p1 pf1 p2 pf2 ltp
      refine (HRH.out _ HB.out).mono ?_
      rintro e w12 ⟨v12, rfl, he, hb⟩
      have HL_ := Aside0.mk (blk_below HL.out hb)
      have HP_ := Aside0.mk (blk_below HP.out hb)
      have HXX_ := Aside0.mk (blk_below HXX.out hb)
      have HYY_ := Aside0.mk (blk_below HYY.out hb)
      have HD_ := Aside0.mk (Kd.R_below HD.out hb)
      have HB_ := Aside0.mk (below_step HB.out hb)
      clear hb
      clear HL HP HXX HYY HD HB
      have HL := HL_
      clear HL_
      have HP := HP_
      clear HP_
      have HXX := HXX_
      clear HXX_
      have HYY := HYY_
      clear HYY_
      have HD := HD_
      clear HD_
      have HB := HB_
      clear HB_
      have HE := Aside0.mk he
      obtain ⟨Ae, ce, rfl, hce, _⟩ := Kd.R_reads he
      have HCE := Aside0.mk hce
      clear he hce
      obtain ⟨l0, l1, l2, l3, l4, l5, l6, l7, l8, lf0, lf1, lf2, lf3, lf4, lf5, lf6, lf7, lf8⟩ := cells9 HL.out
      have ltl := blk_lt HL.out
      obtain ⟨p0, p1, p2, pf0, pf1, pf2⟩ := cells3 HP.out
      have ltp := blk_lt HP.out
      go_wp2_with fail
      clear l0 lf0 l1 lf1 l2 lf2 l3 lf3 l4 lf4 l5 lf5 l6 lf6 l7 lf7 l8 lf8 ltl
      clear p0 pf0 p1 pf1 p2 pf2 ltp
      refine (HRB.out _ (below_alloc HB.out _)).mono ?_
      rintro e w13 ⟨rfl, hb⟩
      have HL_ := Aside0.mk (blk_below (blk_alloc HL.out _) hb)
      have HP_ := Aside0.mk (blk_below (blk_alloc HP.out _) hb)
      have HXX_ := Aside0.mk (blk_below (blk_alloc HXX.out _) hb)
      have HYY_ := Aside0.mk (blk_below (blk_alloc HYY.out _) hb)
      have HD_ := Aside0.mk (Kd.R_below (Kd.R_alloc HD.out _) hb)
      have HE_ := Aside0.mk (Kd.R_below (Kd.R_alloc HE.out _) hb)
      have HZZ_ := Aside0.mk (blk_below (blk_new w12 _) hb)
      have HB_ := Aside0.mk (below_step (below_alloc HB.out _) hb)
      clear hb
      clear HL HP HXX HYY HD HE HB
      have HL := HL_
      clear HL_
      have HP := HP_
      clear HP_
      have HXX := HXX_
      clear HXX_
      have HYY := HYY_
      clear HYY_
      have HD := HD_
      clear HD_
      have HE := HE_
      clear HE_
      have HZZ := HZZ_
      clear HZZ_
      have HB := HB_
      clear HB_
      obtain ⟨gz, hgz⟩ : ∃ g, w12.heap.size = g := ⟨_, rfl⟩
      rw [hgz] at HZZ ⊢
      clear hgz
      go_upto_region 15 with (fail)
      (try simp only [Act.put, List.setIfInBounds_toArray, List.set_cons_zero, List.set_cons_succ])
      have HXX_ := Aside0.mk (blk_alloc HXX.out (.cells #[.int .i64 s0, .int .i64 s1, .bool s2, .bool s3, .bool s4, .int .i64 s5, .string s6, .bool s7, .int .i64 s8] 47))
      have HYY_ := Aside0.mk (blk_alloc HYY.out (.cells #[.int .i64 s0, .int .i64 s1, .bool s2, .bool s3, .bool s4, .int .i64 s5, .string s6, .bool s7, .int .i64 s8] 47))
      have HZZ_ := Aside0.mk (blk_alloc HZZ.out (.cells #[.int .i64 s0, .int .i64 s1, .bool s2, .bool s3, .bool s4, .int .i64 s5, .string s6, .bool s7, .int .i64 s8] 47))
      have HD_ := Aside0.mk (Kd.R_alloc HD.out (.cells #[.int .i64 s0, .int .i64 s1, .bool s2, .bool s3, .bool s4, .int .i64 s5, .string s6, .bool s7, .int .i64 s8] 47))
      have HE_ := Aside0.mk (Kd.R_alloc HE.out (.cells #[.int .i64 s0, .int .i64 s1, .bool s2, .bool s3, .bool s4, .int .i64 s5, .string s6, .bool s7, .int .i64 s8] 47))
      have HWW_ := Aside0.mk (blk_new w13 (.cells #[.int .i64 s0, .int .i64 s1, .bool s2, .bool s3, .bool s4, .int .i64 s5, .string s6, .bool s7, .int .i64 s8] 47))
      have HB_ := Aside0.mk (below_alloc HB.out (.cells #[.int .i64 s0, .int .i64 s1, .bool s2, .bool s3, .bool s4, .int .i64 s5, .string s6, .bool s7, .int .i64 s8] 47))
      clear HXX HYY HZZ HD HE HB
      obtain ⟨gw, hgw⟩ : ∃ g, w13.heap.size = g := ⟨_, rfl⟩
      rw [hgw] at HWW_ ⊢
      clear hgw
      generalize w13.alloc (.cells #[.int .i64 s0, .int .i64 s1, .bool s2, .bool s3, .bool s4, .int .i64 s5, .string s6, .bool s7, .int .i64 s8] 47) = w14 at HXX_ HYY_ HZZ_ HD_ HE_ HWW_ HB_ ⊢
      have HXX := HXX_
      clear HXX_
      have HYY := HYY_
      clear HYY_
      have HZZ := HZZ_
      clear HZZ_
      have HD := HD_
      clear HD_
      have HE := HE_
      clear HE_
      have HWW := HWW_
      clear HWW_
      have HB := HB_
      clear HB_
      obtain ⟨x0, x1, x2, x3, x4, x5, x6, x7, x8, xf0, xf1, xf2, xf3, xf4, xf5, xf6, xf7, xf8⟩ := cells9 HXX.out
      have ltx := blk_lt HXX.out
      obtain ⟨z0, z1, z2, z3, z4, z5, z6, z7, z8, zf0, zf1, zf2, zf3, zf4, zf5, zf6, zf7, zf8⟩ := cells9 HZZ.out
      have ltz := blk_lt HZZ.out
      obtain ⟨y0, y1, y2, y3, y4, y5, y6, y7, y8, yf0, yf1, yf2, yf3, yf4, yf5, yf6, yf7, yf8⟩ := cells9 HYY.out
      have lty := blk_lt HYY.out
      obtain ⟨v0, v1, v2, v3, v4, v5, v6, v7, v8, vf0, vf1, vf2, vf3, vf4, vf5, vf6, vf7, vf8⟩ := cells9 HWW.out
      have ltv := blk_lt HWW.out
      go_wp2_with (first | (go_at_call 24; refine (HSM.out _ Ad cd Ae ce (Kd.R_reads' HD.out).2.2 HCD.out (Kd.R_reads' HE.out).2.2 HCE.out).mono ?_; rintro e w15 ⟨rfl, hds⟩; have hb := hds.below; have HY2 := Aside0.mk (blk_below HYY.out hb); have HW2 := Aside0.mk (blk_below HWW.out hb); have HB2 := Aside0.mk (below_step HB.out hb); clear hb hds; clear x0 xf0 x1 xf1 x2 xf2 x3 xf3 x4 xf4 x5 xf5 x6 xf6 x7 xf7 x8 xf8 z0 zf0 z1 zf1 z2 zf2 z3 zf3 z4 zf4 z5 zf5 z6 zf6 z7 zf7 z8 zf8 y0 yf0 y1 yf1 y2 yf2 y3 yf3 y4 yf4 y5 yf5 y6 yf6 y7 yf7 y8 yf8 v0 vf0 v1 vf1 v2 vf2 v3 vf3 v4 vf4 v5 vf5 v6 vf6 v7 vf7 v8 vf8; obtain ⟨y0, y1, y2, y3, y4, y5, y6, y7, y8, yf0, yf1, yf2, yf3, yf4, yf5, yf6, yf7, yf8⟩ := cells9 HY2.out; obtain ⟨v0, v1, v2, v3, v4, v5, v6, v7, v8, vf0, vf1, vf2, vf3, vf4, vf5, vf6, vf7, vf8⟩ := cells9 HW2.out))
      go_ret
      exact ⟨rfl, HB2.out⟩
end Go.Proofs.Ytglbaeikklkghaa.AuthHand
