/-
  The law AuthHears by hand: the walk, over its calls.
-/
import Derived.Test.YtglbaeikklkghaaAuthRef0
namespace Go.Proofs.Ytglbaeikklkghaa.AuthHand
open Go.RowKit Go.Lib Go.Proofs.YtglbaeikklkghaaW.PrintWords Go.Proofs.YtglbaeikklkghaaW.PrintLast Go.Proofs.YtglbaeikklkghaaW.PrintMore Go.Proofs.Ytglbaeikklkghaa.Kit
set_option linter.unusedVariables false
set_option linter.unusedSimpArgs false
theorem eqL (d : Nat) (w : World) (x0 y0 : Int) (x1 y1 : Int) (x2 y2 : Bool) (x3 y3 : Bool) (x4 y4 : Bool) (x5 y5 : Int) (x6 y6 : ByteArray) (x7 y7 : Bool) (x8 y8 : Int) :
    (Op.equalIn (d + 2) 47 (.agg #[.int .i64 x0, .int .i64 x1, .bool x2, .bool x3, .bool x4, .int .i64 x5, .string x6, .bool x7, .int .i64 x8]) (.agg #[.int .i64 y0, .int .i64 y1, .bool y2, .bool y3, .bool y4, .int .i64 y5, .string y6, .bool y7, .int .i64 y8])).run Try.prog w = .ok (x0 == y0 && (x1 == y1 && (x2 == y2 && (x3 == y3 && (x4 == y4 && (x5 == y5 && (x6.toList == y6.toList && (x7 == y7 && (x8 == y8))))))))) w := by
  refine eqA_of Try.underlying47 (by kernel_rfl) ?_
  refine eqf_cons (by rfl) (by go_simp; rfl) (by go_simp; rfl) (by go_simp) ?_
  refine eqf_cons (by rfl) (by go_simp; rfl) (by go_simp; rfl) (by go_simp) ?_
  refine eqf_cons (by rfl) (by go_simp; rfl) (by go_simp; rfl) (by go_simp) ?_
  refine eqf_cons (by rfl) (by go_simp; rfl) (by go_simp; rfl) (by go_simp) ?_
  refine eqf_cons (by rfl) (by go_simp; rfl) (by go_simp; rfl) (by go_simp) ?_
  refine eqf_cons (by rfl) (by go_simp; rfl) (by go_simp; rfl) (by go_simp) ?_
  refine eqf_cons (by rfl) (by go_simp; rfl) (by go_simp; rfl) (by go_simp) ?_
  refine eqf_cons (by rfl) (by go_simp; rfl) (by go_simp; rfl) (by go_simp) ?_
  exact eqf_last (by rfl) (by go_simp; rfl) (by go_simp; rfl) (by go_simp)
attribute [local go_sem high] eqL
set_option maxRecDepth 100000 in
set_option maxHeartbeats 4000000 in
theorem AuthHears_no (a0_0 a0_1 : Int) (a0_2 a0_3 a0_4 : Bool) (a0_5 : Int) (a0_6 : ByteArray) (a0_7 : Bool) (a0_8 a1 a2_0 a2_1 : Int) (A : Option Addr) (c L : Nat) (w : World) (HAW : Aside0 (∀ W, Below w.heap.size w W → Calls Try.prog 20 #[] W fun e w' => e = .returned (.bool true) ∧ Below W.heap.size W w')) (HMY : Aside0 (∀ W, Below w.heap.size w W → Calls Try.prog 21 #[.agg #[.int .i64 a2_0, .int .i64 a2_1, .slice A L c]] W fun e w' => e = .returned (.bool false) ∧ Below W.heap.size W w')) :
    Calls Try.prog 8 #[.agg #[.int .i64 a0_0, .int .i64 a0_1, .bool a0_2, .bool a0_3, .bool a0_4, .int .i64 a0_5, .string a0_6, .bool a0_7, .int .i64 a0_8], .int .i64 a1, .agg #[.int .i64 a2_0, .int .i64 a2_1, .slice A L c]] w fun e w' => e = .returned (.bool true) ∧ Below w.heap.size w w' := by
  have HB := Aside0.mk (Below.refl w.heap.size w)
  go_enter Try.func8, Try.ntmps8
  go_wp2_with (first | ((with_reducible refine gate_dst (N := 3) rfl ?_); refine' box_event ?hg (N := 3) ?hd (t := 47) ?hr ?_; (case hd => rfl); (case hg => rfl); (case hr => first | (go_simp; done) | (go_simp; rfl)); intro gl hgn w1 hbox hbn; have HB_ := Aside0.mk (below_step (show Below w.heap.size w w from HB.out) hbn); have GEgl := Aside0.mk (show w.heap.size ≤ gl from Nat.le_trans (below_size (show Below w.heap.size w w from HB.out)) (Nat.le_of_eq hgn.symm)); clear HB; have HB := HB_; clear HB_; have HL := Aside0.mk hbox; clear hbox hbn hgn; obtain ⟨l0, l1, l2, l3, l4, l5, l6, l7, l8, lf0, lf1, lf2, lf3, lf4, lf5, lf6, lf7, lf8⟩ := cells9 HL.out) | ((with_reducible refine gate_dst (N := 5) rfl ?_); refine' box_event ?hg (N := 5) ?hd (t := 49) ?hr ?_; (case hd => rfl); (case hg => rfl); (case hr => first | (go_simp; done) | (go_simp; rfl)); intro gp hgn w2 hbox hbn; have nglgp : gl ≠ gp := Nat.ne_of_lt (Nat.lt_of_lt_of_eq (blk_lt HL.out) hgn.symm); have ngpgl : gp ≠ gl := fun e_ => nglgp e_.symm; clear l0 lf0 l1 lf1 l2 lf2 l3 lf3 l4 lf4 l5 lf5 l6 lf6 l7 lf7 l8 lf8; have HL_ := Aside0.mk (blk_below HL.out hbn); clear HL; have HL := HL_; clear HL_; have HB_ := Aside0.mk (below_step (show Below w.heap.size w w1 from HB.out) hbn); have GEgp := Aside0.mk (show w.heap.size ≤ gp from Nat.le_trans (below_size (show Below w.heap.size w w1 from HB.out)) (Nat.le_of_eq hgn.symm)); clear HB; have HB := HB_; clear HB_; have HP := Aside0.mk hbox; clear hbox hbn hgn; obtain ⟨p0, p1, p2, pf0, pf1, pf2⟩ := cells3 HP.out; obtain ⟨l0, l1, l2, l3, l4, l5, l6, l7, l8, lf0, lf1, lf2, lf3, lf4, lf5, lf6, lf7, lf8⟩ := cells9 HL.out))
  clear l0 lf0 l1 lf1 l2 lf2 l3 lf3 l4 lf4 l5 lf5 l6 lf6 l7 lf7 l8 lf8 p0 pf0 p1 pf1 p2 pf2
  refine (HAW.out _ HB.out).mono ?_
  rintro e w3 ⟨rfl, hb⟩
  have HL_ := Aside0.mk (blk_below HL.out hb)
  have HP_ := Aside0.mk (blk_below HP.out hb)
  have HB_ := Aside0.mk (below_step HB.out hb)
  clear hb
  clear HL HP HB
  have HL := HL_
  clear HL_
  have HP := HP_
  clear HP_
  have HB := HB_
  clear HB_
  obtain ⟨p0, p1, p2, pf0, pf1, pf2⟩ := cells3 HP.out
  have ltp := blk_lt HP.out
  go_wp2_with fail
  clear p0 pf0 p1 pf1 p2 pf2 ltp
  refine (HMY.out _ HB.out).mono ?_
  rintro e w4 ⟨rfl, hb⟩
  have HL_ := Aside0.mk (blk_below HL.out hb)
  have HP_ := Aside0.mk (blk_below HP.out hb)
  have HB_ := Aside0.mk (below_step HB.out hb)
  clear hb
  clear HL HP HB
  have HL := HL_
  clear HL_
  have HP := HP_
  clear HP_
  have HB := HB_
  clear HB_
  go_wp2_with fail
  refine (HAW.out _ HB.out).mono ?_
  rintro e w5 ⟨rfl, hb⟩
  have HL_ := Aside0.mk (blk_below HL.out hb)
  have HP_ := Aside0.mk (blk_below HP.out hb)
  have HB_ := Aside0.mk (below_step HB.out hb)
  clear hb
  clear HL HP HB
  have HL := HL_
  clear HL_
  have HP := HP_
  clear HP_
  have HB := HB_
  clear HB_
  go_wp2_with fail
  go_ret
  exact ⟨rfl, HB.out⟩
set_option maxRecDepth 100000 in
set_option maxHeartbeats 8000000 in
theorem AuthHears_yes (a0_0 a0_1 : Int) (a0_2 a0_3 a0_4 : Bool) (a0_5 : Int) (a0_6 : ByteArray) (a0_7 : Bool) (a0_8 a1 a2_0 a2_1 : Int) (A : Option Addr) (c L : Nat) (r0 r1 : Int) (r2 r3 r4 : Bool) (r5 : Int) (r6 : ByteArray) (r7 : Bool) (r8 : Int) (D : List PAuthBase.S60) (k : Bool) (w : World) (HAW : Aside0 (∀ W, Below w.heap.size w W → Calls Try.prog 20 #[] W fun e w' => e = .returned (.bool true) ∧ Below W.heap.size W w')) (HMY : Aside0 (∀ W, Below w.heap.size w W → Calls Try.prog 21 #[.agg #[.int .i64 a2_0, .int .i64 a2_1, .slice A L c]] W fun e w' => e = .returned (.bool true) ∧ Below W.heap.size W w')) (HX : Aside0 (∀ W, Below w.heap.size w W → Calls Try.prog 22 #[.agg #[.int .i64 a0_0, .int .i64 a0_1, .bool a0_2, .bool a0_3, .bool a0_4, .int .i64 a0_5, .string a0_6, .bool a0_7, .int .i64 a0_8], .int .i64 a1, .agg #[.int .i64 a2_0, .int .i64 a2_1, .slice A L c]] W fun e w' => ∃ v9_ : Value, e = .returned (.tuple #[.agg #[.int .i64 r0, .int .i64 r1, .bool r2, .bool r3, .bool r4, .int .i64 r5, .string r6, .bool r7, .int .i64 r8], v9_]) ∧ Kd.R PAuthBase.k60 60 w' W.heap.size (fun _ => True) v9_ D ∧ Below W.heap.size W w')) (HY : Aside0 (∀ W, Below w.heap.size w W → Calls Try.prog 23 #[.agg #[.int .i64 a0_0, .int .i64 a0_1, .bool a0_2, .bool a0_3, .bool a0_4, .int .i64 a0_5, .string a0_6, .bool a0_7, .int .i64 a0_8], .int .i64 a1, .agg #[.int .i64 a2_0, .int .i64 a2_1, .slice A L c]] W fun e w' => ∃ v9_ : Value, e = .returned (.tuple #[.agg #[.int .i64 r0, .int .i64 r1, .bool r2, .bool r3, .bool r4, .int .i64 r5, .string r6, .bool r7, .int .i64 r8], v9_]) ∧ Kd.R PAuthBase.k60 60 w' W.heap.size (fun _ => True) v9_ D ∧ Below W.heap.size W w')) (HSM : Aside0 (∀ W A1 c1 A2 c2, Kd.C PAuthBase.k60 W A1 D.length D → D.length ≤ c1 → Kd.C PAuthBase.k60 W A2 D.length D → D.length ≤ c2 → Calls Try.prog 24 #[.slice A1 D.length c1, .slice A2 D.length c2] W fun e w' => e = .returned (.bool true) ∧ Drawn0 W w')) (HDA : Aside0 (∀ W, Below w.heap.size w W → Calls Try.prog 25 #[.agg #[.int .i64 a0_0, .int .i64 a0_1, .bool a0_2, .bool a0_3, .bool a0_4, .int .i64 a0_5, .string a0_6, .bool a0_7, .int .i64 a0_8]] W fun e w' => e = .returned (.bool k) ∧ Below W.heap.size W w')) (HDR : Aside0 (∀ W, Below w.heap.size w W → Calls Try.prog 26 #[.agg #[.int .i64 a0_0, .int .i64 a0_1, .bool a0_2, .bool a0_3, .bool a0_4, .int .i64 a0_5, .string a0_6, .bool a0_7, .int .i64 a0_8]] W fun e w' => e = .returned (.bool k) ∧ Below W.heap.size W w')) :
    Calls Try.prog 8 #[.agg #[.int .i64 a0_0, .int .i64 a0_1, .bool a0_2, .bool a0_3, .bool a0_4, .int .i64 a0_5, .string a0_6, .bool a0_7, .int .i64 a0_8], .int .i64 a1, .agg #[.int .i64 a2_0, .int .i64 a2_1, .slice A L c]] w fun e w' => e = .returned (.bool true) ∧ Below w.heap.size w w' := by
  have HB := Aside0.mk (Below.refl w.heap.size w)
  go_enter Try.func8, Try.ntmps8
  go_wp2_with (first | ((with_reducible refine gate_dst (N := 3) rfl ?_); refine' box_event ?hg (N := 3) ?hd (t := 47) ?hr ?_; (case hd => rfl); (case hg => rfl); (case hr => first | (go_simp; done) | (go_simp; rfl)); intro gl hgn w1 hbox hbn; have HB_ := Aside0.mk (below_step (show Below w.heap.size w w from HB.out) hbn); have GEgl := Aside0.mk (show w.heap.size ≤ gl from Nat.le_trans (below_size (show Below w.heap.size w w from HB.out)) (Nat.le_of_eq hgn.symm)); clear HB; have HB := HB_; clear HB_; have HL := Aside0.mk hbox; clear hbox hbn hgn; obtain ⟨l0, l1, l2, l3, l4, l5, l6, l7, l8, lf0, lf1, lf2, lf3, lf4, lf5, lf6, lf7, lf8⟩ := cells9 HL.out) | ((with_reducible refine gate_dst (N := 5) rfl ?_); refine' box_event ?hg (N := 5) ?hd (t := 49) ?hr ?_; (case hd => rfl); (case hg => rfl); (case hr => first | (go_simp; done) | (go_simp; rfl)); intro gp hgn w2 hbox hbn; have nglgp : gl ≠ gp := Nat.ne_of_lt (Nat.lt_of_lt_of_eq (blk_lt HL.out) hgn.symm); have ngpgl : gp ≠ gl := fun e_ => nglgp e_.symm; clear l0 lf0 l1 lf1 l2 lf2 l3 lf3 l4 lf4 l5 lf5 l6 lf6 l7 lf7 l8 lf8; have HL_ := Aside0.mk (blk_below HL.out hbn); clear HL; have HL := HL_; clear HL_; have HB_ := Aside0.mk (below_step (show Below w.heap.size w w1 from HB.out) hbn); have GEgp := Aside0.mk (show w.heap.size ≤ gp from Nat.le_trans (below_size (show Below w.heap.size w w1 from HB.out)) (Nat.le_of_eq hgn.symm)); clear HB; have HB := HB_; clear HB_; have HP := Aside0.mk hbox; clear hbox hbn hgn; obtain ⟨p0, p1, p2, pf0, pf1, pf2⟩ := cells3 HP.out; obtain ⟨l0, l1, l2, l3, l4, l5, l6, l7, l8, lf0, lf1, lf2, lf3, lf4, lf5, lf6, lf7, lf8⟩ := cells9 HL.out))
  clear l0 lf0 l1 lf1 l2 lf2 l3 lf3 l4 lf4 l5 lf5 l6 lf6 l7 lf7 l8 lf8 p0 pf0 p1 pf1 p2 pf2
  refine (HAW.out _ HB.out).mono ?_
  rintro e w3 ⟨rfl, hb⟩
  have HL_ := Aside0.mk (blk_below HL.out hb)
  have HP_ := Aside0.mk (blk_below HP.out hb)
  have HB_ := Aside0.mk (below_step HB.out hb)
  clear hb
  clear HL HP HB
  have HL := HL_
  clear HL_
  have HP := HP_
  clear HP_
  have HB := HB_
  clear HB_
  obtain ⟨p0, p1, p2, pf0, pf1, pf2⟩ := cells3 HP.out
  have ltp := blk_lt HP.out
  go_wp2_with fail
  clear p0 pf0 p1 pf1 p2 pf2 ltp
  refine (HMY.out _ HB.out).mono ?_
  rintro e w4 ⟨rfl, hb⟩
  have HL_ := Aside0.mk (blk_below HL.out hb)
  have HP_ := Aside0.mk (blk_below HP.out hb)
  have HB_ := Aside0.mk (below_step HB.out hb)
  clear hb
  clear HL HP HB
  have HL := HL_
  clear HL_
  have HP := HP_
  clear HP_
  have HB := HB_
  clear HB_
  obtain ⟨l0, l1, l2, l3, l4, l5, l6, l7, l8, lf0, lf1, lf2, lf3, lf4, lf5, lf6, lf7, lf8⟩ := cells9 HL.out
  have ltl := blk_lt HL.out
  obtain ⟨p0, p1, p2, pf0, pf1, pf2⟩ := cells3 HP.out
  have ltp := blk_lt HP.out
  go_wp2_with fail
  clear l0 lf0 l1 lf1 l2 lf2 l3 lf3 l4 lf4 l5 lf5 l6 lf6 l7 lf7 l8 lf8 ltl
  clear p0 pf0 p1 pf1 p2 pf2 ltp
  refine (HX.out _ HB.out).mono ?_
  rintro e w5 ⟨v5, rfl, hr, hb⟩
  have HL_ := Aside0.mk (blk_below HL.out hb)
  have HP_ := Aside0.mk (blk_below HP.out hb)
  have HB_ := Aside0.mk (below_step HB.out hb)
  clear hb
  clear HL HP HB
  have HL := HL_
  clear HL_
  have HP := HP_
  clear HP_
  have HB := HB_
  clear HB_
  have HR := Aside0.mk hr
  obtain ⟨A5, c5, rfl, hc5, _⟩ := Kd.R_reads hr
  clear hr
  have HC5 := Aside0.mk hc5
  clear hc5
  obtain ⟨l0, l1, l2, l3, l4, l5, l6, l7, l8, lf0, lf1, lf2, lf3, lf4, lf5, lf6, lf7, lf8⟩ := cells9 HL.out
  have ltl := blk_lt HL.out
  obtain ⟨p0, p1, p2, pf0, pf1, pf2⟩ := cells3 HP.out
  have ltp := blk_lt HP.out
  go_wp2_with fail
  clear l0 lf0 l1 lf1 l2 lf2 l3 lf3 l4 lf4 l5 lf5 l6 lf6 l7 lf7 l8 lf8 ltl
  clear p0 pf0 p1 pf1 p2 pf2 ltp
  refine (HY.out _ (below_alloc HB.out _)).mono ?_
  rintro e w6 ⟨v6, rfl, hs, hb⟩
  have HL_ := Aside0.mk (blk_below (blk_alloc HL.out _) hb)
  have HR_ := Aside0.mk (Kd.R_below (Kd.R_alloc HR.out _) hb)
  have HA_ := Aside0.mk (blk_below (blk_new w5 _) hb)
  have HB_ := Aside0.mk (below_step (below_alloc HB.out _) hb)
  clear hb
  clear HL HR HB
  have HL := HL_
  clear HL_
  have HR := HR_
  clear HR_
  have HA := HA_
  clear HA_
  have HB := HB_
  clear HB_
  obtain ⟨ga, hga⟩ : ∃ g, w5.heap.size = g := ⟨_, rfl⟩
  rw [hga] at HA ⊢
  clear hga
  have HS := Aside0.mk hs
  obtain ⟨A6, c6, rfl, hc6, _⟩ := Kd.R_reads hs
  clear hs
  have HC6 := Aside0.mk hc6
  clear hc6
  go_wp2_with fail
  have HL_ := Aside0.mk (blk_alloc HL.out (.cells #[.int .i64 r0, .int .i64 r1, .bool r2, .bool r3, .bool r4, .int .i64 r5, .string r6, .bool r7, .int .i64 r8] 47))
  have HR_ := Aside0.mk (Kd.R_alloc HR.out (.cells #[.int .i64 r0, .int .i64 r1, .bool r2, .bool r3, .bool r4, .int .i64 r5, .string r6, .bool r7, .int .i64 r8] 47))
  have HS_ := Aside0.mk (Kd.R_alloc HS.out (.cells #[.int .i64 r0, .int .i64 r1, .bool r2, .bool r3, .bool r4, .int .i64 r5, .string r6, .bool r7, .int .i64 r8] 47))
  have HA_ := Aside0.mk (blk_alloc HA.out (.cells #[.int .i64 r0, .int .i64 r1, .bool r2, .bool r3, .bool r4, .int .i64 r5, .string r6, .bool r7, .int .i64 r8] 47))
  have HD_ := Aside0.mk (blk_new w6 (.cells #[.int .i64 r0, .int .i64 r1, .bool r2, .bool r3, .bool r4, .int .i64 r5, .string r6, .bool r7, .int .i64 r8] 47))
  have HB_ := Aside0.mk (below_alloc HB.out (.cells #[.int .i64 r0, .int .i64 r1, .bool r2, .bool r3, .bool r4, .int .i64 r5, .string r6, .bool r7, .int .i64 r8] 47))
  clear HL HR HS HA HB
  obtain ⟨gb, hgb⟩ : ∃ g, w6.heap.size = g := ⟨_, rfl⟩
  rw [hgb] at HD_ ⊢
  clear hgb
  generalize w6.alloc (.cells #[.int .i64 r0, .int .i64 r1, .bool r2, .bool r3, .bool r4, .int .i64 r5, .string r6, .bool r7, .int .i64 r8] 47) = w7 at HL_ HR_ HS_ HA_ HD_ HB_ ⊢
  have HL := HL_
  clear HL_
  have HR := HR_
  clear HR_
  have HS := HS_
  clear HS_
  have HA := HA_
  clear HA_
  have HD := HD_
  clear HD_
  have HB := HB_
  clear HB_
  refine start_ (n := 16) (S := fun w' => w'.cell? ⟨ga, 0, none⟩ = some (.int .i64 r0) ∧ w'.cell? ⟨ga, 1, none⟩ = some (.int .i64 r1) ∧ w'.cell? ⟨ga, 2, none⟩ = some (.bool r2) ∧ w'.cell? ⟨ga, 3, none⟩ = some (.bool r3) ∧ w'.cell? ⟨ga, 4, none⟩ = some (.bool r4) ∧ w'.cell? ⟨ga, 5, none⟩ = some (.int .i64 r5) ∧ w'.cell? ⟨ga, 6, none⟩ = some (.string r6) ∧ w'.cell? ⟨ga, 7, none⟩ = some (.bool r7) ∧ w'.cell? ⟨ga, 8, none⟩ = some (.int .i64 r8) ∧ w'.cell? ⟨gb, 0, none⟩ = some (.int .i64 r0) ∧ w'.cell? ⟨gb, 1, none⟩ = some (.int .i64 r1) ∧ w'.cell? ⟨gb, 2, none⟩ = some (.bool r2) ∧ w'.cell? ⟨gb, 3, none⟩ = some (.bool r3) ∧ w'.cell? ⟨gb, 4, none⟩ = some (.bool r4) ∧ w'.cell? ⟨gb, 5, none⟩ = some (.int .i64 r5) ∧ w'.cell? ⟨gb, 6, none⟩ = some (.string r6) ∧ w'.cell? ⟨gb, 7, none⟩ = some (.bool r7) ∧ w'.cell? ⟨gb, 8, none⟩ = some (.int .i64 r8) ∧ w'.cell? ⟨gl, 0, none⟩ = some (.int .i64 a0_0) ∧ w'.cell? ⟨gl, 1, none⟩ = some (.int .i64 a0_1) ∧ w'.cell? ⟨gl, 2, none⟩ = some (.bool a0_2) ∧ w'.cell? ⟨gl, 3, none⟩ = some (.bool a0_3) ∧ w'.cell? ⟨gl, 4, none⟩ = some (.bool a0_4) ∧ w'.cell? ⟨gl, 5, none⟩ = some (.int .i64 a0_5) ∧ w'.cell? ⟨gl, 6, none⟩ = some (.string a0_6) ∧ w'.cell? ⟨gl, 7, none⟩ = some (.bool a0_7) ∧ w'.cell? ⟨gl, 8, none⟩ = some (.int .i64 a0_8)) (ds := []) #[false, false, false, false, false, false, false, false, false, false, false, false, false, false, false, false] (by kernel_rfl) rfl rfl ⟨((blk_cell (blk_drew HA.out) 0).trans rfl), ((blk_cell (blk_drew HA.out) 1).trans rfl), ((blk_cell (blk_drew HA.out) 2).trans rfl), ((blk_cell (blk_drew HA.out) 3).trans rfl), ((blk_cell (blk_drew HA.out) 4).trans rfl), ((blk_cell (blk_drew HA.out) 5).trans rfl), ((blk_cell (blk_drew HA.out) 6).trans rfl), ((blk_cell (blk_drew HA.out) 7).trans rfl), ((blk_cell (blk_drew HA.out) 8).trans rfl), ((blk_cell (blk_drew HD.out) 0).trans rfl), ((blk_cell (blk_drew HD.out) 1).trans rfl), ((blk_cell (blk_drew HD.out) 2).trans rfl), ((blk_cell (blk_drew HD.out) 3).trans rfl), ((blk_cell (blk_drew HD.out) 4).trans rfl), ((blk_cell (blk_drew HD.out) 5).trans rfl), ((blk_cell (blk_drew HD.out) 6).trans rfl), ((blk_cell (blk_drew HD.out) 7).trans rfl), ((blk_cell (blk_drew HD.out) 8).trans rfl), ((blk_cell (blk_drew HL.out) 0).trans rfl), ((blk_cell (blk_drew HL.out) 1).trans rfl), ((blk_cell (blk_drew HL.out) 2).trans rfl), ((blk_cell (blk_drew HL.out) 3).trans rfl), ((blk_cell (blk_drew HL.out) 4).trans rfl), ((blk_cell (blk_drew HL.out) 5).trans rfl), ((blk_cell (blk_drew HL.out) 6).trans rfl), ((blk_cell (blk_drew HL.out) 7).trans rfl), ((blk_cell (blk_drew HL.out) 8).trans rfl)⟩ (fun hHeld => ?_)
  refine take_ (i := 0) (N := some 33) (v := ?_) (a' := ?_) #[true, false, false, false, false, false, false, false, false, false, false, false, false, false, false, false] rfl rfl (by kernel_rfl) (fun _ _ _ h => h) (Or.inl ⟨by rfl, ?_⟩) hHeld ?_ ?_
  rotate_left
  · rintro w' ⟨s0, s1, s2, s3, s4, s5, s6, s7, s8, s9, s10, s11, s12, s13, s14, s15, s16, s17, s18, s19, s20, s21, s22, s23, s24, s25, s26⟩
    go_simp
    with_reducible rfl
  rotate_left
  · simp only [Act.put, List.setIfInBounds_toArray, List.set_cons_zero, List.set_cons_succ, i64_w, i32_w]
    rfl
  refine take_ (i := 1) (N := some 34) (v := ?_) (a' := ?_) #[true, true, false, false, false, false, false, false, false, false, false, false, false, false, false, false] rfl rfl (by kernel_rfl) (fun _ _ _ h => h) (Or.inl ⟨by rfl, ?_⟩) hHeld ?_ ?_
  rotate_left
  · rintro w' ⟨s0, s1, s2, s3, s4, s5, s6, s7, s8, s9, s10, s11, s12, s13, s14, s15, s16, s17, s18, s19, s20, s21, s22, s23, s24, s25, s26⟩
    go_simp
    with_reducible rfl
  rotate_left
  · simp only [Act.put, List.setIfInBounds_toArray, List.set_cons_zero, List.set_cons_succ, i64_w, i32_w]
    rfl
  refine pure_ (i := 2) (N := some 35) (v := ?_) (a' := ?_) #[true, true, true, false, false, false, false, false, false, false, false, false, false, false, false, false] rfl rfl (by kernel_rfl) (fun _ _ _ h => h) (Or.inl ⟨by rfl, ?_⟩) ?_ ?_
  rotate_left
  · intro w'
    go_simp
    with_reducible rfl
  rotate_left
  · simp only [Act.put, List.setIfInBounds_toArray, List.set_cons_zero, List.set_cons_succ, i64_w, i32_w]
    rfl
  refine pure_ (i := 3) (N := some 36) (v := ?_) (a' := ?_) #[true, true, true, true, false, false, false, false, false, false, false, false, false, false, false, false] rfl rfl (by kernel_rfl) (fun _ _ _ h => h) (Or.inl ⟨by rfl, ?_⟩) ?_ ?_
  rotate_left
  · intro w'
    go_simp
    with_reducible rfl
  rotate_left
  · simp only [Act.put, List.setIfInBounds_toArray, List.set_cons_zero, List.set_cons_succ, i64_w, i32_w]
    rfl
  refine pure_ (i := 4) (N := some 37) (v := ?_) (a' := ?_) #[true, true, true, true, true, false, false, false, false, false, false, false, false, false, false, false] rfl rfl (by kernel_rfl) (fun _ _ _ h => h) (Or.inl ⟨by rfl, ?_⟩) ?_ ?_
  rotate_left
  · intro w'
    go_simp
    with_reducible rfl
  rotate_left
  · simp only [Act.put, List.setIfInBounds_toArray, List.set_cons_zero, List.set_cons_succ, i64_w, i32_w]
    rfl
  refine pure_ (i := 5) (N := some 38) (v := ?_) (a' := ?_) #[true, true, true, true, true, true, false, false, false, false, false, false, false, false, false, false] rfl rfl (by kernel_rfl) (fun _ _ _ h => h) (Or.inl ⟨by rfl, ?_⟩) ?_ ?_
  rotate_left
  · intro w'
    go_simp
    with_reducible rfl
  rotate_left
  · simp only [Act.put, List.setIfInBounds_toArray, List.set_cons_zero, List.set_cons_succ, i64_w, i32_w]
    rfl
  refine one_ (i := 6) (N := some 39) #[true, true, true, true, true, true, true, false, false, false, false, false, false, false, false, false] rfl rfl (by kernel_rfl) (by decide) (fun K hK => ?_)
  refine goes_ Try.func24 (by kernel_rfl) rfl #[.slice A5 D.length c5, .slice A6 D.length c6] (by rfl) rfl rfl (by simp only [List.map_toArray, List.map_cons, List.map_nil]; rfl) ?_
  with_reducible refine (HSM.out _ A5 c5 A6 c6 (Kd.R_reads' (Kd.R_drew HR.out)).2.2 HC5.out (Kd.R_reads' (Kd.R_drew HS.out)).2.2 HC6.out).mono ?_
  rintro e w8 ⟨rfl, hd⟩
  refine ⟨_, rfl, ?_⟩
  have hb := hd.below
  clear hd
  have HA8 := Aside0.mk (blk_below (blk_drew HA.out) hb)
  have HD8 := Aside0.mk (blk_below (blk_drew HD.out) hb)
  have HL8 := Aside0.mk (blk_below (blk_drew HL.out) hb)
  have HB8 := Aside0.mk (below_step (below_drew1 HB.out) hb)
  clear hb
  refine hK.out _ _ ⟨((blk_cell HA8.out 0).trans rfl), ((blk_cell HA8.out 1).trans rfl), ((blk_cell HA8.out 2).trans rfl), ((blk_cell HA8.out 3).trans rfl), ((blk_cell HA8.out 4).trans rfl), ((blk_cell HA8.out 5).trans rfl), ((blk_cell HA8.out 6).trans rfl), ((blk_cell HA8.out 7).trans rfl), ((blk_cell HA8.out 8).trans rfl), ((blk_cell HD8.out 0).trans rfl), ((blk_cell HD8.out 1).trans rfl), ((blk_cell HD8.out 2).trans rfl), ((blk_cell HD8.out 3).trans rfl), ((blk_cell HD8.out 4).trans rfl), ((blk_cell HD8.out 5).trans rfl), ((blk_cell HD8.out 6).trans rfl), ((blk_cell HD8.out 7).trans rfl), ((blk_cell HD8.out 8).trans rfl), ((blk_cell HL8.out 0).trans rfl), ((blk_cell HL8.out 1).trans rfl), ((blk_cell HL8.out 2).trans rfl), ((blk_cell HL8.out 3).trans rfl), ((blk_cell HL8.out 4).trans rfl), ((blk_cell HL8.out 5).trans rfl), ((blk_cell HL8.out 6).trans rfl), ((blk_cell HL8.out 7).trans rfl), ((blk_cell HL8.out 8).trans rfl)⟩ (fun hHeld => ?_)
  clear hK K
  refine norm_ (a' := ?_) ?_ ?_
  rotate_left
  · show Act.put _ (some 39) _ = _
    simp only [Act.put, List.setIfInBounds_toArray, List.set_cons_zero, List.set_cons_succ, i64_w, i32_w]
    rfl
  refine pure_ (i := 7) (N := some 40) (v := ?_) (a' := ?_) #[true, true, true, true, true, true, true, true, false, false, false, false, false, false, false, false] rfl rfl (by kernel_rfl) (fun _ _ _ h => h) (Or.inl ⟨by rfl, ?_⟩) ?_ ?_
  rotate_left
  · intro w'
    go_simp
    with_reducible rfl
  rotate_left
  · simp only [Act.put, List.setIfInBounds_toArray, List.set_cons_zero, List.set_cons_succ, i64_w, i32_w]
    rfl
  refine pure_ (i := 8) (N := some 41) (v := ?_) (a' := ?_) #[true, true, true, true, true, true, true, true, true, false, false, false, false, false, false, false] rfl rfl (by kernel_rfl) (fun _ _ _ h => h) (Or.inl ⟨by rfl, ?_⟩) ?_ ?_
  rotate_left
  · intro w'
    go_simp
    with_reducible rfl
  rotate_left
  · simp only [Act.put, List.setIfInBounds_toArray, List.set_cons_zero, List.set_cons_succ, i64_w, i32_w]
    rfl
  refine take_ (i := 9) (N := some 42) (v := ?_) (a' := ?_) #[true, true, true, true, true, true, true, true, true, true, false, false, false, false, false, false] rfl rfl (by kernel_rfl) (fun _ _ _ h => h) (Or.inl ⟨by rfl, ?_⟩) hHeld ?_ ?_
  rotate_left
  · rintro w' ⟨s0, s1, s2, s3, s4, s5, s6, s7, s8, s9, s10, s11, s12, s13, s14, s15, s16, s17, s18, s19, s20, s21, s22, s23, s24, s25, s26⟩
    go_simp
    with_reducible rfl
  rotate_left
  · simp only [Act.put, List.setIfInBounds_toArray, List.set_cons_zero, List.set_cons_succ, i64_w, i32_w]
    rfl
  refine take_ (i := 11) (N := some 44) (v := ?_) (a' := ?_) #[true, true, true, true, true, true, true, true, true, true, false, true, false, false, false, false] rfl rfl (by kernel_rfl) (fun _ _ _ h => h) (Or.inl ⟨by rfl, ?_⟩) hHeld ?_ ?_
  rotate_left
  · rintro w' ⟨s0, s1, s2, s3, s4, s5, s6, s7, s8, s9, s10, s11, s12, s13, s14, s15, s16, s17, s18, s19, s20, s21, s22, s23, s24, s25, s26⟩
    go_simp
    with_reducible rfl
  rotate_left
  · simp only [Act.put, List.setIfInBounds_toArray, List.set_cons_zero, List.set_cons_succ, i64_w, i32_w]
    rfl
  refine one_ (i := 10) (N := some 43) #[true, true, true, true, true, true, true, true, true, true, true, true, false, false, false, false] rfl rfl (by kernel_rfl) (by decide) (fun K hK => ?_)
  refine goes_ Try.func25 (by kernel_rfl) rfl #[.agg #[.int .i64 a0_0, .int .i64 a0_1, .bool a0_2, .bool a0_3, .bool a0_4, .int .i64 a0_5, .string a0_6, .bool a0_7, .int .i64 a0_8]] (by rfl) rfl rfl (by simp only [List.map_toArray, List.map_cons, List.map_nil]; rfl) ?_
  with_reducible refine (HDA.out _ HB8.out).mono ?_
  rintro e w9 ⟨rfl, hb⟩
  refine ⟨_, rfl, ?_⟩
  have HA9 := Aside0.mk (blk_below HA8.out hb)
  have HD9 := Aside0.mk (blk_below HD8.out hb)
  have HL9 := Aside0.mk (blk_below HL8.out hb)
  have HB9 := Aside0.mk (below_step HB8.out hb)
  clear hb
  refine hK.out _ _ ⟨((blk_cell HA9.out 0).trans rfl), ((blk_cell HA9.out 1).trans rfl), ((blk_cell HA9.out 2).trans rfl), ((blk_cell HA9.out 3).trans rfl), ((blk_cell HA9.out 4).trans rfl), ((blk_cell HA9.out 5).trans rfl), ((blk_cell HA9.out 6).trans rfl), ((blk_cell HA9.out 7).trans rfl), ((blk_cell HA9.out 8).trans rfl), ((blk_cell HD9.out 0).trans rfl), ((blk_cell HD9.out 1).trans rfl), ((blk_cell HD9.out 2).trans rfl), ((blk_cell HD9.out 3).trans rfl), ((blk_cell HD9.out 4).trans rfl), ((blk_cell HD9.out 5).trans rfl), ((blk_cell HD9.out 6).trans rfl), ((blk_cell HD9.out 7).trans rfl), ((blk_cell HD9.out 8).trans rfl), ((blk_cell HL9.out 0).trans rfl), ((blk_cell HL9.out 1).trans rfl), ((blk_cell HL9.out 2).trans rfl), ((blk_cell HL9.out 3).trans rfl), ((blk_cell HL9.out 4).trans rfl), ((blk_cell HL9.out 5).trans rfl), ((blk_cell HL9.out 6).trans rfl), ((blk_cell HL9.out 7).trans rfl), ((blk_cell HL9.out 8).trans rfl)⟩ (fun hHeld => ?_)
  clear hK K
  refine norm_ (a' := ?_) ?_ ?_
  rotate_left
  · show Act.put _ (some 43) _ = _
    simp only [Act.put, List.setIfInBounds_toArray, List.set_cons_zero, List.set_cons_succ, i64_w, i32_w]
    rfl
  refine one_ (i := 12) (N := some 45) #[true, true, true, true, true, true, true, true, true, true, true, true, true, false, false, false] rfl rfl (by kernel_rfl) (by decide) (fun K hK => ?_)
  refine goes_ Try.func26 (by kernel_rfl) rfl #[.agg #[.int .i64 a0_0, .int .i64 a0_1, .bool a0_2, .bool a0_3, .bool a0_4, .int .i64 a0_5, .string a0_6, .bool a0_7, .int .i64 a0_8]] (by rfl) rfl rfl (by simp only [List.map_toArray, List.map_cons, List.map_nil]; rfl) ?_
  with_reducible refine (HDR.out _ HB9.out).mono ?_
  rintro e w10 ⟨rfl, hb⟩
  refine ⟨_, rfl, ?_⟩
  have HA10 := Aside0.mk (blk_below HA9.out hb)
  have HD10 := Aside0.mk (blk_below HD9.out hb)
  have HL10 := Aside0.mk (blk_below HL9.out hb)
  have HB10 := Aside0.mk (below_step HB9.out hb)
  clear hb
  refine hK.out _ _ ⟨((blk_cell HA10.out 0).trans rfl), ((blk_cell HA10.out 1).trans rfl), ((blk_cell HA10.out 2).trans rfl), ((blk_cell HA10.out 3).trans rfl), ((blk_cell HA10.out 4).trans rfl), ((blk_cell HA10.out 5).trans rfl), ((blk_cell HA10.out 6).trans rfl), ((blk_cell HA10.out 7).trans rfl), ((blk_cell HA10.out 8).trans rfl), ((blk_cell HD10.out 0).trans rfl), ((blk_cell HD10.out 1).trans rfl), ((blk_cell HD10.out 2).trans rfl), ((blk_cell HD10.out 3).trans rfl), ((blk_cell HD10.out 4).trans rfl), ((blk_cell HD10.out 5).trans rfl), ((blk_cell HD10.out 6).trans rfl), ((blk_cell HD10.out 7).trans rfl), ((blk_cell HD10.out 8).trans rfl), ((blk_cell HL10.out 0).trans rfl), ((blk_cell HL10.out 1).trans rfl), ((blk_cell HL10.out 2).trans rfl), ((blk_cell HL10.out 3).trans rfl), ((blk_cell HL10.out 4).trans rfl), ((blk_cell HL10.out 5).trans rfl), ((blk_cell HL10.out 6).trans rfl), ((blk_cell HL10.out 7).trans rfl), ((blk_cell HL10.out 8).trans rfl)⟩ (fun hHeld => ?_)
  clear hK K
  refine norm_ (a' := ?_) ?_ ?_
  rotate_left
  · show Act.put _ (some 45) _ = _
    simp only [Act.put, List.setIfInBounds_toArray, List.set_cons_zero, List.set_cons_succ, i64_w, i32_w]
    rfl
  refine pure_ (i := 13) (N := some 46) (v := ?_) (a' := ?_) #[true, true, true, true, true, true, true, true, true, true, true, true, true, true, false, false] rfl rfl (by kernel_rfl) (fun _ _ _ h => h) (Or.inl ⟨by rfl, ?_⟩) ?_ ?_
  rotate_left
  · intro w'
    go_simp
    with_reducible rfl
  rotate_left
  · simp only [Act.put, List.setIfInBounds_toArray, List.set_cons_zero, List.set_cons_succ, i64_w, i32_w]
    rfl
  refine pure_ (i := 14) (N := some 47) (v := ?_) (a' := ?_) #[true, true, true, true, true, true, true, true, true, true, true, true, true, true, true, false] rfl rfl (by kernel_rfl) (fun _ _ _ h => h) (Or.inl ⟨by rfl, ?_⟩) ?_ ?_
  rotate_left
  · intro w'
    go_simp
    with_reducible rfl
  rotate_left
  · simp only [Act.put, List.setIfInBounds_toArray, List.set_cons_zero, List.set_cons_succ, i64_w, i32_w]
    rfl
  refine pure_ (i := 15) (N := some 6) (v := ?_) (a' := ?_) #[true, true, true, true, true, true, true, true, true, true, true, true, true, true, true, true] rfl rfl (by kernel_rfl) (fun _ _ _ h => h) (Or.inl ⟨by rfl, ?_⟩) ?_ ?_
  rotate_left
  · intro w'
    go_simp
    with_reducible rfl
  rotate_left
  · simp only [Act.put, List.setIfInBounds_toArray, List.set_cons_zero, List.set_cons_succ, i64_w, i32_w]
    rfl
  refine done_ (by kernel_rfl) ?_
  go_wp2
  go_ret
  exact ⟨rfl, HB10.out⟩
end Go.Proofs.Ytglbaeikklkghaa.AuthHand
