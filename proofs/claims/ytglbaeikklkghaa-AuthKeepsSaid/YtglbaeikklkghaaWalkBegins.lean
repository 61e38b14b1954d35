/-
  The law AuthBegins by hand: the walk, over its calls.
-/
import Derived.Test.YtglbaeikklkghaaAuthRef0
namespace Go.Proofs.Ytglbaeikklkghaa.AuthHand
open Go.RowKit Go.Lib Go.Proofs.YtglbaeikklkghaaW.PrintWords Go.Proofs.YtglbaeikklkghaaW.PrintLast Go.Proofs.YtglbaeikklkghaaW.PrintMore Go.Proofs.Ytglbaeikklkghaa.Kit
set_option linter.unusedVariables false
set_option linter.unusedSimpArgs false
theorem eqL (d : Nat) (w : World) (x0 y0 : Int) (x1 y1 : Int) (x2 y2 : Bool) (x3 y3 : Bool) (x4 y4 : Bool) (x5 y5 : Int) (x6 y6 : ByteArray) (x7 y7 : Bool) (x8 y8 : Int) :
    (Op.equalIn (d + 2) 47 (.agg #[.int .i64 x0, .int .i64 x1, .bool x2, .bool x3, .bool x4, .int .i64 x5, .string x6, .bool x7, .int .i64 x8]) (.agg #[.int .i64 y0, .int .i64 y1, .bool y2, .bool y3, .bool y4, .int .i64 y5, .string y6, .bool y7, .int .i64 y8])).run Try.prog w = .ok (x0 == y0 && (x1 == y1 && (x2 == y2 && (x3 == y3 && (x4 == y4 && (x5 == y5 && (x6.toList == y6.toList && (x7 == y7 && (x8 == y8))))))))) w := by
  refine eqA_of Try.underlying47 (by kernel_rfl) ?_
  refine eqf_cons (by rfl) (by go_simp; rfl) (by go_simp; rfl) (by go_simp) ?_
  refine eqf_cons (by rfl) (by go_simp; rfl) (by go_simp; rfl) (by go_simp) ?_
  refine eqf_cons (by rfl) (by go_simp; rfl) (by go_simp; rfl) (by go_simp) ?_
  refine eqf_cons (by rfl) (by go_simp; rfl) (by go_simp; rfl) (by go_simp) ?_
  refine eqf_cons (by rfl) (by go_simp; rfl) (by go_simp; rfl) (by go_simp) ?_
  refine eqf_cons (by rfl) (by go_simp; rfl) (by go_simp; rfl) (by go_simp) ?_
  refine eqf_cons (by rfl) (by go_simp; rfl) (by go_simp; rfl) (by go_simp) ?_
  refine eqf_cons (by rfl) (by go_simp; rfl) (by go_simp; rfl) (by go_simp) ?_
  exact eqf_last (by rfl) (by go_simp; rfl) (by go_simp; rfl) (by go_simp)
attribute [local go_sem high] eqL
set_option maxRecDepth 100000 in
set_option maxHeartbeats 4000000 in
theorem AuthBegins_no (a0_0 a0_1 : Int) (a0_2 a0_3 a0_4 : Bool) (a0_5 : Int) (a0_6 : ByteArray) (a0_7 : Bool) (a0_8 a1 a2_0 a2_1 : Int) (A : Option Addr) (c L : Nat) (w : World) (HAW : Aside0 (∀ W, Below w.heap.size w W → Calls Try.prog 20 #[] W fun e w' => e = .returned (.bool true) ∧ Below W.heap.size W w')) (HMY : Aside0 (∀ W, Below w.heap.size w W → Calls Try.prog 21 #[.agg #[.int .i64 a2_0, .int .i64 a2_1, .slice A L c]] W fun e w' => e = .returned (.bool false) ∧ Below W.heap.size W w')) :
    Calls Try.prog 9 #[.agg #[.int .i64 a0_0, .int .i64 a0_1, .bool a0_2, .bool a0_3, .bool a0_4, .int .i64 a0_5, .string a0_6, .bool a0_7, .int .i64 a0_8], .int .i64 a1, .agg #[.int .i64 a2_0, .int .i64 a2_1, .slice A L c]] w fun e w' => e = .returned (.bool true) ∧ Below w.heap.size w w' := by
  have HB := Aside0.mk (Below.refl w.heap.size w)
  go_enter Try.func9, Try.ntmps9
  go_wp2_with (first | ((with_reducible refine gate_dst (N := 3) rfl ?_); refine' box_event ?hg (N := 3) ?hd (t := 47) ?hr ?_; (case hd => rfl); (case hg => rfl); (case hr => first | (go_simp; done) | (go_simp; rfl)); intro gl hgn w1 hbox hbn; have HB_ := Aside0.mk (below_step (show Below w.heap.size w w from HB.out) hbn); have GEgl := Aside0.mk (show w.heap.size ≤ gl from Nat.le_trans (below_size (show Below w.heap.size w w from HB.out)) (Nat.le_of_eq hgn.symm)); clear HB; have HB := HB_; clear HB_; have HL := Aside0.mk hbox; clear hbox hbn hgn; obtain ⟨l0, l1, l2, l3, l4, l5, l6, l7, l8, lf0, lf1, lf2, lf3, lf4, lf5, lf6, lf7, lf8⟩ := cells9 HL.out) | ((with_reducible refine gate_dst (N := 5) rfl ?_); refine' box_event ?hg (N := 5) ?hd (t := 49) ?hr ?_; (case hd => rfl); (case hg => rfl); (case hr => first | (go_simp; done) | (go_simp; rfl)); intro gp hgn w2 hbox hbn; have nglgp : gl ≠ gp := Nat.ne_of_lt (Nat.lt_of_lt_of_eq (blk_lt HL.out) hgn.symm); have ngpgl : gp ≠ gl := fun e_ => nglgp e_.symm; clear l0 lf0 l1 lf1 l2 lf2 l3 lf3 l4 lf4 l5 lf5 l6 lf6 l7 lf7 l8 lf8; have HL_ := Aside0.mk (blk_below HL.out hbn); clear HL; have HL := HL_; clear HL_; have HB_ := Aside0.mk (below_step (show Below w.heap.size w w1 from HB.out) hbn); have GEgp := Aside0.mk (show w.heap.size ≤ gp from Nat.le_trans (below_size (show Below w.heap.size w w1 from HB.out)) (Nat.le_of_eq hgn.symm)); clear HB; have HB := HB_; clear HB_; have HP := Aside0.mk hbox; clear hbox hbn hgn; obtain ⟨p0, p1, p2, pf0, pf1, pf2⟩ := cells3 HP.out; obtain ⟨l0, l1, l2, l3, l4, l5, l6, l7, l8, lf0, lf1, lf2, lf3, lf4, lf5, lf6, lf7, lf8⟩ := cells9 HL.out))
  clear l0 lf0 l1 lf1 l2 lf2 l3 lf3 l4 lf4 l5 lf5 l6 lf6 l7 lf7 l8 lf8 p0 pf0 p1 pf1 p2 pf2
  refine (HAW.out _ HB.out).mono ?_
  rintro e w3 ⟨rfl, hb⟩
  have HL_ := Aside0.mk (blk_below HL.out hb)
  have HP_ := Aside0.mk (blk_below HP.out hb)
  have HB_ := Aside0.mk (below_step HB.out hb)
  clear hb
  clear HL HP HB
  have HL := HL_
  clear HL_
  have HP := HP_
  clear HP_
  have HB := HB_
  clear HB_
  obtain ⟨p0, p1, p2, pf0, pf1, pf2⟩ := cells3 HP.out
  have ltp := blk_lt HP.out
  go_wp2_with fail
  clear p0 pf0 p1 pf1 p2 pf2 ltp
  refine (HMY.out _ HB.out).mono ?_
  rintro e w4 ⟨rfl, hb⟩
  have HL_ := Aside0.mk (blk_below HL.out hb)
  have HP_ := Aside0.mk (blk_below HP.out hb)
  have HB_ := Aside0.mk (below_step HB.out hb)
  clear hb
  clear HL HP HB
  have HL := HL_
  clear HL_
  have HP := HP_
  clear HP_
  have HB := HB_
  clear HB_
  go_wp2_with fail
  refine (HAW.out _ HB.out).mono ?_
  rintro e w5 ⟨rfl, hb⟩
  have HL_ := Aside0.mk (blk_below HL.out hb)
  have HP_ := Aside0.mk (blk_below HP.out hb)
  have HB_ := Aside0.mk (below_step HB.out hb)
  clear hb
  clear HL HP HB
  have HL := HL_
  clear HL_
  have HP := HP_
  clear HP_
  have HB := HB_
  clear HB_
  go_wp2_with fail
  go_ret
  exact ⟨rfl, HB.out⟩
set_option maxRecDepth 100000 in
set_option maxHeartbeats 8000000 in
theorem AuthBegins_yes (a0_0 a0_1 : Int) (a0_2 a0_3 a0_4 : Bool) (a0_5 : Int) (a0_6 : ByteArray) (a0_7 : Bool) (a0_8 a1 a2_0 a2_1 : Int) (A : Option Addr) (c L : Nat) (r0 r1 : Int) (r2 r3 r4 : Bool) (r5 : Int) (r6 : ByteArray) (r7 : Bool) (r8 : Int) (k : Bool) (w : World) (HAW : Aside0 (∀ W, Below w.heap.size w W → Calls Try.prog 20 #[] W fun e w' => e = .returned (.bool true) ∧ Below W.heap.size W w')) (HMY : Aside0 (∀ W, Below w.heap.size w W → Calls Try.prog 21 #[.agg #[.int .i64 a2_0, .int .i64 a2_1, .slice A L c]] W fun e w' => e = .returned (.bool true) ∧ Below W.heap.size W w')) (HX : Aside0 (∀ W, Below w.heap.size w W → Calls Try.prog 27 #[.agg #[.int .i64 a0_0, .int .i64 a0_1, .bool a0_2, .bool a0_3, .bool a0_4, .int .i64 a0_5, .string a0_6, .bool a0_7, .int .i64 a0_8], .int .i64 a1, .agg #[.int .i64 a2_0, .int .i64 a2_1, .slice A L c]] W fun e w' => e = .returned (.tuple #[.agg #[.int .i64 r0, .int .i64 r1, .bool r2, .bool r3, .bool r4, .int .i64 r5, .string r6, .bool r7, .int .i64 r8], .bool k]) ∧ Below W.heap.size W w')) (HY : Aside0 (∀ W, Below w.heap.size w W → Calls Try.prog 28 #[.agg #[.int .i64 a0_0, .int .i64 a0_1, .bool a0_2, .bool a0_3, .bool a0_4, .int .i64 a0_5, .string a0_6, .bool a0_7, .int .i64 a0_8], .int .i64 a1, .agg #[.int .i64 a2_0, .int .i64 a2_1, .slice A L c]] W fun e w' => e = .returned (.tuple #[.agg #[.int .i64 r0, .int .i64 r1, .bool r2, .bool r3, .bool r4, .int .i64 r5, .string r6, .bool r7, .int .i64 r8], .bool k]) ∧ Below W.heap.size W w')) :
    Calls Try.prog 9 #[.agg #[.int .i64 a0_0, .int .i64 a0_1, .bool a0_2, .bool a0_3, .bool a0_4, .int .i64 a0_5, .string a0_6, .bool a0_7, .int .i64 a0_8], .int .i64 a1, .agg #[.int .i64 a2_0, .int .i64 a2_1, .slice A L c]] w fun e w' => e = .returned (.bool true) ∧ Below w.heap.size w w' := by
  have HB := Aside0.mk (Below.refl w.heap.size w)
  go_enter Try.func9, Try.ntmps9
  go_wp2_with (first | ((with_reducible refine gate_dst (N := 3) rfl ?_); refine' box_event ?hg (N := 3) ?hd (t := 47) ?hr ?_; (case hd => rfl); (case hg => rfl); (case hr => first | (go_simp; done) | (go_simp; rfl)); intro gl hgn w1 hbox hbn; have HB_ := Aside0.mk (below_step (show Below w.heap.size w w from HB.out) hbn); have GEgl := Aside0.mk (show w.heap.size ≤ gl from Nat.le_trans (below_size (show Below w.heap.size w w from HB.out)) (Nat.le_of_eq hgn.symm)); clear HB; have HB := HB_; clear HB_; have HL := Aside0.mk hbox; clear hbox hbn hgn; obtain ⟨l0, l1, l2, l3, l4, l5, l6, l7, l8, lf0, lf1, lf2, lf3, lf4, lf5, lf6, lf7, lf8⟩ := cells9 HL.out) | ((with_reducible refine gate_dst (N := 5) rfl ?_); refine' box_event ?hg (N := 5) ?hd (t := 49) ?hr ?_; (case hd => rfl); (case hg => rfl); (case hr => first | (go_simp; done) | (go_simp; rfl)); intro gp hgn w2 hbox hbn; have nglgp : gl ≠ gp := Nat.ne_of_lt (Nat.lt_of_lt_of_eq (blk_lt HL.out) hgn.symm); have ngpgl : gp ≠ gl := fun e_ => nglgp e_.symm; clear l0 lf0 l1 lf1 l2 lf2 l3 lf3 l4 lf4 l5 lf5 l6 lf6 l7 lf7 l8 lf8; have HL_ := Aside0.mk (blk_below HL.out hbn); clear HL; have HL := HL_; clear HL_; have HB_ := Aside0.mk (below_step (show Below w.heap.size w w1 from HB.out) hbn); have GEgp := Aside0.mk (show w.heap.size ≤ gp from Nat.le_trans (below_size (show Below w.heap.size w w1 from HB.out)) (Nat.le_of_eq hgn.symm)); clear HB; have HB := HB_; clear HB_; have HP := Aside0.mk hbox; clear hbox hbn hgn; obtain ⟨p0, p1, p2, pf0, pf1, pf2⟩ := cells3 HP.out; obtain ⟨l0, l1, l2, l3, l4, l5, l6, l7, l8, lf0, lf1, lf2, lf3, lf4, lf5, lf6, lf7, lf8⟩ := cells9 HL.out))
  clear l0 lf0 l1 lf1 l2 lf2 l3 lf3 l4 lf4 l5 lf5 l6 lf6 l7 lf7 l8 lf8 p0 pf0 p1 pf1 p2 pf2
  refine (HAW.out _ HB.out).mono ?_
  rintro e w3 ⟨rfl, hb⟩
  have HL_ := Aside0.mk (blk_below HL.out hb)
  have HP_ := Aside0.mk (blk_below HP.out hb)
  have HB_ := Aside0.mk (below_step HB.out hb)
  clear hb
  clear HL HP HB
  have HL := HL_
  clear HL_
  have HP := HP_
  clear HP_
  have HB := HB_
  clear HB_
  obtain ⟨p0, p1, p2, pf0, pf1, pf2⟩ := cells3 HP.out
  have ltp := blk_lt HP.out
  go_wp2_with fail
  clear p0 pf0 p1 pf1 p2 pf2 ltp
  refine (HMY.out _ HB.out).mono ?_
  rintro e w4 ⟨rfl, hb⟩
  have HL_ := Aside0.mk (blk_below HL.out hb)
  have HP_ := Aside0.mk (blk_below HP.out hb)
  have HB_ := Aside0.mk (below_step HB.out hb)
  clear hb
  clear HL HP HB
  have HL := HL_
  clear HL_
  have HP := HP_
  clear HP_
  have HB := HB_
  clear HB_
  obtain ⟨l0, l1, l2, l3, l4, l5, l6, l7, l8, lf0, lf1, lf2, lf3, lf4, lf5, lf6, lf7, lf8⟩ := cells9 HL.out
  have ltl := blk_lt HL.out
  obtain ⟨p0, p1, p2, pf0, pf1, pf2⟩ := cells3 HP.out
  have ltp := blk_lt HP.out
  go_wp2_with fail
  clear l0 lf0 l1 lf1 l2 lf2 l3 lf3 l4 lf4 l5 lf5 l6 lf6 l7 lf7 l8 lf8 ltl
  clear p0 pf0 p1 pf1 p2 pf2 ltp
  refine (HX.out _ HB.out).mono ?_
  rintro e w5 ⟨rfl, hb⟩
  have HL_ := Aside0.mk (blk_below HL.out hb)
  have HP_ := Aside0.mk (blk_below HP.out hb)
  have HB_ := Aside0.mk (below_step HB.out hb)
  clear hb
  clear HL HP HB
  have HL := HL_
  clear HL_
  have HP := HP_
  clear HP_
  have HB := HB_
  clear HB_
  obtain ⟨l0, l1, l2, l3, l4, l5, l6, l7, l8, lf0, lf1, lf2, lf3, lf4, lf5, lf6, lf7, lf8⟩ := cells9 HL.out
  have ltl := blk_lt HL.out
  obtain ⟨p0, p1, p2, pf0, pf1, pf2⟩ := cells3 HP.out
  have ltp := blk_lt HP.out
  go_wp2_with fail
  clear l0 lf0 l1 lf1 l2 lf2 l3 lf3 l4 lf4 l5 lf5 l6 lf6 l7 lf7 l8 lf8 ltl
  clear p0 pf0 p1 pf1 p2 pf2 ltp
  refine (HY.out _ (below_alloc HB.out _)).mono ?_
  rintro e w6 ⟨rfl, hb⟩
  have HA_ := Aside0.mk (blk_below (blk_new w5 _) hb)
  have HB_ := Aside0.mk (below_step (below_alloc HB.out _) hb)
  clear hb
  clear  HB
  have HA := HA_
  clear HA_
  have HB := HB_
  clear HB_
  obtain ⟨ga, hga⟩ : ∃ g, w5.heap.size = g := ⟨_, rfl⟩
  rw [hga] at HA ⊢
  clear hga
  obtain ⟨a0, a1, a2, a3, a4, a5, a6, a7, a8, af0, af1, af2, af3, af4, af5, af6, af7, af8⟩ := cells9 HA.out
  have lta := blk_lt HA.out
  go_wp2_with fail
  go_ret
  exact ⟨rfl, below_alloc HB.out _⟩
end Go.Proofs.Ytglbaeikklkghaa.AuthHand
