/-
  The law AuthPap by hand: the walk, over its calls.
-/
import Derived.Test.YtglbaeikklkghaaAuthRef0
namespace Go.Proofs.Ytglbaeikklkghaa.AuthHand
open Go.RowKit Go.Lib Go.Proofs.YtglbaeikklkghaaW.PrintWords Go.Proofs.YtglbaeikklkghaaW.PrintLast Go.Proofs.YtglbaeikklkghaaW.PrintMore Go.Proofs.Ytglbaeikklkghaa.Kit
set_option linter.unusedVariables false
set_option linter.unusedSimpArgs false
theorem eqL (d : Nat) (w : World) (x0 y0 : Int) (x1 y1 : Int) (x2 y2 : Bool) (x3 y3 : Bool) (x4 y4 : Bool) (x5 y5 : Int) (x6 y6 : ByteArray) (x7 y7 : Bool) (x8 y8 : Int) :
    (Op.equalIn (d + 2) 47 (.agg #[.int .i64 x0, .int .i64 x1, .bool x2, .bool x3, .bool x4, .int .i64 x5, .string x6, .bool x7, .int .i64 x8]) (.agg #[.int .i64 y0, .int .i64 y1, .bool y2, .bool y3, .bool y4, .int .i64 y5, .string y6, .bool y7, .int .i64 y8])).run Try.prog w = .ok (x0 == y0 && (x1 == y1 && (x2 == y2 && (x3 == y3 && (x4 == y4 && (x5 == y5 && (x6.toList == y6.toList && (x7 == y7 && (x8 == y8))))))))) w := by
  refine eqA_of Try.underlying47 (by kernel_rfl) ?_
  refine eqf_cons (by rfl) (by go_simp; rfl) (by go_simp; rfl) (by go_simp) ?_
  refine eqf_cons (by rfl) (by go_simp; rfl) (by go_simp; rfl) (by go_simp) ?_
  refine eqf_cons (by rfl) (by go_simp; rfl) (by go_simp; rfl) (by go_simp) ?_
  refine eqf_cons (by rfl) (by go_simp; rfl) (by go_simp; rfl) (by go_simp) ?_
  refine eqf_cons (by rfl) (by go_simp; rfl) (by go_simp; rfl) (by go_simp) ?_
  refine eqf_cons (by rfl) (by go_simp; rfl) (by go_simp; rfl) (by go_simp) ?_
  refine eqf_cons (by rfl) (by go_simp; rfl) (by go_simp; rfl) (by go_simp) ?_
  refine eqf_cons (by rfl) (by go_simp; rfl) (by go_simp; rfl) (by go_simp) ?_
  exact eqf_last (by rfl) (by go_simp; rfl) (by go_simp; rfl) (by go_simp)
attribute [local go_sem high] eqL
theorem due_one' {w : World} {base : Nat} {ok : Nat → Prop} {v : Value} {x : PAuthBase.S60} (h : Kd.R PAuthBase.k60 60 w base ok v [x]) : ∃ (g c : Nat), v = .slice (some ⟨g, 0, none⟩) 1 c ∧ ∀ W, Below w.heap.size w W → W.cell? ⟨g, 0, none⟩ = some (.int .i64 x.f0) ∧ W.cell? ⟨g, 1, none⟩ = some (.int .i64 x.f1) ∧ W.cell? ⟨g, 2, none⟩ = some (.int .i64 x.f2) ∧ W.cell? ⟨g, 3, none⟩ = some (.string x.f3) := by
  obtain ⟨A, c, he, _, hC⟩ := Kd.R_reads h
  obtain ⟨inner, ho, _⟩ := h.2
  rcases ho.2 with ⟨e0, _⟩ | ⟨g, cap, cur, e1, hg, _⟩
  · rw [e0] at he
    simp at he
  · rw [he] at e1
    simp only [Value.slice.injEq, List.length_cons, List.length_nil] at e1
    obtain ⟨rfl, _, rfl⟩ := e1
    refine ⟨g, c, he, fun W hb => ?_⟩
    obtain ⟨ad, ea, h0, h1, h2, h3⟩ := PAuthBase.at_T60 (Kd.C_below hC hb) 0 (by decide) (by simp)
    simp only [Option.some.injEq] at ea
    subst ea
    exact ⟨by simpa [Addr.add, PAuthBase.rd_T60] using h0, by simpa [Addr.add, PAuthBase.rd_T60] using h1, by simpa [Addr.add, PAuthBase.rd_T60] using h2, by simpa [Addr.add, PAuthBase.rd_T60] using h3⟩
set_option maxRecDepth 100000 in
set_option maxHeartbeats 4000000 in
theorem AuthPap_no (a0_0 a0_1 : Int) (a0_2 a0_3 a0_4 : Bool) (a0_5 : Int) (a0_6 : ByteArray) (a0_7 : Bool) (a0_8 a1 a2_0 a2_1 : Int) (A : Option Addr) (c L : Nat) (w : World) (HAW : Aside0 (∀ W, Below w.heap.size w W → Calls Try.prog 20 #[] W fun e w' => e = .returned (.bool true) ∧ Below W.heap.size W w')) (HMY : Aside0 (∀ W, Below w.heap.size w W → Calls Try.prog 21 #[.agg #[.int .i64 a2_0, .int .i64 a2_1, .slice A L c]] W fun e w' => e = .returned (.bool false) ∧ Below W.heap.size W w')) :
    Calls Try.prog 10 #[.agg #[.int .i64 a0_0, .int .i64 a0_1, .bool a0_2, .bool a0_3, .bool a0_4, .int .i64 a0_5, .string a0_6, .bool a0_7, .int .i64 a0_8], .int .i64 a1, .agg #[.int .i64 a2_0, .int .i64 a2_1, .slice A L c]] w fun e w' => e = .returned (.bool true) ∧ Below w.heap.size w w' := by
  have HB := Aside0.mk (Below.refl w.heap.size w)
  go_enter Try.func10, Try.ntmps10
  go_wp2_with (first | ((with_reducible refine gate_dst (N := 3) rfl ?_); refine' box_event ?hg (N := 3) ?hd (t := 47) ?hr ?_; (case hd => rfl); (case hg => rfl); (case hr => first | (go_simp; done) | (go_simp; rfl)); intro gl hgn w1 hbox hbn; have HB_ := Aside0.mk (below_step (show Below w.heap.size w w from HB.out) hbn); have GEgl := Aside0.mk (show w.heap.size ≤ gl from Nat.le_trans (below_size (show Below w.heap.size w w from HB.out)) (Nat.le_of_eq hgn.symm)); clear HB; have HB := HB_; clear HB_; have HL := Aside0.mk hbox; clear hbox hbn hgn; obtain ⟨l0, l1, l2, l3, l4, l5, l6, l7, l8, lf0, lf1, lf2, lf3, lf4, lf5, lf6, lf7, lf8⟩ := cells9 HL.out) | ((with_reducible refine gate_dst (N := 5) rfl ?_); refine' box_event ?hg (N := 5) ?hd (t := 49) ?hr ?_; (case hd => rfl); (case hg => rfl); (case hr => first | (go_simp; done) | (go_simp; rfl)); intro gp hgn w2 hbox hbn; have nglgp : gl ≠ gp := Nat.ne_of_lt (Nat.lt_of_lt_of_eq (blk_lt HL.out) hgn.symm); have ngpgl : gp ≠ gl := fun e_ => nglgp e_.symm; clear l0 lf0 l1 lf1 l2 lf2 l3 lf3 l4 lf4 l5 lf5 l6 lf6 l7 lf7 l8 lf8; have HL_ := Aside0.mk (blk_below HL.out hbn); clear HL; have HL := HL_; clear HL_; have HB_ := Aside0.mk (below_step (show Below w.heap.size w w1 from HB.out) hbn); have GEgp := Aside0.mk (show w.heap.size ≤ gp from Nat.le_trans (below_size (show Below w.heap.size w w1 from HB.out)) (Nat.le_of_eq hgn.symm)); clear HB; have HB := HB_; clear HB_; have HP := Aside0.mk hbox; clear hbox hbn hgn; obtain ⟨p0, p1, p2, pf0, pf1, pf2⟩ := cells3 HP.out; obtain ⟨l0, l1, l2, l3, l4, l5, l6, l7, l8, lf0, lf1, lf2, lf3, lf4, lf5, lf6, lf7, lf8⟩ := cells9 HL.out))
  clear l0 lf0 l1 lf1 l2 lf2 l3 lf3 l4 lf4 l5 lf5 l6 lf6 l7 lf7 l8 lf8 p0 pf0 p1 pf1 p2 pf2
  refine (HAW.out _ HB.out).mono ?_
  rintro e w3 ⟨rfl, hb⟩
  have HL_ := Aside0.mk (blk_below HL.out hb)
  have HP_ := Aside0.mk (blk_below HP.out hb)
  have HB_ := Aside0.mk (below_step HB.out hb)
  clear hb
  clear HL HP HB
  have HL := HL_
  clear HL_
  have HP := HP_
  clear HP_
  have HB := HB_
  clear HB_
  obtain ⟨p0, p1, p2, pf0, pf1, pf2⟩ := cells3 HP.out
  have ltp := blk_lt HP.out
  go_wp2_with fail
  clear p0 pf0 p1 pf1 p2 pf2 ltp
  refine (HMY.out _ HB.out).mono ?_
  rintro e w4 ⟨rfl, hb⟩
  have HL_ := Aside0.mk (blk_below HL.out hb)
  have HP_ := Aside0.mk (blk_below HP.out hb)
  have HB_ := Aside0.mk (below_step HB.out hb)
  clear hb
  clear HL HP HB
  have HL := HL_
  clear HL_
  have HP := HP_
  clear HP_
  have HB := HB_
  clear HB_
  go_wp2_with fail
  refine (HAW.out _ HB.out).mono ?_
  rintro e w5 ⟨rfl, hb⟩
  have HL_ := Aside0.mk (blk_below HL.out hb)
  have HP_ := Aside0.mk (blk_below HP.out hb)
  have HB_ := Aside0.mk (below_step HB.out hb)
  clear hb
  clear HL HP HB
  have HL := HL_
  clear HL_
  have HP := HP_
  clear HP_
  have HB := HB_
  clear HB_
  go_wp2_with fail
  go_ret
  exact ⟨rfl, HB.out⟩
set_option maxRecDepth 100000 in
set_option maxHeartbeats 40000000 in
theorem AuthPap_nb (a0_0 a0_1 : Int) (a0_2 a0_3 a0_4 : Bool) (a0_5 : Int) (a0_6 : ByteArray) (a0_7 : Bool) (a0_8 a1 a2_0 a2_1 : Int) (A : Option Addr) (c L : Nat) (s0 s1 : Int) (s2 s3 s4 : Bool) (s5 : Int) (s6 : ByteArray) (s7 : Bool) (s8 : Int) (b1 b2 b3 b4 : Bool) (hb1 : (a0_0 != a1) = b1) (hb2 : (a0_1 != a1) = b2) (hb3 : (a1 != 49187) = b3) (hb4 : (a1 != 49699) = b4) (H : (b1 = true ∧ b2 = true) ∨ (b1 = false ∧ b3 = true ∧ b4 = true) ∨ (b1 = true ∧ b2 = false ∧ b3 = true ∧ b4 = true)) (w : World) (HAW : Aside0 (∀ W, Below w.heap.size w W → Calls Try.prog 20 #[] W fun e w' => e = .returned (.bool true) ∧ Below W.heap.size W w')) (HMY : Aside0 (∀ W, Below w.heap.size w W → Calls Try.prog 21 #[.agg #[.int .i64 a2_0, .int .i64 a2_1, .slice A L c]] W fun e w' => e = .returned (.bool true) ∧ Below W.heap.size W w')) (HX : Aside0 (∀ W, Below w.heap.size w W → Calls Try.prog 22 #[.agg #[.int .i64 a0_0, .int .i64 a0_1, .bool a0_2, .bool a0_3, .bool a0_4, .int .i64 a0_5, .string a0_6, .bool a0_7, .int .i64 a0_8], .int .i64 a1, .agg #[.int .i64 a2_0, .int .i64 a2_1, .slice A L c]] W fun e w' => ∃ v9_ : Value, e = .returned (.tuple #[.agg #[.int .i64 a0_0, .int .i64 a0_1, .bool a0_2, .bool a0_3, .bool a0_4, .int .i64 a0_5, .string a0_6, .bool a0_7, .int .i64 a0_8], v9_]) ∧ Kd.R PAuthBase.k60 60 w' W.heap.size (fun _ => True) v9_ [] ∧ Below W.heap.size W w')) (HY : Aside0 (∀ W, Below w.heap.size w W → Calls Try.prog 27 #[.agg #[.int .i64 a0_0, .int .i64 a0_1, .bool a0_2, .bool a0_3, .bool a0_4, .int .i64 a0_5, .string a0_6, .bool a0_7, .int .i64 a0_8], .int .i64 a1, .agg #[.int .i64 a2_0, .int .i64 a2_1, .slice A L c]] W fun e w' => e = .returned (.tuple #[.agg #[.int .i64 s0, .int .i64 s1, .bool s2, .bool s3, .bool s4, .int .i64 s5, .string s6, .bool s7, .int .i64 s8], .bool false]) ∧ Below W.heap.size W w')) :
    Calls Try.prog 10 #[.agg #[.int .i64 a0_0, .int .i64 a0_1, .bool a0_2, .bool a0_3, .bool a0_4, .int .i64 a0_5, .string a0_6, .bool a0_7, .int .i64 a0_8], .int .i64 a1, .agg #[.int .i64 a2_0, .int .i64 a2_1, .slice A L c]] w fun e w' => e = .returned (.bool true) ∧ Below w.heap.size w w' := by
  have HB := Aside0.mk (Below.refl w.heap.size w)
  go_enter Try.func10, Try.ntmps10
  go_wp2_with (first | ((with_reducible refine gate_dst (N := 3) rfl ?_); refine' box_event ?hg (N := 3) ?hd (t := 47) ?hr ?_; (case hd => rfl); (case hg => rfl); (case hr => first | (go_simp; done) | (go_simp; rfl)); intro gl hgn w1 hbox hbn; have HB_ := Aside0.mk (below_step (show Below w.heap.size w w from HB.out) hbn); have GEgl := Aside0.mk (show w.heap.size ≤ gl from Nat.le_trans (below_size (show Below w.heap.size w w from HB.out)) (Nat.le_of_eq hgn.symm)); clear HB; have HB := HB_; clear HB_; have HL := Aside0.mk hbox; clear hbox hbn hgn; obtain ⟨l0, l1, l2, l3, l4, l5, l6, l7, l8, lf0, lf1, lf2, lf3, lf4, lf5, lf6, lf7, lf8⟩ := cells9 HL.out) | ((with_reducible refine gate_dst (N := 5) rfl ?_); refine' box_event ?hg (N := 5) ?hd (t := 49) ?hr ?_; (case hd => rfl); (case hg => rfl); (case hr => first | (go_simp; done) | (go_simp; rfl)); intro gp hgn w2 hbox hbn; have nglgp : gl ≠ gp := Nat.ne_of_lt (Nat.lt_of_lt_of_eq (blk_lt HL.out) hgn.symm); have ngpgl : gp ≠ gl := fun e_ => nglgp e_.symm; clear l0 lf0 l1 lf1 l2 lf2 l3 lf3 l4 lf4 l5 lf5 l6 lf6 l7 lf7 l8 lf8; have HL_ := Aside0.mk (blk_below HL.out hbn); clear HL; have HL := HL_; clear HL_; have HB_ := Aside0.mk (below_step (show Below w.heap.size w w1 from HB.out) hbn); have GEgp := Aside0.mk (show w.heap.size ≤ gp from Nat.le_trans (below_size (show Below w.heap.size w w1 from HB.out)) (Nat.le_of_eq hgn.symm)); clear HB; have HB := HB_; clear HB_; have HP := Aside0.mk hbox; clear hbox hbn hgn; obtain ⟨p0, p1, p2, pf0, pf1, pf2⟩ := cells3 HP.out; obtain ⟨l0, l1, l2, l3, l4, l5, l6, l7, l8, lf0, lf1, lf2, lf3, lf4, lf5, lf6, lf7, lf8⟩ := cells9 HL.out))
  clear l0 lf0 l1 lf1 l2 lf2 l3 lf3 l4 lf4 l5 lf5 l6 lf6 l7 lf7 l8 lf8 p0 pf0 p1 pf1 p2 pf2
  refine (HAW.out _ HB.out).mono ?_
  rintro e w3 ⟨rfl, hb⟩
  have HL_ := Aside0.mk (blk_below HL.out hb)
  have HP_ := Aside0.mk (blk_below HP.out hb)
  have HB_ := Aside0.mk (below_step HB.out hb)
  clear hb
  clear HL HP HB
  have HL := HL_
  clear HL_
  have HP := HP_
  clear HP_
  have HB := HB_
  clear HB_
  obtain ⟨p0, p1, p2, pf0, pf1, pf2⟩ := cells3 HP.out
  have ltp := blk_lt HP.out
  go_wp2_with fail
  clear p0 pf0 p1 pf1 p2 pf2 ltp
  refine (HMY.out _ HB.out).mono ?_
  rintro e w4 ⟨rfl, hb⟩
  have HL_ := Aside0.mk (blk_below HL.out hb)
  have HP_ := Aside0.mk (blk_below HP.out hb)
  have HB_ := Aside0.mk (below_step HB.out hb)
  clear hb
  clear HL HP HB
  have HL := HL_
  clear HL_
  have HP := HP_
  clear HP_
  have HB := HB_
  clear HB_
  obtain ⟨l0, l1, l2, l3, l4, l5, l6, l7, l8, lf0, lf1, lf2, lf3, lf4, lf5, lf6, lf7, lf8⟩ := cells9 HL.out
  have ltl := blk_lt HL.out
  obtain ⟨p0, p1, p2, pf0, pf1, pf2⟩ := cells3 HP.out
  have ltp := blk_lt HP.out
  go_wp2_with fail
  clear l0 lf0 l1 lf1 l2 lf2 l3 lf3 l4 lf4 l5 lf5 l6 lf6 l7 lf7 l8 lf8 ltl
  clear p0 pf0 p1 pf1 p2 pf2 ltp
  refine (HX.out _ HB.out).mono ?_
  rintro e w5 ⟨v5, rfl, hr, hb⟩
  have HL_ := Aside0.mk (blk_below HL.out hb)
  have HP_ := Aside0.mk (blk_below HP.out hb)
  have HB_ := Aside0.mk (below_step HB.out hb)
  clear hb
  clear HL HP HB
  have HL := HL_
  clear HL_
  have HP := HP_
  clear HP_
  have HB := HB_
  clear HB_
  have HR := Aside0.mk hr
  obtain ⟨A5, c5, rfl, hc5, _⟩ := Kd.R_reads hr
  clear hr hc5
  have ltl5 := Aside0.mk (blk_lt HL.out)
  have ltp5 := Aside0.mk (blk_lt HP.out)
  obtain ⟨l0, l1, l2, l3, l4, l5, l6, l7, l8, lf0, lf1, lf2, lf3, lf4, lf5, lf6, lf7, lf8⟩ := cells9 HL.out
  have ltl := blk_lt HL.out
  obtain ⟨p0, p1, p2, pf0, pf1, pf2⟩ := cells3 HP.out
  have ltp := blk_lt HP.out
  go_wp2_with fail
  clear l0 lf0 l1 lf1 l2 lf2 l3 lf3 l4 lf4 l5 lf5 l6 lf6 l7 lf7 l8 lf8 ltl
  clear p0 pf0 p1 pf1 p2 pf2 ltp
  refine (HY.out _ (below_alloc HB.out _)).mono ?_
  rintro e w6 ⟨rfl, hb⟩
  have HL_ := Aside0.mk (blk_below (blk_alloc HL.out _) hb)
  have HP_ := Aside0.mk (blk_below (blk_alloc HP.out _) hb)
  have HR_ := Aside0.mk (Kd.R_below (Kd.R_alloc HR.out _) hb)
  have HA_ := Aside0.mk (blk_below (blk_new w5 _) hb)
  have NE_ := Aside0.mk ((⟨Nat.ne_of_lt ltl5.out, Nat.ne_of_lt ltp5.out⟩ : gl ≠ w5.heap.size ∧ gp ≠ w5.heap.size))
  have GA_ := Aside0.mk ((below_size HB.out : w.heap.size ≤ w5.heap.size))
  have HB_ := Aside0.mk (below_step (below_alloc HB.out _) hb)
  clear hb
  clear HL HP HR HB
  have HL := HL_
  clear HL_
  have HP := HP_
  clear HP_
  have HR := HR_
  clear HR_
  have HA := HA_
  clear HA_
  have NE := NE_
  clear NE_
  have GA := GA_
  clear GA_
  have HB := HB_
  clear HB_
  obtain ⟨ga, hga⟩ : ∃ g, w5.heap.size = g := ⟨_, rfl⟩
  rw [hga] at HA NE GA ⊢
  clear hga
  go_upto_region 5 with (fail)
  (try simp only [Act.put, List.setIfInBounds_toArray, List.set_cons_zero, List.set_cons_succ])
  have HL_ := Aside0.mk (blk_alloc HL.out (.cells #[.int .i64 s0, .int .i64 s1, .bool s2, .bool s3, .bool s4, .int .i64 s5, .string s6, .bool s7, .int .i64 s8] 47))
  have HP_ := Aside0.mk (blk_alloc HP.out (.cells #[.int .i64 s0, .int .i64 s1, .bool s2, .bool s3, .bool s4, .int .i64 s5, .string s6, .bool s7, .int .i64 s8] 47))
  have HR_ := Aside0.mk (Kd.R_alloc HR.out (.cells #[.int .i64 s0, .int .i64 s1, .bool s2, .bool s3, .bool s4, .int .i64 s5, .string s6, .bool s7, .int .i64 s8] 47))
  have HA_ := Aside0.mk (blk_alloc HA.out (.cells #[.int .i64 s0, .int .i64 s1, .bool s2, .bool s3, .bool s4, .int .i64 s5, .string s6, .bool s7, .int .i64 s8] 47))
  have HD_ := Aside0.mk (blk_new w6 (.cells #[.int .i64 s0, .int .i64 s1, .bool s2, .bool s3, .bool s4, .int .i64 s5, .string s6, .bool s7, .int .i64 s8] 47))
  have HB_ := Aside0.mk (below_alloc HB.out (.cells #[.int .i64 s0, .int .i64 s1, .bool s2, .bool s3, .bool s4, .int .i64 s5, .string s6, .bool s7, .int .i64 s8] 47))
  clear HL HP HR HA HB
  obtain ⟨gb, hgb⟩ : ∃ g, w6.heap.size = g := ⟨_, rfl⟩
  rw [hgb] at HD_ ⊢
  clear hgb
  generalize w6.alloc (.cells #[.int .i64 s0, .int .i64 s1, .bool s2, .bool s3, .bool s4, .int .i64 s5, .string s6, .bool s7, .int .i64 s8] 47) = w7 at HL_ HP_ HR_ HA_ HD_ HB_ ⊢
  have HL := HL_
  clear HL_
  have HP := HP_
  clear HP_
  have HR := HR_
  clear HR_
  have HA := HA_
  clear HA_
  have HD := HD_
  clear HD_
  have HB := HB_
  clear HB_
  obtain ⟨l0, l1, l2, l3, l4, l5, l6, l7, l8, lf0, lf1, lf2, lf3, lf4, lf5, lf6, lf7, lf8⟩ := cells9 HL.out
  have ltl := blk_lt HL.out
  obtain ⟨a0, a1, a2, a3, a4, a5, a6, a7, a8, af0, af1, af2, af3, af4, af5, af6, af7, af8⟩ := cells9 HA.out
  have lta := blk_lt HA.out
  obtain ⟨p0, p1, p2, pf0, pf1, pf2⟩ := cells3 HP.out
  have ltp := blk_lt HP.out
  skip
  rcases H with ⟨rfl, rfl⟩ | ⟨rfl, rfl, rfl⟩ | ⟨rfl, rfl, rfl, rfl⟩ <;> (go_wp2_with fail; go_ret; exact ⟨rfl, HB.out⟩)
set_option maxRecDepth 100000 in
set_option maxHeartbeats 40000000 in
theorem AuthPap_none (a0_0 a0_1 : Int) (a0_2 a0_3 a0_4 : Bool) (a0_5 : Int) (a0_6 : ByteArray) (a0_7 : Bool) (a0_8 a1 a2_0 a2_1 : Int) (A : Option Addr) (c L : Nat) (s0 s1 : Int) (s2 s3 s4 : Bool) (s5 : Int) (s6 : ByteArray) (s7 : Bool) (s8 : Int) (x3 x7 : Bool) (k : Bool) (b1 b2 b3 b4 : Bool) (hb1 : (a0_0 != a1) = b1) (hb2 : (a0_1 != a1) = b2) (hb3 : (a1 != 49187) = b3) (hb4 : (a1 != 49699) = b4) (H : (b1 = false ∧ b3 = false) ∨ (b1 = false ∧ b3 = true ∧ b4 = false) ∨ (b1 = true ∧ b2 = false ∧ b3 = false) ∨ (b1 = true ∧ b2 = false ∧ b3 = true ∧ b4 = false)) (w : World) (HAW : Aside0 (∀ W, Below w.heap.size w W → Calls Try.prog 20 #[] W fun e w' => e = .returned (.bool true) ∧ Below W.heap.size W w')) (HMY : Aside0 (∀ W, Below w.heap.size w W → Calls Try.prog 21 #[.agg #[.int .i64 a2_0, .int .i64 a2_1, .slice A L c]] W fun e w' => e = .returned (.bool true) ∧ Below W.heap.size W w')) (HX : Aside0 (∀ W, Below w.heap.size w W → Calls Try.prog 22 #[.agg #[.int .i64 a0_0, .int .i64 a0_1, .bool a0_2, .bool a0_3, .bool a0_4, .int .i64 a0_5, .string a0_6, .bool a0_7, .int .i64 a0_8], .int .i64 a1, .agg #[.int .i64 a2_0, .int .i64 a2_1, .slice A L c]] W fun e w' => ∃ v9_ : Value, e = .returned (.tuple #[.agg #[.int .i64 a0_0, .int .i64 a0_1, .bool a0_2, .bool x3, .bool a0_4, .int .i64 a0_5, .string a0_6, .bool x7, .int .i64 a0_8], v9_]) ∧ Kd.R PAuthBase.k60 60 w' W.heap.size (fun _ => True) v9_ [] ∧ Below W.heap.size W w')) (HY : Aside0 (∀ W, Below w.heap.size w W → Calls Try.prog 27 #[.agg #[.int .i64 a0_0, .int .i64 a0_1, .bool a0_2, .bool a0_3, .bool a0_4, .int .i64 a0_5, .string a0_6, .bool a0_7, .int .i64 a0_8], .int .i64 a1, .agg #[.int .i64 a2_0, .int .i64 a2_1, .slice A L c]] W fun e w' => e = .returned (.tuple #[.agg #[.int .i64 s0, .int .i64 s1, .bool s2, .bool s3, .bool s4, .int .i64 s5, .string s6, .bool s7, .int .i64 s8], .bool k]) ∧ Below W.heap.size W w')) :
    Calls Try.prog 10 #[.agg #[.int .i64 a0_0, .int .i64 a0_1, .bool a0_2, .bool a0_3, .bool a0_4, .int .i64 a0_5, .string a0_6, .bool a0_7, .int .i64 a0_8], .int .i64 a1, .agg #[.int .i64 a2_0, .int .i64 a2_1, .slice A L c]] w fun e w' => e = .returned (.bool true) ∧ Below w.heap.size w w' := by
  have HB := Aside0.mk (Below.refl w.heap.size w)
  go_enter Try.func10, Try.ntmps10
  go_wp2_with (first | ((with_reducible refine gate_dst (N := 3) rfl ?_); refine' box_event ?hg (N := 3) ?hd (t := 47) ?hr ?_; (case hd => rfl); (case hg => rfl); (case hr => first | (go_simp; done) | (go_simp; rfl)); intro gl hgn w1 hbox hbn; have HB_ := Aside0.mk (below_step (show Below w.heap.size w w from HB.out) hbn); have GEgl := Aside0.mk (show w.heap.size ≤ gl from Nat.le_trans (below_size (show Below w.heap.size w w from HB.out)) (Nat.le_of_eq hgn.symm)); clear HB; have HB := HB_; clear HB_; have HL := Aside0.mk hbox; clear hbox hbn hgn; obtain ⟨l0, l1, l2, l3, l4, l5, l6, l7, l8, lf0, lf1, lf2, lf3, lf4, lf5, lf6, lf7, lf8⟩ := cells9 HL.out) | ((with_reducible refine gate_dst (N := 5) rfl ?_); refine' box_event ?hg (N := 5) ?hd (t := 49) ?hr ?_; (case hd => rfl); (case hg => rfl); (case hr => first | (go_simp; done) | (go_simp; rfl)); intro gp hgn w2 hbox hbn; have nglgp : gl ≠ gp := Nat.ne_of_lt (Nat.lt_of_lt_of_eq (blk_lt HL.out) hgn.symm); have ngpgl : gp ≠ gl := fun e_ => nglgp e_.symm; clear l0 lf0 l1 lf1 l2 lf2 l3 lf3 l4 lf4 l5 lf5 l6 lf6 l7 lf7 l8 lf8; have HL_ := Aside0.mk (blk_below HL.out hbn); clear HL; have HL := HL_; clear HL_; have HB_ := Aside0.mk (below_step (show Below w.heap.size w w1 from HB.out) hbn); have GEgp := Aside0.mk (show w.heap.size ≤ gp from Nat.le_trans (below_size (show Below w.heap.size w w1 from HB.out)) (Nat.le_of_eq hgn.symm)); clear HB; have HB := HB_; clear HB_; have HP := Aside0.mk hbox; clear hbox hbn hgn; obtain ⟨p0, p1, p2, pf0, pf1, pf2⟩ := cells3 HP.out; obtain ⟨l0, l1, l2, l3, l4, l5, l6, l7, l8, lf0, lf1, lf2, lf3, lf4, lf5, lf6, lf7, lf8⟩ := cells9 HL.out))
  clear l0 lf0 l1 lf1 l2 lf2 l3 lf3 l4 lf4 l5 lf5 l6 lf6 l7 lf7 l8 lf8 p0 pf0 p1 pf1 p2 pf2
  refine (HAW.out _ HB.out).mono ?_
  rintro e w3 ⟨rfl, hb⟩
  have HL_ := Aside0.mk (blk_below HL.out hb)
  have HP_ := Aside0.mk (blk_below HP.out hb)
  have HB_ := Aside0.mk (below_step HB.out hb)
  clear hb
  clear HL HP HB
  have HL := HL_
  clear HL_
  have HP := HP_
  clear HP_
  have HB := HB_
  clear HB_
  obtain ⟨p0, p1, p2, pf0, pf1, pf2⟩ := cells3 HP.out
  have ltp := blk_lt HP.out
  go_wp2_with fail
  clear p0 pf0 p1 pf1 p2 pf2 ltp
  refine (HMY.out _ HB.out).mono ?_
  rintro e w4 ⟨rfl, hb⟩
  have HL_ := Aside0.mk (blk_below HL.out hb)
  have HP_ := Aside0.mk (blk_below HP.out hb)
  have HB_ := Aside0.mk (below_step HB.out hb)
  clear hb
  clear HL HP HB
  have HL := HL_
  clear HL_
  have HP := HP_
  clear HP_
  have HB := HB_
  clear HB_
  obtain ⟨l0, l1, l2, l3, l4, l5, l6, l7, l8, lf0, lf1, lf2, lf3, lf4, lf5, lf6, lf7, lf8⟩ := cells9 HL.out
  have ltl := blk_lt HL.out
  obtain ⟨p0, p1, p2, pf0, pf1, pf2⟩ := cells3 HP.out
  have ltp := blk_lt HP.out
  go_wp2_with fail
  clear l0 lf0 l1 lf1 l2 lf2 l3 lf3 l4 lf4 l5 lf5 l6 lf6 l7 lf7 l8 lf8 ltl
  clear p0 pf0 p1 pf1 p2 pf2 ltp
  refine (HX.out _ HB.out).mono ?_
  rintro e w5 ⟨v5, rfl, hr, hb⟩
  have HL_ := Aside0.mk (blk_below HL.out hb)
  have HP_ := Aside0.mk (blk_below HP.out hb)
  have HB_ := Aside0.mk (below_step HB.out hb)
  clear hb
  clear HL HP HB
  have HL := HL_
  clear HL_
  have HP := HP_
  clear HP_
  have HB := HB_
  clear HB_
  have HR := Aside0.mk hr
  obtain ⟨A5, c5, rfl, hc5, _⟩ := Kd.R_reads hr
  clear hr hc5
  have ltl5 := Aside0.mk (blk_lt HL.out)
  have ltp5 := Aside0.mk (blk_lt HP.out)
  obtain ⟨l0, l1, l2, l3, l4, l5, l6, l7, l8, lf0, lf1, lf2, lf3, lf4, lf5, lf6, lf7, lf8⟩ := cells9 HL.out
  have ltl := blk_lt HL.out
  obtain ⟨p0, p1, p2, pf0, pf1, pf2⟩ := cells3 HP.out
  have ltp := blk_lt HP.out
  go_wp2_with fail
  clear l0 lf0 l1 lf1 l2 lf2 l3 lf3 l4 lf4 l5 lf5 l6 lf6 l7 lf7 l8 lf8 ltl
  clear p0 pf0 p1 pf1 p2 pf2 ltp
  refine (HY.out _ (below_alloc HB.out _)).mono ?_
  rintro e w6 ⟨rfl, hb⟩
  have HL_ := Aside0.mk (blk_below (blk_alloc HL.out _) hb)
  have HP_ := Aside0.mk (blk_below (blk_alloc HP.out _) hb)
  have HR_ := Aside0.mk (Kd.R_below (Kd.R_alloc HR.out _) hb)
  have HA_ := Aside0.mk (blk_below (blk_new w5 _) hb)
  have NE_ := Aside0.mk ((⟨Nat.ne_of_lt ltl5.out, Nat.ne_of_lt ltp5.out⟩ : gl ≠ w5.heap.size ∧ gp ≠ w5.heap.size))
  have GA_ := Aside0.mk ((below_size HB.out : w.heap.size ≤ w5.heap.size))
  have HB_ := Aside0.mk (below_step (below_alloc HB.out _) hb)
  clear hb
  clear HL HP HR HB
  have HL := HL_
  clear HL_
  have HP := HP_
  clear HP_
  have HR := HR_
  clear HR_
  have HA := HA_
  clear HA_
  have NE := NE_
  clear NE_
  have GA := GA_
  clear GA_
  have HB := HB_
  clear HB_
  obtain ⟨ga, hga⟩ : ∃ g, w5.heap.size = g := ⟨_, rfl⟩
  rw [hga] at HA NE GA ⊢
  clear hga
  go_upto_region 5 with (fail)
  (try simp only [Act.put, List.setIfInBounds_toArray, List.set_cons_zero, List.set_cons_succ])
  have HL_ := Aside0.mk (blk_alloc HL.out (.cells #[.int .i64 s0, .int .i64 s1, .bool s2, .bool s3, .bool s4, .int .i64 s5, .string s6, .bool s7, .int .i64 s8] 47))
  have HP_ := Aside0.mk (blk_alloc HP.out (.cells #[.int .i64 s0, .int .i64 s1, .bool s2, .bool s3, .bool s4, .int .i64 s5, .string s6, .bool s7, .int .i64 s8] 47))
  have HR_ := Aside0.mk (Kd.R_alloc HR.out (.cells #[.int .i64 s0, .int .i64 s1, .bool s2, .bool s3, .bool s4, .int .i64 s5, .string s6, .bool s7, .int .i64 s8] 47))
  have HA_ := Aside0.mk (blk_alloc HA.out (.cells #[.int .i64 s0, .int .i64 s1, .bool s2, .bool s3, .bool s4, .int .i64 s5, .string s6, .bool s7, .int .i64 s8] 47))
  have HD_ := Aside0.mk (blk_new w6 (.cells #[.int .i64 s0, .int .i64 s1, .bool s2, .bool s3, .bool s4, .int .i64 s5, .string s6, .bool s7, .int .i64 s8] 47))
  have HB_ := Aside0.mk (below_alloc HB.out (.cells #[.int .i64 s0, .int .i64 s1, .bool s2, .bool s3, .bool s4, .int .i64 s5, .string s6, .bool s7, .int .i64 s8] 47))
  clear HL HP HR HA HB
  obtain ⟨gb, hgb⟩ : ∃ g, w6.heap.size = g := ⟨_, rfl⟩
  rw [hgb] at HD_ ⊢
  clear hgb
  generalize w6.alloc (.cells #[.int .i64 s0, .int .i64 s1, .bool s2, .bool s3, .bool s4, .int .i64 s5, .string s6, .bool s7, .int .i64 s8] 47) = w7 at HL_ HP_ HR_ HA_ HD_ HB_ ⊢
  have HL := HL_
  clear HL_
  have HP := HP_
  clear HP_
  have HR := HR_
  clear HR_
  have HA := HA_
  clear HA_
  have HD := HD_
  clear HD_
  have HB := HB_
  clear HB_
  obtain ⟨l0, l1, l2, l3, l4, l5, l6, l7, l8, lf0, lf1, lf2, lf3, lf4, lf5, lf6, lf7, lf8⟩ := cells9 HL.out
  have ltl := blk_lt HL.out
  obtain ⟨a0, a1, a2, a3, a4, a5, a6, a7, a8, af0, af1, af2, af3, af4, af5, af6, af7, af8⟩ := cells9 HA.out
  have lta := blk_lt HA.out
  obtain ⟨p0, p1, p2, pf0, pf1, pf2⟩ := cells3 HP.out
  have ltp := blk_lt HP.out
  skip
  skip
  rcases H with ⟨rfl, rfl⟩ | ⟨rfl, rfl, rfl⟩ | ⟨rfl, rfl, rfl⟩ | ⟨rfl, rfl, rfl, rfl⟩
  all_goals (go_upto_region 9 with (fail))
  all_goals (try simp only [Act.put, List.setIfInBounds_toArray, List.set_cons_zero, List.set_cons_succ])
  all_goals (
    have nlg : gl ≠ ga := NE.out.1
    have npg : gp ≠ ga := NE.out.2
    have yL := blk_far (p := ⟨ga, 7, none⟩) (blk_far (p := ⟨ga, 3, none⟩) HL.out nlg (.bool a0_3)) nlg (.bool a0_7)
    have yP := blk_far (p := ⟨ga, 7, none⟩) (blk_far (p := ⟨ga, 3, none⟩) HP.out npg (.bool a0_3)) npg (.bool a0_7)
    have yA : ((w7.setCell ⟨ga, 3, none⟩ (.bool a0_3)).setCell ⟨ga, 7, none⟩ (.bool a0_7)).heap[ga]? = some (.cells #[.int .i64 a0_0, .int .i64 a0_1, .bool a0_2, .bool a0_3, .bool a0_4, .int .i64 a0_5, .string a0_6, .bool a0_7, .int .i64 a0_8] 47 (0, 0)) := blk_put7 (blk_put3 HA.out (.bool a0_3)) (.bool a0_7)
    have yB : Below w.heap.size w ((w7.setCell ⟨ga, 3, none⟩ (.bool a0_3)).setCell ⟨ga, 7, none⟩ (.bool a0_7)) := (HB.out.setCell (p := ⟨ga, 3, none⟩) GA.out _).setCell (p := ⟨ga, 7, none⟩) GA.out _
    clear l0 lf0 l1 lf1 l2 lf2 l3 lf3 l4 lf4 l5 lf5 l6 lf6 l7 lf7 l8 lf8 a0 af0 a1 af1 a2 af2 a3 af3 a4 af4 a5 af5 a6 af6 a7 af7 a8 af8 p0 pf0 p1 pf1 p2 pf2 ltl lta ltp HL HP HA HR HB
    generalize ((w7.setCell ⟨ga, 3, none⟩ (.bool a0_3)).setCell ⟨ga, 7, none⟩ (.bool a0_7)) = w8 at yL yP yA yB ⊢
    have HL := Aside0.mk yL
    have HP := Aside0.mk yP
    have HA := Aside0.mk yA
    have HB := Aside0.mk yB
    clear yL yP yA yB
    refine start_ (n := 31) (S := fun w' => w'.cell? ⟨ga, 0, none⟩ = some (.int .i64 a0_0) ∧ w'.cell? ⟨ga, 1, none⟩ = some (.int .i64 a0_1) ∧ w'.cell? ⟨ga, 2, none⟩ = some (.bool a0_2) ∧ w'.cell? ⟨ga, 3, none⟩ = some (.bool a0_3) ∧ w'.cell? ⟨ga, 4, none⟩ = some (.bool a0_4) ∧ w'.cell? ⟨ga, 5, none⟩ = some (.int .i64 a0_5) ∧ w'.cell? ⟨ga, 6, none⟩ = some (.string a0_6) ∧ w'.cell? ⟨ga, 7, none⟩ = some (.bool a0_7) ∧ w'.cell? ⟨ga, 8, none⟩ = some (.int .i64 a0_8) ∧ w'.cell? ⟨gl, 0, none⟩ = some (.int .i64 a0_0) ∧ w'.cell? ⟨gl, 1, none⟩ = some (.int .i64 a0_1) ∧ w'.cell? ⟨gl, 2, none⟩ = some (.bool a0_2) ∧ w'.cell? ⟨gl, 3, none⟩ = some (.bool a0_3) ∧ w'.cell? ⟨gl, 4, none⟩ = some (.bool a0_4) ∧ w'.cell? ⟨gl, 5, none⟩ = some (.int .i64 a0_5) ∧ w'.cell? ⟨gl, 6, none⟩ = some (.string a0_6) ∧ w'.cell? ⟨gl, 7, none⟩ = some (.bool a0_7) ∧ w'.cell? ⟨gl, 8, none⟩ = some (.int .i64 a0_8)) (ds := []) #[false, false, false, false, false, false, false, false, false, false, false, false, false, false, false, false, false, false, false, false, false, false, false, false, false, false, false, false, false, false, false] (by kernel_rfl) rfl rfl ⟨((blk_cell (blk_drew HA.out) 0).trans rfl), ((blk_cell (blk_drew HA.out) 1).trans rfl), ((blk_cell (blk_drew HA.out) 2).trans rfl), ((blk_cell (blk_drew HA.out) 3).trans rfl), ((blk_cell (blk_drew HA.out) 4).trans rfl), ((blk_cell (blk_drew HA.out) 5).trans rfl), ((blk_cell (blk_drew HA.out) 6).trans rfl), ((blk_cell (blk_drew HA.out) 7).trans rfl), ((blk_cell (blk_drew HA.out) 8).trans rfl), ((blk_cell (blk_drew HL.out) 0).trans rfl), ((blk_cell (blk_drew HL.out) 1).trans rfl), ((blk_cell (blk_drew HL.out) 2).trans rfl), ((blk_cell (blk_drew HL.out) 3).trans rfl), ((blk_cell (blk_drew HL.out) 4).trans rfl), ((blk_cell (blk_drew HL.out) 5).trans rfl), ((blk_cell (blk_drew HL.out) 6).trans rfl), ((blk_cell (blk_drew HL.out) 7).trans rfl), ((blk_cell (blk_drew HL.out) 8).trans rfl)⟩ (fun hHeld => ?_)
    refine take_ (i := 0) (N := some 69) (v := ?_) (a' := ?_) #[true, false, false, false, false, false, false, false, false, false, false, false, false, false, false, false, false, false, false, false, false, false, false, false, false, false, false, false, false, false, false] rfl rfl (by kernel_rfl) (fun _ _ _ h => h) (Or.inl ⟨by rfl, ?_⟩) hHeld ?_ ?_
    rotate_left
    · rintro w' ⟨s0, s1, s2, s3, s4, s5, s6, s7, s8, s9, s10, s11, s12, s13, s14, s15, s16, s17⟩
      go_simp
      with_reducible rfl
    rotate_left
    · simp only [Act.put, List.setIfInBounds_toArray, List.set_cons_zero, List.set_cons_succ, i64_w, i32_w]
      rfl
    refine take_ (i := 1) (N := some 70) (v := ?_) (a' := ?_) #[true, true, false, false, false, false, false, false, false, false, false, false, false, false, false, false, false, false, false, false, false, false, false, false, false, false, false, false, false, false, false] rfl rfl (by kernel_rfl) (fun _ _ _ h => h) (Or.inl ⟨by rfl, ?_⟩) hHeld ?_ ?_
    rotate_left
    · rintro w' ⟨s0, s1, s2, s3, s4, s5, s6, s7, s8, s9, s10, s11, s12, s13, s14, s15, s16, s17⟩
      go_simp
      with_reducible rfl
    rotate_left
    · simp only [Act.put, List.setIfInBounds_toArray, List.set_cons_zero, List.set_cons_succ, i64_w, i32_w]
      rfl
    refine pure_ (i := 2) (N := some 71) (v := ?_) (a' := ?_) #[true, true, true, false, false, false, false, false, false, false, false, false, false, false, false, false, false, false, false, false, false, false, false, false, false, false, false, false, false, false, false] rfl rfl (by kernel_rfl) (fun _ _ _ h => h) (Or.inl ⟨by rfl, ?_⟩) ?_ ?_
    rotate_left
    · intro w'
      go_simp
      with_reducible rfl
    rotate_left
    · simp only [Act.put, List.setIfInBounds_toArray, List.set_cons_zero, List.set_cons_succ, i64_w, i32_w]
      rfl
    refine pure_ (i := 3) (N := some 72) (v := ?_) (a' := ?_) #[true, true, true, true, false, false, false, false, false, false, false, false, false, false, false, false, false, false, false, false, false, false, false, false, false, false, false, false, false, false, false] rfl rfl (by kernel_rfl) (fun _ _ _ h => h) (Or.inl ⟨by rfl, ?_⟩) ?_ ?_
    rotate_left
    · intro w'
      go_simp
      with_reducible rfl
    rotate_left
    · simp only [Act.put, List.setIfInBounds_toArray, List.set_cons_zero, List.set_cons_succ, i64_w, i32_w]
      rfl
    refine pure_ (i := 4) (N := some 73) (v := ?_) (a' := ?_) #[true, true, true, true, true, false, false, false, false, false, false, false, false, false, false, false, false, false, false, false, false, false, false, false, false, false, false, false, false, false, false] rfl rfl (by kernel_rfl) (fun _ _ _ h => h) (Or.inl ⟨by rfl, ?_⟩) ?_ ?_
    rotate_left
    · intro w'
      go_simp
      with_reducible rfl
    rotate_left
    · simp only [Act.put, List.setIfInBounds_toArray, List.set_cons_zero, List.set_cons_succ, i64_w, i32_w]
      rfl
    refine pure_ (i := 5) (N := some 74) (v := ?_) (a' := ?_) #[true, true, true, true, true, true, false, false, false, false, false, false, false, false, false, false, false, false, false, false, false, false, false, false, false, false, false, false, false, false, false] rfl rfl (by kernel_rfl) (fun _ _ _ h => h) (Or.inl ⟨by rfl, ?_⟩) ?_ ?_
    rotate_left
    · intro w'
      go_simp
      with_reducible rfl
    rotate_left
    · simp only [Act.put, List.setIfInBounds_toArray, List.set_cons_zero, List.set_cons_succ, i64_w, i32_w]
      rfl
    refine pure_ (i := 6) (N := some 75) (v := ?_) (a' := ?_) #[true, true, true, true, true, true, true, false, false, false, false, false, false, false, false, false, false, false, false, false, false, false, false, false, false, false, false, false, false, false, false] rfl rfl (by kernel_rfl) (fun _ _ _ h => h) (Or.inl ⟨by rfl, ?_⟩) ?_ ?_
    rotate_left
    · intro w'
      go_simp
      with_reducible rfl
    rotate_left
    · simp only [Act.put, List.setIfInBounds_toArray, List.set_cons_zero, List.set_cons_succ, i64_w, i32_w]
      rfl
    refine pure_ (i := 7) (N := some 76) (v := ?_) (a' := ?_) #[true, true, true, true, true, true, true, true, false, false, false, false, false, false, false, false, false, false, false, false, false, false, false, false, false, false, false, false, false, false, false] rfl rfl (by kernel_rfl) (fun _ _ _ h => h) (Or.inl ⟨by rfl, ?_⟩) ?_ ?_
    rotate_left
    · intro w'
      go_simp
      with_reducible rfl
    rotate_left
    · simp only [Act.put, List.setIfInBounds_toArray, List.set_cons_zero, List.set_cons_succ, i64_w, i32_w]
      rfl
    refine pure_ (i := 8) (N := some 77) (v := ?_) (a' := ?_) #[true, true, true, true, true, true, true, true, true, false, false, false, false, false, false, false, false, false, false, false, false, false, false, false, false, false, false, false, false, false, false] rfl rfl (by kernel_rfl) (fun _ _ _ h => h) (Or.inl ⟨by rfl, ?_⟩) ?_ ?_
    rotate_left
    · intro w'
      go_simp
      with_reducible rfl
    rotate_left
    · simp only [Act.put, List.setIfInBounds_toArray, List.set_cons_zero, List.set_cons_succ, i64_w, i32_w]
      rfl
    refine pure_ (i := 9) (N := some 78) (v := ?_) (a' := ?_) #[true, true, true, true, true, true, true, true, true, true, false, false, false, false, false, false, false, false, false, false, false, false, false, false, false, false, false, false, false, false, false] rfl rfl (by kernel_rfl) (fun _ _ _ h => h) (Or.inl ⟨by rfl, ?_⟩) ?_ ?_
    rotate_left
    · intro w'
      go_simp
      with_reducible rfl
    rotate_left
    · simp only [Act.put, List.setIfInBounds_toArray, List.set_cons_zero, List.set_cons_succ, i64_w, i32_w]
      rfl
    refine pure_ (i := 10) (N := some 79) (v := ?_) (a' := ?_) #[true, true, true, true, true, true, true, true, true, true, true, false, false, false, false, false, false, false, false, false, false, false, false, false, false, false, false, false, false, false, false] rfl rfl (by kernel_rfl) (fun _ _ _ h => h) (Or.inl ⟨by rfl, ?_⟩) ?_ ?_
    rotate_left
    · intro w'
      go_simp
      with_reducible rfl
    rotate_left
    · simp only [Act.put, List.setIfInBounds_toArray, List.set_cons_zero, List.set_cons_succ, i64_w, i32_w]
      rfl
    refine pure_ (i := 11) (N := some 80) (v := ?_) (a' := ?_) #[true, true, true, true, true, true, true, true, true, true, true, true, false, false, false, false, false, false, false, false, false, false, false, false, false, false, false, false, false, false, false] rfl rfl (by kernel_rfl) (fun _ _ _ h => h) (Or.inl ⟨by rfl, ?_⟩) ?_ ?_
    rotate_left
    · intro w'
      go_simp
      with_reducible rfl
    rotate_left
    · simp only [Act.put, List.setIfInBounds_toArray, List.set_cons_zero, List.set_cons_succ, i64_w, i32_w]
      rfl
    refine pure_ (i := 12) (N := some 81) (v := ?_) (a' := ?_) #[true, true, true, true, true, true, true, true, true, true, true, true, true, false, false, false, false, false, false, false, false, false, false, false, false, false, false, false, false, false, false] rfl rfl (by kernel_rfl) (fun _ _ _ h => h) (Or.inl ⟨by rfl, ?_⟩) ?_ ?_
    rotate_left
    · intro w'
      go_simp
      with_reducible rfl
    rotate_left
    · simp only [Act.put, List.setIfInBounds_toArray, List.set_cons_zero, List.set_cons_succ, i64_w, i32_w]
      rfl
    refine pure_ (i := 13) (N := some 82) (v := undef) (a' := ?_) #[true, true, true, true, true, true, true, true, true, true, true, true, true, true, false, false, false, false, false, false, false, false, false, false, false, false, false, false, false, false, false] rfl rfl (by kernel_rfl) (fun _ _ _ h => h) (Or.inr ⟨by rfl, rfl⟩) ?_ ?_
    rotate_left
    · simp only [Act.put, List.setIfInBounds_toArray, List.set_cons_zero, List.set_cons_succ, i64_w, i32_w]
      rfl
    refine pure_ (i := 14) (N := some 83) (v := undef) (a' := ?_) #[true, true, true, true, true, true, true, true, true, true, true, true, true, true, true, false, false, false, false, false, false, false, false, false, false, false, false, false, false, false, false] rfl rfl (by kernel_rfl) (fun _ _ _ h => h) (Or.inr ⟨by rfl, rfl⟩) ?_ ?_
    rotate_left
    · simp only [Act.put, List.setIfInBounds_toArray, List.set_cons_zero, List.set_cons_succ, i64_w, i32_w]
      rfl
    refine pure_ (i := 15) (N := some 84) (v := undef) (a' := ?_) #[true, true, true, true, true, true, true, true, true, true, true, true, true, true, true, true, false, false, false, false, false, false, false, false, false, false, false, false, false, false, false] rfl rfl (by kernel_rfl) (fun _ _ _ h => h) (Or.inr ⟨by rfl, rfl⟩) ?_ ?_
    rotate_left
    · simp only [Act.put, List.setIfInBounds_toArray, List.set_cons_zero, List.set_cons_succ, i64_w, i32_w]
      rfl
    refine pure_ (i := 16) (N := some 85) (v := undef) (a' := ?_) #[true, true, true, true, true, true, true, true, true, true, true, true, true, true, true, true, true, false, false, false, false, false, false, false, false, false, false, false, false, false, false] rfl rfl (by kernel_rfl) (fun _ _ _ h => h) (Or.inr ⟨by rfl, rfl⟩) ?_ ?_
    rotate_left
    · simp only [Act.put, List.setIfInBounds_toArray, List.set_cons_zero, List.set_cons_succ, i64_w, i32_w]
      rfl
    refine pure_ (i := 17) (N := some 86) (v := undef) (a' := ?_) #[true, true, true, true, true, true, true, true, true, true, true, true, true, true, true, true, true, true, false, false, false, false, false, false, false, false, false, false, false, false, false] rfl rfl (by kernel_rfl) (fun _ _ _ h => h) (Or.inr ⟨by rfl, rfl⟩) ?_ ?_
    rotate_left
    · simp only [Act.put, List.setIfInBounds_toArray, List.set_cons_zero, List.set_cons_succ, i64_w, i32_w]
      rfl
    refine pure_ (i := 18) (N := some 87) (v := undef) (a' := ?_) #[true, true, true, true, true, true, true, true, true, true, true, true, true, true, true, true, true, true, true, false, false, false, false, false, false, false, false, false, false, false, false] rfl rfl (by kernel_rfl) (fun _ _ _ h => h) (Or.inr ⟨by rfl, rfl⟩) ?_ ?_
    rotate_left
    · simp only [Act.put, List.setIfInBounds_toArray, List.set_cons_zero, List.set_cons_succ, i64_w, i32_w]
      rfl
    refine pure_ (i := 19) (N := some 88) (v := undef) (a' := ?_) #[true, true, true, true, true, true, true, true, true, true, true, true, true, true, true, true, true, true, true, true, false, false, false, false, false, false, false, false, false, false, false] rfl rfl (by kernel_rfl) (fun _ _ _ h => h) (Or.inr ⟨by rfl, rfl⟩) ?_ ?_
    rotate_left
    · simp only [Act.put, List.setIfInBounds_toArray, List.set_cons_zero, List.set_cons_succ, i64_w, i32_w]
      rfl
    refine pure_ (i := 20) (N := some 89) (v := undef) (a' := ?_) #[true, true, true, true, true, true, true, true, true, true, true, true, true, true, true, true, true, true, true, true, true, false, false, false, false, false, false, false, false, false, false] rfl rfl (by kernel_rfl) (fun _ _ _ h => h) (Or.inr ⟨by rfl, rfl⟩) ?_ ?_
    rotate_left
    · simp only [Act.put, List.setIfInBounds_toArray, List.set_cons_zero, List.set_cons_succ, i64_w, i32_w]
      rfl
    refine pure_ (i := 21) (N := some 90) (v := undef) (a' := ?_) #[true, true, true, true, true, true, true, true, true, true, true, true, true, true, true, true, true, true, true, true, true, true, false, false, false, false, false, false, false, false, false] rfl rfl (by kernel_rfl) (fun _ _ _ h => h) (Or.inr ⟨by rfl, rfl⟩) ?_ ?_
    rotate_left
    · simp only [Act.put, List.setIfInBounds_toArray, List.set_cons_zero, List.set_cons_succ, i64_w, i32_w]
      rfl
    refine pure_ (i := 22) (N := some 91) (v := undef) (a' := ?_) #[true, true, true, true, true, true, true, true, true, true, true, true, true, true, true, true, true, true, true, true, true, true, true, false, false, false, false, false, false, false, false] rfl rfl (by kernel_rfl) (fun _ _ _ h => h) (Or.inr ⟨by rfl, rfl⟩) ?_ ?_
    rotate_left
    · simp only [Act.put, List.setIfInBounds_toArray, List.set_cons_zero, List.set_cons_succ, i64_w, i32_w]
      rfl
    refine pure_ (i := 23) (N := some 92) (v := undef) (a' := ?_) #[true, true, true, true, true, true, true, true, true, true, true, true, true, true, true, true, true, true, true, true, true, true, true, true, false, false, false, false, false, false, false] rfl rfl (by kernel_rfl) (fun _ _ _ h => h) (Or.inr ⟨by rfl, rfl⟩) ?_ ?_
    rotate_left
    · simp only [Act.put, List.setIfInBounds_toArray, List.set_cons_zero, List.set_cons_succ, i64_w, i32_w]
      rfl
    refine pure_ (i := 24) (N := some 93) (v := undef) (a' := ?_) #[true, true, true, true, true, true, true, true, true, true, true, true, true, true, true, true, true, true, true, true, true, true, true, true, true, false, false, false, false, false, false] rfl rfl (by kernel_rfl) (fun _ _ _ h => h) (Or.inr ⟨by rfl, rfl⟩) ?_ ?_
    rotate_left
    · simp only [Act.put, List.setIfInBounds_toArray, List.set_cons_zero, List.set_cons_succ, i64_w, i32_w]
      rfl
    refine pure_ (i := 25) (N := some 94) (v := undef) (a' := ?_) #[true, true, true, true, true, true, true, true, true, true, true, true, true, true, true, true, true, true, true, true, true, true, true, true, true, true, false, false, false, false, false] rfl rfl (by kernel_rfl) (fun _ _ _ h => h) (Or.inr ⟨by rfl, rfl⟩) ?_ ?_
    rotate_left
    · simp only [Act.put, List.setIfInBounds_toArray, List.set_cons_zero, List.set_cons_succ, i64_w, i32_w]
      rfl
    refine pure_ (i := 26) (N := some 95) (v := undef) (a' := ?_) #[true, true, true, true, true, true, true, true, true, true, true, true, true, true, true, true, true, true, true, true, true, true, true, true, true, true, true, false, false, false, false] rfl rfl (by kernel_rfl) (fun _ _ _ h => h) (Or.inr ⟨by rfl, rfl⟩) ?_ ?_
    rotate_left
    · simp only [Act.put, List.setIfInBounds_toArray, List.set_cons_zero, List.set_cons_succ, i64_w, i32_w]
      rfl
    refine pure_ (i := 27) (N := some 96) (v := undef) (a' := ?_) #[true, true, true, true, true, true, true, true, true, true, true, true, true, true, true, true, true, true, true, true, true, true, true, true, true, true, true, true, false, false, false] rfl rfl (by kernel_rfl) (fun _ _ _ h => h) (Or.inr ⟨by rfl, rfl⟩) ?_ ?_
    rotate_left
    · simp only [Act.put, List.setIfInBounds_toArray, List.set_cons_zero, List.set_cons_succ, i64_w, i32_w]
      rfl
    refine pure_ (i := 28) (N := some 97) (v := ?_) (a' := ?_) #[true, true, true, true, true, true, true, true, true, true, true, true, true, true, true, true, true, true, true, true, true, true, true, true, true, true, true, true, true, false, false] rfl rfl (by kernel_rfl) (fun _ _ _ h => h) (Or.inl ⟨by rfl, ?_⟩) ?_ ?_
    rotate_left
    · intro w'
      go_simp
      with_reducible rfl
    rotate_left
    · simp only [Act.put, List.setIfInBounds_toArray, List.set_cons_zero, List.set_cons_succ, i64_w, i32_w]
      rfl
    refine pure_ (i := 29) (N := some 98) (v := ?_) (a' := ?_) #[true, true, true, true, true, true, true, true, true, true, true, true, true, true, true, true, true, true, true, true, true, true, true, true, true, true, true, true, true, true, false] rfl rfl (by kernel_rfl) (fun _ _ _ h => h) (Or.inl ⟨by rfl, ?_⟩) ?_ ?_
    rotate_left
    · intro w'
      go_simp
      with_reducible rfl
    rotate_left
    · simp only [Act.put, List.setIfInBounds_toArray, List.set_cons_zero, List.set_cons_succ, i64_w, i32_w]
      rfl
    refine pure_ (i := 30) (N := some 6) (v := ?_) (a' := ?_) #[true, true, true, true, true, true, true, true, true, true, true, true, true, true, true, true, true, true, true, true, true, true, true, true, true, true, true, true, true, true, true] rfl rfl (by kernel_rfl) (fun _ _ _ h => h) (Or.inl ⟨by rfl, ?_⟩) ?_ ?_
    rotate_left
    · intro w'
      go_simp
      with_reducible rfl
    rotate_left
    · simp only [Act.put, List.setIfInBounds_toArray, List.set_cons_zero, List.set_cons_succ, i64_w, i32_w]
      rfl
    refine done_ (by kernel_rfl) ?_
    go_wp2
    go_ret
    exact ⟨rfl, below_drew1 HB.out⟩)
set_option maxRecDepth 100000 in
set_option maxHeartbeats 40000000 in
theorem AuthPap_due (a0_0 a0_1 : Int) (a0_2 a0_3 a0_4 : Bool) (a0_5 : Int) (a0_6 : ByteArray) (a0_7 : Bool) (a0_8 a1 a2_0 a2_1 : Int) (A : Option Addr) (c L : Nat) (s0 s1 : Int) (s2 s3 s4 : Bool) (s5 : Int) (s6 : ByteArray) (s7 : Bool) (s8 : Int) (x3 x7 : Bool) (k : Bool) (kd : Int) (sv : ByteArray) (b1 b2 b3 b4 : Bool) (hb1 : (a0_0 != a1) = b1) (hb2 : (a0_1 != a1) = b2) (hb3 : (a1 != 49187) = b3) (hb4 : (a1 != 49699) = b4) (H : (b1 = false ∧ b3 = false) ∨ (b1 = false ∧ b3 = true ∧ b4 = false) ∨ (b1 = true ∧ b2 = false ∧ b3 = false) ∨ (b1 = true ∧ b2 = false ∧ b3 = true ∧ b4 = false)) (w : World) (HAW : Aside0 (∀ W, Below w.heap.size w W → Calls Try.prog 20 #[] W fun e w' => e = .returned (.bool true) ∧ Below W.heap.size W w')) (HMY : Aside0 (∀ W, Below w.heap.size w W → Calls Try.prog 21 #[.agg #[.int .i64 a2_0, .int .i64 a2_1, .slice A L c]] W fun e w' => e = .returned (.bool true) ∧ Below W.heap.size W w')) (HX : Aside0 (∀ W, Below w.heap.size w W → Calls Try.prog 22 #[.agg #[.int .i64 a0_0, .int .i64 a0_1, .bool a0_2, .bool a0_3, .bool a0_4, .int .i64 a0_5, .string a0_6, .bool a0_7, .int .i64 a0_8], .int .i64 a1, .agg #[.int .i64 a2_0, .int .i64 a2_1, .slice A L c]] W fun e w' => ∃ v9_ : Value, e = .returned (.tuple #[.agg #[.int .i64 a0_0, .int .i64 a0_1, .bool a0_2, .bool x3, .bool a0_4, .int .i64 a0_5, .string a0_6, .bool x7, .int .i64 a0_8], v9_]) ∧ Kd.R PAuthBase.k60 60 w' W.heap.size (fun _ => True) v9_ [(⟨kd, a1, a2_1, sv⟩ : PAuthBase.S60)] ∧ Below W.heap.size W w')) (HY : Aside0 (∀ W, Below w.heap.size w W → Calls Try.prog 27 #[.agg #[.int .i64 a0_0, .int .i64 a0_1, .bool a0_2, .bool a0_3, .bool a0_4, .int .i64 a0_5, .string a0_6, .bool a0_7, .int .i64 a0_8], .int .i64 a1, .agg #[.int .i64 a2_0, .int .i64 a2_1, .slice A L c]] W fun e w' => e = .returned (.tuple #[.agg #[.int .i64 s0, .int .i64 s1, .bool s2, .bool s3, .bool s4, .int .i64 s5, .string s6, .bool s7, .int .i64 s8], .bool k]) ∧ Below W.heap.size W w')) :
    Calls Try.prog 10 #[.agg #[.int .i64 a0_0, .int .i64 a0_1, .bool a0_2, .bool a0_3, .bool a0_4, .int .i64 a0_5, .string a0_6, .bool a0_7, .int .i64 a0_8], .int .i64 a1, .agg #[.int .i64 a2_0, .int .i64 a2_1, .slice A L c]] w fun e w' => e = .returned (.bool true) ∧ Below w.heap.size w w' := by
  have HB := Aside0.mk (Below.refl w.heap.size w)
  go_enter Try.func10, Try.ntmps10
  go_wp2_with (first | ((with_reducible refine gate_dst (N := 3) rfl ?_); refine' box_event ?hg (N := 3) ?hd (t := 47) ?hr ?_; (case hd => rfl); (case hg => rfl); (case hr => first | (go_simp; done) | (go_simp; rfl)); intro gl hgn w1 hbox hbn; have HB_ := Aside0.mk (below_step (show Below w.heap.size w w from HB.out) hbn); have GEgl := Aside0.mk (show w.heap.size ≤ gl from Nat.le_trans (below_size (show Below w.heap.size w w from HB.out)) (Nat.le_of_eq hgn.symm)); clear HB; have HB := HB_; clear HB_; have HL := Aside0.mk hbox; clear hbox hbn hgn; obtain ⟨l0, l1, l2, l3, l4, l5, l6, l7, l8, lf0, lf1, lf2, lf3, lf4, lf5, lf6, lf7, lf8⟩ := cells9 HL.out) | ((with_reducible refine gate_dst (N := 5) rfl ?_); refine' box_event ?hg (N := 5) ?hd (t := 49) ?hr ?_; (case hd => rfl); (case hg => rfl); (case hr => first | (go_simp; done) | (go_simp; rfl)); intro gp hgn w2 hbox hbn; have nglgp : gl ≠ gp := Nat.ne_of_lt (Nat.lt_of_lt_of_eq (blk_lt HL.out) hgn.symm); have ngpgl : gp ≠ gl := fun e_ => nglgp e_.symm; clear l0 lf0 l1 lf1 l2 lf2 l3 lf3 l4 lf4 l5 lf5 l6 lf6 l7 lf7 l8 lf8; have HL_ := Aside0.mk (blk_below HL.out hbn); clear HL; have HL := HL_; clear HL_; have HB_ := Aside0.mk (below_step (show Below w.heap.size w w1 from HB.out) hbn); have GEgp := Aside0.mk (show w.heap.size ≤ gp from Nat.le_trans (below_size (show Below w.heap.size w w1 from HB.out)) (Nat.le_of_eq hgn.symm)); clear HB; have HB := HB_; clear HB_; have HP := Aside0.mk hbox; clear hbox hbn hgn; obtain ⟨p0, p1, p2, pf0, pf1, pf2⟩ := cells3 HP.out; obtain ⟨l0, l1, l2, l3, l4, l5, l6, l7, l8, lf0, lf1, lf2, lf3, lf4, lf5, lf6, lf7, lf8⟩ := cells9 HL.out))
  clear l0 lf0 l1 lf1 l2 lf2 l3 lf3 l4 lf4 l5 lf5 l6 lf6 l7 lf7 l8 lf8 p0 pf0 p1 pf1 p2 pf2
  refine (HAW.out _ HB.out).mono ?_
  rintro e w3 ⟨rfl, hb⟩
  have HL_ := Aside0.mk (blk_below HL.out hb)
  have HP_ := Aside0.mk (blk_below HP.out hb)
  have HB_ := Aside0.mk (below_step HB.out hb)
  clear hb
  clear HL HP HB
  have HL := HL_
  clear HL_
  have HP := HP_
  clear HP_
  have HB := HB_
  clear HB_
  obtain ⟨p0, p1, p2, pf0, pf1, pf2⟩ := cells3 HP.out
  have ltp := blk_lt HP.out
  go_wp2_with fail
  clear p0 pf0 p1 pf1 p2 pf2 ltp
  refine (HMY.out _ HB.out).mono ?_
  rintro e w4 ⟨rfl, hb⟩
  have HL_ := Aside0.mk (blk_below HL.out hb)
  have HP_ := Aside0.mk (blk_below HP.out hb)
  have HB_ := Aside0.mk (below_step HB.out hb)
  clear hb
  clear HL HP HB
  have HL := HL_
  clear HL_
  have HP := HP_
  clear HP_
  have HB := HB_
  clear HB_
  obtain ⟨l0, l1, l2, l3, l4, l5, l6, l7, l8, lf0, lf1, lf2, lf3, lf4, lf5, lf6, lf7, lf8⟩ := cells9 HL.out
  have ltl := blk_lt HL.out
  obtain ⟨p0, p1, p2, pf0, pf1, pf2⟩ := cells3 HP.out
  have ltp := blk_lt HP.out
  go_wp2_with fail
  clear l0 lf0 l1 lf1 l2 lf2 l3 lf3 l4 lf4 l5 lf5 l6 lf6 l7 lf7 l8 lf8 ltl
  clear p0 pf0 p1 pf1 p2 pf2 ltp
  refine (HX.out _ HB.out).mono ?_
  rintro e w5 ⟨v5, rfl, hr, hb⟩
  have HL_ := Aside0.mk (blk_below HL.out hb)
  have HP_ := Aside0.mk (blk_below HP.out hb)
  have HB_ := Aside0.mk (below_step HB.out hb)
  clear hb
  clear HL HP HB
  have HL := HL_
  clear HL_
  have HP := HP_
  clear HP_
  have HB := HB_
  clear HB_
  have HR := Aside0.mk hr
  obtain ⟨A5, c5, rfl, hc5, _⟩ := Kd.R_reads hr
  clear hr hc5
  have ltl5 := Aside0.mk (blk_lt HL.out)
  have ltp5 := Aside0.mk (blk_lt HP.out)
  obtain ⟨l0, l1, l2, l3, l4, l5, l6, l7, l8, lf0, lf1, lf2, lf3, lf4, lf5, lf6, lf7, lf8⟩ := cells9 HL.out
  have ltl := blk_lt HL.out
  obtain ⟨p0, p1, p2, pf0, pf1, pf2⟩ := cells3 HP.out
  have ltp := blk_lt HP.out
  go_wp2_with fail
  clear l0 lf0 l1 lf1 l2 lf2 l3 lf3 l4 lf4 l5 lf5 l6 lf6 l7 lf7 l8 lf8 ltl
  clear p0 pf0 p1 pf1 p2 pf2 ltp
  refine (HY.out _ (below_alloc HB.out _)).mono ?_
  rintro e w6 ⟨rfl, hb⟩
  have HL_ := Aside0.mk (blk_below (blk_alloc HL.out _) hb)
  have HP_ := Aside0.mk (blk_below (blk_alloc HP.out _) hb)
  have HR_ := Aside0.mk (Kd.R_below (Kd.R_alloc HR.out _) hb)
  have HA_ := Aside0.mk (blk_below (blk_new w5 _) hb)
  have NE_ := Aside0.mk ((⟨Nat.ne_of_lt ltl5.out, Nat.ne_of_lt ltp5.out⟩ : gl ≠ w5.heap.size ∧ gp ≠ w5.heap.size))
  have GA_ := Aside0.mk ((below_size HB.out : w.heap.size ≤ w5.heap.size))
  have HB_ := Aside0.mk (below_step (below_alloc HB.out _) hb)
  clear hb
  clear HL HP HR HB
  have HL := HL_
  clear HL_
  have HP := HP_
  clear HP_
  have HR := HR_
  clear HR_
  have HA := HA_
  clear HA_
  have NE := NE_
  clear NE_
  have GA := GA_
  clear GA_
  have HB := HB_
  clear HB_
  obtain ⟨ga, hga⟩ : ∃ g, w5.heap.size = g := ⟨_, rfl⟩
  rw [hga] at HA NE GA ⊢
  clear hga
  go_upto_region 5 with (fail)
  (try simp only [Act.put, List.setIfInBounds_toArray, List.set_cons_zero, List.set_cons_succ])
  have HL_ := Aside0.mk (blk_alloc HL.out (.cells #[.int .i64 s0, .int .i64 s1, .bool s2, .bool s3, .bool s4, .int .i64 s5, .string s6, .bool s7, .int .i64 s8] 47))
  have HP_ := Aside0.mk (blk_alloc HP.out (.cells #[.int .i64 s0, .int .i64 s1, .bool s2, .bool s3, .bool s4, .int .i64 s5, .string s6, .bool s7, .int .i64 s8] 47))
  have HR_ := Aside0.mk (Kd.R_alloc HR.out (.cells #[.int .i64 s0, .int .i64 s1, .bool s2, .bool s3, .bool s4, .int .i64 s5, .string s6, .bool s7, .int .i64 s8] 47))
  have HA_ := Aside0.mk (blk_alloc HA.out (.cells #[.int .i64 s0, .int .i64 s1, .bool s2, .bool s3, .bool s4, .int .i64 s5, .string s6, .bool s7, .int .i64 s8] 47))
  have HD_ := Aside0.mk (blk_new w6 (.cells #[.int .i64 s0, .int .i64 s1, .bool s2, .bool s3, .bool s4, .int .i64 s5, .string s6, .bool s7, .int .i64 s8] 47))
  have HB_ := Aside0.mk (below_alloc HB.out (.cells #[.int .i64 s0, .int .i64 s1, .bool s2, .bool s3, .bool s4, .int .i64 s5, .string s6, .bool s7, .int .i64 s8] 47))
  clear HL HP HR HA HB
  obtain ⟨gb, hgb⟩ : ∃ g, w6.heap.size = g := ⟨_, rfl⟩
  rw [hgb] at HD_ ⊢
  clear hgb
  generalize w6.alloc (.cells #[.int .i64 s0, .int .i64 s1, .bool s2, .bool s3, .bool s4, .int .i64 s5, .string s6, .bool s7, .int .i64 s8] 47) = w7 at HL_ HP_ HR_ HA_ HD_ HB_ ⊢
  have HL := HL_
  clear HL_
  have HP := HP_
  clear HP_
  have HR := HR_
  clear HR_
  have HA := HA_
  clear HA_
  have HD := HD_
  clear HD_
  have HB := HB_
  clear HB_
  obtain ⟨l0, l1, l2, l3, l4, l5, l6, l7, l8, lf0, lf1, lf2, lf3, lf4, lf5, lf6, lf7, lf8⟩ := cells9 HL.out
  have ltl := blk_lt HL.out
  obtain ⟨a0, a1, a2, a3, a4, a5, a6, a7, a8, af0, af1, af2, af3, af4, af5, af6, af7, af8⟩ := cells9 HA.out
  have lta := blk_lt HA.out
  obtain ⟨p0, p1, p2, pf0, pf1, pf2⟩ := cells3 HP.out
  have ltp := blk_lt HP.out
  skip
  skip
  rcases H with ⟨rfl, rfl⟩ | ⟨rfl, rfl, rfl⟩ | ⟨rfl, rfl, rfl⟩ | ⟨rfl, rfl, rfl, rfl⟩
  all_goals (go_upto_region 9 with (fail))
  all_goals (try simp only [Act.put, List.setIfInBounds_toArray, List.set_cons_zero, List.set_cons_succ])
  all_goals (
    have nlg : gl ≠ ga := NE.out.1
    have npg : gp ≠ ga := NE.out.2
    have yL := blk_far (p := ⟨ga, 7, none⟩) (blk_far (p := ⟨ga, 3, none⟩) HL.out nlg (.bool a0_3)) nlg (.bool a0_7)
    have yP := blk_far (p := ⟨ga, 7, none⟩) (blk_far (p := ⟨ga, 3, none⟩) HP.out npg (.bool a0_3)) npg (.bool a0_7)
    have yA : ((w7.setCell ⟨ga, 3, none⟩ (.bool a0_3)).setCell ⟨ga, 7, none⟩ (.bool a0_7)).heap[ga]? = some (.cells #[.int .i64 a0_0, .int .i64 a0_1, .bool a0_2, .bool a0_3, .bool a0_4, .int .i64 a0_5, .string a0_6, .bool a0_7, .int .i64 a0_8] 47 (0, 0)) := blk_put7 (blk_put3 HA.out (.bool a0_3)) (.bool a0_7)
    have yB : Below w.heap.size w ((w7.setCell ⟨ga, 3, none⟩ (.bool a0_3)).setCell ⟨ga, 7, none⟩ (.bool a0_7)) := (HB.out.setCell (p := ⟨ga, 3, none⟩) GA.out _).setCell (p := ⟨ga, 7, none⟩) GA.out _
    have ht : ∀ x, x ∈ (60 : TypeId) :: PAuthBase.k60.E → x ≠ 47 := fun x hx => by cases hx with | head => decide | tail _ h => cases h
    have yR : Kd.R PAuthBase.k60 60 ((w7.setCell ⟨ga, 3, none⟩ (.bool a0_3)).setCell ⟨ga, 7, none⟩ (.bool a0_7)) _ _ _ _ := Kd.R_set (Kd.R_set HR.out HA.out ht 3 (.bool a0_3)) (blk_set HA.out 3 (.bool a0_3)) ht 7 (.bool a0_7)
    clear l0 lf0 l1 lf1 l2 lf2 l3 lf3 l4 lf4 l5 lf5 l6 lf6 l7 lf7 l8 lf8 a0 af0 a1 af1 a2 af2 a3 af3 a4 af4 a5 af5 a6 af6 a7 af7 a8 af8 p0 pf0 p1 pf1 p2 pf2 ltl lta ltp HL HP HA HR HB
    generalize ((w7.setCell ⟨ga, 3, none⟩ (.bool a0_3)).setCell ⟨ga, 7, none⟩ (.bool a0_7)) = w8 at yL yP yA yB yR ⊢
    have HL := Aside0.mk yL
    have HP := Aside0.mk yP
    have HA := Aside0.mk yA
    have HB := Aside0.mk yB
    obtain ⟨gf, cf, ef, hf⟩ := due_one' yR
    simp only [Value.slice.injEq, List.length_cons, List.length_nil] at ef
    obtain ⟨rfl, _, rfl⟩ := ef
    have HF := Aside0.mk (hf _ (below_drew1 (Below.refl w8.heap.size w8)))
    clear hf yR ht
    clear yL yP yA yB
    refine start_ (n := 31) (S := fun w' => w'.cell? ⟨ga, 0, none⟩ = some (.int .i64 a0_0) ∧ w'.cell? ⟨ga, 1, none⟩ = some (.int .i64 a0_1) ∧ w'.cell? ⟨ga, 2, none⟩ = some (.bool a0_2) ∧ w'.cell? ⟨ga, 3, none⟩ = some (.bool a0_3) ∧ w'.cell? ⟨ga, 4, none⟩ = some (.bool a0_4) ∧ w'.cell? ⟨ga, 5, none⟩ = some (.int .i64 a0_5) ∧ w'.cell? ⟨ga, 6, none⟩ = some (.string a0_6) ∧ w'.cell? ⟨ga, 7, none⟩ = some (.bool a0_7) ∧ w'.cell? ⟨ga, 8, none⟩ = some (.int .i64 a0_8) ∧ w'.cell? ⟨gl, 0, none⟩ = some (.int .i64 a0_0) ∧ w'.cell? ⟨gl, 1, none⟩ = some (.int .i64 a0_1) ∧ w'.cell? ⟨gl, 2, none⟩ = some (.bool a0_2) ∧ w'.cell? ⟨gl, 3, none⟩ = some (.bool a0_3) ∧ w'.cell? ⟨gl, 4, none⟩ = some (.bool a0_4) ∧ w'.cell? ⟨gl, 5, none⟩ = some (.int .i64 a0_5) ∧ w'.cell? ⟨gl, 6, none⟩ = some (.string a0_6) ∧ w'.cell? ⟨gl, 7, none⟩ = some (.bool a0_7) ∧ w'.cell? ⟨gl, 8, none⟩ = some (.int .i64 a0_8) ∧ w'.cell? ⟨gp, 1, none⟩ = some (.int .i64 a2_1) ∧ w'.cell? ⟨gf, 1, none⟩ = some (.int .i64 a1) ∧ w'.cell? ⟨gf, 2, none⟩ = some (.int .i64 a2_1)) (ds := []) #[false, false, false, false, false, false, false, false, false, false, false, false, false, false, false, false, false, false, false, false, false, false, false, false, false, false, false, false, false, false, false] (by kernel_rfl) rfl rfl ⟨((blk_cell (blk_drew HA.out) 0).trans rfl), ((blk_cell (blk_drew HA.out) 1).trans rfl), ((blk_cell (blk_drew HA.out) 2).trans rfl), ((blk_cell (blk_drew HA.out) 3).trans rfl), ((blk_cell (blk_drew HA.out) 4).trans rfl), ((blk_cell (blk_drew HA.out) 5).trans rfl), ((blk_cell (blk_drew HA.out) 6).trans rfl), ((blk_cell (blk_drew HA.out) 7).trans rfl), ((blk_cell (blk_drew HA.out) 8).trans rfl), ((blk_cell (blk_drew HL.out) 0).trans rfl), ((blk_cell (blk_drew HL.out) 1).trans rfl), ((blk_cell (blk_drew HL.out) 2).trans rfl), ((blk_cell (blk_drew HL.out) 3).trans rfl), ((blk_cell (blk_drew HL.out) 4).trans rfl), ((blk_cell (blk_drew HL.out) 5).trans rfl), ((blk_cell (blk_drew HL.out) 6).trans rfl), ((blk_cell (blk_drew HL.out) 7).trans rfl), ((blk_cell (blk_drew HL.out) 8).trans rfl), ((blk_cell (blk_drew HP.out) 1).trans rfl), HF.out.2.1, HF.out.2.2.1⟩ (fun hHeld => ?_)
    refine take_ (i := 0) (N := some 69) (v := ?_) (a' := ?_) #[true, false, false, false, false, false, false, false, false, false, false, false, false, false, false, false, false, false, false, false, false, false, false, false, false, false, false, false, false, false, false] rfl rfl (by kernel_rfl) (fun _ _ _ h => h) (Or.inl ⟨by rfl, ?_⟩) hHeld ?_ ?_
    rotate_left
    · rintro w' ⟨s0, s1, s2, s3, s4, s5, s6, s7, s8, s9, s10, s11, s12, s13, s14, s15, s16, s17, s18, s19, s20⟩
      go_simp
      with_reducible rfl
    rotate_left
    · simp only [Act.put, List.setIfInBounds_toArray, List.set_cons_zero, List.set_cons_succ, i64_w, i32_w]
      rfl
    refine take_ (i := 1) (N := some 70) (v := ?_) (a' := ?_) #[true, true, false, false, false, false, false, false, false, false, false, false, false, false, false, false, false, false, false, false, false, false, false, false, false, false, false, false, false, false, false] rfl rfl (by kernel_rfl) (fun _ _ _ h => h) (Or.inl ⟨by rfl, ?_⟩) hHeld ?_ ?_
    rotate_left
    · rintro w' ⟨s0, s1, s2, s3, s4, s5, s6, s7, s8, s9, s10, s11, s12, s13, s14, s15, s16, s17, s18, s19, s20⟩
      go_simp
      with_reducible rfl
    rotate_left
    · simp only [Act.put, List.setIfInBounds_toArray, List.set_cons_zero, List.set_cons_succ, i64_w, i32_w]
      rfl
    refine pure_ (i := 2) (N := some 71) (v := ?_) (a' := ?_) #[true, true, true, false, false, false, false, false, false, false, false, false, false, false, false, false, false, false, false, false, false, false, false, false, false, false, false, false, false, false, false] rfl rfl (by kernel_rfl) (fun _ _ _ h => h) (Or.inl ⟨by rfl, ?_⟩) ?_ ?_
    rotate_left
    · intro w'
      go_simp
      with_reducible rfl
    rotate_left
    · simp only [Act.put, List.setIfInBounds_toArray, List.set_cons_zero, List.set_cons_succ, i64_w, i32_w]
      rfl
    refine pure_ (i := 3) (N := some 72) (v := ?_) (a' := ?_) #[true, true, true, true, false, false, false, false, false, false, false, false, false, false, false, false, false, false, false, false, false, false, false, false, false, false, false, false, false, false, false] rfl rfl (by kernel_rfl) (fun _ _ _ h => h) (Or.inl ⟨by rfl, ?_⟩) ?_ ?_
    rotate_left
    · intro w'
      go_simp
      with_reducible rfl
    rotate_left
    · simp only [Act.put, List.setIfInBounds_toArray, List.set_cons_zero, List.set_cons_succ, i64_w, i32_w]
      rfl
    refine pure_ (i := 4) (N := some 73) (v := ?_) (a' := ?_) #[true, true, true, true, true, false, false, false, false, false, false, false, false, false, false, false, false, false, false, false, false, false, false, false, false, false, false, false, false, false, false] rfl rfl (by kernel_rfl) (fun _ _ _ h => h) (Or.inl ⟨by rfl, ?_⟩) ?_ ?_
    rotate_left
    · intro w'
      go_simp
      with_reducible rfl
    rotate_left
    · simp only [Act.put, List.setIfInBounds_toArray, List.set_cons_zero, List.set_cons_succ, i64_w, i32_w]
      rfl
    refine pure_ (i := 5) (N := some 74) (v := ?_) (a' := ?_) #[true, true, true, true, true, true, false, false, false, false, false, false, false, false, false, false, false, false, false, false, false, false, false, false, false, false, false, false, false, false, false] rfl rfl (by kernel_rfl) (fun _ _ _ h => h) (Or.inl ⟨by rfl, ?_⟩) ?_ ?_
    rotate_left
    · intro w'
      go_simp
      with_reducible rfl
    rotate_left
    · simp only [Act.put, List.setIfInBounds_toArray, List.set_cons_zero, List.set_cons_succ, i64_w, i32_w]
      rfl
    refine pure_ (i := 6) (N := some 75) (v := ?_) (a' := ?_) #[true, true, true, true, true, true, true, false, false, false, false, false, false, false, false, false, false, false, false, false, false, false, false, false, false, false, false, false, false, false, false] rfl rfl (by kernel_rfl) (fun _ _ _ h => h) (Or.inl ⟨by rfl, ?_⟩) ?_ ?_
    rotate_left
    · intro w'
      go_simp
      with_reducible rfl
    rotate_left
    · simp only [Act.put, List.setIfInBounds_toArray, List.set_cons_zero, List.set_cons_succ, i64_w, i32_w]
      rfl
    refine pure_ (i := 7) (N := some 76) (v := ?_) (a' := ?_) #[true, true, true, true, true, true, true, true, false, false, false, false, false, false, false, false, false, false, false, false, false, false, false, false, false, false, false, false, false, false, false] rfl rfl (by kernel_rfl) (fun _ _ _ h => h) (Or.inl ⟨by rfl, ?_⟩) ?_ ?_
    rotate_left
    · intro w'
      go_simp
      with_reducible rfl
    rotate_left
    · simp only [Act.put, List.setIfInBounds_toArray, List.set_cons_zero, List.set_cons_succ, i64_w, i32_w]
      rfl
    refine pure_ (i := 8) (N := some 77) (v := ?_) (a' := ?_) #[true, true, true, true, true, true, true, true, true, false, false, false, false, false, false, false, false, false, false, false, false, false, false, false, false, false, false, false, false, false, false] rfl rfl (by kernel_rfl) (fun _ _ _ h => h) (Or.inl ⟨by rfl, ?_⟩) ?_ ?_
    rotate_left
    · intro w'
      go_simp
      with_reducible rfl
    rotate_left
    · simp only [Act.put, List.setIfInBounds_toArray, List.set_cons_zero, List.set_cons_succ, i64_w, i32_w]
      rfl
    refine pure_ (i := 9) (N := some 78) (v := ?_) (a' := ?_) #[true, true, true, true, true, true, true, true, true, true, false, false, false, false, false, false, false, false, false, false, false, false, false, false, false, false, false, false, false, false, false] rfl rfl (by kernel_rfl) (fun _ _ _ h => h) (Or.inl ⟨by rfl, ?_⟩) ?_ ?_
    rotate_left
    · intro w'
      go_simp
      with_reducible rfl
    rotate_left
    · simp only [Act.put, List.setIfInBounds_toArray, List.set_cons_zero, List.set_cons_succ, i64_w, i32_w]
      rfl
    refine pure_ (i := 10) (N := some 79) (v := ?_) (a' := ?_) #[true, true, true, true, true, true, true, true, true, true, true, false, false, false, false, false, false, false, false, false, false, false, false, false, false, false, false, false, false, false, false] rfl rfl (by kernel_rfl) (fun _ _ _ h => h) (Or.inl ⟨by rfl, ?_⟩) ?_ ?_
    rotate_left
    · intro w'
      go_simp
      with_reducible rfl
    rotate_left
    · simp only [Act.put, List.setIfInBounds_toArray, List.set_cons_zero, List.set_cons_succ, i64_w, i32_w]
      rfl
    refine pure_ (i := 11) (N := some 80) (v := ?_) (a' := ?_) #[true, true, true, true, true, true, true, true, true, true, true, true, false, false, false, false, false, false, false, false, false, false, false, false, false, false, false, false, false, false, false] rfl rfl (by kernel_rfl) (fun _ _ _ h => h) (Or.inl ⟨by rfl, ?_⟩) ?_ ?_
    rotate_left
    · intro w'
      go_simp
      with_reducible rfl
    rotate_left
    · simp only [Act.put, List.setIfInBounds_toArray, List.set_cons_zero, List.set_cons_succ, i64_w, i32_w]
      rfl
    refine pure_ (i := 12) (N := some 81) (v := ?_) (a' := ?_) #[true, true, true, true, true, true, true, true, true, true, true, true, true, false, false, false, false, false, false, false, false, false, false, false, false, false, false, false, false, false, false] rfl rfl (by kernel_rfl) (fun _ _ _ h => h) (Or.inl ⟨by rfl, ?_⟩) ?_ ?_
    rotate_left
    · intro w'
      go_simp
      with_reducible rfl
    rotate_left
    · simp only [Act.put, List.setIfInBounds_toArray, List.set_cons_zero, List.set_cons_succ, i64_w, i32_w]
      rfl
    refine pure_ (i := 13) (N := some 82) (v := ?_) (a' := ?_) #[true, true, true, true, true, true, true, true, true, true, true, true, true, true, false, false, false, false, false, false, false, false, false, false, false, false, false, false, false, false, false] rfl rfl (by kernel_rfl) (fun _ _ _ h => h) (Or.inl ⟨by rfl, ?_⟩) ?_ ?_
    rotate_left
    · intro w'
      go_simp
      with_reducible rfl
    rotate_left
    · simp only [Act.put, List.setIfInBounds_toArray, List.set_cons_zero, List.set_cons_succ, i64_w, i32_w]
      rfl
    refine pure_ (i := 14) (N := some 83) (v := ?_) (a' := ?_) #[true, true, true, true, true, true, true, true, true, true, true, true, true, true, true, false, false, false, false, false, false, false, false, false, false, false, false, false, false, false, false] rfl rfl (by kernel_rfl) (fun _ _ _ h => h) (Or.inl ⟨by rfl, ?_⟩) ?_ ?_
    rotate_left
    · intro w'
      go_simp
      with_reducible rfl
    rotate_left
    · simp only [Act.put, List.setIfInBounds_toArray, List.set_cons_zero, List.set_cons_succ, i64_w, i32_w]
      rfl
    refine pure_ (i := 15) (N := some 84) (v := ?_) (a' := ?_) #[true, true, true, true, true, true, true, true, true, true, true, true, true, true, true, true, false, false, false, false, false, false, false, false, false, false, false, false, false, false, false] rfl rfl (by kernel_rfl) (fun _ _ _ h => h) (Or.inl ⟨by rfl, ?_⟩) ?_ ?_
    rotate_left
    · intro w'
      go_simp
      with_reducible rfl
    rotate_left
    · simp only [Act.put, List.setIfInBounds_toArray, List.set_cons_zero, List.set_cons_succ, i64_w, i32_w]
      rfl
    refine pure_ (i := 17) (N := some 86) (v := ?_) (a' := ?_) #[true, true, true, true, true, true, true, true, true, true, true, true, true, true, true, true, false, true, false, false, false, false, false, false, false, false, false, false, false, false, false] rfl rfl (by kernel_rfl) (fun _ _ _ h => h) (Or.inl ⟨by rfl, ?_⟩) ?_ ?_
    rotate_left
    · intro w'
      go_simp
      with_reducible rfl
    rotate_left
    · simp only [Act.put, List.setIfInBounds_toArray, List.set_cons_zero, List.set_cons_succ, i64_w, i32_w]
      rfl
    refine take_ (i := 16) (N := some 85) (v := ?_) (a' := ?_) #[true, true, true, true, true, true, true, true, true, true, true, true, true, true, true, true, true, true, false, false, false, false, false, false, false, false, false, false, false, false, false] rfl rfl (by kernel_rfl) (fun _ _ _ h => h) (Or.inl ⟨by rfl, ?_⟩) hHeld ?_ ?_
    rotate_left
    · rintro w' ⟨s0, s1, s2, s3, s4, s5, s6, s7, s8, s9, s10, s11, s12, s13, s14, s15, s16, s17, s18, s19, s20⟩
      go_simp
      with_reducible rfl
    rotate_left
    · simp only [Act.put, List.setIfInBounds_toArray, List.set_cons_zero, List.set_cons_succ, i64_w, i32_w]
      rfl
    refine pure_ (i := 18) (N := some 87) (v := ?_) (a' := ?_) #[true, true, true, true, true, true, true, true, true, true, true, true, true, true, true, true, true, true, true, false, false, false, false, false, false, false, false, false, false, false, false] rfl rfl (by kernel_rfl) (fun _ _ _ h => h) (Or.inl ⟨by rfl, ?_⟩) ?_ ?_
    rotate_left
    · intro w'
      go_simp
      with_reducible rfl
    rotate_left
    · simp only [Act.put, List.setIfInBounds_toArray, List.set_cons_zero, List.set_cons_succ, i64_w, i32_w]
      rfl
    refine pure_ (i := 19) (N := some 88) (v := ?_) (a' := ?_) #[true, true, true, true, true, true, true, true, true, true, true, true, true, true, true, true, true, true, true, true, false, false, false, false, false, false, false, false, false, false, false] rfl rfl (by kernel_rfl) (fun _ _ _ h => h) (Or.inl ⟨by rfl, ?_⟩) ?_ ?_
    rotate_left
    · intro w'
      go_simp
      with_reducible rfl
    rotate_left
    · simp only [Act.put, List.setIfInBounds_toArray, List.set_cons_zero, List.set_cons_succ, i64_w, i32_w]
      rfl
    refine pure_ (i := 20) (N := some 89) (v := ?_) (a' := ?_) #[true, true, true, true, true, true, true, true, true, true, true, true, true, true, true, true, true, true, true, true, true, false, false, false, false, false, false, false, false, false, false] rfl rfl (by kernel_rfl) (fun _ _ _ h => h) (Or.inl ⟨by rfl, ?_⟩) ?_ ?_
    rotate_left
    · intro w'
      go_simp
      with_reducible rfl
    rotate_left
    · simp only [Act.put, List.setIfInBounds_toArray, List.set_cons_zero, List.set_cons_succ, i64_w, i32_w]
      rfl
    refine pure_ (i := 21) (N := some 90) (v := ?_) (a' := ?_) #[true, true, true, true, true, true, true, true, true, true, true, true, true, true, true, true, true, true, true, true, true, true, false, false, false, false, false, false, false, false, false] rfl rfl (by kernel_rfl) (fun _ _ _ h => h) (Or.inl ⟨by rfl, ?_⟩) ?_ ?_
    rotate_left
    · intro w'
      go_simp
      with_reducible rfl
    rotate_left
    · simp only [Act.put, List.setIfInBounds_toArray, List.set_cons_zero, List.set_cons_succ, i64_w, i32_w]
      rfl
    refine pure_ (i := 22) (N := some 91) (v := ?_) (a' := ?_) #[true, true, true, true, true, true, true, true, true, true, true, true, true, true, true, true, true, true, true, true, true, true, true, false, false, false, false, false, false, false, false] rfl rfl (by kernel_rfl) (fun _ _ _ h => h) (Or.inl ⟨by rfl, ?_⟩) ?_ ?_
    rotate_left
    · intro w'
      go_simp
      with_reducible rfl
    rotate_left
    · simp only [Act.put, List.setIfInBounds_toArray, List.set_cons_zero, List.set_cons_succ, i64_w, i32_w]
      rfl
    refine pure_ (i := 24) (N := some 93) (v := ?_) (a' := ?_) #[true, true, true, true, true, true, true, true, true, true, true, true, true, true, true, true, true, true, true, true, true, true, true, false, true, false, false, false, false, false, false] rfl rfl (by kernel_rfl) (fun _ _ _ h => h) (Or.inl ⟨by rfl, ?_⟩) ?_ ?_
    rotate_left
    · intro w'
      go_simp
      with_reducible rfl
    rotate_left
    · simp only [Act.put, List.setIfInBounds_toArray, List.set_cons_zero, List.set_cons_succ, i64_w, i32_w]
      rfl
    refine take_ (i := 23) (N := some 92) (v := ?_) (a' := ?_) #[true, true, true, true, true, true, true, true, true, true, true, true, true, true, true, true, true, true, true, true, true, true, true, true, true, false, false, false, false, false, false] rfl rfl (by kernel_rfl) (fun _ _ _ h => h) (Or.inl ⟨by rfl, ?_⟩) hHeld ?_ ?_
    rotate_left
    · rintro w' ⟨s0, s1, s2, s3, s4, s5, s6, s7, s8, s9, s10, s11, s12, s13, s14, s15, s16, s17, s18, s19, s20⟩
      go_simp
      with_reducible rfl
    rotate_left
    · simp only [Act.put, List.setIfInBounds_toArray, List.set_cons_zero, List.set_cons_succ, i64_w, i32_w]
      rfl
    refine take_ (i := 25) (N := some 94) (v := ?_) (a' := ?_) #[true, true, true, true, true, true, true, true, true, true, true, true, true, true, true, true, true, true, true, true, true, true, true, true, true, true, false, false, false, false, false] rfl rfl (by kernel_rfl) (fun _ _ _ h => h) (Or.inl ⟨by rfl, ?_⟩) hHeld ?_ ?_
    rotate_left
    · rintro w' ⟨s0, s1, s2, s3, s4, s5, s6, s7, s8, s9, s10, s11, s12, s13, s14, s15, s16, s17, s18, s19, s20⟩
      go_simp
      with_reducible rfl
    rotate_left
    · simp only [Act.put, List.setIfInBounds_toArray, List.set_cons_zero, List.set_cons_succ, i64_w, i32_w]
      rfl
    refine pure_ (i := 26) (N := some 95) (v := ?_) (a' := ?_) #[true, true, true, true, true, true, true, true, true, true, true, true, true, true, true, true, true, true, true, true, true, true, true, true, true, true, true, false, false, false, false] rfl rfl (by kernel_rfl) (fun _ _ _ h => h) (Or.inl ⟨by rfl, ?_⟩) ?_ ?_
    rotate_left
    · intro w'
      go_simp
      with_reducible rfl
    rotate_left
    · simp only [Act.put, List.setIfInBounds_toArray, List.set_cons_zero, List.set_cons_succ, i64_w, i32_w]
      rfl
    refine pure_ (i := 27) (N := some 96) (v := ?_) (a' := ?_) #[true, true, true, true, true, true, true, true, true, true, true, true, true, true, true, true, true, true, true, true, true, true, true, true, true, true, true, true, false, false, false] rfl rfl (by kernel_rfl) (fun _ _ _ h => h) (Or.inl ⟨by rfl, ?_⟩) ?_ ?_
    rotate_left
    · intro w'
      go_simp
      with_reducible rfl
    rotate_left
    · simp only [Act.put, List.setIfInBounds_toArray, List.set_cons_zero, List.set_cons_succ, i64_w, i32_w]
      rfl
    refine pure_ (i := 28) (N := some 97) (v := ?_) (a' := ?_) #[true, true, true, true, true, true, true, true, true, true, true, true, true, true, true, true, true, true, true, true, true, true, true, true, true, true, true, true, true, false, false] rfl rfl (by kernel_rfl) (fun _ _ _ h => h) (Or.inl ⟨by rfl, ?_⟩) ?_ ?_
    rotate_left
    · intro w'
      go_simp
      with_reducible rfl
    rotate_left
    · simp only [Act.put, List.setIfInBounds_toArray, List.set_cons_zero, List.set_cons_succ, i64_w, i32_w]
      rfl
    refine pure_ (i := 29) (N := some 98) (v := ?_) (a' := ?_) #[true, true, true, true, true, true, true, true, true, true, true, true, true, true, true, true, true, true, true, true, true, true, true, true, true, true, true, true, true, true, false] rfl rfl (by kernel_rfl) (fun _ _ _ h => h) (Or.inl ⟨by rfl, ?_⟩) ?_ ?_
    rotate_left
    · intro w'
      go_simp
      with_reducible rfl
    rotate_left
    · simp only [Act.put, List.setIfInBounds_toArray, List.set_cons_zero, List.set_cons_succ, i64_w, i32_w]
      rfl
    refine pure_ (i := 30) (N := some 6) (v := ?_) (a' := ?_) #[true, true, true, true, true, true, true, true, true, true, true, true, true, true, true, true, true, true, true, true, true, true, true, true, true, true, true, true, true, true, true] rfl rfl (by kernel_rfl) (fun _ _ _ h => h) (Or.inl ⟨by rfl, ?_⟩) ?_ ?_
    rotate_left
    · intro w'
      go_simp
      with_reducible rfl
    rotate_left
    · simp only [Act.put, List.setIfInBounds_toArray, List.set_cons_zero, List.set_cons_succ, i64_w, i32_w]
      rfl
    refine done_ (by kernel_rfl) ?_
    go_wp2
    go_ret
    exact ⟨rfl, below_drew1 HB.out⟩)
end Go.Proofs.Ytglbaeikklkghaa.AuthHand
