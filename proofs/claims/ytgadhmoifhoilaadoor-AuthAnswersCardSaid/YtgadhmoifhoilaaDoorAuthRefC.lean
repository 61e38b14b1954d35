/-
  umpireref21.Hear by hand: its ways, grouped by what they leave.
-/
import Derived.Test.YtgadhmoifhoilaaDoorAuthBaseD
import Derived.Test.YtgadhmoifhoilaaDoorAuthRef0
namespace Go.Proofs.YtgadhmoifhoilaaDoor.AuthHand
open Go.RowKit Go.Lib Go.Proofs.YtgadhmoifhoilaaDoorW.PrintWords Go.Proofs.YtgadhmoifhoilaaDoorW.PrintLast Go.Proofs.YtgadhmoifhoilaaDoorW.PrintMore Go.Proofs.YtgadhmoifhoilaaDoor.Kit
set_option linter.unusedVariables false
set_option linter.unusedSimpArgs false
set_option maxRecDepth 100000 in
set_option maxHeartbeats 40000000 in
theorem hear_due9 (a0_0 a0_1 : Int) (a0_2 a0_3 a0_4 : Bool) (a0_5 : Int) (a0_6 : ByteArray) (a0_7 : Bool) (a0_8 a1 a2_0 a2_1 : Int) (A : Option Addr) (c L : Nat) (tv : List Int) (sn : ByteArray) (er : Int) (ka ks mi b1 b2 c1 c2 c3 c4 o7 o9 t7 t9 i5 e0 n6 : Bool) (HMI : Aside0 ((a0_7 && (a2_1 == a0_8)) = mi)) (hb1 : (a1 == 49187) = b1) (hb2 : (a1 != 49699) = b2) (hc1 : (a2_0 == 1) = c1) (hc2 : (a2_0 == 2) = c2) (hc3 : (a2_0 == 3) = c3) (hc4 : (a2_0 == 4) = c4) (ho7 : (a0_0 == 49187) = o7) (ho9 : (a0_0 == 49699) = o9) (ht7 : (a0_1 == 49187) = t7) (ht9 : (a0_1 == 49699) = t9) (hi5 : (a2_1 == a0_5) = i5) (he0 : (er == 0) = e0) (hn6 : ((tv.length : Int) == 16) = n6)
  (H : (b1 = true ∧ b2 = true ∧ c1 = true ∧ o7 = true ∧ ka = true)) (w : World) (HRD : Aside0 (∀ W, Below w.heap.size w W → Calls Tryd.prog 20 #[.slice A L c] W fun e w' => ∃ v0_ : Value, e = .returned (.tuple #[.agg #[v0_, .string sn], .int .i64 er]) ∧ Kd.R (Kd.int .u8) 5 w' W.heap.size (fun _ => True) v0_ tv ∧ Below W.heap.size W w')) (HAS : Aside0 (∀ W, Below w.heap.size w W → Calls Tryd.prog 44 #[.agg #[.int .i64 a2_0, .int .i64 a2_1, .slice A L c]] W fun e w' => e = .returned (.bool ka) ∧ Below W.heap.size W w')) (HSA : Aside0 (∀ W, Below w.heap.size w W → Calls Tryd.prog 45 #[.agg #[.int .i64 a2_0, .int .i64 a2_1, .slice A L c]] W fun e w' => e = .returned (.bool ks) ∧ Below W.heap.size W w')) :
  Calls Tryd.prog 28 #[.agg #[.int .i64 a0_0, .int .i64 a0_1, .bool a0_2, .bool a0_3, .bool a0_4, .int .i64 a0_5, .string a0_6, .bool a0_7, .int .i64 a0_8], .int .i64 a1, .agg #[.int .i64 a2_0, .int .i64 a2_1, .slice A L c]] w fun e w' => ∃ v0_ : Value, e = .returned (.tuple #[.agg #[.int .i64 a0_0, .int .i64 a0_1, .bool a0_2, .bool a0_3, .bool a0_4, .int .i64 a0_5, .string a0_6, .bool a0_7, .int .i64 a0_8], v0_]) ∧ Kd.R PAuthBase.k60 60 w' w.heap.size (fun _ => True) v0_ [⟨9, a1, a2_1, ⟨#[]⟩⟩] ∧ Below w.heap.size w w' := by
 have HB := Aside0.mk (Below.refl w.heap.size w)
 obtain ⟨rfl, rfl, rfl, rfl, rfl⟩ := H
 all_goals go_enter Tryd.func28, Tryd.ntmps28
 all_goals (go_upto_region 2 with (first | ((with_reducible refine gate_dst (N := 3) rfl ?_); refine' box_event ?hg (N := 3) ?hd (t := 50) ?hr ?_; (case hd => rfl); (case hg => rfl); (case hr => first | (go_simp; done) | (go_simp; rfl)); intro gl hgn w1 hbox hbn; have HB_ := Aside0.mk (below_step (show Below w.heap.size w w from HB.out) hbn); have GEgl := Aside0.mk (show w.heap.size ≤ gl from Nat.le_trans (below_size (show Below w.heap.size w w from HB.out)) (Nat.le_of_eq hgn.symm)); clear HB; have HB := HB_; clear HB_; have HL := Aside0.mk hbox; clear hbox hbn hgn; obtain ⟨l0, l1, l2, l3, l4, l5, l6, l7, l8, lf0, lf1, lf2, lf3, lf4, lf5, lf6, lf7, lf8⟩ := cells9 HL.out) | ((with_reducible refine gate_dst (N := 5) rfl ?_); refine' box_event ?hg (N := 5) ?hd (t := 52) ?hr ?_; (case hd => rfl); (case hg => rfl); (case hr => first | (go_simp; done) | (go_simp; rfl)); intro gp hgn w2 hbox hbn; have nglgp : gl ≠ gp := Nat.ne_of_lt (Nat.lt_of_lt_of_eq (blk_lt HL.out) hgn.symm); have ngpgl : gp ≠ gl := fun e_ => nglgp e_.symm; clear l0 lf0 l1 lf1 l2 lf2 l3 lf3 l4 lf4 l5 lf5 l6 lf6 l7 lf7 l8 lf8; have HL_ := Aside0.mk (blk_below HL.out hbn); clear HL; have HL := HL_; clear HL_; have HB_ := Aside0.mk (below_step (show Below w.heap.size w w1 from HB.out) hbn); have GEgp := Aside0.mk (show w.heap.size ≤ gp from Nat.le_trans (below_size (show Below w.heap.size w w1 from HB.out)) (Nat.le_of_eq hgn.symm)); clear HB; have HB := HB_; clear HB_; have HP := Aside0.mk hbox; clear hbox hbn hgn; obtain ⟨p0, p1, p2, pf0, pf1, pf2⟩ := cells3 HP.out; obtain ⟨l0, l1, l2, l3, l4, l5, l6, l7, l8, lf0, lf1, lf2, lf3, lf4, lf5, lf6, lf7, lf8⟩ := cells9 HL.out) | ((with_reducible refine gate_dst (N := 6) rfl ?_); refine' box_event ?hg (N := 6) ?hd (t := 50) ?hr ?_; (case hd => rfl); (case hg => rfl); (case hr => first | (go_simp; done) | (go_simp; rfl)); intro g hgn w3 hbox hbn; have nglg : gl ≠ g := Nat.ne_of_lt (Nat.lt_of_lt_of_eq (blk_lt HL.out) hgn.symm); have nggl : g ≠ gl := fun e_ => nglg e_.symm; have ngpg : gp ≠ g := Nat.ne_of_lt (Nat.lt_of_lt_of_eq (blk_lt HP.out) hgn.symm); have nggp : g ≠ gp := fun e_ => ngpg e_.symm; clear l0 lf0 l1 lf1 l2 lf2 l3 lf3 l4 lf4 l5 lf5 l6 lf6 l7 lf7 l8 lf8; clear p0 pf0 p1 pf1 p2 pf2; have HL_ := Aside0.mk (blk_below HL.out hbn); clear HL; have HL := HL_; clear HL_; have HP_ := Aside0.mk (blk_below HP.out hbn); clear HP; have HP := HP_; clear HP_; have HB_ := Aside0.mk (below_step (show Below w.heap.size w w2 from HB.out) hbn); have GEg := Aside0.mk (show w.heap.size ≤ g from Nat.le_trans (below_size (show Below w.heap.size w w2 from HB.out)) (Nat.le_of_eq hgn.symm)); clear HB; have HB := HB_; clear HB_; have HZ := Aside0.mk hbox; clear hbox hbn hgn; obtain ⟨z0, z1, z2, z3, z4, z5, z6, z7, z8, zf0, zf1, zf2, zf3, zf4, zf5, zf6, zf7, zf8⟩ := cells9 HZ.out; obtain ⟨l0, l1, l2, l3, l4, l5, l6, l7, l8, lf0, lf1, lf2, lf3, lf4, lf5, lf6, lf7, lf8⟩ := cells9 HL.out; obtain ⟨p0, p1, p2, pf0, pf1, pf2⟩ := cells3 HP.out) | (go_at_call 20; (with_reducible refine (HRD.out _ HB.out).mono ?_); have HB3 := HB; rintro e w4 ⟨v6, rfl, hR6, hbn⟩; clear l0 lf0 l1 lf1 l2 lf2 l3 lf3 l4 lf4 l5 lf5 l6 lf6 l7 lf7 l8 lf8; clear p0 pf0 p1 pf1 p2 pf2; clear z0 zf0 z1 zf1 z2 zf2 z3 zf3 z4 zf4 z5 zf5 z6 zf6 z7 zf7 z8 zf8; have HL_ := Aside0.mk (blk_below HL.out hbn); clear HL; have HL := HL_; clear HL_; have HP_ := Aside0.mk (blk_below HP.out hbn); clear HP; have HP := HP_; clear HP_; have HZ_ := Aside0.mk (blk_below HZ.out hbn); clear HZ; have HZ := HZ_; clear HZ_; have HB_ := Aside0.mk (below_step (show Below w.heap.size w w3 from HB.out) hbn); clear HB; have HB := HB_; clear HB_; obtain ⟨Ao, co, eo⟩ := Kd.R_slice hR6; subst eo; have HR := Aside0.mk (Kd.R_lower hR6 (below_size (show Below w.heap.size w w3 from HB3.out))); clear hR6; clear hbn; obtain ⟨l0, l1, l2, l3, l4, l5, l6, l7, l8, lf0, lf1, lf2, lf3, lf4, lf5, lf6, lf7, lf8⟩ := cells9 HL.out; obtain ⟨p0, p1, p2, pf0, pf1, pf2⟩ := cells3 HP.out; obtain ⟨z0, z1, z2, z3, z4, z5, z6, z7, z8, zf0, zf1, zf2, zf3, zf4, zf5, zf6, zf7, zf8⟩ := cells9 HZ.out) | ((with_reducible refine gate_dst (N := 8) rfl ?_); refine' box_event ?hg (N := 8) ?hd (t := 30) ?hr ?_; (case hd => rfl); (case hg => rfl); (case hr => first | (go_simp; done) | (go_simp; rfl)); intro gc hgn w5 hbox hbn; have nglgc : gl ≠ gc := Nat.ne_of_lt (Nat.lt_of_lt_of_eq (blk_lt HL.out) hgn.symm); have ngcgl : gc ≠ gl := fun e_ => nglgc e_.symm; have ngpgc : gp ≠ gc := Nat.ne_of_lt (Nat.lt_of_lt_of_eq (blk_lt HP.out) hgn.symm); have ngcgp : gc ≠ gp := fun e_ => ngpgc e_.symm; have nggc : g ≠ gc := Nat.ne_of_lt (Nat.lt_of_lt_of_eq (blk_lt HZ.out) hgn.symm); have ngcg : gc ≠ g := fun e_ => nggc e_.symm; clear l0 lf0 l1 lf1 l2 lf2 l3 lf3 l4 lf4 l5 lf5 l6 lf6 l7 lf7 l8 lf8; clear p0 pf0 p1 pf1 p2 pf2; clear z0 zf0 z1 zf1 z2 zf2 z3 zf3 z4 zf4 z5 zf5 z6 zf6 z7 zf7 z8 zf8; have HL_ := Aside0.mk (blk_below HL.out hbn); clear HL; have HL := HL_; clear HL_; have HP_ := Aside0.mk (blk_below HP.out hbn); clear HP; have HP := HP_; clear HP_; have HZ_ := Aside0.mk (blk_below HZ.out hbn); clear HZ; have HZ := HZ_; clear HZ_; have HB_ := Aside0.mk (below_step (show Below w.heap.size w w4 from HB.out) hbn); have GEgc := Aside0.mk (show w.heap.size ≤ gc from Nat.le_trans (below_size (show Below w.heap.size w w4 from HB.out)) (Nat.le_of_eq hgn.symm)); clear HB; have HB := HB_; clear HB_; have HC := Aside0.mk hbox; have HR_ := Aside0.mk (Kd.R_below HR.out hbn); clear HR; have HR := HR_; clear HR_; clear hbox hbn hgn; obtain ⟨q0, q1, qf0, qf1⟩ := cells2 HC.out; obtain ⟨l0, l1, l2, l3, l4, l5, l6, l7, l8, lf0, lf1, lf2, lf3, lf4, lf5, lf6, lf7, lf8⟩ := cells9 HL.out; obtain ⟨p0, p1, p2, pf0, pf1, pf2⟩ := cells3 HP.out; obtain ⟨z0, z1, z2, z3, z4, z5, z6, z7, z8, zf0, zf1, zf2, zf3, zf4, zf5, zf6, zf7, zf8⟩ := cells9 HZ.out)))
 all_goals (try simp only [Act.put, List.setIfInBounds_toArray, List.set_cons_zero, List.set_cons_succ])
 all_goals (
  generalize hw6 : ((w5.setCell ⟨gc, 0, none⟩ (.slice Ao tv.length co)).setCell ⟨gc, 1, none⟩ (.string sn)) = w6
  have y6_ := blk_far (p := ⟨gc, 1, none⟩) (blk_far (p := ⟨gc, 0, none⟩) HL.out nglgc (.slice Ao tv.length co)) nglgc (.string sn)
  rw [hw6] at y6_
  have HL6 := Aside0.mk y6_
  clear y6_
  have y6_ := blk_far (p := ⟨gc, 1, none⟩) (blk_far (p := ⟨gc, 0, none⟩) HP.out ngpgc (.slice Ao tv.length co)) ngpgc (.string sn)
  rw [hw6] at y6_
  have HP6 := Aside0.mk y6_
  clear y6_
  have y6_ := blk_far (p := ⟨gc, 1, none⟩) (blk_far (p := ⟨gc, 0, none⟩) HZ.out nggc (.slice Ao tv.length co)) nggc (.string sn)
  rw [hw6] at y6_
  have HZ6 := Aside0.mk y6_
  clear y6_
  have HC6 := Aside0.mk (show w6.heap[gc]? = some (.cells #[.slice Ao tv.length co, .string sn] 30 (0, 0)) by rw [← hw6]; exact blk_put (blk_put (cs' := #[.slice Ao tv.length co, .string (⟨#[]⟩ : ByteArray)]) HC.out 0 _ rfl) 1 _ rfl)
  have HB6 := Aside0.mk (show Below w.heap.size w w6 by rw [← hw6]; exact (HB.out.setCell (p := ⟨gc, 0, none⟩) GEgc.out _).setCell (p := ⟨gc, 1, none⟩) GEgc.out _)
  have hty : ∀ x, x ∈ (5 : TypeId) :: (Kd.int IntKind.u8).E → x ≠ 30 := fun x hx => by cases hx with | head => decide | tail _ h => cases h
  have HR6 := Aside0.mk (show Kd.R (Kd.int .u8) 5 w6 w.heap.size (fun _ => True) (.slice Ao tv.length co) tv by rw [← hw6]; exact Kd.R_set (Kd.R_set HR.out HC.out hty 0 _) (blk_set HC.out 0 _) hty 1 _)
  clear hw6 hty
  clear l0 lf0 l1 lf1 l2 lf2 l3 lf3 l4 lf4 l5 lf5 l6 lf6 l7 lf7 l8 lf8; clear p0 pf0 p1 pf1 p2 pf2; clear z0 zf0 z1 zf1 z2 zf2 z3 zf3 z4 zf4 z5 zf5 z6 zf6 z7 zf7 z8 zf8; clear q0 qf0 q1 qf1
  clear HL HP HZ HC HB HR
  have HL := HL6
  have HP := HP6
  have HZ := HZ6
  have HC := HC6
  have HB := HB6
  have HR := HR6
  clear HL6 HP6 HZ6 HC6 HB6 HR6
  obtain ⟨l0, l1, l2, l3, l4, l5, l6, l7, l8, lf0, lf1, lf2, lf3, lf4, lf5, lf6, lf7, lf8⟩ := cells9 HL.out
  obtain ⟨p0, p1, p2, pf0, pf1, pf2⟩ := cells3 HP.out
  obtain ⟨z0, z1, z2, z3, z4, z5, z6, z7, z8, zf0, zf1, zf2, zf3, zf4, zf5, zf6, zf7, zf8⟩ := cells9 HZ.out
  obtain ⟨q0, q1, qf0, qf1⟩ := cells2 HC.out
  go_cut [10] (fun v10 wc => Aside0 (v10 = .bool (a0_7 && (a2_1 == a0_8))) ∧ w6 = wc)
  case first =>
   cases a0_7 <;> (go_wp2_with fail; go_meet; case rel => exact ⟨⟨by first | rfl | simp⟩, rfl⟩)
  obtain ⟨h10_, rfl⟩ := hcut
  have h11_ := h10_.out
  rw [HMI.out] at h11_
  subst h11_
  clear h10_ HMI)
 (go_wp2_with (first | (go_at_call 44; (with_reducible refine (HAS.out _ HB.out).mono ?_); rintro e w7 ⟨rfl, hbn⟩; clear l0 lf0 l1 lf1 l2 lf2 l3 lf3 l4 lf4 l5 lf5 l6 lf6 l7 lf7 l8 lf8; clear p0 pf0 p1 pf1 p2 pf2; clear z0 zf0 z1 zf1 z2 zf2 z3 zf3 z4 zf4 z5 zf5 z6 zf6 z7 zf7 z8 zf8; clear q0 qf0 q1 qf1; have HL_ := Aside0.mk (blk_below HL.out hbn); clear HL; have HL := HL_; clear HL_; have HP_ := Aside0.mk (blk_below HP.out hbn); clear HP; have HP := HP_; clear HP_; have HZ_ := Aside0.mk (blk_below HZ.out hbn); clear HZ; have HZ := HZ_; clear HZ_; have HC_ := Aside0.mk (blk_below HC.out hbn); clear HC; have HC := HC_; clear HC_; have HB_ := Aside0.mk (below_step (show Below w.heap.size w w6 from HB.out) hbn); clear HB; have HB := HB_; clear HB_; have HR_ := Aside0.mk (Kd.R_below HR.out hbn); clear HR; have HR := HR_; clear HR_; clear hbn; obtain ⟨l0, l1, l2, l3, l4, l5, l6, l7, l8, lf0, lf1, lf2, lf3, lf4, lf5, lf6, lf7, lf8⟩ := cells9 HL.out; obtain ⟨p0, p1, p2, pf0, pf1, pf2⟩ := cells3 HP.out; obtain ⟨z0, z1, z2, z3, z4, z5, z6, z7, z8, zf0, zf1, zf2, zf3, zf4, zf5, zf6, zf7, zf8⟩ := cells9 HZ.out; obtain ⟨q0, q1, qf0, qf1⟩ := cells2 HC.out) | (go_at_call 45; (with_reducible refine (HSA.out _ HB.out).mono ?_); rintro e w8 ⟨rfl, hbn⟩; clear l0 lf0 l1 lf1 l2 lf2 l3 lf3 l4 lf4 l5 lf5 l6 lf6 l7 lf7 l8 lf8; clear p0 pf0 p1 pf1 p2 pf2; clear z0 zf0 z1 zf1 z2 zf2 z3 zf3 z4 zf4 z5 zf5 z6 zf6 z7 zf7 z8 zf8; clear q0 qf0 q1 qf1; have HL_ := Aside0.mk (blk_below HL.out hbn); clear HL; have HL := HL_; clear HL_; have HP_ := Aside0.mk (blk_below HP.out hbn); clear HP; have HP := HP_; clear HP_; have HZ_ := Aside0.mk (blk_below HZ.out hbn); clear HZ; have HZ := HZ_; clear HZ_; have HC_ := Aside0.mk (blk_below HC.out hbn); clear HC; have HC := HC_; clear HC_; have HB_ := Aside0.mk (below_step (show Below w.heap.size w _ from HB.out) hbn); clear HB; have HB := HB_; clear HB_; have HR_ := Aside0.mk (Kd.R_below HR.out hbn); clear HR; have HR := HR_; clear HR_; clear hbn; obtain ⟨l0, l1, l2, l3, l4, l5, l6, l7, l8, lf0, lf1, lf2, lf3, lf4, lf5, lf6, lf7, lf8⟩ := cells9 HL.out; obtain ⟨p0, p1, p2, pf0, pf1, pf2⟩ := cells3 HP.out; obtain ⟨z0, z1, z2, z3, z4, z5, z6, z7, z8, zf0, zf1, zf2, zf3, zf4, zf5, zf6, zf7, zf8⟩ := cells9 HZ.out; obtain ⟨q0, q1, qf0, qf1⟩ := cells2 HC.out)))
 have hty5 : ∀ x, x ∈ (5 : TypeId) :: (Kd.int IntKind.u8).E → x ≠ 50 := fun x hx => by cases hx with | head => decide | tail _ h => cases h
 have hty60 : ∀ x, x ∈ (60 : TypeId) :: PAuthBase.k60.E → x ≠ 50 := fun x hx => by cases hx with | head => decide | tail _ h => cases h
 have HLd := Aside0.mk (blk_drew HL.out)
 have HPd := Aside0.mk (blk_drew HP.out)
 have HZd := Aside0.mk (blk_drew HZ.out)
 have HCd := Aside0.mk (blk_drew HC.out)
 have HBd := Aside0.mk (below_drew1 HB.out)
 have HRd := Aside0.mk (Kd.R_drew HR.out)
 have HSd := Aside0.mk (below_size HBd.out)
 refine start_ (n := 8) (S := fun w' => w'.cell? ⟨gl, 0, none⟩ = some (.int .i64 a0_0) ∧ w'.cell? ⟨gl, 1, none⟩ = some (.int .i64 a0_1) ∧ w'.cell? ⟨gl, 2, none⟩ = some (.bool a0_2) ∧ w'.cell? ⟨gl, 3, none⟩ = some (.bool a0_3) ∧ w'.cell? ⟨gl, 4, none⟩ = some (.bool a0_4) ∧ w'.cell? ⟨gl, 5, none⟩ = some (.int .i64 a0_5) ∧ w'.cell? ⟨gl, 6, none⟩ = some (.string a0_6) ∧ w'.cell? ⟨gl, 7, none⟩ = some (.bool a0_7) ∧ w'.cell? ⟨gl, 8, none⟩ = some (.int .i64 a0_8) ∧ w'.cell? ⟨gp, 1, none⟩ = some (.int .i64 a2_1)) (ds := []) #[false, false, false, false, false, false, false, false] (by kernel_rfl) rfl rfl ⟨l0, l1, l2, l3, l4, l5, l6, l7, l8, p1⟩ (fun hHeld => ?_)
 generalize w7.drew = wd at HLd HPd HZd HCd HBd HRd HSd hHeld ⊢
 refine pure_ (i := 1) (N := some 43) (v := ?_) (a' := ?_) #[false, true, false, false, false, false, false, false] rfl rfl (by kernel_rfl) (fun _ _ _ h => h) (Or.inl ⟨by rfl, ?_⟩) ?_ ?_
 rotate_left
 ·intro w'
  go_simp
  with_reducible rfl
 rotate_left
 ·simp only [Act.put, List.setIfInBounds_toArray, List.set_cons_zero, List.set_cons_succ, i64_w, i32_w]
  rfl
 refine pure_ (i := 2) (N := some 44) (v := ?_) (a' := ?_) #[false, true, true, false, false, false, false, false] rfl rfl (by kernel_rfl) (fun _ _ _ h => h) (Or.inl ⟨by rfl, ?_⟩) ?_ ?_
 rotate_left
 ·intro w'
  go_simp
  with_reducible rfl
 rotate_left
 ·simp only [Act.put, List.setIfInBounds_toArray, List.set_cons_zero, List.set_cons_succ, i64_w, i32_w]
  rfl
 refine take_ (i := 0) (N := some 42) (v := ?_) (a' := ?_) #[true, true, true, false, false, false, false, false] rfl rfl (by kernel_rfl) (fun _ _ _ h => h) (Or.inl ⟨by rfl, ?_⟩) hHeld ?_ ?_
 rotate_left
 ·rintro w' ⟨s0, s1, s2, s3, s4, s5, s6, s7, s8, s9⟩
  go_simp
  with_reducible rfl
 rotate_left
 ·simp only [Act.put, List.setIfInBounds_toArray, List.set_cons_zero, List.set_cons_succ, i64_w, i32_w]
  rfl
 refine take_ (i := 3) (N := some 45) (v := ?_) (a' := ?_) #[true, true, true, true, false, false, false, false] rfl rfl (by kernel_rfl) (fun _ _ _ h => h) (Or.inl ⟨by rfl, ?_⟩) hHeld ?_ ?_
 rotate_left
 ·rintro w' ⟨s0, s1, s2, s3, s4, s5, s6, s7, s8, s9⟩
  go_simp
  with_reducible rfl
 rotate_left
 ·simp only [Act.put, List.setIfInBounds_toArray, List.set_cons_zero, List.set_cons_succ, i64_w, i32_w]
  rfl
 refine pure_ (i := 4) (N := some 46) (v := ?_) (a' := ?_) #[true, true, true, true, true, false, false, false] rfl rfl (by kernel_rfl) (fun _ _ _ h => h) (Or.inl ⟨by rfl, ?_⟩) ?_ ?_
 rotate_left
 ·intro w'
  go_simp
  with_reducible rfl
 rotate_left
 ·simp only [Act.put, List.setIfInBounds_toArray, List.set_cons_zero, List.set_cons_succ, i64_w, i32_w]
  rfl
 refine join_ (σ := Value) 1 #[true, true, true, true, true, true, true, false] (fun s_ => [(47, s_)]) (fun s_ w' => w'.heap[g]? = some (.cells #[.int .i64 a0_0, .int .i64 a0_1, .bool a0_2, .bool a0_3, .bool a0_4, .int .i64 a0_5, .string a0_6, .bool a0_7, .int .i64 a0_8] 50 (0, 0)) ∧ Kd.R PAuthBase.k60 60 w' w.heap.size (fun _ => True) s_ [(⟨9, a1, a2_1, (⟨#[]⟩ : ByteArray)⟩ : PAuthBase.S60)] ∧ Below w.heap.size w w') ?_ ?_
 rotate_left
 ·intro hCont
  refine two_ (i := 5) (j := 6) (Ni := some 47) (Nj := none) #[true, true, true, true, true, true, false, false] #[true, true, true, true, true, false, true, false] rfl rfl rfl rfl (by kernel_rfl) (by decide) (by decide) (fun K hK => ?_) (fun K hK => ?_)
  ·skip
   refine value_ (w1 := ?_) (v := ?_) (by rfl) rfl ?_ ?_
   rotate_left 2
   ·go_simp
    constructor
    ·rfl
    ·rfl
   refine hK.out _ _ ⟨((blk_cell (blk_alloc HLd.out (.cells #[.int .i64 9, .int .i64 a1, .int .i64 a2_1, .string (⟨#[]⟩ : ByteArray)] 60)) 0).trans rfl), ((blk_cell (blk_alloc HLd.out (.cells #[.int .i64 9, .int .i64 a1, .int .i64 a2_1, .string (⟨#[]⟩ : ByteArray)] 60)) 1).trans rfl), ((blk_cell (blk_alloc HLd.out (.cells #[.int .i64 9, .int .i64 a1, .int .i64 a2_1, .string (⟨#[]⟩ : ByteArray)] 60)) 2).trans rfl), ((blk_cell (blk_alloc HLd.out (.cells #[.int .i64 9, .int .i64 a1, .int .i64 a2_1, .string (⟨#[]⟩ : ByteArray)] 60)) 3).trans rfl), ((blk_cell (blk_alloc HLd.out (.cells #[.int .i64 9, .int .i64 a1, .int .i64 a2_1, .string (⟨#[]⟩ : ByteArray)] 60)) 4).trans rfl), ((blk_cell (blk_alloc HLd.out (.cells #[.int .i64 9, .int .i64 a1, .int .i64 a2_1, .string (⟨#[]⟩ : ByteArray)] 60)) 5).trans rfl), ((blk_cell (blk_alloc HLd.out (.cells #[.int .i64 9, .int .i64 a1, .int .i64 a2_1, .string (⟨#[]⟩ : ByteArray)] 60)) 6).trans rfl), ((blk_cell (blk_alloc HLd.out (.cells #[.int .i64 9, .int .i64 a1, .int .i64 a2_1, .string (⟨#[]⟩ : ByteArray)] 60)) 7).trans rfl), ((blk_cell (blk_alloc HLd.out (.cells #[.int .i64 9, .int .i64 a1, .int .i64 a2_1, .string (⟨#[]⟩ : ByteArray)] 60)) 8).trans rfl), ((blk_cell (blk_alloc HPd.out (.cells #[.int .i64 9, .int .i64 a1, .int .i64 a2_1, .string (⟨#[]⟩ : ByteArray)] 60)) 1).trans rfl)⟩ (fun hHeld => ?_)
   clear hK K
   refine norm_ (a' := ?_) ?_ ?_
   rotate_left
   ·show Act.put _ (some 47) _ = _
    simp only [Act.put, List.setIfInBounds_toArray, List.set_cons_zero, List.set_cons_succ, i64_w, i32_w]
    rfl
   refine one_ (i := 6) (N := none) #[true, true, true, true, true, true, true, false] rfl rfl (by kernel_rfl) (by decide) (fun K hK => ?_)
   obtain ⟨y0_, y1_, y2_, y3_, y4_, y5_, y6_, y7_, y8_, yf0_, yf1_, yf2_, yf3_, yf4_, yf5_, yf6_, yf7_, yf8_⟩ := cells9 (blk_alloc HZd.out (.cells #[.int .i64 9, .int .i64 a1, .int .i64 a2_1, .string (⟨#[]⟩ : ByteArray)] 60))
   refine skip_ (w1 := ?_) (by rfl) rfl ?_ ?_
   rotate_left
   ·go_simp
    rfl
   refine hK.out _ _ ⟨((blk_cell (set9_blk (blk_alloc HLd.out (.cells #[.int .i64 9, .int .i64 a1, .int .i64 a2_1, .string (⟨#[]⟩ : ByteArray)] 60)) nglg (.int .i64 a0_0) (.int .i64 a0_1) (.bool a0_2) (.bool a0_3) (.bool a0_4) (.int .i64 a0_5) (.string a0_6) (.bool a0_7) (.int .i64 a0_8)) 0).trans rfl), ((blk_cell (set9_blk (blk_alloc HLd.out (.cells #[.int .i64 9, .int .i64 a1, .int .i64 a2_1, .string (⟨#[]⟩ : ByteArray)] 60)) nglg (.int .i64 a0_0) (.int .i64 a0_1) (.bool a0_2) (.bool a0_3) (.bool a0_4) (.int .i64 a0_5) (.string a0_6) (.bool a0_7) (.int .i64 a0_8)) 1).trans rfl), ((blk_cell (set9_blk (blk_alloc HLd.out (.cells #[.int .i64 9, .int .i64 a1, .int .i64 a2_1, .string (⟨#[]⟩ : ByteArray)] 60)) nglg (.int .i64 a0_0) (.int .i64 a0_1) (.bool a0_2) (.bool a0_3) (.bool a0_4) (.int .i64 a0_5) (.string a0_6) (.bool a0_7) (.int .i64 a0_8)) 2).trans rfl), ((blk_cell (set9_blk (blk_alloc HLd.out (.cells #[.int .i64 9, .int .i64 a1, .int .i64 a2_1, .string (⟨#[]⟩ : ByteArray)] 60)) nglg (.int .i64 a0_0) (.int .i64 a0_1) (.bool a0_2) (.bool a0_3) (.bool a0_4) (.int .i64 a0_5) (.string a0_6) (.bool a0_7) (.int .i64 a0_8)) 3).trans rfl), ((blk_cell (set9_blk (blk_alloc HLd.out (.cells #[.int .i64 9, .int .i64 a1, .int .i64 a2_1, .string (⟨#[]⟩ : ByteArray)] 60)) nglg (.int .i64 a0_0) (.int .i64 a0_1) (.bool a0_2) (.bool a0_3) (.bool a0_4) (.int .i64 a0_5) (.string a0_6) (.bool a0_7) (.int .i64 a0_8)) 4).trans rfl), ((blk_cell (set9_blk (blk_alloc HLd.out (.cells #[.int .i64 9, .int .i64 a1, .int .i64 a2_1, .string (⟨#[]⟩ : ByteArray)] 60)) nglg (.int .i64 a0_0) (.int .i64 a0_1) (.bool a0_2) (.bool a0_3) (.bool a0_4) (.int .i64 a0_5) (.string a0_6) (.bool a0_7) (.int .i64 a0_8)) 5).trans rfl), ((blk_cell (set9_blk (blk_alloc HLd.out (.cells #[.int .i64 9, .int .i64 a1, .int .i64 a2_1, .string (⟨#[]⟩ : ByteArray)] 60)) nglg (.int .i64 a0_0) (.int .i64 a0_1) (.bool a0_2) (.bool a0_3) (.bool a0_4) (.int .i64 a0_5) (.string a0_6) (.bool a0_7) (.int .i64 a0_8)) 6).trans rfl), ((blk_cell (set9_blk (blk_alloc HLd.out (.cells #[.int .i64 9, .int .i64 a1, .int .i64 a2_1, .string (⟨#[]⟩ : ByteArray)] 60)) nglg (.int .i64 a0_0) (.int .i64 a0_1) (.bool a0_2) (.bool a0_3) (.bool a0_4) (.int .i64 a0_5) (.string a0_6) (.bool a0_7) (.int .i64 a0_8)) 7).trans rfl), ((blk_cell (set9_blk (blk_alloc HLd.out (.cells #[.int .i64 9, .int .i64 a1, .int .i64 a2_1, .string (⟨#[]⟩ : ByteArray)] 60)) nglg (.int .i64 a0_0) (.int .i64 a0_1) (.bool a0_2) (.bool a0_3) (.bool a0_4) (.int .i64 a0_5) (.string a0_6) (.bool a0_7) (.int .i64 a0_8)) 8).trans rfl), ((blk_cell (set9_blk (blk_alloc HPd.out (.cells #[.int .i64 9, .int .i64 a1, .int .i64 a2_1, .string (⟨#[]⟩ : ByteArray)] 60)) ngpg (.int .i64 a0_0) (.int .i64 a0_1) (.bool a0_2) (.bool a0_3) (.bool a0_4) (.int .i64 a0_5) (.string a0_6) (.bool a0_7) (.int .i64 a0_8)) 1).trans rfl)⟩ (fun hHeld => ?_)
   clear hK K
   exact norm_ (by simp only [putAll, Act.put, List.setIfInBounds_toArray, List.set_cons_zero, List.set_cons_succ]) (hCont (.slice (some ⟨wd.heap.size, 0, none⟩) 1 1) _ ⟨set9_copy (blk_alloc HZd.out (.cells #[.int .i64 9, .int .i64 a1, .int .i64 a2_1, .string (⟨#[]⟩ : ByteArray)] 60)) (blk_alloc HLd.out (.cells #[.int .i64 9, .int .i64 a1, .int .i64 a2_1, .string (⟨#[]⟩ : ByteArray)] 60)), set9_R (due_row wd w.heap.size wd.heap.size rfl HSd.out (⟨9, a1, a2_1, (⟨#[]⟩ : ByteArray)⟩ : PAuthBase.S60)) (blk_alloc HZd.out (.cells #[.int .i64 9, .int .i64 a1, .int .i64 a2_1, .string (⟨#[]⟩ : ByteArray)] 60)) hty60 (.int .i64 a0_0) (.int .i64 a0_1) (.bool a0_2) (.bool a0_3) (.bool a0_4) (.int .i64 a0_5) (.string a0_6) (.bool a0_7) (.int .i64 a0_8), set9_copyB (below_alloc HBd.out (.cells #[.int .i64 9, .int .i64 a1, .int .i64 a2_1, .string (⟨#[]⟩ : ByteArray)] 60)) GEg.out (blk_alloc HLd.out (.cells #[.int .i64 9, .int .i64 a1, .int .i64 a2_1, .string (⟨#[]⟩ : ByteArray)] 60))⟩)
  ·skip
   obtain ⟨y0_, y1_, y2_, y3_, y4_, y5_, y6_, y7_, y8_, yf0_, yf1_, yf2_, yf3_, yf4_, yf5_, yf6_, yf7_, yf8_⟩ := cells9 HZd.out
   refine skip_ (w1 := ?_) (by rfl) rfl ?_ ?_
   rotate_left
   ·go_simp
    rfl
   refine hK.out _ _ ⟨((blk_cell (set9_blk HLd.out nglg (.int .i64 a0_0) (.int .i64 a0_1) (.bool a0_2) (.bool a0_3) (.bool a0_4) (.int .i64 a0_5) (.string a0_6) (.bool a0_7) (.int .i64 a0_8)) 0).trans rfl), ((blk_cell (set9_blk HLd.out nglg (.int .i64 a0_0) (.int .i64 a0_1) (.bool a0_2) (.bool a0_3) (.bool a0_4) (.int .i64 a0_5) (.string a0_6) (.bool a0_7) (.int .i64 a0_8)) 1).trans rfl), ((blk_cell (set9_blk HLd.out nglg (.int .i64 a0_0) (.int .i64 a0_1) (.bool a0_2) (.bool a0_3) (.bool a0_4) (.int .i64 a0_5) (.string a0_6) (.bool a0_7) (.int .i64 a0_8)) 2).trans rfl), ((blk_cell (set9_blk HLd.out nglg (.int .i64 a0_0) (.int .i64 a0_1) (.bool a0_2) (.bool a0_3) (.bool a0_4) (.int .i64 a0_5) (.string a0_6) (.bool a0_7) (.int .i64 a0_8)) 3).trans rfl), ((blk_cell (set9_blk HLd.out nglg (.int .i64 a0_0) (.int .i64 a0_1) (.bool a0_2) (.bool a0_3) (.bool a0_4) (.int .i64 a0_5) (.string a0_6) (.bool a0_7) (.int .i64 a0_8)) 4).trans rfl), ((blk_cell (set9_blk HLd.out nglg (.int .i64 a0_0) (.int .i64 a0_1) (.bool a0_2) (.bool a0_3) (.bool a0_4) (.int .i64 a0_5) (.string a0_6) (.bool a0_7) (.int .i64 a0_8)) 5).trans rfl), ((blk_cell (set9_blk HLd.out nglg (.int .i64 a0_0) (.int .i64 a0_1) (.bool a0_2) (.bool a0_3) (.bool a0_4) (.int .i64 a0_5) (.string a0_6) (.bool a0_7) (.int .i64 a0_8)) 6).trans rfl), ((blk_cell (set9_blk HLd.out nglg (.int .i64 a0_0) (.int .i64 a0_1) (.bool a0_2) (.bool a0_3) (.bool a0_4) (.int .i64 a0_5) (.string a0_6) (.bool a0_7) (.int .i64 a0_8)) 7).trans rfl), ((blk_cell (set9_blk HLd.out nglg (.int .i64 a0_0) (.int .i64 a0_1) (.bool a0_2) (.bool a0_3) (.bool a0_4) (.int .i64 a0_5) (.string a0_6) (.bool a0_7) (.int .i64 a0_8)) 8).trans rfl), ((blk_cell (set9_blk HPd.out ngpg (.int .i64 a0_0) (.int .i64 a0_1) (.bool a0_2) (.bool a0_3) (.bool a0_4) (.int .i64 a0_5) (.string a0_6) (.bool a0_7) (.int .i64 a0_8)) 1).trans rfl)⟩ (fun hHeld => ?_)
   clear hK K
   refine one_ (i := 5) (N := some 47) #[true, true, true, true, true, true, true, false] rfl rfl (by kernel_rfl) (by decide) (fun K hK => ?_)
   refine value_ (w1 := ?_) (v := ?_) (by rfl) rfl ?_ ?_
   rotate_left 2
   ·go_simp
    constructor
    ·rfl
    ·rfl
   refine hK.out _ _ ⟨((blk_cell (blk_alloc (set9_blk HLd.out nglg (.int .i64 a0_0) (.int .i64 a0_1) (.bool a0_2) (.bool a0_3) (.bool a0_4) (.int .i64 a0_5) (.string a0_6) (.bool a0_7) (.int .i64 a0_8)) (.cells #[.int .i64 9, .int .i64 a1, .int .i64 a2_1, .string (⟨#[]⟩ : ByteArray)] 60)) 0).trans rfl), ((blk_cell (blk_alloc (set9_blk HLd.out nglg (.int .i64 a0_0) (.int .i64 a0_1) (.bool a0_2) (.bool a0_3) (.bool a0_4) (.int .i64 a0_5) (.string a0_6) (.bool a0_7) (.int .i64 a0_8)) (.cells #[.int .i64 9, .int .i64 a1, .int .i64 a2_1, .string (⟨#[]⟩ : ByteArray)] 60)) 1).trans rfl), ((blk_cell (blk_alloc (set9_blk HLd.out nglg (.int .i64 a0_0) (.int .i64 a0_1) (.bool a0_2) (.bool a0_3) (.bool a0_4) (.int .i64 a0_5) (.string a0_6) (.bool a0_7) (.int .i64 a0_8)) (.cells #[.int .i64 9, .int .i64 a1, .int .i64 a2_1, .string (⟨#[]⟩ : ByteArray)] 60)) 2).trans rfl), ((blk_cell (blk_alloc (set9_blk HLd.out nglg (.int .i64 a0_0) (.int .i64 a0_1) (.bool a0_2) (.bool a0_3) (.bool a0_4) (.int .i64 a0_5) (.string a0_6) (.bool a0_7) (.int .i64 a0_8)) (.cells #[.int .i64 9, .int .i64 a1, .int .i64 a2_1, .string (⟨#[]⟩ : ByteArray)] 60)) 3).trans rfl), ((blk_cell (blk_alloc (set9_blk HLd.out nglg (.int .i64 a0_0) (.int .i64 a0_1) (.bool a0_2) (.bool a0_3) (.bool a0_4) (.int .i64 a0_5) (.string a0_6) (.bool a0_7) (.int .i64 a0_8)) (.cells #[.int .i64 9, .int .i64 a1, .int .i64 a2_1, .string (⟨#[]⟩ : ByteArray)] 60)) 4).trans rfl), ((blk_cell (blk_alloc (set9_blk HLd.out nglg (.int .i64 a0_0) (.int .i64 a0_1) (.bool a0_2) (.bool a0_3) (.bool a0_4) (.int .i64 a0_5) (.string a0_6) (.bool a0_7) (.int .i64 a0_8)) (.cells #[.int .i64 9, .int .i64 a1, .int .i64 a2_1, .string (⟨#[]⟩ : ByteArray)] 60)) 5).trans rfl), ((blk_cell (blk_alloc (set9_blk HLd.out nglg (.int .i64 a0_0) (.int .i64 a0_1) (.bool a0_2) (.bool a0_3) (.bool a0_4) (.int .i64 a0_5) (.string a0_6) (.bool a0_7) (.int .i64 a0_8)) (.cells #[.int .i64 9, .int .i64 a1, .int .i64 a2_1, .string (⟨#[]⟩ : ByteArray)] 60)) 6).trans rfl), ((blk_cell (blk_alloc (set9_blk HLd.out nglg (.int .i64 a0_0) (.int .i64 a0_1) (.bool a0_2) (.bool a0_3) (.bool a0_4) (.int .i64 a0_5) (.string a0_6) (.bool a0_7) (.int .i64 a0_8)) (.cells #[.int .i64 9, .int .i64 a1, .int .i64 a2_1, .string (⟨#[]⟩ : ByteArray)] 60)) 7).trans rfl), ((blk_cell (blk_alloc (set9_blk HLd.out nglg (.int .i64 a0_0) (.int .i64 a0_1) (.bool a0_2) (.bool a0_3) (.bool a0_4) (.int .i64 a0_5) (.string a0_6) (.bool a0_7) (.int .i64 a0_8)) (.cells #[.int .i64 9, .int .i64 a1, .int .i64 a2_1, .string (⟨#[]⟩ : ByteArray)] 60)) 8).trans rfl), ((blk_cell (blk_alloc (set9_blk HPd.out ngpg (.int .i64 a0_0) (.int .i64 a0_1) (.bool a0_2) (.bool a0_3) (.bool a0_4) (.int .i64 a0_5) (.string a0_6) (.bool a0_7) (.int .i64 a0_8)) (.cells #[.int .i64 9, .int .i64 a1, .int .i64 a2_1, .string (⟨#[]⟩ : ByteArray)] 60)) 1).trans rfl)⟩ (fun hHeld => ?_)
   clear hK K
   refine norm_ (a' := ?_) ?_ ?_
   rotate_left
   ·show Act.put _ (some 47) _ = _
    simp only [Act.put, List.setIfInBounds_toArray, List.set_cons_zero, List.set_cons_succ, i64_w, i32_w]
    rfl
   exact norm_ (by simp only [putAll, Act.put, List.setIfInBounds_toArray, List.set_cons_zero, List.set_cons_succ]) (hCont (.slice (some ⟨wd.heap.size, 0, none⟩) 1 1) _ ⟨blk_alloc (set9_copy HZd.out HLd.out) (.cells #[.int .i64 9, .int .i64 a1, .int .i64 a2_1, .string (⟨#[]⟩ : ByteArray)] 60), due_row (set9 wd g (.int .i64 a0_0) (.int .i64 a0_1) (.bool a0_2) (.bool a0_3) (.bool a0_4) (.int .i64 a0_5) (.string a0_6) (.bool a0_7) (.int .i64 a0_8)) w.heap.size wd.heap.size (set9_size _ _ _ _ _ _ _ _ _ _ _) (by rw [set9_size]; exact HSd.out) (⟨9, a1, a2_1, (⟨#[]⟩ : ByteArray)⟩ : PAuthBase.S60), below_alloc (set9_copyB HBd.out GEg.out HLd.out) (.cells #[.int .i64 9, .int .i64 a1, .int .i64 a2_1, .string (⟨#[]⟩ : ByteArray)] 60)⟩)
 rintro s_ wz ⟨hz1_, hz2_, hz3_⟩
 have HZ1 := Aside0.mk hz1_
 have HZ2 := Aside0.mk hz2_
 have HZ3 := Aside0.mk hz3_
 clear hz1_ hz2_ hz3_
 have hHeld := True.intro
 refine norm_ (a' := ?_) ?_ ?_
 rotate_left
 ·simp only [putAll, Act.put, List.setIfInBounds_toArray, List.set_cons_zero, List.set_cons_succ]
  rfl
 refine pure_ (i := 7) (N := some 7) (v := ?_) (a' := ?_) #[true, true, true, true, true, true, true, true] rfl rfl (by kernel_rfl) (fun _ _ _ h => h) (Or.inl ⟨by rfl, ?_⟩) ?_ ?_
 rotate_left
 ·intro w'
  go_simp
  with_reducible rfl
 rotate_left
 ·simp only [Act.put, List.setIfInBounds_toArray, List.set_cons_zero, List.set_cons_succ, i64_w, i32_w]
  rfl
 refine done_ (by kernel_rfl) ?_
 clear HL HP HZ HC HB HR HLd HPd HZd HCd HBd HRd HSd
 try go_wp2
 refine bodyPost_ret (results_ct rfl _ _ g 50 _ (0, 0) _ rfl HZ1.out Tryd.underlying50 rfl (by kernel_rfl)) rfl ?_
 exact ⟨_, rfl, HZ2.out, HZ3.out⟩
set_option maxRecDepth 100000 in
set_option maxHeartbeats 40000000 in
theorem hear_due11 (a0_0 a0_1 : Int) (a0_2 a0_3 a0_4 : Bool) (a0_5 : Int) (a0_6 : ByteArray) (a0_7 : Bool) (a0_8 a1 a2_0 a2_1 : Int) (A : Option Addr) (c L : Nat) (tv : List Int) (sn : ByteArray) (er : Int) (ka ks mi b1 b2 c1 c2 c3 c4 o7 o9 t7 t9 i5 e0 n6 : Bool) (HMI : Aside0 ((a0_7 && (a2_1 == a0_8)) = mi)) (hb1 : (a1 == 49187) = b1) (hb2 : (a1 != 49699) = b2) (hc1 : (a2_0 == 1) = c1) (hc2 : (a2_0 == 2) = c2) (hc3 : (a2_0 == 3) = c3) (hc4 : (a2_0 == 4) = c4) (ho7 : (a0_0 == 49187) = o7) (ho9 : (a0_0 == 49699) = o9) (ht7 : (a0_1 == 49187) = t7) (ht9 : (a0_1 == 49699) = t9) (hi5 : (a2_1 == a0_5) = i5) (he0 : (er == 0) = e0) (hn6 : ((tv.length : Int) == 16) = n6)
  (H : (b1 = false ∧ b2 = false ∧ c1 = true ∧ t9 = true ∧ e0 = true)) (w : World) (HRD : Aside0 (∀ W, Below w.heap.size w W → Calls Tryd.prog 20 #[.slice A L c] W fun e w' => ∃ v0_ : Value, e = .returned (.tuple #[.agg #[v0_, .string sn], .int .i64 er]) ∧ Kd.R (Kd.int .u8) 5 w' W.heap.size (fun _ => True) v0_ tv ∧ Below W.heap.size W w')) (HAS : Aside0 (∀ W, Below w.heap.size w W → Calls Tryd.prog 44 #[.agg #[.int .i64 a2_0, .int .i64 a2_1, .slice A L c]] W fun e w' => e = .returned (.bool ka) ∧ Below W.heap.size W w')) (HSA : Aside0 (∀ W, Below w.heap.size w W → Calls Tryd.prog 45 #[.agg #[.int .i64 a2_0, .int .i64 a2_1, .slice A L c]] W fun e w' => e = .returned (.bool ks) ∧ Below W.heap.size W w')) :
  Calls Tryd.prog 28 #[.agg #[.int .i64 a0_0, .int .i64 a0_1, .bool a0_2, .bool a0_3, .bool a0_4, .int .i64 a0_5, .string a0_6, .bool a0_7, .int .i64 a0_8], .int .i64 a1, .agg #[.int .i64 a2_0, .int .i64 a2_1, .slice A L c]] w fun e w' => ∃ v0_ : Value, e = .returned (.tuple #[.agg #[.int .i64 a0_0, .int .i64 a0_1, .bool a0_2, .bool a0_3, .bool a0_4, .int .i64 a0_5, .string a0_6, .bool a0_7, .int .i64 a0_8], v0_]) ∧ Kd.R PAuthBase.k60 60 w' w.heap.size (fun _ => True) v0_ [⟨11, a1, a2_1, strOfNums tv⟩] ∧ Below w.heap.size w w' := by
 have HB := Aside0.mk (Below.refl w.heap.size w)
 obtain ⟨rfl, rfl, rfl, rfl, rfl⟩ := H
 all_goals go_enter Tryd.func28, Tryd.ntmps28
 all_goals (go_upto_region 2 with (first | ((with_reducible refine gate_dst (N := 3) rfl ?_); refine' box_event ?hg (N := 3) ?hd (t := 50) ?hr ?_; (case hd => rfl); (case hg => rfl); (case hr => first | (go_simp; done) | (go_simp; rfl)); intro gl hgn w1 hbox hbn; have HB_ := Aside0.mk (below_step (show Below w.heap.size w w from HB.out) hbn); have GEgl := Aside0.mk (show w.heap.size ≤ gl from Nat.le_trans (below_size (show Below w.heap.size w w from HB.out)) (Nat.le_of_eq hgn.symm)); clear HB; have HB := HB_; clear HB_; have HL := Aside0.mk hbox; clear hbox hbn hgn; obtain ⟨l0, l1, l2, l3, l4, l5, l6, l7, l8, lf0, lf1, lf2, lf3, lf4, lf5, lf6, lf7, lf8⟩ := cells9 HL.out) | ((with_reducible refine gate_dst (N := 5) rfl ?_); refine' box_event ?hg (N := 5) ?hd (t := 52) ?hr ?_; (case hd => rfl); (case hg => rfl); (case hr => first | (go_simp; done) | (go_simp; rfl)); intro gp hgn w2 hbox hbn; have nglgp : gl ≠ gp := Nat.ne_of_lt (Nat.lt_of_lt_of_eq (blk_lt HL.out) hgn.symm); have ngpgl : gp ≠ gl := fun e_ => nglgp e_.symm; clear l0 lf0 l1 lf1 l2 lf2 l3 lf3 l4 lf4 l5 lf5 l6 lf6 l7 lf7 l8 lf8; have HL_ := Aside0.mk (blk_below HL.out hbn); clear HL; have HL := HL_; clear HL_; have HB_ := Aside0.mk (below_step (show Below w.heap.size w w1 from HB.out) hbn); have GEgp := Aside0.mk (show w.heap.size ≤ gp from Nat.le_trans (below_size (show Below w.heap.size w w1 from HB.out)) (Nat.le_of_eq hgn.symm)); clear HB; have HB := HB_; clear HB_; have HP := Aside0.mk hbox; clear hbox hbn hgn; obtain ⟨p0, p1, p2, pf0, pf1, pf2⟩ := cells3 HP.out; obtain ⟨l0, l1, l2, l3, l4, l5, l6, l7, l8, lf0, lf1, lf2, lf3, lf4, lf5, lf6, lf7, lf8⟩ := cells9 HL.out) | ((with_reducible refine gate_dst (N := 6) rfl ?_); refine' box_event ?hg (N := 6) ?hd (t := 50) ?hr ?_; (case hd => rfl); (case hg => rfl); (case hr => first | (go_simp; done) | (go_simp; rfl)); intro g hgn w3 hbox hbn; have nglg : gl ≠ g := Nat.ne_of_lt (Nat.lt_of_lt_of_eq (blk_lt HL.out) hgn.symm); have nggl : g ≠ gl := fun e_ => nglg e_.symm; have ngpg : gp ≠ g := Nat.ne_of_lt (Nat.lt_of_lt_of_eq (blk_lt HP.out) hgn.symm); have nggp : g ≠ gp := fun e_ => ngpg e_.symm; clear l0 lf0 l1 lf1 l2 lf2 l3 lf3 l4 lf4 l5 lf5 l6 lf6 l7 lf7 l8 lf8; clear p0 pf0 p1 pf1 p2 pf2; have HL_ := Aside0.mk (blk_below HL.out hbn); clear HL; have HL := HL_; clear HL_; have HP_ := Aside0.mk (blk_below HP.out hbn); clear HP; have HP := HP_; clear HP_; have HB_ := Aside0.mk (below_step (show Below w.heap.size w w2 from HB.out) hbn); have GEg := Aside0.mk (show w.heap.size ≤ g from Nat.le_trans (below_size (show Below w.heap.size w w2 from HB.out)) (Nat.le_of_eq hgn.symm)); clear HB; have HB := HB_; clear HB_; have HZ := Aside0.mk hbox; clear hbox hbn hgn; obtain ⟨z0, z1, z2, z3, z4, z5, z6, z7, z8, zf0, zf1, zf2, zf3, zf4, zf5, zf6, zf7, zf8⟩ := cells9 HZ.out; obtain ⟨l0, l1, l2, l3, l4, l5, l6, l7, l8, lf0, lf1, lf2, lf3, lf4, lf5, lf6, lf7, lf8⟩ := cells9 HL.out; obtain ⟨p0, p1, p2, pf0, pf1, pf2⟩ := cells3 HP.out) | (go_at_call 20; (with_reducible refine (HRD.out _ HB.out).mono ?_); have HB3 := HB; rintro e w4 ⟨v6, rfl, hR6, hbn⟩; clear l0 lf0 l1 lf1 l2 lf2 l3 lf3 l4 lf4 l5 lf5 l6 lf6 l7 lf7 l8 lf8; clear p0 pf0 p1 pf1 p2 pf2; clear z0 zf0 z1 zf1 z2 zf2 z3 zf3 z4 zf4 z5 zf5 z6 zf6 z7 zf7 z8 zf8; have HL_ := Aside0.mk (blk_below HL.out hbn); clear HL; have HL := HL_; clear HL_; have HP_ := Aside0.mk (blk_below HP.out hbn); clear HP; have HP := HP_; clear HP_; have HZ_ := Aside0.mk (blk_below HZ.out hbn); clear HZ; have HZ := HZ_; clear HZ_; have HB_ := Aside0.mk (below_step (show Below w.heap.size w w3 from HB.out) hbn); clear HB; have HB := HB_; clear HB_; obtain ⟨Ao, co, eo⟩ := Kd.R_slice hR6; subst eo; have HR := Aside0.mk (Kd.R_lower hR6 (below_size (show Below w.heap.size w w3 from HB3.out))); clear hR6; clear hbn; obtain ⟨l0, l1, l2, l3, l4, l5, l6, l7, l8, lf0, lf1, lf2, lf3, lf4, lf5, lf6, lf7, lf8⟩ := cells9 HL.out; obtain ⟨p0, p1, p2, pf0, pf1, pf2⟩ := cells3 HP.out; obtain ⟨z0, z1, z2, z3, z4, z5, z6, z7, z8, zf0, zf1, zf2, zf3, zf4, zf5, zf6, zf7, zf8⟩ := cells9 HZ.out) | ((with_reducible refine gate_dst (N := 8) rfl ?_); refine' box_event ?hg (N := 8) ?hd (t := 30) ?hr ?_; (case hd => rfl); (case hg => rfl); (case hr => first | (go_simp; done) | (go_simp; rfl)); intro gc hgn w5 hbox hbn; have nglgc : gl ≠ gc := Nat.ne_of_lt (Nat.lt_of_lt_of_eq (blk_lt HL.out) hgn.symm); have ngcgl : gc ≠ gl := fun e_ => nglgc e_.symm; have ngpgc : gp ≠ gc := Nat.ne_of_lt (Nat.lt_of_lt_of_eq (blk_lt HP.out) hgn.symm); have ngcgp : gc ≠ gp := fun e_ => ngpgc e_.symm; have nggc : g ≠ gc := Nat.ne_of_lt (Nat.lt_of_lt_of_eq (blk_lt HZ.out) hgn.symm); have ngcg : gc ≠ g := fun e_ => nggc e_.symm; clear l0 lf0 l1 lf1 l2 lf2 l3 lf3 l4 lf4 l5 lf5 l6 lf6 l7 lf7 l8 lf8; clear p0 pf0 p1 pf1 p2 pf2; clear z0 zf0 z1 zf1 z2 zf2 z3 zf3 z4 zf4 z5 zf5 z6 zf6 z7 zf7 z8 zf8; have HL_ := Aside0.mk (blk_below HL.out hbn); clear HL; have HL := HL_; clear HL_; have HP_ := Aside0.mk (blk_below HP.out hbn); clear HP; have HP := HP_; clear HP_; have HZ_ := Aside0.mk (blk_below HZ.out hbn); clear HZ; have HZ := HZ_; clear HZ_; have HB_ := Aside0.mk (below_step (show Below w.heap.size w w4 from HB.out) hbn); have GEgc := Aside0.mk (show w.heap.size ≤ gc from Nat.le_trans (below_size (show Below w.heap.size w w4 from HB.out)) (Nat.le_of_eq hgn.symm)); clear HB; have HB := HB_; clear HB_; have HC := Aside0.mk hbox; have HR_ := Aside0.mk (Kd.R_below HR.out hbn); clear HR; have HR := HR_; clear HR_; clear hbox hbn hgn; obtain ⟨q0, q1, qf0, qf1⟩ := cells2 HC.out; obtain ⟨l0, l1, l2, l3, l4, l5, l6, l7, l8, lf0, lf1, lf2, lf3, lf4, lf5, lf6, lf7, lf8⟩ := cells9 HL.out; obtain ⟨p0, p1, p2, pf0, pf1, pf2⟩ := cells3 HP.out; obtain ⟨z0, z1, z2, z3, z4, z5, z6, z7, z8, zf0, zf1, zf2, zf3, zf4, zf5, zf6, zf7, zf8⟩ := cells9 HZ.out)))
 all_goals (try simp only [Act.put, List.setIfInBounds_toArray, List.set_cons_zero, List.set_cons_succ])
 all_goals (
  generalize hw6 : ((w5.setCell ⟨gc, 0, none⟩ (.slice Ao tv.length co)).setCell ⟨gc, 1, none⟩ (.string sn)) = w6
  have y6_ := blk_far (p := ⟨gc, 1, none⟩) (blk_far (p := ⟨gc, 0, none⟩) HL.out nglgc (.slice Ao tv.length co)) nglgc (.string sn)
  rw [hw6] at y6_
  have HL6 := Aside0.mk y6_
  clear y6_
  have y6_ := blk_far (p := ⟨gc, 1, none⟩) (blk_far (p := ⟨gc, 0, none⟩) HP.out ngpgc (.slice Ao tv.length co)) ngpgc (.string sn)
  rw [hw6] at y6_
  have HP6 := Aside0.mk y6_
  clear y6_
  have y6_ := blk_far (p := ⟨gc, 1, none⟩) (blk_far (p := ⟨gc, 0, none⟩) HZ.out nggc (.slice Ao tv.length co)) nggc (.string sn)
  rw [hw6] at y6_
  have HZ6 := Aside0.mk y6_
  clear y6_
  have HC6 := Aside0.mk (show w6.heap[gc]? = some (.cells #[.slice Ao tv.length co, .string sn] 30 (0, 0)) by rw [← hw6]; exact blk_put (blk_put (cs' := #[.slice Ao tv.length co, .string (⟨#[]⟩ : ByteArray)]) HC.out 0 _ rfl) 1 _ rfl)
  have HB6 := Aside0.mk (show Below w.heap.size w w6 by rw [← hw6]; exact (HB.out.setCell (p := ⟨gc, 0, none⟩) GEgc.out _).setCell (p := ⟨gc, 1, none⟩) GEgc.out _)
  have hty : ∀ x, x ∈ (5 : TypeId) :: (Kd.int IntKind.u8).E → x ≠ 30 := fun x hx => by cases hx with | head => decide | tail _ h => cases h
  have HR6 := Aside0.mk (show Kd.R (Kd.int .u8) 5 w6 w.heap.size (fun _ => True) (.slice Ao tv.length co) tv by rw [← hw6]; exact Kd.R_set (Kd.R_set HR.out HC.out hty 0 _) (blk_set HC.out 0 _) hty 1 _)
  clear hw6 hty
  clear l0 lf0 l1 lf1 l2 lf2 l3 lf3 l4 lf4 l5 lf5 l6 lf6 l7 lf7 l8 lf8; clear p0 pf0 p1 pf1 p2 pf2; clear z0 zf0 z1 zf1 z2 zf2 z3 zf3 z4 zf4 z5 zf5 z6 zf6 z7 zf7 z8 zf8; clear q0 qf0 q1 qf1
  clear HL HP HZ HC HB HR
  have HL := HL6
  have HP := HP6
  have HZ := HZ6
  have HC := HC6
  have HB := HB6
  have HR := HR6
  clear HL6 HP6 HZ6 HC6 HB6 HR6
  obtain ⟨l0, l1, l2, l3, l4, l5, l6, l7, l8, lf0, lf1, lf2, lf3, lf4, lf5, lf6, lf7, lf8⟩ := cells9 HL.out
  obtain ⟨p0, p1, p2, pf0, pf1, pf2⟩ := cells3 HP.out
  obtain ⟨z0, z1, z2, z3, z4, z5, z6, z7, z8, zf0, zf1, zf2, zf3, zf4, zf5, zf6, zf7, zf8⟩ := cells9 HZ.out
  obtain ⟨q0, q1, qf0, qf1⟩ := cells2 HC.out
  go_cut [10] (fun v10 wc => Aside0 (v10 = .bool (a0_7 && (a2_1 == a0_8))) ∧ w6 = wc)
  case first =>
   cases a0_7 <;> (go_wp2_with fail; go_meet; case rel => exact ⟨⟨by first | rfl | simp⟩, rfl⟩)
  obtain ⟨h10_, rfl⟩ := hcut
  have h11_ := h10_.out
  rw [HMI.out] at h11_
  subst h11_
  clear h10_ HMI)
 (go_wp2_with (first | (go_at_call 44; (with_reducible refine (HAS.out _ HB.out).mono ?_); rintro e w7 ⟨rfl, hbn⟩; clear l0 lf0 l1 lf1 l2 lf2 l3 lf3 l4 lf4 l5 lf5 l6 lf6 l7 lf7 l8 lf8; clear p0 pf0 p1 pf1 p2 pf2; clear z0 zf0 z1 zf1 z2 zf2 z3 zf3 z4 zf4 z5 zf5 z6 zf6 z7 zf7 z8 zf8; clear q0 qf0 q1 qf1; have HL_ := Aside0.mk (blk_below HL.out hbn); clear HL; have HL := HL_; clear HL_; have HP_ := Aside0.mk (blk_below HP.out hbn); clear HP; have HP := HP_; clear HP_; have HZ_ := Aside0.mk (blk_below HZ.out hbn); clear HZ; have HZ := HZ_; clear HZ_; have HC_ := Aside0.mk (blk_below HC.out hbn); clear HC; have HC := HC_; clear HC_; have HB_ := Aside0.mk (below_step (show Below w.heap.size w w6 from HB.out) hbn); clear HB; have HB := HB_; clear HB_; have HR_ := Aside0.mk (Kd.R_below HR.out hbn); clear HR; have HR := HR_; clear HR_; clear hbn; obtain ⟨l0, l1, l2, l3, l4, l5, l6, l7, l8, lf0, lf1, lf2, lf3, lf4, lf5, lf6, lf7, lf8⟩ := cells9 HL.out; obtain ⟨p0, p1, p2, pf0, pf1, pf2⟩ := cells3 HP.out; obtain ⟨z0, z1, z2, z3, z4, z5, z6, z7, z8, zf0, zf1, zf2, zf3, zf4, zf5, zf6, zf7, zf8⟩ := cells9 HZ.out; obtain ⟨q0, q1, qf0, qf1⟩ := cells2 HC.out) | (go_at_call 45; (with_reducible refine (HSA.out _ HB.out).mono ?_); rintro e w8 ⟨rfl, hbn⟩; clear l0 lf0 l1 lf1 l2 lf2 l3 lf3 l4 lf4 l5 lf5 l6 lf6 l7 lf7 l8 lf8; clear p0 pf0 p1 pf1 p2 pf2; clear z0 zf0 z1 zf1 z2 zf2 z3 zf3 z4 zf4 z5 zf5 z6 zf6 z7 zf7 z8 zf8; clear q0 qf0 q1 qf1; have HL_ := Aside0.mk (blk_below HL.out hbn); clear HL; have HL := HL_; clear HL_; have HP_ := Aside0.mk (blk_below HP.out hbn); clear HP; have HP := HP_; clear HP_; have HZ_ := Aside0.mk (blk_below HZ.out hbn); clear HZ; have HZ := HZ_; clear HZ_; have HC_ := Aside0.mk (blk_below HC.out hbn); clear HC; have HC := HC_; clear HC_; have HB_ := Aside0.mk (below_step (show Below w.heap.size w _ from HB.out) hbn); clear HB; have HB := HB_; clear HB_; have HR_ := Aside0.mk (Kd.R_below HR.out hbn); clear HR; have HR := HR_; clear HR_; clear hbn; obtain ⟨l0, l1, l2, l3, l4, l5, l6, l7, l8, lf0, lf1, lf2, lf3, lf4, lf5, lf6, lf7, lf8⟩ := cells9 HL.out; obtain ⟨p0, p1, p2, pf0, pf1, pf2⟩ := cells3 HP.out; obtain ⟨z0, z1, z2, z3, z4, z5, z6, z7, z8, zf0, zf1, zf2, zf3, zf4, zf5, zf6, zf7, zf8⟩ := cells9 HZ.out; obtain ⟨q0, q1, qf0, qf1⟩ := cells2 HC.out)))
 have hty5 : ∀ x, x ∈ (5 : TypeId) :: (Kd.int IntKind.u8).E → x ≠ 50 := fun x hx => by cases hx with | head => decide | tail _ h => cases h
 have hty60 : ∀ x, x ∈ (60 : TypeId) :: PAuthBase.k60.E → x ≠ 50 := fun x hx => by cases hx with | head => decide | tail _ h => cases h
 have HLd := Aside0.mk (blk_drew HL.out)
 have HPd := Aside0.mk (blk_drew HP.out)
 have HZd := Aside0.mk (blk_drew HZ.out)
 have HCd := Aside0.mk (blk_drew HC.out)
 have HBd := Aside0.mk (below_drew1 HB.out)
 have HRd := Aside0.mk (Kd.R_drew HR.out)
 have HSd := Aside0.mk (below_size HBd.out)
 refine start_ (n := 11) (S := fun w' => w'.cell? ⟨gl, 0, none⟩ = some (.int .i64 a0_0) ∧ w'.cell? ⟨gl, 1, none⟩ = some (.int .i64 a0_1) ∧ w'.cell? ⟨gl, 2, none⟩ = some (.bool a0_2) ∧ w'.cell? ⟨gl, 3, none⟩ = some (.bool a0_3) ∧ w'.cell? ⟨gl, 4, none⟩ = some (.bool a0_4) ∧ w'.cell? ⟨gl, 5, none⟩ = some (.int .i64 a0_5) ∧ w'.cell? ⟨gl, 6, none⟩ = some (.string a0_6) ∧ w'.cell? ⟨gl, 7, none⟩ = some (.bool a0_7) ∧ w'.cell? ⟨gl, 8, none⟩ = some (.int .i64 a0_8) ∧ w'.cell? ⟨gp, 1, none⟩ = some (.int .i64 a2_1) ∧ w'.cell? ⟨gc, 0, none⟩ = some (.slice Ao tv.length co) ∧ (convert 22 9 (.slice Ao tv.length co)).run Tryd.prog w' = .ok (.string (strOfNums tv)) w') (ds := []) #[false, false, false, false, false, false, false, false, false, false, false] (by kernel_rfl) rfl rfl ⟨l0, l1, l2, l3, l4, l5, l6, l7, l8, p1, q0, (own_string (P := Tryd.prog) (src := 22) (dst := 9) Tryd.underlying22 Tryd.underlying5 Tryd.underlying9 (Kd.own_of_R (Kd.R_drew HR.out)))⟩ (fun hHeld => ?_)
 generalize w6.drew = wd at HLd HPd HZd HCd HBd HRd HSd hHeld ⊢
 refine pure_ (i := 1) (N := some 86) (v := ?_) (a' := ?_) #[false, true, false, false, false, false, false, false, false, false, false] rfl rfl (by kernel_rfl) (fun _ _ _ h => h) (Or.inl ⟨by rfl, ?_⟩) ?_ ?_
 rotate_left
 ·intro w'
  go_simp
  with_reducible rfl
 rotate_left
 ·simp only [Act.put, List.setIfInBounds_toArray, List.set_cons_zero, List.set_cons_succ, i64_w, i32_w]
  rfl
 refine pure_ (i := 2) (N := some 87) (v := ?_) (a' := ?_) #[false, true, true, false, false, false, false, false, false, false, false] rfl rfl (by kernel_rfl) (fun _ _ _ h => h) (Or.inl ⟨by rfl, ?_⟩) ?_ ?_
 rotate_left
 ·intro w'
  go_simp
  with_reducible rfl
 rotate_left
 ·simp only [Act.put, List.setIfInBounds_toArray, List.set_cons_zero, List.set_cons_succ, i64_w, i32_w]
  rfl
 refine pure_ (i := 4) (N := some 89) (v := ?_) (a' := ?_) #[false, true, true, false, true, false, false, false, false, false, false] rfl rfl (by kernel_rfl) (fun _ _ _ h => h) (Or.inl ⟨by rfl, ?_⟩) ?_ ?_
 rotate_left
 ·intro w'
  go_simp
  with_reducible rfl
 rotate_left
 ·simp only [Act.put, List.setIfInBounds_toArray, List.set_cons_zero, List.set_cons_succ, i64_w, i32_w]
  rfl
 refine take_ (i := 0) (N := some 85) (v := ?_) (a' := ?_) #[true, true, true, false, true, false, false, false, false, false, false] rfl rfl (by kernel_rfl) (fun _ _ _ h => h) (Or.inl ⟨by rfl, ?_⟩) hHeld ?_ ?_
 rotate_left
 ·rintro w' ⟨s0, s1, s2, s3, s4, s5, s6, s7, s8, s9, s10, s11⟩
  go_simp
  with_reducible rfl
 rotate_left
 ·simp only [Act.put, List.setIfInBounds_toArray, List.set_cons_zero, List.set_cons_succ, i64_w, i32_w]
  rfl
 refine take_ (i := 3) (N := some 88) (v := ?_) (a' := ?_) #[true, true, true, true, true, false, false, false, false, false, false] rfl rfl (by kernel_rfl) (fun _ _ _ h => h) (Or.inl ⟨by rfl, ?_⟩) hHeld ?_ ?_
 rotate_left
 ·rintro w' ⟨s0, s1, s2, s3, s4, s5, s6, s7, s8, s9, s10, s11⟩
  go_simp
  with_reducible rfl
 rotate_left
 ·simp only [Act.put, List.setIfInBounds_toArray, List.set_cons_zero, List.set_cons_succ, i64_w, i32_w]
  rfl
 refine take_ (i := 5) (N := some 90) (v := ?_) (a' := ?_) #[true, true, true, true, true, true, false, false, false, false, false] rfl rfl (by kernel_rfl) (fun _ _ _ h => h) (Or.inl ⟨by rfl, ?_⟩) hHeld ?_ ?_
 rotate_left
 ·rintro w' ⟨s0, s1, s2, s3, s4, s5, s6, s7, s8, s9, s10, s11⟩
  go_simp
  with_reducible rfl
 rotate_left
 ·simp only [Act.put, List.setIfInBounds_toArray, List.set_cons_zero, List.set_cons_succ, i64_w, i32_w]
  rfl
 refine take_ (i := 6) (N := some 91) (v := ?_) (a' := ?_) #[true, true, true, true, true, true, true, false, false, false, false] rfl rfl (by kernel_rfl) (fun _ _ _ h => h) (Or.inl ⟨by rfl, ?_⟩) hHeld ?_ ?_
 rotate_left
 ·rintro w' ⟨s0, s1, s2, s3, s4, s5, s6, s7, s8, s9, s10, s11⟩
  go_simp
  with_reducible rfl
 rotate_left
 ·simp only [Act.put, List.setIfInBounds_toArray, List.set_cons_zero, List.set_cons_succ, i64_w, i32_w]
  rfl
 refine pure_ (i := 7) (N := some 92) (v := ?_) (a' := ?_) #[true, true, true, true, true, true, true, true, false, false, false] rfl rfl (by kernel_rfl) (fun _ _ _ h => h) (Or.inl ⟨by rfl, ?_⟩) ?_ ?_
 rotate_left
 ·intro w'
  go_simp
  with_reducible rfl
 rotate_left
 ·simp only [Act.put, List.setIfInBounds_toArray, List.set_cons_zero, List.set_cons_succ, i64_w, i32_w]
  rfl
 refine join_ (σ := Value) 1 #[true, true, true, true, true, true, true, true, true, true, false] (fun s_ => [(93, s_)]) (fun s_ w' => w'.heap[g]? = some (.cells #[.int .i64 a0_0, .int .i64 a0_1, .bool a0_2, .bool a0_3, .bool a0_4, .int .i64 a0_5, .string a0_6, .bool a0_7, .int .i64 a0_8] 50 (0, 0)) ∧ Kd.R PAuthBase.k60 60 w' w.heap.size (fun _ => True) s_ [(⟨11, a1, a2_1, (strOfNums tv)⟩ : PAuthBase.S60)] ∧ Below w.heap.size w w') ?_ ?_
 rotate_left
 ·intro hCont
  refine two_ (i := 8) (j := 9) (Ni := some 93) (Nj := none) #[true, true, true, true, true, true, true, true, true, false, false] #[true, true, true, true, true, true, true, true, false, true, false] rfl rfl rfl rfl (by kernel_rfl) (by decide) (by decide) (fun K hK => ?_) (fun K hK => ?_)
  ·skip
   refine value_ (w1 := ?_) (v := ?_) (by rfl) rfl ?_ ?_
   rotate_left 2
   ·go_simp
    constructor
    ·rfl
    ·rfl
   refine hK.out _ _ ⟨((blk_cell (blk_alloc HLd.out (.cells #[.int .i64 11, .int .i64 a1, .int .i64 a2_1, .string (strOfNums tv)] 60)) 0).trans rfl), ((blk_cell (blk_alloc HLd.out (.cells #[.int .i64 11, .int .i64 a1, .int .i64 a2_1, .string (strOfNums tv)] 60)) 1).trans rfl), ((blk_cell (blk_alloc HLd.out (.cells #[.int .i64 11, .int .i64 a1, .int .i64 a2_1, .string (strOfNums tv)] 60)) 2).trans rfl), ((blk_cell (blk_alloc HLd.out (.cells #[.int .i64 11, .int .i64 a1, .int .i64 a2_1, .string (strOfNums tv)] 60)) 3).trans rfl), ((blk_cell (blk_alloc HLd.out (.cells #[.int .i64 11, .int .i64 a1, .int .i64 a2_1, .string (strOfNums tv)] 60)) 4).trans rfl), ((blk_cell (blk_alloc HLd.out (.cells #[.int .i64 11, .int .i64 a1, .int .i64 a2_1, .string (strOfNums tv)] 60)) 5).trans rfl), ((blk_cell (blk_alloc HLd.out (.cells #[.int .i64 11, .int .i64 a1, .int .i64 a2_1, .string (strOfNums tv)] 60)) 6).trans rfl), ((blk_cell (blk_alloc HLd.out (.cells #[.int .i64 11, .int .i64 a1, .int .i64 a2_1, .string (strOfNums tv)] 60)) 7).trans rfl), ((blk_cell (blk_alloc HLd.out (.cells #[.int .i64 11, .int .i64 a1, .int .i64 a2_1, .string (strOfNums tv)] 60)) 8).trans rfl), ((blk_cell (blk_alloc HPd.out (.cells #[.int .i64 11, .int .i64 a1, .int .i64 a2_1, .string (strOfNums tv)] 60)) 1).trans rfl), ((blk_cell (blk_alloc HCd.out (.cells #[.int .i64 11, .int .i64 a1, .int .i64 a2_1, .string (strOfNums tv)] 60)) 0).trans rfl), (own_string (P := Tryd.prog) (src := 22) (dst := 9) Tryd.underlying22 Tryd.underlying5 Tryd.underlying9 (Kd.own_of_R (Kd.R_alloc HRd.out (.cells #[.int .i64 11, .int .i64 a1, .int .i64 a2_1, .string (strOfNums tv)] 60))))⟩ (fun hHeld => ?_)
   clear hK K
   refine norm_ (a' := ?_) ?_ ?_
   rotate_left
   ·show Act.put _ (some 93) _ = _
    simp only [Act.put, List.setIfInBounds_toArray, List.set_cons_zero, List.set_cons_succ, i64_w, i32_w]
    rfl
   refine one_ (i := 9) (N := none) #[true, true, true, true, true, true, true, true, true, true, false] rfl rfl (by kernel_rfl) (by decide) (fun K hK => ?_)
   obtain ⟨y0_, y1_, y2_, y3_, y4_, y5_, y6_, y7_, y8_, yf0_, yf1_, yf2_, yf3_, yf4_, yf5_, yf6_, yf7_, yf8_⟩ := cells9 (blk_alloc HZd.out (.cells #[.int .i64 11, .int .i64 a1, .int .i64 a2_1, .string (strOfNums tv)] 60))
   refine skip_ (w1 := ?_) (by rfl) rfl ?_ ?_
   rotate_left
   ·go_simp
    rfl
   refine hK.out _ _ ⟨((blk_cell (set9_blk (blk_alloc HLd.out (.cells #[.int .i64 11, .int .i64 a1, .int .i64 a2_1, .string (strOfNums tv)] 60)) nglg (.int .i64 a0_0) (.int .i64 a0_1) (.bool a0_2) (.bool a0_3) (.bool a0_4) (.int .i64 a0_5) (.string a0_6) (.bool a0_7) (.int .i64 a0_8)) 0).trans rfl), ((blk_cell (set9_blk (blk_alloc HLd.out (.cells #[.int .i64 11, .int .i64 a1, .int .i64 a2_1, .string (strOfNums tv)] 60)) nglg (.int .i64 a0_0) (.int .i64 a0_1) (.bool a0_2) (.bool a0_3) (.bool a0_4) (.int .i64 a0_5) (.string a0_6) (.bool a0_7) (.int .i64 a0_8)) 1).trans rfl), ((blk_cell (set9_blk (blk_alloc HLd.out (.cells #[.int .i64 11, .int .i64 a1, .int .i64 a2_1, .string (strOfNums tv)] 60)) nglg (.int .i64 a0_0) (.int .i64 a0_1) (.bool a0_2) (.bool a0_3) (.bool a0_4) (.int .i64 a0_5) (.string a0_6) (.bool a0_7) (.int .i64 a0_8)) 2).trans rfl), ((blk_cell (set9_blk (blk_alloc HLd.out (.cells #[.int .i64 11, .int .i64 a1, .int .i64 a2_1, .string (strOfNums tv)] 60)) nglg (.int .i64 a0_0) (.int .i64 a0_1) (.bool a0_2) (.bool a0_3) (.bool a0_4) (.int .i64 a0_5) (.string a0_6) (.bool a0_7) (.int .i64 a0_8)) 3).trans rfl), ((blk_cell (set9_blk (blk_alloc HLd.out (.cells #[.int .i64 11, .int .i64 a1, .int .i64 a2_1, .string (strOfNums tv)] 60)) nglg (.int .i64 a0_0) (.int .i64 a0_1) (.bool a0_2) (.bool a0_3) (.bool a0_4) (.int .i64 a0_5) (.string a0_6) (.bool a0_7) (.int .i64 a0_8)) 4).trans rfl), ((blk_cell (set9_blk (blk_alloc HLd.out (.cells #[.int .i64 11, .int .i64 a1, .int .i64 a2_1, .string (strOfNums tv)] 60)) nglg (.int .i64 a0_0) (.int .i64 a0_1) (.bool a0_2) (.bool a0_3) (.bool a0_4) (.int .i64 a0_5) (.string a0_6) (.bool a0_7) (.int .i64 a0_8)) 5).trans rfl), ((blk_cell (set9_blk (blk_alloc HLd.out (.cells #[.int .i64 11, .int .i64 a1, .int .i64 a2_1, .string (strOfNums tv)] 60)) nglg (.int .i64 a0_0) (.int .i64 a0_1) (.bool a0_2) (.bool a0_3) (.bool a0_4) (.int .i64 a0_5) (.string a0_6) (.bool a0_7) (.int .i64 a0_8)) 6).trans rfl), ((blk_cell (set9_blk (blk_alloc HLd.out (.cells #[.int .i64 11, .int .i64 a1, .int .i64 a2_1, .string (strOfNums tv)] 60)) nglg (.int .i64 a0_0) (.int .i64 a0_1) (.bool a0_2) (.bool a0_3) (.bool a0_4) (.int .i64 a0_5) (.string a0_6) (.bool a0_7) (.int .i64 a0_8)) 7).trans rfl), ((blk_cell (set9_blk (blk_alloc HLd.out (.cells #[.int .i64 11, .int .i64 a1, .int .i64 a2_1, .string (strOfNums tv)] 60)) nglg (.int .i64 a0_0) (.int .i64 a0_1) (.bool a0_2) (.bool a0_3) (.bool a0_4) (.int .i64 a0_5) (.string a0_6) (.bool a0_7) (.int .i64 a0_8)) 8).trans rfl), ((blk_cell (set9_blk (blk_alloc HPd.out (.cells #[.int .i64 11, .int .i64 a1, .int .i64 a2_1, .string (strOfNums tv)] 60)) ngpg (.int .i64 a0_0) (.int .i64 a0_1) (.bool a0_2) (.bool a0_3) (.bool a0_4) (.int .i64 a0_5) (.string a0_6) (.bool a0_7) (.int .i64 a0_8)) 1).trans rfl), ((blk_cell (set9_blk (blk_alloc HCd.out (.cells #[.int .i64 11, .int .i64 a1, .int .i64 a2_1, .string (strOfNums tv)] 60)) ngcg (.int .i64 a0_0) (.int .i64 a0_1) (.bool a0_2) (.bool a0_3) (.bool a0_4) (.int .i64 a0_5) (.string a0_6) (.bool a0_7) (.int .i64 a0_8)) 0).trans rfl), (own_string (P := Tryd.prog) (src := 22) (dst := 9) Tryd.underlying22 Tryd.underlying5 Tryd.underlying9 (Kd.own_of_R (set9_R (Kd.R_alloc HRd.out (.cells #[.int .i64 11, .int .i64 a1, .int .i64 a2_1, .string (strOfNums tv)] 60)) (blk_alloc HZd.out (.cells #[.int .i64 11, .int .i64 a1, .int .i64 a2_1, .string (strOfNums tv)] 60)) hty5 (.int .i64 a0_0) (.int .i64 a0_1) (.bool a0_2) (.bool a0_3) (.bool a0_4) (.int .i64 a0_5) (.string a0_6) (.bool a0_7) (.int .i64 a0_8))))⟩ (fun hHeld => ?_)
   clear hK K
   exact norm_ (by simp only [putAll, Act.put, List.setIfInBounds_toArray, List.set_cons_zero, List.set_cons_succ]) (hCont (.slice (some ⟨wd.heap.size, 0, none⟩) 1 1) _ ⟨set9_copy (blk_alloc HZd.out (.cells #[.int .i64 11, .int .i64 a1, .int .i64 a2_1, .string (strOfNums tv)] 60)) (blk_alloc HLd.out (.cells #[.int .i64 11, .int .i64 a1, .int .i64 a2_1, .string (strOfNums tv)] 60)), set9_R (due_row wd w.heap.size wd.heap.size rfl HSd.out (⟨11, a1, a2_1, (strOfNums tv)⟩ : PAuthBase.S60)) (blk_alloc HZd.out (.cells #[.int .i64 11, .int .i64 a1, .int .i64 a2_1, .string (strOfNums tv)] 60)) hty60 (.int .i64 a0_0) (.int .i64 a0_1) (.bool a0_2) (.bool a0_3) (.bool a0_4) (.int .i64 a0_5) (.string a0_6) (.bool a0_7) (.int .i64 a0_8), set9_copyB (below_alloc HBd.out (.cells #[.int .i64 11, .int .i64 a1, .int .i64 a2_1, .string (strOfNums tv)] 60)) GEg.out (blk_alloc HLd.out (.cells #[.int .i64 11, .int .i64 a1, .int .i64 a2_1, .string (strOfNums tv)] 60))⟩)
  ·skip
   obtain ⟨y0_, y1_, y2_, y3_, y4_, y5_, y6_, y7_, y8_, yf0_, yf1_, yf2_, yf3_, yf4_, yf5_, yf6_, yf7_, yf8_⟩ := cells9 HZd.out
   refine skip_ (w1 := ?_) (by rfl) rfl ?_ ?_
   rotate_left
   ·go_simp
    rfl
   refine hK.out _ _ ⟨((blk_cell (set9_blk HLd.out nglg (.int .i64 a0_0) (.int .i64 a0_1) (.bool a0_2) (.bool a0_3) (.bool a0_4) (.int .i64 a0_5) (.string a0_6) (.bool a0_7) (.int .i64 a0_8)) 0).trans rfl), ((blk_cell (set9_blk HLd.out nglg (.int .i64 a0_0) (.int .i64 a0_1) (.bool a0_2) (.bool a0_3) (.bool a0_4) (.int .i64 a0_5) (.string a0_6) (.bool a0_7) (.int .i64 a0_8)) 1).trans rfl), ((blk_cell (set9_blk HLd.out nglg (.int .i64 a0_0) (.int .i64 a0_1) (.bool a0_2) (.bool a0_3) (.bool a0_4) (.int .i64 a0_5) (.string a0_6) (.bool a0_7) (.int .i64 a0_8)) 2).trans rfl), ((blk_cell (set9_blk HLd.out nglg (.int .i64 a0_0) (.int .i64 a0_1) (.bool a0_2) (.bool a0_3) (.bool a0_4) (.int .i64 a0_5) (.string a0_6) (.bool a0_7) (.int .i64 a0_8)) 3).trans rfl), ((blk_cell (set9_blk HLd.out nglg (.int .i64 a0_0) (.int .i64 a0_1) (.bool a0_2) (.bool a0_3) (.bool a0_4) (.int .i64 a0_5) (.string a0_6) (.bool a0_7) (.int .i64 a0_8)) 4).trans rfl), ((blk_cell (set9_blk HLd.out nglg (.int .i64 a0_0) (.int .i64 a0_1) (.bool a0_2) (.bool a0_3) (.bool a0_4) (.int .i64 a0_5) (.string a0_6) (.bool a0_7) (.int .i64 a0_8)) 5).trans rfl), ((blk_cell (set9_blk HLd.out nglg (.int .i64 a0_0) (.int .i64 a0_1) (.bool a0_2) (.bool a0_3) (.bool a0_4) (.int .i64 a0_5) (.string a0_6) (.bool a0_7) (.int .i64 a0_8)) 6).trans rfl), ((blk_cell (set9_blk HLd.out nglg (.int .i64 a0_0) (.int .i64 a0_1) (.bool a0_2) (.bool a0_3) (.bool a0_4) (.int .i64 a0_5) (.string a0_6) (.bool a0_7) (.int .i64 a0_8)) 7).trans rfl), ((blk_cell (set9_blk HLd.out nglg (.int .i64 a0_0) (.int .i64 a0_1) (.bool a0_2) (.bool a0_3) (.bool a0_4) (.int .i64 a0_5) (.string a0_6) (.bool a0_7) (.int .i64 a0_8)) 8).trans rfl), ((blk_cell (set9_blk HPd.out ngpg (.int .i64 a0_0) (.int .i64 a0_1) (.bool a0_2) (.bool a0_3) (.bool a0_4) (.int .i64 a0_5) (.string a0_6) (.bool a0_7) (.int .i64 a0_8)) 1).trans rfl), ((blk_cell (set9_blk HCd.out ngcg (.int .i64 a0_0) (.int .i64 a0_1) (.bool a0_2) (.bool a0_3) (.bool a0_4) (.int .i64 a0_5) (.string a0_6) (.bool a0_7) (.int .i64 a0_8)) 0).trans rfl), (own_string (P := Tryd.prog) (src := 22) (dst := 9) Tryd.underlying22 Tryd.underlying5 Tryd.underlying9 (Kd.own_of_R (set9_R HRd.out HZd.out hty5 (.int .i64 a0_0) (.int .i64 a0_1) (.bool a0_2) (.bool a0_3) (.bool a0_4) (.int .i64 a0_5) (.string a0_6) (.bool a0_7) (.int .i64 a0_8))))⟩ (fun hHeld => ?_)
   clear hK K
   refine one_ (i := 8) (N := some 93) #[true, true, true, true, true, true, true, true, true, true, false] rfl rfl (by kernel_rfl) (by decide) (fun K hK => ?_)
   refine value_ (w1 := ?_) (v := ?_) (by rfl) rfl ?_ ?_
   rotate_left 2
   ·go_simp
    constructor
    ·rfl
    ·rfl
   refine hK.out _ _ ⟨((blk_cell (blk_alloc (set9_blk HLd.out nglg (.int .i64 a0_0) (.int .i64 a0_1) (.bool a0_2) (.bool a0_3) (.bool a0_4) (.int .i64 a0_5) (.string a0_6) (.bool a0_7) (.int .i64 a0_8)) (.cells #[.int .i64 11, .int .i64 a1, .int .i64 a2_1, .string (strOfNums tv)] 60)) 0).trans rfl), ((blk_cell (blk_alloc (set9_blk HLd.out nglg (.int .i64 a0_0) (.int .i64 a0_1) (.bool a0_2) (.bool a0_3) (.bool a0_4) (.int .i64 a0_5) (.string a0_6) (.bool a0_7) (.int .i64 a0_8)) (.cells #[.int .i64 11, .int .i64 a1, .int .i64 a2_1, .string (strOfNums tv)] 60)) 1).trans rfl), ((blk_cell (blk_alloc (set9_blk HLd.out nglg (.int .i64 a0_0) (.int .i64 a0_1) (.bool a0_2) (.bool a0_3) (.bool a0_4) (.int .i64 a0_5) (.string a0_6) (.bool a0_7) (.int .i64 a0_8)) (.cells #[.int .i64 11, .int .i64 a1, .int .i64 a2_1, .string (strOfNums tv)] 60)) 2).trans rfl), ((blk_cell (blk_alloc (set9_blk HLd.out nglg (.int .i64 a0_0) (.int .i64 a0_1) (.bool a0_2) (.bool a0_3) (.bool a0_4) (.int .i64 a0_5) (.string a0_6) (.bool a0_7) (.int .i64 a0_8)) (.cells #[.int .i64 11, .int .i64 a1, .int .i64 a2_1, .string (strOfNums tv)] 60)) 3).trans rfl), ((blk_cell (blk_alloc (set9_blk HLd.out nglg (.int .i64 a0_0) (.int .i64 a0_1) (.bool a0_2) (.bool a0_3) (.bool a0_4) (.int .i64 a0_5) (.string a0_6) (.bool a0_7) (.int .i64 a0_8)) (.cells #[.int .i64 11, .int .i64 a1, .int .i64 a2_1, .string (strOfNums tv)] 60)) 4).trans rfl), ((blk_cell (blk_alloc (set9_blk HLd.out nglg (.int .i64 a0_0) (.int .i64 a0_1) (.bool a0_2) (.bool a0_3) (.bool a0_4) (.int .i64 a0_5) (.string a0_6) (.bool a0_7) (.int .i64 a0_8)) (.cells #[.int .i64 11, .int .i64 a1, .int .i64 a2_1, .string (strOfNums tv)] 60)) 5).trans rfl), ((blk_cell (blk_alloc (set9_blk HLd.out nglg (.int .i64 a0_0) (.int .i64 a0_1) (.bool a0_2) (.bool a0_3) (.bool a0_4) (.int .i64 a0_5) (.string a0_6) (.bool a0_7) (.int .i64 a0_8)) (.cells #[.int .i64 11, .int .i64 a1, .int .i64 a2_1, .string (strOfNums tv)] 60)) 6).trans rfl), ((blk_cell (blk_alloc (set9_blk HLd.out nglg (.int .i64 a0_0) (.int .i64 a0_1) (.bool a0_2) (.bool a0_3) (.bool a0_4) (.int .i64 a0_5) (.string a0_6) (.bool a0_7) (.int .i64 a0_8)) (.cells #[.int .i64 11, .int .i64 a1, .int .i64 a2_1, .string (strOfNums tv)] 60)) 7).trans rfl), ((blk_cell (blk_alloc (set9_blk HLd.out nglg (.int .i64 a0_0) (.int .i64 a0_1) (.bool a0_2) (.bool a0_3) (.bool a0_4) (.int .i64 a0_5) (.string a0_6) (.bool a0_7) (.int .i64 a0_8)) (.cells #[.int .i64 11, .int .i64 a1, .int .i64 a2_1, .string (strOfNums tv)] 60)) 8).trans rfl), ((blk_cell (blk_alloc (set9_blk HPd.out ngpg (.int .i64 a0_0) (.int .i64 a0_1) (.bool a0_2) (.bool a0_3) (.bool a0_4) (.int .i64 a0_5) (.string a0_6) (.bool a0_7) (.int .i64 a0_8)) (.cells #[.int .i64 11, .int .i64 a1, .int .i64 a2_1, .string (strOfNums tv)] 60)) 1).trans rfl), ((blk_cell (blk_alloc (set9_blk HCd.out ngcg (.int .i64 a0_0) (.int .i64 a0_1) (.bool a0_2) (.bool a0_3) (.bool a0_4) (.int .i64 a0_5) (.string a0_6) (.bool a0_7) (.int .i64 a0_8)) (.cells #[.int .i64 11, .int .i64 a1, .int .i64 a2_1, .string (strOfNums tv)] 60)) 0).trans rfl), (own_string (P := Tryd.prog) (src := 22) (dst := 9) Tryd.underlying22 Tryd.underlying5 Tryd.underlying9 (Kd.own_of_R (Kd.R_alloc (set9_R HRd.out HZd.out hty5 (.int .i64 a0_0) (.int .i64 a0_1) (.bool a0_2) (.bool a0_3) (.bool a0_4) (.int .i64 a0_5) (.string a0_6) (.bool a0_7) (.int .i64 a0_8)) (.cells #[.int .i64 11, .int .i64 a1, .int .i64 a2_1, .string (strOfNums tv)] 60))))⟩ (fun hHeld => ?_)
   clear hK K
   refine norm_ (a' := ?_) ?_ ?_
   rotate_left
   ·show Act.put _ (some 93) _ = _
    simp only [Act.put, List.setIfInBounds_toArray, List.set_cons_zero, List.set_cons_succ, i64_w, i32_w]
    rfl
   exact norm_ (by simp only [putAll, Act.put, List.setIfInBounds_toArray, List.set_cons_zero, List.set_cons_succ]) (hCont (.slice (some ⟨wd.heap.size, 0, none⟩) 1 1) _ ⟨blk_alloc (set9_copy HZd.out HLd.out) (.cells #[.int .i64 11, .int .i64 a1, .int .i64 a2_1, .string (strOfNums tv)] 60), due_row (set9 wd g (.int .i64 a0_0) (.int .i64 a0_1) (.bool a0_2) (.bool a0_3) (.bool a0_4) (.int .i64 a0_5) (.string a0_6) (.bool a0_7) (.int .i64 a0_8)) w.heap.size wd.heap.size (set9_size _ _ _ _ _ _ _ _ _ _ _) (by rw [set9_size]; exact HSd.out) (⟨11, a1, a2_1, (strOfNums tv)⟩ : PAuthBase.S60), below_alloc (set9_copyB HBd.out GEg.out HLd.out) (.cells #[.int .i64 11, .int .i64 a1, .int .i64 a2_1, .string (strOfNums tv)] 60)⟩)
 rintro s_ wz ⟨hz1_, hz2_, hz3_⟩
 have HZ1 := Aside0.mk hz1_
 have HZ2 := Aside0.mk hz2_
 have HZ3 := Aside0.mk hz3_
 clear hz1_ hz2_ hz3_
 have hHeld := True.intro
 refine norm_ (a' := ?_) ?_ ?_
 rotate_left
 ·simp only [putAll, Act.put, List.setIfInBounds_toArray, List.set_cons_zero, List.set_cons_succ]
  rfl
 refine pure_ (i := 10) (N := some 7) (v := ?_) (a' := ?_) #[true, true, true, true, true, true, true, true, true, true, true] rfl rfl (by kernel_rfl) (fun _ _ _ h => h) (Or.inl ⟨by rfl, ?_⟩) ?_ ?_
 rotate_left
 ·intro w'
  go_simp
  with_reducible rfl
 rotate_left
 ·simp only [Act.put, List.setIfInBounds_toArray, List.set_cons_zero, List.set_cons_succ, i64_w, i32_w]
  rfl
 refine done_ (by kernel_rfl) ?_
 clear HL HP HZ HC HB HR HLd HPd HZd HCd HBd HRd HSd
 try go_wp2
 refine bodyPost_ret (results_ct rfl _ _ g 50 _ (0, 0) _ rfl HZ1.out Tryd.underlying50 rfl (by kernel_rfl)) rfl ?_
 exact ⟨_, rfl, HZ2.out, HZ3.out⟩
set_option maxRecDepth 100000 in
set_option maxHeartbeats 40000000 in
theorem hear_due10 (a0_0 a0_1 : Int) (a0_2 a0_3 : Bool) (a0_5 : Int) (a0_6 : ByteArray) (a0_7 : Bool) (a0_8 a1 a2_0 a2_1 : Int) (A : Option Addr) (c L : Nat) (tv : List Int) (sn : ByteArray) (er : Int) (ka ks mi b1 b2 c1 c2 c3 c4 o7 o9 t7 t9 i5 e0 n6 : Bool) (HMI : Aside0 ((a0_7 && (a2_1 == a0_8)) = mi)) (hb1 : (a1 == 49187) = b1) (hb2 : (a1 != 49699) = b2) (hc1 : (a2_0 == 1) = c1) (hc2 : (a2_0 == 2) = c2) (hc3 : (a2_0 == 3) = c3) (hc4 : (a2_0 == 4) = c4) (ho7 : (a0_0 == 49187) = o7) (ho9 : (a0_0 == 49699) = o9) (ht7 : (a0_1 == 49187) = t7) (ht9 : (a0_1 == 49699) = t9) (hi5 : (a2_1 == a0_5) = i5) (he0 : (er == 0) = e0) (hn6 : ((tv.length : Int) == 16) = n6)
  (H : (b1 = false ∧ b2 = false ∧ c1 = false ∧ c2 = true ∧ o9 = true ∧ i5 = true ∧ e0 = true ∧ n6 = true)) (w : World) (HRD : Aside0 (∀ W, Below w.heap.size w W → Calls Tryd.prog 20 #[.slice A L c] W fun e w' => ∃ v0_ : Value, e = .returned (.tuple #[.agg #[v0_, .string sn], .int .i64 er]) ∧ Kd.R (Kd.int .u8) 5 w' W.heap.size (fun _ => True) v0_ tv ∧ Below W.heap.size W w')) (HAS : Aside0 (∀ W, Below w.heap.size w W → Calls Tryd.prog 44 #[.agg #[.int .i64 a2_0, .int .i64 a2_1, .slice A L c]] W fun e w' => e = .returned (.bool ka) ∧ Below W.heap.size W w')) (HSA : Aside0 (∀ W, Below w.heap.size w W → Calls Tryd.prog 45 #[.agg #[.int .i64 a2_0, .int .i64 a2_1, .slice A L c]] W fun e w' => e = .returned (.bool ks) ∧ Below W.heap.size W w')) :
  Calls Tryd.prog 28 #[.agg #[.int .i64 a0_0, .int .i64 a0_1, .bool a0_2, .bool a0_3, .bool true, .int .i64 a0_5, .string a0_6, .bool a0_7, .int .i64 a0_8], .int .i64 a1, .agg #[.int .i64 a2_0, .int .i64 a2_1, .slice A L c]] w fun e w' => ∃ v0_ : Value, e = .returned (.tuple #[.agg #[.int .i64 a0_0, .int .i64 a0_1, .bool a0_2, .bool a0_3, .bool true, .int .i64 a0_5, .string a0_6, .bool a0_7, .int .i64 a0_8], v0_]) ∧ Kd.R PAuthBase.k60 60 w' w.heap.size (fun _ => True) v0_ [⟨10, a1, a2_1, strOfNums tv⟩] ∧ Below w.heap.size w w' := by
 have HB := Aside0.mk (Below.refl w.heap.size w)
 obtain ⟨rfl, rfl, rfl, rfl, rfl, rfl, rfl, rfl⟩ := H
 all_goals go_enter Tryd.func28, Tryd.ntmps28
 all_goals (go_upto_region 2 with (first | ((with_reducible refine gate_dst (N := 3) rfl ?_); refine' box_event ?hg (N := 3) ?hd (t := 50) ?hr ?_; (case hd => rfl); (case hg => rfl); (case hr => first | (go_simp; done) | (go_simp; rfl)); intro gl hgn w1 hbox hbn; have HB_ := Aside0.mk (below_step (show Below w.heap.size w w from HB.out) hbn); have GEgl := Aside0.mk (show w.heap.size ≤ gl from Nat.le_trans (below_size (show Below w.heap.size w w from HB.out)) (Nat.le_of_eq hgn.symm)); clear HB; have HB := HB_; clear HB_; have HL := Aside0.mk hbox; clear hbox hbn hgn; obtain ⟨l0, l1, l2, l3, l4, l5, l6, l7, l8, lf0, lf1, lf2, lf3, lf4, lf5, lf6, lf7, lf8⟩ := cells9 HL.out) | ((with_reducible refine gate_dst (N := 5) rfl ?_); refine' box_event ?hg (N := 5) ?hd (t := 52) ?hr ?_; (case hd => rfl); (case hg => rfl); (case hr => first | (go_simp; done) | (go_simp; rfl)); intro gp hgn w2 hbox hbn; have nglgp : gl ≠ gp := Nat.ne_of_lt (Nat.lt_of_lt_of_eq (blk_lt HL.out) hgn.symm); have ngpgl : gp ≠ gl := fun e_ => nglgp e_.symm; clear l0 lf0 l1 lf1 l2 lf2 l3 lf3 l4 lf4 l5 lf5 l6 lf6 l7 lf7 l8 lf8; have HL_ := Aside0.mk (blk_below HL.out hbn); clear HL; have HL := HL_; clear HL_; have HB_ := Aside0.mk (below_step (show Below w.heap.size w w1 from HB.out) hbn); have GEgp := Aside0.mk (show w.heap.size ≤ gp from Nat.le_trans (below_size (show Below w.heap.size w w1 from HB.out)) (Nat.le_of_eq hgn.symm)); clear HB; have HB := HB_; clear HB_; have HP := Aside0.mk hbox; clear hbox hbn hgn; obtain ⟨p0, p1, p2, pf0, pf1, pf2⟩ := cells3 HP.out; obtain ⟨l0, l1, l2, l3, l4, l5, l6, l7, l8, lf0, lf1, lf2, lf3, lf4, lf5, lf6, lf7, lf8⟩ := cells9 HL.out) | ((with_reducible refine gate_dst (N := 6) rfl ?_); refine' box_event ?hg (N := 6) ?hd (t := 50) ?hr ?_; (case hd => rfl); (case hg => rfl); (case hr => first | (go_simp; done) | (go_simp; rfl)); intro g hgn w3 hbox hbn; have nglg : gl ≠ g := Nat.ne_of_lt (Nat.lt_of_lt_of_eq (blk_lt HL.out) hgn.symm); have nggl : g ≠ gl := fun e_ => nglg e_.symm; have ngpg : gp ≠ g := Nat.ne_of_lt (Nat.lt_of_lt_of_eq (blk_lt HP.out) hgn.symm); have nggp : g ≠ gp := fun e_ => ngpg e_.symm; clear l0 lf0 l1 lf1 l2 lf2 l3 lf3 l4 lf4 l5 lf5 l6 lf6 l7 lf7 l8 lf8; clear p0 pf0 p1 pf1 p2 pf2; have HL_ := Aside0.mk (blk_below HL.out hbn); clear HL; have HL := HL_; clear HL_; have HP_ := Aside0.mk (blk_below HP.out hbn); clear HP; have HP := HP_; clear HP_; have HB_ := Aside0.mk (below_step (show Below w.heap.size w w2 from HB.out) hbn); have GEg := Aside0.mk (show w.heap.size ≤ g from Nat.le_trans (below_size (show Below w.heap.size w w2 from HB.out)) (Nat.le_of_eq hgn.symm)); clear HB; have HB := HB_; clear HB_; have HZ := Aside0.mk hbox; clear hbox hbn hgn; obtain ⟨z0, z1, z2, z3, z4, z5, z6, z7, z8, zf0, zf1, zf2, zf3, zf4, zf5, zf6, zf7, zf8⟩ := cells9 HZ.out; obtain ⟨l0, l1, l2, l3, l4, l5, l6, l7, l8, lf0, lf1, lf2, lf3, lf4, lf5, lf6, lf7, lf8⟩ := cells9 HL.out; obtain ⟨p0, p1, p2, pf0, pf1, pf2⟩ := cells3 HP.out) | (go_at_call 20; (with_reducible refine (HRD.out _ HB.out).mono ?_); have HB3 := HB; rintro e w4 ⟨v6, rfl, hR6, hbn⟩; clear l0 lf0 l1 lf1 l2 lf2 l3 lf3 l4 lf4 l5 lf5 l6 lf6 l7 lf7 l8 lf8; clear p0 pf0 p1 pf1 p2 pf2; clear z0 zf0 z1 zf1 z2 zf2 z3 zf3 z4 zf4 z5 zf5 z6 zf6 z7 zf7 z8 zf8; have HL_ := Aside0.mk (blk_below HL.out hbn); clear HL; have HL := HL_; clear HL_; have HP_ := Aside0.mk (blk_below HP.out hbn); clear HP; have HP := HP_; clear HP_; have HZ_ := Aside0.mk (blk_below HZ.out hbn); clear HZ; have HZ := HZ_; clear HZ_; have HB_ := Aside0.mk (below_step (show Below w.heap.size w w3 from HB.out) hbn); clear HB; have HB := HB_; clear HB_; obtain ⟨Ao, co, eo⟩ := Kd.R_slice hR6; subst eo; have HR := Aside0.mk (Kd.R_lower hR6 (below_size (show Below w.heap.size w w3 from HB3.out))); clear hR6; clear hbn; obtain ⟨l0, l1, l2, l3, l4, l5, l6, l7, l8, lf0, lf1, lf2, lf3, lf4, lf5, lf6, lf7, lf8⟩ := cells9 HL.out; obtain ⟨p0, p1, p2, pf0, pf1, pf2⟩ := cells3 HP.out; obtain ⟨z0, z1, z2, z3, z4, z5, z6, z7, z8, zf0, zf1, zf2, zf3, zf4, zf5, zf6, zf7, zf8⟩ := cells9 HZ.out) | ((with_reducible refine gate_dst (N := 8) rfl ?_); refine' box_event ?hg (N := 8) ?hd (t := 30) ?hr ?_; (case hd => rfl); (case hg => rfl); (case hr => first | (go_simp; done) | (go_simp; rfl)); intro gc hgn w5 hbox hbn; have nglgc : gl ≠ gc := Nat.ne_of_lt (Nat.lt_of_lt_of_eq (blk_lt HL.out) hgn.symm); have ngcgl : gc ≠ gl := fun e_ => nglgc e_.symm; have ngpgc : gp ≠ gc := Nat.ne_of_lt (Nat.lt_of_lt_of_eq (blk_lt HP.out) hgn.symm); have ngcgp : gc ≠ gp := fun e_ => ngpgc e_.symm; have nggc : g ≠ gc := Nat.ne_of_lt (Nat.lt_of_lt_of_eq (blk_lt HZ.out) hgn.symm); have ngcg : gc ≠ g := fun e_ => nggc e_.symm; clear l0 lf0 l1 lf1 l2 lf2 l3 lf3 l4 lf4 l5 lf5 l6 lf6 l7 lf7 l8 lf8; clear p0 pf0 p1 pf1 p2 pf2; clear z0 zf0 z1 zf1 z2 zf2 z3 zf3 z4 zf4 z5 zf5 z6 zf6 z7 zf7 z8 zf8; have HL_ := Aside0.mk (blk_below HL.out hbn); clear HL; have HL := HL_; clear HL_; have HP_ := Aside0.mk (blk_below HP.out hbn); clear HP; have HP := HP_; clear HP_; have HZ_ := Aside0.mk (blk_below HZ.out hbn); clear HZ; have HZ := HZ_; clear HZ_; have HB_ := Aside0.mk (below_step (show Below w.heap.size w w4 from HB.out) hbn); have GEgc := Aside0.mk (show w.heap.size ≤ gc from Nat.le_trans (below_size (show Below w.heap.size w w4 from HB.out)) (Nat.le_of_eq hgn.symm)); clear HB; have HB := HB_; clear HB_; have HC := Aside0.mk hbox; have HR_ := Aside0.mk (Kd.R_below HR.out hbn); clear HR; have HR := HR_; clear HR_; clear hbox hbn hgn; obtain ⟨q0, q1, qf0, qf1⟩ := cells2 HC.out; obtain ⟨l0, l1, l2, l3, l4, l5, l6, l7, l8, lf0, lf1, lf2, lf3, lf4, lf5, lf6, lf7, lf8⟩ := cells9 HL.out; obtain ⟨p0, p1, p2, pf0, pf1, pf2⟩ := cells3 HP.out; obtain ⟨z0, z1, z2, z3, z4, z5, z6, z7, z8, zf0, zf1, zf2, zf3, zf4, zf5, zf6, zf7, zf8⟩ := cells9 HZ.out)))
 all_goals (try simp only [Act.put, List.setIfInBounds_toArray, List.set_cons_zero, List.set_cons_succ])
 all_goals (
  generalize hw6 : ((w5.setCell ⟨gc, 0, none⟩ (.slice Ao tv.length co)).setCell ⟨gc, 1, none⟩ (.string sn)) = w6
  have y6_ := blk_far (p := ⟨gc, 1, none⟩) (blk_far (p := ⟨gc, 0, none⟩) HL.out nglgc (.slice Ao tv.length co)) nglgc (.string sn)
  rw [hw6] at y6_
  have HL6 := Aside0.mk y6_
  clear y6_
  have y6_ := blk_far (p := ⟨gc, 1, none⟩) (blk_far (p := ⟨gc, 0, none⟩) HP.out ngpgc (.slice Ao tv.length co)) ngpgc (.string sn)
  rw [hw6] at y6_
  have HP6 := Aside0.mk y6_
  clear y6_
  have y6_ := blk_far (p := ⟨gc, 1, none⟩) (blk_far (p := ⟨gc, 0, none⟩) HZ.out nggc (.slice Ao tv.length co)) nggc (.string sn)
  rw [hw6] at y6_
  have HZ6 := Aside0.mk y6_
  clear y6_
  have HC6 := Aside0.mk (show w6.heap[gc]? = some (.cells #[.slice Ao tv.length co, .string sn] 30 (0, 0)) by rw [← hw6]; exact blk_put (blk_put (cs' := #[.slice Ao tv.length co, .string (⟨#[]⟩ : ByteArray)]) HC.out 0 _ rfl) 1 _ rfl)
  have HB6 := Aside0.mk (show Below w.heap.size w w6 by rw [← hw6]; exact (HB.out.setCell (p := ⟨gc, 0, none⟩) GEgc.out _).setCell (p := ⟨gc, 1, none⟩) GEgc.out _)
  have hty : ∀ x, x ∈ (5 : TypeId) :: (Kd.int IntKind.u8).E → x ≠ 30 := fun x hx => by cases hx with | head => decide | tail _ h => cases h
  have HR6 := Aside0.mk (show Kd.R (Kd.int .u8) 5 w6 w.heap.size (fun _ => True) (.slice Ao tv.length co) tv by rw [← hw6]; exact Kd.R_set (Kd.R_set HR.out HC.out hty 0 _) (blk_set HC.out 0 _) hty 1 _)
  clear hw6 hty
  clear l0 lf0 l1 lf1 l2 lf2 l3 lf3 l4 lf4 l5 lf5 l6 lf6 l7 lf7 l8 lf8; clear p0 pf0 p1 pf1 p2 pf2; clear z0 zf0 z1 zf1 z2 zf2 z3 zf3 z4 zf4 z5 zf5 z6 zf6 z7 zf7 z8 zf8; clear q0 qf0 q1 qf1
  clear HL HP HZ HC HB HR
  have HL := HL6
  have HP := HP6
  have HZ := HZ6
  have HC := HC6
  have HB := HB6
  have HR := HR6
  clear HL6 HP6 HZ6 HC6 HB6 HR6
  obtain ⟨l0, l1, l2, l3, l4, l5, l6, l7, l8, lf0, lf1, lf2, lf3, lf4, lf5, lf6, lf7, lf8⟩ := cells9 HL.out
  obtain ⟨p0, p1, p2, pf0, pf1, pf2⟩ := cells3 HP.out
  obtain ⟨z0, z1, z2, z3, z4, z5, z6, z7, z8, zf0, zf1, zf2, zf3, zf4, zf5, zf6, zf7, zf8⟩ := cells9 HZ.out
  obtain ⟨q0, q1, qf0, qf1⟩ := cells2 HC.out
  go_cut [10] (fun v10 wc => Aside0 (v10 = .bool (a0_7 && (a2_1 == a0_8))) ∧ w6 = wc)
  case first =>
   cases a0_7 <;> (go_wp2_with fail; go_meet; case rel => exact ⟨⟨by first | rfl | simp⟩, rfl⟩)
  obtain ⟨h10_, rfl⟩ := hcut
  have h11_ := h10_.out
  rw [HMI.out] at h11_
  subst h11_
  clear h10_ HMI)
 (go_wp2_with (first | (go_at_call 44; (with_reducible refine (HAS.out _ HB.out).mono ?_); rintro e w7 ⟨rfl, hbn⟩; clear l0 lf0 l1 lf1 l2 lf2 l3 lf3 l4 lf4 l5 lf5 l6 lf6 l7 lf7 l8 lf8; clear p0 pf0 p1 pf1 p2 pf2; clear z0 zf0 z1 zf1 z2 zf2 z3 zf3 z4 zf4 z5 zf5 z6 zf6 z7 zf7 z8 zf8; clear q0 qf0 q1 qf1; have HL_ := Aside0.mk (blk_below HL.out hbn); clear HL; have HL := HL_; clear HL_; have HP_ := Aside0.mk (blk_below HP.out hbn); clear HP; have HP := HP_; clear HP_; have HZ_ := Aside0.mk (blk_below HZ.out hbn); clear HZ; have HZ := HZ_; clear HZ_; have HC_ := Aside0.mk (blk_below HC.out hbn); clear HC; have HC := HC_; clear HC_; have HB_ := Aside0.mk (below_step (show Below w.heap.size w w6 from HB.out) hbn); clear HB; have HB := HB_; clear HB_; have HR_ := Aside0.mk (Kd.R_below HR.out hbn); clear HR; have HR := HR_; clear HR_; clear hbn; obtain ⟨l0, l1, l2, l3, l4, l5, l6, l7, l8, lf0, lf1, lf2, lf3, lf4, lf5, lf6, lf7, lf8⟩ := cells9 HL.out; obtain ⟨p0, p1, p2, pf0, pf1, pf2⟩ := cells3 HP.out; obtain ⟨z0, z1, z2, z3, z4, z5, z6, z7, z8, zf0, zf1, zf2, zf3, zf4, zf5, zf6, zf7, zf8⟩ := cells9 HZ.out; obtain ⟨q0, q1, qf0, qf1⟩ := cells2 HC.out) | (go_at_call 45; (with_reducible refine (HSA.out _ HB.out).mono ?_); rintro e w8 ⟨rfl, hbn⟩; clear l0 lf0 l1 lf1 l2 lf2 l3 lf3 l4 lf4 l5 lf5 l6 lf6 l7 lf7 l8 lf8; clear p0 pf0 p1 pf1 p2 pf2; clear z0 zf0 z1 zf1 z2 zf2 z3 zf3 z4 zf4 z5 zf5 z6 zf6 z7 zf7 z8 zf8; clear q0 qf0 q1 qf1; have HL_ := Aside0.mk (blk_below HL.out hbn); clear HL; have HL := HL_; clear HL_; have HP_ := Aside0.mk (blk_below HP.out hbn); clear HP; have HP := HP_; clear HP_; have HZ_ := Aside0.mk (blk_below HZ.out hbn); clear HZ; have HZ := HZ_; clear HZ_; have HC_ := Aside0.mk (blk_below HC.out hbn); clear HC; have HC := HC_; clear HC_; have HB_ := Aside0.mk (below_step (show Below w.heap.size w _ from HB.out) hbn); clear HB; have HB := HB_; clear HB_; have HR_ := Aside0.mk (Kd.R_below HR.out hbn); clear HR; have HR := HR_; clear HR_; clear hbn; obtain ⟨l0, l1, l2, l3, l4, l5, l6, l7, l8, lf0, lf1, lf2, lf3, lf4, lf5, lf6, lf7, lf8⟩ := cells9 HL.out; obtain ⟨p0, p1, p2, pf0, pf1, pf2⟩ := cells3 HP.out; obtain ⟨z0, z1, z2, z3, z4, z5, z6, z7, z8, zf0, zf1, zf2, zf3, zf4, zf5, zf6, zf7, zf8⟩ := cells9 HZ.out; obtain ⟨q0, q1, qf0, qf1⟩ := cells2 HC.out)))
 have hty5 : ∀ x, x ∈ (5 : TypeId) :: (Kd.int IntKind.u8).E → x ≠ 50 := fun x hx => by cases hx with | head => decide | tail _ h => cases h
 have hty60 : ∀ x, x ∈ (60 : TypeId) :: PAuthBase.k60.E → x ≠ 50 := fun x hx => by cases hx with | head => decide | tail _ h => cases h
 have HLd := Aside0.mk (blk_drew HL.out)
 have HPd := Aside0.mk (blk_drew HP.out)
 have HZd := Aside0.mk (blk_drew HZ.out)
 have HCd := Aside0.mk (blk_drew HC.out)
 have HBd := Aside0.mk (below_drew1 HB.out)
 have HRd := Aside0.mk (Kd.R_drew HR.out)
 have HSd := Aside0.mk (below_size HBd.out)
 refine start_ (n := 11) (S := fun w' => w'.cell? ⟨gl, 0, none⟩ = some (.int .i64 a0_0) ∧ w'.cell? ⟨gl, 1, none⟩ = some (.int .i64 a0_1) ∧ w'.cell? ⟨gl, 2, none⟩ = some (.bool a0_2) ∧ w'.cell? ⟨gl, 3, none⟩ = some (.bool a0_3) ∧ w'.cell? ⟨gl, 4, none⟩ = some (.bool true) ∧ w'.cell? ⟨gl, 5, none⟩ = some (.int .i64 a0_5) ∧ w'.cell? ⟨gl, 6, none⟩ = some (.string a0_6) ∧ w'.cell? ⟨gl, 7, none⟩ = some (.bool a0_7) ∧ w'.cell? ⟨gl, 8, none⟩ = some (.int .i64 a0_8) ∧ w'.cell? ⟨gp, 1, none⟩ = some (.int .i64 a2_1) ∧ w'.cell? ⟨gc, 0, none⟩ = some (.slice Ao tv.length co) ∧ (convert 22 9 (.slice Ao tv.length co)).run Tryd.prog w' = .ok (.string (strOfNums tv)) w') (ds := []) #[false, false, false, false, false, false, false, false, false, false, false] (by kernel_rfl) rfl rfl ⟨l0, l1, l2, l3, l4, l5, l6, l7, l8, p1, q0, (own_string (P := Tryd.prog) (src := 22) (dst := 9) Tryd.underlying22 Tryd.underlying5 Tryd.underlying9 (Kd.own_of_R (Kd.R_drew HR.out)))⟩ (fun hHeld => ?_)
 generalize w6.drew = wd at HLd HPd HZd HCd HBd HRd HSd hHeld ⊢
 refine pure_ (i := 1) (N := some 124) (v := ?_) (a' := ?_) #[false, true, false, false, false, false, false, false, false, false, false] rfl rfl (by kernel_rfl) (fun _ _ _ h => h) (Or.inl ⟨by rfl, ?_⟩) ?_ ?_
 rotate_left
 ·intro w'
  go_simp
  with_reducible rfl
 rotate_left
 ·simp only [Act.put, List.setIfInBounds_toArray, List.set_cons_zero, List.set_cons_succ, i64_w, i32_w]
  rfl
 refine pure_ (i := 2) (N := some 125) (v := ?_) (a' := ?_) #[false, true, true, false, false, false, false, false, false, false, false] rfl rfl (by kernel_rfl) (fun _ _ _ h => h) (Or.inl ⟨by rfl, ?_⟩) ?_ ?_
 rotate_left
 ·intro w'
  go_simp
  with_reducible rfl
 rotate_left
 ·simp only [Act.put, List.setIfInBounds_toArray, List.set_cons_zero, List.set_cons_succ, i64_w, i32_w]
  rfl
 refine pure_ (i := 4) (N := some 127) (v := ?_) (a' := ?_) #[false, true, true, false, true, false, false, false, false, false, false] rfl rfl (by kernel_rfl) (fun _ _ _ h => h) (Or.inl ⟨by rfl, ?_⟩) ?_ ?_
 rotate_left
 ·intro w'
  go_simp
  with_reducible rfl
 rotate_left
 ·simp only [Act.put, List.setIfInBounds_toArray, List.set_cons_zero, List.set_cons_succ, i64_w, i32_w]
  rfl
 refine take_ (i := 0) (N := some 123) (v := ?_) (a' := ?_) #[true, true, true, false, true, false, false, false, false, false, false] rfl rfl (by kernel_rfl) (fun _ _ _ h => h) (Or.inl ⟨by rfl, ?_⟩) hHeld ?_ ?_
 rotate_left
 ·rintro w' ⟨s0, s1, s2, s3, s4, s5, s6, s7, s8, s9, s10, s11⟩
  go_simp
  with_reducible rfl
 rotate_left
 ·simp only [Act.put, List.setIfInBounds_toArray, List.set_cons_zero, List.set_cons_succ, i64_w, i32_w]
  rfl
 refine take_ (i := 3) (N := some 126) (v := ?_) (a' := ?_) #[true, true, true, true, true, false, false, false, false, false, false] rfl rfl (by kernel_rfl) (fun _ _ _ h => h) (Or.inl ⟨by rfl, ?_⟩) hHeld ?_ ?_
 rotate_left
 ·rintro w' ⟨s0, s1, s2, s3, s4, s5, s6, s7, s8, s9, s10, s11⟩
  go_simp
  with_reducible rfl
 rotate_left
 ·simp only [Act.put, List.setIfInBounds_toArray, List.set_cons_zero, List.set_cons_succ, i64_w, i32_w]
  rfl
 refine take_ (i := 5) (N := some 128) (v := ?_) (a' := ?_) #[true, true, true, true, true, true, false, false, false, false, false] rfl rfl (by kernel_rfl) (fun _ _ _ h => h) (Or.inl ⟨by rfl, ?_⟩) hHeld ?_ ?_
 rotate_left
 ·rintro w' ⟨s0, s1, s2, s3, s4, s5, s6, s7, s8, s9, s10, s11⟩
  go_simp
  with_reducible rfl
 rotate_left
 ·simp only [Act.put, List.setIfInBounds_toArray, List.set_cons_zero, List.set_cons_succ, i64_w, i32_w]
  rfl
 refine take_ (i := 6) (N := some 129) (v := ?_) (a' := ?_) #[true, true, true, true, true, true, true, false, false, false, false] rfl rfl (by kernel_rfl) (fun _ _ _ h => h) (Or.inl ⟨by rfl, ?_⟩) hHeld ?_ ?_
 rotate_left
 ·rintro w' ⟨s0, s1, s2, s3, s4, s5, s6, s7, s8, s9, s10, s11⟩
  go_simp
  with_reducible rfl
 rotate_left
 ·simp only [Act.put, List.setIfInBounds_toArray, List.set_cons_zero, List.set_cons_succ, i64_w, i32_w]
  rfl
 refine pure_ (i := 7) (N := some 130) (v := ?_) (a' := ?_) #[true, true, true, true, true, true, true, true, false, false, false] rfl rfl (by kernel_rfl) (fun _ _ _ h => h) (Or.inl ⟨by rfl, ?_⟩) ?_ ?_
 rotate_left
 ·intro w'
  go_simp
  with_reducible rfl
 rotate_left
 ·simp only [Act.put, List.setIfInBounds_toArray, List.set_cons_zero, List.set_cons_succ, i64_w, i32_w]
  rfl
 refine join_ (σ := Value) 1 #[true, true, true, true, true, true, true, true, true, true, false] (fun s_ => [(131, s_)]) (fun s_ w' => w'.heap[g]? = some (.cells #[.int .i64 a0_0, .int .i64 a0_1, .bool a0_2, .bool a0_3, .bool true, .int .i64 a0_5, .string a0_6, .bool a0_7, .int .i64 a0_8] 50 (0, 0)) ∧ Kd.R PAuthBase.k60 60 w' w.heap.size (fun _ => True) s_ [(⟨10, a1, a2_1, (strOfNums tv)⟩ : PAuthBase.S60)] ∧ Below w.heap.size w w') ?_ ?_
 rotate_left
 ·intro hCont
  refine two_ (i := 8) (j := 9) (Ni := some 131) (Nj := none) #[true, true, true, true, true, true, true, true, true, false, false] #[true, true, true, true, true, true, true, true, false, true, false] rfl rfl rfl rfl (by kernel_rfl) (by decide) (by decide) (fun K hK => ?_) (fun K hK => ?_)
  ·skip
   refine value_ (w1 := ?_) (v := ?_) (by rfl) rfl ?_ ?_
   rotate_left 2
   ·go_simp
    constructor
    ·rfl
    ·rfl
   refine hK.out _ _ ⟨((blk_cell (blk_alloc HLd.out (.cells #[.int .i64 10, .int .i64 a1, .int .i64 a2_1, .string (strOfNums tv)] 60)) 0).trans rfl), ((blk_cell (blk_alloc HLd.out (.cells #[.int .i64 10, .int .i64 a1, .int .i64 a2_1, .string (strOfNums tv)] 60)) 1).trans rfl), ((blk_cell (blk_alloc HLd.out (.cells #[.int .i64 10, .int .i64 a1, .int .i64 a2_1, .string (strOfNums tv)] 60)) 2).trans rfl), ((blk_cell (blk_alloc HLd.out (.cells #[.int .i64 10, .int .i64 a1, .int .i64 a2_1, .string (strOfNums tv)] 60)) 3).trans rfl), ((blk_cell (blk_alloc HLd.out (.cells #[.int .i64 10, .int .i64 a1, .int .i64 a2_1, .string (strOfNums tv)] 60)) 4).trans rfl), ((blk_cell (blk_alloc HLd.out (.cells #[.int .i64 10, .int .i64 a1, .int .i64 a2_1, .string (strOfNums tv)] 60)) 5).trans rfl), ((blk_cell (blk_alloc HLd.out (.cells #[.int .i64 10, .int .i64 a1, .int .i64 a2_1, .string (strOfNums tv)] 60)) 6).trans rfl), ((blk_cell (blk_alloc HLd.out (.cells #[.int .i64 10, .int .i64 a1, .int .i64 a2_1, .string (strOfNums tv)] 60)) 7).trans rfl), ((blk_cell (blk_alloc HLd.out (.cells #[.int .i64 10, .int .i64 a1, .int .i64 a2_1, .string (strOfNums tv)] 60)) 8).trans rfl), ((blk_cell (blk_alloc HPd.out (.cells #[.int .i64 10, .int .i64 a1, .int .i64 a2_1, .string (strOfNums tv)] 60)) 1).trans rfl), ((blk_cell (blk_alloc HCd.out (.cells #[.int .i64 10, .int .i64 a1, .int .i64 a2_1, .string (strOfNums tv)] 60)) 0).trans rfl), (own_string (P := Tryd.prog) (src := 22) (dst := 9) Tryd.underlying22 Tryd.underlying5 Tryd.underlying9 (Kd.own_of_R (Kd.R_alloc HRd.out (.cells #[.int .i64 10, .int .i64 a1, .int .i64 a2_1, .string (strOfNums tv)] 60))))⟩ (fun hHeld => ?_)
   clear hK K
   refine norm_ (a' := ?_) ?_ ?_
   rotate_left
   ·show Act.put _ (some 131) _ = _
    simp only [Act.put, List.setIfInBounds_toArray, List.set_cons_zero, List.set_cons_succ, i64_w, i32_w]
    rfl
   refine one_ (i := 9) (N := none) #[true, true, true, true, true, true, true, true, true, true, false] rfl rfl (by kernel_rfl) (by decide) (fun K hK => ?_)
   obtain ⟨y0_, y1_, y2_, y3_, y4_, y5_, y6_, y7_, y8_, yf0_, yf1_, yf2_, yf3_, yf4_, yf5_, yf6_, yf7_, yf8_⟩ := cells9 (blk_alloc HZd.out (.cells #[.int .i64 10, .int .i64 a1, .int .i64 a2_1, .string (strOfNums tv)] 60))
   refine skip_ (w1 := ?_) (by rfl) rfl ?_ ?_
   rotate_left
   ·go_simp
    rfl
   refine hK.out _ _ ⟨((blk_cell (set9_blk (blk_alloc HLd.out (.cells #[.int .i64 10, .int .i64 a1, .int .i64 a2_1, .string (strOfNums tv)] 60)) nglg (.int .i64 a0_0) (.int .i64 a0_1) (.bool a0_2) (.bool a0_3) (.bool true) (.int .i64 a0_5) (.string a0_6) (.bool a0_7) (.int .i64 a0_8)) 0).trans rfl), ((blk_cell (set9_blk (blk_alloc HLd.out (.cells #[.int .i64 10, .int .i64 a1, .int .i64 a2_1, .string (strOfNums tv)] 60)) nglg (.int .i64 a0_0) (.int .i64 a0_1) (.bool a0_2) (.bool a0_3) (.bool true) (.int .i64 a0_5) (.string a0_6) (.bool a0_7) (.int .i64 a0_8)) 1).trans rfl), ((blk_cell (set9_blk (blk_alloc HLd.out (.cells #[.int .i64 10, .int .i64 a1, .int .i64 a2_1, .string (strOfNums tv)] 60)) nglg (.int .i64 a0_0) (.int .i64 a0_1) (.bool a0_2) (.bool a0_3) (.bool true) (.int .i64 a0_5) (.string a0_6) (.bool a0_7) (.int .i64 a0_8)) 2).trans rfl), ((blk_cell (set9_blk (blk_alloc HLd.out (.cells #[.int .i64 10, .int .i64 a1, .int .i64 a2_1, .string (strOfNums tv)] 60)) nglg (.int .i64 a0_0) (.int .i64 a0_1) (.bool a0_2) (.bool a0_3) (.bool true) (.int .i64 a0_5) (.string a0_6) (.bool a0_7) (.int .i64 a0_8)) 3).trans rfl), ((blk_cell (set9_blk (blk_alloc HLd.out (.cells #[.int .i64 10, .int .i64 a1, .int .i64 a2_1, .string (strOfNums tv)] 60)) nglg (.int .i64 a0_0) (.int .i64 a0_1) (.bool a0_2) (.bool a0_3) (.bool true) (.int .i64 a0_5) (.string a0_6) (.bool a0_7) (.int .i64 a0_8)) 4).trans rfl), ((blk_cell (set9_blk (blk_alloc HLd.out (.cells #[.int .i64 10, .int .i64 a1, .int .i64 a2_1, .string (strOfNums tv)] 60)) nglg (.int .i64 a0_0) (.int .i64 a0_1) (.bool a0_2) (.bool a0_3) (.bool true) (.int .i64 a0_5) (.string a0_6) (.bool a0_7) (.int .i64 a0_8)) 5).trans rfl), ((blk_cell (set9_blk (blk_alloc HLd.out (.cells #[.int .i64 10, .int .i64 a1, .int .i64 a2_1, .string (strOfNums tv)] 60)) nglg (.int .i64 a0_0) (.int .i64 a0_1) (.bool a0_2) (.bool a0_3) (.bool true) (.int .i64 a0_5) (.string a0_6) (.bool a0_7) (.int .i64 a0_8)) 6).trans rfl), ((blk_cell (set9_blk (blk_alloc HLd.out (.cells #[.int .i64 10, .int .i64 a1, .int .i64 a2_1, .string (strOfNums tv)] 60)) nglg (.int .i64 a0_0) (.int .i64 a0_1) (.bool a0_2) (.bool a0_3) (.bool true) (.int .i64 a0_5) (.string a0_6) (.bool a0_7) (.int .i64 a0_8)) 7).trans rfl), ((blk_cell (set9_blk (blk_alloc HLd.out (.cells #[.int .i64 10, .int .i64 a1, .int .i64 a2_1, .string (strOfNums tv)] 60)) nglg (.int .i64 a0_0) (.int .i64 a0_1) (.bool a0_2) (.bool a0_3) (.bool true) (.int .i64 a0_5) (.string a0_6) (.bool a0_7) (.int .i64 a0_8)) 8).trans rfl), ((blk_cell (set9_blk (blk_alloc HPd.out (.cells #[.int .i64 10, .int .i64 a1, .int .i64 a2_1, .string (strOfNums tv)] 60)) ngpg (.int .i64 a0_0) (.int .i64 a0_1) (.bool a0_2) (.bool a0_3) (.bool true) (.int .i64 a0_5) (.string a0_6) (.bool a0_7) (.int .i64 a0_8)) 1).trans rfl), ((blk_cell (set9_blk (blk_alloc HCd.out (.cells #[.int .i64 10, .int .i64 a1, .int .i64 a2_1, .string (strOfNums tv)] 60)) ngcg (.int .i64 a0_0) (.int .i64 a0_1) (.bool a0_2) (.bool a0_3) (.bool true) (.int .i64 a0_5) (.string a0_6) (.bool a0_7) (.int .i64 a0_8)) 0).trans rfl), (own_string (P := Tryd.prog) (src := 22) (dst := 9) Tryd.underlying22 Tryd.underlying5 Tryd.underlying9 (Kd.own_of_R (set9_R (Kd.R_alloc HRd.out (.cells #[.int .i64 10, .int .i64 a1, .int .i64 a2_1, .string (strOfNums tv)] 60)) (blk_alloc HZd.out (.cells #[.int .i64 10, .int .i64 a1, .int .i64 a2_1, .string (strOfNums tv)] 60)) hty5 (.int .i64 a0_0) (.int .i64 a0_1) (.bool a0_2) (.bool a0_3) (.bool true) (.int .i64 a0_5) (.string a0_6) (.bool a0_7) (.int .i64 a0_8))))⟩ (fun hHeld => ?_)
   clear hK K
   exact norm_ (by simp only [putAll, Act.put, List.setIfInBounds_toArray, List.set_cons_zero, List.set_cons_succ]) (hCont (.slice (some ⟨wd.heap.size, 0, none⟩) 1 1) _ ⟨set9_copy (blk_alloc HZd.out (.cells #[.int .i64 10, .int .i64 a1, .int .i64 a2_1, .string (strOfNums tv)] 60)) (blk_alloc HLd.out (.cells #[.int .i64 10, .int .i64 a1, .int .i64 a2_1, .string (strOfNums tv)] 60)), set9_R (due_row wd w.heap.size wd.heap.size rfl HSd.out (⟨10, a1, a2_1, (strOfNums tv)⟩ : PAuthBase.S60)) (blk_alloc HZd.out (.cells #[.int .i64 10, .int .i64 a1, .int .i64 a2_1, .string (strOfNums tv)] 60)) hty60 (.int .i64 a0_0) (.int .i64 a0_1) (.bool a0_2) (.bool a0_3) (.bool true) (.int .i64 a0_5) (.string a0_6) (.bool a0_7) (.int .i64 a0_8), set9_copyB (below_alloc HBd.out (.cells #[.int .i64 10, .int .i64 a1, .int .i64 a2_1, .string (strOfNums tv)] 60)) GEg.out (blk_alloc HLd.out (.cells #[.int .i64 10, .int .i64 a1, .int .i64 a2_1, .string (strOfNums tv)] 60))⟩)
  ·skip
   obtain ⟨y0_, y1_, y2_, y3_, y4_, y5_, y6_, y7_, y8_, yf0_, yf1_, yf2_, yf3_, yf4_, yf5_, yf6_, yf7_, yf8_⟩ := cells9 HZd.out
   refine skip_ (w1 := ?_) (by rfl) rfl ?_ ?_
   rotate_left
   ·go_simp
    rfl
   refine hK.out _ _ ⟨((blk_cell (set9_blk HLd.out nglg (.int .i64 a0_0) (.int .i64 a0_1) (.bool a0_2) (.bool a0_3) (.bool true) (.int .i64 a0_5) (.string a0_6) (.bool a0_7) (.int .i64 a0_8)) 0).trans rfl), ((blk_cell (set9_blk HLd.out nglg (.int .i64 a0_0) (.int .i64 a0_1) (.bool a0_2) (.bool a0_3) (.bool true) (.int .i64 a0_5) (.string a0_6) (.bool a0_7) (.int .i64 a0_8)) 1).trans rfl), ((blk_cell (set9_blk HLd.out nglg (.int .i64 a0_0) (.int .i64 a0_1) (.bool a0_2) (.bool a0_3) (.bool true) (.int .i64 a0_5) (.string a0_6) (.bool a0_7) (.int .i64 a0_8)) 2).trans rfl), ((blk_cell (set9_blk HLd.out nglg (.int .i64 a0_0) (.int .i64 a0_1) (.bool a0_2) (.bool a0_3) (.bool true) (.int .i64 a0_5) (.string a0_6) (.bool a0_7) (.int .i64 a0_8)) 3).trans rfl), ((blk_cell (set9_blk HLd.out nglg (.int .i64 a0_0) (.int .i64 a0_1) (.bool a0_2) (.bool a0_3) (.bool true) (.int .i64 a0_5) (.string a0_6) (.bool a0_7) (.int .i64 a0_8)) 4).trans rfl), ((blk_cell (set9_blk HLd.out nglg (.int .i64 a0_0) (.int .i64 a0_1) (.bool a0_2) (.bool a0_3) (.bool true) (.int .i64 a0_5) (.string a0_6) (.bool a0_7) (.int .i64 a0_8)) 5).trans rfl), ((blk_cell (set9_blk HLd.out nglg (.int .i64 a0_0) (.int .i64 a0_1) (.bool a0_2) (.bool a0_3) (.bool true) (.int .i64 a0_5) (.string a0_6) (.bool a0_7) (.int .i64 a0_8)) 6).trans rfl), ((blk_cell (set9_blk HLd.out nglg (.int .i64 a0_0) (.int .i64 a0_1) (.bool a0_2) (.bool a0_3) (.bool true) (.int .i64 a0_5) (.string a0_6) (.bool a0_7) (.int .i64 a0_8)) 7).trans rfl), ((blk_cell (set9_blk HLd.out nglg (.int .i64 a0_0) (.int .i64 a0_1) (.bool a0_2) (.bool a0_3) (.bool true) (.int .i64 a0_5) (.string a0_6) (.bool a0_7) (.int .i64 a0_8)) 8).trans rfl), ((blk_cell (set9_blk HPd.out ngpg (.int .i64 a0_0) (.int .i64 a0_1) (.bool a0_2) (.bool a0_3) (.bool true) (.int .i64 a0_5) (.string a0_6) (.bool a0_7) (.int .i64 a0_8)) 1).trans rfl), ((blk_cell (set9_blk HCd.out ngcg (.int .i64 a0_0) (.int .i64 a0_1) (.bool a0_2) (.bool a0_3) (.bool true) (.int .i64 a0_5) (.string a0_6) (.bool a0_7) (.int .i64 a0_8)) 0).trans rfl), (own_string (P := Tryd.prog) (src := 22) (dst := 9) Tryd.underlying22 Tryd.underlying5 Tryd.underlying9 (Kd.own_of_R (set9_R HRd.out HZd.out hty5 (.int .i64 a0_0) (.int .i64 a0_1) (.bool a0_2) (.bool a0_3) (.bool true) (.int .i64 a0_5) (.string a0_6) (.bool a0_7) (.int .i64 a0_8))))⟩ (fun hHeld => ?_)
   clear hK K
   refine one_ (i := 8) (N := some 131) #[true, true, true, true, true, true, true, true, true, true, false] rfl rfl (by kernel_rfl) (by decide) (fun K hK => ?_)
   refine value_ (w1 := ?_) (v := ?_) (by rfl) rfl ?_ ?_
   rotate_left 2
   ·go_simp
    constructor
    ·rfl
    ·rfl
   refine hK.out _ _ ⟨((blk_cell (blk_alloc (set9_blk HLd.out nglg (.int .i64 a0_0) (.int .i64 a0_1) (.bool a0_2) (.bool a0_3) (.bool true) (.int .i64 a0_5) (.string a0_6) (.bool a0_7) (.int .i64 a0_8)) (.cells #[.int .i64 10, .int .i64 a1, .int .i64 a2_1, .string (strOfNums tv)] 60)) 0).trans rfl), ((blk_cell (blk_alloc (set9_blk HLd.out nglg (.int .i64 a0_0) (.int .i64 a0_1) (.bool a0_2) (.bool a0_3) (.bool true) (.int .i64 a0_5) (.string a0_6) (.bool a0_7) (.int .i64 a0_8)) (.cells #[.int .i64 10, .int .i64 a1, .int .i64 a2_1, .string (strOfNums tv)] 60)) 1).trans rfl), ((blk_cell (blk_alloc (set9_blk HLd.out nglg (.int .i64 a0_0) (.int .i64 a0_1) (.bool a0_2) (.bool a0_3) (.bool true) (.int .i64 a0_5) (.string a0_6) (.bool a0_7) (.int .i64 a0_8)) (.cells #[.int .i64 10, .int .i64 a1, .int .i64 a2_1, .string (strOfNums tv)] 60)) 2).trans rfl), ((blk_cell (blk_alloc (set9_blk HLd.out nglg (.int .i64 a0_0) (.int .i64 a0_1) (.bool a0_2) (.bool a0_3) (.bool true) (.int .i64 a0_5) (.string a0_6) (.bool a0_7) (.int .i64 a0_8)) (.cells #[.int .i64 10, .int .i64 a1, .int .i64 a2_1, .string (strOfNums tv)] 60)) 3).trans rfl), ((blk_cell (blk_alloc (set9_blk HLd.out nglg (.int .i64 a0_0) (.int .i64 a0_1) (.bool a0_2) (.bool a0_3) (.bool true) (.int .i64 a0_5) (.string a0_6) (.bool a0_7) (.int .i64 a0_8)) (.cells #[.int .i64 10, .int .i64 a1, .int .i64 a2_1, .string (strOfNums tv)] 60)) 4).trans rfl), ((blk_cell (blk_alloc (set9_blk HLd.out nglg (.int .i64 a0_0) (.int .i64 a0_1) (.bool a0_2) (.bool a0_3) (.bool true) (.int .i64 a0_5) (.string a0_6) (.bool a0_7) (.int .i64 a0_8)) (.cells #[.int .i64 10, .int .i64 a1, .int .i64 a2_1, .string (strOfNums tv)] 60)) 5).trans rfl), ((blk_cell (blk_alloc (set9_blk HLd.out nglg (.int .i64 a0_0) (.int .i64 a0_1) (.bool a0_2) (.bool a0_3) (.bool true) (.int .i64 a0_5) (.string a0_6) (.bool a0_7) (.int .i64 a0_8)) (.cells #[.int .i64 10, .int .i64 a1, .int .i64 a2_1, .string (strOfNums tv)] 60)) 6).trans rfl), ((blk_cell (blk_alloc (set9_blk HLd.out nglg (.int .i64 a0_0) (.int .i64 a0_1) (.bool a0_2) (.bool a0_3) (.bool true) (.int .i64 a0_5) (.string a0_6) (.bool a0_7) (.int .i64 a0_8)) (.cells #[.int .i64 10, .int .i64 a1, .int .i64 a2_1, .string (strOfNums tv)] 60)) 7).trans rfl), ((blk_cell (blk_alloc (set9_blk HLd.out nglg (.int .i64 a0_0) (.int .i64 a0_1) (.bool a0_2) (.bool a0_3) (.bool true) (.int .i64 a0_5) (.string a0_6) (.bool a0_7) (.int .i64 a0_8)) (.cells #[.int .i64 10, .int .i64 a1, .int .i64 a2_1, .string (strOfNums tv)] 60)) 8).trans rfl), ((blk_cell (blk_alloc (set9_blk HPd.out ngpg (.int .i64 a0_0) (.int .i64 a0_1) (.bool a0_2) (.bool a0_3) (.bool true) (.int .i64 a0_5) (.string a0_6) (.bool a0_7) (.int .i64 a0_8)) (.cells #[.int .i64 10, .int .i64 a1, .int .i64 a2_1, .string (strOfNums tv)] 60)) 1).trans rfl), ((blk_cell (blk_alloc (set9_blk HCd.out ngcg (.int .i64 a0_0) (.int .i64 a0_1) (.bool a0_2) (.bool a0_3) (.bool true) (.int .i64 a0_5) (.string a0_6) (.bool a0_7) (.int .i64 a0_8)) (.cells #[.int .i64 10, .int .i64 a1, .int .i64 a2_1, .string (strOfNums tv)] 60)) 0).trans rfl), (own_string (P := Tryd.prog) (src := 22) (dst := 9) Tryd.underlying22 Tryd.underlying5 Tryd.underlying9 (Kd.own_of_R (Kd.R_alloc (set9_R HRd.out HZd.out hty5 (.int .i64 a0_0) (.int .i64 a0_1) (.bool a0_2) (.bool a0_3) (.bool true) (.int .i64 a0_5) (.string a0_6) (.bool a0_7) (.int .i64 a0_8)) (.cells #[.int .i64 10, .int .i64 a1, .int .i64 a2_1, .string (strOfNums tv)] 60))))⟩ (fun hHeld => ?_)
   clear hK K
   refine norm_ (a' := ?_) ?_ ?_
   rotate_left
   ·show Act.put _ (some 131) _ = _
    simp only [Act.put, List.setIfInBounds_toArray, List.set_cons_zero, List.set_cons_succ, i64_w, i32_w]
    rfl
   exact norm_ (by simp only [putAll, Act.put, List.setIfInBounds_toArray, List.set_cons_zero, List.set_cons_succ]) (hCont (.slice (some ⟨wd.heap.size, 0, none⟩) 1 1) _ ⟨blk_alloc (set9_copy HZd.out HLd.out) (.cells #[.int .i64 10, .int .i64 a1, .int .i64 a2_1, .string (strOfNums tv)] 60), due_row (set9 wd g (.int .i64 a0_0) (.int .i64 a0_1) (.bool a0_2) (.bool a0_3) (.bool true) (.int .i64 a0_5) (.string a0_6) (.bool a0_7) (.int .i64 a0_8)) w.heap.size wd.heap.size (set9_size _ _ _ _ _ _ _ _ _ _ _) (by rw [set9_size]; exact HSd.out) (⟨10, a1, a2_1, (strOfNums tv)⟩ : PAuthBase.S60), below_alloc (set9_copyB HBd.out GEg.out HLd.out) (.cells #[.int .i64 10, .int .i64 a1, .int .i64 a2_1, .string (strOfNums tv)] 60)⟩)
 rintro s_ wz ⟨hz1_, hz2_, hz3_⟩
 have HZ1 := Aside0.mk hz1_
 have HZ2 := Aside0.mk hz2_
 have HZ3 := Aside0.mk hz3_
 clear hz1_ hz2_ hz3_
 have hHeld := True.intro
 refine norm_ (a' := ?_) ?_ ?_
 rotate_left
 ·simp only [putAll, Act.put, List.setIfInBounds_toArray, List.set_cons_zero, List.set_cons_succ]
  rfl
 refine pure_ (i := 10) (N := some 7) (v := ?_) (a' := ?_) #[true, true, true, true, true, true, true, true, true, true, true] rfl rfl (by kernel_rfl) (fun _ _ _ h => h) (Or.inl ⟨by rfl, ?_⟩) ?_ ?_
 rotate_left
 ·intro w'
  go_simp
  with_reducible rfl
 rotate_left
 ·simp only [Act.put, List.setIfInBounds_toArray, List.set_cons_zero, List.set_cons_succ, i64_w, i32_w]
  rfl
 refine done_ (by kernel_rfl) ?_
 clear HL HP HZ HC HB HR HLd HPd HZd HCd HBd HRd HSd
 try go_wp2
 refine bodyPost_ret (results_ct rfl _ _ g 50 _ (0, 0) _ rfl HZ1.out Tryd.underlying50 rfl (by kernel_rfl)) rfl ?_
 exact ⟨_, rfl, HZ2.out, HZ3.out⟩
end Go.Proofs.YtgadhmoifhoilaaDoor.AuthHand
