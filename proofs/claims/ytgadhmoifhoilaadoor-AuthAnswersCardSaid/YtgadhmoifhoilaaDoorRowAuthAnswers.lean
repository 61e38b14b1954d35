/-
  The row of the law AuthAnswers: called with whatever its parameters' types let in, it returns true, and each argument reads behind the call as it read before.
-/
import Derived.Test.YtgadhmoifhoilaaDoorRows
import Derived.Test.YtgadhmoifhoilaaDoorLaid
import Derived.Test.YtgadhmoifhoilaaDoorTie
import Derived.Test.YtgadhmoifhoilaaDoorCards
import Derived.SevenTiedAt
import Derived.LaidMore
import Derived.LaidHandle
import Derived.Test.YtgadhmoifhoilaaDoorOpen
import Derived.Test.YtgadhmoifhoilaaDoorLawAnswers
namespace Go.Proofs.YtgadhmoifhoilaaDoor.authAnswers
open Go.Joins Go.ChangeShapes Go.WideShapes Go.ChangeAt Go.RowKit Go.Deep Go.Proofs.YtgadhmoifhoilaaDoor.Open
open Go.ChangeMaps (open_string shut_string)
set_option linter.unusedVariables false
theorem own : ownKnob Tryd.prog.godebug = none := by kernel_rfl
theorem laidOut : laidOutB Tryd.prog = true := by kernel_rfl
theorem door_met (os : Os) (args : Array Value) : laidMetH Tryd.prog Md5.laid3 ((World.doorLaid Tryd.prog 24 os).forCall (fun _ _ => 0) ⟨#[], args, []⟩).memory := laidMetH_of_parts3 (fuel := 8) (laidMet_of_run' 8 (by kernel_rfl) (by kernel_rfl)) (by kernel_rfl) (by kernel_rfl)
set_option maxRecDepth 100000 in
theorem lifted (os : Os) (started : os.Started) (H : Type) (enc : TypeId × Value → H) :
    ReturnsInHanded {} Tryd.checked os 11 .any (fun w args => (Rows.authAnswersSpec.pre enc Tryd.prog Tryd.f11 [] false w args ∧ laidMetH Tryd.prog Md5.laid3 w) ∧ sizedMet enc Tryd.prog Tryd.f11 (OpenSpec.ofChange Rows.authAnswersSpec) false w args) (Rows.authAnswersSpec.post enc Tryd.prog Tryd.f11 false true false false) := by
  refine returnsInHanded_of_change_and (C := Tryd.checked) (X := fun w _ => laidMetH Tryd.prog Md5.laid3 w) (fun _ _ _ hh h => h.of_heap hh) own started (by kernel_rfl) Tryd.func11
    (ChangeSpec.witness_shaped (enc := enc) (C := Tryd.checked) (os := os) (X := fun w _ => laidMetH Tryd.prog Md5.laid3 w) false (World.doorLaid Tryd.prog 24 os) #[.agg #[.int .i64 0, .int .i64 0, .int .i64 0, .int .i64 0, .string ByteArray.empty, .string ByteArray.empty, .int .i64 0, .int .u32 0, .bool false], .agg #[.int .i64 0, .int .i64 0, .bool false, .bool false, .bool false, .int .i64 0, .string ByteArray.empty, .bool false, .int .i64 0], .int .i64 0, .agg #[.int .i64 0, .int .i64 0, .slice none 0 0], .agg #[.int .i64 0, .int .i64 0, .slice none 0 0], .int .i64 0] 8 rfl (World.shaped_of_RefB (by kernel_rfl) (by kernel_rfl)) (by kernel_rfl) (by kernel_rfl) (by kernel_rfl) (door_met os _)) ?_
  intro W base args ds gs before hval0 hW _ hsz0 hLD _
  have hval : ∀ (j : Nat) t v, Tryd.f11.params[j]? = some t → args[j]? = some v → Value.okWide Tryd.prog W .any base t v := hval0
  have hW' := hW
  obtain ⟨p, q, hA0, hV, rfl, hfz, hnd⟩ := hW
  have hA : DataW.TrodAll enc Tryd.prog W 0 (fun _ => true) true Tryd.f11.params.toList args.toList ds p := hA0
  rw [Tryd.params11] at hA hval
  obtain ⟨v0, vs0, d0, ds0, p0, q0, hargs, rfl, rfl, h0, r0⟩ := trodAll_cons hA
  obtain ⟨v1, vs1, d1, ds1, p1, q1, rfl, rfl, rfl, h1, r1⟩ := trodAll_cons r0
  obtain ⟨v2, vs2, d2, ds2, p2, q2, rfl, rfl, rfl, h2, r2⟩ := trodAll_cons r1
  obtain ⟨v3, vs3, d3, ds3, p3, q3, rfl, rfl, rfl, h3, r3⟩ := trodAll_cons r2
  obtain ⟨v4, vs4, d4, ds4, p4, q4, rfl, rfl, rfl, h4, r4⟩ := trodAll_cons r3
  obtain ⟨v5, vs5, d5, ds5, p5, q5, rfl, rfl, rfl, h5, r5⟩ := trodAll_cons r4
  obtain ⟨rfl, rfl, rfl⟩ := trodAll_nil r5
  obtain rfl : args = #[v0, v1, v2, v3, v4, v5] := by cases args; simp_all
  obtain ⟨rfl, rfl⟩ := trodVars_none hV
  have k0 := h0
  have lt0 : ∀ x ∈ p0, x.block < W.heap.size := by obtain ⟨m, hm⟩ := k0; exact DataW.trod_lt m _ _ _ hm
  have k1 := h1
  have lt1 : ∀ x ∈ p1, x.block < W.heap.size := by obtain ⟨m, hm⟩ := k1; exact DataW.trod_lt m _ _ _ hm
  have k2 := h2
  have lt2 : ∀ x ∈ p2, x.block < W.heap.size := by obtain ⟨m, hm⟩ := k2; exact DataW.trod_lt m _ _ _ hm
  have k3 := h3
  have lt3 : ∀ x ∈ p3, x.block < W.heap.size := by obtain ⟨m, hm⟩ := k3; exact DataW.trod_lt m _ _ _ hm
  have k4 := h4
  have lt4 : ∀ x ∈ p4, x.block < W.heap.size := by obtain ⟨m, hm⟩ := k4; exact DataW.trod_lt m _ _ _ hm
  have k5 := h5
  have lt5 : ∀ x ∈ p5, x.block < W.heap.size := by obtain ⟨m, hm⟩ := k5; exact DataW.trod_lt m _ _ _ hm
  obtain ⟨v0_0, v0_1, v0_2, v0_3, v0_4, v0_5, v0_6, v0_7, v0_8, y0_0, y0_1, y0_2, y0_3, y0_4, y0_5, y0_6, y0_7, y0_8, n0, rfl, _, g0_0, g0_1, g0_2, g0_3, g0_4, g0_5, g0_6, g0_7, g0_8⟩ := open_s9 Tryd.underlying48 (by kernel_rfl) (by kernel_rfl) (hval 0 48 v0 rfl rfl) h0
  obtain ⟨a0_0, ea0_0, _, wa0_0⟩ := DataW.trod_int Tryd.underlying3 g0_0
  obtain rfl := (List.cons.inj ea0_0).1
  obtain ⟨a0_1, ea0_1, _, wa0_1⟩ := DataW.trod_int Tryd.underlying3 g0_1
  obtain rfl := (List.cons.inj ea0_1).1
  obtain ⟨a0_2, ea0_2, _, wa0_2⟩ := DataW.trod_int Tryd.underlying3 g0_2
  obtain rfl := (List.cons.inj ea0_2).1
  obtain ⟨a0_3, ea0_3, _, wa0_3⟩ := DataW.trod_int Tryd.underlying3 g0_3
  obtain rfl := (List.cons.inj ea0_3).1
  obtain ⟨a0_4, ea0_4, _, ya0_4⟩ := DataW.trod_string Tryd.underlying9 g0_4
  obtain rfl := (List.cons.inj ea0_4).1
  obtain ⟨a0_5, ea0_5, _, ya0_5⟩ := DataW.trod_string Tryd.underlying9 g0_5
  obtain rfl := (List.cons.inj ea0_5).1
  obtain ⟨a0_6, ea0_6, _, wa0_6⟩ := DataW.trod_int Tryd.underlying3 g0_6
  obtain rfl := (List.cons.inj ea0_6).1
  obtain ⟨a0_7, ea0_7, _, wa0_7⟩ := DataW.trod_int Tryd.underlying46 g0_7
  obtain rfl := (List.cons.inj ea0_7).1
  obtain ⟨a0_8, ea0_8, _⟩ := DataW.trod_bool Tryd.underlying4 g0_8
  obtain rfl := (List.cons.inj ea0_8).1
  obtain ⟨v1_0, v1_1, v1_2, v1_3, v1_4, v1_5, v1_6, v1_7, v1_8, y1_0, y1_1, y1_2, y1_3, y1_4, y1_5, y1_6, y1_7, y1_8, n1, rfl, _, g1_0, g1_1, g1_2, g1_3, g1_4, g1_5, g1_6, g1_7, g1_8⟩ := open_s9 Tryd.underlying50 (by kernel_rfl) (by kernel_rfl) (hval 1 50 v1 rfl rfl) h1
  obtain ⟨a1_0, ea1_0, _, wa1_0⟩ := DataW.trod_int Tryd.underlying3 g1_0
  obtain rfl := (List.cons.inj ea1_0).1
  obtain ⟨a1_1, ea1_1, _, wa1_1⟩ := DataW.trod_int Tryd.underlying3 g1_1
  obtain rfl := (List.cons.inj ea1_1).1
  obtain ⟨a1_2, ea1_2, _⟩ := DataW.trod_bool Tryd.underlying4 g1_2
  obtain rfl := (List.cons.inj ea1_2).1
  obtain ⟨a1_3, ea1_3, _⟩ := DataW.trod_bool Tryd.underlying4 g1_3
  obtain rfl := (List.cons.inj ea1_3).1
  obtain ⟨a1_4, ea1_4, _⟩ := DataW.trod_bool Tryd.underlying4 g1_4
  obtain rfl := (List.cons.inj ea1_4).1
  obtain ⟨a1_5, ea1_5, _, wa1_5⟩ := DataW.trod_int Tryd.underlying3 g1_5
  obtain rfl := (List.cons.inj ea1_5).1
  obtain ⟨a1_6, ea1_6, _, ya1_6⟩ := DataW.trod_string Tryd.underlying9 g1_6
  obtain rfl := (List.cons.inj ea1_6).1
  obtain ⟨a1_7, ea1_7, _⟩ := DataW.trod_bool Tryd.underlying4 g1_7
  obtain rfl := (List.cons.inj ea1_7).1
  obtain ⟨a1_8, ea1_8, _, wa1_8⟩ := DataW.trod_int Tryd.underlying3 g1_8
  obtain rfl := (List.cons.inj ea1_8).1
  obtain ⟨a2, rfl, rfl, rfl, wa2⟩ := open_int Tryd.underlying3 (hval 2 3 v2 rfl rfl) h2
  obtain ⟨v3_0, v3_1, v3_2, y3_0, y3_1, y3_2, n3, rfl, _, g3_0, g3_1, g3_2⟩ := open_s3 Tryd.underlying52 (by kernel_rfl) (by kernel_rfl) (hval 3 52 v3 rfl rfl) h3
  obtain ⟨a3_0, ea3_0, _, wa3_0⟩ := DataW.trod_int Tryd.underlying3 g3_0
  obtain rfl := (List.cons.inj ea3_0).1
  obtain ⟨a3_1, ea3_1, _, wa3_1⟩ := DataW.trod_int Tryd.underlying3 g3_1
  obtain rfl := (List.cons.inj ea3_1).1
  obtain ⟨Aa3_2, ca3_2, a3_2, ea3_2, la3_2, ra3_2, wa3_2⟩ := row_open Tryd.underlying22 Tryd.underlying5 (by kernel_rfl) g3_2
  obtain rfl := (List.cons.inj ea3_2).1
  obtain ⟨v4_0, v4_1, v4_2, y4_0, y4_1, y4_2, n4, rfl, _, g4_0, g4_1, g4_2⟩ := open_s3 Tryd.underlying52 (by kernel_rfl) (by kernel_rfl) (hval 4 52 v4 rfl rfl) h4
  obtain ⟨a4_0, ea4_0, _, wa4_0⟩ := DataW.trod_int Tryd.underlying3 g4_0
  obtain rfl := (List.cons.inj ea4_0).1
  obtain ⟨a4_1, ea4_1, _, wa4_1⟩ := DataW.trod_int Tryd.underlying3 g4_1
  obtain rfl := (List.cons.inj ea4_1).1
  obtain ⟨Aa4_2, ca4_2, a4_2, ea4_2, la4_2, ra4_2, wa4_2⟩ := row_open Tryd.underlying22 Tryd.underlying5 (by kernel_rfl) g4_2
  obtain rfl := (List.cons.inj ea4_2).1
  obtain ⟨a5, rfl, rfl, rfl, wa5⟩ := open_int Tryd.underlying3 (hval 5 3 v5 rfl rfl) h5
  clear hA0 hval0 hsz0
  refine (Ans.authAnswers_law a0_0 a0_1 a0_2 a0_3 a0_4 a0_5 a0_6 a0_7 a0_8 a1_0 a1_1 a1_2 a1_3 a1_4 a1_5 a1_6 a1_7 a1_8 a2 a3_0 a3_1 Aa3_2 ca3_2 a3_2 a4_0 a4_1 Aa4_2 ca4_2 a4_2 a5 W wa0_0 wa0_1 wa0_2 wa0_3 ya0_4 ya0_5 wa0_6 wa0_7 wa1_0 wa1_1 wa1_5 ya1_6 wa1_8 wa2 wa3_0 wa3_1 la3_2 ra3_2 wa3_2 wa4_0 wa4_1 la4_2 ra4_2 wa4_2 wa5 hLD).mono fun e W' ⟨he, bel⟩ => ?_
  subst he
  exact ⟨_, rfl, _, _, _, [], _, [], hW', trodAll_mk1 (shut_bool Tryd.underlying4 _), (trodAll_cons_mk (Below.trod laidOut (by kernel_rfl) (of_decide_eq_true (by kernel_rfl)) k0 bel lt0) (trodAll_cons_mk (Below.trod laidOut (by kernel_rfl) (of_decide_eq_true (by kernel_rfl)) k1 bel lt1) (trodAll_cons_mk (Below.trod laidOut (by kernel_rfl) (of_decide_eq_true (by kernel_rfl)) k2 bel lt2) (trodAll_cons_mk (Below.trod laidOut (by kernel_rfl) (of_decide_eq_true (by kernel_rfl)) k3 bel lt3) (trodAll_cons_mk (Below.trod laidOut (by kernel_rfl) (of_decide_eq_true (by kernel_rfl)) k4 bel lt4) (trodAll_cons_mk (Below.trod laidOut (by kernel_rfl) (of_decide_eq_true (by kernel_rfl)) k5 bel lt5) trodAll_mk0)))))), rfl, bel.frame _, fun h => by cases h⟩
theorem over : Rows.authAnswersRow.holds Tryd.pinned (OpenSpec.ofChange Rows.authAnswersSpec) :=
  OpenClaim.holds_of_wide 11 Tryd.f11 rfl rfl rfl rfl rfl rfl rfl ⟨rfl, rfl, rfl, rfl, rfl⟩ rfl rfl rfl rfl rfl (by kernel_rfl) Tryd.func11 (by kernel_rfl)
    (of_decide_eq_true (by kernel_rfl)) (by unfold Func.isWrapper; first | (rw [if_pos (by decide +kernel)]; kernel_rfl) | (rw [if_neg (by decide +kernel)]; exact ⟨rfl, rfl⟩))
    (fun os started H enc _ => lifted os started H enc)
end Go.Proofs.YtgadhmoifhoilaaDoor.authAnswers
namespace Go.Proofs.YtgadhmoifhoilaaDoor
theorem authAnswers_holds : Rows.AuthAnswersSaid := authAnswers.over
#print axioms authAnswers_holds
theorem authAnswersCard_holds : Rows.AuthAnswersCardSaid :=
  Claim7.holds_tied_plain_at .later [] [.data, .data, .data] true _ false
    authAnswers_holds (fun _ h => by cases h) (by kernel_rfl) (fun _ h => by cases h) authAnswers_row_tie rfl ⟨rfl, rfl⟩ (by kernel_rfl) rfl
    (fun f fn hf hfn => by
      obtain rfl : f = 11 := Option.some.inj ((show Tryd.prog.funcNamed "umpire/umpirelaw21.AuthAnswers" = some 11 by kernel_rfl).symm.trans hf) |>.symm
      obtain rfl : fn = Tryd.f11 := (Option.some.inj (Tryd.func11.symm.trans hfn)).symm
      exact ⟨by kernel_rfl, fun j t ht => by
        rw [Tryd.params11] at ht
        have hm : t ∈ [48, 50, 3, 52, 52, 3] := by simpa using Array.mem_of_getElem? ht
        have hall : ([48, 50, 3, 52, 52, 3].all fun u => !Tryd.prog.wantsStandIn u) = true := by kernel_rfl
        exact (show Tryd.prog.wantsStandIn t = false by simpa using List.all_eq_true.1 hall t hm)⟩)
    (by kernel_rfl)
#print axioms authAnswersCard_holds
end Go.Proofs.YtgadhmoifhoilaaDoor
