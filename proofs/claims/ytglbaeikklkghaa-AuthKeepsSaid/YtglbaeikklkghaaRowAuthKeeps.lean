/-
  The row of the law AuthKeeps: called with whatever its parameters' types let in, it returns true, and each argument reads behind the call as it read before.
-/
import Derived.Test.YtglbaeikklkghaaRows
import Derived.Test.YtglbaeikklkghaaOpen
import Derived.Test.YtglbaeikklkghaaLawKeeps
namespace Go.Proofs.Ytglbaeikklkghaa.authKeeps
open Go.Joins Go.ChangeShapes Go.WideShapes Go.ChangeAt Go.RowKit Go.Deep Go.Proofs.Ytglbaeikklkghaa.Open
open Go.ChangeMaps (open_string shut_string)
set_option linter.unusedVariables false
theorem own : ownKnob Try.prog.godebug = none := by kernel_rfl
theorem laidOut : laidOutB Try.prog = true := by kernel_rfl
set_option maxRecDepth 100000 in
theorem lifted (os : Os) (started : os.Started) (H : Type) (enc : TypeId × Value → H) :
    ReturnsInHanded {} Try.checked os 11 .any (Rows.authKeepsSpec.pre6 enc Try.prog Try.f11 Rows.authKeepsRow.domain false) (Rows.authKeepsSpec.post enc Try.prog Try.f11 false true false false) := by
  refine returnsInHanded_of_change_sized (C := Try.checked) own started (by kernel_rfl) Try.func11
    (ChangeSpec.witness6 (enc := enc) (C := Try.checked) false ⟨#[], #[.agg #[.int .i64 0, .int .i64 0, .bool false, .bool false, .bool false, .int .i64 0, .string ByteArray.empty, .bool false, .int .i64 0], .int .i64 0, .agg #[.int .i64 0, .int .i64 0, .slice none 0 0]], []⟩ 8 (by kernel_rfl) (by kernel_rfl) (by kernel_rfl) (by kernel_rfl)) ?_
  intro W base args ds gs before hval0 hW hcnd hsz0 _
  have hval : ∀ (j : Nat) t v, Try.f11.params[j]? = some t → args[j]? = some v → Value.okWide Try.prog W .any base t v := hval0
  have hW' := hW
  obtain ⟨p, q, hA0, hV, rfl, hfz, hnd⟩ := hW
  have hA : DataW.TrodAll enc Try.prog W 0 (fun _ => true) true Try.f11.params.toList args.toList ds p := hA0
  rw [Try.params11] at hA hval
  obtain ⟨v0, vs0, d0, ds0, p0, q0, hargs, rfl, rfl, h0, r0⟩ := trodAll_cons hA
  obtain ⟨v1, vs1, d1, ds1, p1, q1, rfl, rfl, rfl, h1, r1⟩ := trodAll_cons r0
  obtain ⟨v2, vs2, d2, ds2, p2, q2, rfl, rfl, rfl, h2, r2⟩ := trodAll_cons r1
  obtain ⟨rfl, rfl, rfl⟩ := trodAll_nil r2
  obtain rfl : args = #[v0, v1, v2] := by cases args; simp_all
  obtain ⟨rfl, rfl⟩ := trodVars_none hV
  have k0 := h0
  have lt0 : ∀ x ∈ p0, x.block < W.heap.size := by obtain ⟨m, hm⟩ := k0; exact DataW.trod_lt m _ _ _ hm
  have k1 := h1
  have lt1 : ∀ x ∈ p1, x.block < W.heap.size := by obtain ⟨m, hm⟩ := k1; exact DataW.trod_lt m _ _ _ hm
  have k2 := h2
  have lt2 : ∀ x ∈ p2, x.block < W.heap.size := by obtain ⟨m, hm⟩ := k2; exact DataW.trod_lt m _ _ _ hm
  obtain ⟨v0_0, v0_1, v0_2, v0_3, v0_4, v0_5, v0_6, v0_7, v0_8, y0_0, y0_1, y0_2, y0_3, y0_4, y0_5, y0_6, y0_7, y0_8, n0, rfl, _, g0_0, g0_1, g0_2, g0_3, g0_4, g0_5, g0_6, g0_7, g0_8⟩ := open_s9 Try.underlying47 (by kernel_rfl) (by kernel_rfl) (hval 0 47 v0 rfl rfl) h0
  obtain ⟨a0_0, ea0_0, _, wa0_0⟩ := DataW.trod_int Try.underlying3 g0_0
  obtain rfl := (List.cons.inj ea0_0).1
  obtain ⟨a0_1, ea0_1, _, wa0_1⟩ := DataW.trod_int Try.underlying3 g0_1
  obtain rfl := (List.cons.inj ea0_1).1
  obtain ⟨a0_2, ea0_2, _⟩ := DataW.trod_bool Try.underlying4 g0_2
  obtain rfl := (List.cons.inj ea0_2).1
  obtain ⟨a0_3, ea0_3, _⟩ := DataW.trod_bool Try.underlying4 g0_3
  obtain rfl := (List.cons.inj ea0_3).1
  obtain ⟨a0_4, ea0_4, _⟩ := DataW.trod_bool Try.underlying4 g0_4
  obtain rfl := (List.cons.inj ea0_4).1
  obtain ⟨a0_5, ea0_5, _, wa0_5⟩ := DataW.trod_int Try.underlying3 g0_5
  obtain rfl := (List.cons.inj ea0_5).1
  obtain ⟨a0_6, ea0_6, _, ya0_6⟩ := DataW.trod_string Try.underlying9 g0_6
  obtain rfl := (List.cons.inj ea0_6).1
  obtain ⟨a0_7, ea0_7, _⟩ := DataW.trod_bool Try.underlying4 g0_7
  obtain rfl := (List.cons.inj ea0_7).1
  obtain ⟨a0_8, ea0_8, _, wa0_8⟩ := DataW.trod_int Try.underlying3 g0_8
  obtain rfl := (List.cons.inj ea0_8).1
  obtain ⟨a1, rfl, rfl, rfl, wa1⟩ := open_int Try.underlying3 (hval 1 3 v1 rfl rfl) h1
  obtain ⟨v2_0, v2_1, v2_2, y2_0, y2_1, y2_2, n2, rfl, _, g2_0, g2_1, g2_2⟩ := open_s3 Try.underlying49 (by kernel_rfl) (by kernel_rfl) (hval 2 49 v2 rfl rfl) h2
  obtain ⟨a2_0, ea2_0, _, wa2_0⟩ := DataW.trod_int Try.underlying3 g2_0
  obtain rfl := (List.cons.inj ea2_0).1
  obtain ⟨a2_1, ea2_1, _, wa2_1⟩ := DataW.trod_int Try.underlying3 g2_1
  obtain rfl := (List.cons.inj ea2_1).1
  obtain ⟨Aa2_2, ca2_2, a2_2, ea2_2, la2_2, ra2_2, wa2_2⟩ := row_open Try.underlying25 Try.underlying5 (by kernel_rfl) g2_2
  obtain rfl := (List.cons.inj ea2_2).1
  clear hA0 hval0 hsz0
  refine (authKeeps_law a0_0 a0_1 a0_2 a0_3 a0_4 a0_5 a0_6 a0_7 a0_8 a1 a2_0 a2_1 Aa2_2 ca2_2 a2_2 W wa0_0 wa0_1 wa0_5 ya0_6 wa0_8 wa1 wa2_0 wa2_1 la2_2 ra2_2 wa2_2).mono fun e W' ⟨he, bel⟩ => ?_
  subst he
  exact ⟨_, rfl, _, _, _, [], _, [], hW', trodAll_mk1 (shut_bool Try.underlying4 _), (trodAll_cons_mk (Below.trod laidOut (by kernel_rfl) (of_decide_eq_true (by kernel_rfl)) k0 bel lt0) (trodAll_cons_mk (Below.trod laidOut (by kernel_rfl) (of_decide_eq_true (by kernel_rfl)) k1 bel lt1) (trodAll_cons_mk (Below.trod laidOut (by kernel_rfl) (of_decide_eq_true (by kernel_rfl)) k2 bel lt2) trodAll_mk0))), rfl, bel.frame _, fun h => by cases h⟩
theorem over : Rows.authKeepsRow.holds Try.pinned (OpenSpec.ofChange Rows.authKeepsSpec) :=
  OpenClaim.holds_of_wide 11 Try.f11 rfl rfl rfl rfl rfl rfl rfl ⟨rfl, rfl, rfl, rfl, rfl⟩ rfl rfl rfl rfl rfl (by kernel_rfl) Try.func11 (by kernel_rfl)
    (of_decide_eq_true (by kernel_rfl)) (by unfold Func.isWrapper; first | (rw [if_pos (by decide +kernel)]; kernel_rfl) | (rw [if_neg (by decide +kernel)]; exact ⟨rfl, rfl⟩))
    (fun os started H enc _ => lifted os started H enc)
end Go.Proofs.Ytglbaeikklkghaa.authKeeps
namespace Go.Proofs.Ytglbaeikklkghaa
theorem authKeeps_holds : Rows.AuthKeepsSaid := authKeeps.over
#print axioms authKeeps_holds
end Go.Proofs.Ytglbaeikklkghaa
