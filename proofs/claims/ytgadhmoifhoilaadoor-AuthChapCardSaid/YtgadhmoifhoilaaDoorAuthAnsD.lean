/-
  auth.Answer where what is owed is PAP's answer, at an Ack: out of the whole (seat D).
-/
import Derived.Test.YtgadhmoifhoilaaDoorAnsJ
import Derived.Test.YtgadhmoifhoilaaDoorAnsP
import Derived.Test.YtgadhmoifhoilaaDoorPAuthBasex2
import Derived.WalkLawsBesides
import Derived.Deep.RegionHeld3
import Derived.Deep.DrawnRows
namespace Go.Proofs.YtgadhmoifhoilaaDoor.AuthHand
open Go.RowKit Go.Lib Go.Proofs.YtgadhmoifhoilaaDoorW.PrintWords Go.Proofs.YtgadhmoifhoilaaDoorW.PrintLast Go.Proofs.YtgadhmoifhoilaaDoorW.PrintMore Go.Proofs.YtgadhmoifhoilaaDoor.Kit
set_option linter.unusedSimpArgs false
set_option linter.unusedVariables false
def set9 (W : World) (b : Nat) (v0 v1 v2 v3 v4 v5 v6 v7 v8 : Value) : World := (((((((((W.setCell ⟨b, 0, none⟩ v0).setCell ⟨b, 1, none⟩ v1).setCell ⟨b, 2, none⟩ v2).setCell ⟨b, 3, none⟩ v3).setCell ⟨b, 4, none⟩ v4).setCell ⟨b, 5, none⟩ v5).setCell ⟨b, 6, none⟩ v6).setCell ⟨b, 7, none⟩ v7).setCell ⟨b, 8, none⟩ v8)
theorem set9_row {W : World} {b : Nat} {t : TypeId} {c0 c1 c2 c3 c4 c5 c6 c7 c8 : Value} (h : W.heap[b]? = some (.cells #[c0, c1, c2, c3, c4, c5, c6, c7, c8] t (0, 0))) (v0 v1 v2 v3 v4 v5 v6 v7 v8 : Value) : (set9 W b v0 v1 v2 v3 v4 v5 v6 v7 v8).heap[b]? = some (.cells #[v0, v1, v2, v3, v4, v5, v6, v7, v8] t (0, 0)) := by
  have h0 := blk_put (cs' := #[v0, c1, c2, c3, c4, c5, c6, c7, c8]) h 0 v0 rfl
  have h1 := blk_put (cs' := #[v0, v1, c2, c3, c4, c5, c6, c7, c8]) h0 1 v1 rfl
  have h2 := blk_put (cs' := #[v0, v1, v2, c3, c4, c5, c6, c7, c8]) h1 2 v2 rfl
  have h3 := blk_put (cs' := #[v0, v1, v2, v3, c4, c5, c6, c7, c8]) h2 3 v3 rfl
  have h4 := blk_put (cs' := #[v0, v1, v2, v3, v4, c5, c6, c7, c8]) h3 4 v4 rfl
  have h5 := blk_put (cs' := #[v0, v1, v2, v3, v4, v5, c6, c7, c8]) h4 5 v5 rfl
  have h6 := blk_put (cs' := #[v0, v1, v2, v3, v4, v5, v6, c7, c8]) h5 6 v6 rfl
  have h7 := blk_put (cs' := #[v0, v1, v2, v3, v4, v5, v6, v7, c8]) h6 7 v7 rfl
  have h8 := blk_put (cs' := #[v0, v1, v2, v3, v4, v5, v6, v7, v8]) h7 8 v8 rfl
  exact h8
theorem set9_below {w W : World} {b B : Nat} (h : Below B w W) (hb : B ≤ b) (v0 v1 v2 v3 v4 v5 v6 v7 v8 : Value) : Below B w (set9 W b v0 v1 v2 v3 v4 v5 v6 v7 v8) := (((((((((h.setCell (p := ⟨b, 0, none⟩) hb _).setCell (p := ⟨b, 1, none⟩) hb _).setCell (p := ⟨b, 2, none⟩) hb _).setCell (p := ⟨b, 3, none⟩) hb _).setCell (p := ⟨b, 4, none⟩) hb _).setCell (p := ⟨b, 5, none⟩) hb _).setCell (p := ⟨b, 6, none⟩) hb _).setCell (p := ⟨b, 7, none⟩) hb _).setCell (p := ⟨b, 8, none⟩) hb _)
def auth_Answer.f (a0_0 a0_1 a0_2 a0_3 : Int) (a0_4 a0_5 : ByteArray) (a0_6 a0_7 : Int) (a0_8 : Bool) (a1_0 a1_1 : Int) (a1_2 a1_3 a1_4 : Bool) (a1_5 : Int) (a1_6 : ByteArray) (a1_7 : Bool) (a1_8 : Int) (a2_0 a2_1 a2_2 : Int) (a2_3 : ByteArray) (a3 a4_0 a4_1 : Int) (l4_2 : List Int) : Option (Int × Int × Bool × Bool × Bool × Int × ByteArray × Bool × Int × Bool) :=
  if a2_0 = 9 ∧ a4_0 = 2 ∧ a1_6.size ≤ 1000 ∧ a2_3.size ≤ 1000 then
    (if a3 = a2_1 ∧ a4_1 = a2_2 then
      (PAuthBase.auth_say.f 2 a4_1 l4_2).bind fun k => some (a1_0, a1_1, (if k = true then true else a1_2), a1_3, a1_4, a1_5, a1_6, a1_7, a1_8, k)
     else some (a1_0, a1_1, a1_2, a1_3, a1_4, a1_5, a1_6, a1_7, a1_8, false))
  else none
theorem auth_Answer.calls (a0_0 a0_1 a0_2 a0_3 : Int) (a0_4 a0_5 : ByteArray) (a0_6 a0_7 : Int) (a0_8 : Bool) (a1_0 a1_1 : Int) (a1_2 a1_3 a1_4 : Bool) (a1_5 : Int) (a1_6 : ByteArray) (a1_7 : Bool) (a1_8 : Int) (a2_0 a2_1 a2_2 : Int) (a2_3 : ByteArray) (a3 a4_0 a4_1 : Int) (A4_2 : Option Addr) (c4_2 : Nat) (l4_2 : List Int) (r1 r2 : Int) (r3 r4 r5 : Bool) (r6 : Int) (r7 : ByteArray) (r8 : Bool) (r9 : Int) (r10 : Bool) (w : World) (hr4_2 : Kd.C (Kd.int .u8) w A4_2 l4_2.length l4_2) (hc4_2 : l4_2.length ≤ c4_2)
    (h : auth_Answer.f a0_0 a0_1 a0_2 a0_3 a0_4 a0_5 a0_6 a0_7 a0_8 a1_0 a1_1 a1_2 a1_3 a1_4 a1_5 a1_6 a1_7 a1_8 a2_0 a2_1 a2_2 a2_3 a3 a4_0 a4_1 l4_2 = some (r1, r2, r3, r4, r5, r6, r7, r8, r9, r10)) :
    Calls Tryd.prog 29 #[.agg #[.int .i64 a0_0, .int .i64 a0_1, .int .i64 a0_2, .int .i64 a0_3, .string a0_4, .string a0_5, .int .i64 a0_6, .int .u32 a0_7, .bool a0_8], .agg #[.int .i64 a1_0, .int .i64 a1_1, .bool a1_2, .bool a1_3, .bool a1_4, .int .i64 a1_5, .string a1_6, .bool a1_7, .int .i64 a1_8], .agg #[.int .i64 a2_0, .int .i64 a2_1, .int .i64 a2_2, .string a2_3], .int .i64 a3, .agg #[.int .i64 a4_0, .int .i64 a4_1, .slice A4_2 l4_2.length c4_2]] w fun e w' =>
      e = .returned (.tuple #[.agg #[.int .i64 r1, .int .i64 r2, .bool r3, .bool r4, .bool r5, .int .i64 r6, .string r7, .bool r8, .int .i64 r9], .bool r10]) ∧ Below w.heap.size w w' := by
  unfold auth_Answer.f at h
  split at h
  case isFalse => cases h
  case isTrue h9 =>
  obtain ⟨rfl, rfl, hl, hd⟩ := h9
  by_cases hm : a3 = a2_1 ∧ a4_1 = a2_2
  · rw [if_pos hm] at h
    obtain ⟨rfl, rfl⟩ := hm
    obtain ⟨k, hj, hk⟩ := Option.bind_eq_some_iff.1 h
    simp only [Option.some.injEq, Prod.mk.injEq] at hk
    obtain ⟨rfl, rfl, rfl, rfl, rfl, rfl, rfl, rfl, rfl, rfl⟩ := hk
    refine Ans.answer_calls _ _ _ _ _ _ _ _ _ _ _ _ _ _ _ _ _ _ _ _ _ _ a3 2 a4_1 A4_2 c4_2 l4_2.length [] 0 false false true false false true false false a0_5.toList.isEmpty false true k _ _ _ _ w (by simp) (by simp) rfl rfl rfl rfl rfl rfl (by omega) ⟨rfl⟩ ⟨fun _ _ W hb => ?_⟩ ⟨fun h_ => by cases h_⟩ ⟨fun h_ => by cases h_⟩ (by cases k <;> simp)
    exact Ans.judged_calls _ _ _ _ _ _ _ _ _ _ _ _ _ _ _ _ _ _ _ _ _ _ 2 a4_1 A4_2 c4_2 l4_2.length true true false false k a0_4.toList.isEmpty false true k W rfl rfl rfl rfl rfl (by omega) (by omega) ⟨fun W1 hb1 => PAuthBase.auth_say.calls 2 a4_1 A4_2 c4_2 l4_2 k W1 (Kd.C_below hr4_2 (below_step hb hb1)) hc4_2 hj⟩ ⟨fun h_ => by cases h_⟩ (by simp [Ans.judgedB])
  · rw [if_neg hm] at h
    simp only [Option.some.injEq, Prod.mk.injEq] at h
    obtain ⟨rfl, rfl, rfl, rfl, rfl, rfl, rfl, rfl, rfl, rfl⟩ := h
    have hnn : ((a3 != a2_1) || (a4_1 != a2_2)) = true := by
      by_cases e : a3 = a2_1
      · have : a4_1 ≠ a2_2 := fun e2 => hm ⟨e, e2⟩
        simp [e, this]
      · simp [e]
    exact Ans.answer_calls _ _ _ _ _ _ _ _ _ _ _ _ _ _ _ _ _ _ _ _ _ _ a3 2 a4_1 A4_2 c4_2 l4_2.length [] 0 (a3 != a2_1) (a4_1 != a2_2) true false false true false false a0_5.toList.isEmpty false true false _ _ _ _ w rfl rfl rfl rfl rfl rfl rfl rfl (by omega) ⟨rfl⟩ ⟨fun h_ => by rw [hnn] at h_; cases h_⟩ ⟨fun h_ => by cases h_⟩ ⟨fun h_ => by cases h_⟩ (by rw [if_pos hnn])
end Go.Proofs.YtgadhmoifhoilaaDoor.AuthHand
