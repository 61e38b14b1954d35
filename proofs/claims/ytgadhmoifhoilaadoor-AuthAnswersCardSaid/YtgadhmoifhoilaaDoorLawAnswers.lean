/-
  The law AuthAnswers: what the program answers to what is owed is what the reference answers; so the call returns true.
-/
import Derived.Test.YtgadhmoifhoilaaDoorAnsJ
import Derived.Test.YtgadhmoifhoilaaDoorAnsP
import Derived.Test.YtgadhmoifhoilaaDoorAnsR
import Derived.Test.YtgadhmoifhoilaaDoorWalkAnswers
import Derived.Test.YtgadhmoifhoilaaDoorAuthRight
import Derived.Test.YtgadhmoifhoilaaDoorAuthPlain
import Derived.Test.YtgadhmoifhoilaaDoorAuthRef
import Derived.Test.YtgadhmoifhoilaaDoorLaid
namespace Go.Proofs.YtgadhmoifhoilaaDoor.AuthPlain
open Go.RowKit Go.Proofs.YtgadhmoifhoilaaDoorW.PrintWords Go.Proofs.YtgadhmoifhoilaaDoorW.PrintLast Go.Proofs.YtgadhmoifhoilaaDoor.PapHand Go.Proofs.YtgadhmoifhoilaaDoor.PAuthBase Go.Proofs.YtgadhmoifhoilaaDoor.AuthHand
set_option linter.unusedVariables false
theorem reads_both (a b : Int) (l : List Int) (h : PapHand.isB l = true) (h' : Kit.isB l = true) (hl : l.length ≤ 1000) : ∃ tv sn er ks, auth_say.f a b l = some ks ∧ umpireref21_say.f 5 a b l = some ks ∧ auth_value.f a b l = some (tv, er == 0) ∧ umpireref17_Read.f l = some (tv, sn, er) := by
 obtain ⟨⟨z, g⟩, hz⟩ := reads_say h
 obtain ⟨⟨tv, sn, er⟩, hv⟩ := reads_chap h' (by omega)
 exact ⟨tv, sn, er, g == 0, by unfold auth_say.f; rw [hz]; rfl, by unfold umpireref21_say.f; rw [show (5 : Nat) = 3 + 2 from rfl, say_ref 3 l h (by omega), hz]; rfl, by unfold auth_value.f; rw [hv]; rfl, (chap_ref h' (by omega)).trans hv⟩
theorem read_len {l tv : List Int} {sn : ByteArray} {er : Int} (h' : Kit.isB l = true) (hl : l.length ≤ 1000) (h : umpireref17_Read.f l = some (tv, sn, er)) : tv.length ≤ 1000 := by
 rw [chap_ref h' (by omega)] at h
 unfold AuthHand.chap_Read.f at h
 rw [if_pos ⟨h', by omega⟩] at h
 repeat' (split at h)
 all_goals (simp only [Option.some.injEq, Prod.mk.injEq] at h; obtain ⟨rfl, _, _⟩ := h)
 all_goals simp
 omega
theorem hear_ref (a0_0 a0_1 : Int) (a0_2 a0_3 a0_4 : Bool) (a0_5 : Int) (a0_6 : ByteArray) (a0_7 : Bool) (a0_8 a1 a2_0 a2_1 : Int) (l : List Int) (h : PapHand.isB l = true) (h' : Kit.isB l = true) (hl : l.length ≤ 1000) :
  ∃ tv sn er ka ks, umpireref21_Hear.f a0_0 a0_1 a0_2 a0_3 a0_4 a0_5 a0_6 a0_7 a0_8 a1 a2_0 a2_1 l = some (hearP tv er ka ks a0_0 a0_1 a0_2 a0_3 a0_4 a0_5 a0_6 a0_7 a0_8 a1 a2_0 a2_1) ∧ umpireref17_Read.f l = some (tv, sn, er) := by
 obtain ⟨⟨x, y, e⟩, hx⟩ := reads_ask h
 obtain ⟨⟨z, g⟩, hz⟩ := reads_say h
 obtain ⟨⟨tv, sn, er⟩, hv⟩ := reads_chap h' (by omega)
 have hk' : umpireref21_ask.f 5 a2_0 a2_1 l = some (e == 0) := by unfold umpireref21_ask.f; rw [show (5 : Nat) = 2 + 3 from rfl, ask_ref 2 l h (by omega), hx]; rfl
 have hs' : umpireref21_say.f 5 a2_0 a2_1 l = some (g == 0) := by unfold umpireref21_say.f; rw [show (5 : Nat) = 3 + 2 from rfl, say_ref 3 l h (by omega), hz]; rfl
 have hw' : umpireref17_Read.f l = some (tv, sn, er) := (chap_ref h' (by omega)).trans hv
 refine ⟨tv, sn, er, e == 0, g == 0, ?_, hw'⟩
 unfold umpireref21_Hear.f
 rw [hw', hk', hs']
 rfl
theorem hearP_len (tv : List Int) (er : Int) (ka ks : Bool) (a0_0 a0_1 : Int) (a0_2 a0_3 a0_4 : Bool) (a0_5 : Int) (a0_6 : ByteArray) (a0_7 : Bool) (a0_8 a1 a2_0 a2_1 : Int) : (hearP tv er ka ks a0_0 a0_1 a0_2 a0_3 a0_4 a0_5 a0_6 a0_7 a0_8 a1 a2_0 a2_1).2.2.2.2.2.2.2.2.2.length ≤ 1 := by
 unfold hearP
 repeat' split
 all_goals simp
theorem hearP_val (tv : List Int) (er : Int) (ka ks : Bool) (a0_0 a0_1 : Int) (a0_2 a0_3 a0_4 : Bool) (a0_5 : Int) (a0_6 : ByteArray) (a0_7 : Bool) (a0_8 a1 a2_0 a2_1 : Int) : (hearP tv er ka ks a0_0 a0_1 a0_2 a0_3 a0_4 a0_5 a0_6 a0_7 a0_8 a1 a2_0 a2_1).2.2.2.2.2.2.1 = a0_6 := by
 unfold hearP
 repeat' split
 all_goals rfl
theorem hearP_due (tv : List Int) (er : Int) (ka ks : Bool) (a0_0 a0_1 : Int) (a0_2 a0_3 a0_4 : Bool) (a0_5 : Int) (a0_6 : ByteArray) (a0_7 : Bool) (a0_8 a1 a2_0 a2_1 : Int) : ∀ x, x ∈ (hearP tv er ka ks a0_0 a0_1 a0_2 a0_3 a0_4 a0_5 a0_6 a0_7 a0_8 a1 a2_0 a2_1).2.2.2.2.2.2.2.2.2 → x.f3.size ≤ tv.length := by
 have hz : (strOfNums tv).size = tv.length := by
  have h := data_length (strOfNums tv)
  unfold strOfNums at h ⊢
  rw [List.length_map] at h
  omega
 unfold hearP
 repeat' split
 all_goals intro x hx
 all_goals first | (simp at hx; done) | (simp only [List.mem_singleton] at hx; subst hx; first | (exact Nat.le_of_eq hz) | exact Nat.zero_le _)
end Go.Proofs.YtgadhmoifhoilaaDoor.AuthPlain
namespace Go.Proofs.YtgadhmoifhoilaaDoor.Ans
open Go.RowKit Go.Lib Go.Proofs.YtgadhmoifhoilaaDoorW.PrintWords Go.Proofs.YtgadhmoifhoilaaDoorW.PrintLast AuthHand AuthPlain Chap Md5
set_option linter.unusedVariables false
theorem authAnswers_law (a0_0 : Int) (a0_1 : Int) (a0_2 : Int) (a0_3 : Int) (a0_4 : ByteArray) (a0_5 : ByteArray) (a0_6 : Int) (a0_7 : Int) (a0_8 : Bool) (a1_0 : Int) (a1_1 : Int) (a1_2 : Bool) (a1_3 : Bool) (a1_4 : Bool) (a1_5 : Int) (a1_6 : ByteArray) (a1_7 : Bool) (a1_8 : Int) (a2 : Int) (a3_0 : Int) (a3_1 : Int) (Aa3_2 : Option Addr) (ca3_2 : Nat) (a3_2 : List Int) (a4_0 : Int) (a4_1 : Int) (Aa4_2 : Option Addr) (ca4_2 : Nat) (a4_2 : List Int) (a5 : Int) (w : World) (wa0_0 : (Lit.int .i64 a0_0).wf = true) (wa0_1 : (Lit.int .i64 a0_1).wf = true) (wa0_2 : (Lit.int .i64 a0_2).wf = true) (wa0_3 : (Lit.int .i64 a0_3).wf = true) (ya0_4 : a0_4.size ≤ maxLen) (ya0_5 : a0_5.size ≤ maxLen) (wa0_6 : (Lit.int .i64 a0_6).wf = true) (wa0_7 : (Lit.int .u32 a0_7).wf = true) (wa1_0 : (Lit.int .i64 a1_0).wf = true) (wa1_1 : (Lit.int .i64 a1_1).wf = true) (wa1_5 : (Lit.int .i64 a1_5).wf = true) (ya1_6 : a1_6.size ≤ maxLen) (wa1_8 : (Lit.int .i64 a1_8).wf = true) (wa2 : (Lit.int .i64 a2).wf = true) (wa3_0 : (Lit.int .i64 a3_0).wf = true) (wa3_1 : (Lit.int .i64 a3_1).wf = true) (la3_2 : a3_2.length ≤ ca3_2) (ra3_2 : (Kd.int .u8).C w Aa3_2 a3_2.length a3_2) (wa3_2 : ∀ n ∈ a3_2, (Lit.int .u8 n).wf = true) (wa4_0 : (Lit.int .i64 a4_0).wf = true) (wa4_1 : (Lit.int .i64 a4_1).wf = true) (la4_2 : a4_2.length ≤ ca4_2) (ra4_2 : (Kd.int .u8).C w Aa4_2 a4_2.length a4_2) (wa4_2 : ∀ n ∈ a4_2, (Lit.int .u8 n).wf = true) (wa5 : (Lit.int .i64 a5).wf = true) (hLD : laidMetH Tryd.prog laid3 w) :
  Calls Tryd.prog 11 #[.agg #[.int .i64 a0_0, .int .i64 a0_1, .int .i64 a0_2, .int .i64 a0_3, .string a0_4, .string a0_5, .int .i64 a0_6, .int .u32 a0_7, .bool a0_8], .agg #[.int .i64 a1_0, .int .i64 a1_1, .bool a1_2, .bool a1_3, .bool a1_4, .int .i64 a1_5, .string a1_6, .bool a1_7, .int .i64 a1_8], .int .i64 a2, .agg #[.int .i64 a3_0, .int .i64 a3_1, .slice Aa3_2 a3_2.length ca3_2], .agg #[.int .i64 a4_0, .int .i64 a4_1, .slice Aa4_2 a4_2.length ca4_2], .int .i64 a5] w fun e w' => e = .returned (.bool true) ∧ Below w.heap.size w w' := by
 obtain ⟨hG, h3⟩ := of_laid hLD
 have hLW : LaidW w := ⟨hG, h3⟩
 obtain ⟨h, h'⟩ := isB_two wa3_2
 obtain ⟨hq, hq'⟩ := isB_two wa4_2
 obtain ⟨m1, hm1, hl1⟩ := may_total 4 a3_0 a3_1 a3_2
 obtain ⟨m2, hm2, hl2⟩ := may_total 4 a4_0 a4_1 a4_2
 have HAW := Aside0.mk (fun (W : World) (_ : Below w.heap.size w W) => umpirelaw21_awake.calls true W rfl)
 have HM1 := Aside0.mk (fun (W : World) (hb : Below w.heap.size w W) => PAuthBase.umpirelaw21_may.calls 5 a3_0 a3_1 Aa3_2 ca3_2 a3_2 m1 W (Kd.C_below ra3_2 hb) la3_2 hm1)
 have HM2 := Aside0.mk (fun (W : World) (hb : Below w.heap.size w W) => PAuthBase.umpirelaw21_may.calls 5 a4_0 a4_1 Aa4_2 ca4_2 a4_2 m2 W (Kd.C_below ra4_2 hb) la4_2 hm2)
 by_cases hg : m1 = true ∧ m2 = true ∧ a0_4.size ≤ 200 ∧ a0_5.size ≤ 200 ∧ a1_6.size ≤ 1000
 ·obtain ⟨rfl, rfl, s4, s5, s6⟩ := hg
  obtain ⟨tv, sn, er, ka, ks, e2, e3⟩ := hear_ref a1_0 a1_1 a1_2 a1_3 a1_4 a1_5 a1_6 a1_7 a1_8 a2 a3_0 a3_1 a3_2 h h' (hl1 rfl)
  have hT := read_len h' (hl1 rfl) e3
  have hD := hearP_len tv er ka ks a1_0 a1_1 a1_2 a1_3 a1_4 a1_5 a1_6 a1_7 a1_8 a2 a3_0 a3_1
  have hV := hearP_val tv er ka ks a1_0 a1_1 a1_2 a1_3 a1_4 a1_5 a1_6 a1_7 a1_8 a2 a3_0 a3_1
  have hF := hearP_due tv er ka ks a1_0 a1_1 a1_2 a1_3 a1_4 a1_5 a1_6 a1_7 a1_8 a2 a3_0 a3_1
  generalize hearP tv er ka ks a1_0 a1_1 a1_2 a1_3 a1_4 a1_5 a1_6 a1_7 a1_8 a2 a3_0 a3_1 = R at e2 hD hV hF
  obtain ⟨r0, r1, r2, r3, r4, r5, r6, r7, r8, D⟩ := R
  obtain rfl : r6 = a1_6 := hV
  have HRH := Aside0.mk (fun (W : World) (hb : Below w.heap.size w W) => umpireref21_Hear.calls _ _ _ _ _ _ _ _ _ _ _ _ Aa3_2 ca3_2 a3_2 _ _ _ _ _ _ _ _ _ _ W (Kd.C_below ra3_2 hb) la3_2 e2)
  match D, hD with
  | [], _ => exact answers_none _ _ _ _ _ _ _ _ _ _ _ _ _ _ _ _ _ _ _ _ _ _ _ _ _ _ _ _ _ _ _ _ _ _ _ _ _ _ _ w s4 s5 s6 HAW HM1 HM2 HRH
  | [⟨d0, d1, d2, d3⟩], _ =>
   have hd3 : d3.size ≤ 1000 := Nat.le_trans (hF ⟨d0, d1, d2, d3⟩ (List.mem_singleton.2 rfl)) hT
   obtain ⟨tq, nq, eq, kq, g1, g2, g3, g4⟩ := reads_both a4_0 a4_1 a4_2 hq hq' (hl2 rfl)
   have c1 : ∀ W, Below w.heap.size w W → (Kd.int .u8).C W Aa4_2 a4_2.length a4_2 := fun W hb => Kd.C_below ra4_2 hb
   obtain ⟨⟨y2, y7, y8, yb⟩, hy⟩ : ∃ y, answerB (a5 != d1) (a4_1 != d2) (d0 == 9) (d0 == 10) (d0 == 11) (a4_0 == 2) (a4_0 == 3) (a4_0 == 4) kq a0_4.toList.isEmpty (rightF d2 a0_4 (bytesOf r6) (bytesOf d3)) (eq == 0) ((tq.length : Int) == 16) a0_5.toList.isEmpty (rightF d2 a0_5 (bytesOf d3) tq) r2 r7 r8 a4_1 = y := ⟨_, rfl⟩
   have h23 : ((a4_0 == 2) && (a4_0 == 3)) = false := by
    by_cases e : a4_0 = 2
    ·subst e; rfl
    ·simp [e]
   have l6 := bytesOf_length r6
   have l3 := bytesOf_length d3
   refine answers_one _ _ _ _ _ _ _ _ _ _ _ _ _ _ _ _ _ _ _ _ _ _ _ _ _ _ _ _ _ _ r0 r1 r2 r3 r4 r5 r6 r7 r8 d0 d1 d2 d3 y2 y7 yb y8 w s4 s5 s6 HAW HM1 HM2 HRH ⟨fun W hb => ?_⟩ ⟨fun W hb => ?_⟩
   ·refine answer_calls _ _ _ _ _ _ _ _ _ _ _ _ _ _ _ _ _ _ _ _ _ _ a5 a4_0 a4_1 Aa4_2 ca4_2 a4_2.length tq tq.length (a5 != d1) (a4_1 != d2) (d0 == 9) (d0 == 10) (d0 == 11) (a4_0 == 2) (eq == 0) ((tq.length : Int) == 16) a0_5.toList.isEmpty (rightF d2 a0_5 (bytesOf d3) tq) (judgedB (d0 == 9) (a4_0 == 2) (a4_0 == 3) (a4_0 == 4) r2 kq a0_4.toList.isEmpty (rightF d2 a0_4 (bytesOf r6) (bytesOf d3))).1 (judgedB (d0 == 9) (a4_0 == 2) (a4_0 == 3) (a4_0 == 4) r2 kq a0_4.toList.isEmpty (rightF d2 a0_4 (bytesOf r6) (bytesOf d3))).2 y2 y7 yb y8 W rfl rfl rfl rfl rfl rfl rfl rfl (by omega) ⟨rfl⟩ ⟨fun _ _ W1 hb1 => ?_⟩ ⟨fun _ W1 hb1 => ?_⟩ ⟨fun _ W1 A1 n1 A2 n2 hb1 q1 q2 q3 q4 => ?_⟩ hy
    ·refine judged_calls _ _ _ _ _ _ _ _ _ _ _ _ _ _ _ _ _ _ _ _ _ _ a4_0 a4_1 Aa4_2 ca4_2 a4_2.length (d0 == 9) (a4_0 == 2) (a4_0 == 3) (a4_0 == 4) kq a0_4.toList.isEmpty (rightF d2 a0_4 (bytesOf r6) (bytesOf d3)) _ _ W1 rfl rfl rfl rfl rfl (by omega) (by omega) ⟨fun W2 hb2 => ?_⟩ ⟨fun _ W2 A1 n1 A2 n2 hb2 q1 q2 q3 q4 => ?_⟩ rfl
     ·exact PAuthBase.auth_say.calls a4_0 a4_1 Aa4_2 ca4_2 a4_2 kq W2 (c1 W2 (below_step (below_step hb hb1) hb2)) la4_2 g1
     ·have q := right_calls d2 a0_4 A1 n1 (bytesOf r6) A2 n2 (bytesOf d3) W2 (by rw [l6]; exact q1) (by rw [l6]; exact q2) (isB_bytesOf _) (by omega) (by omega) (by rw [l3]; exact q3) (by rw [l3]; exact q4)
      rw [l6, l3] at q
      exact q
    ·exact PAuthBase.auth_value.calls a4_0 a4_1 Aa4_2 ca4_2 a4_2 tq (eq == 0) W1 (c1 W1 (below_step hb hb1)) la4_2 g3
    ·have q := right_calls d2 a0_5 A1 n1 (bytesOf d3) A2 n2 tq W1 (by rw [l3]; exact q1) (by rw [l3]; exact q2) (isB_bytesOf _) (by omega) (by omega) q3 q4
     rw [l3] at q
     exact q
   ·refine refanswer_calls _ _ _ _ _ _ _ _ _ _ _ _ _ _ _ _ _ _ _ _ _ _ a5 a4_0 a4_1 Aa4_2 ca4_2 a4_2.length tq nq eq tq.length (a5 != d1) (a4_1 != d2) (d0 == 9) (d0 == 10) (d0 == 11) (a4_0 == 2) (a4_0 == 3) (a4_0 == 4) kq a0_4.toList.isEmpty (rightF d2 a0_4 (bytesOf r6) (bytesOf d3)) (eq == 0) ((tq.length : Int) == 16) a0_5.toList.isEmpty (rightF d2 a0_5 (bytesOf d3) tq) y2 y7 yb y8 W rfl rfl rfl rfl rfl rfl rfl rfl rfl rfl rfl h23 rfl rfl rfl rfl (by omega) (by omega) ⟨rfl⟩ ⟨fun W1 hb1 => ?_⟩ ⟨fun W1 A1 n1 A2 n2 hb1 q1 q2 q3 q4 => ?_⟩ ⟨fun W1 hb1 => ?_⟩ ⟨fun W1 A1 n1 A2 n2 hb1 q1 q2 q3 q4 => ?_⟩ hy
    ·exact PAuthBase.umpireref21_say.calls 5 a4_0 a4_1 Aa4_2 ca4_2 a4_2 kq W1 (c1 W1 (below_step hb hb1)) la4_2 g2
    ·have hL := hLW.below (below_step hb hb1)
     have q := refright_calls d2 a0_4 A1 n1 (bytesOf r6) A2 n2 (bytesOf d3) W1 (by rw [l6]; exact q1) (by rw [l6]; exact q2) (isB_bytesOf _) (by omega) (by omega) (by rw [l3]; exact q3) (by rw [l3]; exact q4) hL.l hL.s
     rw [l6, l3] at q
     exact q
    ·exact PAuthBase.umpireref17_Read.calls Aa4_2 ca4_2 a4_2 tq nq eq W1 (c1 W1 (below_step hb hb1)) la4_2 g4
    ·have hL := hLW.below (below_step hb hb1)
     have q := refright_calls d2 a0_5 A1 n1 (bytesOf d3) A2 n2 tq W1 (by rw [l3]; exact q1) (by rw [l3]; exact q2) (isB_bytesOf _) (by omega) (by omega) q3 q4 hL.l hL.s
     rw [l3] at q
     exact q
 ·exact answers_no _ _ _ _ _ _ _ _ _ _ _ _ _ _ _ _ _ _ _ _ _ _ _ _ _ _ _ _ _ _ m1 m2 w ya0_4 ya0_5 ya1_6 HAW HM1 HM2 (by
   cases m1
   ·exact .inl rfl
   ·cases m2
    ·exact .inr (.inl ⟨rfl, rfl⟩)
    ·refine .inr (.inr ⟨rfl, rfl, ?_⟩)
     simp only [true_and] at hg
     omega)
end Go.Proofs.YtgadhmoifhoilaaDoor.Ans
