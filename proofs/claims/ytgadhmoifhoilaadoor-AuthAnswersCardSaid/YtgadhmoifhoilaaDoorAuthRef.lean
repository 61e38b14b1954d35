/-
  umpireref21.Hear by hand: what it tells of a login, a protocol and a packet.
-/
import Derived.Test.YtgadhmoifhoilaaDoorAuthRefA
import Derived.Test.YtgadhmoifhoilaaDoorAuthRefB
import Derived.Test.YtgadhmoifhoilaaDoorAuthRefC
namespace Go.Proofs.YtgadhmoifhoilaaDoor.AuthHand
open Go.RowKit Go.Lib Go.Proofs.YtgadhmoifhoilaaDoorW.PrintWords Go.Proofs.YtgadhmoifhoilaaDoorW.PrintLast Go.Proofs.YtgadhmoifhoilaaDoorW.PrintMore Go.Proofs.YtgadhmoifhoilaaDoor.Kit
set_option linter.unusedVariables false
set_option linter.unusedSimpArgs false
def hearP (tv : List Int) (er : Int) (ka ks : Bool) (a0_0 a0_1 : Int) (a0_2 a0_3 a0_4 : Bool) (a0_5 : Int) (a0_6 : ByteArray) (a0_7 : Bool) (a0_8 a1 a2_0 a2_1 : Int) : Int × Int × Bool × Bool × Bool × Int × ByteArray × Bool × Int × List PAuthBase.S60 :=
 if a1 = 49187 then
  if a2_0 = 1 ∧ a0_0 = 49187 ∧ ka = true then (a0_0, a0_1, a0_2, a0_3, a0_4, a0_5, a0_6, a0_7, a0_8, [⟨9, a1, a2_1, ⟨#[]⟩⟩])
  else if a0_1 = 49187 ∧ (a0_7 && (a2_1 == a0_8)) = true ∧ ks = true ∧ a2_0 = 2 then (a0_0, a0_1, a0_2, true, a0_4, a0_5, a0_6, a0_7, a0_8, [])
  else if a0_1 = 49187 ∧ (a0_7 && (a2_1 == a0_8)) = true ∧ ks = true ∧ a2_0 = 3 then (a0_0, a0_1, a0_2, a0_3, a0_4, a0_5, a0_6, false, a0_8, [])
  else (a0_0, a0_1, a0_2, a0_3, a0_4, a0_5, a0_6, a0_7, a0_8, [])
 else if a1 = 49699 then
  if a2_0 = 1 then (if a0_1 = 49699 ∧ er = 0 then (a0_0, a0_1, a0_2, a0_3, a0_4, a0_5, a0_6, a0_7, a0_8, [⟨11, a1, a2_1, strOfNums tv⟩]) else (a0_0, a0_1, a0_2, a0_3, a0_4, a0_5, a0_6, a0_7, a0_8, []))
  else if a2_0 = 2 then (if a0_0 = 49699 ∧ a0_4 = true ∧ a2_1 = a0_5 ∧ er = 0 ∧ (tv.length : Int) = 16 then (a0_0, a0_1, a0_2, a0_3, a0_4, a0_5, a0_6, a0_7, a0_8, [⟨10, a1, a2_1, strOfNums tv⟩]) else (a0_0, a0_1, a0_2, a0_3, a0_4, a0_5, a0_6, a0_7, a0_8, []))
  else if a2_0 = 3 ∧ a0_1 = 49699 ∧ (a0_7 && (a2_1 == a0_8)) = true then (a0_0, a0_1, a0_2, true, a0_4, a0_5, a0_6, a0_7, a0_8, [])
  else if a2_0 = 4 ∧ a0_1 = 49699 ∧ (a0_7 && (a2_1 == a0_8)) = true then (a0_0, a0_1, a0_2, false, a0_4, a0_5, a0_6, a0_7, a0_8, [])
  else (a0_0, a0_1, a0_2, a0_3, a0_4, a0_5, a0_6, a0_7, a0_8, [])
 else (a0_0, a0_1, a0_2, a0_3, a0_4, a0_5, a0_6, a0_7, a0_8, [])
def umpireref21_Hear.f (a0_0 a0_1 : Int) (a0_2 a0_3 a0_4 : Bool) (a0_5 : Int) (a0_6 : ByteArray) (a0_7 : Bool) (a0_8 a1 a2_0 a2_1 : Int) (l2_2 : List Int) : Option (Int × Int × Bool × Bool × Bool × Int × ByteArray × Bool × Int × List PAuthBase.S60) :=
 (PAuthBase.umpireref17_Read.f l2_2).bind fun c => (PAuthBase.umpireref21_ask.f 5 a2_0 a2_1 l2_2).bind fun ka => (PAuthBase.umpireref21_say.f 5 a2_0 a2_1 l2_2).bind fun ks => some (hearP c.1 c.2.2 ka ks a0_0 a0_1 a0_2 a0_3 a0_4 a0_5 a0_6 a0_7 a0_8 a1 a2_0 a2_1)
theorem umpireref21_Hear.calls (a0_0 a0_1 : Int) (a0_2 a0_3 a0_4 : Bool) (a0_5 : Int) (a0_6 : ByteArray) (a0_7 : Bool) (a0_8 a1 a2_0 a2_1 : Int) (A2_2 : Option Addr) (c2_2 : Nat) (l2_2 : List Int) (r1 r2 : Int) (r3 r4 r5 : Bool) (r6 : Int) (r7 : ByteArray) (r8 : Bool) (r9 : Int) (r10 : List PAuthBase.S60) (w : World) (hr2_2 : Kd.C (Kd.int .u8) w A2_2 l2_2.length l2_2) (hc2_2 : l2_2.length ≤ c2_2)
  (h : umpireref21_Hear.f a0_0 a0_1 a0_2 a0_3 a0_4 a0_5 a0_6 a0_7 a0_8 a1 a2_0 a2_1 l2_2 = some (r1, r2, r3, r4, r5, r6, r7, r8, r9, r10)) :
  Calls Tryd.prog 28 #[.agg #[.int .i64 a0_0, .int .i64 a0_1, .bool a0_2, .bool a0_3, .bool a0_4, .int .i64 a0_5, .string a0_6, .bool a0_7, .int .i64 a0_8], .int .i64 a1, .agg #[.int .i64 a2_0, .int .i64 a2_1, .slice A2_2 l2_2.length c2_2]] w fun e w' =>
   ∃ v9_ : Value, e = .returned (.tuple #[.agg #[.int .i64 r1, .int .i64 r2, .bool r3, .bool r4, .bool r5, .int .i64 r6, .string r7, .bool r8, .int .i64 r9], v9_]) ∧ Kd.R PAuthBase.k60 60 w' w.heap.size (fun _ => True) v9_ r10 ∧ Below w.heap.size w w' := by
 unfold umpireref21_Hear.f at h
 obtain ⟨⟨tv, sn, er⟩, hrd, ha⟩ := Option.bind_eq_some_iff.1 h
 obtain ⟨ka, hka, hb⟩ := Option.bind_eq_some_iff.1 ha
 obtain ⟨ks, hks, hc⟩ := Option.bind_eq_some_iff.1 hb
 clear h ha hb
 have HRD := Aside0.mk (show ∀ W, Below w.heap.size w W → Calls Tryd.prog 20 #[.slice A2_2 l2_2.length c2_2] W fun e w' => ∃ v0_ : Value, e = .returned (.tuple #[.agg #[v0_, .string sn], .int .i64 er]) ∧ Kd.R (Kd.int .u8) 5 w' W.heap.size (fun _ => True) v0_ tv ∧ Below W.heap.size W w' from fun W hb => PAuthBase.umpireref17_Read.calls A2_2 c2_2 l2_2 tv sn er W (Kd.C_below hr2_2 hb) hc2_2 hrd)
 have HAS := Aside0.mk (show ∀ W, Below w.heap.size w W → Calls Tryd.prog 44 #[.agg #[.int .i64 a2_0, .int .i64 a2_1, .slice A2_2 l2_2.length c2_2]] W fun e w' => e = .returned (.bool ka) ∧ Below W.heap.size W w' from fun W hb => PAuthBase.umpireref21_ask.calls 5 a2_0 a2_1 A2_2 c2_2 l2_2 ka W (Kd.C_below hr2_2 hb) hc2_2 hka)
 have HSA := Aside0.mk (show ∀ W, Below w.heap.size w W → Calls Tryd.prog 45 #[.agg #[.int .i64 a2_0, .int .i64 a2_1, .slice A2_2 l2_2.length c2_2]] W fun e w' => e = .returned (.bool ks) ∧ Below W.heap.size W w' from fun W hb => PAuthBase.umpireref21_say.calls 5 a2_0 a2_1 A2_2 c2_2 l2_2 ks W (Kd.C_below hr2_2 hb) hc2_2 hks)
 obtain ⟨mi, HMI⟩ : ∃ m : Bool, (a0_7 && (a2_1 == a0_8)) = m := ⟨_, rfl⟩
 have HM := Aside0.mk HMI
 simp only [hearP, HMI, Option.some.injEq] at hc
 clear hrd hka hks hr2_2 hc2_2 HMI
 by_cases hp : a1 = 49187
 ·subst hp
  rw [if_pos rfl] at hc
  by_cases hA : a2_0 = 1 ∧ a0_0 = 49187 ∧ ka = true
  ·rw [if_pos hA] at hc
   obtain ⟨rfl, rfl, rfl⟩ := hA
   simp only [Prod.mk.injEq] at hc
   obtain ⟨rfl, rfl, rfl, rfl, rfl, rfl, rfl, rfl, rfl, rfl⟩ := hc
   exact hear_due9 49187 a0_1 a0_2 a0_3 a0_4 a0_5 a0_6 a0_7 a0_8 49187 1 a2_1 A2_2 c2_2 l2_2.length tv sn er true ks mi _ _ _ _ _ _ _ _ _ _ _ _ _ HM rfl rfl rfl rfl rfl rfl rfl rfl rfl rfl rfl rfl rfl (by simp) w HRD HAS HSA
  ·rw [if_neg hA] at hc
   by_cases hB : a0_1 = 49187 ∧ mi = true ∧ ks = true ∧ a2_0 = 2
   ·rw [if_pos hB] at hc
    obtain ⟨rfl, rfl, rfl, rfl⟩ := hB
    simp only [Prod.mk.injEq] at hc
    obtain ⟨rfl, rfl, rfl, rfl, rfl, rfl, rfl, rfl, rfl, rfl⟩ := hc
    exact hear_ok a0_0 49187 a0_2 a0_3 a0_4 a0_5 a0_6 a0_7 a0_8 49187 2 a2_1 A2_2 c2_2 l2_2.length tv sn er ka true true _ _ _ _ _ _ _ _ _ _ _ _ _ HM rfl rfl rfl rfl rfl rfl rfl rfl rfl rfl rfl rfl rfl (by simp) w HRD HAS HSA
   ·rw [if_neg hB] at hc
    by_cases hC : a0_1 = 49187 ∧ mi = true ∧ ks = true ∧ a2_0 = 3
    ·rw [if_pos hC] at hc
     obtain ⟨rfl, rfl, rfl, rfl⟩ := hC
     simp only [Prod.mk.injEq] at hc
     obtain ⟨rfl, rfl, rfl, rfl, rfl, rfl, rfl, rfl, rfl, rfl⟩ := hc
     exact hear_nak a0_0 49187 a0_2 a0_3 a0_4 a0_5 a0_6 a0_7 a0_8 49187 3 a2_1 A2_2 c2_2 l2_2.length tv sn er ka true true _ _ _ _ _ _ _ _ _ _ _ _ _ HM rfl rfl rfl rfl rfl rfl rfl rfl rfl rfl rfl rfl rfl (by simp) w HRD HAS HSA
    ·rw [if_neg hC] at hc
     simp only [Prod.mk.injEq] at hc
     obtain ⟨rfl, rfl, rfl, rfl, rfl, rfl, rfl, rfl, rfl, rfl⟩ := hc
     by_cases h1 : a2_0 = 1
     ·subst h1
      by_cases h2 : a0_0 = 49187
      ·exact hear_pap2 a0_0 a0_1 a0_2 a0_3 a0_4 a0_5 a0_6 a0_7 a0_8 49187 1 a2_1 A2_2 c2_2 l2_2.length tv sn er ka ks mi _ _ _ _ _ _ _ _ _ _ _ _ _ HM rfl rfl rfl rfl rfl rfl rfl rfl rfl rfl rfl rfl rfl (by by_cases t_ : a0_1 = 49187 <;> cases mi <;> cases ks <;> simp_all) w HRD HAS HSA
      ·exact hear_pap1 a0_0 a0_1 a0_2 a0_3 a0_4 a0_5 a0_6 a0_7 a0_8 49187 1 a2_1 A2_2 c2_2 l2_2.length tv sn er ka ks mi _ _ _ _ _ _ _ _ _ _ _ _ _ HM rfl rfl rfl rfl rfl rfl rfl rfl rfl rfl rfl rfl rfl (by by_cases t_ : a0_1 = 49187 <;> cases mi <;> cases ks <;> simp_all) w HRD HAS HSA
     ·exact hear_pap0 a0_0 a0_1 a0_2 a0_3 a0_4 a0_5 a0_6 a0_7 a0_8 49187 a2_0 a2_1 A2_2 c2_2 l2_2.length tv sn er ka ks mi _ _ _ _ _ _ _ _ _ _ _ _ _ HM rfl rfl rfl rfl rfl rfl rfl rfl rfl rfl rfl rfl rfl (by by_cases t_ : a0_1 = 49187 <;> cases mi <;> cases ks <;> simp_all) w HRD HAS HSA
 ·rw [if_neg hp] at hc
  by_cases hq : a1 = 49699
  ·subst hq
   rw [if_pos rfl] at hc
   by_cases h1 : a2_0 = 1
   ·subst h1
    rw [if_pos rfl] at hc
    by_cases hA : a0_1 = 49699 ∧ er = 0
    ·rw [if_pos hA] at hc
     obtain ⟨rfl, rfl⟩ := hA
     simp only [Prod.mk.injEq] at hc
     obtain ⟨rfl, rfl, rfl, rfl, rfl, rfl, rfl, rfl, rfl, rfl⟩ := hc
     exact hear_due11 a0_0 49699 a0_2 a0_3 a0_4 a0_5 a0_6 a0_7 a0_8 49699 1 a2_1 A2_2 c2_2 l2_2.length tv sn 0 ka ks mi _ _ _ _ _ _ _ _ _ _ _ _ _ HM rfl rfl rfl rfl rfl rfl rfl rfl rfl rfl rfl rfl rfl (by simp) w HRD HAS HSA
    ·rw [if_neg hA] at hc
     simp only [Prod.mk.injEq] at hc
     obtain ⟨rfl, rfl, rfl, rfl, rfl, rfl, rfl, rfl, rfl, rfl⟩ := hc
     exact hear_chal_no a0_0 a0_1 a0_2 a0_3 a0_4 a0_5 a0_6 a0_7 a0_8 49699 1 a2_1 A2_2 c2_2 l2_2.length tv sn er ka ks mi _ _ _ _ _ _ _ _ _ _ _ _ _ HM rfl rfl rfl rfl rfl rfl rfl rfl rfl rfl rfl rfl rfl (by by_cases t_ : a0_1 = 49699 <;> simp_all) w HRD HAS HSA
   ·rw [if_neg h1] at hc
    by_cases h2 : a2_0 = 2
    ·subst h2
     rw [if_pos rfl] at hc
     by_cases hA : a0_0 = 49699 ∧ a0_4 = true ∧ a2_1 = a0_5 ∧ er = 0 ∧ (tv.length : Int) = 16
     ·rw [if_pos hA] at hc
      obtain ⟨rfl, rfl, rfl, rfl, hn⟩ := hA
      simp only [Prod.mk.injEq] at hc
      obtain ⟨rfl, rfl, rfl, rfl, rfl, rfl, rfl, rfl, rfl, rfl⟩ := hc
      exact hear_due10 49699 a0_1 a0_2 a0_3 a2_1 a0_6 a0_7 a0_8 49699 2 a2_1 A2_2 c2_2 l2_2.length tv sn 0 ka ks mi _ _ _ _ _ _ _ _ _ _ _ _ _ HM rfl rfl rfl rfl rfl rfl rfl rfl rfl rfl rfl rfl rfl (by simp [hn]) w HRD HAS HSA
     ·rw [if_neg hA] at hc
      simp only [Prod.mk.injEq] at hc
      obtain ⟨rfl, rfl, rfl, rfl, rfl, rfl, rfl, rfl, rfl, rfl⟩ := hc
      exact hear_resp_no a0_0 a0_1 a0_2 a0_3 a0_4 a0_5 a0_6 a0_7 a0_8 49699 2 a2_1 A2_2 c2_2 l2_2.length tv sn er ka ks mi _ _ _ _ _ _ _ _ _ _ _ _ _ HM rfl rfl rfl rfl rfl rfl rfl rfl rfl rfl rfl rfl rfl (by by_cases t_ : a0_0 = 49699 <;> cases a0_4 <;> by_cases u_ : a2_1 = a0_5 <;> by_cases v_ : er = 0 <;> simp_all) w HRD HAS HSA
    ·rw [if_neg h2] at hc
     by_cases hA : a2_0 = 3 ∧ a0_1 = 49699 ∧ mi = true
     ·rw [if_pos hA] at hc
      obtain ⟨rfl, rfl, rfl⟩ := hA
      simp only [Prod.mk.injEq] at hc
      obtain ⟨rfl, rfl, rfl, rfl, rfl, rfl, rfl, rfl, rfl, rfl⟩ := hc
      exact hear_succ a0_0 49699 a0_2 a0_3 a0_4 a0_5 a0_6 a0_7 a0_8 49699 3 a2_1 A2_2 c2_2 l2_2.length tv sn er ka ks true _ _ _ _ _ _ _ _ _ _ _ _ _ HM rfl rfl rfl rfl rfl rfl rfl rfl rfl rfl rfl rfl rfl (by simp) w HRD HAS HSA
     ·rw [if_neg hA] at hc
      by_cases hB : a2_0 = 4 ∧ a0_1 = 49699 ∧ mi = true
      ·rw [if_pos hB] at hc
       obtain ⟨rfl, rfl, rfl⟩ := hB
       simp only [Prod.mk.injEq] at hc
       obtain ⟨rfl, rfl, rfl, rfl, rfl, rfl, rfl, rfl, rfl, rfl⟩ := hc
       exact hear_fail a0_0 49699 a0_2 a0_3 a0_4 a0_5 a0_6 a0_7 a0_8 49699 4 a2_1 A2_2 c2_2 l2_2.length tv sn er ka ks true _ _ _ _ _ _ _ _ _ _ _ _ _ HM rfl rfl rfl rfl rfl rfl rfl rfl rfl rfl rfl rfl rfl (by simp) w HRD HAS HSA
      ·rw [if_neg hB] at hc
       simp only [Prod.mk.injEq] at hc
       obtain ⟨rfl, rfl, rfl, rfl, rfl, rfl, rfl, rfl, rfl, rfl⟩ := hc
       exact hear_code_no a0_0 a0_1 a0_2 a0_3 a0_4 a0_5 a0_6 a0_7 a0_8 49699 a2_0 a2_1 A2_2 c2_2 l2_2.length tv sn er ka ks mi _ _ _ _ _ _ _ _ _ _ _ _ _ HM rfl rfl rfl rfl rfl rfl rfl rfl rfl rfl rfl rfl rfl (by by_cases t_ : a0_1 = 49699 <;> by_cases u_ : a2_0 = 3 <;> by_cases v_ : a2_0 = 4 <;> cases mi <;> simp_all) w HRD HAS HSA
  ·rw [if_neg hq] at hc
   simp only [Prod.mk.injEq] at hc
   obtain ⟨rfl, rfl, rfl, rfl, rfl, rfl, rfl, rfl, rfl, rfl⟩ := hc
   exact hear_other a0_0 a0_1 a0_2 a0_3 a0_4 a0_5 a0_6 a0_7 a0_8 a1 a2_0 a2_1 A2_2 c2_2 l2_2.length tv sn er ka ks mi _ _ _ _ _ _ _ _ _ _ _ _ _ HM rfl rfl rfl rfl rfl rfl rfl rfl rfl rfl rfl rfl rfl (by simp [hp, hq]) w HRD HAS HSA
end Go.Proofs.YtgadhmoifhoilaaDoor.AuthHand
