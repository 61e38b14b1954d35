/-
  Plain facts for umpirelaw21's laws: what the references read is what the program reads; which packets may be.
-/
import Derived.Test.YtgadhmoifhoilaaDoorAuthBaseD
import Derived.Test.YtgadhmoifhoilaaDoorPapHand
import Derived.Test.YtgadhmoifhoilaaDoorAuthChap
namespace Go.Proofs.YtgadhmoifhoilaaDoor.AuthPlain
open Go.RowKit Go.Proofs.YtgadhmoifhoilaaDoorW.PrintWords Go.Proofs.YtgadhmoifhoilaaDoorW.PrintLast Go.Proofs.YtgadhmoifhoilaaDoor.PapHand Go.Proofs.YtgadhmoifhoilaaDoor.PAuthBase
abbrev rd_byte {l : List Int} (h : Kit.isB l = true) (i : Int) := Kit.rd_byte h i
theorem wrapS {x : Int} (h0 : -1000000000000000000 ≤ x) (h1 : x ≤ 1000000000000000000) : wrap64 x = x := by
 unfold wrap64; omega
theorem rd_drop (l : List Int) (at_ : Nat) : rd (l.drop at_) 0 = rd l (at_ : Int) := by
 simp [rd, List.getD_eq_getElem?_getD]
theorem head_drop (l : List Int) (a n : Nat) : ((l.drop a).take (1 + n)).drop 1 = (l.take (a + 1 + n)).drop (a + 1) := by
 rw [List.take_drop, List.drop_drop, Nat.add_assoc]
theorem shorty_drop (l : List Int) (a : Nat) : shorty (l.drop a) = true ↔ l.length ≤ a ∨ (l.length : Int) < (a : Int) + 1 + rd l a := by
 simp only [shorty, Bool.or_eq_true, decide_eq_true_eq, rd_drop, List.length_drop]
 omega
theorem read_step (k : Nat) (l : List Int) (many : Int) (out : List ByteArray) (a : Nat) (i : Int) (hB : isB l = true) (hl : l.length ≤ 1000000) (hi : i < many) (hi0 : 0 ≤ i) (hm : many ≤ 100) (ho : out.length ≤ 100) :
  umpireref16_Read.l0 (k + 1) l many out (a : Int) i = if shorty (l.drop a) = true then some ([], 2) else umpireref16_Read.l0 k l many (out ++ [headT (l.drop a)]) ((a + (1 + (rd (l.drop a) 0).toNat) : Nat) : Int) (i + 1) := by
 have hr := rd_byte hB (a : Int)
 simp only [umpireref16_Read.l0]
 rw [if_pos hi]
 by_cases h1 : (a : Int) ≥ (l.length : Int)
 ·rw [if_pos h1, if_pos ((shorty_drop l a).2 (.inl (by omega)))]
 ·rw [if_neg h1, if_pos (by omega), if_pos (by omega)]
  have e1 : wrap64 ((a : Int) + 1) = (a : Int) + 1 := wrapS (by omega) (by omega)
  have e2 : wrap64 (rd l (a : Int)) = rd l (a : Int) := wrapS (by omega) (by omega)
  rw [e1, e2, wrapS (by omega) (by omega)]
  by_cases h2 : (a : Int) + 1 + rd l (a : Int) > (l.length : Int)
  ·rw [if_pos h2, if_pos ((shorty_drop l a).2 (.inr (by omega)))]
  ·rw [if_neg h2, if_pos (by omega), if_pos (by omega), if_pos (by omega), if_pos (by omega), if_neg (fun h => by have := (shorty_drop l a).1 h; omega), wrapS (by omega) (by omega)]
   have e3 : headT (l.drop a) = strOfNums ((l.take ((a : Int) + 1 + rd l (a : Int)).toNat).drop ((a : Int) + 1).toNat) := by
    unfold headT
    rw [rd_drop, head_drop]
    rw [show ((a : Int) + 1 + rd l (a : Int)).toNat = a + 1 + (rd l (a : Int)).toNat from by omega, show ((a : Int) + 1).toNat = a + 1 from by omega]
   rw [e3, rd_drop]
   rw [show ((a : Int) + 1 + rd l (a : Int)) = ((a + (1 + (rd l (a : Int)).toNat) : Nat) : Int) from by omega]
theorem read_end (k : Nat) (l : List Int) (many : Int) (out : List ByteArray) (a : Nat) (i : Int) (hi : many ≤ i) :
  umpireref16_Read.l0 (k + 1) l many out (a : Int) i = if (l.drop a).length = 0 then some (out, 0) else some ([], 3) := by
 simp only [umpireref16_Read.l0, List.length_drop]
 rw [if_neg (by omega)]
 by_cases h : (a : Int) < (l.length : Int)
 ·rw [if_pos h, if_neg (by omega)]
 ·rw [if_neg h, if_pos (by omega)]
theorem rest_drop (l : List Int) (a : Nat) : restT (l.drop a) = l.drop (a + (1 + (rd (l.drop a) 0).toNat)) := by
 unfold restT
 rw [List.drop_drop]
theorem say_ref (k : Nat) (l : List Int) (hB : isB l = true) (hl : l.length ≤ 1000000) : umpireref16_Say.f (k + 2) l = pap_ReadSay.f l := by
 unfold umpireref16_Say.f umpireref16_Read.f pap_ReadSay.f
 have h0 := read_step (k + 1) l 1 [] 0 0 hB hl (by omega) (by omega) (by omega) (by simp)
 rw [if_pos hB]
 rw [show ((0 : Nat) : Int) = 0 from rfl, List.drop_zero] at h0
 rw [h0]
 by_cases hs : shorty l = true
 ·rw [if_pos hs, if_pos hs]; rfl
 ·rw [if_neg hs, if_neg hs, read_end _ _ _ _ _ _ (by omega)]
  have e := rest_drop l 0
  rw [List.drop_zero] at e
  rw [← e]
  by_cases hz : (restT l).length = 0
  ·rw [if_pos hz, if_pos hz]; rfl
  ·rw [if_neg hz, if_neg hz]; rfl
theorem ask_ref (k : Nat) (l : List Int) (hB : isB l = true) (hl : l.length ≤ 1000000) : umpireref16_Ask.f (k + 3) l = pap_ReadAsk.f l := by
 unfold umpireref16_Ask.f umpireref16_Read.f pap_ReadAsk.f
 have h0 := read_step (k + 2) l 2 [] 0 0 hB hl (by omega) (by omega) (by omega) (by simp)
 rw [if_pos hB]
 rw [show ((0 : Nat) : Int) = 0 from rfl, List.drop_zero] at h0
 rw [h0]
 by_cases hs : shorty l = true
 ·rw [if_pos hs, if_pos hs]; rfl
 ·have e := rest_drop l 0
  rw [List.drop_zero] at e
  rw [if_neg hs, if_neg hs, read_step (k + 1) l 2 _ _ _ hB hl (by omega) (by omega) (by omega) (by simp), ← e]
  by_cases hs2 : shorty (restT l) = true
  ·rw [if_pos hs2, if_pos hs2]; rfl
  ·have e2 := rest_drop l (0 + (1 + (rd l 0).toNat))
   rw [← e] at e2
   rw [if_neg hs2, if_neg hs2, read_end _ _ _ _ _ _ (by omega), ← e2]
   by_cases hz : (restT (restT l)).length = 0
   ·rw [if_pos hz, if_pos hz]; rfl
   ·rw [if_neg hz, if_neg hz]; rfl
theorem reads_ask {l : List Int} (h : isB l = true) : ∃ x, pap_ReadAsk.f l = some x := by
 unfold pap_ReadAsk.f
 rw [if_pos h]
 split
 ·exact ⟨_, rfl⟩
 ·split
  ·exact ⟨_, rfl⟩
  ·split <;> exact ⟨_, rfl⟩
theorem reads_say {l : List Int} (h : isB l = true) : ∃ x, pap_ReadSay.f l = some x := by
 unfold pap_ReadSay.f
 rw [if_pos h]
 split
 ·exact ⟨_, rfl⟩
 ·split <;> exact ⟨_, rfl⟩
theorem reads_chap {l : List Int} (h : Kit.isB l = true) (hl : l.length ≤ 1000000) : ∃ x, AuthHand.chap_Read.f l = some x := by
 unfold AuthHand.chap_Read.f
 rw [if_pos ⟨h, hl⟩]
 split
 ·exact ⟨_, rfl⟩
 ·split
  ·exact ⟨_, rfl⟩
  ·split
   ·exact ⟨_, rfl⟩
   ·split <;> exact ⟨_, rfl⟩
theorem chap_ref {l : List Int} (h : Kit.isB l = true) (hl : l.length ≤ 1000000) : umpireref17_Read.f l = AuthHand.chap_Read.f l := by
 unfold umpireref17_Read.f AuthHand.chap_Read.f
 have hr := Kit.rd_byte h 0
 rw [if_pos (show Kit.isB l = true ∧ l.length ≤ 1000000 from ⟨h, hl⟩)]
 by_cases h0 : l.length = 0
 ·rw [if_pos (by omega), if_pos h0]
 ·rw [if_neg (by omega), if_neg h0, if_pos (by omega)]
  have e1 : wrap64 (rd l 0) = rd l 0 := wrapS (by omega) (by omega)
  have e2 : wrap64 (1 + rd l 0) = 1 + rd l 0 := wrapS (by omega) (by omega)
  have e3 : wrap64 ((l.length : Int) - 1) = (l.length : Int) - 1 := wrapS (by omega) (by omega)
  have e4 : wrap64 ((l.length : Int) - 1 - rd l 0) = (l.length : Int) - 1 - rd l 0 := wrapS (by omega) (by omega)
  rw [e1, e2, e3, e4]
  by_cases h1 : rd l 0 = 0
  ·rw [if_pos h1, if_pos h1]
  ·rw [if_neg h1, if_neg h1]
   by_cases h2 : (l.length : Int) - 1 < rd l 0
   ·rw [if_pos h2, if_pos (by omega)]
   ·rw [if_neg h2, if_neg (by omega)]
    by_cases h3 : 65526 < (l.length : Int) - 1 - rd l 0
    ·rw [if_pos h3, if_pos h3]
    ·rw [if_neg h3, if_neg h3, if_pos (by omega), if_pos (by omega), if_pos (by omega), if_pos (by simp; omega)]
     obtain ⟨n, hn⟩ : ∃ n : Nat, rd l 0 = (n : Int) := ⟨(rd l 0).toNat, by omega⟩
     rw [hn, show ((1 : Int) + (n : Int)).toNat = 1 + n from by omega, Int.toNat_natCast, List.nil_append, List.drop_take, List.drop_drop, show 1 + n - 1 = n from by omega]
theorem may_total (k : Nat) (a b : Int) (l : List Int) : ∃ m, umpirelaw21_may.f (k + 1) a b l = some m ∧ (m = true → l.length ≤ 1000) := by
 have e : ∃ x, umpireref13_Put.f (k + 1) a b l = some x := by
  have j : ∀ c, ∃ x, umpireref13_Put.j0 (k + 1) c a b l = some x := by
   intro c
   simp only [umpireref13_Put.j0]
   split
   ·exact ⟨_, rfl⟩
   ·split
    ·exact ⟨_, rfl⟩
    ·rename_i hl
     simp only [Option.bind_some]
     rw [if_pos (by simp; omega)]
     exact ⟨_, rfl⟩
  unfold umpireref13_Put.f
  split
  ·exact j _
  ·split
   ·exact j _
   ·split <;> exact j _
 obtain ⟨x, hx⟩ := e
 unfold umpirelaw21_may.f
 rw [hx]
 simp only [Option.bind_some]
 split
 ·exact ⟨_, rfl, fun h => by have := of_decide_eq_true h; omega⟩
 ·exact ⟨_, rfl, fun h => by cases h⟩
theorem isB_two {l : List Int} (h : ∀ x ∈ l, (Lit.int .u8 x).wf = true) : isB l = true ∧ Kit.isB l = true := ⟨by have := Kit.isB_of_wf h; exact this, Kit.isB_of_wf h⟩
end Go.Proofs.YtgadhmoifhoilaaDoor.AuthPlain
