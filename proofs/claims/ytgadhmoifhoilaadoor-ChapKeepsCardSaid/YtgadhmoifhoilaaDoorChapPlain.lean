/-
  Layer 17's plain laws: what is put is read as it was; what is read has just these data.
-/
import Derived.Test.YtgadhmoifhoilaaDoorChapAns
import Derived.Test.YtgadhmoifhoilaaDoorAuthChap
import Derived.Test.YtgadhmoifhoilaaDoorPChapBasex1
namespace Go.Proofs.YtgadhmoifhoilaaDoor.Chap
open Go.RowKit Go.Lib Go.Proofs.YtgadhmoifhoilaaDoorW.PrintWords Go.Proofs.YtgadhmoifhoilaaDoorW.PrintLast Go.Proofs.YtgadhmoifhoilaaDoorW.PrintMore Go.Proofs.YtgadhmoifhoilaaDoor.Kit Go.Proofs.YtgadhmoifhoilaaDoor.Md5

theorem strOfNums_data' (l : List Int) : (strOfNums l).data.toList = l.map fun n => UInt8.ofNat n.toNat := by simp [strOfNums]
theorem bytes_back (s : ByteArray) : strOfNums (bytesOf s) = s := by
  unfold strOfNums bytesOf
  rw [List.map_map]
  have : (s.data.toList.map ((fun n : Int => UInt8.ofNat n.toNat) ∘ fun b : UInt8 => (b.toNat : Int))) = s.data.toList := by
    rw [List.map_congr_left (g := id) (fun b _ => by simp)]
    simp
  rw [this]
theorem back_bytes {l : List Int} (h : isB l = true) : bytesOf (strOfNums l) = l := by
  unfold bytesOf
  rw [strOfNums_data', List.map_map]
  rw [List.map_congr_left (g := id) (fun x hx => by
    have := List.all_eq_true.1 h x hx
    simp at this ⊢
    omega)]
  simp
theorem str_size (l : List Int) : (strOfNums l).size = l.length := by
  have h := data_length (strOfNums l)
  rw [strOfNums_data', List.length_map] at h
  exact h.symm
theorem put_form (l : List Int) (s : ByteArray) (hl : l.length ≤ 1000000) (hs : s.size ≤ 1000000) :
    PChapBase.chap_Put.f 5 l s = some (if l.length < 1 ∨ 255 < l.length then ([], 1) else if 65526 < s.size then ([], 4) else ([(l.length : Int) % 256] ++ l ++ bytesOf s, 0)) := by
  have j : ∀ b : Bool, PChapBase.chap_Put.j0 5 b l s = some (if b = true then ([], 1) else if 65526 < s.size then ([], 4) else ([(l.length : Int) % 256] ++ l ++ bytesOf s, 0)) := by
    intro b
    simp only [PChapBase.chap_Put.j0]
    by_cases hb : b = true
    · rw [if_pos hb, if_pos hb]
    · rw [if_neg hb, if_neg hb]
      by_cases h4 : 65526 < s.size
      · rw [if_pos (by omega), if_pos h4]
      · rw [if_neg (by omega), if_neg h4]
        simp only [Option.bind_some]
        rw [if_pos (by simp; omega), if_pos (by simp; omega)]
  unfold PChapBase.chap_Put.f
  by_cases h1 : l.length < 1
  · rw [if_pos (by omega), if_pos (.inl h1), j, if_pos rfl]
  · rw [if_neg (by omega), j]
    by_cases h2 : 255 < l.length
    · rw [if_pos (decide_eq_true (by omega)), if_pos (.inr h2)]
    · rw [if_neg (show ¬ (decide ((l.length : Int) > 255) = true) by simp; omega), if_neg (show ¬ (l.length < 1 ∨ 255 < l.length) by omega)]
theorem read_of {n : Nat} {l : List Int} {s : ByteArray} (hn : l.length = n) (h1 : 1 ≤ n) (h2 : n ≤ 255) (hs : s.size ≤ 65526) (hB : isB l = true) : AuthHand.chap_Read.f ([(n : Int)] ++ l ++ bytesOf s) = some (l, s, 0) := by
  have hlen : ([(n : Int)] ++ l ++ bytesOf s).length = 1 + n + s.size := by simp [bytesOf_length, hn]; omega
  have hr : rd ([(n : Int)] ++ l ++ bytesOf s) 0 = (n : Int) := by simp [rd]
  have hBB : isB ([(n : Int)] ++ l ++ bytesOf s) = true := isB_append (isB_append (by unfold isB; simp; omega) hB) (isB_bytesOf s)
  unfold AuthHand.chap_Read.f
  rw [if_pos ⟨hBB, by omega⟩, if_neg (by omega), hr, if_neg (by omega), if_neg (by omega), if_neg (by omega), Int.toNat_natCast]
  have e : ([(n : Int)] ++ l ++ bytesOf s).drop 1 = l ++ bytesOf s := rfl
  rw [e, ← hn, List.take_left, List.drop_left, bytes_back]
theorem put_read {l : List Int} {s : ByteArray} (hB : isB l = true) (hl : l.length ≤ 1000000) (hs : s.size ≤ 1000000) {b : List Int} (h : PChapBase.chap_Put.f 5 l s = some (b, 0)) : AuthHand.chap_Read.f b = some (l, s, 0) ∧ isB b = true ∧ b.length ≤ 100000 := by
  rw [put_form l s hl hs] at h
  by_cases h1 : l.length < 1 ∨ 255 < l.length
  · rw [if_pos h1] at h; simp at h
  · rw [if_neg h1] at h
    by_cases h4 : 65526 < s.size
    · rw [if_pos h4] at h; simp at h
    · rw [if_neg h4] at h
      simp only [Option.some.injEq, Prod.mk.injEq, and_true] at h
      subst h
      have e : ((l.length : Int) % 256) = (l.length : Int) := by omega
      rw [e]
      exact ⟨read_of rfl (by omega) (by omega) (by omega) hB, isB_append (isB_append (by unfold isB; simp; omega) hB) (isB_bytesOf s), by simp [bytesOf_length]; omega⟩
/-- What is read: nothing with an error; else just these data. -/
theorem read_put {b v : List Int} {n : ByteArray} {e : Int} (hB : isB b = true) (hl : b.length ≤ 1000000) (h : AuthHand.chap_Read.f b = some (v, n, e)) : (e ≠ 0 ∧ v = [] ∧ n = (⟨#[]⟩ : ByteArray)) ∨ (e = 0 ∧ PChapBase.chap_Put.f 5 v n = some (b, 0) ∧ v.length ≤ 255 ∧ n.size ≤ 65526) := by
  have hr := rd_byte hB 0
  unfold AuthHand.chap_Read.f at h
  rw [if_pos ⟨hB, hl⟩] at h
  by_cases h0 : b.length = 0
  · rw [if_pos h0] at h; simp only [Option.some.injEq, Prod.mk.injEq] at h; obtain ⟨rfl, rfl, rfl⟩ := h; exact .inl ⟨by decide, rfl, rfl⟩
  rw [if_neg h0] at h
  by_cases h1 : rd b 0 = 0
  · rw [if_pos h1] at h; simp only [Option.some.injEq, Prod.mk.injEq] at h; obtain ⟨rfl, rfl, rfl⟩ := h; exact .inl ⟨by decide, rfl, rfl⟩
  rw [if_neg h1] at h
  by_cases h2 : (b.length : Int) - 1 < rd b 0
  · rw [if_pos h2] at h; simp only [Option.some.injEq, Prod.mk.injEq] at h; obtain ⟨rfl, rfl, rfl⟩ := h; exact .inl ⟨by decide, rfl, rfl⟩
  rw [if_neg h2] at h
  by_cases h3 : 65526 < (b.length : Int) - 1 - rd b 0
  · rw [if_pos h3] at h; simp only [Option.some.injEq, Prod.mk.injEq] at h; obtain ⟨rfl, rfl, rfl⟩ := h; exact .inl ⟨by decide, rfl, rfl⟩
  rw [if_neg h3] at h
  simp only [Option.some.injEq, Prod.mk.injEq] at h
  obtain ⟨rfl, rfl, rfl⟩ := h
  obtain ⟨k, hk⟩ : ∃ k : Nat, rd b 0 = (k : Int) := ⟨(rd b 0).toNat, by omega⟩
  rw [hk] at h1 h2 h3 hr ⊢
  rw [Int.toNat_natCast]
  have hv : ((b.drop 1).take k).length = k := by rw [List.length_take, List.length_drop]; omega
  have hd : ((b.drop 1).drop k).length = b.length - 1 - k := by rw [List.length_drop, List.length_drop]
  refine .inr ⟨rfl, ?_, by omega, by rw [str_size]; omega⟩
  rw [put_form _ _ (by omega) (by rw [str_size]; omega), if_neg (by omega), if_neg (by rw [str_size]; omega), back_bytes (isB_drop (isB_drop hB 1) k), hv]
  have e : ((k : Int) % 256) = (k : Int) := by omega
  rw [e, List.append_assoc, List.take_append_drop, ← hk]
  congr 2
  match b, h0 with
  | x :: t, _ => simp [rd]
end Go.Proofs.YtgadhmoifhoilaaDoor.Chap
