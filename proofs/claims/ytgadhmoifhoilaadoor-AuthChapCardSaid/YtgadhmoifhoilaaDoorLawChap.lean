/-
  The law AuthChap: what is sent, begun and answered is what the digest says; so the call returns true.
-/
import Derived.Test.YtgadhmoifhoilaaDoorAnsJ
import Derived.Test.YtgadhmoifhoilaaDoorAnsP
import Derived.Test.YtgadhmoifhoilaaDoorWalkChap
import Derived.Test.YtgadhmoifhoilaaDoorChapRight
import Derived.Test.YtgadhmoifhoilaaDoorAuthBaseD
import Derived.Test.YtgadhmoifhoilaaDoorAuthPlain
import Derived.Test.YtgadhmoifhoilaaDoorLaid
namespace Go.Proofs.YtgadhmoifhoilaaDoor.Ans
open Go.RowKit Go.Lib Go.Proofs.YtgadhmoifhoilaaDoorW.PrintWords Go.Proofs.YtgadhmoifhoilaaDoorW.PrintLast AuthHand AuthPlain Chap Md5 PAuthBase
set_option linter.unusedVariables false
theorem back_bytes' {l : List Int} (h : Kit.isB l = true) : bytesOf (strOfNums l) = l := by
 unfold bytesOf strOfNums
 rw [List.map_map]
 rw [List.map_congr_left (g := id) (fun x hx => by
  have := List.all_eq_true.1 h x hx
  simp at this ⊢
  omega)]
 simp
theorem str_size' (l : List Int) : (strOfNums l).size = l.length := by
 have h := data_length (strOfNums l)
 unfold strOfNums at h ⊢
 rw [List.length_map] at h
 omega
theorem x16_isB {l : List Int} (h : Kit.isB l = true) : Kit.isB (x16 l) = true := by
 unfold Kit.isB x16 at *
 rw [List.all_eq_true] at h ⊢
 intro x hx
 rcases List.mem_append.1 hx with h1 | h1
 ·exact h x (List.mem_of_mem_take h1)
 ·rw [(List.mem_replicate.1 h1).2]; rfl
theorem read_one {n : Nat} {l : List Int} (hn : l.length = n) (h1 : 1 ≤ n) (h2 : n ≤ 255) (hB : Kit.isB l = true) : AuthHand.chap_Read.f ((n : Int) :: l) = some (l, (⟨#[]⟩ : ByteArray), 0) := by
 have hlen : ((n : Int) :: l).length = n + 1 := by simp [hn]
 have hr : rd ((n : Int) :: l) 0 = (n : Int) := by simp [rd]
 have hBB : Kit.isB ((n : Int) :: l) = true := by
  unfold Kit.isB at *
  rw [List.all_cons, hB]
  simp
  omega
 unfold AuthHand.chap_Read.f
 rw [if_pos ⟨hBB, by omega⟩, if_neg (by omega), hr, if_neg (by omega), if_neg (by omega), if_neg (by omega), Int.toNat_natCast]
 have e : ((n : Int) :: l).drop 1 = l := rfl
 rw [e, ← hn, List.take_length, List.drop_length]
 rfl
theorem some_secret {s : ByteArray} (h : 1 ≤ s.size) : s.toList.isEmpty = false := by
 rw [Go.ByteArray.toList_eq]
 have h1 := data_length s
 cases e : s.data.toList with
 | nil => rw [e] at h1; simp at h1; omega
 | cons a b => rfl
theorem chap_said (s cs xs : ByteArray) (id pc : Int) (c3 c4 b : Bool) (w : World) (hs1 : 1 ≤ s.size) (hs2 : s.size ≤ 200) (hcs : cs.size ≤ 1000) (hxs : xs.size ≤ 1000) (hc2 : (pc == 2) = false) (hc2' : (pc != 2) = true) (hc3 : (pc == 3) = c3) (hc4 : (pc == 4) = c4) (hb : rightF id s (bytesOf cs) (bytesOf xs) = b) (q : Bool) (hq : (if ((c3 || c4) && (b == c3) && (c3 || true)) = true then c3 else false) = q) :
  Calls Tryd.prog 29 #[.agg #[.int .i64 0, .int .i64 0, .int .i64 0, .int .i64 0, .string s, .string (⟨#[]⟩ : ByteArray), .int .i64 0, .int .u32 0, .bool false], .agg #[.int .i64 49699, .int .i64 0, .bool false, .bool false, .bool true, .int .i64 id, .string cs, .bool false, .int .i64 0], .agg #[.int .i64 10, .int .i64 49699, .int .i64 id, .string xs], .int .i64 49699, .agg #[.int .i64 pc, .int .i64 id, .slice none 0 0]] w fun e w' => e = .returned (.tuple #[.agg #[.int .i64 49699, .int .i64 0, .bool q, .bool false, .bool true, .int .i64 id, .string cs, .bool false, .int .i64 0], .bool ((c3 || c4) && (b == c3))]) ∧ Below w.heap.size w w' := by
 obtain ⟨⟨z, g⟩, hz⟩ := reads_say (l := []) rfl
 have hk : auth_say.f pc id [] = some (g == 0) := by unfold auth_say.f; rw [hz]; rfl
 have l6 := bytesOf_length cs
 have l3 := bytesOf_length xs
 refine answer_calls 0 0 0 0 s (⟨#[]⟩ : ByteArray) 0 0 false 49699 0 false false true id cs false 0 10 49699 id xs 49699 pc id none 0 0 [] 0 false false false true false false false false true false c3 ((c3 || c4) && (b == c3)) q false ((c3 || c4) && (b == c3)) 0 w rfl (by simp) rfl rfl rfl hc2' rfl (by rw [Go.ByteArray.toList_eq]; rfl) (by omega) ⟨rfl⟩ ⟨fun _ _ W1 hb1 => ?_⟩ ⟨fun h => by cases h⟩ ⟨fun h => by cases h⟩ ?_
 ·refine judged_calls 0 0 0 0 s (⟨#[]⟩ : ByteArray) 0 0 false 49699 0 false false true id cs false 0 10 49699 id xs pc id none 0 0 false false c3 c4 (g == 0) false b c3 ((c3 || c4) && (b == c3)) W1 rfl hc2 hc3 hc4 (some_secret hs1) (by omega) (by omega) ⟨fun W2 hb2 => ?_⟩ ⟨fun _ W2 A1 n1 A2 n2 hb2 q1 q2 q3 q4 => ?_⟩ (by simp [judgedB])
  ·exact PAuthBase.auth_say.calls pc id none 0 [] (g == 0) W2 (Kd.C_nil _ _) (Nat.le_refl _) hk
  ·have q := Chap.right_calls id s A1 n1 (bytesOf cs) A2 n2 (bytesOf xs) W2 (by rw [l6]; exact q1) (by rw [l6]; exact q2) (isB_bytesOf _) (by omega) (by omega) (by rw [l3]; exact q3) (by rw [l3]; exact q4)
   rw [l6, l3, hb] at q
   exact q
 ·rw [← hq]
  simp
theorem authChap_law (a0 : ByteArray) (Aa1 : Option Addr) (ca1 : Nat) (a1 : List Int) (a2 : Int) (Aa3 : Option Addr) (ca3 : Nat) (a3 : List Int) (a4 : Int) (w : World) (ya0 : a0.size ≤ maxLen) (la1 : a1.length ≤ ca1) (ra1 : (Kd.int .u8).C w Aa1 a1.length a1) (wa1 : ∀ n ∈ a1, (Lit.int .u8 n).wf = true) (wa2 : (Lit.int .u8 a2).wf = true) (la3 : a3.length ≤ ca3) (ra3 : (Kd.int .u8).C w Aa3 a3.length a3) (wa3 : ∀ n ∈ a3, (Lit.int .u8 n).wf = true) (wa4 : (Lit.int .u8 a4).wf = true) (hLD : laidMetH Tryd.prog laid3 w) :
  Calls Tryd.prog 12 #[.string a0, .slice Aa1 a1.length ca1, .int .u8 a2, .slice Aa3 a3.length ca3, .int .u8 a4] w fun e w' => e = .returned (.bool true) ∧ Below w.heap.size w w' := by
 obtain ⟨hG, h3⟩ := of_laid hLD
 obtain ⟨hB1', hB1⟩ := isB_two wa1
 obtain ⟨hB3', hB3⟩ := isB_two wa3
 have b2 : 0 ≤ a2 ∧ a2 ≤ 255 := by simpa [Lit.wf, IntKind.min, IntKind.max, IntKind.signed, IntKind.bits] using wa2
 have b4 : 0 ≤ a4 ∧ a4 ≤ 255 := by simpa [Lit.wf, IntKind.min, IntKind.max, IntKind.signed, IntKind.bits] using wa4
 have HAW := Aside0.mk (fun (W : World) (_ : Below w.heap.size w W) => umpirelaw21_awake.calls true W rfl)
 by_cases hg : 1 ≤ a0.size ∧ a0.size ≤ 200 ∧ 1 ≤ a1.length ∧ a1.length ≤ 255
 ·obtain ⟨s1, s2, s3, s4⟩ := hg
  obtain ⟨x0, x1, x2, x3, x4, x5, x6, x7, x8, x9, x10, x11, x12, x13, x14, x15, hX⟩ := row16 (x16 a3) (x16_len a3)
  obtain ⟨o0, o1, o2, o3, o4, o5, o6, o7, o8, o9, o10, o11, o12, o13, o14, o15, hO⟩ := out_cells (ansOf a2 a0 a1)
  have hD := digest_cells hO
  have hXB : Kit.isB [x0, x1, x2, x3, x4, x5, x6, x7, x8, x9, x10, x11, x12, x13, x14, x15] = true := hX ▸ x16_isB hB3
  have e1 : AuthHand.chap_Read.f (16 :: [x0, x1, x2, x3, x4, x5, x6, x7, x8, x9, x10, x11, x12, x13, x14, x15]) = some ([x0, x1, x2, x3, x4, x5, x6, x7, x8, x9, x10, x11, x12, x13, x14, x15], (⟨#[]⟩ : ByteArray), 0) := read_one (n := 16) rfl (by omega) (by omega) hXB
  have e2 : AuthHand.chap_Read.f ((a1.length : Int) :: a1) = some (a1, (⟨#[]⟩ : ByteArray), 0) := read_one rfl s3 s4 hB1
  have v1 : ∀ i, auth_value.f 2 i (16 :: [x0, x1, x2, x3, x4, x5, x6, x7, x8, x9, x10, x11, x12, x13, x14, x15]) = some ([x0, x1, x2, x3, x4, x5, x6, x7, x8, x9, x10, x11, x12, x13, x14, x15], true) := fun i => by unfold auth_value.f; rw [e1]; rfl
  have v2 : auth_value.f 1 a2 ((a1.length : Int) :: a1) = some (a1, true) := by unfold auth_value.f; rw [e2]; rfl
  have hcs : (strOfNums a1).size ≤ 1000 := by rw [str_size']; omega
  have hxs : (strOfNums [x0, x1, x2, x3, x4, x5, x6, x7, x8, x9, x10, x11, x12, x13, x14, x15]).size ≤ 1000 := by rw [str_size']; simp
  have hR : rightF a2 a0 (bytesOf (strOfNums a1)) (bytesOf (strOfNums [x0, x1, x2, x3, x4, x5, x6, x7, x8, x9, x10, x11, x12, x13, x14, x15])) = decide ([x0, x1, x2, x3, x4, x5, x6, x7, x8, x9, x10, x11, x12, x13, x14, x15] = [o0, o1, o2, o3, o4, o5, o6, o7, o8, o9, o10, o11, o12, o13, o14, o15]) := by
   rw [back_bytes' hB1, back_bytes' hXB]
   unfold rightF
   rw [hD]
  obtain ⟨b, hb⟩ : ∃ b, decide ([x0, x1, x2, x3, x4, x5, x6, x7, x8, x9, x10, x11, x12, x13, x14, x15] = [o0, o1, o2, o3, o4, o5, o6, o7, o8, o9, o10, o11, o12, o13, o14, o15]) = b := ⟨_, rfl⟩
  rw [hb] at hR
  have lx : (16 :: [x0, x1, x2, x3, x4, x5, x6, x7, x8, x9, x10, x11, x12, x13, x14, x15] : List Int).length = 17 := rfl
  have lc : ((a1.length : Int) :: a1).length = a1.length + 1 := by rw [List.length_cons]
  refine authchap_yes a0 Aa1 ca1 a1.length a2 Aa3 ca3 a3.length a4 a1 a3 (strOfNums a1) (strOfNums [x0, x1, x2, x3, x4, x5, x6, x7, x8, x9, x10, x11, x12, x13, x14, x15]) x0 x1 x2 x3 x4 x5 x6 x7 x8 x9 x10 x11 x12 x13 x14 x15 o0 o1 o2 o3 o4 o5 o6 o7 o8 o9 o10 o11 o12 o13 o14 o15 (if (a2 == a4) = true then [⟨10, 49699, a4, strOfNums [x0, x1, x2, x3, x4, x5, x6, x7, x8, x9, x10, x11, x12, x13, x14, x15]⟩] else []) (if (a2 == a4) = true then 1 else 0) b (a2 == a4) w s1 s2 s3 s4 la1 b2.1 b2.2 b4.1 b4.2 rfl ⟨?_⟩ ?_ ⟨hX⟩ ⟨hb⟩ HAW ⟨fun W hb => Kd.C_below ra1 hb⟩ ⟨fun W hb => Kd.C_below ra3 hb⟩ ⟨fun W hb A c hC hc => ?_⟩ ⟨fun W hb A c hC hc => ?_⟩ ⟨fun W hb A c hC hc => ?_⟩ ⟨fun W hb A c hC hc => ?_⟩ ⟨fun W hb' => ?_⟩ ⟨fun W hb' => ?_⟩ ⟨fun W hb' => ?_⟩ ⟨fun W hb' => ?_⟩ ⟨fun W hb' => ?_⟩
  ·cases (a2 == a4) <;> rfl
  ·cases (a2 == a4) <;> rfl
  ·exact PAuthBase.auth_Hear.calls 5 49699 0 false false false 0 (⟨#[]⟩ : ByteArray) false 0 49699 2 a2 A c (16 :: [x0, x1, x2, x3, x4, x5, x6, x7, x8, x9, x10, x11, x12, x13, x14, x15]) _ _ _ _ _ _ _ _ _ _ W hC hc (by
    unfold auth_Hear.f
    rw [if_neg (by simp), if_neg (by simp), if_pos ⟨rfl, rfl, rfl⟩, v1]
    rfl)
  ·have q := auth_Begin.calls 49699 0 false false false 0 (⟨#[]⟩ : ByteArray) false 0 49699 1 a2 A c ((a1.length : Int) :: a1) 49699 0 false false true a2 (strOfNums a1) false 0 true W (by rw [lc]; exact hC) (by rw [lc]; exact hc) (by
    unfold auth_Begin.f
    rw [if_neg (by simp), if_pos ⟨rfl, rfl⟩, v2]
    rfl)
   rw [lc] at q
   exact q
  ·exact PAuthBase.auth_Hear.calls 5 49699 0 false false true a2 (strOfNums a1) false 0 49699 2 a2 A c (16 :: [x0, x1, x2, x3, x4, x5, x6, x7, x8, x9, x10, x11, x12, x13, x14, x15]) _ _ _ _ _ _ _ _ _ _ W hC hc (by
    unfold auth_Hear.f
    rw [if_neg (by simp), if_neg (by simp), if_pos ⟨rfl, rfl, rfl⟩, v1]
    simp)
  ·exact PAuthBase.auth_Hear.calls 5 49699 0 false false true a2 (strOfNums a1) false 0 49699 2 a4 A c (16 :: [x0, x1, x2, x3, x4, x5, x6, x7, x8, x9, x10, x11, x12, x13, x14, x15]) _ _ _ _ _ _ _ _ _ _ W hC hc (by
    unfold auth_Hear.f
    rw [if_neg (by simp), if_neg (by simp), if_pos ⟨rfl, rfl, rfl⟩, v1]
    cases (a2 == a4) <;> simp)
  ·have q := Chap.refanswer_calls a2 a0 Aa1 ca1 a1 W (Kd.C_below ra1 hb') la1 hB1 (by omega) (by omega) (hG.below hb' h3) (Nat.le_trans h3 hb'.size)
   rw [hO] at q
   exact q
  ·have q := chap_said a0 (strOfNums a1) (strOfNums [x0, x1, x2, x3, x4, x5, x6, x7, x8, x9, x10, x11, x12, x13, x14, x15]) a2 3 true false b W s1 s2 hcs hxs rfl rfl rfl rfl hR b (by cases b <;> rfl)
   rw [show ((true || false) && (b == true)) = b by cases b <;> rfl] at q
   exact q
  ·have q := chap_said a0 (strOfNums a1) (strOfNums [x0, x1, x2, x3, x4, x5, x6, x7, x8, x9, x10, x11, x12, x13, x14, x15]) a2 4 false true b W s1 s2 hcs hxs rfl rfl rfl rfl hR false (by cases b <;> rfl)
   rw [show ((false || true) && (b == false)) = !b by cases b <;> rfl] at q
   exact q
  ·exact auth_Done.calls _ _ _ _ _ _ _ _ _ b W (by cases b <;> rfl)
  ·exact auth_Done.calls _ _ _ _ _ _ _ _ _ false W rfl
 ·exact authchap_no a0 Aa1 ca1 a1.length a2 Aa3 ca3 a3.length a4 w ya0 (by have := ra1.2.1; omega) HAW (by omega)
end Go.Proofs.YtgadhmoifhoilaaDoor.Ans
