/-
  MD5's small functions: what each call answers (a turned word, a step's F and place, a word of four bytes, the sines).
-/
import Derived.Test.YtgadhmoifhoilaaDoorProg
import Derived.Below
import Derived.WalkKit
import Derived.KernelRfl
import Derived.BigQuiet
import Derived.Deep.QuietTactic
import Derived.WalkLawsBesides
import Derived.Lib.Hide
import Derived.Laws.BitsLemmas
import Derived.Test.YtgadhmoifhoilaaDoorWWords
namespace Go.Proofs.YtgadhmoifhoilaaDoor.Md5
open Go.RowKit Go.Proofs.YtgadhmoifhoilaaDoorW.PrintWords Go.Proofs.YtgadhmoifhoilaaDoorW.PrintLast
theorem wraps_u32 (n : Int) (h₀ : 0 ≤ n) (h₁ : n < 2 ^ 32) : IntKind.u32.wrap n = n := by rw [IntKind.wrap_u32]; omega
theorem wraps_u64 (n : Int) (h₀ : 0 ≤ n) (h₁ : n < 2 ^ 64) : IntKind.u64.wrap n = n := by
 simp [IntKind.wrap, IntKind.bits, IntKind.signed]; omega
theorem ret_int {k : IntKind} {a b : Int} (h : a = b) : Ending.returned (.int k a) = .returned (.int k b) := by rw [h]
def rot (x k : Int) : Int := (x * 2 ^ k.toNat) % 4294967296 + x / 2 ^ (32 - k).toNat
theorem rot_eq (x k : Int) (hx0 : 0 ≤ x) (hx1 : x < 4294967296) (hk0 : 0 ≤ k) (hk1 : k ≤ 31) :
  bits .or .u32 (x * 2 ^ k.toNat % 4294967296) (x / 2 ^ (32 - k).toNat) = rot x k := by
 obtain ⟨n, rfl⟩ := Int.eq_ofNat_of_zero_le hk0
 obtain ⟨y, rfl⟩ := Int.eq_ofNat_of_zero_le hx0
 have hn : n ≤ 31 := by omega
 have hy : y < 4294967296 := by omega
 unfold rot
 rw [Int.toNat_natCast, show (32 - (n : Int)).toNat = 32 - n from by omega]
 have e1 : ((y : Int) * 2 ^ n) % 4294967296 = ((y * 2 ^ n % 4294967296 : Nat) : Int) := by simp
 have e2 : (y : Int) / 2 ^ (32 - n) = ((y / 2 ^ (32 - n) : Nat) : Int) := by simp
 rw [e1, e2]
 have hlt : y / 2 ^ (32 - n) < 2 ^ n := by
  rw [Nat.div_lt_iff_lt_mul (Nat.two_pow_pos _), ← Nat.pow_add, show n + (32 - n) = 32 from by omega]
  omega
 have hp : (2 : Nat) ^ n * 2 ^ (32 - n) = 4294967296 := by rw [← Nat.pow_add, show n + (32 - n) = 32 from by omega]
 have hd : y * 2 ^ n % 4294967296 % 2 ^ n = 0 := by
  rw [← hp, Nat.mod_mul_right_mod, Nat.mul_mod_left]
 have hm : y * 2 ^ n % 4294967296 < 4294967296 := Nat.mod_lt _ (by decide)
 have h3 : y / 2 ^ (32 - n) < 2 ^ 32 := Nat.lt_of_lt_of_le hlt (Nat.pow_le_pow_right (by decide) (by omega))
 generalize y * 2 ^ n % 4294967296 = a at *
 generalize y / 2 ^ (32 - n) = b at *
 refine bits_join .u32 32 (by decide) wraps_u32 n _ _ (by omega) ?_ (by omega) (by omega) ?_ ?_
 ·exact_mod_cast hd
 ·exact_mod_cast hlt
 ·exact_mod_cast h3
theorem rot_range (x k : Int) (hx0 : 0 ≤ x) (hx1 : x < 4294967296) (hk0 : 0 ≤ k) (hk1 : k ≤ 31) : 0 ≤ rot x k ∧ rot x k < 4294967296 := by
 rw [← rot_eq x k hx0 hx1 hk0 hk1]
 unfold bits
 simp only [IntKind.wrap_u32]
 omega
set_option maxRecDepth 100000 in
theorem rot_calls (x k : Int) (w : World) (hx0 : 0 ≤ x) (hx1 : x < 4294967296) (hk0 : 0 ≤ k) (hk1 : k ≤ 31) :
  Calls Tryd.prog 57 #[.int .u32 x, .int .i64 k] w fun e w' => e = .returned (.int .u32 (rot x k)) ∧ w = w' := by
 have HE := Lib.hid (rot_eq x k hx0 hx1 hk0 hk1)
 have hm : bits .and .u64 k 31 = k := by
  have := bits_mask .u64 64 (by decide) wraps_u64 5 (by decide) k hk0 (by omega)
  rw [show ((2 : Int) ^ 5 - 1) = 31 from by decide] at this
  rw [this]; omega
 have hk2 : k ≤ 32 := by omega
 have hk3 : 0 ≤ 32 - k := by omega
 have hk4 : 32 - k ≤ 32 := by omega
 go_enter Tryd.func57, Tryd.ntmps57
 go_wp2
 go_ret
 exact ⟨ret_int HE.out, rfl⟩
def turnsOf (i : Int) : Int :=
 if i % 4 = 0 then (if i < 16 then 7 else if i < 32 then 5 else if i < 48 then 4 else 6)
 else if i % 4 = 1 then (if i < 16 then 12 else if i < 32 then 9 else if i < 48 then 11 else 10)
 else if i % 4 = 2 then (if i < 16 then 17 else if i < 32 then 14 else if i < 48 then 16 else 15)
 else (if i < 16 then 22 else if i < 32 then 20 else if i < 48 then 23 else 21)
theorem turnsOf_range (i : Int) : 0 ≤ turnsOf i ∧ turnsOf i ≤ 31 := by unfold turnsOf; (repeat' split) <;> omega
abbrev big : Value := .agg #[.int .i64 7, .int .i64 12, .int .i64 17, .int .i64 22, .int .i64 5, .int .i64 9, .int .i64 14, .int .i64 20, .int .i64 4, .int .i64 11, .int .i64 16, .int .i64 23, .int .i64 6, .int .i64 10, .int .i64 15, .int .i64 21]
set_option maxRecDepth 100000 in
theorem turns_core (i q r t : Int) (row : Value) (w : World) (h0 : 0 ≤ i) (h1 : i < 64) (hq : i / 16 = q) (hr : i % 4 = r)
  (hi1 : ∀ w, (Instr.index 111 big (.int .i64 q)).run Tryd.prog w = .ok row w) (hi2 : ∀ w, (Instr.index 110 row (.int .i64 r)).run Tryd.prog w = .ok (.int .i64 t) w) :
  Calls Tryd.prog 58 #[.int .i64 i] w fun e w' => e = .returned (.int .i64 t) ∧ w = w' := by
 go_enter Tryd.func58, Tryd.ntmps58
 go_wp2
 go_ret
 exact ⟨rfl, rfl⟩
theorem turns_calls (i : Int) (w : World) (h0 : 0 ≤ i) (h1 : i < 64) :
  Calls Tryd.prog 58 #[.int .i64 i] w fun e w' => e = .returned (.int .i64 (turnsOf i)) ∧ w = w' := by
 have hq : i / 16 = 0 ∨ i / 16 = 1 ∨ i / 16 = 2 ∨ i / 16 = 3 := by omega
 have hr : i % 4 = 0 ∨ i % 4 = 1 ∨ i % 4 = 2 ∨ i % 4 = 3 := by omega
 rcases hq with hq | hq | hq | hq
 ·rcases hr with hr | hr | hr | hr
  ·rw [show turnsOf i = 7 from by unfold turnsOf; (repeat' split) <;> omega]
   exact turns_core i 0 0 7 (.agg #[.int .i64 7, .int .i64 12, .int .i64 17, .int .i64 22]) w h0 h1 hq hr (fun _ => by kernel_rfl) (fun _ => by kernel_rfl)
  ·rw [show turnsOf i = 12 from by unfold turnsOf; (repeat' split) <;> omega]
   exact turns_core i 0 1 12 (.agg #[.int .i64 7, .int .i64 12, .int .i64 17, .int .i64 22]) w h0 h1 hq hr (fun _ => by kernel_rfl) (fun _ => by kernel_rfl)
  ·rw [show turnsOf i = 17 from by unfold turnsOf; (repeat' split) <;> omega]
   exact turns_core i 0 2 17 (.agg #[.int .i64 7, .int .i64 12, .int .i64 17, .int .i64 22]) w h0 h1 hq hr (fun _ => by kernel_rfl) (fun _ => by kernel_rfl)
  ·rw [show turnsOf i = 22 from by unfold turnsOf; (repeat' split) <;> omega]
   exact turns_core i 0 3 22 (.agg #[.int .i64 7, .int .i64 12, .int .i64 17, .int .i64 22]) w h0 h1 hq hr (fun _ => by kernel_rfl) (fun _ => by kernel_rfl)
 ·rcases hr with hr | hr | hr | hr
  ·rw [show turnsOf i = 5 from by unfold turnsOf; (repeat' split) <;> omega]
   exact turns_core i 1 0 5 (.agg #[.int .i64 5, .int .i64 9, .int .i64 14, .int .i64 20]) w h0 h1 hq hr (fun _ => by kernel_rfl) (fun _ => by kernel_rfl)
  ·rw [show turnsOf i = 9 from by unfold turnsOf; (repeat' split) <;> omega]
   exact turns_core i 1 1 9 (.agg #[.int .i64 5, .int .i64 9, .int .i64 14, .int .i64 20]) w h0 h1 hq hr (fun _ => by kernel_rfl) (fun _ => by kernel_rfl)
  ·rw [show turnsOf i = 14 from by unfold turnsOf; (repeat' split) <;> omega]
   exact turns_core i 1 2 14 (.agg #[.int .i64 5, .int .i64 9, .int .i64 14, .int .i64 20]) w h0 h1 hq hr (fun _ => by kernel_rfl) (fun _ => by kernel_rfl)
  ·rw [show turnsOf i = 20 from by unfold turnsOf; (repeat' split) <;> omega]
   exact turns_core i 1 3 20 (.agg #[.int .i64 5, .int .i64 9, .int .i64 14, .int .i64 20]) w h0 h1 hq hr (fun _ => by kernel_rfl) (fun _ => by kernel_rfl)
 ·rcases hr with hr | hr | hr | hr
  ·rw [show turnsOf i = 4 from by unfold turnsOf; (repeat' split) <;> omega]
   exact turns_core i 2 0 4 (.agg #[.int .i64 4, .int .i64 11, .int .i64 16, .int .i64 23]) w h0 h1 hq hr (fun _ => by kernel_rfl) (fun _ => by kernel_rfl)
  ·rw [show turnsOf i = 11 from by unfold turnsOf; (repeat' split) <;> omega]
   exact turns_core i 2 1 11 (.agg #[.int .i64 4, .int .i64 11, .int .i64 16, .int .i64 23]) w h0 h1 hq hr (fun _ => by kernel_rfl) (fun _ => by kernel_rfl)
  ·rw [show turnsOf i = 16 from by unfold turnsOf; (repeat' split) <;> omega]
   exact turns_core i 2 2 16 (.agg #[.int .i64 4, .int .i64 11, .int .i64 16, .int .i64 23]) w h0 h1 hq hr (fun _ => by kernel_rfl) (fun _ => by kernel_rfl)
  ·rw [show turnsOf i = 23 from by unfold turnsOf; (repeat' split) <;> omega]
   exact turns_core i 2 3 23 (.agg #[.int .i64 4, .int .i64 11, .int .i64 16, .int .i64 23]) w h0 h1 hq hr (fun _ => by kernel_rfl) (fun _ => by kernel_rfl)
 ·rcases hr with hr | hr | hr | hr
  ·rw [show turnsOf i = 6 from by unfold turnsOf; (repeat' split) <;> omega]
   exact turns_core i 3 0 6 (.agg #[.int .i64 6, .int .i64 10, .int .i64 15, .int .i64 21]) w h0 h1 hq hr (fun _ => by kernel_rfl) (fun _ => by kernel_rfl)
  ·rw [show turnsOf i = 10 from by unfold turnsOf; (repeat' split) <;> omega]
   exact turns_core i 3 1 10 (.agg #[.int .i64 6, .int .i64 10, .int .i64 15, .int .i64 21]) w h0 h1 hq hr (fun _ => by kernel_rfl) (fun _ => by kernel_rfl)
  ·rw [show turnsOf i = 15 from by unfold turnsOf; (repeat' split) <;> omega]
   exact turns_core i 3 2 15 (.agg #[.int .i64 6, .int .i64 10, .int .i64 15, .int .i64 21]) w h0 h1 hq hr (fun _ => by kernel_rfl) (fun _ => by kernel_rfl)
  ·rw [show turnsOf i = 21 from by unfold turnsOf; (repeat' split) <;> omega]
   exact turns_core i 3 3 21 (.agg #[.int .i64 6, .int .i64 10, .int .i64 15, .int .i64 21]) w h0 h1 hq hr (fun _ => by kernel_rfl) (fun _ => by kernel_rfl)
def fOf (i b c d : Int) : Int :=
 if i < 16 then bits .or .u32 (bits .and .u32 b c) (bits .and .u32 (bits .xor .u32 IntKind.u32.max b) d)
 else if i < 32 then bits .or .u32 (bits .and .u32 d b) (bits .and .u32 (bits .xor .u32 IntKind.u32.max d) c)
 else if i < 48 then bits .xor .u32 (bits .xor .u32 b c) d
 else bits .xor .u32 c (bits .or .u32 b (bits .xor .u32 IntKind.u32.max d))
def kOf (i : Int) : Int := if i < 16 then i else if i < 32 then (5 * i + 1) % 16 else if i < 48 then (3 * i + 5) % 16 else 7 * i % 16
theorem kOf_range (i : Int) (h0 : 0 ≤ i) : 0 ≤ kOf i ∧ kOf i < 16 := by unfold kOf; (repeat' split) <;> omega
set_option maxRecDepth 100000 in
theorem mixed_calls (i b c d : Int) (w : World) (hi0 : 0 ≤ i) (hi1 : i < 64) :
  Calls Tryd.prog 55 #[.int .i64 i, .int .u32 b, .int .u32 c, .int .u32 d] w fun e w' => e = .returned (.tuple #[.int .u32 (fOf i b c d), .int .i64 (kOf i)]) ∧ w = w' := by
 have hq : i / 16 = 0 ∨ i / 16 = 1 ∨ i / 16 = 2 ∨ i / 16 = 3 := by omega
 rcases hq with hq | hq | hq | hq
 ·have hf : fOf i b c d = bits .or .u32 (bits .and .u32 b c) (bits .and .u32 (bits .xor .u32 IntKind.u32.max b) d) := by unfold fOf; rw [if_pos (by omega)]
  have hk : kOf i = i := by unfold kOf; rw [if_pos (by omega)]
  rw [hf, hk]
  clear hf hk
  go_enter Tryd.func55, Tryd.ntmps55
  go_wp2
  go_ret2
  exact ⟨rfl, rfl⟩
 ·have hf : fOf i b c d = bits .or .u32 (bits .and .u32 d b) (bits .and .u32 (bits .xor .u32 IntKind.u32.max d) c) := by unfold fOf; rw [if_neg (by omega), if_pos (by omega)]
  have hk : kOf i = (5 * i + 1) % 16 := by unfold kOf; rw [if_neg (by omega), if_pos (by omega)]
  rw [hf, hk]
  clear hf hk
  go_enter Tryd.func55, Tryd.ntmps55
  go_wp2
  go_ret2
  exact ⟨rfl, rfl⟩
 ·have hf : fOf i b c d = bits .xor .u32 (bits .xor .u32 b c) d := by unfold fOf; rw [if_neg (by omega), if_neg (by omega), if_pos (by omega)]
  have hk : kOf i = (3 * i + 5) % 16 := by unfold kOf; rw [if_neg (by omega), if_neg (by omega), if_pos (by omega)]
  rw [hf, hk]
  clear hf hk
  go_enter Tryd.func55, Tryd.ntmps55
  go_wp2
  go_ret2
  exact ⟨rfl, rfl⟩
 ·have hf : fOf i b c d = bits .xor .u32 c (bits .or .u32 b (bits .xor .u32 IntKind.u32.max d)) := by unfold fOf; rw [if_neg (by omega), if_neg (by omega), if_neg (by omega)]
  have hk : kOf i = 7 * i % 16 := by unfold kOf; rw [if_neg (by omega), if_neg (by omega), if_neg (by omega)]
  rw [hf, hk]
  clear hf hk
  go_enter Tryd.func55, Tryd.ntmps55
  go_wp2
  go_ret2
  exact ⟨rfl, rfl⟩
end Go.Proofs.YtgadhmoifhoilaaDoor.Md5
