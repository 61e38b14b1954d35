/-
  The reference's turn and Text, in the plain words of the program's own.
-/
import Derived.Test.YtgadhmoifhoilaaDoorMd5Pad
import Derived.Test.YtgadhmoifhoilaaDoorSin
namespace Go.Proofs.YtgadhmoifhoilaaDoor.Md5
open Go.RowKit Go.Proofs.YtgadhmoifhoilaaDoorW.PrintWords Go.Proofs.YtgadhmoifhoilaaDoorW.PrintLast Go.Proofs.YtgadhmoifhoilaaDoor.Kit
set_option linter.unusedSimpArgs false
theorem rot_num (x : Int) (h0 : 0 ≤ x) (h1 : x < 4294967296) (p q : Int) (hp : 0 < p) (hq : 0 < q) (hpq : p * q = 2147483648) :
  (((x * 2) % 4294967296 + x / 2147483648) * p) % 4294967296 + ((x * 2) % 4294967296 + x / 2147483648) / (2 * q) = (x * (2 * p)) % 4294967296 + x / q := by
 have hx : x = (x / 2147483648) * 2147483648 + x % 2147483648 := by omega
 have hm := Int.emod_nonneg (x % 2147483648) (show q ≠ 0 by omega)
 have hm' := Int.emod_lt_of_pos (x % 2147483648) hq
 have hd : x % 2147483648 = q * (x % 2147483648 / q) + x % 2147483648 % q := (Int.mul_ediv_add_emod _ _).symm
 have hr0 : 0 ≤ x % 2147483648 := by omega
 have hA0 : 0 ≤ x % 2147483648 / q := Int.ediv_nonneg hr0 (by omega)
 have hA1 : x % 2147483648 / q < p := Int.ediv_lt_of_lt_mul hq (by rw [hpq]; omega)
 generalize x % 2147483648 / q = a at hd hA0 hA1
 generalize x % 2147483648 % q = b at hd hm hm'
 have hT0 : 0 ≤ x / 2147483648 := by omega
 have hT1 : x / 2147483648 ≤ 1 := by omega
 have e1 : x * 2 % 4294967296 = 2 * (x % 2147483648) := by omega
 generalize x / 2147483648 = T at *
 rw [e1, hd]
 have hy1 : (2 * (q * a + b) + T) / (2 * q) = a := by
  rw [show 2 * (q * a + b) + T = (2 * b + T) + 2 * q * a from by rw [Int.mul_add, Int.mul_assoc]; omega, Int.add_mul_ediv_left _ _ (by omega), Int.ediv_eq_zero_of_lt (by omega) (by omega)]
  omega
 have k1 : 0 ≤ (2 * b + T) * p := Int.mul_nonneg (by omega) (by omega)
 have k2 : (2 * b + T) * p < 4294967296 := by
  have : (2 * b + T) * p < (2 * q) * p := Int.mul_lt_mul_of_pos_right (by omega) hp
  have e : (2 * q) * p = 2 * (p * q) := by rw [Int.mul_assoc, Int.mul_comm q p]
  omega
 have hy2 : (2 * (q * a + b) + T) * p % 4294967296 = (2 * b + T) * p := by
  have e : (2 * (q * a + b) + T) * p = (2 * b + T) * p + 4294967296 * a := by
   have e2 : q * a * p = 2147483648 * a := by rw [Int.mul_comm q a, Int.mul_assoc, Int.mul_comm q p, hpq, Int.mul_comm]
   rw [show 2 * (q * a + b) + T = 2 * (q * a) + (2 * b + T) from by omega, Int.add_mul, Int.mul_assoc, e2]
   omega
  rw [e, Int.add_mul_emod_self_left, Int.emod_eq_of_lt k1 k2]
 have hx1 : x / q = T * p + a := by
  have e : x = b + q * (T * p + a) := by
   have e2 : q * (T * p + a) = T * 2147483648 + q * a := by rw [Int.mul_add, Int.mul_comm T p, ← Int.mul_assoc, Int.mul_comm q p, hpq, Int.mul_comm 2147483648 T]
   omega
  rw [e, Int.add_mul_ediv_left _ _ (by omega), Int.ediv_eq_zero_of_lt hm hm']
  omega
 have hx2 : x * (2 * p) % 4294967296 = b * (2 * p) := by
  have e : x * (2 * p) = b * (2 * p) + 4294967296 * (T * p + a) := by
   have e2 : x = b + q * (T * p + a) := by
    have e3 : q * (T * p + a) = T * 2147483648 + q * a := by rw [Int.mul_add, Int.mul_comm T p, ← Int.mul_assoc, Int.mul_comm q p, hpq, Int.mul_comm 2147483648 T]
    omega
   have e4 : q * (T * p + a) * (2 * p) = 4294967296 * (T * p + a) := by
    rw [Int.mul_comm q, Int.mul_assoc, show q * (2 * p) = 4294967296 from by rw [Int.mul_comm 2 p, ← Int.mul_assoc, Int.mul_comm q p, hpq]; rfl, Int.mul_comm]
   rw [← e4, ← Int.add_mul, ← e2]
  rw [e, Int.add_mul_emod_self_left, Int.emod_eq_of_lt (Int.mul_nonneg hm (by omega))]
  have : b * (2 * p) ≤ (2 * b + T) * p := by
   have e5 : b * (2 * p) = 2 * b * p := by rw [Int.mul_comm 2 b, Int.mul_assoc]
   rw [e5]
   exact Int.mul_le_mul_of_nonneg_right (by omega) (by omega)
  omega
 rw [hy1, hy2, hx1, hx2, Int.add_mul, show 2 * b * p = b * (2 * p) from by rw [Int.mul_comm 2 b, Int.mul_assoc]]
 omega
theorem rot_step (x : Int) (h0 : 0 ≤ x) (h1 : x < 4294967296) : ∀ k : Nat, k ≤ 30 → rot (rot x 1) (k : Int) = rot x ((k : Int) + 1)
 | 0, _ => by
  have d1 : rot (rot x 1) ((0 : Nat) : Int) = (rot x 1 * 1) % 4294967296 + rot x 1 / 4294967296 := rfl
  have d2 : rot x (((0 : Nat) : Int) + 1) = (x * 2) % 4294967296 + x / 2147483648 := rfl
  have d3 : rot x 1 = (x * 2) % 4294967296 + x / 2147483648 := rfl
  rw [d1, d2, d3]
  exact rot_num x h0 h1 1 2147483648 (by omega) (by omega) (by omega)
 | 1, _ => by
  have d1 : rot (rot x 1) ((1 : Nat) : Int) = (rot x 1 * 2) % 4294967296 + rot x 1 / 2147483648 := rfl
  have d2 : rot x (((1 : Nat) : Int) + 1) = (x * 4) % 4294967296 + x / 1073741824 := rfl
  have d3 : rot x 1 = (x * 2) % 4294967296 + x / 2147483648 := rfl
  rw [d1, d2, d3]
  exact rot_num x h0 h1 2 1073741824 (by omega) (by omega) (by omega)
 | 2, _ => by
  have d1 : rot (rot x 1) ((2 : Nat) : Int) = (rot x 1 * 4) % 4294967296 + rot x 1 / 1073741824 := rfl
  have d2 : rot x (((2 : Nat) : Int) + 1) = (x * 8) % 4294967296 + x / 536870912 := rfl
  have d3 : rot x 1 = (x * 2) % 4294967296 + x / 2147483648 := rfl
  rw [d1, d2, d3]
  exact rot_num x h0 h1 4 536870912 (by omega) (by omega) (by omega)
 | 3, _ => by
  have d1 : rot (rot x 1) ((3 : Nat) : Int) = (rot x 1 * 8) % 4294967296 + rot x 1 / 536870912 := rfl
  have d2 : rot x (((3 : Nat) : Int) + 1) = (x * 16) % 4294967296 + x / 268435456 := rfl
  have d3 : rot x 1 = (x * 2) % 4294967296 + x / 2147483648 := rfl
  rw [d1, d2, d3]
  exact rot_num x h0 h1 8 268435456 (by omega) (by omega) (by omega)
 | 4, _ => by
  have d1 : rot (rot x 1) ((4 : Nat) : Int) = (rot x 1 * 16) % 4294967296 + rot x 1 / 268435456 := rfl
  have d2 : rot x (((4 : Nat) : Int) + 1) = (x * 32) % 4294967296 + x / 134217728 := rfl
  have d3 : rot x 1 = (x * 2) % 4294967296 + x / 2147483648 := rfl
  rw [d1, d2, d3]
  exact rot_num x h0 h1 16 134217728 (by omega) (by omega) (by omega)
 | 5, _ => by
  have d1 : rot (rot x 1) ((5 : Nat) : Int) = (rot x 1 * 32) % 4294967296 + rot x 1 / 134217728 := rfl
  have d2 : rot x (((5 : Nat) : Int) + 1) = (x * 64) % 4294967296 + x / 67108864 := rfl
  have d3 : rot x 1 = (x * 2) % 4294967296 + x / 2147483648 := rfl
  rw [d1, d2, d3]
  exact rot_num x h0 h1 32 67108864 (by omega) (by omega) (by omega)
 | 6, _ => by
  have d1 : rot (rot x 1) ((6 : Nat) : Int) = (rot x 1 * 64) % 4294967296 + rot x 1 / 67108864 := rfl
  have d2 : rot x (((6 : Nat) : Int) + 1) = (x * 128) % 4294967296 + x / 33554432 := rfl
  have d3 : rot x 1 = (x * 2) % 4294967296 + x / 2147483648 := rfl
  rw [d1, d2, d3]
  exact rot_num x h0 h1 64 33554432 (by omega) (by omega) (by omega)
 | 7, _ => by
  have d1 : rot (rot x 1) ((7 : Nat) : Int) = (rot x 1 * 128) % 4294967296 + rot x 1 / 33554432 := rfl
  have d2 : rot x (((7 : Nat) : Int) + 1) = (x * 256) % 4294967296 + x / 16777216 := rfl
  have d3 : rot x 1 = (x * 2) % 4294967296 + x / 2147483648 := rfl
  rw [d1, d2, d3]
  exact rot_num x h0 h1 128 16777216 (by omega) (by omega) (by omega)
 | 8, _ => by
  have d1 : rot (rot x 1) ((8 : Nat) : Int) = (rot x 1 * 256) % 4294967296 + rot x 1 / 16777216 := rfl
  have d2 : rot x (((8 : Nat) : Int) + 1) = (x * 512) % 4294967296 + x / 8388608 := rfl
  have d3 : rot x 1 = (x * 2) % 4294967296 + x / 2147483648 := rfl
  rw [d1, d2, d3]
  exact rot_num x h0 h1 256 8388608 (by omega) (by omega) (by omega)
 | 9, _ => by
  have d1 : rot (rot x 1) ((9 : Nat) : Int) = (rot x 1 * 512) % 4294967296 + rot x 1 / 8388608 := rfl
  have d2 : rot x (((9 : Nat) : Int) + 1) = (x * 1024) % 4294967296 + x / 4194304 := rfl
  have d3 : rot x 1 = (x * 2) % 4294967296 + x / 2147483648 := rfl
  rw [d1, d2, d3]
  exact rot_num x h0 h1 512 4194304 (by omega) (by omega) (by omega)
 | 10, _ => by
  have d1 : rot (rot x 1) ((10 : Nat) : Int) = (rot x 1 * 1024) % 4294967296 + rot x 1 / 4194304 := rfl
  have d2 : rot x (((10 : Nat) : Int) + 1) = (x * 2048) % 4294967296 + x / 2097152 := rfl
  have d3 : rot x 1 = (x * 2) % 4294967296 + x / 2147483648 := rfl
  rw [d1, d2, d3]
  exact rot_num x h0 h1 1024 2097152 (by omega) (by omega) (by omega)
 | 11, _ => by
  have d1 : rot (rot x 1) ((11 : Nat) : Int) = (rot x 1 * 2048) % 4294967296 + rot x 1 / 2097152 := rfl
  have d2 : rot x (((11 : Nat) : Int) + 1) = (x * 4096) % 4294967296 + x / 1048576 := rfl
  have d3 : rot x 1 = (x * 2) % 4294967296 + x / 2147483648 := rfl
  rw [d1, d2, d3]
  exact rot_num x h0 h1 2048 1048576 (by omega) (by omega) (by omega)
 | 12, _ => by
  have d1 : rot (rot x 1) ((12 : Nat) : Int) = (rot x 1 * 4096) % 4294967296 + rot x 1 / 1048576 := rfl
  have d2 : rot x (((12 : Nat) : Int) + 1) = (x * 8192) % 4294967296 + x / 524288 := rfl
  have d3 : rot x 1 = (x * 2) % 4294967296 + x / 2147483648 := rfl
  rw [d1, d2, d3]
  exact rot_num x h0 h1 4096 524288 (by omega) (by omega) (by omega)
 | 13, _ => by
  have d1 : rot (rot x 1) ((13 : Nat) : Int) = (rot x 1 * 8192) % 4294967296 + rot x 1 / 524288 := rfl
  have d2 : rot x (((13 : Nat) : Int) + 1) = (x * 16384) % 4294967296 + x / 262144 := rfl
  have d3 : rot x 1 = (x * 2) % 4294967296 + x / 2147483648 := rfl
  rw [d1, d2, d3]
  exact rot_num x h0 h1 8192 262144 (by omega) (by omega) (by omega)
 | 14, _ => by
  have d1 : rot (rot x 1) ((14 : Nat) : Int) = (rot x 1 * 16384) % 4294967296 + rot x 1 / 262144 := rfl
  have d2 : rot x (((14 : Nat) : Int) + 1) = (x * 32768) % 4294967296 + x / 131072 := rfl
  have d3 : rot x 1 = (x * 2) % 4294967296 + x / 2147483648 := rfl
  rw [d1, d2, d3]
  exact rot_num x h0 h1 16384 131072 (by omega) (by omega) (by omega)
 | 15, _ => by
  have d1 : rot (rot x 1) ((15 : Nat) : Int) = (rot x 1 * 32768) % 4294967296 + rot x 1 / 131072 := rfl
  have d2 : rot x (((15 : Nat) : Int) + 1) = (x * 65536) % 4294967296 + x / 65536 := rfl
  have d3 : rot x 1 = (x * 2) % 4294967296 + x / 2147483648 := rfl
  rw [d1, d2, d3]
  exact rot_num x h0 h1 32768 65536 (by omega) (by omega) (by omega)
 | 16, _ => by
  have d1 : rot (rot x 1) ((16 : Nat) : Int) = (rot x 1 * 65536) % 4294967296 + rot x 1 / 65536 := rfl
  have d2 : rot x (((16 : Nat) : Int) + 1) = (x * 131072) % 4294967296 + x / 32768 := rfl
  have d3 : rot x 1 = (x * 2) % 4294967296 + x / 2147483648 := rfl
  rw [d1, d2, d3]
  exact rot_num x h0 h1 65536 32768 (by omega) (by omega) (by omega)
 | 17, _ => by
  have d1 : rot (rot x 1) ((17 : Nat) : Int) = (rot x 1 * 131072) % 4294967296 + rot x 1 / 32768 := rfl
  have d2 : rot x (((17 : Nat) : Int) + 1) = (x * 262144) % 4294967296 + x / 16384 := rfl
  have d3 : rot x 1 = (x * 2) % 4294967296 + x / 2147483648 := rfl
  rw [d1, d2, d3]
  exact rot_num x h0 h1 131072 16384 (by omega) (by omega) (by omega)
 | 18, _ => by
  have d1 : rot (rot x 1) ((18 : Nat) : Int) = (rot x 1 * 262144) % 4294967296 + rot x 1 / 16384 := rfl
  have d2 : rot x (((18 : Nat) : Int) + 1) = (x * 524288) % 4294967296 + x / 8192 := rfl
  have d3 : rot x 1 = (x * 2) % 4294967296 + x / 2147483648 := rfl
  rw [d1, d2, d3]
  exact rot_num x h0 h1 262144 8192 (by omega) (by omega) (by omega)
 | 19, _ => by
  have d1 : rot (rot x 1) ((19 : Nat) : Int) = (rot x 1 * 524288) % 4294967296 + rot x 1 / 8192 := rfl
  have d2 : rot x (((19 : Nat) : Int) + 1) = (x * 1048576) % 4294967296 + x / 4096 := rfl
  have d3 : rot x 1 = (x * 2) % 4294967296 + x / 2147483648 := rfl
  rw [d1, d2, d3]
  exact rot_num x h0 h1 524288 4096 (by omega) (by omega) (by omega)
 | 20, _ => by
  have d1 : rot (rot x 1) ((20 : Nat) : Int) = (rot x 1 * 1048576) % 4294967296 + rot x 1 / 4096 := rfl
  have d2 : rot x (((20 : Nat) : Int) + 1) = (x * 2097152) % 4294967296 + x / 2048 := rfl
  have d3 : rot x 1 = (x * 2) % 4294967296 + x / 2147483648 := rfl
  rw [d1, d2, d3]
  exact rot_num x h0 h1 1048576 2048 (by omega) (by omega) (by omega)
 | 21, _ => by
  have d1 : rot (rot x 1) ((21 : Nat) : Int) = (rot x 1 * 2097152) % 4294967296 + rot x 1 / 2048 := rfl
  have d2 : rot x (((21 : Nat) : Int) + 1) = (x * 4194304) % 4294967296 + x / 1024 := rfl
  have d3 : rot x 1 = (x * 2) % 4294967296 + x / 2147483648 := rfl
  rw [d1, d2, d3]
  exact rot_num x h0 h1 2097152 1024 (by omega) (by omega) (by omega)
 | 22, _ => by
  have d1 : rot (rot x 1) ((22 : Nat) : Int) = (rot x 1 * 4194304) % 4294967296 + rot x 1 / 1024 := rfl
  have d2 : rot x (((22 : Nat) : Int) + 1) = (x * 8388608) % 4294967296 + x / 512 := rfl
  have d3 : rot x 1 = (x * 2) % 4294967296 + x / 2147483648 := rfl
  rw [d1, d2, d3]
  exact rot_num x h0 h1 4194304 512 (by omega) (by omega) (by omega)
 | 23, _ => by
  have d1 : rot (rot x 1) ((23 : Nat) : Int) = (rot x 1 * 8388608) % 4294967296 + rot x 1 / 512 := rfl
  have d2 : rot x (((23 : Nat) : Int) + 1) = (x * 16777216) % 4294967296 + x / 256 := rfl
  have d3 : rot x 1 = (x * 2) % 4294967296 + x / 2147483648 := rfl
  rw [d1, d2, d3]
  exact rot_num x h0 h1 8388608 256 (by omega) (by omega) (by omega)
 | 24, _ => by
  have d1 : rot (rot x 1) ((24 : Nat) : Int) = (rot x 1 * 16777216) % 4294967296 + rot x 1 / 256 := rfl
  have d2 : rot x (((24 : Nat) : Int) + 1) = (x * 33554432) % 4294967296 + x / 128 := rfl
  have d3 : rot x 1 = (x * 2) % 4294967296 + x / 2147483648 := rfl
  rw [d1, d2, d3]
  exact rot_num x h0 h1 16777216 128 (by omega) (by omega) (by omega)
 | 25, _ => by
  have d1 : rot (rot x 1) ((25 : Nat) : Int) = (rot x 1 * 33554432) % 4294967296 + rot x 1 / 128 := rfl
  have d2 : rot x (((25 : Nat) : Int) + 1) = (x * 67108864) % 4294967296 + x / 64 := rfl
  have d3 : rot x 1 = (x * 2) % 4294967296 + x / 2147483648 := rfl
  rw [d1, d2, d3]
  exact rot_num x h0 h1 33554432 64 (by omega) (by omega) (by omega)
 | 26, _ => by
  have d1 : rot (rot x 1) ((26 : Nat) : Int) = (rot x 1 * 67108864) % 4294967296 + rot x 1 / 64 := rfl
  have d2 : rot x (((26 : Nat) : Int) + 1) = (x * 134217728) % 4294967296 + x / 32 := rfl
  have d3 : rot x 1 = (x * 2) % 4294967296 + x / 2147483648 := rfl
  rw [d1, d2, d3]
  exact rot_num x h0 h1 67108864 32 (by omega) (by omega) (by omega)
 | 27, _ => by
  have d1 : rot (rot x 1) ((27 : Nat) : Int) = (rot x 1 * 134217728) % 4294967296 + rot x 1 / 32 := rfl
  have d2 : rot x (((27 : Nat) : Int) + 1) = (x * 268435456) % 4294967296 + x / 16 := rfl
  have d3 : rot x 1 = (x * 2) % 4294967296 + x / 2147483648 := rfl
  rw [d1, d2, d3]
  exact rot_num x h0 h1 134217728 16 (by omega) (by omega) (by omega)
 | 28, _ => by
  have d1 : rot (rot x 1) ((28 : Nat) : Int) = (rot x 1 * 268435456) % 4294967296 + rot x 1 / 16 := rfl
  have d2 : rot x (((28 : Nat) : Int) + 1) = (x * 536870912) % 4294967296 + x / 8 := rfl
  have d3 : rot x 1 = (x * 2) % 4294967296 + x / 2147483648 := rfl
  rw [d1, d2, d3]
  exact rot_num x h0 h1 268435456 8 (by omega) (by omega) (by omega)
 | 29, _ => by
  have d1 : rot (rot x 1) ((29 : Nat) : Int) = (rot x 1 * 536870912) % 4294967296 + rot x 1 / 8 := rfl
  have d2 : rot x (((29 : Nat) : Int) + 1) = (x * 1073741824) % 4294967296 + x / 4 := rfl
  have d3 : rot x 1 = (x * 2) % 4294967296 + x / 2147483648 := rfl
  rw [d1, d2, d3]
  exact rot_num x h0 h1 536870912 4 (by omega) (by omega) (by omega)
 | 30, _ => by
  have d1 : rot (rot x 1) ((30 : Nat) : Int) = (rot x 1 * 1073741824) % 4294967296 + rot x 1 / 4 := rfl
  have d2 : rot x (((30 : Nat) : Int) + 1) = (x * 2147483648) % 4294967296 + x / 2 := rfl
  have d3 : rot x 1 = (x * 2) % 4294967296 + x / 2147483648 := rfl
  rw [d1, d2, d3]
  exact rot_num x h0 h1 1073741824 2 (by omega) (by omega) (by omega)
 | k + 31, h => by omega
theorem turn_one (x : Int) (h0 : 0 ≤ x) (h1 : x < 4294967296) : (((x * 2) % 4294967296) + ((Int.tdiv x 2147483648) % 4294967296)) % 4294967296 = rot x 1 := by
 rw [Int.tdiv_eq_ediv_of_nonneg h0]
 unfold rot
 simp only [show ((1 : Int)).toNat = 1 from rfl, show (32 - (1 : Int)).toNat = 31 from rfl, Int.reducePow]
 omega
theorem turn_go (n : Int) (hn : n ≤ 31) : ∀ (d : Nat) (k : Nat) (x i : Int), 0 ≤ x → x < 4294967296 → 0 ≤ i → i + d = n → d < k → PMdBase.umpireref03_turn.l0 k x n i = some (rot x d)
 | 0, k, x, i, h0, h1, hi, he, hk => by
  obtain ⟨k, rfl⟩ : ∃ m, k = m + 1 := ⟨k - 1, by omega⟩
  simp only [PMdBase.umpireref03_turn.l0]
  rw [if_neg (by omega)]
  congr 1
  unfold rot
  simp
  omega
 | d + 1, k, x, i, h0, h1, hi, he, hk => by
  obtain ⟨k, rfl⟩ : ∃ m, k = m + 1 := ⟨k - 1, by omega⟩
  simp only [PMdBase.umpireref03_turn.l0]
  have hr := rot_range x 1 h0 h1 (by omega) (by omega)
  rw [if_pos (by omega), turn_one x h0 h1, show wrap64 (i + 1) = i + 1 from wrapS (by omega) (by omega), turn_go n hn d k (rot x 1) (i + 1) hr.1 hr.2 (by omega) (by omega) (by omega), rot_step x h0 h1 d (by omega)]
  congr 1
theorem turn_eq (x n : Int) (h0 : 0 ≤ x) (h1 : x < 4294967296) (hn0 : 0 ≤ n) (hn : n ≤ 31) : PMdBase.umpireref03_turn.f 40 x n = some (rot x n) := by
 unfold PMdBase.umpireref03_turn.f
 have e := turn_go n hn n.toNat 40 x 0 h0 h1 (by omega) (by omega) (by omega)
 rw [e, show ((n.toNat : Nat) : Int) = n from by omega]
theorem shr_val (t : Int) (m : Nat) (hm : m ≤ 56) : shr .u64 t (m : Int) = t / 2 ^ m := by
 unfold shr
 rw [Int.toNat_natCast, Nat.min_eq_left (by simp [IntKind.bits]; omega)]
theorem r1_step (k : Nat) (x : List Int) (t i : Int) (ht0 : 0 ≤ t) (ht : t ≤ 100000000) (h0 : 0 ≤ i) (h8 : i < 8) (hx : x.length ≤ 3000000) : PMdBase.umpireref03_Text.l1 (k + 1) x t i = PMdBase.umpireref03_Text.l1 k (x ++ [t % 256]) (t / 256) (i + 1) := by
 simp only [PMdBase.umpireref03_Text.l1]
 rw [if_pos h8, if_pos (by omega), Int.tmod_eq_emod_of_nonneg ht0, Int.tdiv_eq_ediv_of_nonneg ht0, show wrap64 (i + 1) = i + 1 from wrapS (by omega) (by omega), show IntKind.u64.wrap (t / 256) = t / 256 from wraps_u64 _ (by omega) (by omega), show t % 256 % 256 = t % 256 from by omega]
theorem r1_all (x : List Int) (t : Int) (h0 : 0 ≤ t) (ht : t ≤ 100000000) (hx : x.length ≤ 2000000) : PMdBase.umpireref03_Text.l1 9 x t 0 = some (x ++ len8 t) := by
 rw [r1_step 8 x t 0 (by omega) (by omega) (by omega) (by omega) (by omega)]
 rw [r1_step 7 _ _ _ (by omega) (by omega) (by omega) (by omega) (by simp; omega)]
 rw [r1_step 6 _ _ _ (by omega) (by omega) (by omega) (by omega) (by simp; omega)]
 rw [r1_step 5 _ _ _ (by omega) (by omega) (by omega) (by omega) (by simp; omega)]
 rw [r1_step 4 _ _ _ (by omega) (by omega) (by omega) (by omega) (by simp; omega)]
 rw [r1_step 3 _ _ _ (by omega) (by omega) (by omega) (by omega) (by simp; omega)]
 rw [r1_step 2 _ _ _ (by omega) (by omega) (by omega) (by omega) (by simp; omega)]
 rw [r1_step 1 _ _ _ (by omega) (by omega) (by omega) (by omega) (by simp; omega)]
 rw [PMdBase.umpireref03_Text.l1, if_neg (by omega)]
 have e : len8 t = [t % 256, t / 256 % 256, t / 256 / 256 % 256, t / 256 / 256 / 256 % 256, t / 256 / 256 / 256 / 256 % 256, t / 256 / 256 / 256 / 256 / 256 % 256, t / 256 / 256 / 256 / 256 / 256 / 256 % 256, t / 256 / 256 / 256 / 256 / 256 / 256 / 256 % 256] := by
  unfold len8
  have e0 : shr .u64 t 0 = t / 2 ^ 0 := shr_val t 0 (by omega)
  have e1 : shr .u64 t 8 = t / 2 ^ 8 := shr_val t 8 (by omega)
  have e2 : shr .u64 t 16 = t / 2 ^ 16 := shr_val t 16 (by omega)
  have e3 : shr .u64 t 24 = t / 2 ^ 24 := shr_val t 24 (by omega)
  have e4 : shr .u64 t 32 = t / 2 ^ 32 := shr_val t 32 (by omega)
  have e5 : shr .u64 t 40 = t / 2 ^ 40 := shr_val t 40 (by omega)
  have e6 : shr .u64 t 48 = t / 2 ^ 48 := shr_val t 48 (by omega)
  have e7 : shr .u64 t 56 = t / 2 ^ 56 := shr_val t 56 (by omega)
  rw [e0, e1, e2, e3, e4, e5, e6, e7]
  simp only [List.cons.injEq, and_true]
  refine ⟨?_, ?_, ?_, ?_, ?_, ?_, ?_, ?_⟩ <;> omega
 rw [e]
 simp
theorem r0_all (l : List Int) (hl : l.length ≤ 1000000) : ∀ (z : Nat) (x : List Int), x.length + z ≤ 2000000 → (x.length + z) % 64 = 56 → z < 64 → PMdBase.umpireref03_Text.l0 (z + 10) l x = some (x ++ List.replicate z 0 ++ len8 (8 * (l.length : Int)))
 | 0, x, h, he, _ => by
  have e : IntKind.u64.wrap (IntKind.u64.wrap (l.length : Int) * 8) = 8 * (l.length : Int) := by rw [IntKind.wrap_u64, IntKind.wrap_u64]; omega
  rw [PMdBase.umpireref03_Text.l0, if_pos (by omega), e, r1_all x _ (by omega) (by omega) (by omega)]
  simp
 | z + 1, x, h, he, hz => by
  rw [show z + 1 + 10 = (z + 10) + 1 from by omega, PMdBase.umpireref03_Text.l0, if_neg (by omega), if_pos (by omega), r0_all l hl z (x ++ [0]) (by simp; omega) (by simp; omega) (by omega)]
  simp [List.replicate_succ]
theorem text_eq (l : List Int) (h : l.length ≤ 1000000) : PMdBase.umpireref03_Text.f (zerosN l.length + 10) l = some (padF l) := by
 unfold PMdBase.umpireref03_Text.f
 rw [if_pos (by simp; omega)]
 simp only [Option.bind_some, List.nil_append]
 rw [if_pos (by omega), r0_all l h (zerosN l.length) (l ++ [128]) (by simp [zerosN]; omega) (by simp [zerosN]; omega) (by unfold zerosN; omega)]
 rfl
end Go.Proofs.YtgadhmoifhoilaaDoor.Md5
