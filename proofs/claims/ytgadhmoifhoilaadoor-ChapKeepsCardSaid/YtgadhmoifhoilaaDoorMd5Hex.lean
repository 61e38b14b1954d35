/-
  A digest's digits: what the reference's Bytes answers of whatever bytes.
-/
import Derived.Test.YtgadhmoifhoilaaDoorMd5A
namespace Go.Proofs.YtgadhmoifhoilaaDoor.Md5
open Go.RowKit Go.Proofs.YtgadhmoifhoilaaDoorW.PrintWords Go.Proofs.YtgadhmoifhoilaaDoorW.PrintLast

/-- One digit. -/
def pc (a : Int) : ByteArray := (⟨#[48, 49, 50, 51, 52, 53, 54, 55, 56, 57, 97, 98, 99, 100, 101, 102]⟩ : ByteArray).extract a.toNat (a + 1).toNat
def hexF (l : List Int) : ByteArray := l.foldl (fun s v => (s ++ pc (v / 16)) ++ pc (v % 16)) ⟨#[]⟩
theorem pc_size (a : Int) : (pc a).size ≤ 16 := by
  unfold pc
  rw [ByteArray.size_extract]
  simp [ByteArray.size]
  omega
theorem hexF_snoc (l : List Int) (k : Nat) (hk : k < l.length) : hexF (l.take (k + 1)) = (hexF (l.take k) ++ pc (rd l (k : Int) / 16)) ++ pc (rd l (k : Int) % 16) := by
  have e : l.take (k + 1) = l.take k ++ [rd l (k : Int)] := by
    rw [List.take_succ_eq_append_getElem hk]
    simp [rd, hk]
  rw [e]
  unfold hexF
  rw [List.foldl_append]
  rfl
theorem hexF_size (l : List Int) : (hexF l).size ≤ 32 * l.length := by
  suffices h : ∀ (l : List Int) (s : ByteArray), (l.foldl (fun s v => (s ++ pc (v / 16)) ++ pc (v % 16)) s).size ≤ s.size + 32 * l.length by
    have := h l ⟨#[]⟩
    have e : (⟨#[]⟩ : ByteArray).size = 0 := rfl
    unfold hexF
    omega
  intro l
  induction l with
  | nil => intro s; simp
  | cons v t ih =>
    intro s
    have := ih ((s ++ pc (v / 16)) ++ pc (v % 16))
    have h1 := pc_size (v / 16)
    have h2 := pc_size (v % 16)
    rw [List.foldl_cons, List.length_cons]
    rw [ByteArray.size_append, ByteArray.size_append] at this
    omega
theorem pc_run (t : TypeId) {P : Program} (h : P.underlying t = some .string) (a : Int) (h0 : 0 ≤ a) (h1 : a ≤ 15) (w : World) :
    (Instr.slice t (.string ⟨#[48, 49, 50, 51, 52, 53, 54, 55, 56, 57, 97, 98, 99, 100, 101, 102]⟩) (some (.int .u8 a)) (some (.int .u8 (a + 1))) none).run P w = .ok (.string (pc a)) w := by
  exact run_slice_string (P := P) (w := w) t _ .u8 .u8 a (a + 1) h h0 (by omega) (by simp [ByteArray.size]; omega)

set_option maxRecDepth 100000 in
theorem bytes_calls (A : Option Addr) (c : Nat) (l : List Int) (w : World) (hC : (Kd.int .u8).C w A l.length l) (hl : l.length ≤ 1000) (hb : ∀ v ∈ l, 0 ≤ v ∧ v ≤ 255) :
    Calls Tryd.prog 51 #[.slice A l.length c] w fun e w' => e = .returned (.string (hexF l)) ∧ ∃ n, w' = w.drewN n := by
  have HC := Aside0.mk hC
  have HB := Aside0.mk hb
  clear hC hb
  go_enter Tryd.func51, Tryd.ntmps51
  go_wp2
  go_loopw [3, 4] (fun s i wr => ∃ k : Nat, k ≤ l.length ∧ i = .int .i64 k ∧ s = .string (hexF (l.take k)) ∧ Aside0 (∃ n, wr = w.drewN n)) (fun _ i _ => l.length - (intOf i).toNat)
  case atStart => exact ⟨0, Nat.zero_le _, rfl, rfl, ⟨0, rfl⟩⟩
  case round =>
    obtain ⟨k, hk, rfl, rfl, hw⟩ := hrel
    obtain ⟨n, rfl⟩ := hw.out
    by_cases hlt : k < l.length
    · obtain ⟨ad, rfl, hx⟩ := Kd.at_int HC.out (k : Int) (by omega) (by omega)
      rw [Int.toNat_natCast] at hx
      have hv := HB.out (rd l (k : Int)) (by simp [rd, hlt])
      have hsn := Aside0.mk (hexF_snoc l k hlt)
      have hsz := hexF_size (l.take k)
      have hsl : (l.take k).length = k := by rw [List.length_take]; omega
      rw [hsl] at hsz
      generalize hexF (l.take k) = s at *
      generalize rd l (k : Int) = v at *
      obtain ⟨hv1, hv2⟩ := hv
      generalize hqa : v / 16 = a at *
      generalize hqb : v % 16 = b at *
      have a0 : 0 ≤ a := by omega
      have a1 : a ≤ 15 := by omega
      have b0 : 0 ≤ b := by omega
      have b1 : b ≤ 15 := by omega
      have t1 : v.tdiv 16 = a := by rw [Int.tdiv_eq_ediv_of_nonneg hv1]; exact hqa
      have t2 : v.tmod 16 = b := by rw [Int.tmod_eq_emod_of_nonneg hv1]; exact hqb
      have s1 : (a + 1) % 256 = a + 1 := by omega
      have s2 : (b + 1) % 256 = b + 1 := by omega
      have s3 : a % 256 = a := by omega
      have s4 : b % 256 = b := by omega
      have p1 := fun W => pc_run 9 Tryd.underlying9 a a0 a1 W
      have p2 := fun W => pc_run 9 Tryd.underlying9 b b0 b1 W
      have z1 := pc_size a
      have z2 := pc_size b
      have z3 : s.size + (pc a).size ≤ 9223372036854775807 := by omega
      have z4 : (s ++ pc a).size + (pc b).size ≤ 9223372036854775807 := by rw [ByteArray.size_append]; omega
      have z5 : (9223372036854775807 < s.size + (pc a).size) = False := eq_false (by omega)
      have z6 : (9223372036854775807 < (s ++ pc a).size + (pc b).size) = False := eq_false (by omega)
      generalize pc a = pa at *
      generalize pc b = pb at *
      clear hw hqa hqb hsl hsz z1 z2
      go_wp2
      go_quiet (fail)
      go_wp2
      go_roundw
      case rel => exact ⟨k + 1, by omega, by go_num, by rw [hsn.out], ⟨n + nq, rfl⟩⟩
      case measure => simp [intOf]; omega
    · have e : k = l.length := by omega
      subst e
      go_wp2
      go_ret
      exact ⟨by simp, n, rfl⟩
end Go.Proofs.YtgadhmoifhoilaaDoor.Md5
