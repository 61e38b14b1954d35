/-
  What md5.padded answers, in plain words; Sum's contract over whatever bytes; what it answers of nothing and of "abc".
-/
import Derived.Test.YtgadhmoifhoilaaDoorMd5Sum
import Derived.Test.YtgadhmoifhoilaaDoorMd5Hex
import Derived.Lib.SlBytesConst
namespace Go.Proofs.YtgadhmoifhoilaaDoor.Md5
open Go.RowKit Go.Proofs.YtgadhmoifhoilaaDoorW.PrintWords Go.Proofs.YtgadhmoifhoilaaDoorW.PrintLast Go.Proofs.YtgadhmoifhoilaaDoorW.PrintMore Go.Proofs.YtgadhmoifhoilaaDoor.Kit

def zerosN (n : Nat) : Nat := (119 - n % 64) % 64
def len8 (t : Int) : List Int := [shr .u64 t 0 % 256, shr .u64 t 8 % 256, shr .u64 t 16 % 256, shr .u64 t 24 % 256, shr .u64 t 32 % 256, shr .u64 t 40 % 256, shr .u64 t 48 % 256, shr .u64 t 56 % 256]
def padF (l : List Int) : List Int := l ++ [128] ++ List.replicate (zerosN l.length) 0 ++ len8 (8 * (l.length : Int))

theorem l1_step (k : Nat) (x : List Int) (t i : Int) (h0 : 0 ≤ i) (h8 : i < 8) (hx : x.length ≤ 3000000) : PMdBase.md5_padded.l1 (k + 1) x t i = PMdBase.md5_padded.l1 k (x ++ [shr .u64 t (8 * i) % 256]) t (i + 1) := by
  have e1 : wrap64 (8 * i) = 8 * i := wrapS (by omega) (by omega)
  have e2 : wrap64 (i + 1) = i + 1 := wrapS (by omega) (by omega)
  rw [PMdBase.md5_padded.l1, if_pos h8, e1, if_pos (by omega), if_pos (by omega), e2]
theorem l1_all (x : List Int) (t : Int) (hx : x.length ≤ 2000000) : PMdBase.md5_padded.l1 9 x t 0 = some (x ++ len8 t) := by
  rw [l1_step 8 x t 0 (by omega) (by omega) (by omega)]
  rw [l1_step 7 _ t _ (by omega) (by omega) (by simp; omega)]
  rw [l1_step 6 _ t _ (by omega) (by omega) (by simp; omega)]
  rw [l1_step 5 _ t _ (by omega) (by omega) (by simp; omega)]
  rw [l1_step 4 _ t _ (by omega) (by omega) (by simp; omega)]
  rw [l1_step 3 _ t _ (by omega) (by omega) (by simp; omega)]
  rw [l1_step 2 _ t _ (by omega) (by omega) (by simp; omega)]
  rw [l1_step 1 _ t _ (by omega) (by omega) (by simp; omega)]
  rw [PMdBase.md5_padded.l1, if_neg (by omega)]
  simp [len8]
theorem l0_all (t : Int) : ∀ (z : Nat) (x : List Int), x.length + z ≤ 2000000 → (x.length + z) % 64 = 56 → z < 64 → PMdBase.md5_padded.l0 (z + 10) x t = some (x ++ List.replicate z 0 ++ len8 t)
  | 0, x, h, he, _ => by
    rw [PMdBase.md5_padded.l0, if_pos (by omega), l1_all x t (by omega)]
    simp
  | z + 1, x, h, he, hz => by
    rw [show z + 1 + 10 = (z + 10) + 1 from by omega, PMdBase.md5_padded.l0, if_neg (by omega), if_pos (by omega), l0_all t z (x ++ [0]) (by simp; omega) (by simp; omega) (by omega)]
    simp [List.replicate_succ]
theorem pad_eq (l : List Int) (h : l.length ≤ 1000000) : PMdBase.md5_padded.f (zerosN l.length + 10) l = some (padF l) := by
  have e : IntKind.u64.wrap (IntKind.u64.wrap (l.length : Int) * 8) = 8 * (l.length : Int) := by rw [IntKind.wrap_u64, IntKind.wrap_u64]; omega
  unfold PMdBase.md5_padded.f
  rw [if_pos (by omega), e, l0_all _ (zerosN l.length) (l ++ [128]) (by simp [zerosN]; omega) (by simp [zerosN]; omega) (by unfold zerosN; omega)]
  rfl
theorem pad_len (l : List Int) : (padF l).length = 64 * ((l.length + 72) / 64) := by
  unfold padF len8
  simp only [List.length_append, List.length_cons, List.length_nil, List.length_replicate, zerosN]
  omega
theorem pad_isB (l : List Int) (h : isB l = true) : isB (padF l) = true := by
  unfold padF
  refine isB_append (isB_append (isB_append h (by decide)) ?_) ?_
  · unfold isB; rw [List.all_eq_true]; intro x hx; rw [List.eq_of_mem_replicate hx]; decide
  · unfold isB; rw [List.all_eq_true]; intro x hx
    have : ∃ y : Int, x = y % 256 := by
      unfold len8 at hx
      simp only [List.mem_cons, List.not_mem_nil, or_false] at hx
      rcases hx with h | h | h | h | h | h | h | h <;> exact ⟨_, h⟩
    obtain ⟨y, rfl⟩ := this
    simp
    omega

/-- The digest of whatever bytes. -/
def sumOf (l : List Int) : St := sumSt (padF l) (List.range ((l.length + 72) / 64))
theorem sum_c (A : Option Addr) (c : Nat) (ps : List (List Int)) (w : World) (hC : (Kd.slice 5 (Kd.int .u8)).C w A ps.length ps) (hl : lens ps ≤ 1000000) (hn : ps.length ≤ 1000) (hb : isB ps.flatten = true) :
    Calls Tryd.prog 14 #[.slice A ps.length c] w fun e w' => e = .returned (.agg (sumOf ps.flatten).out) ∧ Below w.heap.size w w' := by
  have h1 : ps.flatten.length ≤ 1000000 := by rw [lens_flat]; exact hl
  exact sum_calls A c ps (padF ps.flatten) _ w hC hl hn (pad_eq _ h1) (pad_isB _ hb) _ (pad_len _) (by omega) (by omega)

set_option maxRecDepth 100000 in
theorem hex_calls (s : St) (hs : isB (digest s) = true) (w : World) : Calls Tryd.prog 34 #[.agg s.out] w fun e w' => e = .returned (.string (hexF (digest s))) ∧ Below w.heap.size w w' := by
  obtain ⟨O, hO⟩ : ∃ O, s.out = O := ⟨_, rfl⟩
  have hC : (Kd.int .u8).C (w.alloc (.cells O 24)) (some ⟨w.heap.size, 0, none⟩) (digest s).length (digest s) := by
    rw [← hO]
    exact C_lit w 24 .u8 (digest s) (show 16 ≤ 9223372036854775807 by decide)
  rw [hO]
  have HC := Aside0.mk hC
  have HB := Aside0.mk (bytes_calls (some ⟨w.heap.size, 0, none⟩) 16 (digest s) (w.alloc (.cells O 24)))
  clear hO hC
  go_enter Tryd.func34, Tryd.ntmps34
  go_wp2_with fail
  refine (HB.out HC.out (show 16 ≤ 1000 by decide) (isB_mem hs)).mono ?_
  rintro e w1 ⟨rfl, n, rfl⟩
  go_wp2
  go_ret
  exact ⟨rfl, pw_below_drewN (below_alloc (Below.refl _ _) _) _⟩
theorem dig_isB (s : St) (h : s.ok) : isB (digest s) = true := by
  obtain ⟨⟨ha0, ha1⟩, ⟨hb0, hb1⟩, ⟨hc0, hc1⟩, ⟨hd0, hd1⟩⟩ := h
  unfold isB
  rw [List.all_eq_true]
  intro x hx
  have : 0 ≤ x ∧ x ≤ 255 := by
    unfold digest at hx
    simp only [List.mem_cons, List.not_mem_nil, or_false] at hx
    rcases hx with h | h | h | h | h | h | h | h | h | h | h | h | h | h | h | h <;> omega
  simpa using this
theorem sumOf_isB (l : List Int) : isB (digest (sumOf l)) = true := dig_isB _ (sumSt_ok _ _)
theorem hex_empty : hexF (digest (sumOf [])) = ⟨#[100, 52, 49, 100, 56, 99, 100, 57, 56, 102, 48, 48, 98, 50, 48, 52, 101, 57, 56, 48, 48, 57, 57, 56, 101, 99, 102, 56, 52, 50, 55, 101]⟩ := by kernel_rfl
theorem hex_abc : hexF (digest (sumOf [97, 98, 99])) = ⟨#[57, 48, 48, 49, 53, 48, 57, 56, 51, 99, 100, 50, 52, 102, 98, 48, 100, 54, 57, 54, 51, 102, 55, 100, 50, 56, 101, 49, 55, 102, 55, 50]⟩ := by kernel_rfl

/-- A row of rows in a block that is known whole. -/
theorem rows_C {W : World} {g : Nat} {vs : Array Value} {t e : TypeId} {ps : List (List Int)} (hb : W.heap[g]? = some (.cells vs t (0, 0))) (hl : ps.length ≤ 9223372036854775807)
    (hv : ∀ j, j < ps.length → ∃ A' c', vs[j]? = some (.slice A' (ps.getD j []).length c') ∧ (ps.getD j []).length ≤ c' ∧ (Kd.int .u8).C W A' (ps.getD j []).length (ps.getD j [])) :
    (Kd.slice e (Kd.int .u8)).C W (some ⟨g, 0, none⟩) ps.length ps := by
  refine ⟨rfl, hl, fun _ => ⟨_, rfl, fun j p hj => ?_⟩⟩
  have hjl : j < ps.length := (List.getElem?_eq_some_iff.1 hj).1
  obtain ⟨A', c', h1, h2, h3⟩ := hv j hjl
  have e1 : ps.getD j [] = p := by rw [List.getD_eq_getElem?_getD, hj]; rfl
  rw [e1] at h1 h2 h3
  refine ⟨_, rfl, ⟨A', c', rfl, h2, h3⟩, fun i u hu => ?_⟩
  cases i with
  | zero =>
    have hu' : Value.slice A' p.length c' = u := by simpa using hu
    subst hu'
    have e2 : (⟨g, 0, none⟩ : Addr).add (j * (Kd.slice e (Kd.int .u8)).sz + 0) = ⟨g, j, none⟩ := by
      rw [show j * (Kd.slice e (Kd.int .u8)).sz + 0 = j from Nat.mul_one j]
      exact add_plain _ _
    rw [e2, blk_cell hb j]
    exact h1
  | succ i => simp at hu

/-- A row of bytes in a block that is known whole, whatever of it is frozen. -/
theorem C_block' {w : World} {g : Nat} {cs : Array Value} {t : TypeId} {fr : Nat × Nat} {k : IntKind} {xs : List Int} (hb : w.heap[g]? = some (.cells cs t fr)) (hcs : cs = (nums k xs).toArray) (h : xs.length ≤ 9223372036854775807) :
    (Kd.int k).C w (some ⟨g, 0, none⟩) xs.length xs := by
  refine Kd.C_of_reads (enc := Value.int k) (d := (0 : Int)) (h1 := fun _ => rfl) ⟨rfl, h, fun _ => ⟨_, rfl, fun j hj => ?_⟩⟩
  rw [show (⟨g, 0, none⟩ : Addr).add j = ⟨g, j, none⟩ from add_plain _ _, cell_of_row w g j cs t fr hb, hcs]
  simp [nums, hj, List.getD_eq_getElem?_getD]
theorem sum1 {W : World} {g : Nat} {A : Option Addr} {c : Nat} {l : List Int} {t : TypeId} (hb : W.heap[g]? = some (.cells #[.slice A l.length c] t (0, 0))) (hC : (Kd.int .u8).C W A l.length l) (hc : l.length ≤ c) (hl : l.length ≤ 1000000) (hB : isB l = true) :
    Calls Tryd.prog 14 #[.slice (some ⟨g, 0, none⟩) 1 1] W fun e w' => e = .returned (.agg (sumOf l).out) ∧ Below W.heap.size W w' := by
  have hf : [l].flatten = l := by simp
  have h := sum_c (some ⟨g, 0, none⟩) 1 [l] W (rows_C hb (by simp) (fun j hj => by
    have hj0 : j = 0 := by simp at hj; exact hj
    subst hj0
    exact ⟨A, c, rfl, hc, hC⟩)) (by simp [lens]; exact hl) (by simp) (by rw [hf]; exact hB)
  rw [hf] at h
  exact h
theorem sum4 {W : World} {g : Nat} {A1 A2 A3 : Option Addr} {c1 c2 c3 : Nat} {l1 l2 l3 : List Int} {t : TypeId} (hb : W.heap[g]? = some (.cells #[.slice A1 l1.length c1, .slice A2 l2.length c2, .slice none 0 0, .slice A3 l3.length c3] t (0, 0)))
    (h1 : (Kd.int .u8).C W A1 l1.length l1) (hc1 : l1.length ≤ c1) (h2 : (Kd.int .u8).C W A2 l2.length l2) (hc2 : l2.length ≤ c2) (h3 : (Kd.int .u8).C W A3 l3.length l3) (hc3 : l3.length ≤ c3) (l : List Int) (hl : l1 ++ (l2 ++ l3) = l) (hn : l.length ≤ 1000000) (hB : isB l = true) :
    Calls Tryd.prog 14 #[.slice (some ⟨g, 0, none⟩) 4 4] W fun e w' => e = .returned (.agg (sumOf l).out) ∧ Below W.heap.size W w' := by
  have hf : [l1, l2, [], l3].flatten = l := by rw [← hl]; simp
  have h := sum_c (some ⟨g, 0, none⟩) 4 [l1, l2, [], l3] W (rows_C hb (by simp) (fun j hj => by
    have hj0 : j = 0 ∨ j = 1 ∨ j = 2 ∨ j = 3 := by simp at hj; omega
    rcases hj0 with rfl | rfl | rfl | rfl
    · exact ⟨A1, c1, rfl, hc1, h1⟩
    · exact ⟨A2, c2, rfl, hc2, h2⟩
    · exact ⟨none, 0, rfl, Nat.le_refl _, Kd.C_nil _ _⟩
    · exact ⟨A3, c3, rfl, hc3, h3⟩)) (by rw [← lens_flat, hf]; exact hn) (by simp) (by rw [hf]; exact hB)
  rw [hf] at h
  exact h

set_option maxRecDepth 100000 in
theorem awake_calls (w : World) : Calls Tryd.prog 13 #[] w fun e w' => e = .returned (.bool true) ∧ Below w.heap.size w w' := by
  have kc := fun (w : World) (C : Array Value) (n c : Nat) => Lib.run_convert_bytes_const (P := Tryd.prog) w 22 5 C n c Tryd.underlying22 Tryd.underlying5
  have h0 := Aside0.mk (fun (W : World) => sum_c none 0 [] W (Kd.C_nil _ _) (by decide) (by decide) (by decide))
  go_enter Tryd.func13, Tryd.ntmps13
  go_wp2_with fail
  refine (h0.out _).mono ?_
  rintro e w1 ⟨rfl, hb1⟩
  have hb1 := Aside0.mk hb1
  go_wp2_with fail
  refine (hex_calls _ (sumOf_isB _) _).mono ?_
  rintro e w2 ⟨rfl, hb2⟩
  have hb2 := Aside0.mk hb2
  rw [hex_empty]
  go_wp2_with fail
  refine (sum1 (blk_new2 _ _ _) (l := [97, 98, 99]) (c := 3) (C_block' (blk_alloc (blk_new _ _) _) rfl (by decide)) (by decide) (by decide) (by decide)).mono ?_
  rintro e w3 ⟨rfl, hb3⟩
  have hb3 := Aside0.mk hb3
  go_wp2_with fail
  refine (hex_calls _ (sumOf_isB _) _).mono ?_
  rintro e w4 ⟨rfl, hb4⟩
  have hb4 := Aside0.mk hb4
  rw [hex_abc]
  go_wp2_with fail
  go_ret
  have b2 := below_step hb1.out hb2.out
  exact ⟨rfl, below_step (below_step (below_alloc (below_alloc b2 _) _) hb3.out) hb4.out⟩
end Go.Proofs.YtgadhmoifhoilaaDoor.Md5
