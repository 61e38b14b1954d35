/-
  What md5.padded answers, in plain words; Sum's contract over whatever bytes; what it answers of nothing and of "abc".
-/
import Derived.Test.YtgadhmoifhoilaaDoorMd5Sum
import Derived.Test.YtgadhmoifhoilaaDoorMd5Hex
import Derived.Lib.SlBytesConst
namespace Go.Proofs.YtgadhmoifhoilaaDoor.Md5
open Go.RowKit Go.Proofs.YtgadhmoifhoilaaDoorW.PrintWords Go.Proofs.YtgadhmoifhoilaaDoorW.PrintLast Go.Proofs.YtgadhmoifhoilaaDoorW.PrintMore Go.Proofs.YtgadhmoifhoilaaDoor.Kit
def zerosN (n : Nat) : Nat := (119 - n % 64) % 64
def len8 (t : Int) : List Int := [shr .u64 t 0 % 256, shr .u64 t 8 % 256, shr .u64 t 16 % 256, shr .u64 t 24 % 256, shr .u64 t 32 % 256, shr .u64 t 40 % 256, shr .u64 t 48 % 256, shr .u64 t 56 % 256]
def padF (l : List Int) : List Int := l ++ [128] ++ List.replicate (zerosN l.length) 0 ++ len8 (8 * (l.length : Int))
theorem l1_step (k : Nat) (x : List Int) (t i : Int) (h0 : 0 ≤ i) (h8 : i < 8) (hx : x.length ≤ 3000000) : PMdBase.md5_padded.l1 (k + 1) x t i = PMdBase.md5_padded.l1 k (x ++ [shr .u64 t (8 * i) % 256]) t (i + 1) := by
 have e1 : wrap64 (8 * i) = 8 * i := wrapS (by omega) (by omega)
 have e2 : wrap64 (i + 1) = i + 1 := wrapS (by omega) (by omega)
 rw [PMdBase.md5_padded.l1, if_pos h8, e1, if_pos (by omega), if_pos (by omega), e2]
theorem l1_all (x : List Int) (t : Int) (hx : x.length ≤ 2000000) : PMdBase.md5_padded.l1 9 x t 0 = some (x ++ len8 t) := by
 rw [l1_step 8 x t 0 (by omega) (by omega) (by omega)]
 rw [l1_step 7 _ t _ (by omega) (by omega) (by simp; omega)]
 rw [l1_step 6 _ t _ (by omega) (by omega) (by simp; omega)]
 rw [l1_step 5 _ t _ (by omega) (by omega) (by simp; omega)]
 rw [l1_step 4 _ t _ (by omega) (by omega) (by simp; omega)]
 rw [l1_step 3 _ t _ (by omega) (by omega) (by simp; omega)]
 rw [l1_step 2 _ t _ (by omega) (by omega) (by simp; omega)]
 rw [l1_step 1 _ t _ (by omega) (by omega) (by simp; omega)]
 rw [PMdBase.md5_padded.l1, if_neg (by omega)]
 simp [len8]
theorem l0_all (t : Int) : ∀ (z : Nat) (x : List Int), x.length + z ≤ 2000000 → (x.length + z) % 64 = 56 → z < 64 → PMdBase.md5_padded.l0 (z + 10) x t = some (x ++ List.replicate z 0 ++ len8 t)
 | 0, x, h, he, _ => by
  rw [PMdBase.md5_padded.l0, if_pos (by omega), l1_all x t (by omega)]
  simp
 | z + 1, x, h, he, hz => by
  rw [show z + 1 + 10 = (z + 10) + 1 from by omega, PMdBase.md5_padded.l0, if_neg (by omega), if_pos (by omega), l0_all t z (x ++ [0]) (by simp; omega) (by simp; omega) (by omega)]
  simp [List.replicate_succ]
theorem pad_eq (l : List Int) (h : l.length ≤ 1000000) : PMdBase.md5_padded.f (zerosN l.length + 10) l = some (padF l) := by
 have e : IntKind.u64.wrap (IntKind.u64.wrap (l.length : Int) * 8) = 8 * (l.length : Int) := by rw [IntKind.wrap_u64, IntKind.wrap_u64]; omega
 unfold PMdBase.md5_padded.f
 rw [if_pos (by omega), e, l0_all _ (zerosN l.length) (l ++ [128]) (by simp [zerosN]; omega) (by simp [zerosN]; omega) (by unfold zerosN; omega)]
 rfl
theorem pad_len (l : List Int) : (padF l).length = 64 * ((l.length + 72) / 64) := by
 unfold padF len8
 simp only [List.length_append, List.length_cons, List.length_nil, List.length_replicate, zerosN]
 omega
theorem pad_isB (l : List Int) (h : isB l = true) : isB (padF l) = true := by
 unfold padF
 refine isB_append (isB_append (isB_append h (by decide)) ?_) ?_
 ·unfold isB; rw [List.all_eq_true]; intro x hx; rw [List.eq_of_mem_replicate hx]; decide
 ·unfold isB; rw [List.all_eq_true]; intro x hx
  have : ∃ y : Int, x = y % 256 := by
   unfold len8 at hx
   simp only [List.mem_cons, List.not_mem_nil, or_false] at hx
   rcases hx with h | h | h | h | h | h | h | h <;> exact ⟨_, h⟩
  obtain ⟨y, rfl⟩ := this
  simp
  omega
def sumOf (l : List Int) : St := sumSt (padF l) (List.range ((l.length + 72) / 64))
theorem sum_c (A : Option Addr) (c : Nat) (ps : List (List Int)) (w : World) (hC : (Kd.slice 5 (Kd.int .u8)).C w A ps.length ps) (hl : lens ps ≤ 1000000) (hn : ps.length ≤ 1000) (hb : isB ps.flatten = true) :
  Calls Tryd.prog 14 #[.slice A ps.length c] w fun e w' => e = .returned (.agg (sumOf ps.flatten).out) ∧ Below w.heap.size w w' := by
 have h1 : ps.flatten.length ≤ 1000000 := by rw [lens_flat]; exact hl
 exact sum_calls A c ps (padF ps.flatten) _ w hC hl hn (pad_eq _ h1) (pad_isB _ hb) _ (pad_len _) (by omega) (by omega)
theorem rows_C {W : World} {g : Nat} {vs : Array Value} {t e : TypeId} {ps : List (List Int)} (hb : W.heap[g]? = some (.cells vs t (0, 0))) (hl : ps.length ≤ 9223372036854775807)
  (hv : ∀ j, j < ps.length → ∃ A' c', vs[j]? = some (.slice A' (ps.getD j []).length c') ∧ (ps.getD j []).length ≤ c' ∧ (Kd.int .u8).C W A' (ps.getD j []).length (ps.getD j [])) :
  (Kd.slice e (Kd.int .u8)).C W (some ⟨g, 0, none⟩) ps.length ps := by
 refine ⟨rfl, hl, fun _ => ⟨_, rfl, fun j p hj => ?_⟩⟩
 have hjl : j < ps.length := (List.getElem?_eq_some_iff.1 hj).1
 obtain ⟨A', c', h1, h2, h3⟩ := hv j hjl
 have e1 : ps.getD j [] = p := by rw [List.getD_eq_getElem?_getD, hj]; rfl
 rw [e1] at h1 h2 h3
 refine ⟨_, rfl, ⟨A', c', rfl, h2, h3⟩, fun i u hu => ?_⟩
 cases i with
 | zero =>
  have hu' : Value.slice A' p.length c' = u := by simpa using hu
  subst hu'
  have e2 : (⟨g, 0, none⟩ : Addr).add (j * (Kd.slice e (Kd.int .u8)).sz + 0) = ⟨g, j, none⟩ := by
   rw [show j * (Kd.slice e (Kd.int .u8)).sz + 0 = j from Nat.mul_one j]
   exact add_plain _ _
  rw [e2, blk_cell hb j]
  exact h1
 | succ i => simp at hu
end Go.Proofs.YtgadhmoifhoilaaDoor.Md5
