/-
  chap.Read: what it reads of bytes, as a plain function of lists tells; the value is a row of its own.
-/
import Derived.Test.YtgadhmoifhoilaaDoorAuthClone
import Derived.Test.YtgadhmoifhoilaaDoorKit
import Derived.Deep.RegionWith
import Derived.WalkLawsBesides
namespace Go.Proofs.YtgadhmoifhoilaaDoor.AuthHand
open Go.RowKit Go.Lib Go.Proofs.YtgadhmoifhoilaaDoorW.PrintWords Go.Proofs.YtgadhmoifhoilaaDoorW.PrintLast Go.Proofs.YtgadhmoifhoilaaDoorW.PrintMore Go.Proofs.YtgadhmoifhoilaaDoor.Kit
def chap_Read.f (l : List Int) : Option (List Int × ByteArray × Int) :=
  if isB l = true ∧ l.length ≤ 1000000 then
    (if l.length = 0 then some ([], ⟨#[]⟩, 2) else if rd l 0 = 0 then some ([], ⟨#[]⟩, 1) else if (l.length : Int) - 1 < rd l 0 then some ([], ⟨#[]⟩, 2)
     else if 65526 < (l.length : Int) - 1 - rd l 0 then some ([], ⟨#[]⟩, 4) else some ((l.drop 1).take (rd l 0).toNat, strOfNums ((l.drop 1).drop (rd l 0).toNat), 0))
  else none
set_option maxRecDepth 100000 in
set_option maxHeartbeats 4000000 in
theorem chap_Read.calls (A0 : Option Addr) (c0 : Nat) (l0 : List Int) (r1 : List Int) (r2 : ByteArray) (r3 : Int) (w : World) (hr0 : Kd.C (Kd.int .u8) w A0 l0.length l0) (hc0 : l0.length ≤ c0) (h : chap_Read.f l0 = some (r1, r2, r3)) :
    Calls Tryd.prog 19 #[.slice A0 l0.length c0] w fun e w' => ∃ v0_ : Value, e = .returned (.tuple #[.agg #[v0_, .string r2], .int .i64 r3]) ∧ Kd.R (Kd.int .u8) 5 w' w.heap.size (fun _ => True) v0_ r1 ∧ Below w.heap.size w w' := by
  unfold chap_Read.f at h
  split at h
  case isFalse => cases h
  case isTrue hB =>
  obtain ⟨hB, hl⟩ := hB
  have hrd := rd_byte hB 0
  by_cases h0 : l0.length = 0
  · rw [if_pos h0] at h
    simp only [Option.some.injEq, Prod.mk.injEq] at h
    obtain ⟨rfl, rfl, rfl⟩ := h
    rw [h0]
    clear hr0 hrd hB
    go_enter Tryd.func19, Tryd.ntmps19
    go_wp2
    refine bodyPost_ret (results_ct rfl _ _ w.heap.size 30 #[.slice none 0 0, .string (⟨#[]⟩ : ByteArray)] (0, 0) _ rfl (by first | exact blk_new _ _ | exact blk_set (blk_set (blk_new _ _) 0 _) 1 _) Tryd.underlying30 rfl (by kernel_rfl)) rfl ?_
    exact ⟨_, rfl, Kd.R_nil _ _ _ _ _, by first | exact below_alloc (Below.refl _ _) _ | exact ((below_alloc (Below.refl _ _) _).setCell (p := ⟨w.heap.size, 0, none⟩) (Nat.le_refl _) _).setCell (p := ⟨w.heap.size, 1, none⟩) (Nat.le_refl _) _⟩
  · rw [if_neg h0] at h
    obtain ⟨ad, rfl, hx0⟩ := Kd.at_int hr0 0 (by omega) (by omega)
    have hx : w.cell? ad = some (.int .u8 (rd l0 0)) := by simpa [Addr.add] using hx0
    obtain ⟨i0, hi0, _, hsz0, _⟩ := info_parts info5
    obtain ⟨A1, hcut1, hC1⟩ := cut_low 22 5 .i64 Tryd.underlying22 hi0 hsz0 (some ad) c0 l0 1 1 rfl (by omega) hc0 hr0
    obtain ⟨n, hn⟩ : ∃ n : Nat, rd l0 0 = (n : Int) := ⟨(rd l0 0).toNat, by omega⟩
    have hM : (l0.drop 1).length = l0.length - 1 := List.length_drop
    rw [hn] at hx h hrd
    rw [Int.toNat_natCast] at h
    obtain ⟨q, hq⟩ : ∃ q, l0.drop 1 = q := ⟨_, rfl⟩
    rw [hq] at hcut1 hC1 hM h
    obtain ⟨M, hMM⟩ : ∃ M, q.length = M := ⟨_, rfl⟩
    obtain ⟨C, hC⟩ : ∃ C, c0 - 1 = C := ⟨_, rfl⟩
    rw [hMM] at hcut1 hC1 hM
    rw [hC] at hcut1
    obtain ⟨L, hL⟩ : ∃ L, l0.length = L := ⟨_, rfl⟩
    rw [hL] at hcut1 hM h h0 hc0 hl ⊢
    have HC1 := Aside0.mk hC1
    have HQ := Aside0.mk hMM
    have hn255 : n ≤ 255 := by omega
    have hL1 : L = M + 1 := by omega
    have hCM : M ≤ C := by omega
    clear hr0 hx0 hn hq hMM hC1 hrd hB hM hC
    subst hL1
    clear hL hc0
    have hxA : (w.alloc (.cells #[.slice none 0 0, .string (⟨#[]⟩ : ByteArray)] 30)).cell? ad = some (.int .u8 (n : Int)) := ((below_alloc (Below.refl _ _) _).cell (World.block_lt_of_cell? w _ hx)).trans hx
    clear hx
    by_cases hz : n = 0
    · subst hz
      rw [if_pos (by omega)] at h
      simp only [Option.some.injEq, Prod.mk.injEq] at h
      obtain ⟨rfl, rfl, rfl⟩ := h
      go_enter Tryd.func19, Tryd.ntmps19
      go_wp2
      refine bodyPost_ret (results_ct rfl _ _ w.heap.size 30 #[.slice none 0 0, .string (⟨#[]⟩ : ByteArray)] (0, 0) _ rfl (by first | exact blk_new _ _ | exact blk_set (blk_set (blk_new _ _) 0 _) 1 _) Tryd.underlying30 rfl (by kernel_rfl)) rfl ?_
      exact ⟨_, rfl, Kd.R_nil _ _ _ _ _, by first | exact below_alloc (Below.refl _ _) _ | exact ((below_alloc (Below.refl _ _) _).setCell (p := ⟨w.heap.size, 0, none⟩) (Nat.le_refl _) _).setCell (p := ⟨w.heap.size, 1, none⟩) (Nat.le_refl _) _⟩
    · rw [if_neg (by omega)] at h
      by_cases h1 : M < n
      · rw [if_pos (by omega)] at h
        simp only [Option.some.injEq, Prod.mk.injEq] at h
        obtain ⟨rfl, rfl, rfl⟩ := h
        go_enter Tryd.func19, Tryd.ntmps19
        go_wp2
        refine bodyPost_ret (results_ct rfl _ _ w.heap.size 30 #[.slice none 0 0, .string (⟨#[]⟩ : ByteArray)] (0, 0) _ rfl (by first | exact blk_new _ _ | exact blk_set (blk_set (blk_new _ _) 0 _) 1 _) Tryd.underlying30 rfl (by kernel_rfl)) rfl ?_
        exact ⟨_, rfl, Kd.R_nil _ _ _ _ _, by first | exact below_alloc (Below.refl _ _) _ | exact ((below_alloc (Below.refl _ _) _).setCell (p := ⟨w.heap.size, 0, none⟩) (Nat.le_refl _) _).setCell (p := ⟨w.heap.size, 1, none⟩) (Nat.le_refl _) _⟩
      · rw [if_neg (by omega)] at h
        by_cases h2 : 65526 < M - n
        · rw [if_pos (by omega)] at h
          simp only [Option.some.injEq, Prod.mk.injEq] at h
          obtain ⟨rfl, rfl, rfl⟩ := h
          go_enter Tryd.func19, Tryd.ntmps19
          go_wp2
          refine bodyPost_ret (results_ct rfl _ _ w.heap.size 30 #[.slice none 0 0, .string (⟨#[]⟩ : ByteArray)] (0, 0) _ rfl (by first | exact blk_new _ _ | exact blk_set (blk_set (blk_new _ _) 0 _) 1 _) Tryd.underlying30 rfl (by kernel_rfl)) rfl ?_
          exact ⟨_, rfl, Kd.R_nil _ _ _ _ _, by first | exact below_alloc (Below.refl _ _) _ | exact ((below_alloc (Below.refl _ _) _).setCell (p := ⟨w.heap.size, 0, none⟩) (Nat.le_refl _) _).setCell (p := ⟨w.heap.size, 1, none⟩) (Nat.le_refl _) _⟩
        · rw [if_neg (by omega)] at h
          simp only [Option.some.injEq, Prod.mk.injEq] at h
          obtain ⟨rfl, rfl, rfl⟩ := h
          have hq := HQ.out
          have hcutA : ∀ W, (Instr.slice 22 (.slice A1 M C) none (some (.int .i64 (n : Int))) none).run Tryd.prog W = .ok (.slice A1 n C) W := by
            intro W
            have := cut_to 22 5 .i64 Tryd.underlying22 hi0 A1 M C (n : Int) (by omega) (by omega) (by omega) W
            simpa using this
          have hCA := Kd.C_take (m := n) (xs := q) (A := A1) (w := w) (k := Kd.int .u8) (by rw [hq]; exact HC1.out) (by omega)
          have hlA : (q.take n).length = n := by rw [List.length_take]; omega
          obtain ⟨A2, hcutB, hCB⟩ := cut_low 22 5 .i64 Tryd.underlying22 hi0 hsz0 A1 C q (n : Int) n rfl (by omega) (by omega) (by rw [hq]; exact HC1.out)
          have hlB : (q.drop n).length = M - n := by rw [List.length_drop, hq]
          rw [hq] at hcutB
          rw [hlB] at hcutB
          obtain ⟨tA, htA⟩ : ∃ tA, q.take n = tA := ⟨_, rfl⟩
          obtain ⟨tB, htB⟩ : ∃ tB, q.drop n = tB := ⟨_, rfl⟩
          rw [htA] at hCA hlA ⊢
          rw [htB] at hCB hlB ⊢
          obtain ⟨NB, hNB⟩ : ∃ NB, M - n = NB := ⟨_, rfl⟩
          obtain ⟨CB, hCBe⟩ : ∃ CB, C - n = CB := ⟨_, rfl⟩
          rw [hNB] at hcutB hlB
          rw [hCBe] at hcutB
          have HCL := Aside0.mk (show ∀ W, Below w.heap.size w W → Calls Tryd.prog 42 #[.slice A1 n C] W fun e w' => ∃ v0_ : Value, e = .returned (v0_) ∧ Kd.R (Kd.int .u8) 5 w' W.heap.size (fun _ => True) v0_ tA ∧ Below W.heap.size W w' from fun W hb => by
            rw [← hlA]
            exact bytes_Clone.calls A1 C tA tA W (Kd.C_below hCA hb) (by omega) (by unfold bytes_Clone.f; rw [if_pos (by omega)]))
          have HCV := Aside0.mk (show ∀ W, Below w.heap.size w W → (convert 22 9 (.slice A2 NB CB)).run Tryd.prog W = .ok (.string (strOfNums tB)) W from fun W hb => by
            rw [← hlB]
            exact Kd.C_string Tryd.underlying22 Tryd.underlying5 Tryd.underlying9 (Kd.C_below hCB hb))
          obtain ⟨sv, hsv⟩ : ∃ sv, strOfNums tB = sv := ⟨_, rfl⟩
          rw [hsv] at HCV ⊢
          clear hsv
          clear hCA hCB hlA hlB htA htB hNB hCBe hi0 hsz0 hq
          go_enter Tryd.func19, Tryd.ntmps19
          go_wp2_with fail
          clear hxA
          generalize hwA : w.alloc (.cells #[.slice none 0 0, .string (⟨#[]⟩ : ByteArray)] 30) = wA
          have hbA : Below w.heap.size w wA := by rw [← hwA]; exact below_alloc (Below.refl _ _) _
          have hkA : wA.heap[w.heap.size]? = some (.cells #[.slice none 0 0, .string (⟨#[]⟩ : ByteArray)] 30 (0, 0)) := by rw [← hwA]; exact blk_new _ _
          have HBA := Aside0.mk hbA
          have HKA := Aside0.mk hkA
          have hcv0 := HCV.out _ (below_drew1 hbA)
          obtain ⟨g, hg⟩ : ∃ g, w.heap.size = g := ⟨_, rfl⟩
          have HG := Aside0.mk hg
          rw [hg] at HKA ⊢
          clear hwA hbA hkA hg
          go_region_with (first | (go_at_call 42; refine (HCL.out _ (below_drew1 HBA.out)).mono ?_; rintro e w6 ⟨v6, rfl, hR6, hb6⟩; obtain ⟨Ao, co, eo⟩ := Kd.R_slice hR6; subst eo; have HR6 := Aside0.mk hR6; have HB6 := Aside0.mk hb6; have HK6 := Aside0.mk (blk_below (blk_drew HKA.out) hb6); have hcv6 := HCV.out w6 (below_step (below_drew1 HBA.out) hb6); have y0 : w6.cell? ⟨g, 0, none⟩ = some (.slice none 0 0) := (blk_cell HK6.out 0).trans rfl; have y1 : w6.cell? ⟨g, 1, none⟩ = some (.string (⟨#[]⟩ : ByteArray)) := (blk_cell HK6.out 1).trans rfl; have f0 := blk_frozen HK6.out 0; have f1 := blk_frozen HK6.out 1; clear hR6 hb6))
          all_goals go_wp2
          all_goals (refine bodyPost_ret (results_ct rfl _ _ g 30 #[.slice Ao tA.length co, .string sv] (0, 0) _ rfl (blk_set (blk_set HK6.out 0 _) 1 _) Tryd.underlying30 rfl (by kernel_rfl)) rfl ?_)
          all_goals (have hg := HG.out; have hle : w.heap.size ≤ g := by omega)
          all_goals (have ht : ∀ x, x ∈ (5 : TypeId) :: (Kd.int IntKind.u8).E → x ≠ 30 := fun x hx => by cases hx with | head => decide | tail _ h => cases h)
          all_goals exact ⟨_, rfl, Kd.R_set (Kd.R_set (Kd.R_lower HR6.out (by have := HBA.out.size; exact this)) HK6.out ht 0 _) (blk_set HK6.out 0 _) ht 1 _, ((below_step (below_drew1 HBA.out) HB6.out).setCell (p := ⟨g, 0, none⟩) hle _).setCell (p := ⟨g, 1, none⟩) hle _⟩
end Go.Proofs.YtgadhmoifhoilaaDoor.AuthHand
