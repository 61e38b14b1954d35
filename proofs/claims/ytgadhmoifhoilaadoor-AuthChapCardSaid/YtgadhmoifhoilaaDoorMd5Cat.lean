/-
  slices.Grow of nil, and slices.Concat of slices of bytes: what comes back is a new row: all of them, one behind the other.
-/
import Derived.Test.YtgadhmoifhoilaaDoorKit
import Derived.Lib.AppendZerosOnto
import Derived.WalkLawsBesides
import Derived.Test.YtgadhmoifhoilaaDoorPMdBasex1
import Derived.WalkSpells
namespace Go.Proofs.YtgadhmoifhoilaaDoor.Md5
open Go.RowKit Go.Lib Go.Proofs.YtgadhmoifhoilaaDoorW.PrintWords Go.Proofs.YtgadhmoifhoilaaDoorW.PrintLast Go.Proofs.YtgadhmoifhoilaaDoor.Kit
theorem zeroCells_size (z : Value) (n : Nat) : (Builtin.zeroCells #[z] n).size = n := by simp [Builtin.zeroCells]
set_option maxRecDepth 100000 in
theorem grow_calls (n : Nat) (w : World) (hn : n ≤ 1000000) :
  Calls Tryd.prog 53 #[.slice none 0 0, .int .i64 n] w fun e w' => ∃ v, e = .returned v ∧ (Kd.int .u8).R 5 w' w.heap.size (fun _ => True) v [] ∧ Below w.heap.size w w' := by
 rcases Nat.eq_zero_or_pos n with rfl | hp
 ·go_enter Tryd.func53, Tryd.ntmps53
  go_wp2
  go_ret
  exact ⟨_, rfl, Kd.R_nil _ _ _ _ _, Below.refl _ _⟩
 ·obtain ⟨i0, hi0, hz0, hsz, hby⟩ := info_parts info5
  have hold : (Builtin.firstCells i0.size 0 (.slice none 0 0)).run Tryd.prog w.drew = .ok (#[] : Array Value) w.drew := run_firstCells_none w.drew i0.size 0 0 0
  have h := Lib.run_append_grow_zeros (P := Tryd.prog) w 22 3 0 5 i0 (.int .u8 0) .i64 .i64 Tryd.underlying22 Tryd.underlying3 hi0 hz0 none 0 0 [] hold n hp (by omega) (by omega) (by omega) (by rw [hby]; omega)
   (by rw [hby]; exact growslice_fits (by omega) (by omega))
  have hGn : n ≤ grownCap w n 0 5 := grownCap_ge w _ _ _
  have hGx : grownCap w n 0 5 ≤ maxLen := grownCap_le_maxLen w n 0 5 (by unfold maxLen; omega)
  rw [Nat.zero_add] at h
  obtain ⟨G, hG⟩ : ∃ G, G = grownCap w n 0 5 := ⟨_, rfl⟩
  rw [← hG] at h hGn hGx
  obtain ⟨C, hC⟩ : ∃ C : Array Value, C = ([] : List Value).toArray ++ Builtin.zeroCells (Value.int IntKind.u8 0).cells n ++ Builtin.zeroCells (Value.int IntKind.u8 0).cells (G - n) := ⟨_, rfl⟩
  rw [← hC] at h
  have hCs : C.size = G := by
   rw [hC]
   have e : (Value.int IntKind.u8 0).cells = #[.int .u8 0] := rfl
   rw [e, Array.size_append, Array.size_append, zeroCells_size, zeroCells_size]
   simp
   omega
  have hr : ∀ ty, (Builtin.append_ #[22, 3] ty #[.slice none 0 0, .int .i64 (n : Int)]).run Tryd.prog w = .ok (.slice (some ⟨w.heap.size, 0, none⟩) n G) (w.drew.alloc (.cells C 5)) := fun _ => h
  have hR : (Kd.int .u8).R 5 (w.drew.alloc (.cells C 5)) w.heap.size (fun _ => True) (.slice (some ⟨w.heap.size, 0, none⟩) 0 G) [] :=
   Kd.R_of_own (enc := Value.int .u8) (h1 := fun _ => rfl) ⟨rfl, .inr ⟨w.heap.size, G, C, rfl, Nat.le_refl _, blk_new w.drew _, Nat.zero_le _, hGx, by omega, by simp [encs]⟩⟩ (fun _ _ => trivial)
  have HR := Aside0.mk hR
  have hG1 : G ≤ 9223372036854775807 := by unfold maxLen at hGx; exact hGx
  clear h hold hi0 hz0 hsz hby hG hC hCs hR hGx
  go_enter Tryd.func53, Tryd.ntmps53
  go_wp2_with (at_builtin; refine Lib.wpList_append_run _ rfl _ _ _ _ rfl _ _ rfl rfl _ _ (hr _) ?_)
  all_goals (go_ret; exact ⟨_, rfl, HR.out, below_alloc (below_drew1 (Below.refl _ _)) _⟩)
theorem slice_at {α : Type} {d : Kd α} {e : Nat} {w : World} {A : Option Addr} {n : Nat} {xs : List (List α)} (h : (Kd.slice e d).C w A n xs) (k : Nat) (hk : k < n) :
  ∃ ad A' c', A = some ad ∧ w.cell? (ad.add k) = some (.slice A' (xs.getD k []).length c') ∧ (xs.getD k []).length ≤ c' ∧ d.C w A' (xs.getD k []).length (xs.getD k []) := by
 obtain ⟨ad, cs, hA, _, ⟨A', c', hcs, hl, hC⟩, hx⟩ := Kd.C_get h [] (k : Int) (by omega) (by omega)
 rw [Int.toNat_natCast] at hcs hl hC hx
 refine ⟨ad, A', c', hA, ?_, hl, hC⟩
 have := hx 0 _ (by rw [hcs]; rfl)
 simpa [Kd.slice] using this
def lens (ps : List (List Int)) : Nat := (ps.map List.length).sum
theorem lens_flat (ps : List (List Int)) : ps.flatten.length = lens ps := by simp [lens, List.length_flatten]
theorem take_snoc {α : Type} (xs : List α) (k : Nat) (h : k < xs.length) (d : α) : xs.take (k + 1) = xs.take k ++ [xs.getD k d] := by
 rw [List.take_succ_eq_append_getElem h]
 simp [List.getD_eq_getElem?_getD, h]
theorem lens_snoc (ps : List (List Int)) (k : Nat) (h : k < ps.length) : lens (ps.take (k + 1)) = lens (ps.take k) + (ps.getD k []).length := by
 rw [take_snoc ps k h []]
 simp [lens]
theorem lens_le (ps : List (List Int)) (k : Nat) : lens (ps.take k) ≤ lens ps := by
 have e : lens (ps.take k ++ ps.drop k) = lens (ps.take k) + lens (ps.drop k) := by simp only [lens, List.map_append, List.sum_append]
 rw [List.take_append_drop] at e
 omega
theorem flat_snoc (ps : List (List Int)) (k : Nat) (h : k < ps.length) : (ps.take (k + 1)).flatten = (ps.take k).flatten ++ ps.getD k [] := by
 rw [take_snoc ps k h []]
 simp
set_option maxRecDepth 100000 in
set_option maxHeartbeats 1000000 in
theorem concat_calls (A : Option Addr) (c : Nat) (ps : List (List Int)) (w : World) (hC : (Kd.slice 5 (Kd.int .u8)).C w A ps.length ps) (hl : lens ps ≤ 1000000) (hn : ps.length ≤ 1000) :
  Calls Tryd.prog 37 #[.slice A ps.length c] w fun e w' => ∃ v, e = .returned v ∧ (Kd.int .u8).R 5 w' w.heap.size (fun _ => True) v ps.flatten ∧ Below w.heap.size w w' := by
 have HC := Aside0.mk hC
 clear hC
 go_enter Tryd.func37, Tryd.ntmps37
 go_wp2
 go_loop [3, 11] (fun s i => ∃ k : Nat, k ≤ ps.length ∧ i = .int .i64 k ∧ s = .int .i64 (lens (ps.take k) : Nat)) (fun _ i => ps.length - (intOf i).toNat)
 case atStart => exact ⟨0, Nat.zero_le _, rfl, rfl⟩
 case round =>
  obtain ⟨k, hk, rfl, rfl⟩ := hrel
  by_cases hlt : k < ps.length
  ·obtain ⟨ad, A', c', rfl, hx, _, _⟩ := slice_at HC.out k hlt
   have h1 := lens_snoc ps k hlt
   have h2 := lens_le ps (k + 1)
   have H1 := Aside0.mk h1
   obtain ⟨L, hL⟩ : ∃ L, lens (ps.take k) = L := ⟨_, rfl⟩
   obtain ⟨X, hX⟩ : ∃ X, (ps.getD k []).length = X := ⟨_, rfl⟩
   rw [hL, hX] at h1
   rw [hX] at hx
   rw [h1] at h2
   have HL := Aside0.mk hL
   have HX := Aside0.mk hX
   rw [hL]
   clear hL hX h1
   have hneg : decide ((L : Int) + (X : Int) < 0) = false := decide_eq_false (by omega)
   go_wp2
   exact ⟨⟨k + 1, by omega, by go_num, by rw [H1.out, HL.out, HX.out]; go_num⟩, by simp [intOf]; omega⟩
  ·have e : k = ps.length := by omega
   subst e
   rw [List.take_length]
   obtain ⟨L, hL⟩ : ∃ L, lens ps = L := ⟨_, rfl⟩
   rw [hL] at hl ⊢
   have HL := Aside0.mk hL
   clear hL
   go_wp2_with fail
   refine (grow_calls L _ hl).mono ?_
   rintro e w1 ⟨v, rfl, hR, hb⟩
   have HR := Aside0.mk hR
   have HB := Aside0.mk hb
   have HC1 := Aside0.mk (Kd.C_below HC.out hb)
   clear hR hb
   go_wp2_with fail
   go_loopw [6, 27] (fun v i wr => ∃ k : Nat, k ≤ ps.length ∧ i = .int .i64 k ∧ Aside0 ((Kd.int .u8).R 5 wr w.heap.size (fun _ => True) v (ps.take k).flatten) ∧ Aside0 (Below w.heap.size w wr)) (fun _ i _ => ps.length - (intOf i).toNat)
   case atStart => exact ⟨0, Nat.zero_le _, rfl, HR, HB⟩
   case round =>
    clear HR HB HC1
    obtain ⟨k, hk, rfl, HR, HB⟩ := hrel
    by_cases hlt : k < ps.length
    ·obtain ⟨ad, A', c', rfl, hx, hle, hC'⟩ := slice_at (Kd.C_below HC.out HB.out) k hlt
     have HC' := Aside0.mk hC'
     have HF := Aside0.mk (flat_snoc ps k hlt)
     have hb1 : (ps.take k).flatten.length + (ps.getD k []).length ≤ 1000000 := by
      have h1 := lens_snoc ps k hlt
      have h2 := lens_le ps (k + 1)
      rw [lens_flat]
      have := HL.out
      omega
     have HB1 := Aside0.mk hb1
     generalize ps.getD k [] = q at *
     generalize (ps.take k).flatten = acc at *
     clear hC' hb1
     go_wp2_with (first | ((with_reducible refine gate_builtin (b := .append) (xs := #[.tmp 31, .tmp 32]) rfl ?_); at_builtin; refine Kd.R_append_rows (Kd.int .u8) (w0 := w) w.heap.size rfl (.tmp 31) (.tmp 32) 22 5 (.int .u8 0) 1 rfl Tryd.underlying22 info5 rfl (by decide) (by omega) _ acc q A' q.length c' (fun _ => True) (fun _ => False) rfl rfl ?aO ?aR (fun _ _ h => h) (fun _ h => h.elim) ?aF ?aB ?aS ?aL ?_; (case aO => exact HR.out); (case aR => exact HC'.out); (case aF => exact (fun _ _ => trivial)); (case aB => exact HB.out); (case aS => exact HB.out.size); (case aL => have := HB1.out; omega); intro v1 w4 ho hb hg hat; have O4 := Aside0.mk ho; have B4 := Aside0.mk hb; clear ho hb hg hat HR HB))
     go_roundw
     case rel => exact ⟨k + 1, by omega, by go_num, ⟨by rw [HF.out]; exact O4.out⟩, B4⟩
     case measure => simp [intOf]; omega
    ·have e : k = ps.length := by omega
     subst e
     go_wp2
     go_ret
     exact ⟨_, rfl, by have := HR.out; rw [List.take_length] at this; exact this, HB.out⟩
end Go.Proofs.YtgadhmoifhoilaaDoor.Md5
