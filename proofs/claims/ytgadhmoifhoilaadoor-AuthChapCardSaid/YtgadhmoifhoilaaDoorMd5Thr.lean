/-
  MD5's block: what through answers of four words and a block of 64 bytes.
-/
import Derived.Test.YtgadhmoifhoilaaDoorMd5Sin
import Derived.Test.YtgadhmoifhoilaaDoorPMdBasex1
import Derived.Test.YtgadhmoifhoilaaDoorKit
import Derived.StillTailTactics
namespace Go.Proofs.YtgadhmoifhoilaaDoor.Md5
open Go.RowKit Go.Proofs.YtgadhmoifhoilaaDoorW.PrintWords Go.Proofs.YtgadhmoifhoilaaDoorW.PrintLast Go.Proofs.YtgadhmoifhoilaaDoor.Kit
theorem sines_len : sinesL.length = 64 := rfl
theorem sines_at (i : Nat) (h : i < 64) : sinesC[i]? = some (.int .u32 (sinesL.getD i 0)) := by
 have h2 : i < sinesL.length := by rw [sines_len]; exact h
 unfold sinesC
 simp [h2, List.getD_eq_getElem?_getD]
def wordF (l : List Int) : Int := rd l 0 + 256 * rd l 1 + 65536 * rd l 2 + 16777216 * rd l 3
theorem word_eq {l : List Int} (hB : isB l = true) (hl : 4 ≤ l.length) : PMdBase.md5_word.f l = some (wordF l) := by
 have h0 := rd_byte hB 0
 have h1 := rd_byte hB 1
 have h2 := rd_byte hB 2
 have h3 := rd_byte hB 3
 unfold PMdBase.md5_word.f wordF
 rw [if_pos (by omega), if_pos (by omega), if_pos (by omega), if_pos (by omega)]
 generalize rd l 0 = a at *
 generalize rd l 1 = b at *
 generalize rd l 2 = c at *
 generalize rd l 3 = d at *
 have e0 : a % 4294967296 = a := by omega
 have e1 : b % 4294967296 * 256 % 4294967296 = 256 * b := by omega
 have e2 : c % 4294967296 * 65536 % 4294967296 = 65536 * c := by omega
 have e3 : d % 4294967296 * 16777216 % 4294967296 = 16777216 * d := by omega
 rw [e0, e1, e2, e3]
 have or_comm : ∀ x y : Int, bits .or .u32 x y = bits .or .u32 y x := fun x y => by unfold bits; simp [BitVec.or_comm]
 have j1 : bits .or .u32 a (256 * b) = 256 * b + a := by
  rw [or_comm]
  exact bits_join .u32 32 (by decide) wraps_u32 8 _ _ (by omega) (by omega) (by omega) (by omega) (by omega) (by omega)
 have j2 : bits .or .u32 (256 * b + a) (65536 * c) = 65536 * c + (256 * b + a) := by
  rw [or_comm]
  exact bits_join .u32 32 (by decide) wraps_u32 16 _ _ (by omega) (by omega) (by omega) (by omega) (by omega) (by omega)
 have j3 : bits .or .u32 (65536 * c + (256 * b + a)) (16777216 * d) = 16777216 * d + (65536 * c + (256 * b + a)) := by
  rw [or_comm]
  exact bits_join .u32 32 (by decide) wraps_u32 24 _ _ (by omega) (by omega) (by omega) (by omega) (by omega) (by omega)
 rw [j1, j2, j3]
 congr 1
 omega
structure St where
 a : Int
 b : Int
 c : Int
 d : Int
def M : Int := 4294967296
def tOf (l : List Int) (i : Nat) (x : St) : Int :=
 (((x.a + fOf i x.b x.c x.d) % 4294967296 + wordF (l.drop (4 * kOf i).toNat)) % 4294967296 + sinesL.getD i 0) % 4294967296
def stepF (l : List Int) (x : St) (i : Nat) : St := ⟨x.d, (x.b + rot (tOf l i x) (turnsOf i)) % 4294967296, x.b, x.c⟩
def stepsF (l : List Int) (x : St) (n : Nat) : St := (List.range n).foldl (stepF l) x
def St.ok (x : St) : Prop := (0 ≤ x.a ∧ x.a < 4294967296) ∧ (0 ≤ x.b ∧ x.b < 4294967296) ∧ (0 ≤ x.c ∧ x.c < 4294967296) ∧ (0 ≤ x.d ∧ x.d < 4294967296)
theorem stepsF_succ (l : List Int) (x : St) (n : Nat) : stepsF l x (n + 1) = stepF l (stepsF l x n) n := by
 unfold stepsF
 rw [List.range_succ, List.foldl_append]
 rfl
theorem stepF_ok (l : List Int) (x : St) (i : Nat) (h : x.ok) : (stepF l x i).ok := by
 obtain ⟨h1, h2, h3, h4⟩ := h
 exact ⟨h4, ⟨Int.emod_nonneg _ (by decide), Int.emod_lt_of_pos _ (by decide)⟩, h2, h3⟩
theorem stepsF_ok (l : List Int) (x : St) (h : x.ok) : ∀ n, (stepsF l x n).ok
 | 0 => h
 | n + 1 => by rw [stepsF_succ]; exact stepF_ok l _ n (stepsF_ok l x h n)
def St.add (x y : St) : St := ⟨(x.a + y.a) % 4294967296, (x.b + y.b) % 4294967296, (x.c + y.c) % 4294967296, (x.d + y.d) % 4294967296⟩
def throughF (l : List Int) (x : St) : St := x.add (stepsF l x 64)
def St.cells (x : St) : Array Value := #[.int .u32 x.a, .int .u32 x.b, .int .u32 x.c, .int .u32 x.d]
def partC (x y : St) (i : Nat) : Array Value := #[.int .u32 (if 0 < i then (x.a + y.a) % 4294967296 else x.a), .int .u32 (if 1 < i then (x.b + y.b) % 4294967296 else x.b), .int .u32 (if 2 < i then (x.c + y.c) % 4294967296 else x.c), .int .u32 (if 3 < i then (x.d + y.d) % 4294967296 else x.d)]
structure AddInv (w : World) (x y : St) (i : Nat) (wr : World) : Prop where
 bel : Below w.heap.size w wr
 s : wr.heap[w.heap.size]? = some (.cells (partC x y i) 67 (0, 0))
 r : wr.heap[w.heap.size + 1]? = some (.cells #[.int .u32 0, .int .u32 0, .int .u32 0, .int .u32 0] 67 (0, 0))
 x : wr.heap[w.heap.size + 3]? = some (.cells y.cells 67 (0, 0))
theorem AddInv.step {w : World} {x y : St} {i : Nat} {wr : World} (h : AddInv w x y i wr) (v : Value) (hv : (partC x y i).setIfInBounds i v = partC x y (i + 1)) : AddInv w x y (i + 1) (wr.setCell ⟨w.heap.size, i, none⟩ v).drew := by
 refine ⟨below_drew1 (h.bel.setCell (p := ⟨w.heap.size, i, none⟩) (Nat.le_refl _) _), ?_, ?_, ?_⟩
 ·rw [← hv]; exact blk_drew (blk_set h.s i _)
 ·exact blk_drew (blk_far h.r (by simp) _)
 ·exact blk_drew (blk_far h.x (by simp) _)
theorem word_calls (A : Option Addr) (c : Nat) (l : List Int) (w : World) (hC : (Kd.int .u8).C w A l.length l) (hc : l.length ≤ c) (hB : isB l = true) (hl : 4 ≤ l.length) :
  Calls Tryd.prog 56 #[.slice A l.length c] w fun e w' => e = .returned (.int .u32 (wordF l)) ∧ ∃ n, w' = w.drewN n :=
 (PMdBase.md5_word.calls A c l (wordF l) w hC hc (word_eq hB hl)).mono fun _ _ ⟨h1, h2⟩ => ⟨h1, h2.out⟩
theorem still_tail {P : Program} {id : Nat} {Q : Exit → Act → World → Prop} {a : Act} {w wz : World} {l : List Oper} (hwz : w.drew = wz) (n : Nat) (hm : P.follows .mixedOrders = true) (hB : Region.lexTailB .any l.toArray n = true)
  (h : wpStill P l.toArray wz (fun a' => wpList P l.toArray Q (l.drop n) a' wz) (l.take n) a) : (Code.region id l.toArray true).wp P Q a w := by
 subst hwz
 exact wp_region_still_tail n hm hB h
structure ThrInv (w : World) (l : List Int) (x : St) (i : Nat) (wr : World) : Prop where
 bel : Below w.heap.size w wr
 s : wr.heap[w.heap.size]? = some (.cells x.cells 67 (0, 0))
 r : wr.heap[w.heap.size + 1]? = some (.cells #[.int .u32 0, .int .u32 0, .int .u32 0, .int .u32 0] 67 (0, 0))
 k : wr.heap[w.heap.size + 2]? = some (.cells sinesC 108 (0, 0))
 x : wr.heap[w.heap.size + 3]? = some (.cells (stepsF l x i).cells 67 (0, 0))
set_option maxRecDepth 100000 in
set_option maxHeartbeats 4000000 in
theorem through_calls (x : St) (A : Option Addr) (c : Nat) (l : List Int) (w : World) (hx : x.ok) (hC : (Kd.int .u8).C w A l.length l) (hc : l.length ≤ c) (hB : isB l = true) (hl : l.length = 64) :
  Calls Tryd.prog 38 #[.agg x.cells, .slice A l.length c] w fun e w' => e = .returned (.agg (throughF l x).cells) ∧ Below w.heap.size w w' := by
 have HX := Aside0.mk hx
 have HC := Aside0.mk hC
 have HB := Aside0.mk hB
 have HL := Aside0.mk hl
 have HCC := Aside0.mk hc
 clear hx hC hB hl hc
 obtain ⟨xa, hxa⟩ : ∃ xa, x.a = xa := ⟨_, rfl⟩
 obtain ⟨xb, hxb⟩ : ∃ xb, x.b = xb := ⟨_, rfl⟩
 obtain ⟨xc, hxc⟩ : ∃ xc, x.c = xc := ⟨_, rfl⟩
 obtain ⟨xd, hxd⟩ : ∃ xd, x.d = xd := ⟨_, rfl⟩
 have HXC := Aside0.mk (show x.cells = #[.int .u32 xa, .int .u32 xb, .int .u32 xc, .int .u32 xd] from by unfold St.cells; rw [hxa, hxb, hxc, hxd])
 rw [HXC.out]
 clear hxa hxb hxc hxd
 go_enter Tryd.func38, Tryd.ntmps38
 go_wp2_with fail
 refine (sines_calls _).mono ?_
 rintro e w3 ⟨rfl, hw3⟩
 have hb3 : Below w.heap.size w w3 := by rw [hw3]; exact below_alloc (below_alloc (below_alloc (Below.refl _ _) _) _) _
 obtain ⟨q1, q2, q3⟩ := blk_new3 w (.cells #[.int .u32 xa, .int .u32 xb, .int .u32 xc, .int .u32 xd] 67) (.cells #[.int .u32 0, .int .u32 0, .int .u32 0, .int .u32 0] 67) (.cells sinesC 108)
 rw [← hw3] at q1 q2 q3
 have hsz : w3.heap.size = w.heap.size + 3 := by rw [hw3]; simp
 have HB3 := Aside0.mk hb3
 have Q1 := Aside0.mk q1
 have Q2 := Aside0.mk q2
 have Q3 := Aside0.mk q3
 have hz0 : w3.cell? ⟨w.heap.size, 0, none⟩ = some (.int .u32 xa) := (blk_cell q1 0).trans rfl
 have hz1 : w3.cell? ⟨w.heap.size, 1, none⟩ = some (.int .u32 xb) := (blk_cell q1 1).trans rfl
 have hz2 : w3.cell? ⟨w.heap.size, 2, none⟩ = some (.int .u32 xc) := (blk_cell q1 2).trans rfl
 have hz3 : w3.cell? ⟨w.heap.size, 3, none⟩ = some (.int .u32 xd) := (blk_cell q1 3).trans rfl
 clear hw3 hb3 q1 q2 q3
 simp only [World.size_alloc]
 rw [show w.heap.size + 1 + 1 = w.heap.size + 2 from rfl]
 go_wp2_with (refine wpList_load_row rfl 67 (.tmp 2) rfl w.heap.size rfl 67 _ (0, 0) _ Q1.out Tryd.underlying67 rfl (by kernel_rfl) ?_)
 have HI := Aside0.mk (show ThrInv w l x 0 (w3.alloc (.cells #[.int .u32 xa, .int .u32 xb, .int .u32 xc, .int .u32 xd] 67)) from
  ⟨below_alloc HB3.out _, by rw [HXC.out]; exact blk_alloc Q1.out _, blk_alloc Q2.out _, blk_alloc Q3.out _, by
   have e : stepsF l x 0 = x := rfl
   rw [e, HXC.out, ← hsz]
   exact blk_new _ _⟩)
 clear hz0 hz1 hz2 hz3 hsz HB3 Q1 Q2 Q3
 go_loopw [14] (fun v wr => ∃ i : Nat, i ≤ 64 ∧ v = .int .i64 i ∧ Aside0 (ThrInv w l x i wr)) (fun v _ => 64 - (intOf v).toNat)
 case atStart => exact ⟨0, by omega, rfl, HI⟩
 case round =>
  clear HI
  obtain ⟨i, hi, rfl, HI⟩ := hrel
  by_cases hlt : i < 64
  ·have hok := stepsF_ok l x HX.out i
   have hw := HI.out.x
   have hk := (blk_cell HI.out.k i).trans (sines_at i hlt)
   obtain ⟨sv, hsv⟩ : ∃ sv, sinesL.getD i 0 = sv := ⟨_, rfl⟩
   rw [hsv] at hk
   have HSV := Aside0.mk hsv
   clear hsv
   have HN := Aside0.mk (stepsF_succ l x i)
   have HCr := Aside0.mk (Kd.C_below HC.out HI.out.bel)
   generalize stepsF l x i = y at *
   obtain ⟨ya, yb, yc, yd⟩ := y
   obtain ⟨ha, hb, hc, hd⟩ := hok
   have ha : 0 ≤ ya ∧ ya < 4294967296 := ha
   have hb : 0 ≤ yb ∧ yb < 4294967296 := hb
   have hc : 0 ≤ yc ∧ yc < 4294967296 := hc
   have hd : 0 ≤ yd ∧ yd < 4294967296 := hd
   obtain ⟨ha0, ha1⟩ := ha
   obtain ⟨hb0, hb1⟩ := hb
   obtain ⟨hc0, hc1⟩ := hc
   obtain ⟨hd0, hd1⟩ := hd
   have hz0 : wr.cell? ⟨w.heap.size + 3, 0, none⟩ = some (.int .u32 ya) := (blk_cell hw 0).trans rfl
   have hz1 : wr.cell? ⟨w.heap.size + 3, 1, none⟩ = some (.int .u32 yb) := (blk_cell hw 1).trans rfl
   have hz2 : wr.cell? ⟨w.heap.size + 3, 2, none⟩ = some (.int .u32 yc) := (blk_cell hw 2).trans rfl
   have hz3 : wr.cell? ⟨w.heap.size + 3, 3, none⟩ = some (.int .u32 yd) := (blk_cell hw 3).trans rfl
   have hf : ∀ j, wr.frozen? ⟨w.heap.size + 3, j, none⟩ = false := blk_frozen hw
   have hf0 := hf 0
   have hf1 := hf 1
   have hf2 := hf 2
   have hf3 := hf 3
   obtain ⟨F, hF⟩ : ∃ F, fOf (i : Int) yb yc yd = F := ⟨_, rfl⟩
   obtain ⟨K, hK⟩ : ∃ K : Nat, kOf (i : Int) = (K : Int) := ⟨(kOf (i : Int)).toNat, by have := kOf_range (i : Int) (by omega); omega⟩
   have hKr : K < 16 := by have := kOf_range (i : Int) (by omega); omega
   have HF := Aside0.mk hF
   have HK := Aside0.mk hK
   clear hw hf hF hK
   go_wp2_with (go_at_call 55; refine (mixed_calls (i : Int) yb yc yd _ (by omega) (by omega)).mono ?_; rintro e w' ⟨rfl, rfl⟩; rw [HF.out, HK.out])
   obtain ⟨i0, hi0, _, hsz0, _⟩ := info_parts info5
   have hL := HL.out
   obtain ⟨A', hrun, hC'⟩ := cut_low 22 5 .i64 Tryd.underlying22 hi0 hsz0 A c l (4 * (K : Int)) (4 * K) (by omega) (by omega) HCC.out HCr.out
   have HC' := Aside0.mk hC'
   have HB' := Aside0.mk (isB_drop HB.out (4 * K))
   have hld : 4 ≤ (l.drop (4 * K)).length := by rw [List.length_drop]; omega
   have hld2 : (l.drop (4 * K)).length ≤ c - 4 * K := by have := HCC.out; rw [List.length_drop]; omega
   obtain ⟨W, hW⟩ : ∃ W, wordF (l.drop (4 * K)) = W := ⟨_, rfl⟩
   have HW := Aside0.mk hW
   generalize hdl : l.drop (4 * K) = dl at *
   have hDL := Aside0.mk hdl
   have m1 : IntKind.i64.wrap (4 * (K : Int)) = 4 * (K : Int) := wrapI (by omega) (by omega)
   have m2 : wrap64 (4 * (K : Int)) = 4 * (K : Int) := wrapS (by omega) (by omega)
   have HWD := Aside0.mk (show ∀ n, Calls Tryd.prog 56 #[.slice A' dl.length (c - 4 * K)] (wr.drewN n) fun e w' => e = .returned (.int .u32 W) ∧ ∃ m, w' = (wr.drewN n).drewN m from fun n => by
    rw [← HW.out]
    exact word_calls A' (c - 4 * K) dl _ (Kd.C_drewN HC'.out _) hld2 HB'.out hld)
   clear hi0 hsz0 hL hC' hW hdl
   go_quiet ((go_at_call 56; go_loud (exact Calls.quiet_of (HWD.out _))))
   go_wp2_with fail
   generalize hT : (((ya + F + W) % 4294967296 + sv) % 4294967296) = T
   have t0 : 0 ≤ T := by omega
   have t1 : T < 4294967296 := by omega
   have HT := Aside0.mk hT
   clear hT
   obtain ⟨R, hR⟩ : ∃ R, rot T (turnsOf (i : Int)) = R := ⟨_, rfl⟩
   have HR := Aside0.mk hR
   obtain ⟨N, hN⟩ : ∃ N, turnsOf (i : Int) = N := ⟨_, rfl⟩
   have hN1 := turnsOf_range (i : Int)
   rw [hN] at hN1 hR
   have HN1 := Aside0.mk hN
   have hN1 := Aside0.mk hN1
   have HTC := Aside0.mk (show ∀ wx, Calls Tryd.prog 58 #[.int .i64 (i : Int)] wx fun e w' => e = .returned (.int .i64 N) ∧ w' = wx from fun wx => by
    rw [← hN]; exact (turns_calls (i : Int) wx (by omega) (by omega)).mono fun _ _ ⟨h1, h2⟩ => ⟨h1, h2.symm⟩)
   have HRC := Aside0.mk (show ∀ wx, Calls Tryd.prog 57 #[.int .u32 T, .int .i64 N] wx fun e w' => e = .returned (.int .u32 R) ∧ w' = wx from fun wx => by
    rw [← hR]; exact (rot_calls T N wx t0 t1 hN1.out.1 hN1.out.2).mono fun _ _ ⟨h1, h2⟩ => ⟨h1, h2.symm⟩)
   clear hR hN
   obtain ⟨wz, hwz⟩ : ∃ wz, (wr.drewN nq).drew = wz := ⟨_, rfl⟩
   have y0 : wz.cell? ⟨w.heap.size + 3, 0, none⟩ = some (.int .u32 ya) := by rw [← hwz]; exact hz0
   have y1 : wz.cell? ⟨w.heap.size + 3, 1, none⟩ = some (.int .u32 yb) := by rw [← hwz]; exact hz1
   have y2 : wz.cell? ⟨w.heap.size + 3, 2, none⟩ = some (.int .u32 yc) := by rw [← hwz]; exact hz2
   have y3 : wz.cell? ⟨w.heap.size + 3, 3, none⟩ = some (.int .u32 yd) := by rw [← hwz]; exact hz3
   have f0 : wz.frozen? ⟨w.heap.size + 3, 0, none⟩ = false := by rw [← hwz]; exact hf0
   have f1 : wz.frozen? ⟨w.heap.size + 3, 1, none⟩ = false := by rw [← hwz]; exact hf1
   have f2 : wz.frozen? ⟨w.heap.size + 3, 2, none⟩ = false := by rw [← hwz]; exact hf2
   have f3 : wz.frozen? ⟨w.heap.size + 3, 3, none⟩ = false := by rw [← hwz]; exact hf3
   have HI' := Aside0.mk (show ThrInv w l x i wz from by
    rw [← hwz]
    exact ⟨below_drew1 (pw_below_drewN HI.out.bel _), HI.out.s, HI.out.r, HI.out.k, HI.out.x⟩)
   refine still_tail hwz 14 (by kernel_rfl) (by kernel_rfl) ?_
   clear hwz hz0 hz1 hz2 hz3 hf0 hf1 hf2 hf3 HI
   simp only [List.take_succ_cons, List.take_zero, List.drop_succ_cons, List.drop_zero]
   repeat still_step
   still_call (HTC.out _)
   repeat still_step
   still_call (HRC.out _)
   repeat still_step
   refine wpStill_nil ?_
   go_wp2
   have hfin : ThrInv w l x (i + 1) ((((wz.setCell ⟨w.heap.size + 3, 0, none⟩ (.int .u32 yd)).setCell ⟨w.heap.size + 3, 1, none⟩ (.int .u32 ((yb + R) % 4294967296))).setCell ⟨w.heap.size + 3, 2, none⟩ (.int .u32 yb)).setCell ⟨w.heap.size + 3, 3, none⟩ (.int .u32 yc)) := by
    have hne : ∀ k, k < 3 → w.heap.size + k ≠ (w.heap.size + 3) := fun k hk => by omega
    refine ⟨(((HI'.out.bel.setCell (p := ⟨w.heap.size + 3, 0, none⟩) (by simp) _).setCell (p := ⟨w.heap.size + 3, 1, none⟩) (by simp) _).setCell (p := ⟨w.heap.size + 3, 2, none⟩) (by simp) _).setCell (p := ⟨w.heap.size + 3, 3, none⟩) (by simp) _, ?_, ?_, ?_, ?_⟩
    ·exact blk_far (blk_far (blk_far (blk_far HI'.out.s (hne 0 (by decide)) _) (hne 0 (by decide)) _) (hne 0 (by decide)) _) (hne 0 (by decide)) _
    ·exact blk_far (blk_far (blk_far (blk_far HI'.out.r (hne 1 (by decide)) _) (hne 1 (by decide)) _) (hne 1 (by decide)) _) (hne 1 (by decide)) _
    ·exact blk_far (blk_far (blk_far (blk_far HI'.out.k (hne 2 (by decide)) _) (hne 2 (by decide)) _) (hne 2 (by decide)) _) (hne 2 (by decide)) _
    ·have e : (stepsF l x (i + 1)).cells = #[.int .u32 yd, .int .u32 ((yb + R) % 4294967296), .int .u32 yb, .int .u32 yc] := by
      have eT : tOf l i ⟨ya, yb, yc, yd⟩ = T := by
       unfold tOf
       rw [HK.out, show (4 * (K : Int)).toNat = 4 * K from by omega, hDL.out, HW.out, HF.out, HSV.out]
       have := HT.out
       simp only
       omega
      rw [HN.out]
      unfold stepF St.cells
      rw [eT, HR.out]
     rw [e]
     exact blk_set (blk_set (blk_set (blk_set HI'.out.x 0 _) 1 _) 2 _) 3 _
   have HFIN := Aside0.mk hfin
   clear hfin
   go_roundw
   case rel => exact ⟨i + 1, by omega, by go_num, HFIN⟩
   case measure => simp [intOf]; omega
  ·have e : i = 64 := by omega
   subst e
   have hyok := stepsF_ok l x HX.out 64
   have hw := HI.out.x
   have HY := Aside0.mk (show throughF l x = x.add (stepsF l x 64) from rfl)
   obtain ⟨Y, hY⟩ : ∃ Y, stepsF l x 64 = Y := ⟨_, rfl⟩
   rw [hY] at hw hyok HY
   clear hY
   obtain ⟨ya, yb, yc, yd⟩ := Y
   have hyok := Aside0.mk hyok
   have HA := Aside0.mk (show AddInv w x ⟨ya, yb, yc, yd⟩ 0 wr from ⟨HI.out.bel, HI.out.s, HI.out.r, hw⟩)
   clear hw HI
   go_wp2
   go_loopw [59] (fun v wr2 => ∃ i : Int, 0 ≤ i ∧ i ≤ 4 ∧ v = .int .i64 i ∧ Aside0 (AddInv w x ⟨ya, yb, yc, yd⟩ i.toNat wr2)) (fun v _ => 4 - (intOf v).toNat)
   case atStart => exact ⟨0, by omega, by omega, rfl, HA⟩
   case round =>
    clear HA
    obtain ⟨i, h0, h4, rfl, HA⟩ := hrel
    have hx := HXC.out
    by_cases hlt : i < 4
    ·have hi : i = 0 ∨ i = 1 ∨ i = 2 ∨ i = 3 := by omega
     rcases hi with rfl | rfl | rfl | rfl
     ·have hz : wr.cell? ⟨w.heap.size, 0, none⟩ = some (.int .u32 x.a) := (blk_cell HA.out.s 0).trans rfl
      have hy : wr.cell? ⟨w.heap.size + 3, 0, none⟩ = some (.int .u32 ya) := (blk_cell HA.out.x 0).trans rfl
      have hf : wr.frozen? ⟨w.heap.size, 0, none⟩ = false := blk_frozen HA.out.s 0
      have HN := Aside0.mk (HA.out.step (.int .u32 ((x.a + ya) % 4294967296)) rfl)
      clear HA hx
      go_wp2
      go_region
      go_wp2
      exact ⟨⟨1, by omega, by omega, rfl, HN⟩, by simp [intOf]⟩
     ·have hz : wr.cell? ⟨w.heap.size, 1, none⟩ = some (.int .u32 x.b) := (blk_cell HA.out.s 1).trans rfl
      have hy : wr.cell? ⟨w.heap.size + 3, 1, none⟩ = some (.int .u32 yb) := (blk_cell HA.out.x 1).trans rfl
      have hf : wr.frozen? ⟨w.heap.size, 1, none⟩ = false := blk_frozen HA.out.s 1
      have HN := Aside0.mk (HA.out.step (.int .u32 ((x.b + yb) % 4294967296)) rfl)
      clear HA hx
      go_wp2
      go_region
      go_wp2
      exact ⟨⟨2, by omega, by omega, rfl, HN⟩, by simp [intOf]⟩
     ·have hz : wr.cell? ⟨w.heap.size, 2, none⟩ = some (.int .u32 x.c) := (blk_cell HA.out.s 2).trans rfl
      have hy : wr.cell? ⟨w.heap.size + 3, 2, none⟩ = some (.int .u32 yc) := (blk_cell HA.out.x 2).trans rfl
      have hf : wr.frozen? ⟨w.heap.size, 2, none⟩ = false := blk_frozen HA.out.s 2
      have HN := Aside0.mk (HA.out.step (.int .u32 ((x.c + yc) % 4294967296)) rfl)
      clear HA hx
      go_wp2
      go_region
      go_wp2
      exact ⟨⟨3, by omega, by omega, rfl, HN⟩, by simp [intOf]⟩
     ·have hz : wr.cell? ⟨w.heap.size, 3, none⟩ = some (.int .u32 x.d) := (blk_cell HA.out.s 3).trans rfl
      have hy : wr.cell? ⟨w.heap.size + 3, 3, none⟩ = some (.int .u32 yd) := (blk_cell HA.out.x 3).trans rfl
      have hf : wr.frozen? ⟨w.heap.size, 3, none⟩ = false := blk_frozen HA.out.s 3
      have HN := Aside0.mk (HA.out.step (.int .u32 ((x.d + yd) % 4294967296)) rfl)
      clear HA hx
      go_wp2
      go_region
      go_wp2
      exact ⟨⟨4, by omega, by omega, rfl, HN⟩, by simp [intOf]⟩
    ·have e : i = 4 := by omega
     subst e
     have hr0 : wr.cell? ⟨w.heap.size + 1, 0, none⟩ = some (.int .u32 0) := (blk_cell HA.out.r 0).trans rfl
     have hr1 : wr.cell? ⟨w.heap.size + 1, 1, none⟩ = some (.int .u32 0) := (blk_cell HA.out.r 1).trans rfl
     have hr2 : wr.cell? ⟨w.heap.size + 1, 2, none⟩ = some (.int .u32 0) := (blk_cell HA.out.r 2).trans rfl
     have hr3 : wr.cell? ⟨w.heap.size + 1, 3, none⟩ = some (.int .u32 0) := (blk_cell HA.out.r 3).trans rfl
     have hf0 := blk_frozen HA.out.r 0
     have hf1 := blk_frozen HA.out.r 1
     have hf2 := blk_frozen HA.out.r 2
     have hf3 := blk_frozen HA.out.r 3
     have HS := Aside0.mk (show wr.heap[w.heap.size]? = some (.cells #[.int .u32 ((x.a + ya) % 4294967296), .int .u32 ((x.b + yb) % 4294967296), .int .u32 ((x.c + yc) % 4294967296), .int .u32 ((x.d + yd) % 4294967296)] 67 (0, 0)) from HA.out.s)
     clear hx
     go_wp2_with (refine wpList_load_row rfl 67 (.tmp 2) rfl w.heap.size rfl 67 _ (0, 0) _ HS.out Tryd.underlying67 rfl (by kernel_rfl) ?_)
     refine bodyPost_ret (results_cell_row Tryd.results38 _ _ (w.heap.size + 1) 67 #[.int .u32 ((x.a + ya) % 4294967296), .int .u32 ((x.b + yb) % 4294967296), .int .u32 ((x.c + yc) % 4294967296), .int .u32 ((x.d + yd) % 4294967296)] (0, 0) _ rfl (blk_set (blk_set (blk_set (blk_set HA.out.r 0 _) 1 _) 2 _) 3 _) Tryd.underlying67 rfl (by kernel_rfl)) rfl ⟨?_, (((HA.out.bel.setCell (p := ⟨w.heap.size + 1, 0, none⟩) (by simp) _).setCell (p := ⟨w.heap.size + 1, 1, none⟩) (by simp) _).setCell (p := ⟨w.heap.size + 1, 2, none⟩) (by simp) _).setCell (p := ⟨w.heap.size + 1, 3, none⟩) (by simp) _⟩
     rw [HY.out]
     rfl
end Go.Proofs.YtgadhmoifhoilaaDoor.Md5
