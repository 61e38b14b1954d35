/-
  umpireref03.Sum by hand: its digest is the program's.
-/
import Derived.Test.YtgadhmoifhoilaaDoorRefPlain
import Derived.Test.YtgadhmoifhoilaaDoorMd5Eq
namespace Go.Proofs.YtgadhmoifhoilaaDoor.Md5
open Go.RowKit Go.Lib Go.Proofs.YtgadhmoifhoilaaDoorW.PrintWords Go.Proofs.YtgadhmoifhoilaaDoorW.PrintLast Go.Proofs.YtgadhmoifhoilaaDoorW.PrintMore Go.Proofs.YtgadhmoifhoilaaDoor.Kit
set_option linter.unusedVariables false
set_option linter.unusedSimpArgs false
theorem lit_event {P : Program} {ops : Array Oper} {rest : List Oper} {o : Oper} {a : Act} {Q : Exit → Act → World → Prop} {W : World} (hgd : o.guard = none) {N : Tmp} (_hd : o.dst = some N) {cs : Array Value} {t : TypeId} {n : Nat}
  (hrun : (execOp a.eval o).run P W = .ok (.value (.slice (some ⟨W.heap.size, 0, none⟩) n n)) (W.alloc (.cells cs t (0, 0))))
  (h : ∀ g, g = W.heap.size → ∀ w1, w1.heap[g]? = some (.cells cs t (0, 0)) → Below W.heap.size W w1 → wpList P ops Q rest (a.put o.dst (.slice (some ⟨g, 0, none⟩) n n)) w1) : wpList P ops Q (o :: rest) a W :=
 Kd.event_run hgd hrun (h _ rfl _ (blk_new W _) (below_alloc (Below.refl _ _) _))
structure RefInv (w : World) (R : List Int) (gz gt cR gp p0 p1 p2 p3 : Nat) (W : World) : Prop where
 bel : Below w.heap.size w W
 out : W.heap[gz]? = some (.cells z16 24 (0, 0))
 txt : (Kd.int .u8).R 5 W w.heap.size (fun _ => True) (.slice (some ⟨gt, 0, none⟩) R.length cR) R
 pl : W.heap[gp]? = some (.cells #[.slice (some ⟨p0, 0, none⟩) 4 4, .slice (some ⟨p1, 0, none⟩) 4 4, .slice (some ⟨p2, 0, none⟩) 4 4, .slice (some ⟨p3, 0, none⟩) 4 4] 75 (0, 0))
 q0 : W.heap[p0]? = some (.cells #[.int .i64 7, .int .i64 12, .int .i64 17, .int .i64 22] 3 (0, 0))
 q1 : W.heap[p1]? = some (.cells #[.int .i64 5, .int .i64 9, .int .i64 14, .int .i64 20] 3 (0, 0))
 q2 : W.heap[p2]? = some (.cells #[.int .i64 4, .int .i64 11, .int .i64 16, .int .i64 23] 3 (0, 0))
 q3 : W.heap[p3]? = some (.cells #[.int .i64 6, .int .i64 10, .int .i64 15, .int .i64 21] 3 (0, 0))
 ld : Laid W
theorem RefInv.below {w : World} {R : List Int} {gz gt cR gp p0 p1 p2 p3 : Nat} {W W1 : World} (h : RefInv w R gz gt cR gp p0 p1 p2 p3 W) (hb : Below W.heap.size W W1) (h3 : 3 ≤ W.heap.size) : RefInv w R gz gt cR gp p0 p1 p2 p3 W1 :=
 ⟨below_step h.bel hb, blk_below h.out hb, Kd.R_below h.txt hb, blk_below h.pl hb, blk_below h.q0 hb, blk_below h.q1 hb, blk_below h.q2 hb, blk_below h.q3 hb, h.ld.below hb h3⟩
theorem turn_c (x n : Int) (W : World) (h0 : 0 ≤ x) (h1 : x < 4294967296) (hn0 : 0 ≤ n) (hn : n ≤ 31) : Calls Tryd.prog 41 #[.int .u32 x, .int .i64 n] W fun e w' => e = .returned (.int .u32 (rot x n)) ∧ Below W.heap.size W w' :=
 (PMdBase.umpireref03_turn.calls 40 x n (rot x n) W (turn_eq x n h0 h1 hn0 hn)).mono fun _ _ ⟨a, b⟩ => ⟨a, b.below⟩
theorem sine_c (i : Nat) (hi : i < 64) (w : World) (HG : Laid w) : Calls Tryd.prog 40 #[.int .i64 ((i : Int) + 1)] w fun e w' => e = .returned (.int .u32 (sinesL.getD i 0)) ∧ w = w' := (sine_calls i hi w HG).mono fun _ _ ⟨a, b⟩ => ⟨a, b.symm⟩
def WRel (b0 b1 b2 b3 : Int) (v14 v15 : Value) : Prop := (v15 = .int .i64 3 ∧ v14 = .int .u32 0) ∨ (v15 = .int .i64 2 ∧ v14 = .int .u32 b3) ∨ (v15 = .int .i64 1 ∧ v14 = .int .u32 (b3 * 256 + b2)) ∨ (v15 = .int .i64 0 ∧ v14 = .int .u32 ((b3 * 256 + b2) * 256 + b1)) ∨ (v15 = .int .i64 (-1) ∧ v14 = .int .u32 (((b3 * 256 + b2) * 256 + b1) * 256 + b0))
structure ROut (w : World) (z : St) (gz gh go : Nat) (i : Nat) (wr : World) : Prop where
 bel : Below w.heap.size w wr
 s : wr.heap[gh]? = some (.cells z.cells 46 (0, 0))
 r : wr.heap[gz]? = some (.cells z16 24 (0, 0))
 o : wr.heap[go]? = some (.cells (outC z i) 24 (0, 0))
theorem ROut.step {w : World} {z : St} {gz gh go i : Nat} {wr : World} (h : ROut w z gz gh go i wr) (v : Value) (hv : (outC z i).setIfInBounds i v = outC z (i + 1)) (hg : w.heap.size ≤ go) (hz : gz ≠ go) (hh : gh ≠ go) : ROut w z gz gh go (i + 1) (wr.setCell ⟨go, i, none⟩ v) := by
 refine ⟨h.bel.setCell (p := ⟨go, i, none⟩) hg _, blk_far h.s hh _, blk_far h.r hz _, ?_⟩
 rw [← hv]
 exact blk_set h.o i _
def DRel (x : Int) (r : Nat) (v19 v20 : Value) : Prop := ∃ n : Nat, n ≤ r ∧ v20 = .int .i64 (n : Int) ∧ v19 = .int .u32 (x / 256 ^ n)
theorem DRel.start (x : Int) (r : Nat) : DRel x r (.int .u32 x) (.int .i64 0) := ⟨0, Nat.zero_le _, rfl, by simp⟩
theorem div_step (x : Int) (n : Nat) : x / 256 ^ (n + 1) = x / 256 ^ n / 256 := by
 rw [Int.pow_succ, Int.ediv_ediv_of_nonneg]
 have h : (0 : Int) < 256 ^ n := Int.pow_pos (by decide)
 omega
theorem div_range {x : Int} (n : Nat) (h0 : 0 ≤ x) (h1 : x ≤ 4294967295) : 0 ≤ x / 256 ^ n ∧ x / 256 ^ n ≤ 4294967295 := by
 induction n with
 | zero => simp; omega
 | succ n ih =>
  rw [div_step]
  generalize x / 256 ^ n = y at ih
  omega
theorem dig_one {sa sb sc sd : Int} (ha : sa ≤ 4294967295) (hb : sb ≤ 4294967295) (hc : sc ≤ 4294967295) (hd : sd ≤ 4294967295) (ha0 : 0 ≤ sa) (hb0 : 0 ≤ sb) (hc0 : 0 ≤ sc) (hd0 : 0 ≤ sd) (i : Nat) (hi : i < 16) :
  ∃ (m r : Nat) (x : Int), (i : Int) / 4 = (m : Int) ∧ (i : Int) % 4 = (r : Int) ∧ m < 4 ∧ 0 ≤ x ∧ x ≤ 4294967295 ∧ (St.cells ⟨sa, sb, sc, sd⟩)[m]? = some (.int .u32 x) ∧ (outC ⟨sa, sb, sc, sd⟩ i)[i]? = some (.int .u8 0) ∧ (outC ⟨sa, sb, sc, sd⟩ i).setIfInBounds i (.int .u8 (x / 256 ^ r % 256)) = outC ⟨sa, sb, sc, sd⟩ (i + 1) := by
 have e1 : ∀ x : Int, x / 256 ^ 1 = x / 256 := fun x => by simp
 have e2 : ∀ x : Int, x / 256 ^ 2 = x / 65536 := fun x => by rw [show (256 : Int) ^ 2 = 65536 by decide]
 have e3 : ∀ x : Int, x / 256 ^ 3 = x / 16777216 := fun x => by rw [show (256 : Int) ^ 3 = 16777216 by decide]
 have e0 : ∀ x : Int, x / 256 ^ 0 = x := fun x => by simp
 have a3 : sa / 16777216 % 256 = sa / 16777216 := by omega
 have b3 : sb / 16777216 % 256 = sb / 16777216 := by omega
 have c3 : sc / 16777216 % 256 = sc / 16777216 := by omega
 have d3 : sd / 16777216 % 256 = sd / 16777216 := by omega
 have hi' : i = 0 ∨ i = 1 ∨ i = 2 ∨ i = 3 ∨ i = 4 ∨ i = 5 ∨ i = 6 ∨ i = 7 ∨ i = 8 ∨ i = 9 ∨ i = 10 ∨ i = 11 ∨ i = 12 ∨ i = 13 ∨ i = 14 ∨ i = 15 := by omega
 rcases hi' with rfl | rfl | rfl | rfl | rfl | rfl | rfl | rfl | rfl | rfl | rfl | rfl | rfl | rfl | rfl | rfl
 ·exact ⟨0, 0, sa, by decide, by decide, by decide, ha0, ha, rfl, rfl, by rw [e0]; rfl⟩
 ·exact ⟨0, 1, sa, by decide, by decide, by decide, ha0, ha, rfl, rfl, by rw [e1]; rfl⟩
 ·exact ⟨0, 2, sa, by decide, by decide, by decide, ha0, ha, rfl, rfl, by rw [e2]; rfl⟩
 ·exact ⟨0, 3, sa, by decide, by decide, by decide, ha0, ha, rfl, rfl, by rw [e3, a3]; rfl⟩
 ·exact ⟨1, 0, sb, by decide, by decide, by decide, hb0, hb, rfl, rfl, by rw [e0]; rfl⟩
 ·exact ⟨1, 1, sb, by decide, by decide, by decide, hb0, hb, rfl, rfl, by rw [e1]; rfl⟩
 ·exact ⟨1, 2, sb, by decide, by decide, by decide, hb0, hb, rfl, rfl, by rw [e2]; rfl⟩
 ·exact ⟨1, 3, sb, by decide, by decide, by decide, hb0, hb, rfl, rfl, by rw [e3, b3]; rfl⟩
 ·exact ⟨2, 0, sc, by decide, by decide, by decide, hc0, hc, rfl, rfl, by rw [e0]; rfl⟩
 ·exact ⟨2, 1, sc, by decide, by decide, by decide, hc0, hc, rfl, rfl, by rw [e1]; rfl⟩
 ·exact ⟨2, 2, sc, by decide, by decide, by decide, hc0, hc, rfl, rfl, by rw [e2]; rfl⟩
 ·exact ⟨2, 3, sc, by decide, by decide, by decide, hc0, hc, rfl, rfl, by rw [e3, c3]; rfl⟩
 ·exact ⟨3, 0, sd, by decide, by decide, by decide, hd0, hd, rfl, rfl, by rw [e0]; rfl⟩
 ·exact ⟨3, 1, sd, by decide, by decide, by decide, hd0, hd, rfl, rfl, by rw [e1]; rfl⟩
 ·exact ⟨3, 2, sd, by decide, by decide, by decide, hd0, hd, rfl, rfl, by rw [e2]; rfl⟩
 ·exact ⟨3, 3, sd, by decide, by decide, by decide, hd0, hd, rfl, rfl, by rw [e3, d3]; rfl⟩
theorem places_at {w : World} {R : List Int} {gz gt cR gp p0 p1 p2 p3 : Nat} {W : World} (h : RefInv w R gz gt cR gp p0 p1 p2 p3 W) (i : Nat) (hi : i < 64) :
  ∃ pq : Nat, W.cell? ⟨gp, ((i : Int) / 16).toNat, none⟩ = some (.slice (some ⟨pq, 0, none⟩) 4 4) ∧ W.cell? ⟨pq, ((i : Int) % 4).toNat, none⟩ = some (.int .i64 (turnsOf i)) := by
 have hq : (i : Int) / 16 = 0 ∨ (i : Int) / 16 = 1 ∨ (i : Int) / 16 = 2 ∨ (i : Int) / 16 = 3 := by omega
 have hr : (i : Int) % 4 = 0 ∨ (i : Int) % 4 = 1 ∨ (i : Int) % 4 = 2 ∨ (i : Int) % 4 = 3 := by omega
 rcases hq with hq | hq | hq | hq
 ·rcases hr with hr | hr | hr | hr
  ·rw [hq, hr, show turnsOf (i : Int) = 7 from by unfold turnsOf; (repeat' split) <;> omega]
   exact ⟨p0, (blk_cell h.pl 0).trans rfl, (blk_cell h.q0 0).trans rfl⟩
  ·rw [hq, hr, show turnsOf (i : Int) = 12 from by unfold turnsOf; (repeat' split) <;> omega]
   exact ⟨p0, (blk_cell h.pl 0).trans rfl, (blk_cell h.q0 1).trans rfl⟩
  ·rw [hq, hr, show turnsOf (i : Int) = 17 from by unfold turnsOf; (repeat' split) <;> omega]
   exact ⟨p0, (blk_cell h.pl 0).trans rfl, (blk_cell h.q0 2).trans rfl⟩
  ·rw [hq, hr, show turnsOf (i : Int) = 22 from by unfold turnsOf; (repeat' split) <;> omega]
   exact ⟨p0, (blk_cell h.pl 0).trans rfl, (blk_cell h.q0 3).trans rfl⟩
 ·rcases hr with hr | hr | hr | hr
  ·rw [hq, hr, show turnsOf (i : Int) = 5 from by unfold turnsOf; (repeat' split) <;> omega]
   exact ⟨p1, (blk_cell h.pl 1).trans rfl, (blk_cell h.q1 0).trans rfl⟩
  ·rw [hq, hr, show turnsOf (i : Int) = 9 from by unfold turnsOf; (repeat' split) <;> omega]
   exact ⟨p1, (blk_cell h.pl 1).trans rfl, (blk_cell h.q1 1).trans rfl⟩
  ·rw [hq, hr, show turnsOf (i : Int) = 14 from by unfold turnsOf; (repeat' split) <;> omega]
   exact ⟨p1, (blk_cell h.pl 1).trans rfl, (blk_cell h.q1 2).trans rfl⟩
  ·rw [hq, hr, show turnsOf (i : Int) = 20 from by unfold turnsOf; (repeat' split) <;> omega]
   exact ⟨p1, (blk_cell h.pl 1).trans rfl, (blk_cell h.q1 3).trans rfl⟩
 ·rcases hr with hr | hr | hr | hr
  ·rw [hq, hr, show turnsOf (i : Int) = 4 from by unfold turnsOf; (repeat' split) <;> omega]
   exact ⟨p2, (blk_cell h.pl 2).trans rfl, (blk_cell h.q2 0).trans rfl⟩
  ·rw [hq, hr, show turnsOf (i : Int) = 11 from by unfold turnsOf; (repeat' split) <;> omega]
   exact ⟨p2, (blk_cell h.pl 2).trans rfl, (blk_cell h.q2 1).trans rfl⟩
  ·rw [hq, hr, show turnsOf (i : Int) = 16 from by unfold turnsOf; (repeat' split) <;> omega]
   exact ⟨p2, (blk_cell h.pl 2).trans rfl, (blk_cell h.q2 2).trans rfl⟩
  ·rw [hq, hr, show turnsOf (i : Int) = 23 from by unfold turnsOf; (repeat' split) <;> omega]
   exact ⟨p2, (blk_cell h.pl 2).trans rfl, (blk_cell h.q2 3).trans rfl⟩
 ·rcases hr with hr | hr | hr | hr
  ·rw [hq, hr, show turnsOf (i : Int) = 6 from by unfold turnsOf; (repeat' split) <;> omega]
   exact ⟨p3, (blk_cell h.pl 3).trans rfl, (blk_cell h.q3 0).trans rfl⟩
  ·rw [hq, hr, show turnsOf (i : Int) = 10 from by unfold turnsOf; (repeat' split) <;> omega]
   exact ⟨p3, (blk_cell h.pl 3).trans rfl, (blk_cell h.q3 1).trans rfl⟩
  ·rw [hq, hr, show turnsOf (i : Int) = 15 from by unfold turnsOf; (repeat' split) <;> omega]
   exact ⟨p3, (blk_cell h.pl 3).trans rfl, (blk_cell h.q3 2).trans rfl⟩
  ·rw [hq, hr, show turnsOf (i : Int) = 21 from by unfold turnsOf; (repeat' split) <;> omega]
   exact ⟨p3, (blk_cell h.pl 3).trans rfl, (blk_cell h.q3 3).trans rfl⟩
theorem rd_blk (R : List Int) (j m n : Nat) (h : m + n < 64) (e : Int) (he : e = 64 * (j : Int) + (m : Int) + (n : Int)) : rd ((blkF R j).drop m) n = rd R e := by
 subst he
 unfold rd blkF
 rw [show ((64 : Int) * (j : Int) + (m : Int) + (n : Int)).toNat = 64 * j + (m + n) from by omega, Int.toNat_natCast]
 simp only [List.getD_eq_getElem?_getD, List.getElem?_drop, List.getElem?_take]
 rw [if_pos (by omega)]
theorem word_at (R : List Int) (j K : Nat) (hK : K < 16) : wordF ((blkF R j).drop (4 * K)) = ((rd R (64 * (j : Int) + 4 * (K : Int) + 3) * 256 + rd R (64 * (j : Int) + 4 * (K : Int) + 2)) * 256 + rd R (64 * (j : Int) + 4 * (K : Int) + 1)) * 256 + rd R (64 * (j : Int) + 4 * (K : Int)) := by
 unfold wordF
 have h0 := rd_blk R j (4 * K) 0 (by omega) (64 * (j : Int) + 4 * (K : Int)) (by omega)
 have h1 := rd_blk R j (4 * K) 1 (by omega) (64 * (j : Int) + 4 * (K : Int) + 1) (by omega)
 have h2 := rd_blk R j (4 * K) 2 (by omega) (64 * (j : Int) + 4 * (K : Int) + 2) (by omega)
 have h3 := rd_blk R j (4 * K) 3 (by omega) (64 * (j : Int) + 4 * (K : Int) + 3) (by omega)
 simp only [Int.natCast_zero, Int.natCast_one, Int.cast_ofNat_Int] at h0 h1 h2 h3
 rw [h0, h1, h2, h3]
 omega
set_option maxRecDepth 100000 in
set_option maxHeartbeats 100000000 in
theorem refsum_calls (A : Option Addr) (c : Nat) (l : List Int) (w : World) (hC : (Kd.int .u8).C w A l.length l) (hc : l.length ≤ c) (hB : isB l = true) (hl : l.length ≤ 1000000) (hg : Laid w) (h3 : 3 ≤ w.heap.size) :
  Calls Tryd.prog 15 #[.slice A l.length c] w fun e w' => e = .returned (.agg (sumOf l).out) ∧ Below w.heap.size w w' := by
 have HTX := Aside0.mk (show ∀ W, Below w.heap.size w W → Calls Tryd.prog 39 #[.slice A l.length c] W fun e w' => ∃ v0_ : Value, e = .returned v0_ ∧ (Kd.int .u8).R 5 w' W.heap.size (fun _ => True) v0_ (padF l) ∧ Below W.heap.size W w' from fun W hb => PMdBase.umpireref03_Text.calls (zerosN l.length + 10) A c l (padF l) W (Kd.C_below hC hb) hc (text_eq l hl))
 have hpl := pad_len l
 have hpb := pad_isB l hB
 have hsum : sumOf l = sumSt (padF l) (List.range ((padF l).length / 64)) := by unfold sumOf; rw [hpl, Nat.mul_div_cancel_left _ (by decide)]
 obtain ⟨q, hq⟩ : ∃ q, (l.length + 72) / 64 = q := ⟨_, rfl⟩
 have hq1 : 1 ≤ q ∧ q ≤ 20000 := by omega
 rw [hq] at hpl
 rw [hsum, hpl, Nat.mul_div_cancel_left _ (by decide)]
 obtain ⟨L, hL⟩ : ∃ L, l.length = L := ⟨_, rfl⟩
 rw [hL] at HTX ⊢
 generalize padF l = R at hpl hpb HTX
 have HPL := Aside0.mk hpl
 have HPB := Aside0.mk hpb
 have HQ := Aside0.mk hq1
 have HG := Aside0.mk hg
 have H3 := Aside0.mk h3
 have HB := Aside0.mk (Below.refl w.heap.size w)
 clear hpl hpb hsum hq hL hC hc hB hl hg h3 hq1
 go_enter Tryd.func15, Tryd.ntmps15
 go_wp2_with (first | ((with_reducible refine gate_dst (N := 2) rfl ?_); refine' box_event ?hg (N := 2) ?hd (t := 24) ?hr ?_; (case hd => rfl); (case hg => rfl); (case hr => first | (go_simp; done) | (go_simp; rfl)); intro gz hgn w1 hbox hbn; have HB_ := Aside0.mk (below_step (show Below w.heap.size w w from HB.out) hbn); have GEgz := Aside0.mk (show w.heap.size ≤ gz from Nat.le_trans (below_size (show Below w.heap.size w w from HB.out)) (Nat.le_of_eq hgn.symm)); clear HB; have HB := HB_; clear HB_; have Bgz := Aside0.mk hbox; clear hbox hbn hgn) | (go_at_call 39; (with_reducible refine (HTX.out _ HB.out).mono ?_); rintro e w2 ⟨v0, rfl, hr, hbn⟩; have Bgz_ := Aside0.mk (blk_below Bgz.out hbn); have HB_ := Aside0.mk (below_step (show Below w.heap.size w w1 from HB.out) hbn); have HR := Aside0.mk (Kd.R_lower hr (below_size (show Below w.heap.size w w1 from HB.out))); obtain ⟨gt, cR, rfl, _, _, _⟩ := Kd.R_form hr (by rw [HPL.out]; have := HQ.out; omega); clear hr hbn Bgz HB; have Bgz := Bgz_; have HB := HB_; clear Bgz_ HB_) | ((with_reducible refine gate_dst (N := 23) rfl ?_); refine' lit_event ?hg (N := 23) ?hd (t := 46) (n := 4) ?hr ?_; (case hd => rfl); (case hg => rfl); (case hr => first | (go_simp; done) | (go_simp; rfl)); intro gh hgn w3 hbox hbn; have Bgz_ := Aside0.mk (blk_below Bgz.out hbn); clear Bgz; have Bgz := Bgz_; clear Bgz_; have HR_ := Aside0.mk (Kd.R_below HR.out hbn); clear HR; have HR := HR_; clear HR_; have HB_ := Aside0.mk (below_step (show Below w.heap.size w w2 from HB.out) hbn); have GEgh := Aside0.mk (show w.heap.size ≤ gh from Nat.le_trans (below_size (show Below w.heap.size w w2 from HB.out)) (Nat.le_of_eq hgn.symm)); clear HB; have HB := HB_; clear HB_; have Bgh := Aside0.mk hbox; clear hbox hbn hgn) | ((with_reducible refine gate_dst (N := 24) rfl ?_); refine' lit_event ?hg (N := 24) ?hd (t := 3) (n := 4) ?hr ?_; (case hd => rfl); (case hg => rfl); (case hr => first | (go_simp; done) | (go_simp; rfl)); intro p0 hgn w4 hbox hbn; have Bgz_ := Aside0.mk (blk_below Bgz.out hbn); clear Bgz; have Bgz := Bgz_; clear Bgz_; have HR_ := Aside0.mk (Kd.R_below HR.out hbn); clear HR; have HR := HR_; clear HR_; have Bgh_ := Aside0.mk (blk_below Bgh.out hbn); clear Bgh; have Bgh := Bgh_; clear Bgh_; have HB_ := Aside0.mk (below_step (show Below w.heap.size w w3 from HB.out) hbn); have GEp0 := Aside0.mk (show w.heap.size ≤ p0 from Nat.le_trans (below_size (show Below w.heap.size w w3 from HB.out)) (Nat.le_of_eq hgn.symm)); clear HB; have HB := HB_; clear HB_; have Bp0 := Aside0.mk hbox; clear hbox hbn hgn) | ((with_reducible refine gate_dst (N := 25) rfl ?_); refine' lit_event ?hg (N := 25) ?hd (t := 3) (n := 4) ?hr ?_; (case hd => rfl); (case hg => rfl); (case hr => first | (go_simp; done) | (go_simp; rfl)); intro p1 hgn w5 hbox hbn; have Bgz_ := Aside0.mk (blk_below Bgz.out hbn); clear Bgz; have Bgz := Bgz_; clear Bgz_; have HR_ := Aside0.mk (Kd.R_below HR.out hbn); clear HR; have HR := HR_; clear HR_; have Bgh_ := Aside0.mk (blk_below Bgh.out hbn); clear Bgh; have Bgh := Bgh_; clear Bgh_; have Bp0_ := Aside0.mk (blk_below Bp0.out hbn); clear Bp0; have Bp0 := Bp0_; clear Bp0_; have HB_ := Aside0.mk (below_step (show Below w.heap.size w w4 from HB.out) hbn); have GEp1 := Aside0.mk (show w.heap.size ≤ p1 from Nat.le_trans (below_size (show Below w.heap.size w w4 from HB.out)) (Nat.le_of_eq hgn.symm)); clear HB; have HB := HB_; clear HB_; have Bp1 := Aside0.mk hbox; clear hbox hbn hgn) | ((with_reducible refine gate_dst (N := 26) rfl ?_); refine' lit_event ?hg (N := 26) ?hd (t := 3) (n := 4) ?hr ?_; (case hd => rfl); (case hg => rfl); (case hr => first | (go_simp; done) | (go_simp; rfl)); intro p2 hgn w6 hbox hbn; have Bgz_ := Aside0.mk (blk_below Bgz.out hbn); clear Bgz; have Bgz := Bgz_; clear Bgz_; have HR_ := Aside0.mk (Kd.R_below HR.out hbn); clear HR; have HR := HR_; clear HR_; have Bgh_ := Aside0.mk (blk_below Bgh.out hbn); clear Bgh; have Bgh := Bgh_; clear Bgh_; have Bp0_ := Aside0.mk (blk_below Bp0.out hbn); clear Bp0; have Bp0 := Bp0_; clear Bp0_; have Bp1_ := Aside0.mk (blk_below Bp1.out hbn); clear Bp1; have Bp1 := Bp1_; clear Bp1_; have HB_ := Aside0.mk (below_step (show Below w.heap.size w w5 from HB.out) hbn); have GEp2 := Aside0.mk (show w.heap.size ≤ p2 from Nat.le_trans (below_size (show Below w.heap.size w w5 from HB.out)) (Nat.le_of_eq hgn.symm)); clear HB; have HB := HB_; clear HB_; have Bp2 := Aside0.mk hbox; clear hbox hbn hgn) | ((with_reducible refine gate_dst (N := 27) rfl ?_); refine' lit_event ?hg (N := 27) ?hd (t := 3) (n := 4) ?hr ?_; (case hd => rfl); (case hg => rfl); (case hr => first | (go_simp; done) | (go_simp; rfl)); intro p3 hgn w7 hbox hbn; have Bgz_ := Aside0.mk (blk_below Bgz.out hbn); clear Bgz; have Bgz := Bgz_; clear Bgz_; have HR_ := Aside0.mk (Kd.R_below HR.out hbn); clear HR; have HR := HR_; clear HR_; have Bgh_ := Aside0.mk (blk_below Bgh.out hbn); clear Bgh; have Bgh := Bgh_; clear Bgh_; have Bp0_ := Aside0.mk (blk_below Bp0.out hbn); clear Bp0; have Bp0 := Bp0_; clear Bp0_; have Bp1_ := Aside0.mk (blk_below Bp1.out hbn); clear Bp1; have Bp1 := Bp1_; clear Bp1_; have Bp2_ := Aside0.mk (blk_below Bp2.out hbn); clear Bp2; have Bp2 := Bp2_; clear Bp2_; have HB_ := Aside0.mk (below_step (show Below w.heap.size w w6 from HB.out) hbn); have GEp3 := Aside0.mk (show w.heap.size ≤ p3 from Nat.le_trans (below_size (show Below w.heap.size w w6 from HB.out)) (Nat.le_of_eq hgn.symm)); clear HB; have HB := HB_; clear HB_; have Bp3 := Aside0.mk hbox; clear hbox hbn hgn) | ((with_reducible refine gate_dst (N := 28) rfl ?_); refine' lit_event ?hg (N := 28) ?hd (t := 75) (n := 4) ?hr ?_; (case hd => rfl); (case hg => rfl); (case hr => first | (go_simp; done) | (go_simp; rfl)); intro gp hgn w8 hbox hbn; have Bgz_ := Aside0.mk (blk_below Bgz.out hbn); clear Bgz; have Bgz := Bgz_; clear Bgz_; have HR_ := Aside0.mk (Kd.R_below HR.out hbn); clear HR; have HR := HR_; clear HR_; have Bgh_ := Aside0.mk (blk_below Bgh.out hbn); clear Bgh; have Bgh := Bgh_; clear Bgh_; have Bp0_ := Aside0.mk (blk_below Bp0.out hbn); clear Bp0; have Bp0 := Bp0_; clear Bp0_; have Bp1_ := Aside0.mk (blk_below Bp1.out hbn); clear Bp1; have Bp1 := Bp1_; clear Bp1_; have Bp2_ := Aside0.mk (blk_below Bp2.out hbn); clear Bp2; have Bp2 := Bp2_; clear Bp2_; have Bp3_ := Aside0.mk (blk_below Bp3.out hbn); clear Bp3; have Bp3 := Bp3_; clear Bp3_; have HB_ := Aside0.mk (below_step (show Below w.heap.size w w7 from HB.out) hbn); have GEgp := Aside0.mk (show w.heap.size ≤ gp from Nat.le_trans (below_size (show Below w.heap.size w w7 from HB.out)) (Nat.le_of_eq hgn.symm)); clear HB; have HB := HB_; clear HB_; have Bgp := Aside0.mk hbox; clear hbox hbn hgn))
 have HI := Aside0.mk (show RefInv w R gz gt cR gp p0 p1 p2 p3 w8 from ⟨HB.out, Bgz.out, HR.out, Bgp.out, Bp0.out, Bp1.out, Bp2.out, Bp3.out, HG.out.below HB.out H3.out⟩)
 clear Bgz HR Bgp Bp0 Bp1 Bp2 Bp3 HB HTX
 rw [HPL.out]
 have hqb : q ≤ 20000 := HQ.out.2
 have hq0 : 0 ≤ (q : Int) := by omega
 have hq2 : (q : Int) ≤ 20000 := by omega
 go_loopw [4, 6] (fun v4 v6 wr => ∃ (j gh : Nat), v6 = .int .i64 (64 * (j : Int)) ∧ v4 = .slice (some ⟨gh, 0, none⟩) 4 4 ∧ Aside0 (j ≤ q) ∧ Aside0 (wr.heap[gh]? = some (.cells (sumSt R (List.range j)).cells 46 (0, 0))) ∧ Aside0 (RefInv w R gz gt cR gp p0 p1 p2 p3 wr)) (fun _ v6 _ => (64 * q - (intOf v6).toNat))
 case atStart => exact ⟨0, gh, rfl, rfl, ⟨Nat.zero_le _⟩, ⟨Bgh.out⟩, HI⟩
 case round =>
  clear HI Bgh
  obtain ⟨j, gh, rfl, rfl, HJ, BH, HI⟩ := hrel
  by_cases hlt : j < q
  ·have hj1 : (64 * (j : Int)) < ((64 * q : Nat) : Int) := by omega
   have HSN := Aside0.mk (show sumSt R (List.range (j + 1)) = throughF (blkF R j) (sumSt R (List.range j)) by rw [List.range_succ, sumSt_snoc, HPL.out, Nat.mul_div_cancel_left _ (by decide), Nat.mod_eq_of_lt hlt])
   have hok := sumSt_ok R (List.range j)
   generalize sumSt R (List.range j) = s at *
   obtain ⟨sa, sb, sc, sd⟩ := s
   have HOK := Aside0.mk hok
   clear hok
   have hz0 : wr.cell? ⟨gh, 0, none⟩ = some (.int .u32 sa) := (blk_cell BH.out 0).trans rfl
   have hz1 : wr.cell? ⟨gh, 1, none⟩ = some (.int .u32 sb) := (blk_cell BH.out 1).trans rfl
   have hz2 : wr.cell? ⟨gh, 2, none⟩ = some (.int .u32 sc) := (blk_cell BH.out 2).trans rfl
   have hz3 : wr.cell? ⟨gh, 3, none⟩ = some (.int .u32 sd) := (blk_cell BH.out 3).trans rfl
   go_wp2_with fail
   refine start_ (n := 16) (S := fun w' => w'.cell? ⟨gh, 0, none⟩ = some (.int .u32 sa) ∧ w'.cell? ⟨gh, 1, none⟩ = some (.int .u32 sb) ∧ w'.cell? ⟨gh, 2, none⟩ = some (.int .u32 sc) ∧ w'.cell? ⟨gh, 3, none⟩ = some (.int .u32 sd)) (ds := []) #[false, false, false, false, false, false, false, false, false, false, false, false, false, false, false, false] (by as_aux_lemma => kernel_rfl) rfl rfl ⟨hz0, hz1, hz2, hz3⟩ (fun hHeld => ?_)
   refine pure_ (i := 0) (N := some 35) (v := ?_) (a' := ?_) #[true, false, false, false, false, false, false, false, false, false, false, false, false, false, false, false] rfl rfl (by as_aux_lemma => kernel_rfl) (fun _ _ _ h => h) (Or.inl ⟨by rfl, ?_⟩) ?_ ?_
   rotate_left
   ·intro w'
    go_simp
    with_reducible rfl
   rotate_left
   ·simp only [Act.put, List.setIfInBounds_toArray, List.set_cons_zero, List.set_cons_succ, i64_w, i32_w]
    rfl
   refine pure_ (i := 1) (N := some 36) (v := ?_) (a' := ?_) #[true, true, false, false, false, false, false, false, false, false, false, false, false, false, false, false] rfl rfl (by as_aux_lemma => kernel_rfl) (fun _ _ _ h => h) (Or.inl ⟨by rfl, ?_⟩) ?_ ?_
   rotate_left
   ·intro w'
    go_simp
    with_reducible rfl
   rotate_left
   ·simp only [Act.put, List.setIfInBounds_toArray, List.set_cons_zero, List.set_cons_succ, i64_w, i32_w]
    rfl
   refine pure_ (i := 3) (N := some 38) (v := ?_) (a' := ?_) #[true, true, false, true, false, false, false, false, false, false, false, false, false, false, false, false] rfl rfl (by as_aux_lemma => kernel_rfl) (fun _ _ _ h => h) (Or.inl ⟨by rfl, ?_⟩) ?_ ?_
   rotate_left
   ·intro w'
    go_simp
    with_reducible rfl
   rotate_left
   ·simp only [Act.put, List.setIfInBounds_toArray, List.set_cons_zero, List.set_cons_succ, i64_w, i32_w]
    rfl
   refine pure_ (i := 4) (N := some 39) (v := ?_) (a' := ?_) #[true, true, false, true, true, false, false, false, false, false, false, false, false, false, false, false] rfl rfl (by as_aux_lemma => kernel_rfl) (fun _ _ _ h => h) (Or.inl ⟨by rfl, ?_⟩) ?_ ?_
   rotate_left
   ·intro w'
    go_simp
    with_reducible rfl
   rotate_left
   ·simp only [Act.put, List.setIfInBounds_toArray, List.set_cons_zero, List.set_cons_succ, i64_w, i32_w]
    rfl
   refine pure_ (i := 6) (N := some 41) (v := ?_) (a' := ?_) #[true, true, false, true, true, false, true, false, false, false, false, false, false, false, false, false] rfl rfl (by as_aux_lemma => kernel_rfl) (fun _ _ _ h => h) (Or.inl ⟨by rfl, ?_⟩) ?_ ?_
   rotate_left
   ·intro w'
    go_simp
    with_reducible rfl
   rotate_left
   ·simp only [Act.put, List.setIfInBounds_toArray, List.set_cons_zero, List.set_cons_succ, i64_w, i32_w]
    rfl
   refine pure_ (i := 7) (N := some 42) (v := ?_) (a' := ?_) #[true, true, false, true, true, false, true, true, false, false, false, false, false, false, false, false] rfl rfl (by as_aux_lemma => kernel_rfl) (fun _ _ _ h => h) (Or.inl ⟨by rfl, ?_⟩) ?_ ?_
   rotate_left
   ·intro w'
    go_simp
    with_reducible rfl
   rotate_left
   ·simp only [Act.put, List.setIfInBounds_toArray, List.set_cons_zero, List.set_cons_succ, i64_w, i32_w]
    rfl
   refine pure_ (i := 9) (N := some 44) (v := ?_) (a' := ?_) #[true, true, false, true, true, false, true, true, false, true, false, false, false, false, false, false] rfl rfl (by as_aux_lemma => kernel_rfl) (fun _ _ _ h => h) (Or.inl ⟨by rfl, ?_⟩) ?_ ?_
   rotate_left
   ·intro w'
    go_simp
    with_reducible rfl
   rotate_left
   ·simp only [Act.put, List.setIfInBounds_toArray, List.set_cons_zero, List.set_cons_succ, i64_w, i32_w]
    rfl
   refine pure_ (i := 10) (N := some 45) (v := ?_) (a' := ?_) #[true, true, false, true, true, false, true, true, false, true, true, false, false, false, false, false] rfl rfl (by as_aux_lemma => kernel_rfl) (fun _ _ _ h => h) (Or.inl ⟨by rfl, ?_⟩) ?_ ?_
   rotate_left
   ·intro w'
    go_simp
    with_reducible rfl
   rotate_left
   ·simp only [Act.put, List.setIfInBounds_toArray, List.set_cons_zero, List.set_cons_succ, i64_w, i32_w]
    rfl
   refine take_ (i := 2) (N := some 37) (v := ?_) (a' := ?_) #[true, true, true, true, true, false, true, true, false, true, true, false, false, false, false, false] rfl rfl (by as_aux_lemma => kernel_rfl) (fun _ _ _ h => h) (Or.inl ⟨by rfl, ?_⟩) hHeld ?_ ?_
   rotate_left
   ·rintro w' ⟨s0, s1, s2, s3⟩
    go_simp
    with_reducible rfl
   rotate_left
   ·simp only [Act.put, List.setIfInBounds_toArray, List.set_cons_zero, List.set_cons_succ, i64_w, i32_w]
    rfl
   refine pure_ (i := 12) (N := some 7) (v := ?_) (a' := ?_) #[true, true, true, true, true, false, true, true, false, true, true, false, true, false, false, false] rfl rfl (by as_aux_lemma => kernel_rfl) (fun _ _ _ h => h) (Or.inl ⟨by rfl, ?_⟩) ?_ ?_
   rotate_left
   ·intro w'
    go_simp
    with_reducible rfl
   rotate_left
   ·simp only [Act.put, List.setIfInBounds_toArray, List.set_cons_zero, List.set_cons_succ, i64_w, i32_w]
    rfl
   refine take_ (i := 5) (N := some 40) (v := ?_) (a' := ?_) #[true, true, true, true, true, true, true, true, false, true, true, false, true, false, false, false] rfl rfl (by as_aux_lemma => kernel_rfl) (fun _ _ _ h => h) (Or.inl ⟨by rfl, ?_⟩) hHeld ?_ ?_
   rotate_left
   ·rintro w' ⟨s0, s1, s2, s3⟩
    go_simp
    with_reducible rfl
   rotate_left
   ·simp only [Act.put, List.setIfInBounds_toArray, List.set_cons_zero, List.set_cons_succ, i64_w, i32_w]
    rfl
   refine pure_ (i := 13) (N := some 8) (v := ?_) (a' := ?_) #[true, true, true, true, true, true, true, true, false, true, true, false, true, true, false, false] rfl rfl (by as_aux_lemma => kernel_rfl) (fun _ _ _ h => h) (Or.inl ⟨by rfl, ?_⟩) ?_ ?_
   rotate_left
   ·intro w'
    go_simp
    with_reducible rfl
   rotate_left
   ·simp only [Act.put, List.setIfInBounds_toArray, List.set_cons_zero, List.set_cons_succ, i64_w, i32_w]
    rfl
   refine take_ (i := 8) (N := some 43) (v := ?_) (a' := ?_) #[true, true, true, true, true, true, true, true, true, true, true, false, true, true, false, false] rfl rfl (by as_aux_lemma => kernel_rfl) (fun _ _ _ h => h) (Or.inl ⟨by rfl, ?_⟩) hHeld ?_ ?_
   rotate_left
   ·rintro w' ⟨s0, s1, s2, s3⟩
    go_simp
    with_reducible rfl
   rotate_left
   ·simp only [Act.put, List.setIfInBounds_toArray, List.set_cons_zero, List.set_cons_succ, i64_w, i32_w]
    rfl
   refine pure_ (i := 14) (N := some 9) (v := ?_) (a' := ?_) #[true, true, true, true, true, true, true, true, true, true, true, false, true, true, true, false] rfl rfl (by as_aux_lemma => kernel_rfl) (fun _ _ _ h => h) (Or.inl ⟨by rfl, ?_⟩) ?_ ?_
   rotate_left
   ·intro w'
    go_simp
    with_reducible rfl
   rotate_left
   ·simp only [Act.put, List.setIfInBounds_toArray, List.set_cons_zero, List.set_cons_succ, i64_w, i32_w]
    rfl
   refine take_ (i := 11) (N := some 46) (v := ?_) (a' := ?_) #[true, true, true, true, true, true, true, true, true, true, true, true, true, true, true, false] rfl rfl (by as_aux_lemma => kernel_rfl) (fun _ _ _ h => h) (Or.inl ⟨by rfl, ?_⟩) hHeld ?_ ?_
   rotate_left
   ·rintro w' ⟨s0, s1, s2, s3⟩
    go_simp
    with_reducible rfl
   rotate_left
   ·simp only [Act.put, List.setIfInBounds_toArray, List.set_cons_zero, List.set_cons_succ, i64_w, i32_w]
    rfl
   refine pure_ (i := 15) (N := some 10) (v := ?_) (a' := ?_) #[true, true, true, true, true, true, true, true, true, true, true, true, true, true, true, true] rfl rfl (by as_aux_lemma => kernel_rfl) (fun _ _ _ h => h) (Or.inl ⟨by rfl, ?_⟩) ?_ ?_
   rotate_left
   ·intro w'
    go_simp
    with_reducible rfl
   rotate_left
   ·simp only [Act.put, List.setIfInBounds_toArray, List.set_cons_zero, List.set_cons_succ, i64_w, i32_w]
    rfl
   refine done_ (by as_aux_lemma => kernel_rfl) ?_
   have HI_ := Aside0.mk (show RefInv w R gz gt cR gp p0 p1 p2 p3 wr.drew from HI.out.below (below_drew1 (Below.refl _ _)) (Nat.le_trans H3.out HI.out.bel.size))
   have BH_ := Aside0.mk (blk_drew BH.out)
   clear hz0 hz1 hz2 hz3 HI BH
   have HI := HI_
   have BH := BH_
   clear HI_ BH_
   generalize wr.drew = wd at HI BH ⊢
   go_wp2_with fail
   go_loopw [7, 8, 9, 10, 11] (fun v7 v8 v9 v10 v11 wi => ∃ i : Nat, Aside0 (i ≤ 64) ∧ v11 = .int .i64 (i : Int) ∧ v7 = .int .u32 (stepsF (blkF R j) ⟨sa, sb, sc, sd⟩ i).a ∧ v8 = .int .u32 (stepsF (blkF R j) ⟨sa, sb, sc, sd⟩ i).b ∧ v9 = .int .u32 (stepsF (blkF R j) ⟨sa, sb, sc, sd⟩ i).c ∧ v10 = .int .u32 (stepsF (blkF R j) ⟨sa, sb, sc, sd⟩ i).d ∧ Aside0 (wi.heap[gh]? = some (.cells (St.mk sa sb sc sd).cells 46 (0, 0))) ∧ Aside0 (RefInv w R gz gt cR gp p0 p1 p2 p3 wi)) (fun _ _ _ _ v11 _ => 64 - (intOf v11).toNat)
   case atStart => exact ⟨0, ⟨by omega⟩, rfl, rfl, rfl, rfl, rfl, BH, HI⟩
   case round =>
    clear HI BH
    obtain ⟨i, HIL, rfl, rfl, rfl, rfl, rfl, BH, HI⟩ := hrel
    have hxok := stepsF_ok (blkF R j) ⟨sa, sb, sc, sd⟩ HOK.out i
    have HSS := Aside0.mk (stepsF_succ (blkF R j) ⟨sa, sb, sc, sd⟩ i)
    have HX64 := Aside0.mk (show i = 64 → throughF (blkF R j) ⟨sa, sb, sc, sd⟩ = (St.mk sa sb sc sd).add (stepsF (blkF R j) ⟨sa, sb, sc, sd⟩ i) from fun e => by rw [e]; rfl)
    generalize stepsF (blkF R j) ⟨sa, sb, sc, sd⟩ i = x at *
    obtain ⟨xa, xb, xc, xd⟩ := x
    obtain ⟨⟨ha0, ha1⟩, ⟨hb0, hb1⟩, ⟨hc0, hc1⟩, ⟨hd0, hd1⟩⟩ := hxok
    dsimp only at ha0 ha1 hb0 hb1 hc0 hc1 hd0 hd1 ⊢
    by_cases hi64 : i < 64
    ·have hI64 : (i : Int) < 64 := by omega
     have hi0 : (0 : Int) ≤ (i : Int) := by omega
     obtain ⟨F, hF⟩ : ∃ F, fOf (i : Int) xb xc xd = F := ⟨_, rfl⟩
     obtain ⟨K, hK⟩ : ∃ K : Nat, kOf (i : Int) = (K : Int) := ⟨(kOf (i : Int)).toNat, by have := kOf_range (i : Int) (by omega); omega⟩
     have hKr : K < 16 := by have := kOf_range (i : Int) (by omega); omega
     have HF := Aside0.mk hF
     have HK := Aside0.mk hK
     clear hF hK
     go_upto_if 52 with fail
     (try simp only [Act.put, List.setIfInBounds_toArray, List.set_cons_zero, List.set_cons_succ])
     go_cut [12, 13] (fun v12 v13 wc => v12 = .int .u32 F ∧ v13 = .int .i64 (K : Int) ∧ wr = wc)
     case first =>
      have hF := HF.out
      have hK := HK.out
      have hq : (i : Int) < 16 ∨ (16 ≤ (i : Int) ∧ (i : Int) < 32) ∨ (32 ≤ (i : Int) ∧ (i : Int) < 48) ∨ 48 ≤ (i : Int) := by omega
      unfold fOf at hF
      unfold kOf at hK
      rcases hq with hq | ⟨hq0, hq⟩ | ⟨hq0, hq⟩ | hq0
      ·rw [if_pos hq] at hF hK; subst hF; have HK2 := Aside0.mk hK; clear hK
       go_wp2_with fail
       go_meet
       case rel => exact ⟨rfl, by first | rfl | exact congrArg (Value.int IntKind.i64) (by have := HK2.out; omega), rfl⟩
      ·rw [if_neg (show ¬ (i : Int) < 16 by omega), if_pos hq] at hF hK; subst hF; have HK2 := Aside0.mk hK; clear hK
       go_wp2_with fail
       go_meet
       case rel => exact ⟨rfl, by first | rfl | exact congrArg (Value.int IntKind.i64) (by have := HK2.out; omega), rfl⟩
      ·rw [if_neg (show ¬ (i : Int) < 16 by omega), if_neg (show ¬ (i : Int) < 32 by omega), if_pos hq] at hF hK; subst hF; have HK2 := Aside0.mk hK; clear hK
       go_wp2_with fail
       go_meet
       case rel => exact ⟨rfl, by first | rfl | exact congrArg (Value.int IntKind.i64) (by have := HK2.out; omega), rfl⟩
      ·rw [if_neg (show ¬ (i : Int) < 16 by omega), if_neg (show ¬ (i : Int) < 32 by omega), if_neg (show ¬ (i : Int) < 48 by omega)] at hF hK; subst hF; have HK2 := Aside0.mk hK; clear hK
       go_wp2_with fail
       go_meet
       case rel => exact ⟨rfl, by first | rfl | exact congrArg (Value.int IntKind.i64) (by have := HK2.out; omega), rfl⟩
     obtain ⟨rfl, rfl, rfl⟩ := hcut
     have n00 : (0 : Int) ≤ (64 * (j : Int) + 4 * (K : Int)) := by omega
     have n01 : (64 * (j : Int) + 4 * (K : Int)) < 64 * (q : Int) := by omega
     obtain ⟨hb0, _⟩ := Kd.R_cell 0 HI.out.txt (64 * (j : Int) + 4 * (K : Int)) n00 (by rw [HPL.out]; omega)
     have r0 := rd_byte HPB.out (64 * (j : Int) + 4 * (K : Int))
     change wr.cell? _ = some (.int .u8 (rd R (64 * (j : Int) + 4 * (K : Int)))) at hb0
     rw [show (64 * (j : Int) + 4 * (K : Int)).toNat = 64 * j + 4 * K from by omega] at hb0
     have n10 : (0 : Int) ≤ (64 * (j : Int) + 4 * (K : Int) + 1) := by omega
     have n11 : (64 * (j : Int) + 4 * (K : Int) + 1) < 64 * (q : Int) := by omega
     obtain ⟨hb1, _⟩ := Kd.R_cell 0 HI.out.txt (64 * (j : Int) + 4 * (K : Int) + 1) n10 (by rw [HPL.out]; omega)
     have r1 := rd_byte HPB.out (64 * (j : Int) + 4 * (K : Int) + 1)
     change wr.cell? _ = some (.int .u8 (rd R (64 * (j : Int) + 4 * (K : Int) + 1))) at hb1
     rw [show (64 * (j : Int) + 4 * (K : Int) + 1).toNat = 64 * j + 4 * K + 1 from by omega] at hb1
     have n20 : (0 : Int) ≤ (64 * (j : Int) + 4 * (K : Int) + 2) := by omega
     have n21 : (64 * (j : Int) + 4 * (K : Int) + 2) < 64 * (q : Int) := by omega
     obtain ⟨hb2, _⟩ := Kd.R_cell 0 HI.out.txt (64 * (j : Int) + 4 * (K : Int) + 2) n20 (by rw [HPL.out]; omega)
     have r2 := rd_byte HPB.out (64 * (j : Int) + 4 * (K : Int) + 2)
     change wr.cell? _ = some (.int .u8 (rd R (64 * (j : Int) + 4 * (K : Int) + 2))) at hb2
     rw [show (64 * (j : Int) + 4 * (K : Int) + 2).toNat = 64 * j + 4 * K + 2 from by omega] at hb2
     have n30 : (0 : Int) ≤ (64 * (j : Int) + 4 * (K : Int) + 3) := by omega
     have n31 : (64 * (j : Int) + 4 * (K : Int) + 3) < 64 * (q : Int) := by omega
     obtain ⟨hb3, _⟩ := Kd.R_cell 0 HI.out.txt (64 * (j : Int) + 4 * (K : Int) + 3) n30 (by rw [HPL.out]; omega)
     have r3 := rd_byte HPB.out (64 * (j : Int) + 4 * (K : Int) + 3)
     change wr.cell? _ = some (.int .u8 (rd R (64 * (j : Int) + 4 * (K : Int) + 3))) at hb3
     rw [show (64 * (j : Int) + 4 * (K : Int) + 3).toNat = 64 * j + 4 * K + 3 from by omega] at hb3
     have HWD := Aside0.mk (word_at R j K hKr)
     generalize rd R (64 * (j : Int) + 4 * (K : Int)) = b0 at hb0 r0 HWD
     obtain ⟨r0a, r0b⟩ := r0
     generalize rd R (64 * (j : Int) + 4 * (K : Int) + 1) = b1 at hb1 r1 HWD
     obtain ⟨r1a, r1b⟩ := r1
     generalize rd R (64 * (j : Int) + 4 * (K : Int) + 2) = b2 at hb2 r2 HWD
     obtain ⟨r2a, r2b⟩ := r2
     generalize rd R (64 * (j : Int) + 4 * (K : Int) + 3) = b3 at hb3 r3 HWD
     obtain ⟨r3a, r3b⟩ := r3
     skip
     go_wp2_with fail
     go_loopw [14, 15] (fun v14 v15 wn => wr = wn ∧ Aside0 (WRel b0 b1 b2 b3 v14 v15)) (fun _ v15 _ => (intOf v15 + 1).toNat)
     case atStart => exact ⟨rfl, ⟨.inl ⟨rfl, rfl⟩⟩⟩
     case round =>
      obtain ⟨rfl, ⟨hrel⟩⟩ := hrel
      unfold WRel at hrel
      rcases hrel with ⟨rfl, rfl⟩ | ⟨rfl, rfl⟩ | ⟨rfl, rfl⟩ | ⟨rfl, rfl⟩ | ⟨rfl, rfl⟩
      ·go_wp2_with fail
       go_roundw
       case rel => exact ⟨by first | trivial | rfl, ⟨.inr (.inl ⟨rfl, by first | rfl | exact congrArg (Value.int IntKind.u32) (by omega)⟩)⟩⟩
       case measure => simp [intOf]
      ·go_wp2_with fail
       go_roundw
       case rel => exact ⟨by first | trivial | rfl, ⟨.inr (.inr (.inl ⟨rfl, by first | rfl | exact congrArg (Value.int IntKind.u32) (by omega)⟩))⟩⟩
       case measure => simp [intOf]
      ·go_wp2_with fail
       go_roundw
       case rel => exact ⟨by first | trivial | rfl, ⟨.inr (.inr (.inr (.inl ⟨rfl, by first | rfl | exact congrArg (Value.int IntKind.u32) (by omega)⟩)))⟩⟩
       case measure => simp [intOf]
      ·go_wp2_with fail
       go_roundw
       case rel => exact ⟨by first | trivial | rfl, ⟨.inr (.inr (.inr (.inr (⟨rfl, by first | rfl | exact congrArg (Value.int IntKind.u32) (by omega)⟩))))⟩⟩
       case measure => simp [intOf]
      ·have hz_ := True.intro
       obtain ⟨Wd, hWd⟩ : ∃ Wd, wordF ((blkF R j).drop (4 * K)) = Wd := ⟨_, rfl⟩
       have HWL := Aside0.mk hWd
       rw [hWd] at HWD
       have hWE := HWD.out
       rw [← hWE]
       have hW0 : 0 ≤ Wd := by omega
       have hW1 : Wd < 4294967296 := by omega
       clear hWE hWd
       obtain ⟨sv, hsv⟩ : ∃ sv, sinesL.getD i 0 = sv := ⟨_, rfl⟩
       have HSV := Aside0.mk hsv
       clear hsv
       go_upto_region 30 with (go_at_call 40; (with_reducible refine (sine_c i hi64 _ HI.out.ld).mono ?_); rintro e w' ⟨rfl, rfl⟩; rw [HSV.out])
       (try simp only [Act.put, List.setIfInBounds_toArray, List.set_cons_zero, List.set_cons_succ])
       generalize hT : (((xa + F + Wd) % 4294967296 + sv) % 4294967296) = T
       have ht0 : 0 ≤ T := by omega
       have ht1 : T < 4294967296 := by omega
       have HT := Aside0.mk hT
       clear hT
       obtain ⟨pq, hp1, hp2⟩ := places_at HI.out i hi64
       have hN := turnsOf_range (i : Int)
       generalize hNN : turnsOf (i : Int) = N at hp2 hN
       have HN := Aside0.mk hNN
       clear hNN
       obtain ⟨hN0, hN1⟩ := hN
       obtain ⟨rt, hrt⟩ : ∃ rt, rot T N = rt := ⟨_, rfl⟩
       have HRT := Aside0.mk hrt
       clear hrt
       rw [show ((i : Int) / 16).toNat = i / 16 from by omega] at hp1
       rw [show ((i : Int) % 4).toNat = i % 4 from by omega] at hp2
       have hq0 : 0 ≤ (i : Int) / 16 := by omega
       have hq4 : (i : Int) / 16 < 4 := by omega
       have hm0 : 0 ≤ (i : Int) % 4 := by omega
       have hm4 : (i : Int) % 4 < 4 := by omega
       go_wp2_with (go_at_call 41; (with_reducible refine (turn_c T N _ ht0 ht1 hN0 hN1).mono ?_); rintro e w9 ⟨rfl, hbn⟩; rw [HRT.out]; have HI_ := Aside0.mk (HI.out.below hbn (Nat.le_trans H3.out HI.out.bel.size)); have BH_ := Aside0.mk (blk_below BH.out hbn); clear HI BH hbn; have HI := HI_; have BH := BH_; clear HI_ BH_)
       have HST := Aside0.mk (show stepsF (blkF R j) ⟨sa, sb, sc, sd⟩ (i + 1) = ⟨xd, (xb + rt) % 4294967296, xb, xc⟩ from by
        have eT : tOf (blkF R j) i ⟨xa, xb, xc, xd⟩ = T := by
         unfold tOf
         rw [HK.out, show (4 * (K : Int)).toNat = 4 * K from by omega, HWL.out, HF.out, HSV.out]
         have := HT.out
         simp only
         omega
        rw [HSS.out]
        unfold stepF
        rw [eT, HN.out, HRT.out])
       go_roundw
       case rel => exact ⟨i + 1, ⟨by omega⟩, by go_num, by rw [HST.out], by rw [HST.out], by rw [HST.out], by rw [HST.out], BH, HI⟩
       case measure => simp [intOf]; omega
    ·have hge : ¬ (i : Int) < 64 := by omega
     have e64 : i = 64 := by have := HIL.out; omega
     have HTH := Aside0.mk (HX64.out e64)
     go_wp2_with fail
     refine start_ (n := 22) (S := fun w' => w'.cell? ⟨gh, 0, none⟩ = some (.int .u32 sa) ∧ w'.cell? ⟨gh, 1, none⟩ = some (.int .u32 sb) ∧ w'.cell? ⟨gh, 2, none⟩ = some (.int .u32 sc) ∧ w'.cell? ⟨gh, 3, none⟩ = some (.int .u32 sd)) (ds := []) #[false, false, false, false, false, false, false, false, false, false, false, false, false, false, false, false, false, false, false, false, false, false] (by as_aux_lemma => kernel_rfl) rfl rfl ⟨((blk_cell (blk_drew BH.out) 0).trans rfl), ((blk_cell (blk_drew BH.out) 1).trans rfl), ((blk_cell (blk_drew BH.out) 2).trans rfl), ((blk_cell (blk_drew BH.out) 3).trans rfl)⟩ (fun hHeld => ?_)
     refine pure_ (i := 0) (N := some 138) (v := ?_) (a' := ?_) #[true, false, false, false, false, false, false, false, false, false, false, false, false, false, false, false, false, false, false, false, false, false] rfl rfl (by as_aux_lemma => kernel_rfl) (fun _ _ _ h => h) (Or.inl ⟨by rfl, ?_⟩) ?_ ?_
     rotate_left
     ·intro w'
      go_simp
      with_reducible rfl
     rotate_left
     ·simp only [Act.put, List.setIfInBounds_toArray, List.set_cons_zero, List.set_cons_succ, i64_w, i32_w]
      rfl
     refine pure_ (i := 1) (N := some 139) (v := ?_) (a' := ?_) #[true, true, false, false, false, false, false, false, false, false, false, false, false, false, false, false, false, false, false, false, false, false] rfl rfl (by as_aux_lemma => kernel_rfl) (fun _ _ _ h => h) (Or.inl ⟨by rfl, ?_⟩) ?_ ?_
     rotate_left
     ·intro w'
      go_simp
      with_reducible rfl
     rotate_left
     ·simp only [Act.put, List.setIfInBounds_toArray, List.set_cons_zero, List.set_cons_succ, i64_w, i32_w]
      rfl
     refine pure_ (i := 3) (N := some 141) (v := ?_) (a' := ?_) #[true, true, false, true, false, false, false, false, false, false, false, false, false, false, false, false, false, false, false, false, false, false] rfl rfl (by as_aux_lemma => kernel_rfl) (fun _ _ _ h => h) (Or.inl ⟨by rfl, ?_⟩) ?_ ?_
     rotate_left
     ·intro w'
      go_simp
      with_reducible rfl
     rotate_left
     ·simp only [Act.put, List.setIfInBounds_toArray, List.set_cons_zero, List.set_cons_succ, i64_w, i32_w]
      rfl
     refine pure_ (i := 5) (N := some 143) (v := ?_) (a' := ?_) #[true, true, false, true, false, true, false, false, false, false, false, false, false, false, false, false, false, false, false, false, false, false] rfl rfl (by as_aux_lemma => kernel_rfl) (fun _ _ _ h => h) (Or.inl ⟨by rfl, ?_⟩) ?_ ?_
     rotate_left
     ·intro w'
      go_simp
      with_reducible rfl
     rotate_left
     ·simp only [Act.put, List.setIfInBounds_toArray, List.set_cons_zero, List.set_cons_succ, i64_w, i32_w]
      rfl
     refine pure_ (i := 6) (N := some 144) (v := ?_) (a' := ?_) #[true, true, false, true, false, true, true, false, false, false, false, false, false, false, false, false, false, false, false, false, false, false] rfl rfl (by as_aux_lemma => kernel_rfl) (fun _ _ _ h => h) (Or.inl ⟨by rfl, ?_⟩) ?_ ?_
     rotate_left
     ·intro w'
      go_simp
      with_reducible rfl
     rotate_left
     ·simp only [Act.put, List.setIfInBounds_toArray, List.set_cons_zero, List.set_cons_succ, i64_w, i32_w]
      rfl
     refine pure_ (i := 8) (N := some 146) (v := ?_) (a' := ?_) #[true, true, false, true, false, true, true, false, true, false, false, false, false, false, false, false, false, false, false, false, false, false] rfl rfl (by as_aux_lemma => kernel_rfl) (fun _ _ _ h => h) (Or.inl ⟨by rfl, ?_⟩) ?_ ?_
     rotate_left
     ·intro w'
      go_simp
      with_reducible rfl
     rotate_left
     ·simp only [Act.put, List.setIfInBounds_toArray, List.set_cons_zero, List.set_cons_succ, i64_w, i32_w]
      rfl
     refine pure_ (i := 10) (N := some 148) (v := ?_) (a' := ?_) #[true, true, false, true, false, true, true, false, true, false, true, false, false, false, false, false, false, false, false, false, false, false] rfl rfl (by as_aux_lemma => kernel_rfl) (fun _ _ _ h => h) (Or.inl ⟨by rfl, ?_⟩) ?_ ?_
     rotate_left
     ·intro w'
      go_simp
      with_reducible rfl
     rotate_left
     ·simp only [Act.put, List.setIfInBounds_toArray, List.set_cons_zero, List.set_cons_succ, i64_w, i32_w]
      rfl
     refine pure_ (i := 11) (N := some 149) (v := ?_) (a' := ?_) #[true, true, false, true, false, true, true, false, true, false, true, true, false, false, false, false, false, false, false, false, false, false] rfl rfl (by as_aux_lemma => kernel_rfl) (fun _ _ _ h => h) (Or.inl ⟨by rfl, ?_⟩) ?_ ?_
     rotate_left
     ·intro w'
      go_simp
      with_reducible rfl
     rotate_left
     ·simp only [Act.put, List.setIfInBounds_toArray, List.set_cons_zero, List.set_cons_succ, i64_w, i32_w]
      rfl
     refine pure_ (i := 13) (N := some 151) (v := ?_) (a' := ?_) #[true, true, false, true, false, true, true, false, true, false, true, true, false, true, false, false, false, false, false, false, false, false] rfl rfl (by as_aux_lemma => kernel_rfl) (fun _ _ _ h => h) (Or.inl ⟨by rfl, ?_⟩) ?_ ?_
     rotate_left
     ·intro w'
      go_simp
      with_reducible rfl
     rotate_left
     ·simp only [Act.put, List.setIfInBounds_toArray, List.set_cons_zero, List.set_cons_succ, i64_w, i32_w]
      rfl
     refine pure_ (i := 15) (N := some 153) (v := ?_) (a' := ?_) #[true, true, false, true, false, true, true, false, true, false, true, true, false, true, false, true, false, false, false, false, false, false] rfl rfl (by as_aux_lemma => kernel_rfl) (fun _ _ _ h => h) (Or.inl ⟨by rfl, ?_⟩) ?_ ?_
     rotate_left
     ·intro w'
      go_simp
      with_reducible rfl
     rotate_left
     ·simp only [Act.put, List.setIfInBounds_toArray, List.set_cons_zero, List.set_cons_succ, i64_w, i32_w]
      rfl
     refine pure_ (i := 16) (N := some 154) (v := ?_) (a' := ?_) #[true, true, false, true, false, true, true, false, true, false, true, true, false, true, false, true, true, false, false, false, false, false] rfl rfl (by as_aux_lemma => kernel_rfl) (fun _ _ _ h => h) (Or.inl ⟨by rfl, ?_⟩) ?_ ?_
     rotate_left
     ·intro w'
      go_simp
      with_reducible rfl
     rotate_left
     ·simp only [Act.put, List.setIfInBounds_toArray, List.set_cons_zero, List.set_cons_succ, i64_w, i32_w]
      rfl
     refine pure_ (i := 18) (N := some 156) (v := ?_) (a' := ?_) #[true, true, false, true, false, true, true, false, true, false, true, true, false, true, false, true, true, false, true, false, false, false] rfl rfl (by as_aux_lemma => kernel_rfl) (fun _ _ _ h => h) (Or.inl ⟨by rfl, ?_⟩) ?_ ?_
     rotate_left
     ·intro w'
      go_simp
      with_reducible rfl
     rotate_left
     ·simp only [Act.put, List.setIfInBounds_toArray, List.set_cons_zero, List.set_cons_succ, i64_w, i32_w]
      rfl
     refine take_ (i := 2) (N := some 140) (v := ?_) (a' := ?_) #[true, true, true, true, false, true, true, false, true, false, true, true, false, true, false, true, true, false, true, false, false, false] rfl rfl (by as_aux_lemma => kernel_rfl) (fun _ _ _ h => h) (Or.inl ⟨by rfl, ?_⟩) hHeld ?_ ?_
     rotate_left
     ·rintro w' ⟨s0, s1, s2, s3⟩
      go_simp
      with_reducible rfl
     rotate_left
     ·simp only [Act.put, List.setIfInBounds_toArray, List.set_cons_zero, List.set_cons_succ, i64_w, i32_w]
      rfl
     refine pure_ (i := 4) (N := some 142) (v := ?_) (a' := ?_) #[true, true, true, true, true, true, true, false, true, false, true, true, false, true, false, true, true, false, true, false, false, false] rfl rfl (by as_aux_lemma => kernel_rfl) (fun _ _ _ h => h) (Or.inl ⟨by rfl, ?_⟩) ?_ ?_
     rotate_left
     ·intro w'
      go_simp
      with_reducible rfl
     rotate_left
     ·simp only [Act.put, List.setIfInBounds_toArray, List.set_cons_zero, List.set_cons_succ, i64_w, i32_w]
      rfl
     refine take_ (i := 7) (N := some 145) (v := ?_) (a' := ?_) #[true, true, true, true, true, true, true, true, true, false, true, true, false, true, false, true, true, false, true, false, false, false] rfl rfl (by as_aux_lemma => kernel_rfl) (fun _ _ _ h => h) (Or.inl ⟨by rfl, ?_⟩) hHeld ?_ ?_
     rotate_left
     ·rintro w' ⟨s0, s1, s2, s3⟩
      go_simp
      with_reducible rfl
     rotate_left
     ·simp only [Act.put, List.setIfInBounds_toArray, List.set_cons_zero, List.set_cons_succ, i64_w, i32_w]
      rfl
     refine pure_ (i := 9) (N := some 147) (v := ?_) (a' := ?_) #[true, true, true, true, true, true, true, true, true, true, true, true, false, true, false, true, true, false, true, false, false, false] rfl rfl (by as_aux_lemma => kernel_rfl) (fun _ _ _ h => h) (Or.inl ⟨by rfl, ?_⟩) ?_ ?_
     rotate_left
     ·intro w'
      go_simp
      with_reducible rfl
     rotate_left
     ·simp only [Act.put, List.setIfInBounds_toArray, List.set_cons_zero, List.set_cons_succ, i64_w, i32_w]
      rfl
     refine take_ (i := 12) (N := some 150) (v := ?_) (a' := ?_) #[true, true, true, true, true, true, true, true, true, true, true, true, true, true, false, true, true, false, true, false, false, false] rfl rfl (by as_aux_lemma => kernel_rfl) (fun _ _ _ h => h) (Or.inl ⟨by rfl, ?_⟩) hHeld ?_ ?_
     rotate_left
     ·rintro w' ⟨s0, s1, s2, s3⟩
      go_simp
      with_reducible rfl
     rotate_left
     ·simp only [Act.put, List.setIfInBounds_toArray, List.set_cons_zero, List.set_cons_succ, i64_w, i32_w]
      rfl
     refine pure_ (i := 14) (N := some 152) (v := ?_) (a' := ?_) #[true, true, true, true, true, true, true, true, true, true, true, true, true, true, true, true, true, false, true, false, false, false] rfl rfl (by as_aux_lemma => kernel_rfl) (fun _ _ _ h => h) (Or.inl ⟨by rfl, ?_⟩) ?_ ?_
     rotate_left
     ·intro w'
      go_simp
      with_reducible rfl
     rotate_left
     ·simp only [Act.put, List.setIfInBounds_toArray, List.set_cons_zero, List.set_cons_succ, i64_w, i32_w]
      rfl
     refine take_ (i := 17) (N := some 155) (v := ?_) (a' := ?_) #[true, true, true, true, true, true, true, true, true, true, true, true, true, true, true, true, true, true, true, false, false, false] rfl rfl (by as_aux_lemma => kernel_rfl) (fun _ _ _ h => h) (Or.inl ⟨by rfl, ?_⟩) hHeld ?_ ?_
     rotate_left
     ·rintro w' ⟨s0, s1, s2, s3⟩
      go_simp
      with_reducible rfl
     rotate_left
     ·simp only [Act.put, List.setIfInBounds_toArray, List.set_cons_zero, List.set_cons_succ, i64_w, i32_w]
      rfl
     refine pure_ (i := 19) (N := some 157) (v := ?_) (a' := ?_) #[true, true, true, true, true, true, true, true, true, true, true, true, true, true, true, true, true, true, true, true, false, false] rfl rfl (by as_aux_lemma => kernel_rfl) (fun _ _ _ h => h) (Or.inl ⟨by rfl, ?_⟩) ?_ ?_
     rotate_left
     ·intro w'
      go_simp
      with_reducible rfl
     rotate_left
     ·simp only [Act.put, List.setIfInBounds_toArray, List.set_cons_zero, List.set_cons_succ, i64_w, i32_w]
      rfl
     refine one_ (i := 20) (N := some 158) #[true, true, true, true, true, true, true, true, true, true, true, true, true, true, true, true, true, true, true, true, true, false] rfl rfl (by as_aux_lemma => kernel_rfl) (by decide) (fun K hK => ?_)
     refine value_ (w1 := ?_) (v := ?_) (by rfl) rfl ?_ ?_
     rotate_left 2
     ·go_simp
      constructor
      ·rfl
      ·rfl
     refine hK.out _ _ ⟨((blk_cell (blk_alloc (blk_drew BH.out) _) 0).trans rfl), ((blk_cell (blk_alloc (blk_drew BH.out) _) 1).trans rfl), ((blk_cell (blk_alloc (blk_drew BH.out) _) 2).trans rfl), ((blk_cell (blk_alloc (blk_drew BH.out) _) 3).trans rfl)⟩ (fun hHeld => ?_)
     clear hK K
     refine norm_ (a' := ?_) ?_ ?_
     rotate_left
     ·show Act.put _ (some 158) _ = _
      simp only [Act.put, List.setIfInBounds_toArray, List.set_cons_zero, List.set_cons_succ, i64_w, i32_w]
      rfl
     refine pure_ (i := 21) (N := some 4) (v := ?_) (a' := ?_) #[true, true, true, true, true, true, true, true, true, true, true, true, true, true, true, true, true, true, true, true, true, true] rfl rfl (by as_aux_lemma => kernel_rfl) (fun _ _ _ h => h) (Or.inl ⟨by rfl, ?_⟩) ?_ ?_
     rotate_left
     ·intro w'
      go_simp
      with_reducible rfl
     rotate_left
     ·simp only [Act.put, List.setIfInBounds_toArray, List.set_cons_zero, List.set_cons_succ, i64_w, i32_w]
      rfl
     refine done_ (by as_aux_lemma => kernel_rfl) ?_
     have HIn := Aside0.mk (HI.out.below (below_drew1 (below_alloc (Below.refl _ _) (.cells #[.int .u32 ((sa + xa) % 4294967296), .int .u32 ((sb + xb) % 4294967296), .int .u32 ((sc + xc) % 4294967296), .int .u32 ((sd + xd) % 4294967296)] 46))) (Nat.le_trans H3.out HI.out.bel.size))
     have BHn := Aside0.mk (show ((wr.alloc (.cells #[.int .u32 ((sa + xa) % 4294967296), .int .u32 ((sb + xb) % 4294967296), .int .u32 ((sc + xc) % 4294967296), .int .u32 ((sd + xd) % 4294967296)] 46)).drew).heap[wr.heap.size]? = some (.cells (sumSt R (List.range (j + 1))).cells 46 (0, 0)) from by rw [HSN.out, HTH.out]; exact blk_drew (blk_new wr _))
     clear HI BH
     simp only [IntKind.wrap_u32]
     go_wp2_with fail
     go_roundw
     case rel => exact ⟨j + 1, wr.heap.size, by go_num, rfl, ⟨hlt⟩, BHn, HIn⟩
     case measure => simp [intOf]; omega
  ·have hge : ¬ (64 * (j : Int)) < ((64 * q : Nat) : Int) := by omega
   have ej : j = q := by have := HJ.out; omega
   rw [ej] at BH
   have hok := sumSt_ok R (List.range q)
   obtain ⟨S0, hS0⟩ : ∃ S0, sumSt R (List.range q) = S0 := ⟨_, rfl⟩
   rw [hS0] at BH hok
   have HS0 := Aside0.mk hS0
   clear hS0
   obtain ⟨sa, sb, sc, sd⟩ := S0
   obtain ⟨⟨ha0, ha1⟩, ⟨hb0, hb1⟩, ⟨hc0, hc1⟩, ⟨hd0, hd1⟩⟩ := hok
   dsimp only at ha0 ha1 hb0 hb1 hc0 hc1 hd0 hd1
   have HB := Aside0.mk HI.out.bel
   have Bgz := Aside0.mk HI.out.out
   clear HI
   go_wp2_with (first | ((with_reducible refine gate_dst (N := 17) rfl ?_); refine' box_event ?hg (N := 17) ?hd (t := 24) ?hr ?_; (case hd => rfl); (case hg => rfl); (case hr => first | (go_simp; done) | (go_simp; rfl)); intro go hgn w10 hbox hbn; have NEz := Aside0.mk (show gz ≠ go from Nat.ne_of_lt (Nat.lt_of_lt_of_eq (blk_lt Bgz.out) hgn.symm)); have NEh := Aside0.mk (show gh ≠ go from Nat.ne_of_lt (Nat.lt_of_lt_of_eq (blk_lt BH.out) hgn.symm)); have Bgz_ := Aside0.mk (blk_below Bgz.out hbn); clear Bgz; have Bgz := Bgz_; clear Bgz_; have BH_ := Aside0.mk (blk_below BH.out hbn); clear BH; have BH := BH_; clear BH_; have HB_ := Aside0.mk (below_step (show Below w.heap.size w wr from HB.out) hbn); have GEgo := Aside0.mk (show w.heap.size ≤ go from Nat.le_trans (below_size (show Below w.heap.size w wr from HB.out)) (Nat.le_of_eq hgn.symm)); clear HB; have HB := HB_; clear HB_; have Bgo := Aside0.mk hbox; clear hbox hbn hgn))
   have HI := Aside0.mk (show ROut w ⟨sa, sb, sc, sd⟩ gz gh go 0 w10 from ⟨HB.out, BH.out, Bgz.out, Bgo.out⟩)
   clear HB BH Bgz Bgo
   go_loopw [18] (fun v18 wr => ∃ i : Nat, i ≤ 16 ∧ v18 = .int .i64 (i : Int) ∧ Aside0 (ROut w ⟨sa, sb, sc, sd⟩ gz gh go i wr)) (fun v18 _ => 16 - (intOf v18).toNat)
   case atStart => exact ⟨0, by omega, rfl, HI⟩
   case round =>
    clear HI
    obtain ⟨i, hi, rfl, HI⟩ := hrel
    by_cases hi16 : i < 16
    ·obtain ⟨m, rr, x, hm, hr, hm4, hx0, hx1, hcz, hco, hset⟩ := dig_one (show sa ≤ 4294967295 by omega) (show sb ≤ 4294967295 by omega) (show sc ≤ 4294967295 by omega) (show sd ≤ 4294967295 by omega) ha0 hb0 hc0 hd0 i hi16
     have hz : wr.cell? ⟨gh, m, none⟩ = some (.int .u32 x) := (blk_cell HI.out.s m).trans hcz
     have hy : wr.cell? ⟨go, i, none⟩ = some (.int .u8 0) := (blk_cell HI.out.o i).trans hco
     have hf := blk_frozen HI.out.o i
     have HN := Aside0.mk (HI.out.step _ hset GEgo.out NEz.out NEh.out)
     have HRR := Aside0.mk (show rr ≤ 3 by omega)
     have hi1 : (i : Int) < 16 := by omega
     have hm5 : (m : Int) < 4 := by omega
     clear HI hcz hco hset ha0 ha1 hb0 hb1 hc0 hc1 hd0 hd1
     go_wp2_with fail
     go_loopw [19, 20] (fun v19 v20 wn => wr = wn ∧ Aside0 (DRel x rr v19 v20)) (fun _ v20 _ => (rr - intOf v20).toNat)
     case atStart => exact ⟨rfl, ⟨DRel.start x rr⟩⟩
     case round =>
      obtain ⟨rfl, ⟨n, hn, rfl, rfl⟩⟩ := hrel
      have HDS := Aside0.mk (div_step x n)
      obtain ⟨hv0, hv1⟩ := div_range n hx0 hx1
      by_cases hnr : n < rr
      ·have hnr' : (n : Int) < (rr : Int) := by omega
       clear HN
       generalize hV : x / 256 ^ n = V at hv0 hv1 HDS ⊢
       clear hV
       go_wp2_with fail
       go_roundw
       case rel => exact ⟨by first | trivial | rfl, ⟨n + 1, by omega, by first | rfl | go_num, by rw [HDS.out]⟩⟩
       case measure => simp [intOf]; omega
      ·have hnr' : ¬ (n : Int) < (rr : Int) := by omega
       have en : n = rr := by omega
       subst en
       generalize hV : x / 256 ^ n = V at hv0 hv1 HN ⊢
       clear hV HDS
       go_wp2_with fail
       go_roundw
       case rel => exact ⟨i + 1, by omega, by first | rfl | go_num, HN⟩
       case measure => simp [intOf]; omega
    ·have ei : i = 16 := by omega
     subst ei
     have HS := Aside0.mk (show wr.heap[go]? = some (.cells #[.int .u8 (sa % 256), .int .u8 (sa / 256 % 256), .int .u8 (sa / 65536 % 256), .int .u8 (sa / 16777216), .int .u8 (sb % 256), .int .u8 (sb / 256 % 256), .int .u8 (sb / 65536 % 256), .int .u8 (sb / 16777216), .int .u8 (sc % 256), .int .u8 (sc / 256 % 256), .int .u8 (sc / 65536 % 256), .int .u8 (sc / 16777216), .int .u8 (sd % 256), .int .u8 (sd / 256 % 256), .int .u8 (sd / 65536 % 256), .int .u8 (sd / 16777216)] 24 (0, 0)) from HI.out.o)
     have y0 : wr.cell? ⟨gz, 0, none⟩ = some (.int .u8 0) := (blk_cell HI.out.r 0).trans rfl
     have f0 := blk_frozen HI.out.r 0
     have y1 : wr.cell? ⟨gz, 1, none⟩ = some (.int .u8 0) := (blk_cell HI.out.r 1).trans rfl
     have f1 := blk_frozen HI.out.r 1
     have y2 : wr.cell? ⟨gz, 2, none⟩ = some (.int .u8 0) := (blk_cell HI.out.r 2).trans rfl
     have f2 := blk_frozen HI.out.r 2
     have y3 : wr.cell? ⟨gz, 3, none⟩ = some (.int .u8 0) := (blk_cell HI.out.r 3).trans rfl
     have f3 := blk_frozen HI.out.r 3
     have y4 : wr.cell? ⟨gz, 4, none⟩ = some (.int .u8 0) := (blk_cell HI.out.r 4).trans rfl
     have f4 := blk_frozen HI.out.r 4
     have y5 : wr.cell? ⟨gz, 5, none⟩ = some (.int .u8 0) := (blk_cell HI.out.r 5).trans rfl
     have f5 := blk_frozen HI.out.r 5
     have y6 : wr.cell? ⟨gz, 6, none⟩ = some (.int .u8 0) := (blk_cell HI.out.r 6).trans rfl
     have f6 := blk_frozen HI.out.r 6
     have y7 : wr.cell? ⟨gz, 7, none⟩ = some (.int .u8 0) := (blk_cell HI.out.r 7).trans rfl
     have f7 := blk_frozen HI.out.r 7
     have y8 : wr.cell? ⟨gz, 8, none⟩ = some (.int .u8 0) := (blk_cell HI.out.r 8).trans rfl
     have f8 := blk_frozen HI.out.r 8
     have y9 : wr.cell? ⟨gz, 9, none⟩ = some (.int .u8 0) := (blk_cell HI.out.r 9).trans rfl
     have f9 := blk_frozen HI.out.r 9
     have y10 : wr.cell? ⟨gz, 10, none⟩ = some (.int .u8 0) := (blk_cell HI.out.r 10).trans rfl
     have f10 := blk_frozen HI.out.r 10
     have y11 : wr.cell? ⟨gz, 11, none⟩ = some (.int .u8 0) := (blk_cell HI.out.r 11).trans rfl
     have f11 := blk_frozen HI.out.r 11
     have y12 : wr.cell? ⟨gz, 12, none⟩ = some (.int .u8 0) := (blk_cell HI.out.r 12).trans rfl
     have f12 := blk_frozen HI.out.r 12
     have y13 : wr.cell? ⟨gz, 13, none⟩ = some (.int .u8 0) := (blk_cell HI.out.r 13).trans rfl
     have f13 := blk_frozen HI.out.r 13
     have y14 : wr.cell? ⟨gz, 14, none⟩ = some (.int .u8 0) := (blk_cell HI.out.r 14).trans rfl
     have f14 := blk_frozen HI.out.r 14
     have y15 : wr.cell? ⟨gz, 15, none⟩ = some (.int .u8 0) := (blk_cell HI.out.r 15).trans rfl
     have f15 := blk_frozen HI.out.r 15
     go_wp2_with (refine wpList_load_row rfl 24 (.tmp 17) rfl go rfl 24 _ (0, 0) _ HS.out Tryd.underlying24 rfl (by as_aux_lemma => kernel_rfl) ?_)
     refine bodyPost_ret (results_cell_row Tryd.results15 _ _ gz 24 #[.int .u8 (sa % 256), .int .u8 (sa / 256 % 256), .int .u8 (sa / 65536 % 256), .int .u8 (sa / 16777216), .int .u8 (sb % 256), .int .u8 (sb / 256 % 256), .int .u8 (sb / 65536 % 256), .int .u8 (sb / 16777216), .int .u8 (sc % 256), .int .u8 (sc / 256 % 256), .int .u8 (sc / 65536 % 256), .int .u8 (sc / 16777216), .int .u8 (sd % 256), .int .u8 (sd / 256 % 256), .int .u8 (sd / 65536 % 256), .int .u8 (sd / 16777216)] (0, 0) _ rfl (set16_row HI.out.r (.int .u8 (sa % 256)) (.int .u8 (sa / 256 % 256)) (.int .u8 (sa / 65536 % 256)) (.int .u8 (sa / 16777216)) (.int .u8 (sb % 256)) (.int .u8 (sb / 256 % 256)) (.int .u8 (sb / 65536 % 256)) (.int .u8 (sb / 16777216)) (.int .u8 (sc % 256)) (.int .u8 (sc / 256 % 256)) (.int .u8 (sc / 65536 % 256)) (.int .u8 (sc / 16777216)) (.int .u8 (sd % 256)) (.int .u8 (sd / 256 % 256)) (.int .u8 (sd / 65536 % 256)) (.int .u8 (sd / 16777216))) Tryd.underlying24 rfl (by as_aux_lemma => kernel_rfl)) rfl ⟨?_, set16_below HI.out.bel GEgz.out (.int .u8 (sa % 256)) (.int .u8 (sa / 256 % 256)) (.int .u8 (sa / 65536 % 256)) (.int .u8 (sa / 16777216)) (.int .u8 (sb % 256)) (.int .u8 (sb / 256 % 256)) (.int .u8 (sb / 65536 % 256)) (.int .u8 (sb / 16777216)) (.int .u8 (sc % 256)) (.int .u8 (sc / 256 % 256)) (.int .u8 (sc / 65536 % 256)) (.int .u8 (sc / 16777216)) (.int .u8 (sd % 256)) (.int .u8 (sd / 256 % 256)) (.int .u8 (sd / 65536 % 256)) (.int .u8 (sd / 16777216))⟩
     rw [HS0.out]
     rfl
end Go.Proofs.YtgadhmoifhoilaaDoor.Md5
