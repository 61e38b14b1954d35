/-
  md5.Sum of parts: the digest of all of them, one behind the other.
-/
import Derived.Test.YtgadhmoifhoilaaDoorMd5Chk
import Derived.Test.YtgadhmoifhoilaaDoorMd5Thr
import Derived.Test.YtgadhmoifhoilaaDoorMd5Cat
namespace Go.Proofs.YtgadhmoifhoilaaDoor.Md5
open Go.RowKit Go.Shelf Go.Lib Go.Proofs.YtgadhmoifhoilaaDoorW.PrintWords Go.Proofs.YtgadhmoifhoilaaDoorW.PrintLast Go.Proofs.YtgadhmoifhoilaaDoorW.PrintMore Go.Proofs.YtgadhmoifhoilaaDoor.Kit
attribute [local go_sem] Oper.semAt_some
theorem wpListIn_load_row {F : Fence} {n : Nat} {P : Program} {ops : Array Oper} {rest : List Oper} {o : Oper} {a : Act} {w : World} {Q : Exit → Act → World → Prop} (hgd : o.guard = none) (ty : TypeId) (x : Operand) (ho : o.op = .load ty x)
  (g : Nat) (hx : a.eval x = .pointer (some ⟨g, 0, none⟩)) (t : TypeId) (cs : Array Value) (fr : Nat × Nat) (d : TypeDesc) (hg : w.heap[g]? = some (.cells cs t fr))
  (hu : P.underlying ty = some d) (hd : (match d with | .struct _ | .array _ _ => true | _ => false) = true) (hi : (P.info? ty).map (·.size) = some cs.size)
  (h : wpListIn F n P ops Q rest (a.put o.dst (.agg cs)) w) : wpListIn F n P ops Q (o :: rest) a w :=
 wpListIn_plain hgd fun K hK' => by
  unfold Oper.wpIn
  refine ⟨?_, ?_⟩
  ·simp [Oper.about, ho]
  ·rw [Oper.semAt_plain F _ _ (by rw [ho]; intro c hc'; cases hc')]
   simp [execOp, ho, hx, Instr.loadAt, Instr.sureAddr, Result.andThen_ok, run_loadVar_row w g t ty cs fr d hg hu hd hi]
   exact hK' _ _ h
def blkF (r : List Int) (j : Nat) : List Int := (r.drop (64 * j)).take 64
def init : St := ⟨1732584193, 4023233417, 2562383102, 271733878⟩
def sumSt (r : List Int) (js : List Nat) : St := js.foldl (fun s j => throughF (blkF r (j % (r.length / 64))) s) init
theorem sumSt_snoc (r : List Int) (js : List Nat) (j : Nat) : sumSt r (js ++ [j]) = throughF (blkF r (j % (r.length / 64))) (sumSt r js) := by simp [sumSt]
theorem add_ok (x y : St) : (St.add x y).ok :=
 ⟨⟨Int.emod_nonneg _ (by decide), Int.emod_lt_of_pos _ (by decide)⟩, ⟨Int.emod_nonneg _ (by decide), Int.emod_lt_of_pos _ (by decide)⟩, ⟨Int.emod_nonneg _ (by decide), Int.emod_lt_of_pos _ (by decide)⟩, ⟨Int.emod_nonneg _ (by decide), Int.emod_lt_of_pos _ (by decide)⟩⟩
theorem sumSt_ok (r : List Int) (js : List Nat) : (sumSt r js).ok := by
 rcases js.eq_nil_or_concat with rfl | ⟨js, j, rfl⟩
 ·show init.ok
  exact ⟨by decide, by decide, by decide, by decide⟩
 ·rw [List.concat_eq_append, sumSt_snoc]; exact add_ok _ _
def z16 : Array Value := #[.int .u8 0, .int .u8 0, .int .u8 0, .int .u8 0, .int .u8 0, .int .u8 0, .int .u8 0, .int .u8 0, .int .u8 0, .int .u8 0, .int .u8 0, .int .u8 0, .int .u8 0, .int .u8 0, .int .u8 0, .int .u8 0]
def digest (s : St) : List Int := [s.a % 256, s.a / 256 % 256, s.a / 65536 % 256, s.a / 16777216, s.b % 256, s.b / 256 % 256, s.b / 65536 % 256, s.b / 16777216, s.c % 256, s.c / 256 % 256, s.c / 65536 % 256, s.c / 16777216, s.d % 256, s.d / 256 % 256, s.d / 65536 % 256, s.d / 16777216]
def St.out (s : St) : Array Value := ((digest s).map (Value.int .u8)).toArray
def outC (s : St) (i : Nat) : Array Value := (((digest s).take i ++ List.replicate (16 - i) 0).map (Value.int .u8)).toArray
theorem blk_C {W : World} {ad : Addr} {r : List Int} (h : (Kd.int .u8).C W (some ad) r.length r) (q : Nat) (hq : r.length = 64 * q) (j : Nat) (hj : j < q) : (Kd.int .u8).C W (some (ad.add (64 * j))) 64 (blkF r j) := by
 have h1 := Kd.C_mid (lo := 64 * j) (hi := 64 * j + 64) (c := r.length) h (by omega) (by omega) (Nat.le_refl _)
 have e : (r.take (64 * j + 64)).drop (64 * j) = blkF r j := by unfold blkF; rw [List.drop_take]; congr 1; omega
 rw [e] at h1
 have hl : (blkF r j).length = 64 := by unfold blkF; rw [List.length_take, List.length_drop]; omega
 rw [hl, if_neg (by omega)] at h1
 have e2 : 64 * j * (Kd.int IntKind.u8).sz = 64 * j := Nat.mul_one _
 rw [e2] at h1
 exact h1
theorem blk_len (r : List Int) (q : Nat) (hq : r.length = 64 * q) (j : Nat) (hj : j < q) : (blkF r j).length = 64 := by unfold blkF; rw [List.length_take, List.length_drop]; omega
structure SumInv (w w3 : World) (r : List Int) (pre : List Nat) (W : World) : Prop where
 kept : Kept w3 W (fun k => k = w.heap.size + 1)
 bel : Below w.heap.size w W
 s : W.heap[w.heap.size + 1]? = some (.cells (sumSt r pre).cells 67 (0, 0))
 o : W.heap[w.heap.size]? = some (.cells z16 24 (0, 0))
theorem SumInv.own {w w3 : World} {r : List Int} (B : Nat) (h3 : w3.heap.size ≤ B) (hw : w.heap.size + 2 ≤ B) : OwnFrom B (SumInv w w3 r) := fun s X Y row hs hg hr => by
 have hlt1 : w.heap.size + 1 < X.heap.size := (Array.getElem?_eq_some_iff.1 hs.s).1
 refine ⟨hs.kept.of_grown hg (fun k e => .inr (by have := (hr k e).1; omega)), hs.bel.grown hg hs.bel.size (fun k e => by have := (hr k e).1; omega), ?_, ?_⟩
 ·exact (hg.block _ hlt1 (fun e => by have := (hr _ e.symm).1; omega)).trans hs.s
 ·exact (hg.block _ (by omega) (fun e => by have := (hr _ e.symm).1; omega)).trans hs.o
def set16 (W : World) (b : Nat) (v0 v1 v2 v3 v4 v5 v6 v7 v8 v9 v10 v11 v12 v13 v14 v15 : Value) : World := ((((((((((((((((W.setCell ⟨b, 0, none⟩ v0).setCell ⟨b, 1, none⟩ v1).setCell ⟨b, 2, none⟩ v2).setCell ⟨b, 3, none⟩ v3).setCell ⟨b, 4, none⟩ v4).setCell ⟨b, 5, none⟩ v5).setCell ⟨b, 6, none⟩ v6).setCell ⟨b, 7, none⟩ v7).setCell ⟨b, 8, none⟩ v8).setCell ⟨b, 9, none⟩ v9).setCell ⟨b, 10, none⟩ v10).setCell ⟨b, 11, none⟩ v11).setCell ⟨b, 12, none⟩ v12).setCell ⟨b, 13, none⟩ v13).setCell ⟨b, 14, none⟩ v14).setCell ⟨b, 15, none⟩ v15)
theorem set16_row {W : World} {b : Nat} {t : TypeId} (h : W.heap[b]? = some (.cells z16 t (0, 0))) (v0 v1 v2 v3 v4 v5 v6 v7 v8 v9 v10 v11 v12 v13 v14 v15 : Value) : (set16 W b v0 v1 v2 v3 v4 v5 v6 v7 v8 v9 v10 v11 v12 v13 v14 v15).heap[b]? = some (.cells #[v0, v1, v2, v3, v4, v5, v6, v7, v8, v9, v10, v11, v12, v13, v14, v15] t (0, 0)) := by
 unfold z16 at h
 have h0 := blk_put (cs' := #[v0, Value.int .u8 0, Value.int .u8 0, Value.int .u8 0, Value.int .u8 0, Value.int .u8 0, Value.int .u8 0, Value.int .u8 0, Value.int .u8 0, Value.int .u8 0, Value.int .u8 0, Value.int .u8 0, Value.int .u8 0, Value.int .u8 0, Value.int .u8 0, Value.int .u8 0]) h 0 v0 rfl
 have h1 := blk_put (cs' := #[v0, v1, Value.int .u8 0, Value.int .u8 0, Value.int .u8 0, Value.int .u8 0, Value.int .u8 0, Value.int .u8 0, Value.int .u8 0, Value.int .u8 0, Value.int .u8 0, Value.int .u8 0, Value.int .u8 0, Value.int .u8 0, Value.int .u8 0, Value.int .u8 0]) h0 1 v1 rfl
 have h2 := blk_put (cs' := #[v0, v1, v2, Value.int .u8 0, Value.int .u8 0, Value.int .u8 0, Value.int .u8 0, Value.int .u8 0, Value.int .u8 0, Value.int .u8 0, Value.int .u8 0, Value.int .u8 0, Value.int .u8 0, Value.int .u8 0, Value.int .u8 0, Value.int .u8 0]) h1 2 v2 rfl
 have h3 := blk_put (cs' := #[v0, v1, v2, v3, Value.int .u8 0, Value.int .u8 0, Value.int .u8 0, Value.int .u8 0, Value.int .u8 0, Value.int .u8 0, Value.int .u8 0, Value.int .u8 0, Value.int .u8 0, Value.int .u8 0, Value.int .u8 0, Value.int .u8 0]) h2 3 v3 rfl
 have h4 := blk_put (cs' := #[v0, v1, v2, v3, v4, Value.int .u8 0, Value.int .u8 0, Value.int .u8 0, Value.int .u8 0, Value.int .u8 0, Value.int .u8 0, Value.int .u8 0, Value.int .u8 0, Value.int .u8 0, Value.int .u8 0, Value.int .u8 0]) h3 4 v4 rfl
 have h5 := blk_put (cs' := #[v0, v1, v2, v3, v4, v5, Value.int .u8 0, Value.int .u8 0, Value.int .u8 0, Value.int .u8 0, Value.int .u8 0, Value.int .u8 0, Value.int .u8 0, Value.int .u8 0, Value.int .u8 0, Value.int .u8 0]) h4 5 v5 rfl
 have h6 := blk_put (cs' := #[v0, v1, v2, v3, v4, v5, v6, Value.int .u8 0, Value.int .u8 0, Value.int .u8 0, Value.int .u8 0, Value.int .u8 0, Value.int .u8 0, Value.int .u8 0, Value.int .u8 0, Value.int .u8 0]) h5 6 v6 rfl
 have h7 := blk_put (cs' := #[v0, v1, v2, v3, v4, v5, v6, v7, Value.int .u8 0, Value.int .u8 0, Value.int .u8 0, Value.int .u8 0, Value.int .u8 0, Value.int .u8 0, Value.int .u8 0, Value.int .u8 0]) h6 7 v7 rfl
 have h8 := blk_put (cs' := #[v0, v1, v2, v3, v4, v5, v6, v7, v8, Value.int .u8 0, Value.int .u8 0, Value.int .u8 0, Value.int .u8 0, Value.int .u8 0, Value.int .u8 0, Value.int .u8 0]) h7 8 v8 rfl
 have h9 := blk_put (cs' := #[v0, v1, v2, v3, v4, v5, v6, v7, v8, v9, Value.int .u8 0, Value.int .u8 0, Value.int .u8 0, Value.int .u8 0, Value.int .u8 0, Value.int .u8 0]) h8 9 v9 rfl
 have h10 := blk_put (cs' := #[v0, v1, v2, v3, v4, v5, v6, v7, v8, v9, v10, Value.int .u8 0, Value.int .u8 0, Value.int .u8 0, Value.int .u8 0, Value.int .u8 0]) h9 10 v10 rfl
 have h11 := blk_put (cs' := #[v0, v1, v2, v3, v4, v5, v6, v7, v8, v9, v10, v11, Value.int .u8 0, Value.int .u8 0, Value.int .u8 0, Value.int .u8 0]) h10 11 v11 rfl
 have h12 := blk_put (cs' := #[v0, v1, v2, v3, v4, v5, v6, v7, v8, v9, v10, v11, v12, Value.int .u8 0, Value.int .u8 0, Value.int .u8 0]) h11 12 v12 rfl
 have h13 := blk_put (cs' := #[v0, v1, v2, v3, v4, v5, v6, v7, v8, v9, v10, v11, v12, v13, Value.int .u8 0, Value.int .u8 0]) h12 13 v13 rfl
 have h14 := blk_put (cs' := #[v0, v1, v2, v3, v4, v5, v6, v7, v8, v9, v10, v11, v12, v13, v14, Value.int .u8 0]) h13 14 v14 rfl
 have h15 := blk_put (cs' := #[v0, v1, v2, v3, v4, v5, v6, v7, v8, v9, v10, v11, v12, v13, v14, v15]) h14 15 v15 rfl
 exact h15
theorem set16_other (W : World) (b k : Nat) (hk : k ≠ b) (v0 v1 v2 v3 v4 v5 v6 v7 v8 v9 v10 v11 v12 v13 v14 v15 : Value) : (set16 W b v0 v1 v2 v3 v4 v5 v6 v7 v8 v9 v10 v11 v12 v13 v14 v15).heap[k]? = W.heap[k]? := ((Below.heap_setCell _ ⟨b, 15, none⟩ _ k hk).trans ((Below.heap_setCell _ ⟨b, 14, none⟩ _ k hk).trans ((Below.heap_setCell _ ⟨b, 13, none⟩ _ k hk).trans ((Below.heap_setCell _ ⟨b, 12, none⟩ _ k hk).trans ((Below.heap_setCell _ ⟨b, 11, none⟩ _ k hk).trans ((Below.heap_setCell _ ⟨b, 10, none⟩ _ k hk).trans ((Below.heap_setCell _ ⟨b, 9, none⟩ _ k hk).trans ((Below.heap_setCell _ ⟨b, 8, none⟩ _ k hk).trans ((Below.heap_setCell _ ⟨b, 7, none⟩ _ k hk).trans ((Below.heap_setCell _ ⟨b, 6, none⟩ _ k hk).trans ((Below.heap_setCell _ ⟨b, 5, none⟩ _ k hk).trans ((Below.heap_setCell _ ⟨b, 4, none⟩ _ k hk).trans ((Below.heap_setCell _ ⟨b, 3, none⟩ _ k hk).trans ((Below.heap_setCell _ ⟨b, 2, none⟩ _ k hk).trans ((Below.heap_setCell _ ⟨b, 1, none⟩ _ k hk).trans ((Below.heap_setCell _ ⟨b, 0, none⟩ _ k hk).trans rfl))))))))))))))))
theorem set16_below {w W : World} {b B : Nat} (h : Below B w W) (hb : B ≤ b) (v0 v1 v2 v3 v4 v5 v6 v7 v8 v9 v10 v11 v12 v13 v14 v15 : Value) : Below B w (set16 W b v0 v1 v2 v3 v4 v5 v6 v7 v8 v9 v10 v11 v12 v13 v14 v15) := ((((((((((((((((h.setCell (p := ⟨b, 0, none⟩) hb _).setCell (p := ⟨b, 1, none⟩) hb _).setCell (p := ⟨b, 2, none⟩) hb _).setCell (p := ⟨b, 3, none⟩) hb _).setCell (p := ⟨b, 4, none⟩) hb _).setCell (p := ⟨b, 5, none⟩) hb _).setCell (p := ⟨b, 6, none⟩) hb _).setCell (p := ⟨b, 7, none⟩) hb _).setCell (p := ⟨b, 8, none⟩) hb _).setCell (p := ⟨b, 9, none⟩) hb _).setCell (p := ⟨b, 10, none⟩) hb _).setCell (p := ⟨b, 11, none⟩) hb _).setCell (p := ⟨b, 12, none⟩) hb _).setCell (p := ⟨b, 13, none⟩) hb _).setCell (p := ⟨b, 14, none⟩) hb _).setCell (p := ⟨b, 15, none⟩) hb _)
structure OutInv (w : World) (D : Nat) (z : St) (g : Nat) (i : Nat) (wr : World) : Prop where
 bel : Below w.heap.size w wr
 s : wr.heap[w.heap.size + 1]? = some (.cells z.cells 67 (0, 0))
 r : wr.heap[w.heap.size]? = some (.cells z16 24 (0, 0))
 o : wr.heap[g]? = some (.cells (outC z i) 24 (0, 0))
 d : wr.heap[D]? = some (.deferred (some []))
theorem OutInv.step {w : World} {D : Nat} {z : St} {g i : Nat} {wr : World} (h : OutInv w D z g i wr) (v : Value) (hv : (outC z i).setIfInBounds i v = outC z (i + 1)) (hg : w.heap.size + 2 ≤ g) (hD : D ≠ g) : OutInv w D z g (i + 1) (wr.setCell ⟨g, i, none⟩ v) := by
 have h0 : w.heap.size ≤ g := by omega
 have h1 : w.heap.size ≠ g := by omega
 have h2 : w.heap.size + 1 ≠ g := by omega
 refine ⟨h.bel.setCell (p := ⟨g, i, none⟩) h0 _, blk_far h.s h2 _, blk_far h.r h1 _, ?_, (Below.heap_setCell wr ⟨g, i, none⟩ v D hD).trans h.d⟩
 rw [← hv]
 exact blk_set h.o i _
set_option maxRecDepth 100000 in
set_option maxHeartbeats 4000000 in
theorem sum_calls (A : Option Addr) (c : Nat) (ps : List (List Int)) (r : List Int) (k : Nat) (w : World) (hC : (Kd.slice 5 (Kd.int .u8)).C w A ps.length ps) (hl : lens ps ≤ 1000000) (hn : ps.length ≤ 1000)
  (hr : PMdBase.md5_padded.f k ps.flatten = some r) (hr1 : isB r = true) (q : Nat) (hq : r.length = 64 * q) (hq0 : 0 < q) (hq1 : q ≤ 1000000) :
  Calls Tryd.prog 14 #[.slice A ps.length c] w fun e w' => e = .returned (.agg (sumSt r (List.range q)).out) ∧ Below w.heap.size w w' := by
 have HC := Aside0.mk hC
 have HR := Aside0.mk hr
 have HB := Aside0.mk hr1
 have HQ := Aside0.mk hq
 have HL := Aside0.mk hl
 have HN := Aside0.mk hn
 clear hC hr hr1 hq hl hn
 refine (callsIn_wide (n := 9)).1 ?_
 have h1 : 1 ≤ 9 := by omega
 refine callsIn_of_wp_marks Tryd.func14 rfl trivial ?_ rfl
 simp only [Tryd.ntmps14, List.size_toArray, List.length_cons, List.length_nil, Nat.reduceAdd, Nat.reduceSub, Array.replicate_succ, Array.replicate_zero, List.push_toArray, List.append_toArray, List.nil_append, List.cons_append]
 gi_wp2
 generalize hwS : (w.alloc (.cells #[.int .u8 0, .int .u8 0, .int .u8 0, .int .u8 0, .int .u8 0, .int .u8 0, .int .u8 0, .int .u8 0, .int .u8 0, .int .u8 0, .int .u8 0, .int .u8 0, .int .u8 0, .int .u8 0, .int .u8 0, .int .u8 0] 24)).alloc (.cells #[.int .u32 1732584193, .int .u32 4023233417, .int .u32 2562383102, .int .u32 271733878] 67) = wS
 have hbS : Below w.heap.size w wS := by rw [← hwS]; exact below2 _ _ _
 have hs1 : wS.heap.size = w.heap.size + 2 := by rw [← hwS]; simp
 have hs2 : wS.heap[w.heap.size]? = some (.cells #[.int .u8 0, .int .u8 0, .int .u8 0, .int .u8 0, .int .u8 0, .int .u8 0, .int .u8 0, .int .u8 0, .int .u8 0, .int .u8 0, .int .u8 0, .int .u8 0, .int .u8 0, .int .u8 0, .int .u8 0, .int .u8 0] 24 (0, 0)) := by rw [← hwS]; exact blk_alloc (blk_new _ _) _
 have hs3 : wS.heap[w.heap.size + 1]? = some (.cells #[.int .u32 1732584193, .int .u32 4023233417, .int .u32 2562383102, .int .u32 271733878] 67 (0, 0)) := by rw [← hwS]; exact blk_new2 _ _ _
 clear hwS
 have HbS := Aside0.mk hbS
 have Hs2 := Aside0.mk hs2
 have Hs3 := Aside0.mk hs3
 have Hs1 := Aside0.mk hs1
 clear hbS hs2 hs3 hs1
 refine ⟨trivial, ?_⟩
 refine (callsIn_wide.2 (concat_calls A c ps wS (Kd.C_below HC.out HbS.out) HL.out HN.out)).mono ?_
 rintro e w1 ⟨v1, rfl, hR1, hb1⟩
 have HR1 := Aside0.mk hR1
 have Hb1 := Aside0.mk hb1
 clear hR1 hb1
 gi_wp2
 refine ⟨trivial, ?_⟩
 refine (callsIn_wide.2 (PMdBase.md5_padded.calls k (fun _ => True) v1 ps.flatten r wS w1 Hb1.out HR1.out HR.out)).mono ?_
 rintro e w3 ⟨v3, rfl, hR3, hb3, _⟩
 have hR3' := Kd.R_bound hR3
 obtain ⟨A3, c3, rfl, hc3, hC3⟩ := Kd.R_reads hR3
 obtain ⟨ad, rfl⟩ : ∃ ad, A3 = some ad := by
  obtain ⟨ad, e, _⟩ := hC3.2.2 (by have := HQ.out; omega)
  exact ⟨ad, e⟩
 have HC3 := Aside0.mk hC3
 have HR3 := Aside0.mk hR3'
 have Hb3 := Aside0.mk hb3
 rw [HQ.out] at hc3 ⊢
 clear hR3 hR3' hC3 hb3
 gi_wp2
 refine ⟨trivial, ?_⟩
 refine (chunk_in Fence.wide 8 trivial rfl (some ad) (64 * q) c3 w3).mono ?_
 rintro e w5 ⟨rfl, hw5⟩
 have hb5 : Below w3.heap.size w3 w5 := by rw [hw5]; exact below2 _ _ _
 have hn1 : w5.cell? ⟨w3.heap.size, 0, none⟩ = some (.slice (some ad) (64 * q) c3) := by rw [hw5]; exact (blk_cell (blk_alloc (blk_new _ _) _) 0).trans rfl
 have hn2 : w5.cell? ⟨w3.heap.size + 1, 0, none⟩ = some (.int .i64 64) := by rw [hw5]; exact (blk_cell (blk_new2 _ _ _) 0).trans rfl
 have hs5 : w5.heap.size = w3.heap.size + 2 := by rw [hw5]; simp
 have hs3 : w.heap.size + 2 ≤ w3.heap.size := by have := Hb3.out.size; have := Hs1.out; omega
 have hkp : Kept w3 w5 (fun k => k = w.heap.size + 1) := Kept.of_below hb5 _
 have hbw : Below w.heap.size w w5 := below_then HbS.out HbS.out.size ((Hb3.out).trans (hb5.mono Hb3.out.size))
 have hr5 : ∀ i, i < wS.heap.size → w5.heap[i]? = wS.heap[i]? := fun i hi => (hb5.block i (by have := Hb3.out.size; omega)).trans (Hb3.out.block i hi)
 have hI0 : SumInv w w3 r [] w5 := ⟨hkp, hbw, (hr5 _ (by have := Hs1.out; omega)).trans Hs3.out, (hr5 _ (by have := Hs1.out; omega)).trans Hs2.out⟩
 clear hw5 hkp hbw hr5 hb5
 gi_wp2
 have hq64 : r.length / 64 = q := by have := HQ.out; omega
 refine wpIn_rangeFunc_ownF (F := Fence.wide) rfl h1 (gf := 52) (lb := #[.pointer (some ⟨w3.heap.size, 0, none⟩), .pointer (some ⟨w3.heap.size + 1, 0, none⟩)]) rfl trivial (enters_of Tryd.func52 (by kernel_rfl) rfl)
  (chunk_stops Fence.wide 8 trivial rfl (by omega) w3.heap.size (w3.heap.size + 1) q c3 ad hq0 hc3 hq1 (fun k => k = w.heap.size + 1 ∨ w5.heap.size ≤ k) (by omega) (by omega) w5 hn1 hn2)
  (fun {_ _ _} h k => h.then_ k (fun _ h2 => .inl h2))
  (fun X l o o' hl _ _ _ => Kept.of_grown (grownBy_putObj' X l o') (Kept.refl _ _) (fun k e => .inl (.inr (by cases e; exact hl))))
  (Below.refl _ _) (fun _ => rfl)
  (fun pre X => SumInv w w3 r pre X) (fun _ _ _ => False) (SumInv.own _ (by omega) (by omega)) (fun _ _ _ _ _ hs _ _ => hs) hI0
  (fun x => { tmps := #[.slice A ps.length c, undef, .pointer (some ⟨w.heap.size, 0, none⟩), .pointer (some ⟨w.heap.size + 1, 0, none⟩), .slice (some (ad.add (64 * (x % q)))) 64 64, undef, undef, .agg #[.int .u32 1732584193, .int .u32 4023233417, .int .u32 2562383102, .int .u32 271733878], .slice A ps.length c, v1, .slice (some ad) (64 * q) c3, .func (.func 52) #[] #[.pointer (some ⟨w3.heap.size, 0, none⟩), .pointer (some ⟨w3.heap.size + 1, 0, none⟩)], .slice (some (ad.add (64 * (x % q)))) 64 64, undef, undef, undef, undef, undef, undef, undef, undef, undef, undef, undef, undef, undef, undef, undef, undef, undef, undef, undef], defers := [] }) ?assign ?body ?done ?stop
 case assign =>
  intro l x W K hK
  gi_wp2
  exact hK
 case body =>
  clear hI0 hn1 hn2
  rintro l pre x W hI _
  have hj : x % q < q := Nat.mod_lt _ hq0
  obtain ⟨j, hjx⟩ : ∃ j, x % q = j := ⟨_, rfl⟩
  rw [hjx] at hj ⊢
  have hsn := sumSt_snoc r pre x
  rw [hq64, hjx] at hsn
  have hCr := Kd.C_kept_own HR3.out (fun k hk e => by have h2 := hk.2.1; have h3 := Hs1.out; omega) W hI.kept
  have hCW := blk_C hCr q HQ.out j hj
  have hthr : Calls Tryd.prog 38 #[.agg (sumSt r pre).cells, .slice (some (ad.add (64 * j))) 64 64] W fun e w' => e = .returned (.agg (throughF (blkF r j) (sumSt r pre)).cells) ∧ Below W.heap.size W w' := by
   have e := blk_len r q HQ.out j hj
   have := through_calls (sumSt r pre) (some (ad.add (64 * j))) 64 (blkF r j) W (sumSt_ok _ _) (by rw [e]; exact hCW) (by omega) (isB_take (isB_drop HB.out _) _) e
   rwa [e] at this
  rw [← hsn] at hthr
  have HTH := Aside0.mk hthr
  have HI := Aside0.mk hI
  have HS := Aside0.mk hI.s
  clear hthr hCr hCW hsn hjx hI
  generalize hY : sumSt r (pre ++ [x]) = Y at *
  have HY := Aside0.mk hY
  clear hY
  obtain ⟨ya, yb, yc, yd⟩ := Y
  gi_wp2_with (refine wpListIn_load_row rfl 67 (.tmp 3) rfl (w.heap.size + 1) rfl 67 _ (0, 0) _ HS.out Tryd.underlying67 rfl (by kernel_rfl) ?_)
  refine ⟨trivial, ?_⟩
  refine (CallsIn.inRound l (callsIn_wide.2 HTH.out)).mono ?_
  rintro e W1 ⟨rfl, hb⟩
  have hS1 := blk_below HS.out hb
  have HS1 := Aside0.mk hS1
  have HB1 := Aside0.mk hb
  generalize sumSt r pre = Z at *
  obtain ⟨za, zb, zc, zd⟩ := Z
  have hz0 : W1.cell? ⟨w.heap.size + 1, 0, none⟩ = some (.int .u32 za) := (blk_cell hS1 0).trans rfl
  have hz1 : W1.cell? ⟨w.heap.size + 1, 1, none⟩ = some (.int .u32 zb) := (blk_cell hS1 1).trans rfl
  have hz2 : W1.cell? ⟨w.heap.size + 1, 2, none⟩ = some (.int .u32 zc) := (blk_cell hS1 2).trans rfl
  have hz3 : W1.cell? ⟨w.heap.size + 1, 3, none⟩ = some (.int .u32 zd) := (blk_cell hS1 3).trans rfl
  have hf0 := blk_frozen hS1 0
  have hf1 := blk_frozen hS1 1
  have hf2 := blk_frozen hS1 2
  have hf3 := blk_frozen hS1 3
  rw [show (St.mk ya yb yc yd).cells = #[.int .u32 ya, .int .u32 yb, .int .u32 yc, .int .u32 yd] from rfl]
  clear hb hS1
  gi_wp2
  have hI := HI.out
  have hb := HB1.out
  have hle : w.heap.size ≤ w.heap.size + 1 := by omega
  have hltW : w.heap.size + 1 < W.heap.size := (Array.getElem?_eq_some_iff.1 HS.out).1
  refine ⟨?_, ?_, ?_⟩
  ·refine KeepsOthers.trans (B := W1) ⟨hb.size, fun k o hk _ => (hb.block k (Array.getElem?_eq_some_iff.1 hk).1).trans hk⟩ ?_
   exact (((KeepsOthers.setCell _ _ _).trans (KeepsOthers.setCell _ _ _)).trans (KeepsOthers.setCell _ _ _)).trans (KeepsOthers.setCell _ _ _)
  ·exact ((((Kept.of_below hb _).setCell (p := ⟨w.heap.size + 1, 0, none⟩) (.inl (.inl rfl)) _).setCell (p := ⟨w.heap.size + 1, 1, none⟩) (.inl (.inl rfl)) _).setCell (p := ⟨w.heap.size + 1, 2, none⟩) (.inl (.inl rfl)) _).setCell (p := ⟨w.heap.size + 1, 3, none⟩) (.inl (.inl rfl)) _
  ·refine ⟨?_, ?_, ?_, ?_⟩
   ·exact ((((hI.kept.below hb).setCell (p := ⟨w.heap.size + 1, 0, none⟩) (.inl rfl) _).setCell (p := ⟨w.heap.size + 1, 1, none⟩) (.inl rfl) _).setCell (p := ⟨w.heap.size + 1, 2, none⟩) (.inl rfl) _).setCell (p := ⟨w.heap.size + 1, 3, none⟩) (.inl rfl) _
   ·exact ((((below_then hI.bel hI.bel.size hb).setCell (p := ⟨w.heap.size + 1, 0, none⟩) hle _).setCell (p := ⟨w.heap.size + 1, 1, none⟩) hle _).setCell (p := ⟨w.heap.size + 1, 2, none⟩) hle _).setCell (p := ⟨w.heap.size + 1, 3, none⟩) hle _
   ·rw [HY.out]
    exact blk_set (blk_set (blk_set (blk_set HS1.out 0 _) 1 _) 2 _) 3 _
   ·have hne : w.heap.size ≠ w.heap.size + 1 := by omega
    exact blk_far (blk_far (blk_far (blk_far (blk_below hI.o hb) hne _) hne _) hne _) hne _
 case done =>
  rintro D ys W hD rfl hI hK
  have HI := Aside0.mk hI
  have HK := Aside0.mk hK
  have hok := sumSt_ok r (List.range q)
  have hDl := (Array.getElem?_eq_some_iff.1 hK).1
  obtain ⟨g, hg⟩ : ∃ g, W.heap.size = g := ⟨_, rfl⟩
  have HG := Aside0.mk (show w.heap.size + 2 ≤ g ∧ D ≠ g ∧ w.heap.size + 2 ≤ D from ⟨by omega, by omega, by omega⟩)
  have HG := Aside0.mk (And.intro HG.out.1 HG.out.2.1)
  have HG2 := Aside0.mk (show w.heap.size + 2 ≤ D from by omega)
  generalize hS0 : sumSt r (List.range q) = S0 at *
  have HS0 := Aside0.mk hS0
  have HINV := Aside0.mk (show OutInv w D S0 g 0 (W.alloc (.cells #[.int .u8 0, .int .u8 0, .int .u8 0, .int .u8 0, .int .u8 0, .int .u8 0, .int .u8 0, .int .u8 0, .int .u8 0, .int .u8 0, .int .u8 0, .int .u8 0, .int .u8 0, .int .u8 0, .int .u8 0, .int .u8 0] 24)) from by
   rw [← hg]
   exact ⟨below_alloc hI.bel _, blk_alloc (by rw [hI.s, hS0]) _, blk_alloc hI.o _, blk_new _ _, blk_alloc hK _⟩)
  clear hI hK hI0 hn1 hn2 hS0 HI HK hDl
  gi_wp2
  clear hg
  gi_loopw [16] (fun v wr => ∃ i : Nat, i ≤ 16 ∧ v = .int .i64 i ∧ Aside0 (OutInv w D S0 g i wr)) (fun v _ => 16 - (intOf v).toNat)
  case atStart => exact ⟨0, by omega, rfl, HINV⟩
  case round =>
   clear HINV
   obtain ⟨i, hi, rfl, HI⟩ := hrel
   have hi : i = 0 ∨ i = 1 ∨ i = 2 ∨ i = 3 ∨ i = 4 ∨ i = 5 ∨ i = 6 ∨ i = 7 ∨ i = 8 ∨ i = 9 ∨ i = 10 ∨ i = 11 ∨ i = 12 ∨ i = 13 ∨ i = 14 ∨ i = 15 ∨ i = 16 := by omega
   obtain ⟨sa, sb, sc, sd⟩ := S0
   obtain ⟨⟨ha0, ha1⟩, ⟨hb0, hb1⟩, ⟨hc0, hc1⟩, ⟨hd0, hd1⟩⟩ := hok
   dsimp only at ha0 ha1 hb0 hb1 hc0 hc1 hd0 hd1
   rcases hi with rfl | rfl | rfl | rfl | rfl | rfl | rfl | rfl | rfl | rfl | rfl | rfl | rfl | rfl | rfl | rfl | rfl
   ·have hz : wr.cell? ⟨w.heap.size + 1, 0, none⟩ = some (.int .u32 sa) := (blk_cell HI.out.s 0).trans rfl
    have hy : wr.cell? ⟨g, 0, none⟩ = some (.int .u8 0) := (blk_cell HI.out.o 0).trans rfl
    have hf := blk_frozen HI.out.o 0
    have HN := Aside0.mk (HI.out.step (.int .u8 (sa % 256)) rfl HG.out.1 HG.out.2)
    clear HI
    gi_wp2
    exact ⟨⟨1, by omega, rfl, HN⟩, by simp [intOf]⟩
   ·have hz : wr.cell? ⟨w.heap.size + 1, 0, none⟩ = some (.int .u32 sa) := (blk_cell HI.out.s 0).trans rfl
    have hy : wr.cell? ⟨g, 1, none⟩ = some (.int .u8 0) := (blk_cell HI.out.o 1).trans rfl
    have hf := blk_frozen HI.out.o 1
    have HN := Aside0.mk (HI.out.step (.int .u8 (sa / 256 % 256)) rfl HG.out.1 HG.out.2)
    clear HI
    gi_wp2
    exact ⟨⟨2, by omega, rfl, HN⟩, by simp [intOf]⟩
   ·have hz : wr.cell? ⟨w.heap.size + 1, 0, none⟩ = some (.int .u32 sa) := (blk_cell HI.out.s 0).trans rfl
    have hy : wr.cell? ⟨g, 2, none⟩ = some (.int .u8 0) := (blk_cell HI.out.o 2).trans rfl
    have hf := blk_frozen HI.out.o 2
    have HN := Aside0.mk (HI.out.step (.int .u8 (sa / 65536 % 256)) rfl HG.out.1 HG.out.2)
    clear HI
    gi_wp2
    exact ⟨⟨3, by omega, rfl, HN⟩, by simp [intOf]⟩
   ·have hz : wr.cell? ⟨w.heap.size + 1, 0, none⟩ = some (.int .u32 sa) := (blk_cell HI.out.s 0).trans rfl
    have hy : wr.cell? ⟨g, 3, none⟩ = some (.int .u8 0) := (blk_cell HI.out.o 3).trans rfl
    have hf := blk_frozen HI.out.o 3
    have HN := Aside0.mk (HI.out.step (.int .u8 (sa / 16777216)) rfl HG.out.1 HG.out.2)
    clear HI
    gi_wp2
    exact ⟨⟨4, by omega, rfl, HN⟩, by simp [intOf]⟩
   ·have hz : wr.cell? ⟨w.heap.size + 1, 1, none⟩ = some (.int .u32 sb) := (blk_cell HI.out.s 1).trans rfl
    have hy : wr.cell? ⟨g, 4, none⟩ = some (.int .u8 0) := (blk_cell HI.out.o 4).trans rfl
    have hf := blk_frozen HI.out.o 4
    have HN := Aside0.mk (HI.out.step (.int .u8 (sb % 256)) rfl HG.out.1 HG.out.2)
    clear HI
    gi_wp2
    exact ⟨⟨5, by omega, rfl, HN⟩, by simp [intOf]⟩
   ·have hz : wr.cell? ⟨w.heap.size + 1, 1, none⟩ = some (.int .u32 sb) := (blk_cell HI.out.s 1).trans rfl
    have hy : wr.cell? ⟨g, 5, none⟩ = some (.int .u8 0) := (blk_cell HI.out.o 5).trans rfl
    have hf := blk_frozen HI.out.o 5
    have HN := Aside0.mk (HI.out.step (.int .u8 (sb / 256 % 256)) rfl HG.out.1 HG.out.2)
    clear HI
    gi_wp2
    exact ⟨⟨6, by omega, rfl, HN⟩, by simp [intOf]⟩
   ·have hz : wr.cell? ⟨w.heap.size + 1, 1, none⟩ = some (.int .u32 sb) := (blk_cell HI.out.s 1).trans rfl
    have hy : wr.cell? ⟨g, 6, none⟩ = some (.int .u8 0) := (blk_cell HI.out.o 6).trans rfl
    have hf := blk_frozen HI.out.o 6
    have HN := Aside0.mk (HI.out.step (.int .u8 (sb / 65536 % 256)) rfl HG.out.1 HG.out.2)
    clear HI
    gi_wp2
    exact ⟨⟨7, by omega, rfl, HN⟩, by simp [intOf]⟩
   ·have hz : wr.cell? ⟨w.heap.size + 1, 1, none⟩ = some (.int .u32 sb) := (blk_cell HI.out.s 1).trans rfl
    have hy : wr.cell? ⟨g, 7, none⟩ = some (.int .u8 0) := (blk_cell HI.out.o 7).trans rfl
    have hf := blk_frozen HI.out.o 7
    have HN := Aside0.mk (HI.out.step (.int .u8 (sb / 16777216)) rfl HG.out.1 HG.out.2)
    clear HI
    gi_wp2
    exact ⟨⟨8, by omega, rfl, HN⟩, by simp [intOf]⟩
   ·have hz : wr.cell? ⟨w.heap.size + 1, 2, none⟩ = some (.int .u32 sc) := (blk_cell HI.out.s 2).trans rfl
    have hy : wr.cell? ⟨g, 8, none⟩ = some (.int .u8 0) := (blk_cell HI.out.o 8).trans rfl
    have hf := blk_frozen HI.out.o 8
    have HN := Aside0.mk (HI.out.step (.int .u8 (sc % 256)) rfl HG.out.1 HG.out.2)
    clear HI
    gi_wp2
    exact ⟨⟨9, by omega, rfl, HN⟩, by simp [intOf]⟩
   ·have hz : wr.cell? ⟨w.heap.size + 1, 2, none⟩ = some (.int .u32 sc) := (blk_cell HI.out.s 2).trans rfl
    have hy : wr.cell? ⟨g, 9, none⟩ = some (.int .u8 0) := (blk_cell HI.out.o 9).trans rfl
    have hf := blk_frozen HI.out.o 9
    have HN := Aside0.mk (HI.out.step (.int .u8 (sc / 256 % 256)) rfl HG.out.1 HG.out.2)
    clear HI
    gi_wp2
    exact ⟨⟨10, by omega, rfl, HN⟩, by simp [intOf]⟩
   ·have hz : wr.cell? ⟨w.heap.size + 1, 2, none⟩ = some (.int .u32 sc) := (blk_cell HI.out.s 2).trans rfl
    have hy : wr.cell? ⟨g, 10, none⟩ = some (.int .u8 0) := (blk_cell HI.out.o 10).trans rfl
    have hf := blk_frozen HI.out.o 10
    have HN := Aside0.mk (HI.out.step (.int .u8 (sc / 65536 % 256)) rfl HG.out.1 HG.out.2)
    clear HI
    gi_wp2
    exact ⟨⟨11, by omega, rfl, HN⟩, by simp [intOf]⟩
   ·have hz : wr.cell? ⟨w.heap.size + 1, 2, none⟩ = some (.int .u32 sc) := (blk_cell HI.out.s 2).trans rfl
    have hy : wr.cell? ⟨g, 11, none⟩ = some (.int .u8 0) := (blk_cell HI.out.o 11).trans rfl
    have hf := blk_frozen HI.out.o 11
    have HN := Aside0.mk (HI.out.step (.int .u8 (sc / 16777216)) rfl HG.out.1 HG.out.2)
    clear HI
    gi_wp2
    exact ⟨⟨12, by omega, rfl, HN⟩, by simp [intOf]⟩
   ·have hz : wr.cell? ⟨w.heap.size + 1, 3, none⟩ = some (.int .u32 sd) := (blk_cell HI.out.s 3).trans rfl
    have hy : wr.cell? ⟨g, 12, none⟩ = some (.int .u8 0) := (blk_cell HI.out.o 12).trans rfl
    have hf := blk_frozen HI.out.o 12
    have HN := Aside0.mk (HI.out.step (.int .u8 (sd % 256)) rfl HG.out.1 HG.out.2)
    clear HI
    gi_wp2
    exact ⟨⟨13, by omega, rfl, HN⟩, by simp [intOf]⟩
   ·have hz : wr.cell? ⟨w.heap.size + 1, 3, none⟩ = some (.int .u32 sd) := (blk_cell HI.out.s 3).trans rfl
    have hy : wr.cell? ⟨g, 13, none⟩ = some (.int .u8 0) := (blk_cell HI.out.o 13).trans rfl
    have hf := blk_frozen HI.out.o 13
    have HN := Aside0.mk (HI.out.step (.int .u8 (sd / 256 % 256)) rfl HG.out.1 HG.out.2)
    clear HI
    gi_wp2
    exact ⟨⟨14, by omega, rfl, HN⟩, by simp [intOf]⟩
   ·have hz : wr.cell? ⟨w.heap.size + 1, 3, none⟩ = some (.int .u32 sd) := (blk_cell HI.out.s 3).trans rfl
    have hy : wr.cell? ⟨g, 14, none⟩ = some (.int .u8 0) := (blk_cell HI.out.o 14).trans rfl
    have hf := blk_frozen HI.out.o 14
    have HN := Aside0.mk (HI.out.step (.int .u8 (sd / 65536 % 256)) rfl HG.out.1 HG.out.2)
    clear HI
    gi_wp2
    exact ⟨⟨15, by omega, rfl, HN⟩, by simp [intOf]⟩
   ·have hz : wr.cell? ⟨w.heap.size + 1, 3, none⟩ = some (.int .u32 sd) := (blk_cell HI.out.s 3).trans rfl
    have hy : wr.cell? ⟨g, 15, none⟩ = some (.int .u8 0) := (blk_cell HI.out.o 15).trans rfl
    have hf := blk_frozen HI.out.o 15
    have HN := Aside0.mk (HI.out.step (.int .u8 (sd / 16777216)) rfl HG.out.1 HG.out.2)
    clear HI
    gi_wp2
    exact ⟨⟨16, by omega, rfl, HN⟩, by simp [intOf]⟩
   ·have HS := Aside0.mk (show wr.heap[g]? = some (.cells #[.int .u8 (sa % 256), .int .u8 (sa / 256 % 256), .int .u8 (sa / 65536 % 256), .int .u8 (sa / 16777216), .int .u8 (sb % 256), .int .u8 (sb / 256 % 256), .int .u8 (sb / 65536 % 256), .int .u8 (sb / 16777216), .int .u8 (sc % 256), .int .u8 (sc / 256 % 256), .int .u8 (sc / 65536 % 256), .int .u8 (sc / 16777216), .int .u8 (sd % 256), .int .u8 (sd / 256 % 256), .int .u8 (sd / 65536 % 256), .int .u8 (sd / 16777216)] 24 (0, 0)) from HI.out.o)
    have y0 : wr.cell? ⟨w.heap.size, 0, none⟩ = some (.int .u8 0) := (blk_cell HI.out.r 0).trans rfl
    have f0 := blk_frozen HI.out.r 0
    have y1 : wr.cell? ⟨w.heap.size, 1, none⟩ = some (.int .u8 0) := (blk_cell HI.out.r 1).trans rfl
    have f1 := blk_frozen HI.out.r 1
    have y2 : wr.cell? ⟨w.heap.size, 2, none⟩ = some (.int .u8 0) := (blk_cell HI.out.r 2).trans rfl
    have f2 := blk_frozen HI.out.r 2
    have y3 : wr.cell? ⟨w.heap.size, 3, none⟩ = some (.int .u8 0) := (blk_cell HI.out.r 3).trans rfl
    have f3 := blk_frozen HI.out.r 3
    have y4 : wr.cell? ⟨w.heap.size, 4, none⟩ = some (.int .u8 0) := (blk_cell HI.out.r 4).trans rfl
    have f4 := blk_frozen HI.out.r 4
    have y5 : wr.cell? ⟨w.heap.size, 5, none⟩ = some (.int .u8 0) := (blk_cell HI.out.r 5).trans rfl
    have f5 := blk_frozen HI.out.r 5
    have y6 : wr.cell? ⟨w.heap.size, 6, none⟩ = some (.int .u8 0) := (blk_cell HI.out.r 6).trans rfl
    have f6 := blk_frozen HI.out.r 6
    have y7 : wr.cell? ⟨w.heap.size, 7, none⟩ = some (.int .u8 0) := (blk_cell HI.out.r 7).trans rfl
    have f7 := blk_frozen HI.out.r 7
    have y8 : wr.cell? ⟨w.heap.size, 8, none⟩ = some (.int .u8 0) := (blk_cell HI.out.r 8).trans rfl
    have f8 := blk_frozen HI.out.r 8
    have y9 : wr.cell? ⟨w.heap.size, 9, none⟩ = some (.int .u8 0) := (blk_cell HI.out.r 9).trans rfl
    have f9 := blk_frozen HI.out.r 9
    have y10 : wr.cell? ⟨w.heap.size, 10, none⟩ = some (.int .u8 0) := (blk_cell HI.out.r 10).trans rfl
    have f10 := blk_frozen HI.out.r 10
    have y11 : wr.cell? ⟨w.heap.size, 11, none⟩ = some (.int .u8 0) := (blk_cell HI.out.r 11).trans rfl
    have f11 := blk_frozen HI.out.r 11
    have y12 : wr.cell? ⟨w.heap.size, 12, none⟩ = some (.int .u8 0) := (blk_cell HI.out.r 12).trans rfl
    have f12 := blk_frozen HI.out.r 12
    have y13 : wr.cell? ⟨w.heap.size, 13, none⟩ = some (.int .u8 0) := (blk_cell HI.out.r 13).trans rfl
    have f13 := blk_frozen HI.out.r 13
    have y14 : wr.cell? ⟨w.heap.size, 14, none⟩ = some (.int .u8 0) := (blk_cell HI.out.r 14).trans rfl
    have f14 := blk_frozen HI.out.r 14
    have y15 : wr.cell? ⟨w.heap.size, 15, none⟩ = some (.int .u8 0) := (blk_cell HI.out.r 15).trans rfl
    have f15 := blk_frozen HI.out.r 15
    gi_wp2_with (refine wpListIn_load_row rfl 24 (.tmp 5) rfl g rfl 24 _ (0, 0) _ HS.out Tryd.underlying24 rfl (by kernel_rfl) ?_)
    have HDD := Aside0.mk ((set16_other wr w.heap.size D (by have := HG2.out; omega) (.int .u8 (sa % 256)) (.int .u8 (sa / 256 % 256)) (.int .u8 (sa / 65536 % 256)) (.int .u8 (sa / 16777216)) (.int .u8 (sb % 256)) (.int .u8 (sb / 256 % 256)) (.int .u8 (sb / 65536 % 256)) (.int .u8 (sb / 16777216)) (.int .u8 (sc % 256)) (.int .u8 (sc / 256 % 256)) (.int .u8 (sc / 65536 % 256)) (.int .u8 (sc / 16777216)) (.int .u8 (sd % 256)) (.int .u8 (sd / 256 % 256)) (.int .u8 (sd / 65536 % 256)) (.int .u8 (sd / 16777216))).trans HI.out.d)
    have HRR := Aside0.mk (set16_row HI.out.r (.int .u8 (sa % 256)) (.int .u8 (sa / 256 % 256)) (.int .u8 (sa / 65536 % 256)) (.int .u8 (sa / 16777216)) (.int .u8 (sb % 256)) (.int .u8 (sb / 256 % 256)) (.int .u8 (sb / 65536 % 256)) (.int .u8 (sb / 16777216)) (.int .u8 (sc % 256)) (.int .u8 (sc / 256 % 256)) (.int .u8 (sc / 65536 % 256)) (.int .u8 (sc / 16777216)) (.int .u8 (sd % 256)) (.int .u8 (sd / 256 % 256)) (.int .u8 (sd / 65536 % 256)) (.int .u8 (sd / 16777216)))
    have HBB := Aside0.mk (set16_below HI.out.bel (Nat.le_refl _) (.int .u8 (sa % 256)) (.int .u8 (sa / 256 % 256)) (.int .u8 (sa / 65536 % 256)) (.int .u8 (sa / 16777216)) (.int .u8 (sb % 256)) (.int .u8 (sb / 256 % 256)) (.int .u8 (sb / 65536 % 256)) (.int .u8 (sb / 16777216)) (.int .u8 (sc % 256)) (.int .u8 (sc / 256 % 256)) (.int .u8 (sc / 65536 % 256)) (.int .u8 (sc / 16777216)) (.int .u8 (sd % 256)) (.int .u8 (sd / 256 % 256)) (.int .u8 (sd / 65536 % 256)) (.int .u8 (sd / 16777216)))
    refine ⟨by simp, .inl ⟨_, _, rfl, run_takeDeferred HDD.out, ?_⟩⟩
    refine ⟨_, results_cell_row Tryd.results14 _ _ w.heap.size 24 #[.int .u8 (sa % 256), .int .u8 (sa / 256 % 256), .int .u8 (sa / 65536 % 256), .int .u8 (sa / 16777216), .int .u8 (sb % 256), .int .u8 (sb / 256 % 256), .int .u8 (sb / 65536 % 256), .int .u8 (sb / 16777216), .int .u8 (sc % 256), .int .u8 (sc / 256 % 256), .int .u8 (sc / 65536 % 256), .int .u8 (sc / 16777216), .int .u8 (sd % 256), .int .u8 (sd / 256 % 256), .int .u8 (sd / 65536 % 256), .int .u8 (sd / 16777216)] (0, 0) _ rfl ((World.putObj_heap_other (by have := HG2.out; omega)).trans HRR.out) Tryd.underlying24 rfl (by kernel_rfl), ?_, ?_⟩
    ·rw [HS0.out]; rfl
    ·exact HBB.out.trans (belowK_b (w := w) (Nat.le_refl _) _ D _ _ (by have := HG2.out; omega) HDD.out rfl rfl)
 case stop =>
  rintro D c pre W _ _ h _
  exact h.elim
end Go.Proofs.YtgadhmoifhoilaaDoor.Md5
