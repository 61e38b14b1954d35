/-
  chap.Answer, umpireref17.Answer by hand: one digest.
-/
import Derived.Test.YtgadhmoifhoilaaDoorRefSum
namespace Go.Proofs.YtgadhmoifhoilaaDoor.Chap
open Go.RowKit Go.Lib Go.Proofs.YtgadhmoifhoilaaDoorW.PrintWords Go.Proofs.YtgadhmoifhoilaaDoorW.PrintLast Go.Proofs.YtgadhmoifhoilaaDoorW.PrintMore Go.Proofs.YtgadhmoifhoilaaDoor.Kit Go.Proofs.YtgadhmoifhoilaaDoor.Md5
set_option linter.unusedVariables false
set_option linter.unusedSimpArgs false

theorem i64_and255 (n : Int) : bits .and .i64 n 255 = n % 256 := by
  have h127 : (BitVec.ofInt 64 255).toNat = 2 ^ 8 - 1 := by decide
  have key : (BitVec.ofInt 64 n &&& BitVec.ofInt 64 255).toNat = (n % ((2 ^ 64 : Nat) : Int)).toNat % 2 ^ 8 := by
    rw [BitVec.toNat_and, BitVec.toNat_ofInt, h127, Nat.and_two_pow_sub_one_eq_mod]
  show IntKind.i64.wrap ((BitVec.ofInt 64 n &&& BitVec.ofInt 64 255).toNat : Nat) = n % 256
  rw [key, IntKind.wrap_i64]
  omega
theorem bytes_event {P : Program} {ops : Array Oper} {rest : List Oper} {o : Oper} {a : Act} {W : World} {Q : Exit → Act → World → Prop} (hgd : o.guard = none) (src dst e : TypeId) (x : Operand) (ho : o.op = .convert src dst x) {s : ByteArray} (hx : a.eval x = .string s) (hs : P.underlying src = some .string) (hd : P.underlying dst = some (.slice e)) (he : P.underlying e = some (.int .u8)) (hz : s.size ≤ 9223372036854775807)
    (h : ∀ A c w1, s.size ≤ c → (Kd.int .u8).C w1 A s.size (bytesOf s) → Below W.heap.size W w1 → wpList P ops Q rest (a.put o.dst (.slice A s.size c)) w1) : wpList P ops Q (o :: rest) a W :=
  wpList_plain hgd fun K hK => by
    unfold Oper.wp execOp
    simp [ho, hx, print_bytes src dst e hs hd he s W, Result.andThen]
    exact hK _ _ (h _ _ _ (grownCap_ge _ _ _ _) (Kd.C_of_reads (enc := Value.int .u8) (d := (0 : Int)) (h1 := fun _ => rfl) (bytes_reads W e s hz)) (bytes_below (Below.refl _ _) (Nat.le_refl _) e s))
theorem out_cells (s : St) : ∃ o0 o1 o2 o3 o4 o5 o6 o7 o8 o9 o10 o11 o12 o13 o14 o15 : Int, s.out = #[.int .u8 o0, .int .u8 o1, .int .u8 o2, .int .u8 o3, .int .u8 o4, .int .u8 o5, .int .u8 o6, .int .u8 o7, .int .u8 o8, .int .u8 o9, .int .u8 o10, .int .u8 o11, .int .u8 o12, .int .u8 o13, .int .u8 o14, .int .u8 o15] := ⟨_, _, _, _, _, _, _, _, _, _, _, _, _, _, _, _, rfl⟩
theorem sum3 {W : World} {g : Nat} {A1 A2 A3 : Option Addr} {c1 c2 c3 : Nat} {l1 l2 l3 : List Int} {t : TypeId} (hb : W.heap[g]? = some (.cells #[.slice A1 l1.length c1, .slice A2 l2.length c2, .slice A3 l3.length c3] t (0, 0)))
    (h1 : (Kd.int .u8).C W A1 l1.length l1) (hc1 : l1.length ≤ c1) (h2 : (Kd.int .u8).C W A2 l2.length l2) (hc2 : l2.length ≤ c2) (h3 : (Kd.int .u8).C W A3 l3.length l3) (hc3 : l3.length ≤ c3) (hn : (l1 ++ (l2 ++ l3)).length ≤ 1000000) (hB : isB (l1 ++ (l2 ++ l3)) = true) :
    Calls Tryd.prog 14 #[.slice (some ⟨g, 0, none⟩) 3 3] W fun e w' => e = .returned (.agg (sumOf (l1 ++ (l2 ++ l3))).out) ∧ Below W.heap.size W w' := by
  have hf : [l1, l2, l3].flatten = l1 ++ (l2 ++ l3) := by simp
  have h := sum_c (some ⟨g, 0, none⟩) 3 [l1, l2, l3] W (rows_C hb (by simp) (fun j hj => by
    have hj0 : j = 0 ∨ j = 1 ∨ j = 2 := by simp at hj; omega
    rcases hj0 with rfl | rfl | rfl
    · exact ⟨A1, c1, rfl, hc1, h1⟩
    · exact ⟨A2, c2, rfl, hc2, h2⟩
    · exact ⟨A3, c3, rfl, hc3, h3⟩)) (by rw [← lens_flat, hf]; exact hn) (by simp) (by rw [hf]; exact hB)
  rw [hf] at h
  exact h
theorem isB_bytesOf (s : ByteArray) : isB (bytesOf s) = true := by
  unfold isB bytesOf
  rw [List.all_eq_true]
  intro x hx
  obtain ⟨b, _, rfl⟩ := List.mem_map.1 hx
  have := b.toNat_lt
  simp
  omega
/-- What is digested. -/
def ansL (id : Int) (s : ByteArray) (l : List Int) : List Int := [id % 256] ++ (bytesOf s ++ l)
def ansOf (id : Int) (s : ByteArray) (l : List Int) : St := sumOf (ansL id s l)
theorem ansL_isB (id : Int) (s : ByteArray) (l : List Int) (h : isB l = true) : isB (ansL id s l) = true := isB_append (by unfold isB; simp; omega) (isB_append (isB_bytesOf s) h)
theorem ansL_len (id : Int) (s : ByteArray) (l : List Int) : (ansL id s l).length = 1 + (s.size + l.length) := by unfold ansL; rw [List.length_append, List.length_append, bytesOf_length]; rfl
set_option maxRecDepth 100000 in
set_option maxHeartbeats 4000000 in
theorem answer_calls (id : Int) (s : ByteArray) (A : Option Addr) (c : Nat) (l : List Int) (w : World) (hC : (Kd.int .u8).C w A l.length l) (hc : l.length ≤ c) (hB : isB l = true) (hs : s.size ≤ 100000) (hl : l.length ≤ 100000) :
    Calls Tryd.prog 22 #[.int .i64 id, .string s, .slice A l.length c] w fun e w' => e = .returned (.agg (ansOf id s l).out) ∧ Below w.heap.size w w' := by
  have HC := Aside0.mk hC
  obtain ⟨o0, o1, o2, o3, o4, o5, o6, o7, o8, o9, o10, o11, o12, o13, o14, o15, hO⟩ := out_cells (ansOf id s l)
  have HO := Aside0.mk hO
  obtain ⟨L, hL⟩ : ∃ L, l.length = L := ⟨_, rfl⟩
  have HS := Aside0.mk (show ∀ (W : World) (g1 gp : Nat) (AS : Option Addr) (cS : Nat), Below w.heap.size w W → W.heap[g1]? = some (.cells #[.int .u8 (id % 256)] 5 (0, 0)) → (Kd.int .u8).C W AS s.size (bytesOf s) → s.size ≤ cS → W.heap[gp]? = some (.cells #[.slice (some ⟨g1, 0, none⟩) 1 1, .slice AS s.size cS, .slice A L c] 22 (0, 0)) → Calls Tryd.prog 14 #[.slice (some ⟨gp, 0, none⟩) 3 3] W fun e w' => e = .returned (.agg #[.int .u8 o0, .int .u8 o1, .int .u8 o2, .int .u8 o3, .int .u8 o4, .int .u8 o5, .int .u8 o6, .int .u8 o7, .int .u8 o8, .int .u8 o9, .int .u8 o10, .int .u8 o11, .int .u8 o12, .int .u8 o13, .int .u8 o14, .int .u8 o15]) ∧ Below W.heap.size W w' from fun W g1 gp AS cS hb h1 h2 hcS h3 => by
    rw [← bytesOf_length] at h2 hcS h3
    rw [← hL] at h3
    have h := sum3 (l1 := [id % 256]) (l2 := bytesOf s) (l3 := l) h3 (C_block h1 rfl (by simp)) (Nat.le_refl _) h2 hcS (Kd.C_below HC.out hb) hc (by have := ansL_len id s l; unfold ansL at this; omega) (ansL_isB id s l hB)
    rw [← hO]
    exact h)
  have HB := Aside0.mk (Below.refl w.heap.size w)
  rw [hL]
  clear hC hc hB hO hL HC
  go_enter Tryd.func22, Tryd.ntmps22
  go_wp2_with (first | ((with_reducible refine gate_dst (N := 6) rfl ?_); refine' box_event ?hg (N := 6) ?hd (t := 24) ?hr ?_; (case hd => rfl); (case hg => rfl); (case hr => first | (go_simp; done) | (go_simp; rfl)); intro gz hgn w1 hbox hbn; have GEgz := Aside0.mk (show w.heap.size ≤ gz from Nat.le_trans (below_size (show Below w.heap.size w w from HB.out)) (Nat.le_of_eq hgn.symm)); have HB_ := Aside0.mk (below_step (show Below w.heap.size w w from HB.out) hbn); clear HB; have HB := HB_; clear HB_; have Bgz := Aside0.mk hbox; clear hbox hbn hgn) | ((with_reducible refine gate_dst (N := 9) rfl ?_); refine' lit_event ?hg (N := 9) ?hd (t := 5) (n := 1) ?hr ?_; (case hd => rfl); (case hg => rfl); (case hr => first | (go_simp; done) | (go_simp; rfl)); intro g1 hgn w2 hbox hbn; have GEg1 := Aside0.mk (show w.heap.size ≤ g1 from Nat.le_trans (below_size (show Below w.heap.size w w1 from HB.out)) (Nat.le_of_eq hgn.symm)); have Bgz_ := Aside0.mk (blk_below Bgz.out hbn); clear Bgz; have Bgz := Bgz_; clear Bgz_; have HB_ := Aside0.mk (below_step (show Below w.heap.size w w1 from HB.out) hbn); clear HB; have HB := HB_; clear HB_; have Bg1 := Aside0.mk hbox; clear hbox hbn hgn) | ((with_reducible refine gate_dst (N := 11) rfl ?_); refine bytes_event ?hg 9 22 5 (.tmp 10) rfl rfl Tryd.underlying9 Tryd.underlying22 Tryd.underlying5 ?hz ?_; (case hg => rfl); (case hz => omega); intro AS cS w3 hcc hcr hbn; have Bgz_ := Aside0.mk (blk_below Bgz.out hbn); clear Bgz; have Bgz := Bgz_; clear Bgz_; have Bg1_ := Aside0.mk (blk_below Bg1.out hbn); clear Bg1; have Bg1 := Bg1_; clear Bg1_; have HB_ := Aside0.mk (below_step (show Below w.heap.size w w2 from HB.out) hbn); clear HB; have HB := HB_; clear HB_; have HCS := Aside0.mk hcr; have HcS := Aside0.mk hcc; clear hcc hcr hbn) | ((with_reducible refine gate_dst (N := 13) rfl ?_); refine' lit_event ?hg (N := 13) ?hd (t := 22) (n := 3) ?hr ?_; (case hd => rfl); (case hg => rfl); (case hr => first | (go_simp; done) | (go_simp; rfl)); intro gp hgn w4 hbox hbn; have GEgp := Aside0.mk (show w.heap.size ≤ gp from Nat.le_trans (below_size (show Below w.heap.size w w3 from HB.out)) (Nat.le_of_eq hgn.symm)); have Bgz_ := Aside0.mk (blk_below Bgz.out hbn); clear Bgz; have Bgz := Bgz_; clear Bgz_; have Bg1_ := Aside0.mk (blk_below Bg1.out hbn); clear Bg1; have Bg1 := Bg1_; clear Bg1_; have HCS_ := Aside0.mk (Kd.C_below HCS.out hbn); clear HCS; have HCS := HCS_; clear HCS_; have HB_ := Aside0.mk (below_step (show Below w.heap.size w w3 from HB.out) hbn); clear HB; have HB := HB_; clear HB_; have Bgp := Aside0.mk hbox; clear hbox hbn hgn) | (go_at_call 14; (with_reducible refine (HS.out _ g1 gp AS cS HB.out Bg1.out HCS.out HcS.out Bgp.out).mono ?_); rintro e w5 ⟨rfl, hbn⟩; have Bgz_ := Aside0.mk (blk_below Bgz.out hbn); clear Bgz; have Bgz := Bgz_; clear Bgz_; have HB_ := Aside0.mk (below_step (show Below w.heap.size w w4 from HB.out) hbn); clear HB; have HB := HB_; clear HB_; clear hbn; have y0 := (blk_cell Bgz.out 0).trans (rfl : _ = some (Value.int .u8 0)); have f0 := blk_frozen Bgz.out 0; have y1 := (blk_cell Bgz.out 1).trans (rfl : _ = some (Value.int .u8 0)); have f1 := blk_frozen Bgz.out 1; have y2 := (blk_cell Bgz.out 2).trans (rfl : _ = some (Value.int .u8 0)); have f2 := blk_frozen Bgz.out 2; have y3 := (blk_cell Bgz.out 3).trans (rfl : _ = some (Value.int .u8 0)); have f3 := blk_frozen Bgz.out 3; have y4 := (blk_cell Bgz.out 4).trans (rfl : _ = some (Value.int .u8 0)); have f4 := blk_frozen Bgz.out 4; have y5 := (blk_cell Bgz.out 5).trans (rfl : _ = some (Value.int .u8 0)); have f5 := blk_frozen Bgz.out 5; have y6 := (blk_cell Bgz.out 6).trans (rfl : _ = some (Value.int .u8 0)); have f6 := blk_frozen Bgz.out 6; have y7 := (blk_cell Bgz.out 7).trans (rfl : _ = some (Value.int .u8 0)); have f7 := blk_frozen Bgz.out 7; have y8 := (blk_cell Bgz.out 8).trans (rfl : _ = some (Value.int .u8 0)); have f8 := blk_frozen Bgz.out 8; have y9 := (blk_cell Bgz.out 9).trans (rfl : _ = some (Value.int .u8 0)); have f9 := blk_frozen Bgz.out 9; have y10 := (blk_cell Bgz.out 10).trans (rfl : _ = some (Value.int .u8 0)); have f10 := blk_frozen Bgz.out 10; have y11 := (blk_cell Bgz.out 11).trans (rfl : _ = some (Value.int .u8 0)); have f11 := blk_frozen Bgz.out 11; have y12 := (blk_cell Bgz.out 12).trans (rfl : _ = some (Value.int .u8 0)); have f12 := blk_frozen Bgz.out 12; have y13 := (blk_cell Bgz.out 13).trans (rfl : _ = some (Value.int .u8 0)); have f13 := blk_frozen Bgz.out 13; have y14 := (blk_cell Bgz.out 14).trans (rfl : _ = some (Value.int .u8 0)); have f14 := blk_frozen Bgz.out 14; have y15 := (blk_cell Bgz.out 15).trans (rfl : _ = some (Value.int .u8 0)); have f15 := blk_frozen Bgz.out 15))
  refine bodyPost_ret (results_cell_row Tryd.results22 _ _ gz 24 #[.int .u8 o0, .int .u8 o1, .int .u8 o2, .int .u8 o3, .int .u8 o4, .int .u8 o5, .int .u8 o6, .int .u8 o7, .int .u8 o8, .int .u8 o9, .int .u8 o10, .int .u8 o11, .int .u8 o12, .int .u8 o13, .int .u8 o14, .int .u8 o15] (0, 0) _ rfl (set16_row Bgz.out (.int .u8 o0) (.int .u8 o1) (.int .u8 o2) (.int .u8 o3) (.int .u8 o4) (.int .u8 o5) (.int .u8 o6) (.int .u8 o7) (.int .u8 o8) (.int .u8 o9) (.int .u8 o10) (.int .u8 o11) (.int .u8 o12) (.int .u8 o13) (.int .u8 o14) (.int .u8 o15)) Tryd.underlying24 rfl (by kernel_rfl)) rfl ⟨?_, set16_below HB.out GEgz.out (.int .u8 o0) (.int .u8 o1) (.int .u8 o2) (.int .u8 o3) (.int .u8 o4) (.int .u8 o5) (.int .u8 o6) (.int .u8 o7) (.int .u8 o8) (.int .u8 o9) (.int .u8 o10) (.int .u8 o11) (.int .u8 o12) (.int .u8 o13) (.int .u8 o14) (.int .u8 o15)⟩
  rw [HO.out]
set_option maxRecDepth 100000 in
set_option maxHeartbeats 4000000 in
theorem refanswer_calls (id : Int) (s : ByteArray) (A : Option Addr) (c : Nat) (l : List Int) (w : World) (hC : (Kd.int .u8).C w A l.length l) (hc : l.length ≤ c) (hB : isB l = true) (hs : s.size ≤ 100000) (hl : l.length ≤ 100000) (hg : Laid w) (h3 : 3 ≤ w.heap.size) :
    Calls Tryd.prog 23 #[.int .i64 id, .string s, .slice A l.length c] w fun e w' => e = .returned (.agg (ansOf id s l).out) ∧ Below w.heap.size w w' := by
  have HC := Aside0.mk hC
  have HG := Aside0.mk hg
  have H3 := Aside0.mk h3
  obtain ⟨o0, o1, o2, o3, o4, o5, o6, o7, o8, o9, o10, o11, o12, o13, o14, o15, hO⟩ := out_cells (ansOf id s l)
  have HO := Aside0.mk hO
  have hll := ansL_len id s l
  have hLB := ansL_isB id s l hB
  have HAL := Aside0.mk (show ([id % 256] ++ bytesOf s) ++ l = ansL id s l by unfold ansL; simp)
  have HS := Aside0.mk (show ∀ (W : World) (A' : Option Addr) (c' : Nat), Below w.heap.size w W → (Kd.int .u8).C W A' (ansL id s l).length (ansL id s l) → (ansL id s l).length ≤ c' → Calls Tryd.prog 15 #[.slice A' (ansL id s l).length c'] W fun e w' => e = .returned (.agg #[.int .u8 o0, .int .u8 o1, .int .u8 o2, .int .u8 o3, .int .u8 o4, .int .u8 o5, .int .u8 o6, .int .u8 o7, .int .u8 o8, .int .u8 o9, .int .u8 o10, .int .u8 o11, .int .u8 o12, .int .u8 o13, .int .u8 o14, .int .u8 o15]) ∧ Below W.heap.size W w' from fun W A' c' hb hC' hc' => by
    rw [← hO]
    exact refsum_calls A' c' _ W hC' hc' hLB (by omega) (HG.out.below hb H3.out) (Nat.le_trans H3.out hb.size))
  have HLL := Aside0.mk hll
  have hbo := bytesOf_length s
  have HLB := Aside0.mk hbo
  have HB := Aside0.mk (Below.refl w.heap.size w)
  obtain ⟨L, hL⟩ : ∃ L, l.length = L := ⟨_, rfl⟩
  have HLE := Aside0.mk hL
  have HCL := Aside0.mk (show ∀ W, Below w.heap.size w W → (Kd.int .u8).C W A L l from fun W hb => by rw [← hL]; exact Kd.C_below HC.out hb)
  have hand := i64_and255 id
  rw [hL] at hc hl ⊢
  clear hC hB hO hL HC hg h3 hll hLB hbo
  go_enter Tryd.func23, Tryd.ntmps23
  go_wp2_with (first | ((with_reducible refine gate_dst (N := 6) rfl ?_); refine' box_event ?hg (N := 6) ?hd (t := 24) ?hr ?_; (case hd => rfl); (case hg => rfl); (case hr => first | (go_simp; done) | (go_simp; rfl)); intro gz hgn w1 hbox hbn; have GEgz := Aside0.mk (show w.heap.size ≤ gz from Nat.le_trans (below_size (show Below w.heap.size w w from HB.out)) (Nat.le_of_eq hgn.symm)); have HB_ := Aside0.mk (below_step (show Below w.heap.size w w from HB.out) hbn); clear HB; have HB := HB_; clear HB_; have Bgz := Aside0.mk hbox; clear hbox hbn hgn) | ((with_reducible refine gate_dst (N := 11) rfl ?_); refine Kd.R_lit (Kd.int .u8) _ 5 ?hg (N := 11) ?hd (xs := [id % 256]) (inner := [.int .u8 (id % 256)]) (ok := fun _ => True) (okp := fun _ => True) ?hr ?hp (fun _ hk => hk) trivial (Below.refl _ _) (Nat.le_refl _) (by simp) ?_; (case hd => rfl); (case hg => rfl); (case hr => first | (go_simp; done) | (go_simp; rfl)); (case hp => exact (Reps.one (show Kd.M (Kd.int .u8) _ _ _ (id % 256) [.int .u8 (id % 256)] from rfl) (Reps.none _ _))); intro v1 w2 ho hbn hg_ hnew_; clear hg_ hnew_; have HR1 := Aside0.mk (Kd.R_lower ho (below_size (show Below w.heap.size w w1 from HB.out))); have Bgz_ := Aside0.mk (blk_below Bgz.out hbn); clear Bgz; have Bgz := Bgz_; clear Bgz_; have HB_ := Aside0.mk (below_step (show Below w.heap.size w w1 from HB.out) hbn); clear HB; have HB := HB_; clear HB_; clear ho hbn) | ((with_reducible refine gate_builtin (b := .append) (xs := #[.tmp 12, .tmp 13]) rfl ?_); at_builtin; refine print_append_str (w0 := w) w.heap.size rfl (.tmp 12) (.tmp 13) 22 9 5 rfl Tryd.underlying22 Tryd.underlying9 info5 v1 [id % 256] s rfl rfl ?aO ?aB ?aS ?aL ?_; (case aO => exact Kd.own_of_R HR1.out); (case aB => exact HB.out); (case aS => exact below_size HB.out); (case aL => simp; omega); intro v2 w3 ho0 hb hg; have HR2 := Aside0.mk (show Kd.R (Kd.int .u8) 5 w3 w.heap.size (fun _ => True) v2 ([id % 256] ++ bytesOf s) from Kd.R_of_own (h1 := fun _ => rfl) (ok := fun _ => True) ho0 (fun _ _ => trivial)); have Bgz_ := Aside0.mk (blk_grown Bgz.out hg (Kd.R_ne HR1.out Bgz.out (by decide))); have HB_ := Aside0.mk hb; clear ho0 hb hg HB Bgz HR1; have HB := HB_; have Bgz := Bgz_; clear HB_ Bgz_) | ((with_reducible refine gate_builtin (b := .append) (xs := #[.tmp 15, .tmp 16]) rfl ?_); at_builtin; refine Kd.R_append_rows (Kd.int .u8) (w0 := w) w.heap.size rfl (.tmp 15) (.tmp 16) 22 5 (.int .u8 0) 1 rfl Tryd.underlying22 info5 rfl (by decide) (by omega) v2 ([id % 256] ++ bytesOf s) l _ _ _ (fun _ => True) (fun _ => False) rfl rfl ?aO ?aR (fun _ _ h => h) (fun _ h => h.elim) ?aF ?aB ?aS ?aL ?_; (case aR => exact HCL.out _ HB.out); (case aB => exact HB.out); (case aF => exact (fun _ _ => trivial)); (case aO => exact HR2.out); (case aS => exact below_size HB.out); (case aL => simp [HLB.out]; omega); intro v3 w4 ho hb hg hat; rw [HAL.out] at ho; obtain ⟨A3, c3, rfl, hc3, hC3⟩ := Kd.R_reads ho; have HC3 := Aside0.mk hC3; have Hc3 := Aside0.mk hc3; have Bgz_ := Aside0.mk (blk_grown Bgz.out hg (Kd.R_ne HR2.out Bgz.out (by decide))); have HB_ := Aside0.mk hb; clear ho hb hg hat hC3 hc3 HB Bgz HR2; have HB := HB_; have Bgz := Bgz_; clear HB_ Bgz_) | (go_at_call 15; (with_reducible refine (HS.out _ A3 c3 HB.out HC3.out Hc3.out).mono ?_); rintro e w5 ⟨rfl, hbn⟩; have Bgz_ := Aside0.mk (blk_below Bgz.out hbn); clear Bgz; have Bgz := Bgz_; clear Bgz_; have HB_ := Aside0.mk (below_step (show Below w.heap.size w w4 from HB.out) hbn); clear HB; have HB := HB_; clear HB_; clear hbn; have y0 := (blk_cell Bgz.out 0).trans (rfl : _ = some (Value.int .u8 0)); have f0 := blk_frozen Bgz.out 0; have y1 := (blk_cell Bgz.out 1).trans (rfl : _ = some (Value.int .u8 0)); have f1 := blk_frozen Bgz.out 1; have y2 := (blk_cell Bgz.out 2).trans (rfl : _ = some (Value.int .u8 0)); have f2 := blk_frozen Bgz.out 2; have y3 := (blk_cell Bgz.out 3).trans (rfl : _ = some (Value.int .u8 0)); have f3 := blk_frozen Bgz.out 3; have y4 := (blk_cell Bgz.out 4).trans (rfl : _ = some (Value.int .u8 0)); have f4 := blk_frozen Bgz.out 4; have y5 := (blk_cell Bgz.out 5).trans (rfl : _ = some (Value.int .u8 0)); have f5 := blk_frozen Bgz.out 5; have y6 := (blk_cell Bgz.out 6).trans (rfl : _ = some (Value.int .u8 0)); have f6 := blk_frozen Bgz.out 6; have y7 := (blk_cell Bgz.out 7).trans (rfl : _ = some (Value.int .u8 0)); have f7 := blk_frozen Bgz.out 7; have y8 := (blk_cell Bgz.out 8).trans (rfl : _ = some (Value.int .u8 0)); have f8 := blk_frozen Bgz.out 8; have y9 := (blk_cell Bgz.out 9).trans (rfl : _ = some (Value.int .u8 0)); have f9 := blk_frozen Bgz.out 9; have y10 := (blk_cell Bgz.out 10).trans (rfl : _ = some (Value.int .u8 0)); have f10 := blk_frozen Bgz.out 10; have y11 := (blk_cell Bgz.out 11).trans (rfl : _ = some (Value.int .u8 0)); have f11 := blk_frozen Bgz.out 11; have y12 := (blk_cell Bgz.out 12).trans (rfl : _ = some (Value.int .u8 0)); have f12 := blk_frozen Bgz.out 12; have y13 := (blk_cell Bgz.out 13).trans (rfl : _ = some (Value.int .u8 0)); have f13 := blk_frozen Bgz.out 13; have y14 := (blk_cell Bgz.out 14).trans (rfl : _ = some (Value.int .u8 0)); have f14 := blk_frozen Bgz.out 14; have y15 := (blk_cell Bgz.out 15).trans (rfl : _ = some (Value.int .u8 0)); have f15 := blk_frozen Bgz.out 15))
  refine bodyPost_ret (results_cell_row Tryd.results23 _ _ gz 24 #[.int .u8 o0, .int .u8 o1, .int .u8 o2, .int .u8 o3, .int .u8 o4, .int .u8 o5, .int .u8 o6, .int .u8 o7, .int .u8 o8, .int .u8 o9, .int .u8 o10, .int .u8 o11, .int .u8 o12, .int .u8 o13, .int .u8 o14, .int .u8 o15] (0, 0) _ rfl (set16_row Bgz.out (.int .u8 o0) (.int .u8 o1) (.int .u8 o2) (.int .u8 o3) (.int .u8 o4) (.int .u8 o5) (.int .u8 o6) (.int .u8 o7) (.int .u8 o8) (.int .u8 o9) (.int .u8 o10) (.int .u8 o11) (.int .u8 o12) (.int .u8 o13) (.int .u8 o14) (.int .u8 o15)) Tryd.underlying24 rfl (by kernel_rfl)) rfl ⟨?_, set16_below HB.out GEgz.out (.int .u8 o0) (.int .u8 o1) (.int .u8 o2) (.int .u8 o3) (.int .u8 o4) (.int .u8 o5) (.int .u8 o6) (.int .u8 o7) (.int .u8 o8) (.int .u8 o9) (.int .u8 o10) (.int .u8 o11) (.int .u8 o12) (.int .u8 o13) (.int .u8 o14) (.int .u8 o15)⟩
  rw [HO.out]
end Go.Proofs.YtgadhmoifhoilaaDoor.Chap
