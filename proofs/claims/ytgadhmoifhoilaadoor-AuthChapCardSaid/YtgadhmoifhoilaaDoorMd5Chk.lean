/-
  slices.Chunk of a row of bytes at 64: its closure's contract as an iterator.
-/
import Derived.RangeFuncNested
import Derived.RangeFuncBound
import Derived.RangeFuncCalls
import Derived.RangeFuncLeaves
import Derived.Shelf.Abstract
import Derived.Shelf.RegionOpen
import Derived.WalkKit
import Derived.OwnWalkIn
import Derived.TacticsInMore
import Derived.LoopNIn
import Derived.LoopIn
import Derived.Sort.QuietIn
import Derived.Test.YtgadhmoifhoilaaDoorKit
import Derived.Test.YtgadhmoifhoilaaDoorPMdBasex1
namespace Go.Proofs.YtgadhmoifhoilaaDoor.Md5
open Go.RowKit Go.Shelf Go.Lib Go.Proofs.YtgadhmoifhoilaaDoorW.PrintWords Go.Proofs.YtgadhmoifhoilaaDoorW.PrintLast Go.Proofs.YtgadhmoifhoilaaDoorW.PrintMore Go.Proofs.YtgadhmoifhoilaaDoor.Kit
attribute [local go_sem] Oper.semAt_some
attribute [local go_sem] max2_int min2_int max_two min_two
theorem chunk_in (F : Fence) (n : Nat) (h8 : F.fn 35) (hro : F.round = none) (A : Option Addr) (len cap : Nat) (w : World) :
  CallsIn F n Tryd.prog 35 #[.slice A len cap, .int .i64 64] w fun e w' => e = .returned (.func (.func 52) #[] #[.pointer (some ⟨w.heap.size, 0, none⟩), .pointer (some ⟨w.heap.size + 1, 0, none⟩)]) ∧ w' = (w.alloc (.cells #[.slice A len cap] 22)).alloc (.cells #[.int .i64 64] 3) := by
 refine callsIn_of_wp Tryd.func35 rfl h8 ?_ hro
 simp only [Tryd.ntmps35, List.size_toArray, List.length_cons, List.length_nil, Nat.reduceAdd, Nat.reduceSub, Array.replicate_succ, Array.replicate_zero, List.push_toArray, List.append_toArray, List.nil_append, List.cons_append]
 gi_wp2
 go_ret
 exact ⟨rfl, rfl⟩
theorem cut3 (ad : Addr) (N cap I : Nat) (h1 : I + 64 ≤ N) (h2 : N ≤ cap) : ∀ W : World, (Instr.slice 22 (.slice (some ad) N cap) (some (.int .i64 (I : Int))) (some (.int .i64 ((I : Int) + 64))) (some (.int .i64 ((I : Int) + 64)))).run Tryd.prog W = .ok (.slice (some (ad.add I)) 64 64) W := by
 intro W
 obtain ⟨i0, hi, _, hsz, _⟩ := info_parts info5
 have hel : Tryd.prog.elem 22 = 5 := by simp [Program.elem, Tryd.underlying22]
 have hu : Tryd.prog.underlying 22 = some (.slice (Tryd.prog.elem 22)) := by rw [hel]; exact Tryd.underlying22
 rw [run_slice_lhm W 22 (some ad) N cap hu .i64 .i64 .i64 (I : Int) ((I : Int) + 64) ((I : Int) + 64) (by omega) (by omega) (by omega) (by omega), hel]
 have e1 : ((I : Int) + 64).toNat = I + 64 := by omega
 simp [sizeOf, typeInfo, hi, hsz, sliced, Result.andThen, e1]
set_option maxRecDepth 100000 in
set_option maxHeartbeats 2000000 in
theorem chunk1_in (F : Fence) (n : Nat) (h13 : F.fn 52) (hro : F.round = none) (hn : 1 ≤ n) (l Bs Bn q cap : Nat) (ad : Addr) (hq : 0 < q) (hcap : 64 * q ≤ cap) (hlim : q ≤ 1000000) (Kp : World → World → Prop)
  (hKs : ∀ X Y, Kp X Y → X.cell? ⟨Bs, 0, none⟩ = some (.slice (some ad) (64 * q) cap) → Y.cell? ⟨Bs, 0, none⟩ = some (.slice (some ad) (64 * q) cap))
  (hKn : ∀ X Y, Kp X Y → X.cell? ⟨Bn, 0, none⟩ = some (.int .i64 64) → Y.cell? ⟨Bn, 0, none⟩ = some (.int .i64 64)) (J Jx : List Nat → World → Prop)
  (hY : ∀ pre x W, J pre W → pre.length < q → YieldAt F (n - 1) Tryd.prog l #[.slice (some (ad.add (64 * (x % q)))) 64 64] W fun e W' =>
   (e = .returned (.bool true) ∧ J (pre ++ [x]) W' ∧ Kp W W') ∨ (e = .returned (.bool false) ∧ Jx (pre ++ [x]) W'))
  (W : World) (hJJ : AbidesFrom W.heap.size J) (hs : W.cell? ⟨Bs, 0, none⟩ = some (.slice (some ad) (64 * q) cap)) (hnn : W.cell? ⟨Bn, 0, none⟩ = some (.int .i64 64)) (h0 : J [] W) :
  CallsIn F n Tryd.prog 52 #[.func (.yield l) #[] #[], .pointer (some ⟨Bs, 0, none⟩), .pointer (some ⟨Bn, 0, none⟩)] W fun e W' => (∃ v, e = .returned v) ∧
   ((∃ ys, ys = List.range q ∧ J ys W') ∨ (∃ pre, True ∧ Jx pre W')) := by
 refine callsIn_of_wp Tryd.func52 rfl h13 ?_ hro
 simp only [Tryd.ntmps52, List.size_toArray, List.length_cons, List.length_nil, Nat.reduceAdd, Nat.reduceSub, Array.replicate_succ, Array.replicate_zero, List.push_toArray, List.append_toArray, List.nil_append, List.cons_append]
 obtain ⟨N, hN⟩ : ∃ N, 64 * q = N := ⟨_, rfl⟩
 rw [hN] at hs hcap hKs
 gi_wp2
 gi_loopw [4] (fun i wr => ∃ k I : Nat, k ≤ q ∧ I = 64 * k ∧ i = .int .i64 I ∧ J (List.range k) wr ∧ wr.cell? ⟨Bs, 0, none⟩ = some (.slice (some ad) N cap) ∧ wr.cell? ⟨Bn, 0, none⟩ = some (.int .i64 64))
  (fun i _ => N - (intOf i).toNat)
 case atStart => exact ⟨0, 0, Nat.zero_le _, rfl, rfl, h0, hs, hnn⟩
 case round =>
  clear hs hnn h0
  obtain ⟨k, I, hk, hI, rfl, hJ, hs, hnn⟩ := hrel
  by_cases hlt : k < q
  ·have hIN : I + 64 ≤ N := by omega
   have hNl : N ≤ 64000000 := by omega
   obtain ⟨i0, hi0, _, hsz0, _⟩ := info_parts info5
   obtain ⟨A', hcut, _⟩ := print_cut (P := Tryd.prog) 22 5 .i64 Tryd.underlying22 hi0 hsz0 (some ad) N cap I (by omega)
   have hcut3 := cut3 ad N cap I hIN hcap
   obtain ⟨D, hD⟩ : ∃ D, N - I = D := ⟨_, rfl⟩
   rw [hD] at hcut
   have hmin : (if (D : Int) < 64 then (D : Int) else 64) = 64 := by rw [if_neg (by omega)]
   have HY := Aside0.mk hY
   have HI := Aside0.mk hI
   have HN := Aside0.mk hN
   have HJ := Aside0.mk hJ
   clear hY hi0 hsz0 hJ hI hN hD
   gi_wp2
   refine wpIn_region_quiet_lit hro (by kernel_rfl) (by kernel_rfl) ?_
   repeat (gi_big_quiet_step (fail))
   refine wpQuietIn_nil ?_
   intro _ hw'
   obtain ⟨nq, hw''⟩ := hw'
   subst hw''
   have hJ1 : J (List.range k) (wr.drewN nq) := hJJ _ _ _ none HJ.out ⟨rfl, rfl, rfl, Nat.le_refl _, fun _ _ _ => rfl⟩ (fun r e => by cases e)
   obtain ⟨fn, tmps, assign, body, hy, hR⟩ := HY.out _ k (wr.drewN nq) hJ1 (by rw [List.length_range]; exact hlt)
   rw [Nat.mod_eq_of_lt hlt, ← HI.out] at hy
   have HR := Aside0.mk hR
   clear hR hJ1
   gi_wp2
   refine HR.out.mono ?_
   rintro e W3 (⟨rfl, hJ3, hk3⟩ | ⟨rfl, hJx3⟩)
   ·have HJ3 := Aside0.mk hJ3
    have hs3 := hKs _ _ hk3 hs
    have hn3 := hKn _ _ hk3 hnn
    clear hJ3 hk3
    gi_wp2
    go_roundw
    case rel => exact ⟨k + 1, I + 64, by omega, by have := HI.out; omega, by go_num, by rw [List.range_succ]; exact HJ3.out, hs3, hn3⟩
    case measure => simp [intOf]; omega
   ·have HJ3 := Aside0.mk hJx3
    clear hJx3
    gi_wp2
    refine bodyPost_ret (results_none rfl _ _ _) rfl ?_
    exact ⟨⟨_, rfl⟩, .inr ⟨_, trivial, HJ3.out⟩⟩
  ·have e : k = q := by omega
   subst e
   have e : I = N := by omega
   subst e
   clear hI hN hlt
   gi_wp2
   go_end0
   exact ⟨⟨_, rfl⟩, .inl ⟨_, rfl, hJ⟩⟩
theorem chunk_stops (F : Fence) (n : Nat) (h13 : F.fn 52) (hro : F.round = none) (hn : 1 ≤ n) (Bs Bn q cap : Nat) (ad : Addr) (hq : 0 < q) (hcap : 64 * q ≤ cap) (hlim : q ≤ 1000000) (S : Nat → Prop) (hSs : ¬ S Bs) (hSn : ¬ S Bn) (w : World)
  (hs : w.cell? ⟨Bs, 0, none⟩ = some (.slice (some ad) (64 * q) cap)) (hnn : w.cell? ⟨Bn, 0, none⟩ = some (.int .i64 64)) :
  SeqStopsK F n Tryd.prog 52 #[.pointer (some ⟨Bs, 0, none⟩), .pointer (some ⟨Bn, 0, none⟩)] (fun x : Nat => #[Value.slice (some (ad.add (64 * (x % q)))) 64 64]) (fun X Y => Kept X Y S) (fun ys => ys = List.range q) (fun _ => True) q w := fun l J Jx W hW hJ _ hY h0 => by
 have hb1 := World.block_lt_of_cell? w _ hs
 have hb2 := World.block_lt_of_cell? w _ hnn
 exact chunk1_in F n h13 hro hn l Bs Bn q cap ad hq hcap hlim (fun X Y => Kept X Y S) (fun X Y h hc => Go.Proofs.YtgadhmoifhoilaaDoorW.PrintWords.cell_kept hc h hSs) (fun X Y h hc => Go.Proofs.YtgadhmoifhoilaaDoorW.PrintWords.cell_kept hc h hSn) J Jx hY W hJ
  ((hW.cell (p := ⟨Bs, 0, none⟩) hb1).trans hs) ((hW.cell (p := ⟨Bn, 0, none⟩) hb2).trans hnn) h0
end Go.Proofs.YtgadhmoifhoilaaDoor.Md5
