/-
  umpireref21.Hear by hand: words for its ways.
-/
import Derived.Test.YtgadhmoifhoilaaDoorAuthBaseD
import Derived.Test.YtgadhmoifhoilaaDoorAuthAnsD
namespace Go.Proofs.YtgadhmoifhoilaaDoor.AuthHand
open Go.RowKit Go.Lib Go.Proofs.YtgadhmoifhoilaaDoorW.PrintWords Go.Proofs.YtgadhmoifhoilaaDoorW.PrintLast Go.Proofs.YtgadhmoifhoilaaDoorW.PrintMore Go.Proofs.YtgadhmoifhoilaaDoor.Kit
set_option linter.unusedVariables false
set_option linter.unusedSimpArgs false
theorem cells9 {W : World} {g : Nat} {t : TypeId} {v0 v1 v2 v3 v4 v5 v6 v7 v8 : Value} (h : W.heap[g]? = some (.cells #[v0, v1, v2, v3, v4, v5, v6, v7, v8] t (0, 0))) : W.cell? ⟨g, 0, none⟩ = some v0 ∧ W.cell? ⟨g, 1, none⟩ = some v1 ∧ W.cell? ⟨g, 2, none⟩ = some v2 ∧ W.cell? ⟨g, 3, none⟩ = some v3 ∧ W.cell? ⟨g, 4, none⟩ = some v4 ∧ W.cell? ⟨g, 5, none⟩ = some v5 ∧ W.cell? ⟨g, 6, none⟩ = some v6 ∧ W.cell? ⟨g, 7, none⟩ = some v7 ∧ W.cell? ⟨g, 8, none⟩ = some v8 ∧ W.frozen? ⟨g, 0, none⟩ = false ∧ W.frozen? ⟨g, 1, none⟩ = false ∧ W.frozen? ⟨g, 2, none⟩ = false ∧ W.frozen? ⟨g, 3, none⟩ = false ∧ W.frozen? ⟨g, 4, none⟩ = false ∧ W.frozen? ⟨g, 5, none⟩ = false ∧ W.frozen? ⟨g, 6, none⟩ = false ∧ W.frozen? ⟨g, 7, none⟩ = false ∧ W.frozen? ⟨g, 8, none⟩ = false := ⟨(blk_cell h 0).trans rfl, (blk_cell h 1).trans rfl, (blk_cell h 2).trans rfl, (blk_cell h 3).trans rfl, (blk_cell h 4).trans rfl, (blk_cell h 5).trans rfl, (blk_cell h 6).trans rfl, (blk_cell h 7).trans rfl, (blk_cell h 8).trans rfl, blk_frozen h 0, blk_frozen h 1, blk_frozen h 2, blk_frozen h 3, blk_frozen h 4, blk_frozen h 5, blk_frozen h 6, blk_frozen h 7, blk_frozen h 8⟩
theorem cells3 {W : World} {g : Nat} {t : TypeId} {v0 v1 v2 : Value} (h : W.heap[g]? = some (.cells #[v0, v1, v2] t (0, 0))) : W.cell? ⟨g, 0, none⟩ = some v0 ∧ W.cell? ⟨g, 1, none⟩ = some v1 ∧ W.cell? ⟨g, 2, none⟩ = some v2 ∧ W.frozen? ⟨g, 0, none⟩ = false ∧ W.frozen? ⟨g, 1, none⟩ = false ∧ W.frozen? ⟨g, 2, none⟩ = false := ⟨(blk_cell h 0).trans rfl, (blk_cell h 1).trans rfl, (blk_cell h 2).trans rfl, blk_frozen h 0, blk_frozen h 1, blk_frozen h 2⟩
theorem cells2 {W : World} {g : Nat} {t : TypeId} {v0 v1 : Value} (h : W.heap[g]? = some (.cells #[v0, v1] t (0, 0))) : W.cell? ⟨g, 0, none⟩ = some v0 ∧ W.cell? ⟨g, 1, none⟩ = some v1 ∧ W.frozen? ⟨g, 0, none⟩ = false ∧ W.frozen? ⟨g, 1, none⟩ = false := ⟨(blk_cell h 0).trans rfl, (blk_cell h 1).trans rfl, blk_frozen h 0, blk_frozen h 1⟩
theorem set9_heap (W : World) (b : Nat) (v0 v1 v2 v3 v4 v5 v6 v7 v8 : Value) (k : Nat) (hk : k ≠ b) : (set9 W b v0 v1 v2 v3 v4 v5 v6 v7 v8).heap[k]? = W.heap[k]? := by
 unfold set9
 rw [Below.heap_setCell _ _ _ k hk, Below.heap_setCell _ _ _ k hk, Below.heap_setCell _ _ _ k hk, Below.heap_setCell _ _ _ k hk, Below.heap_setCell _ _ _ k hk, Below.heap_setCell _ _ _ k hk, Below.heap_setCell _ _ _ k hk, Below.heap_setCell _ _ _ k hk, Below.heap_setCell _ _ _ k hk]
theorem set9_blk {W : World} {b k : Nat} {o : Obj} (h : W.heap[k]? = some o) (hk : k ≠ b) (v0 v1 v2 v3 v4 v5 v6 v7 v8 : Value) : (set9 W b v0 v1 v2 v3 v4 v5 v6 v7 v8).heap[k]? = some o := (set9_heap W b _ _ _ _ _ _ _ _ _ k hk).trans h
theorem set9_R {α : Type} {d : Kd α} {e : Nat} {W : World} {base : Nat} {ok : Nat → Prop} {v : Value} {xs : List α} (h : d.R e W base ok v xs) {b t : Nat} {cells : Array Value} (hb : W.heap[b]? = some (.cells cells t (0, 0))) (ht : ∀ q, q ∈ e :: d.E → q ≠ t) (v0 v1 v2 v3 v4 v5 v6 v7 v8 : Value) : d.R e (set9 W b v0 v1 v2 v3 v4 v5 v6 v7 v8) base ok v xs :=
 Kd.R_mono (Kd.R_step (Kd.R_types h hb ht) (fun k hk _ => set9_heap W b _ _ _ _ _ _ _ _ _ k hk.2)) (fun _ hk => hk.1)
theorem set9_size (W : World) (b : Nat) (v0 v1 v2 v3 v4 v5 v6 v7 v8 : Value) : (set9 W b v0 v1 v2 v3 v4 v5 v6 v7 v8).heap.size = W.heap.size := by simp [set9, World.setCell]
theorem set9_copy {W : World} {b bl : Nat} {t t' : TypeId} {c0 c1 c2 c3 c4 c5 c6 c7 c8 v0 v1 v2 v3 v4 v5 v6 v7 v8 : Value} (h : W.heap[b]? = some (.cells #[c0, c1, c2, c3, c4, c5, c6, c7, c8] t (0, 0))) (_hl : W.heap[bl]? = some (.cells #[v0, v1, v2, v3, v4, v5, v6, v7, v8] t' (0, 0))) : (set9 W b v0 v1 v2 v3 v4 v5 v6 v7 v8).heap[b]? = some (.cells #[v0, v1, v2, v3, v4, v5, v6, v7, v8] t (0, 0)) := set9_row h _ _ _ _ _ _ _ _ _
theorem set9_copyB {w W : World} {b bl B : Nat} {t' : TypeId} {v0 v1 v2 v3 v4 v5 v6 v7 v8 : Value} (h : Below B w W) (hb : B ≤ b) (_hl : W.heap[bl]? = some (.cells #[v0, v1, v2, v3, v4, v5, v6, v7, v8] t' (0, 0))) : Below B w (set9 W b v0 v1 v2 v3 v4 v5 v6 v7 v8) := set9_below h hb _ _ _ _ _ _ _ _ _
theorem blk_put3 {W : World} {b : Nat} {t : TypeId} {v0 v1 v2 v3 v4 v5 v6 v7 v8 : Value} (h : W.heap[b]? = some (.cells #[v0, v1, v2, v3, v4, v5, v6, v7, v8] t (0, 0))) (u : Value) : (W.setCell ⟨b, 3, none⟩ u).heap[b]? = some (.cells #[v0, v1, v2, u, v4, v5, v6, v7, v8] t (0, 0)) := blk_put h 3 u rfl
theorem blk_put7 {W : World} {b : Nat} {t : TypeId} {v0 v1 v2 v3 v4 v5 v6 v7 v8 : Value} (h : W.heap[b]? = some (.cells #[v0, v1, v2, v3, v4, v5, v6, v7, v8] t (0, 0))) (u : Value) : (W.setCell ⟨b, 7, none⟩ u).heap[b]? = some (.cells #[v0, v1, v2, v3, v4, v5, v6, u, v8] t (0, 0)) := blk_put h 7 u rfl
theorem due_row (W : World) (base n : Nat) (hn : W.heap.size = n) (hb : base ≤ W.heap.size) (x : PAuthBase.S60) : Kd.R PAuthBase.k60 60 (W.alloc (.cells #[.int .i64 x.f0, .int .i64 x.f1, .int .i64 x.f2, .string x.f3] 60)) base (fun _ => True) (.slice (some ⟨n, 0, none⟩) 1 1) [x] := by
 subst hn
 refine ⟨fun _ _ => trivial, [.int .i64 x.f0, .int .i64 x.f1, .int .i64 x.f2, .string x.f3], ?_, ?_⟩
 ·have h2 := World.ownsRow_lit (base := base) (e := 60) (size := PAuthBase.k60.sz) W #[.int .i64 x.f0, .int .i64 x.f1, .int .i64 x.f2, .string x.f3] 1 hb (by simp [maxLen]) (by rfl)
  simpa using h2
 ·exact Reps.c4 (show Kd.M PAuthBase.k60 _ _ _ x [.int .i64 x.f0, .int .i64 x.f1, .int .i64 x.f2, .string x.f3] from PAuthBase.k60_mkM _ _ _ x) (Reps.none _ _)
end Go.Proofs.YtgadhmoifhoilaaDoor.AuthHand
