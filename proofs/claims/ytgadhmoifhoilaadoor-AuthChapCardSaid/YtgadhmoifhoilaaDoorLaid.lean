/-
  The row's condition on math's tables, opened; the door's own heap meets it.
-/
import Derived.Test.YtgadhmoifhoilaaDoorSin
import Derived.Test.YtgadhmoifhoilaaDoorRows
import Derived.LaidLaws
import Derived.MakeChecks
import Derived.LaidHandle
import Derived.Lib.LaidTab
import Derived.Laws.Rows
namespace Go.Proofs.YtgadhmoifhoilaaDoor.Md5
open Go.RowKit Go.Lib
def laid3 : List (String × DataW Unit) := [("math._sin", Rows.laid_math_sin), ("math._cos", Rows.laid_math_cos), ("math.mPi4", Rows.laid_math_mPi4)]
theorem gSin : Tryd.prog.globalNamed "math._sin" = some 2 := by kernel_rfl
theorem gCos : Tryd.prog.globalNamed "math._cos" = some 1 := by kernel_rfl
theorem tSin : (Tryd.prog.globals[2]?).map (·.type) = some 125 := by kernel_rfl
theorem tCos : (Tryd.prog.globals[1]?).map (·.type) = some 125 := by kernel_rfl
theorem trod_float {H : Type} {enc : TypeId × Value → H} {P : Program} {w : World} {base : Nat} {spare : Nat → Bool} {held : Bool} {fuel : Nat} {t : TypeId} {cs : List Value} {x : DataW H × List MemPlace} {k : FloatKind} (ht : P.underlying t = some (.float k)) (h : DataW.trod enc P w base spare held fuel t cs = some x) : ∃ n, cs = [.float k n] ∧ x = (.lit (.float k n), []) := by
 cases fuel with
 | zero => simp [DataW.trod] at h
 | succ n =>
  unfold DataW.trod at h
  rw [ht] at h
  split at h <;> simp_all
def ftab {H : Type} (k : FloatKind) (zs : List Nat) : DataW H := .agg (zs.map fun z => .lit (.float k z))
theorem cells_of_ftab {H : Type} {enc : TypeId × Value → H} {P : Program} {w : World} {base : Nat} {sp : Nat → Bool} {held : Bool} {fuel : Nat} {t e : TypeId} {n : Nat} {k : FloatKind} {cs : List Value} {zs : List Nat} {p : List MemPlace}
  (ht : P.underlying t = some (.array n e)) (he : P.underlying e = some (.float k)) (hce : P.cellsOf e = 1) (hct : P.cellsOf t = n)
  (h : DataW.trod enc P w base sp held fuel t cs = some (ftab k zs, p)) : cs = zs.map fun z => Value.float k z := by
 cases fuel with
 | zero => simp [DataW.trod] at h
 | succ fuel =>
  simp only [DataW.trod, ht, hce, hct, Nat.mul_one] at h
  split at h
  ·rename_i hl
   obtain ⟨xs, hm, hx⟩ := Option.map_eq_some_iff.1 h
   have hxs : xs.map (·.1) = zs.map fun z => (DataW.lit (.float k z) : DataW H) := by
    have := congrArg Prod.fst hx
    simpa [ftab] using this
   have hxl : xs.length = n := by simpa using mapM_length hm
   have hzl : zs.length = n := by
    have := congrArg List.length hxs
    simp at this
    omega
   apply List.ext_getElem?
   intro i
   by_cases hi : i < n
   ·obtain ⟨b, hb, hf⟩ := mapM_at hm i i (by simp [hi])
    obtain ⟨z, hc, rfl⟩ := trod_float he hf
    have h1 : cs[i]? = some (.float k z) := by
     have := congrArg (·[0]?) hc
     simpa [List.getElem?_take, List.getElem?_drop] using this
    have h2 : (xs.map (·.1))[i]? = some (DataW.lit (.float k z) : DataW H) := by simp [hb]
    rw [hxs] at h2
    simp only [List.getElem?_map, Option.map_eq_some_iff, DataW.lit.injEq, Lit.float.injEq, true_and] at h2
    obtain ⟨z', hz', rfl⟩ := h2
    simp [h1, hz']
   ·rw [List.getElem?_eq_none (by omega), List.getElem?_eq_none (by simp; omega)]
  ·cases h
theorem of_laid {W : World} (h : laidMetH Tryd.prog laid3 W) : Laid W ∧ 3 ≤ W.heap.size := by
 rw [MakeChecks.laidMetH_plain _ _ _ (by kernel_rfl)] at h
 obtain ⟨ps, ⟨g0, t0, cs0, f0, p0, q0, hg0, ht0, hv0, hd0, ⟨g1, t1, cs1, f1, p1, q1, hg1, ht1, hv1, hd1, _⟩, _⟩, _⟩ := h
 obtain rfl := Option.some.inj (gSin.symm.trans hg0)
 obtain rfl := Option.some.inj (gCos.symm.trans hg1)
 obtain rfl := Option.some.inj (tSin.symm.trans ht0)
 obtain rfl := Option.some.inj (tCos.symm.trans ht1)
 have e0 := cells_of_ftab (zs := [4460209587652500685, 13716528389658582877, 4523617212962785441, 13774824197404483331, 4575957461383575504, 13818544856648471880]) Tryd.underlying125 Tryd.underlying96 (by kernel_rfl) (by kernel_rfl) hd0
 have e1 := cells_of_ftab (zs := [13666448263388469915, 4477121864728985349, 13732177093698800582, 4537941361668146421, 13787419979223748497, 4586165620538955083]) Tryd.underlying125 Tryd.underlying96 (by kernel_rfl) (by kernel_rfl) hd1
 have s := World.var?_cell hg0 hv0
 have c := World.var?_cell hg1 hv1
 have l : ∀ i, cs0[i]? = cs0.toList[i]? := fun i => (Array.getElem?_toList).symm
 have l1 : ∀ i, cs1[i]? = cs1.toList[i]? := fun i => (Array.getElem?_toList).symm
 have HS : W.cell? ⟨2, 0, none⟩ = some (.float .f64 4460209587652500685) := (s 0).trans ((l 0).trans (by rw [e0]; rfl))
 exact ⟨⟨(c 0).trans ((l1 0).trans (by rw [e1]; rfl)), (c 1).trans ((l1 1).trans (by rw [e1]; rfl)), (c 2).trans ((l1 2).trans (by rw [e1]; rfl)), (c 3).trans ((l1 3).trans (by rw [e1]; rfl)), (c 4).trans ((l1 4).trans (by rw [e1]; rfl)), (c 5).trans ((l1 5).trans (by rw [e1]; rfl)),
  HS, (s 1).trans ((l 1).trans (by rw [e0]; rfl)), (s 2).trans ((l 2).trans (by rw [e0]; rfl)), (s 3).trans ((l 3).trans (by rw [e0]; rfl)), (s 4).trans ((l 4).trans (by rw [e0]; rfl)), (s 5).trans ((l 5).trans (by rw [e0]; rfl))⟩, block_lt_of_cell HS⟩
end Go.Proofs.YtgadhmoifhoilaaDoor.Md5
