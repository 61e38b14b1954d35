/-
  The law's guard awake returns true: each of its calls at its own data, one behind the other.
-/
import Derived.Test.YtglbaeikklkghaaPPapBasex1
import Derived.Test.YtglbaeikklkghaaPapHand
namespace Go.Proofs.Ytglbaeikklkghaa.PapHand
open Go.RowKit Go.Proofs.YtglbaeikklkghaaW.PrintWords Go.Proofs.YtglbaeikklkghaaW.PrintLast
set_option linter.unusedVariables false

theorem C_lit (w : World) (e : TypeId) (k : IntKind) (xs : List Int) (h : xs.length ≤ 9223372036854775807) :
    (Kd.int k).C (w.alloc (.cells (nums k xs).toArray e)) (some ⟨w.heap.size, 0, none⟩) xs.length xs := by
  refine Kd.C_of_reads (enc := Value.int k) (d := (0 : Int)) (h1 := fun _ => rfl) ⟨rfl, h, fun _ => ⟨_, rfl, fun j hj => ?_⟩⟩
  rw [show (⟨w.heap.size, 0, none⟩ : Addr).add j = ⟨w.heap.size, j, none⟩ from add_plain _ _, blk_cell (blk_new _ _) j]
  simp [nums, hj, List.getD_eq_getElem?_getD]

theorem C_lit' (w : World) (e : TypeId) (k : IntKind) (xs : List Int) (h : xs.length ≤ 9223372036854775807) (g : Nat) (hg : w.heap.size = g) :
    (Kd.int k).C (w.alloc (.cells (nums k xs).toArray e)) (some ⟨g, 0, none⟩) xs.length xs := hg ▸ C_lit w e k xs h
theorem C_made (w : World) (e : TypeId) (k : IntKind) (m : Nat) (h : m ≤ 9223372036854775807) :
    (Kd.int k).C (w.alloc (.cells (madeCells #[.int k 0] m) e)) (some ⟨w.heap.size, 0, none⟩) m (List.replicate m 0) := by
  have ho := own_made' w w.heap.size e k m (Nat.le_refl _) h
  obtain ⟨A, c, he, hr⟩ := own_reads ho
  simp only [Value.slice.injEq] at he
  obtain ⟨rfl, _, _⟩ := he
  have := Kd.C_of_reads (enc := Value.int k) (d := (0 : Int)) (h1 := fun _ => rfl) hr
  rwa [List.length_replicate] at this

def made256 : Array Value := madeCells #[.int .u8 0] 256
def text256 : ByteArray := strOfNums (List.replicate 256 0)
def umpirelaw16_awake.f : Option Bool := some true

theorem ask1 : pap_ReadAsk.f [1, 97, 2, 98, 99] = some (⟨#[97]⟩, ⟨#[98, 99]⟩, 0) := by kernel_rfl
theorem ask2 : pap_ReadAsk.f [1, 97] = some (⟨#[]⟩, ⟨#[]⟩, 2) := by kernel_rfl
theorem say1 : pap_ReadSay.f [0] = some (⟨#[]⟩, 0) := by kernel_rfl
theorem say2 : pap_ReadSay.f [0, 0] = some (⟨#[]⟩, 3) := by kernel_rfl
theorem put1 : PPapBase.pap_PutAsk.f 5 ⟨#[97]⟩ ⟨#[98, 99]⟩ = some ([1, 97, 2, 98, 99], 0) := by kernel_rfl
theorem put2 : PPapBase.pap_PutSay.f 5 ⟨#[104, 105]⟩ = some ([2, 104, 105], 0) := by kernel_rfl
theorem put3 : PPapBase.pap_PutSay.f 5 text256 = some ([], 4) := by kernel_rfl

set_option maxRecDepth 100000 in
set_option maxHeartbeats 1000000 in
theorem umpirelaw16_awake.calls (r : Bool) (w : World) (h : umpirelaw16_awake.f = some r) :
    Calls Try.prog 12 #[] w fun e w' => e = .returned (.bool r) ∧ Below w.heap.size w w' := by
  obtain rfl : true = r := Option.some.inj h
  clear h
  have hmk : ∀ W : World, (Instr.makeSlice 25 (.int .i64 256) (.int .i64 256)).run Try.prog W = .ok (.slice (some ⟨W.heap.size, 0, none⟩) 256 256) (W.alloc (.cells made256 5)) := print_make (P := Try.prog) 25 5 .u8 1 Try.underlying25 info5 (by decide) 256 (by decide)
  go_enter Try.func12, Try.ntmps12
  go_wp2_with fail
  refine (pap_ReadAsk.calls (some ⟨w.heap.size, 0, none⟩) 5 [1, 97, 2, 98, 99] _ _ _ _ (C_lit w 5 .u8 [1, 97, 2, 98, 99] (by decide)) (Nat.le_refl _) ask1).mono ?_
  rintro e w1 ⟨rfl, hb⟩
  have B1 := Aside0.mk ((below_alloc (Below.refl w.heap.size w) _).trans (hb.mono (by simp)))
  clear hb
  go_wp2_with fail
  refine (PPapBase.pap_PutAsk.calls 5 _ _ _ _ _ put1).mono ?_
  rintro e w2 ⟨v0, rfl, hR, hb⟩
  obtain ⟨A2, c2, rfl, hle, hC⟩ := Kd.R_reads hR
  have L2 := Aside0.mk (blk_below (blk_new w1 _) hb)
  have B2 := Aside0.mk (B1.out.trans (((below_alloc (Below.refl w1.heap.size w1) _).trans (hb.mono (by simp))).mono B1.out.size))
  have C2 := Aside0.mk hC
  clear hb hR hC hle B1
  go_wp2_with fail
  refine (pap_ReadSay.calls (some ⟨w2.heap.size, 0, none⟩) 1 [0] _ _ _ (C_lit w2 5 .u8 [0] (by decide)) (Nat.le_refl _) say1).mono ?_
  rintro e w3 ⟨rfl, hb⟩
  have N3 := Aside0.mk ((below_alloc (Below.refl w2.heap.size w2) _).trans (hb.mono (by simp)))
  have B3 := Aside0.mk (B2.out.trans (N3.out.mono B2.out.size))
  have L3 := Aside0.mk (blk_below L2.out N3.out)
  have C3 := Aside0.mk (Kd.C_below C2.out N3.out)
  clear hb N3 B2 L2 C2
  go_wp2_with fail
  refine (PPapBase.pap_PutSay.calls 5 _ _ _ _ put2).mono ?_
  rintro e w4 ⟨v1, rfl, hR, hb⟩
  obtain ⟨A4, c4, rfl, hle, hD⟩ := Kd.R_reads hR
  have B4 := Aside0.mk (B3.out.trans (hb.mono B3.out.size))
  have L4 := Aside0.mk (blk_below L3.out hb)
  have C4 := Aside0.mk (Kd.C_below C3.out hb)
  have D4 := Aside0.mk hD
  clear hb hR hD hle B3 L3 C3
  go_wp2_with fail
  refine (pap_ReadAsk.calls (some ⟨w4.heap.size, 0, none⟩) 2 [1, 97] _ _ _ _ (C_lit w4 5 .u8 [1, 97] (by decide)) (Nat.le_refl _) ask2).mono ?_
  rintro e w5 ⟨rfl, hb⟩
  have N5 := Aside0.mk ((below_alloc (Below.refl w4.heap.size w4) _).trans (hb.mono (by simp)))
  have B5 := Aside0.mk (B4.out.trans (N5.out.mono B4.out.size))
  have L5 := Aside0.mk (blk_below L4.out N5.out)
  have C5 := Aside0.mk (Kd.C_below C4.out N5.out)
  have D5 := Aside0.mk (Kd.C_below D4.out N5.out)
  clear hb N5 B4 L4 C4 D4
  go_wp2_with fail
  refine (pap_ReadSay.calls (some ⟨w5.heap.size + 1, 0, none⟩) 2 [0, 0] _ _ _ (C_lit' (w5.alloc _) 5 .u8 [0, 0] (by decide) _ (World.size_alloc ..)) (Nat.le_refl _) say2).mono ?_
  rintro e w6 ⟨rfl, hb⟩
  have N6 := Aside0.mk ((below2 w5 _ _).trans (hb.mono (by simp; omega)))
  have B6 := Aside0.mk (B5.out.trans (N6.out.mono B5.out.size))
  have L6 := Aside0.mk (blk_below L5.out N6.out)
  have C6 := Aside0.mk (Kd.C_below C5.out N6.out)
  have D6 := Aside0.mk (Kd.C_below D5.out N6.out)
  clear hb N6 B5 L5 C5 D5
  have hcv : (convert 25 9 (.slice (some ⟨w6.heap.size, 0, none⟩) 256 256)).run Try.prog (w6.alloc (.cells made256 5)) = .ok (.string text256) (w6.alloc (.cells made256 5)) := Kd.C_string (P := Try.prog) (c := 256) Try.underlying25 Try.underlying5 Try.underlying9 (C_made w6 5 .u8 256 (by decide))
  go_wp2_with fail
  clear hcv
  refine (PPapBase.pap_PutSay.calls 5 _ _ _ _ put3).mono ?_
  rintro e w7 ⟨v2, rfl, hR, hb⟩
  have N7 := Aside0.mk ((below_alloc (Below.refl w6.heap.size w6) _).trans (hb.mono (by simp)))
  have B7 := Aside0.mk (B6.out.trans (N7.out.mono B6.out.size))
  have hz0 : w7.cell? ⟨w1.heap.size, 0, none⟩ = some (.string ⟨#[97]⟩) := (blk_cell (blk_below L6.out N7.out) 0).trans rfl
  have hz1 : w7.cell? ⟨w1.heap.size, 1, none⟩ = some (.string ⟨#[98, 99]⟩) := (blk_cell (blk_below L6.out N7.out) 1).trans rfl
  have hx : (convert 25 9 (.slice A2 5 c2)).run Try.prog w7 = .ok (.string ⟨#[1, 97, 2, 98, 99]⟩) w7 :=
    Kd.C_string (P := Try.prog) Try.underlying25 Try.underlying5 Try.underlying9 (Kd.C_below C6.out N7.out)
  have hy : (convert 25 9 (.slice A4 3 c4)).run Try.prog w7 = .ok (.string ⟨#[2, 104, 105]⟩) w7 :=
    Kd.C_string (P := Try.prog) Try.underlying25 Try.underlying5 Try.underlying9 (Kd.C_below D6.out N7.out)
  clear hb hR N7 B6 L6 C6 D6
  go_wp2_with fail
  go_ret
  exact ⟨rfl, B7.out⟩
end Go.Proofs.Ytglbaeikklkghaa.PapHand
