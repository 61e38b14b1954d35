/-
  The law PapKeeps over numbers and lists: what was read of a copy, which is turned behind the reading, is what the reference reads of the data.
-/
import Derived.Test.YtglbaeikklkghaaPPapKeepsx2
import Derived.Test.YtglbaeikklkghaaPapPlain
namespace Go.Proofs.Ytglbaeikklkghaa.Pure
open Go.RowKit Go.Proofs.Ytglbaeikklkghaa.PPapKeeps Go.Proofs.YtglbaeikklkghaaW.PrintWords Go.Proofs.YtglbaeikklkghaaW.PrintLast Go.Proofs.Ytglbaeikklkghaa.PapPlain Go.Proofs.Ytglbaeikklkghaa.PapHand

theorem keeps_loop (l : List Int) (x y z : ByteArray) (e f : Int) (d : Nat) : ∀ (k : Nat) (own : List Int) (i : Int), 0 ≤ i → i ≤ own.length → own.length ≤ 3000 → (own.length : Int) - i = d → d + 9 < k →
    isB l = true → l.length ≤ 3000 → pap_ReadAsk.f l = some (x, y, e) → pap_ReadSay.f l = some (z, f) → umpirelaw16_PapKeeps.l0 k l own z i x y = some true := by
  induction d with
  | zero =>
    intro k own i h0 h1 hl hd hk hB hl2 ha hs
    obtain ⟨k, rfl⟩ : ∃ m, k = m + 4 := ⟨k - 4, by omega⟩
    simp only [umpirelaw16_PapKeeps.l0]
    rw [if_neg (by omega), ask_ref k l hB (by omega), ha, show k + 3 = (k + 1) + 2 from rfl, say_ref (k + 1) l hB (by omega), hs]
    simp
  | succ d ih =>
    intro k own i h0 h1 hl hd hk hB hl2 ha hs
    obtain ⟨k, rfl⟩ : ∃ m, k = m + 1 := ⟨k - 1, by omega⟩
    simp only [umpirelaw16_PapKeeps.l0]
    have hw : wrap64 (i + 1) = i + 1 := wrapS (by omega) (by omega)
    rw [if_pos (by omega), if_pos h0, hw]
    exact ih k _ (i + 1) (by omega) (by rw [List.length_set]; omega) (by rw [List.length_set]; omega) (by rw [List.length_set]; omega) (by omega) hB hl2 ha hs

theorem PapKeeps : umpirelaw16_PapKeeps.Pure := by
  intro l _ _ hwf
  have hB := isB_of_wf hwf
  refine ⟨4000, ?_⟩
  have ha : umpirelaw16_awake.f = some true := rfl
  unfold umpirelaw16_PapKeeps.f
  rw [ha]
  simp only [Option.bind_some, if_true]
  by_cases hl : (l.length : Int) > 3000
  · rw [show decide ((l.length : Int) > 3000) = true from decide_eq_true hl]
    rw [show (4000 : Nat) = 3999 + 1 from rfl]
    simp only [umpirelaw16_PapKeeps.j0, ha, Option.bind_some, if_true]
  · rw [show decide ((l.length : Int) > 3000) = false from decide_eq_false hl]
    obtain ⟨x, y, e, h1, _⟩ := ask_only hB
    obtain ⟨z, f, h2, _⟩ := say_only hB
    have h3 := keeps_loop l x y z e f l.length 3999 l 0 (by omega) (by omega) (by omega) (by omega) (by omega) hB (by omega) h1 h2
    rw [show (4000 : Nat) = 3999 + 1 from rfl]
    simp only [umpirelaw16_PapKeeps.j0, Option.bind_some]
    rw [if_neg (by simp), if_pos (by simp; omega)]
    simp only [List.nil_append, h1, h2, Option.bind_some, if_true]
    exact h3
end Go.Proofs.Ytglbaeikklkghaa.Pure
