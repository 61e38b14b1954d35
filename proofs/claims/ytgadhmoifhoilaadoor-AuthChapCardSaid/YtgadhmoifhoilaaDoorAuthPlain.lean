/-
  Plain facts for umpirelaw21's laws: what the references read is what the program reads; which packets may be.
-/
import Derived.Test.YtgadhmoifhoilaaDoorAuthBaseD
import Derived.Test.YtgadhmoifhoilaaDoorPapHand
import Derived.Test.YtgadhmoifhoilaaDoorAuthChap
namespace Go.Proofs.YtgadhmoifhoilaaDoor.AuthPlain
open Go.RowKit Go.Proofs.YtgadhmoifhoilaaDoorW.PrintWords Go.Proofs.YtgadhmoifhoilaaDoorW.PrintLast Go.Proofs.YtgadhmoifhoilaaDoor.PapHand Go.Proofs.YtgadhmoifhoilaaDoor.PAuthBase
abbrev rd_byte {l : List Int} (h : Kit.isB l = true) (i : Int) := Kit.rd_byte h i
theorem wrapS {x : Int} (h0 : -1000000000000000000 ≤ x) (h1 : x ≤ 1000000000000000000) : wrap64 x = x := by
 unfold wrap64; omega
theorem reads_say {l : List Int} (h : isB l = true) : ∃ x, pap_ReadSay.f l = some x := by
 unfold pap_ReadSay.f
 rw [if_pos h]
 split
 ·exact ⟨_, rfl⟩
 ·split <;> exact ⟨_, rfl⟩
theorem isB_two {l : List Int} (h : ∀ x ∈ l, (Lit.int .u8 x).wf = true) : isB l = true ∧ Kit.isB l = true := ⟨by have := Kit.isB_of_wf h; exact this, Kit.isB_of_wf h⟩
end Go.Proofs.YtgadhmoifhoilaaDoor.AuthPlain
