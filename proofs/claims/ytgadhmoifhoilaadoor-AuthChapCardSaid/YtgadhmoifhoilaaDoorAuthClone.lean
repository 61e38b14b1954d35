/-
  bytes.Clone: what it hands back is a row of one's own (or nil).
-/
import Derived.WalkLawsBesides
import Derived.WalkSpells
import Derived.Test.YtgadhmoifhoilaaDoorKit
namespace Go.Proofs.YtgadhmoifhoilaaDoor.AuthHand
open Go.RowKit Go.Lib Go.Proofs.YtgadhmoifhoilaaDoorW.PrintWords Go.Proofs.YtgadhmoifhoilaaDoorW.PrintLast Go.Proofs.YtgadhmoifhoilaaDoorW.PrintMore Go.Proofs.YtgadhmoifhoilaaDoor.Kit
def bytes_Clone.f (l : List Int) : Option (List Int) := if l.length ≤ 1000000 then some l else none
set_option maxRecDepth 100000 in
set_option maxHeartbeats 1000000 in
theorem bytes_Clone.calls (A0 : Option Addr) (c0 : Nat) (l0 : List Int) (r : List Int) (w : World) (hr0 : Kd.C (Kd.int .u8) w A0 l0.length l0) (hc0 : l0.length ≤ c0) (h : bytes_Clone.f l0 = some r) :
  Calls Tryd.prog 42 #[.slice A0 l0.length c0] w fun e w' => ∃ v0_ : Value, e = .returned (v0_) ∧ Kd.R (Kd.int .u8) 5 w' w.heap.size (fun _ => True) v0_ r ∧ Below w.heap.size w w' := by
 unfold bytes_Clone.f at h
 split at h
 case isFalse => cases h
 case isTrue hl =>
 obtain rfl : l0 = r := by simpa using h
 clear h
 have HC := Aside0.mk hr0
 cases A0 with
 | none =>
  have h0 : l0.length = 0 := by
   rcases Nat.eq_zero_or_pos l0.length with h | h
   ·exact h
   ·obtain ⟨ad, e, _⟩ := hr0.2.2 h
    cases e
  have h1 : l0 = [] := List.eq_nil_of_length_eq_zero h0
  subst h1
  clear hr0 HC
  have hq : ∀ W : World, (binOp .eql 22 (.slice none 0 c0) (.slice none 0 0)).run Tryd.prog W = .ok (.bool true) W := fun W => by
   have := run_equal_slice_nil W 22 5 none 0 c0 Tryd.underlying22
   simp [binOp, this, Result.andThen]
  go_enter Tryd.func42, Tryd.ntmps42
  go_wp2
  go_ret
  exact ⟨_, rfl, Kd.R_nil _ _ _ _ _, Below.refl _ _⟩
 | some ad =>
  have hq : ∀ W : World, (binOp .eql 22 (.slice (some ad) l0.length c0) (.slice none 0 0)).run Tryd.prog W = .ok (.bool false) W := fun W => by
   have := run_equal_slice_nil W 22 5 (some ad) l0.length c0 Tryd.underlying22
   simp [binOp, this, Result.andThen]
  clear hr0
  obtain ⟨L, hL⟩ : ∃ L, l0.length = L := ⟨_, rfl⟩
  have HL := Aside0.mk hL
  have HC2 := Aside0.mk (show ∀ W, Below w.heap.size w W → (Kd.int .u8).C W (some ad) L l0 from fun W hb => by rw [← hL]; exact Kd.C_below HC.out hb)
  rw [hL] at hc0 hq hl ⊢
  clear hL HC
  go_enter Tryd.func42, Tryd.ntmps42
  have HO := Aside0.mk (own_new' w w.heap.size 5 .u8 [] (Nat.le_refl _) (by decide) w.heap.size rfl)
  go_wp2_with (first | ((with_reducible refine gate_builtin (b := .append) (xs := #[.tmp 5, .tmp 6]) rfl ?_); at_builtin; refine Kd.R_append_rows (Kd.int .u8) (w0 := w) w.heap.size rfl (.tmp 5) (.tmp 6) 22 5 (.int .u8 0) 1 rfl Tryd.underlying22 info5 rfl (by decide) (by omega) _ [] l0 (some ad) L c0 (fun _ => True) (fun _ => False) rfl rfl ?aO ?aR (fun _ _ h => h) (fun _ h => h.elim) ?aF ?aB ?aS ?aL ?_; (case aO => exact HO.out); (case aR => exact HC2.out _ (below_alloc (Below.refl _ _) _)); (case aF => exact (fun _ _ => trivial)); (case aB => exact below_alloc (Below.refl _ _) _); (case aS => simp); (case aL => simp; omega); intro v1 w4 ho hb hg hat; have O4 := Aside0.mk ho; have B4 := Aside0.mk hb; clear ho hb hg hat))
  go_ret
  exact ⟨_, rfl, O4.out, B4.out⟩
end Go.Proofs.YtgadhmoifhoilaaDoor.AuthHand
