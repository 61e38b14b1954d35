/-
  The law PapCuts: a request's data, cut off anywhere, are at their end, and with a byte behind they have no form; so the call returns true.
-/
import Derived.Test.YtglbaeikklkghaaPapCutsA
namespace Go.Proofs.Ytglbaeikklkghaa.Pure
open Go.RowKit Go.Proofs.YtglbaeikklkghaaW.PrintWords Go.Proofs.YtglbaeikklkghaaW.PrintLast Go.Proofs.Ytglbaeikklkghaa.PapPlain Go.Proofs.Ytglbaeikklkghaa.PapHand
set_option linter.unusedVariables false

theorem own_new (W : World) (base : Nat) (e : TypeId) (k : IntKind) (xs : List Int) (hb : base ≤ W.heap.size) (hm : xs.length ≤ 9223372036854775807) :
    (Kd.int k).R e (W.alloc (.cells (nums k xs).toArray e)) base (fun _ => True) (.slice (some ⟨W.heap.size, 0, none⟩) xs.length xs.length) xs :=
  Kd.R_of_own (enc := Value.int k) (h1 := fun _ => rfl) (own_lit W base e k xs hb hm) (fun _ _ => trivial)

theorem own_new' (W : World) (base : Nat) (e : TypeId) (k : IntKind) (xs : List Int) (hb : base ≤ W.heap.size) (hm : xs.length ≤ 9223372036854775807) (g : Nat) (hg : W.heap.size = g) :
    (Kd.int k).R e (W.alloc (.cells (nums k xs).toArray e)) base (fun _ => True) (.slice (some ⟨g, 0, none⟩) xs.length xs.length) xs := hg ▸ own_new W base e k xs hb hm
set_option maxRecDepth 100000 in
theorem cuts_long1 (a b : ByteArray) (cut more : Int) (w : World) (h1 : 1000 < (a.size : Int)) :
    Calls Try.prog 6 #[.agg #[.string a, .string b], .int .u16 cut, .int .u8 more] w fun e w' => e = .returned (.bool true) ∧ Below w.heap.size w w' := by
  go_enter Try.func6, Try.ntmps6
  go_wp2_with fail
  refine (umpirelaw16_awake.calls true _ rfl).mono ?_
  rintro e w1 ⟨rfl, hb⟩
  have B1 := Aside0.mk ((below_alloc (Below.refl w.heap.size w) (.cells #[.string a, .string b] 23)).trans (hb.mono (by simp)))
  have L1 := Aside0.mk (blk_below (blk_new w (.cells #[.string a, .string b] 23)) hb)
  clear hb
  have hz0 : w1.cell? ⟨w.heap.size, 0, none⟩ = some (.string a) := (blk_cell L1.out 0).trans rfl
  have hz1 : w1.cell? ⟨w.heap.size, 1, none⟩ = some (.string b) := (blk_cell L1.out 1).trans rfl
  go_wp2_with fail
  refine (umpirelaw16_awake.calls true _ rfl).mono ?_
  rintro e w2 ⟨rfl, hb⟩
  have B2 := Aside0.mk (B1.out.trans (hb.mono B1.out.size))
  clear hb
  go_wp2_with fail
  go_ret
  exact ⟨rfl, B2.out⟩
set_option maxRecDepth 100000 in
theorem cuts_long2 (a b : ByteArray) (cut more : Int) (w : World) (h1 : (a.size : Int) ≤ 1000) (h2 : 1000 < (b.size : Int)) :
    Calls Try.prog 6 #[.agg #[.string a, .string b], .int .u16 cut, .int .u8 more] w fun e w' => e = .returned (.bool true) ∧ Below w.heap.size w w' := by
  go_enter Try.func6, Try.ntmps6
  go_wp2_with fail
  refine (umpirelaw16_awake.calls true _ rfl).mono ?_
  rintro e w1 ⟨rfl, hb⟩
  have B1 := Aside0.mk ((below_alloc (Below.refl w.heap.size w) (.cells #[.string a, .string b] 23)).trans (hb.mono (by simp)))
  have L1 := Aside0.mk (blk_below (blk_new w (.cells #[.string a, .string b] 23)) hb)
  clear hb
  have hz0 : w1.cell? ⟨w.heap.size, 0, none⟩ = some (.string a) := (blk_cell L1.out 0).trans rfl
  have hz1 : w1.cell? ⟨w.heap.size, 1, none⟩ = some (.string b) := (blk_cell L1.out 1).trans rfl
  go_wp2_with fail
  refine (umpirelaw16_awake.calls true _ rfl).mono ?_
  rintro e w2 ⟨rfl, hb⟩
  have B2 := Aside0.mk (B1.out.trans (hb.mono B1.out.size))
  clear hb
  go_wp2_with fail
  go_ret
  exact ⟨rfl, B2.out⟩
set_option maxRecDepth 100000 in
theorem cuts_bad (a b : ByteArray) (cut more : Int) (w : World) (h1 : (a.size : Int) ≤ 1000) (h2 : (b.size : Int) ≤ 1000) (hf : Aside0 (fits2 a b = false)) :
    Calls Try.prog 6 #[.agg #[.string a, .string b], .int .u16 cut, .int .u8 more] w fun e w' => e = .returned (.bool true) ∧ Below w.heap.size w w' := by
  go_enter Try.func6, Try.ntmps6
  go_wp2_with fail
  refine (umpirelaw16_awake.calls true _ rfl).mono ?_
  rintro e w1 ⟨rfl, hb⟩
  have B1 := Aside0.mk ((below_alloc (Below.refl w.heap.size w) (.cells #[.string a, .string b] 23)).trans (hb.mono (by simp)))
  have L1 := Aside0.mk (blk_below (blk_new w (.cells #[.string a, .string b] 23)) hb)
  clear hb
  have hz0 : w1.cell? ⟨w.heap.size, 0, none⟩ = some (.string a) := (blk_cell L1.out 0).trans rfl
  have hz1 : w1.cell? ⟨w.heap.size, 1, none⟩ = some (.string b) := (blk_cell L1.out 1).trans rfl
  go_wp2_with fail
  refine (PPapBase.pap_PutAsk.calls 4 a b [] 4 _ (by rw [ask_put 1 a b, hf.out]; rfl)).mono ?_
  rintro e w2 ⟨v, rfl, hR, hb⟩
  have B2 := Aside0.mk (B1.out.trans (hb.mono B1.out.size))
  obtain ⟨A2, c2, rfl, hle, hC⟩ := Kd.R_reads hR
  clear hb hR hle hC
  go_wp2_with fail
  go_ret
  exact ⟨rfl, B2.out⟩
set_option maxRecDepth 100000 in
set_option maxHeartbeats 1000000 in
theorem cuts_good (a b : ByteArray) (cut more : Int) (w : World) (h1 : (a.size : Int) ≤ 1000) (h2 : (b.size : Int) ≤ 1000) (hf : Aside0 (fits2 a b = true)) (c0 : 0 ≤ cut) (c1 : cut ≤ 65535) (hm : Aside0 (0 ≤ more ∧ more ≤ 255)) :
    Calls Try.prog 6 #[.agg #[.string a, .string b], .int .u16 cut, .int .u8 more] w fun e w' => e = .returned (.bool true) ∧ Below w.heap.size w w' := by
  obtain ⟨xs, hxs⟩ : ∃ xs, xs = one a ++ one b := ⟨_, rfl⟩
  have hp : PPapBase.pap_PutAsk.f 4 a b = some (xs, 0) := by rw [ask_put 1 a b, hf.out, hxs]; rfl
  have HE := Aside0.mk (show ∀ m, m < xs.length → pap_ReadAsk.f (xs.take m) = some (⟨#[]⟩, ⟨#[]⟩, 2) from fun m h => by rw [hxs] at h ⊢; exact cut_end hf.out m h)
  have HF := Aside0.mk (show pap_ReadAsk.f (xs ++ [more]) = some (⟨#[]⟩, ⟨#[]⟩, 3) from by rw [hxs]; exact more_form hf.out more hm.out.1 hm.out.2)
  have hl0 : 0 < xs.length := by rw [hxs, List.length_append, one_length, one_length]; omega
  have hl1 : xs.length ≤ 2002 := by rw [hxs, List.length_append, one_length, one_length]; omega
  have HP := Aside0.mk hp
  clear hp hxs
  go_enter Try.func6, Try.ntmps6
  go_wp2_with fail
  refine (umpirelaw16_awake.calls true _ rfl).mono ?_
  rintro e w1 ⟨rfl, hb⟩
  have B1 := Aside0.mk ((below_alloc (Below.refl w.heap.size w) (.cells #[.string a, .string b] 23)).trans (hb.mono (by simp)))
  have L1 := Aside0.mk (blk_below (blk_new w (.cells #[.string a, .string b] 23)) hb)
  clear hb
  have hz0 : w1.cell? ⟨w.heap.size, 0, none⟩ = some (.string a) := (blk_cell L1.out 0).trans rfl
  have hz1 : w1.cell? ⟨w.heap.size, 1, none⟩ = some (.string b) := (blk_cell L1.out 1).trans rfl
  go_wp2_with fail
  refine (PPapBase.pap_PutAsk.calls 4 a b xs 0 _ HP.out).mono ?_
  rintro e w2 ⟨v, rfl, hR, hb⟩
  have B2 := Aside0.mk (B1.out.trans (hb.mono B1.out.size))
  obtain ⟨A2, c2, rfl, hle, hC⟩ := Kd.R_reads hR
  have C2 := Aside0.mk hC
  clear hb hR hC hz0 hz1 L1 B1
  have hq : ((xs.length : Int) == 0) = false := beq_eq_false_iff_ne.mpr (by omega)
  have m0 : 0 ≤ cut % (xs.length : Int) := Int.emod_nonneg _ (by omega)
  have m1 : cut % (xs.length : Int) < (xs.length : Int) := Int.emod_lt_of_pos _ (by omega)
  have m2 : cut % (xs.length : Int) ≤ (c2 : Int) := by omega
  go_wp2_with fail
  refine calls_of_args (args' := #[.slice A2 (xs.take (cut % (xs.length : Int)).toNat).length c2]) (by rw [List.length_take, Nat.min_eq_left (by omega)]) ?_
  refine (pap_ReadAsk.calls A2 c2 (xs.take (cut % (xs.length : Int)).toNat) _ _ _ _ (Kd.C_take C2.out (by omega)) (by rw [List.length_take]; omega) (HE.out _ (by omega))).mono ?_
  rintro e w3 ⟨rfl, hb⟩
  have B3 := Aside0.mk (B2.out.trans (hb.mono B2.out.size))
  have C3 := Aside0.mk (Kd.C_below C2.out hb)
  clear hb B2 C2 m0 m1 m2
  go_wp2_with (first | ((with_reducible refine gate_builtin (b := .append) (xs := #[.tmp 54, .tmp 55]) rfl ?_); at_builtin; refine Kd.R_append_rows (Kd.int .u8) (w0 := w) w.heap.size rfl (.tmp 54) (.tmp 55) 25 5 (.int .u8 0) 1 rfl Try.underlying25 info5 rfl (by decide) (by omega) (.slice (some ⟨w3.heap.size + 1, 0, none⟩) 0 0) [] xs A2 xs.length c2 (fun _ => True) (fun _ => False) rfl rfl ?aO ?aR (fun _ _ h => h) (fun _ h => h.elim) ?aF ?aB ?aS ?aL ?_; (case aO => exact own_new' (w3.alloc _) w.heap.size 5 .u8 [] (Nat.le_trans B3.out.size (by simp)) (by decide) _ (World.size_alloc ..)); (case aR => exact (Kd.C_below C3.out (below2 w3 _ _))); (case aF => exact (fun _ _ => trivial)); (case aB => exact (below_alloc (below_alloc B3.out _) _)); (case aS => exact (below_alloc (below_alloc B3.out _) _).size); (case aL => simp; omega); intro v1 w4 ho hb hg hat; have O4 := Aside0.mk ho; have B4 := Aside0.mk hb; clear ho hb hg hat C3 B3; obtain ⟨Ao4, co4, eo4⟩ := Kd.R_slice O4.out; subst eo4) | ((with_reducible refine gate_builtin (b := .append) (xs := #[.tmp 56, .tmp 58]) rfl ?_); at_builtin; refine Kd.R_append (Kd.int .u8) (w0 := w) w.heap.size rfl (.tmp 56) (.tmp 58) 25 5 (.int .u8 0) 1 rfl Try.underlying25 info5 rfl (by decide) (by omega) _ ([] ++ xs) more [.int .u8 more] (fun _ => True) (fun _ => False) rfl rfl ?aP (fun _ hk => hk.elim) ?aF ?aO ?aB ?aS ?aL ?_; (case aP => exact rfl); (case aF => exact (fun _ _ => trivial)); (case aO => exact O4.out); (case aB => exact B4.out); (case aS => exact B4.out.size); (case aL => simp; omega); intro v2 w5 ho hb hg hat; have O5 := Aside0.mk ho; have B5 := Aside0.mk hb; clear ho hb hg hat O4 B4; obtain ⟨Ao5, co5, eo5⟩ := Kd.R_slice O5.out; subst eo5))
  refine calls_of_args (args' := #[.slice Ao5 (([] ++ xs) ++ [more]).length co5]) (by simp) ?_
  refine (pap_ReadAsk.calls Ao5 co5 (([] ++ xs) ++ [more]) _ _ _ _ (Kd.R_reads' O5.out).2.2 (Kd.R_reads' O5.out).2.1 HF.out).mono ?_
  rintro e w6 ⟨rfl, hb⟩
  have B6 := Aside0.mk (B5.out.trans (hb.mono B5.out.size))
  clear hb O5 B5
  go_wp2_with fail
  go_ret
  exact ⟨rfl, below_alloc B6.out _⟩

theorem cuts_law (a0_0 : ByteArray) (a0_1 : ByteArray) (a1 : Int) (a2 : Int) (w : World) (_ : a0_0.size ≤ maxLen) (_ : a0_1.size ≤ maxLen) (wa1 : (Lit.int .u16 a1).wf = true) (wa2 : (Lit.int .u8 a2).wf = true) :
    Calls Try.prog 6 #[.agg #[.string a0_0, .string a0_1], .int .u16 a1, .int .u8 a2] w fun e w' => e = .returned (.bool true) ∧ Below w.heap.size w w' := by
  have hc0 : 0 ≤ a1 ∧ a1 ≤ 65535 := by
    simp [Lit.wf, IntKind.min, IntKind.max, IntKind.signed, IntKind.bits] at wa1
    omega
  have hm0 : 0 ≤ a2 ∧ a2 ≤ 255 := by
    simp [Lit.wf, IntKind.min, IntKind.max, IntKind.signed, IntKind.bits] at wa2
    omega
  rcases Nat.lt_or_ge 1000 a0_0.size with h1 | h1
  · exact cuts_long1 a0_0 a0_1 a1 a2 w (by omega)
  · rcases Nat.lt_or_ge 1000 a0_1.size with h2 | h2
    · exact cuts_long2 a0_0 a0_1 a1 a2 w (by omega) (by omega)
    · cases hf : fits2 a0_0 a0_1
      · exact cuts_bad a0_0 a0_1 a1 a2 w (by omega) (by omega) ⟨hf⟩
      · exact cuts_good a0_0 a0_1 a1 a2 w (by omega) (by omega) ⟨hf⟩ hc0.1 hc0.2 ⟨hm0⟩
end Go.Proofs.Ytglbaeikklkghaa.Pure
