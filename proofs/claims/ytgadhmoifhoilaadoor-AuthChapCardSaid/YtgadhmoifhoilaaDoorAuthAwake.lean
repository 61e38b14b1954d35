/-
  umpirelaw21.awake returns true: each of its calls at its own data, one behind the other.
-/
import Derived.Test.YtgadhmoifhoilaaDoorAuthBaseD
import Derived.Test.YtgadhmoifhoilaaDoorAuthBegin
import Derived.Test.YtgadhmoifhoilaaDoorAuthAnsD
import Derived.Test.YtgadhmoifhoilaaDoorAuthRef0
namespace Go.Proofs.YtgadhmoifhoilaaDoor.AuthHand
open Go.RowKit Go.Lib Go.Proofs.YtgadhmoifhoilaaDoorW.PrintWords Go.Proofs.YtgadhmoifhoilaaDoorW.PrintLast Go.Proofs.YtgadhmoifhoilaaDoorW.PrintMore Go.Proofs.YtgadhmoifhoilaaDoor.Kit
attribute [local go_sem high] PAuthBase.eqA60
set_option linter.unusedVariables false
set_option linter.unusedSimpArgs false
theorem due_one {w : World} {base : Nat} {ok : Nat → Prop} {v : Value} {x : PAuthBase.S60} (h : Kd.R PAuthBase.k60 60 w base ok v [x]) : ∃ (g c : Nat), v = .slice (some ⟨g, 0, none⟩) 1 c ∧ ∀ W, Below w.heap.size w W → W.cell? ⟨g, 0, none⟩ = some (.int .i64 x.f0) ∧ W.cell? ⟨g, 1, none⟩ = some (.int .i64 x.f1) ∧ W.cell? ⟨g, 2, none⟩ = some (.int .i64 x.f2) ∧ W.cell? ⟨g, 3, none⟩ = some (.string x.f3) := by
 obtain ⟨A, c, he, _, hC⟩ := Kd.R_reads h
 obtain ⟨inner, ho, _⟩ := h.2
 rcases ho.2 with ⟨e0, _⟩ | ⟨g, cap, cur, e1, hg, _⟩
 ·rw [e0] at he
  simp at he
 ·rw [he] at e1
  simp only [Value.slice.injEq, List.length_cons, List.length_nil] at e1
  obtain ⟨rfl, _, rfl⟩ := e1
  refine ⟨g, c, he, fun W hb => ?_⟩
  obtain ⟨ad, ea, h0, h1, h2, h3⟩ := PAuthBase.at_T60 (Kd.C_below hC hb) 0 (by decide) (by simp)
  simp only [Option.some.injEq] at ea
  subst ea
  exact ⟨by simpa [Addr.add, PAuthBase.rd_T60] using h0, by simpa [Addr.add, PAuthBase.rd_T60] using h1, by simpa [Addr.add, PAuthBase.rd_T60] using h2, by simpa [Addr.add, PAuthBase.rd_T60] using h3⟩
theorem cells4 {W : World} {g : Nat} {t : TypeId} {v0 v1 v2 v3 : Value} (h : W.heap[g]? = some (.cells #[v0, v1, v2, v3] t (0, 0))) : W.cell? ⟨g, 0, none⟩ = some v0 ∧ W.cell? ⟨g, 1, none⟩ = some v1 ∧ W.cell? ⟨g, 2, none⟩ = some v2 ∧ W.cell? ⟨g, 3, none⟩ = some v3 ∧ W.frozen? ⟨g, 0, none⟩ = false ∧ W.frozen? ⟨g, 1, none⟩ = false ∧ W.frozen? ⟨g, 2, none⟩ = false ∧ W.frozen? ⟨g, 3, none⟩ = false := ⟨(blk_cell h 0).trans rfl, (blk_cell h 1).trans rfl, (blk_cell h 2).trans rfl, (blk_cell h 3).trans rfl, blk_frozen h 0, blk_frozen h 1, blk_frozen h 2, blk_frozen h 3⟩
def umpirelaw21_awake.f : Option Bool := some true
theorem awake_begin1 : auth_Begin.f 0 49187 false false false 0 (⟨#[]⟩ : ByteArray) false 0 49187 1 7 [0, 0] = some (0, 49187, false, false, false, 0, (⟨#[]⟩ : ByteArray), true, 7, true) := by kernel_rfl
theorem awake_hear1 : PAuthBase.auth_Hear.f 5 0 49187 false false false 0 (⟨#[]⟩ : ByteArray) true 7 49187 2 7 [0] = some (0, 49187, false, true, false, 0, (⟨#[]⟩ : ByteArray), true, 7, []) := by kernel_rfl
theorem awake_hear2 : PAuthBase.auth_Hear.f 5 0 49187 false false false 0 (⟨#[]⟩ : ByteArray) true 7 49187 2 8 [0] = some (0, 49187, false, false, false, 0, (⟨#[]⟩ : ByteArray), true, 7, []) := by kernel_rfl
theorem awake_hear3 : PAuthBase.auth_Hear.f 5 49187 0 false false false 0 (⟨#[]⟩ : ByteArray) false 0 49187 1 7 [0, 0] = some (49187, 0, false, false, false, 0, (⟨#[]⟩ : ByteArray), false, 0, [(⟨9, 49187, 7, (⟨#[]⟩ : ByteArray)⟩ : PAuthBase.S60)]) := by kernel_rfl
theorem awake_ans1 : auth_Answer.f 0 0 0 0 (⟨#[]⟩ : ByteArray) (⟨#[]⟩ : ByteArray) 0 0 false 49187 0 false false false 0 (⟨#[]⟩ : ByteArray) false 0 9 49187 7 (⟨#[]⟩ : ByteArray) 49187 2 7 [0] = some (49187, 0, true, false, false, 0, (⟨#[]⟩ : ByteArray), false, 0, true) := by kernel_rfl
theorem awake_ans2 : auth_Answer.f 0 0 0 0 (⟨#[]⟩ : ByteArray) (⟨#[]⟩ : ByteArray) 0 0 false 49187 0 false false false 0 (⟨#[]⟩ : ByteArray) false 0 9 49187 7 (⟨#[]⟩ : ByteArray) 49187 2 6 [0] = some (49187, 0, false, false, false, 0, (⟨#[]⟩ : ByteArray), false, 0, false) := by kernel_rfl
theorem awake_done1 : PAuthBase.auth_Done.f 0 49187 false true false 0 (⟨#[]⟩ : ByteArray) true 7 = some true := by kernel_rfl
theorem awake_done2 : PAuthBase.auth_Done.f 49187 0 true false false 0 (⟨#[]⟩ : ByteArray) false 0 = some true := by kernel_rfl
theorem awake_done3 : PAuthBase.auth_Done.f 0 49187 false false false 0 (⟨#[]⟩ : ByteArray) true 7 = some false := by kernel_rfl
theorem awake_done4 : PAuthBase.auth_Done.f 0 0 false false false 0 (⟨#[]⟩ : ByteArray) false 0 = some true := by kernel_rfl
theorem C_zero (w : World) (g : Nat) (hg : w.heap.size = g) : Kd.C (Kd.int .u8) (w.alloc (.cells #[.int .u8 0] 5)) (some ⟨g, 0, none⟩) 1 [0] := C_lit' w 5 .u8 [0] (by decide) g hg
theorem awake_ans1c (W : World) (g : Nat) (hC : Kd.C (Kd.int .u8) W (some ⟨g, 0, none⟩) 1 [0]) : Calls Tryd.prog 29 #[.agg #[.int .i64 0, .int .i64 0, .int .i64 0, .int .i64 0, .string (⟨#[]⟩ : ByteArray), .string (⟨#[]⟩ : ByteArray), .int .i64 0, .int .u32 0, .bool false], .agg #[.int .i64 49187, .int .i64 0, .bool false, .bool false, .bool false, .int .i64 0, .string (⟨#[]⟩ : ByteArray), .bool false, .int .i64 0], .agg #[.int .i64 9, .int .i64 49187, .int .i64 7, .string (⟨#[]⟩ : ByteArray)], .int .i64 49187, .agg #[.int .i64 2, .int .i64 7, .slice (some ⟨g, 0, none⟩) 1 1]] W fun e w' => e = .returned (.tuple #[.agg #[.int .i64 49187, .int .i64 0, .bool true, .bool false, .bool false, .int .i64 0, .string (⟨#[]⟩ : ByteArray), .bool false, .int .i64 0], .bool true]) ∧ Below W.heap.size W w' := auth_Answer.calls 0 0 0 0 (⟨#[]⟩ : ByteArray) (⟨#[]⟩ : ByteArray) 0 0 false 49187 0 false false false 0 (⟨#[]⟩ : ByteArray) false 0 9 49187 7 (⟨#[]⟩ : ByteArray) 49187 2 7 (some ⟨g, 0, none⟩) 1 [0] _ _ _ _ _ _ _ _ _ _ W hC (Nat.le_refl _) awake_ans1
theorem awake_ans2c (W : World) (g : Nat) (hC : Kd.C (Kd.int .u8) W (some ⟨g, 0, none⟩) 1 [0]) : Calls Tryd.prog 29 #[.agg #[.int .i64 0, .int .i64 0, .int .i64 0, .int .i64 0, .string (⟨#[]⟩ : ByteArray), .string (⟨#[]⟩ : ByteArray), .int .i64 0, .int .u32 0, .bool false], .agg #[.int .i64 49187, .int .i64 0, .bool false, .bool false, .bool false, .int .i64 0, .string (⟨#[]⟩ : ByteArray), .bool false, .int .i64 0], .agg #[.int .i64 9, .int .i64 49187, .int .i64 7, .string (⟨#[]⟩ : ByteArray)], .int .i64 49187, .agg #[.int .i64 2, .int .i64 6, .slice (some ⟨g, 0, none⟩) 1 1]] W fun e w' => e = .returned (.tuple #[.agg #[.int .i64 49187, .int .i64 0, .bool false, .bool false, .bool false, .int .i64 0, .string (⟨#[]⟩ : ByteArray), .bool false, .int .i64 0], .bool false]) ∧ Below W.heap.size W w' := auth_Answer.calls 0 0 0 0 (⟨#[]⟩ : ByteArray) (⟨#[]⟩ : ByteArray) 0 0 false 49187 0 false false false 0 (⟨#[]⟩ : ByteArray) false 0 9 49187 7 (⟨#[]⟩ : ByteArray) 49187 2 6 (some ⟨g, 0, none⟩) 1 [0] _ _ _ _ _ _ _ _ _ _ W hC (Nat.le_refl _) awake_ans2
set_option maxRecDepth 100000 in
set_option maxHeartbeats 40000000 in
theorem umpirelaw21_awake.calls (r : Bool) (w : World) (h : umpirelaw21_awake.f = some r) :
  Calls Tryd.prog 26 #[] w fun e w' => e = .returned (.bool r) ∧ Below w.heap.size w w' := by
 obtain rfl : true = r := Option.some.inj h
 clear h
 go_enter Tryd.func26, Tryd.ntmps26
 go_wp2_with fail
 refine (auth_Begin.calls 0 49187 false false false 0 (⟨#[]⟩ : ByteArray) false 0 49187 1 7 (some ⟨w.heap.size + 1, 0, none⟩) 2 [0, 0] _ _ _ _ _ _ _ _ _ _ _ ?_ (Nat.le_refl _) awake_begin1).mono ?_
 ·exact C_block (blk_new3' w _ _ _).2.1 rfl (by decide)
 rintro e w1 ⟨rfl, hb⟩
 have HP := Aside0.mk (blk_below (blk_new3' w _ _ _).2.2 hb)
 have HQ := Aside0.mk (Kd.C_below (C_block (k := .u8) (xs := [0, 0]) (blk_new3' w _ _ _).2.1 rfl (by decide)) hb)
 have HB := Aside0.mk (below_step (below_alloc (below_alloc (below_alloc (Below.refl w.heap.size w) _) _) _) hb)
 clear hb
 obtain ⟨gp, hgp⟩ : ∃ g, w.heap.size + 1 + 1 = g := ⟨_, rfl⟩
 obtain ⟨gq, hgq⟩ : ∃ g, w.heap.size + 1 = g := ⟨_, rfl⟩
 rw [hgp, hgq] at HP
 rw [hgq] at HQ
 rw [hgp]
 clear hgp hgq
 go_wp2_with fail
 refine (PAuthBase.auth_Hear.calls 5 0 49187 false false false 0 (⟨#[]⟩ : ByteArray) true 7 49187 2 7 (some ⟨w1.heap.size + 1, 0, none⟩) 1 [0] _ _ _ _ _ _ _ _ _ _ _ ?_ (Nat.le_refl _) awake_hear1).mono ?_
 ·exact C_lit' (w1.alloc _) 5 .u8 [0] (by decide) _ (World.size_alloc ..)
 rintro e w2 ⟨v2, rfl, hr, hb⟩
 have HP_ := Aside0.mk (blk_below (blk_alloc (blk_alloc HP.out _) _) hb)
 have HQ_ := Aside0.mk (Kd.C_below (Kd.C_alloc (Kd.C_alloc HQ.out _) _) hb)
 have HA_ := Aside0.mk (blk_below (blk_alloc (blk_new w1 _) _) hb)
 have HB_ := Aside0.mk (below_step (below_alloc (below_alloc HB.out _) _) hb)
 clear hb
 clear HP HQ HB
 have HP := HP_
 clear HP_
 have HQ := HQ_
 clear HQ_
 have HA := HA_
 clear HA_
 have HB := HB_
 clear HB_
 obtain ⟨ga, hga⟩ : ∃ g, w1.heap.size = g := ⟨_, rfl⟩
 rw [hga] at HA
 rw [hga]
 clear hga
 obtain ⟨A2, c2, rfl, _, _⟩ := Kd.R_reads hr
 clear hr
 obtain ⟨a0, a1, a2, a3, a4, a5, a6, a7, a8, af0, af1, af2, af3, af4, af5, af6, af7, af8⟩ := cells9 HA.out
 have lta := blk_lt HA.out
 go_wp2_with fail
 clear a0 af0 a1 af1 a2 af2 a3 af3 a4 af4 a5 af5 a6 af6 a7 af7 a8 af8 lta
 refine (PAuthBase.auth_Hear.calls 5 0 49187 false false false 0 (⟨#[]⟩ : ByteArray) true 7 49187 2 8 (some ⟨w2.heap.size + 1, 0, none⟩) 1 [0] _ _ _ _ _ _ _ _ _ _ _ ?_ (Nat.le_refl _) awake_hear2).mono ?_
 ·exact C_lit' (w2.alloc _) 5 .u8 [0] (by decide) _ (World.size_alloc ..)
 rintro e w3 ⟨v3, rfl, hr, hb⟩
 have HP_ := Aside0.mk (blk_below (blk_alloc (blk_alloc HP.out _) _) hb)
 have HQ_ := Aside0.mk (Kd.C_below (Kd.C_alloc (Kd.C_alloc HQ.out _) _) hb)
 have HA_ := Aside0.mk (blk_below (blk_alloc (blk_alloc HA.out _) _) hb)
 have HD_ := Aside0.mk (blk_below (blk_alloc (blk_new w2 _) _) hb)
 have HB_ := Aside0.mk (below_step (below_alloc (below_alloc HB.out _) _) hb)
 clear hb
 clear HP HQ HA HB
 have HP := HP_
 clear HP_
 have HQ := HQ_
 clear HQ_
 have HA := HA_
 clear HA_
 have HD := HD_
 clear HD_
 have HB := HB_
 clear HB_
 obtain ⟨gb, hgb⟩ : ∃ g, w2.heap.size = g := ⟨_, rfl⟩
 rw [hgb] at HD
 rw [hgb]
 clear hgb
 obtain ⟨A3, c3, rfl, _, _⟩ := Kd.R_reads hr
 clear hr
 obtain ⟨p0, p1, p2, pf0, pf1, pf2⟩ := cells3 HP.out
 have ltp := blk_lt HP.out
 go_wp2_with fail
 clear p0 pf0 p1 pf1 p2 pf2 ltp
 refine (PAuthBase.auth_Hear.calls 5 49187 0 false false false 0 (⟨#[]⟩ : ByteArray) false 0 49187 1 7 (some ⟨gq, 0, none⟩) 2 [0, 0] _ _ _ _ _ _ _ _ _ _ _ ?_ (Nat.le_refl _) awake_hear3).mono ?_
 ·exact Kd.C_alloc HQ.out _
 rintro e w4 ⟨v4, rfl, hr, hb⟩
 have HQ_ := Aside0.mk (Kd.C_below (Kd.C_alloc HQ.out _) hb)
 have HA_ := Aside0.mk (blk_below (blk_alloc HA.out _) hb)
 have HD_ := Aside0.mk (blk_below (blk_alloc HD.out _) hb)
 have HC_ := Aside0.mk (blk_below (blk_new w3 _) hb)
 have HB_ := Aside0.mk (below_step (below_alloc HB.out _) hb)
 clear hb
 clear HQ HA HD HB
 have HQ := HQ_
 clear HQ_
 have HA := HA_
 clear HA_
 have HD := HD_
 clear HD_
 have HC := HC_
 clear HC_
 have HB := HB_
 clear HB_
 obtain ⟨gc, hgc⟩ : ∃ g, w3.heap.size = g := ⟨_, rfl⟩
 rw [hgc] at HC
 rw [hgc]
 clear hgc
 obtain ⟨gf, cf, rfl, hf⟩ := due_one hr
 clear hr HP HQ
 go_wp2_with fail
 skip
 have HA_ := Aside0.mk (blk_alloc HA.out (.cells #[.int .i64 49187, .int .i64 0, .bool false, .bool false, .bool false, .int .i64 0, .string (⟨#[]⟩ : ByteArray), .bool false, .int .i64 0] 50))
 have HD_ := Aside0.mk (blk_alloc HD.out (.cells #[.int .i64 49187, .int .i64 0, .bool false, .bool false, .bool false, .int .i64 0, .string (⟨#[]⟩ : ByteArray), .bool false, .int .i64 0] 50))
 have HC_ := Aside0.mk (blk_alloc HC.out (.cells #[.int .i64 49187, .int .i64 0, .bool false, .bool false, .bool false, .int .i64 0, .string (⟨#[]⟩ : ByteArray), .bool false, .int .i64 0] 50))
 have HE_ := Aside0.mk (blk_new w4 (.cells #[.int .i64 49187, .int .i64 0, .bool false, .bool false, .bool false, .int .i64 0, .string (⟨#[]⟩ : ByteArray), .bool false, .int .i64 0] 50))
 have HB_ := Aside0.mk (below_alloc HB.out (.cells #[.int .i64 49187, .int .i64 0, .bool false, .bool false, .bool false, .int .i64 0, .string (⟨#[]⟩ : ByteArray), .bool false, .int .i64 0] 50))
 have HF_ := Aside0.mk (fun (W : World) (hb : Below (w4.alloc (.cells #[.int .i64 49187, .int .i64 0, .bool false, .bool false, .bool false, .int .i64 0, .string (⟨#[]⟩ : ByteArray), .bool false, .int .i64 0] 50)).heap.size (w4.alloc (.cells #[.int .i64 49187, .int .i64 0, .bool false, .bool false, .bool false, .int .i64 0, .string (⟨#[]⟩ : ByteArray), .bool false, .int .i64 0] 50)) W) => hf W (below_step (below_alloc (Below.refl w4.heap.size w4) (.cells #[.int .i64 49187, .int .i64 0, .bool false, .bool false, .bool false, .int .i64 0, .string (⟨#[]⟩ : ByteArray), .bool false, .int .i64 0] 50)) hb))
 clear HA HD HC HB hf
 obtain ⟨ge, hge⟩ : ∃ g, w4.heap.size = g := ⟨_, rfl⟩
 rw [hge] at HE_ ⊢
 clear hge
 generalize w4.alloc (.cells #[.int .i64 49187, .int .i64 0, .bool false, .bool false, .bool false, .int .i64 0, .string (⟨#[]⟩ : ByteArray), .bool false, .int .i64 0] 50) = w5 at HA_ HD_ HC_ HE_ HB_ HF_ ⊢
 have HA := HA_
 clear HA_
 have HD := HD_
 clear HD_
 have HC := HC_
 clear HC_
 have HE := HE_
 clear HE_
 have HB := HB_
 clear HB_
 have HF := HF_
 clear HF_
 obtain ⟨e_0, e_1, e_2, e_3, e_4, e_5, e_6, e_7, e_8, e_f0, e_f1, e_f2, e_f3, e_f4, e_f5, e_f6, e_f7, e_f8⟩ := cells9 HE.out
 have lte_ := blk_lt HE.out
 obtain ⟨f0_, f1_, f2_, f3_⟩ := HF.out w5 (Below.refl _ _)
 have HAd := Aside0.mk (blk_drew HA.out)
 clear HA
 have HDd := Aside0.mk (blk_drew HD.out)
 clear HD
 have HCd := Aside0.mk (blk_drew HC.out)
 clear HC
 have HEd := Aside0.mk (blk_drew HE.out)
 clear HE
 have HBd := Aside0.mk (below_drew1 HB.out)
 have HFd := Aside0.mk (fun (W : World) (hb : Below w5.drew.heap.size w5.drew W) => HF.out W (below_step (below_drew1 (Below.refl w5.heap.size w5)) hb))
 clear HB HF
 refine start_ (n := 14) (S := fun w' => w'.cell? ⟨ge, 0, none⟩ = some (.int .i64 49187) ∧ w'.cell? ⟨ge, 1, none⟩ = some (.int .i64 0) ∧ w'.cell? ⟨ge, 2, none⟩ = some (.bool false) ∧ w'.cell? ⟨ge, 3, none⟩ = some (.bool false) ∧ w'.cell? ⟨ge, 4, none⟩ = some (.bool false) ∧ w'.cell? ⟨ge, 5, none⟩ = some (.int .i64 0) ∧ w'.cell? ⟨ge, 6, none⟩ = some (.string (⟨#[]⟩ : ByteArray)) ∧ w'.cell? ⟨ge, 7, none⟩ = some (.bool false) ∧ w'.cell? ⟨ge, 8, none⟩ = some (.int .i64 0) ∧ w'.cell? ⟨gf, 0, none⟩ = some (.int .i64 9) ∧ w'.cell? ⟨gf, 1, none⟩ = some (.int .i64 49187) ∧ w'.cell? ⟨gf, 2, none⟩ = some (.int .i64 7) ∧ w'.cell? ⟨gf, 3, none⟩ = some (.string (⟨#[]⟩ : ByteArray))) (ds := [12]) #[false, false, false, false, false, false, false, false, false, false, false, false, false, false] (by kernel_rfl) rfl rfl ⟨e_0, e_1, e_2, e_3, e_4, e_5, e_6, e_7, e_8, f0_, f1_, f2_, f3_⟩ (fun hHeld => ?_)
 clear e_0 e_f0 e_1 e_f1 e_2 e_f2 e_3 e_f3 e_4 e_f4 e_5 e_f5 e_6 e_f6 e_7 e_f7 e_8 e_f8 lte_ f0_ f1_ f2_ f3_
 generalize w5.drew = wd at HAd HDd HCd HEd HBd HFd hHeld ⊢
 refine pure_ (i := 0) (N := some 48) (v := ?_) (a' := ?_) #[true, false, false, false, false, false, false, false, false, false, false, false, false, false] rfl rfl (by kernel_rfl) (fun _ _ _ h => h) (Or.inl ⟨by rfl, ?_⟩) ?_ ?_
 rotate_left
 ·intro w'
  go_simp
  with_reducible rfl
 rotate_left
 ·simp only [Act.put, List.setIfInBounds_toArray, List.set_cons_zero, List.set_cons_succ, i64_w, i32_w]
  rfl
 refine pure_ (i := 2) (N := some 50) (v := ?_) (a' := ?_) #[true, false, true, false, false, false, false, false, false, false, false, false, false, false] rfl rfl (by kernel_rfl) (fun _ _ _ h => h) (Or.inl ⟨by rfl, ?_⟩) ?_ ?_
 rotate_left
 ·intro w'
  go_simp
  with_reducible rfl
 rotate_left
 ·simp only [Act.put, List.setIfInBounds_toArray, List.set_cons_zero, List.set_cons_succ, i64_w, i32_w]
  rfl
 refine pure_ (i := 3) (N := some 51) (v := ?_) (a' := ?_) #[true, false, true, true, false, false, false, false, false, false, false, false, false, false] rfl rfl (by kernel_rfl) (fun _ _ _ h => h) (Or.inl ⟨by rfl, ?_⟩) ?_ ?_
 rotate_left
 ·intro w'
  go_simp
  with_reducible rfl
 rotate_left
 ·simp only [Act.put, List.setIfInBounds_toArray, List.set_cons_zero, List.set_cons_succ, i64_w, i32_w]
  rfl
 refine take_ (i := 1) (N := some 49) (v := ?_) (a' := ?_) #[true, true, true, true, false, false, false, false, false, false, false, false, false, false] rfl rfl (by kernel_rfl) (fun _ _ _ h => h) (Or.inl ⟨by rfl, ?_⟩) hHeld ?_ ?_
 rotate_left
 ·rintro w' ⟨s0, s1, s2, s3, s4, s5, s6, s7, s8, s9, s10, s11, s12⟩
  go_simp
  with_reducible rfl
 rotate_left
 ·simp only [Act.put, List.setIfInBounds_toArray, List.set_cons_zero, List.set_cons_succ, i64_w, i32_w]
  rfl
 refine take_ (i := 4) (N := some 52) (v := ?_) (a' := ?_) #[true, true, true, true, true, false, false, false, false, false, false, false, false, false] rfl rfl (by kernel_rfl) (fun _ _ _ h => h) (Or.inl ⟨by rfl, ?_⟩) hHeld ?_ ?_
 rotate_left
 ·rintro w' ⟨s0, s1, s2, s3, s4, s5, s6, s7, s8, s9, s10, s11, s12⟩
  go_simp
  with_reducible rfl
 rotate_left
 ·simp only [Act.put, List.setIfInBounds_toArray, List.set_cons_zero, List.set_cons_succ, i64_w, i32_w]
  rfl
 refine join_ (σ := Nat × Nat) 2 #[true, true, true, true, true, true, true, true, true, true, true, true, false, false] (fun s_ => [(53, .slice (some ⟨s_.1, 0, none⟩) 1 1), (54, .agg #[.int .i64 2, .int .i64 7, .slice (some ⟨s_.1, 0, none⟩) 1 1]), (55, .tuple #[.agg #[.int .i64 49187, .int .i64 0, .bool true, .bool false, .bool false, .int .i64 0, .string (⟨#[]⟩ : ByteArray), .bool false, .int .i64 0], .bool true]), (47, .tuple #[.agg #[.int .i64 49187, .int .i64 0, .bool true, .bool false, .bool false, .int .i64 0, .string (⟨#[]⟩ : ByteArray), .bool false, .int .i64 0], .bool true]), (56, .agg #[.int .i64 49187, .int .i64 0, .bool true, .bool false, .bool false, .int .i64 0, .string (⟨#[]⟩ : ByteArray), .bool false, .int .i64 0]), (57, .bool true), (11, .pointer (some ⟨s_.2, 0, none⟩))]) (fun s_ w' => w'.heap[s_.2]? = some (.cells #[.int .i64 0, .int .i64 0, .bool false, .bool false, .bool false, .int .i64 0, .string (⟨#[]⟩ : ByteArray), .bool false, .int .i64 0] 50 (0, 0)) ∧ Below wd.heap.size wd w' ∧ wd.heap.size ≤ s_.2) ?_ ?_
 rotate_left
 ·intro hCont
  refine two_ (i := 5) (j := 11) (Ni := some 53) (Nj := some 11) #[true, true, true, true, true, true, false, false, false, false, false, false, false, false] #[true, true, true, true, true, false, false, false, false, false, false, true, false, false] rfl rfl rfl rfl (by kernel_rfl) (by decide) (by decide) (fun K hK => ?_) (fun K hK => ?_)
  ·skip
   refine value_ (w1 := ?_) (v := ?_) (by rfl) rfl ?_ ?_
   rotate_left 2
   ·go_simp
    constructor
    ·rfl
    ·rfl
   refine hK.out _ _ ⟨((blk_cell (blk_below HEd.out (below_alloc (Below.refl wd.heap.size wd) (.cells #[.int .u8 0] 5))) 0).trans rfl), ((blk_cell (blk_below HEd.out (below_alloc (Below.refl wd.heap.size wd) (.cells #[.int .u8 0] 5))) 1).trans rfl), ((blk_cell (blk_below HEd.out (below_alloc (Below.refl wd.heap.size wd) (.cells #[.int .u8 0] 5))) 2).trans rfl), ((blk_cell (blk_below HEd.out (below_alloc (Below.refl wd.heap.size wd) (.cells #[.int .u8 0] 5))) 3).trans rfl), ((blk_cell (blk_below HEd.out (below_alloc (Below.refl wd.heap.size wd) (.cells #[.int .u8 0] 5))) 4).trans rfl), ((blk_cell (blk_below HEd.out (below_alloc (Below.refl wd.heap.size wd) (.cells #[.int .u8 0] 5))) 5).trans rfl), ((blk_cell (blk_below HEd.out (below_alloc (Below.refl wd.heap.size wd) (.cells #[.int .u8 0] 5))) 6).trans rfl), ((blk_cell (blk_below HEd.out (below_alloc (Below.refl wd.heap.size wd) (.cells #[.int .u8 0] 5))) 7).trans rfl), ((blk_cell (blk_below HEd.out (below_alloc (Below.refl wd.heap.size wd) (.cells #[.int .u8 0] 5))) 8).trans rfl), (HFd.out _ (below_alloc (Below.refl wd.heap.size wd) (.cells #[.int .u8 0] 5))).1, (HFd.out _ (below_alloc (Below.refl wd.heap.size wd) (.cells #[.int .u8 0] 5))).2.1, (HFd.out _ (below_alloc (Below.refl wd.heap.size wd) (.cells #[.int .u8 0] 5))).2.2.1, (HFd.out _ (below_alloc (Below.refl wd.heap.size wd) (.cells #[.int .u8 0] 5))).2.2.2⟩ (fun hHeld => ?_)
   clear hK K
   refine norm_ (a' := ?_) ?_ ?_
   rotate_left
   ·show Act.put _ (some 53) _ = _
    simp only [Act.put, List.setIfInBounds_toArray, List.set_cons_zero, List.set_cons_succ, i64_w, i32_w]
    rfl
   refine pure_ (i := 6) (N := some 54) (v := ?_) (a' := ?_) #[true, true, true, true, true, true, true, false, false, false, false, false, false, false] rfl rfl (by kernel_rfl) (fun _ _ _ h => h) (Or.inl ⟨by rfl, ?_⟩) ?_ ?_
   rotate_left
   ·intro w'
    go_simp
    with_reducible rfl
   rotate_left
   ·simp only [Act.put, List.setIfInBounds_toArray, List.set_cons_zero, List.set_cons_succ, i64_w, i32_w]
    rfl
   refine two_ (i := 7) (j := 11) (Ni := some 55) (Nj := some 11) #[true, true, true, true, true, true, true, true, false, false, false, false, false, false] #[true, true, true, true, true, true, true, false, false, false, false, true, false, false] rfl rfl rfl rfl (by kernel_rfl) (by decide) (by decide) (fun K hK => ?_) (fun K hK => ?_)
   ·skip
    refine goes_ Tryd.func29 (by kernel_rfl) rfl #[.agg #[.int .i64 0, .int .i64 0, .int .i64 0, .int .i64 0, .string (⟨#[]⟩ : ByteArray), .string (⟨#[]⟩ : ByteArray), .int .i64 0, .int .u32 0, .bool false], .agg #[.int .i64 49187, .int .i64 0, .bool false, .bool false, .bool false, .int .i64 0, .string (⟨#[]⟩ : ByteArray), .bool false, .int .i64 0], .agg #[.int .i64 9, .int .i64 49187, .int .i64 7, .string (⟨#[]⟩ : ByteArray)], .int .i64 49187, .agg #[.int .i64 2, .int .i64 7, .slice (some ⟨wd.heap.size, 0, none⟩) 1 1]] (by rfl) rfl rfl (by simp only [List.map_toArray, List.map_cons, List.map_nil]; rfl) ?_
    with_reducible refine (awake_ans1c _ _ (C_zero wd _ rfl)).mono ?_
    rintro e wc_ ⟨rfl, hbc_⟩
    refine ⟨_, rfl, ?_⟩
    refine hK.out _ _ ⟨((blk_cell (blk_below HEd.out (below_step (below_alloc (Below.refl wd.heap.size wd) (.cells #[.int .u8 0] 5)) hbc_)) 0).trans rfl), ((blk_cell (blk_below HEd.out (below_step (below_alloc (Below.refl wd.heap.size wd) (.cells #[.int .u8 0] 5)) hbc_)) 1).trans rfl), ((blk_cell (blk_below HEd.out (below_step (below_alloc (Below.refl wd.heap.size wd) (.cells #[.int .u8 0] 5)) hbc_)) 2).trans rfl), ((blk_cell (blk_below HEd.out (below_step (below_alloc (Below.refl wd.heap.size wd) (.cells #[.int .u8 0] 5)) hbc_)) 3).trans rfl), ((blk_cell (blk_below HEd.out (below_step (below_alloc (Below.refl wd.heap.size wd) (.cells #[.int .u8 0] 5)) hbc_)) 4).trans rfl), ((blk_cell (blk_below HEd.out (below_step (below_alloc (Below.refl wd.heap.size wd) (.cells #[.int .u8 0] 5)) hbc_)) 5).trans rfl), ((blk_cell (blk_below HEd.out (below_step (below_alloc (Below.refl wd.heap.size wd) (.cells #[.int .u8 0] 5)) hbc_)) 6).trans rfl), ((blk_cell (blk_below HEd.out (below_step (below_alloc (Below.refl wd.heap.size wd) (.cells #[.int .u8 0] 5)) hbc_)) 7).trans rfl), ((blk_cell (blk_below HEd.out (below_step (below_alloc (Below.refl wd.heap.size wd) (.cells #[.int .u8 0] 5)) hbc_)) 8).trans rfl), (HFd.out _ (below_step (below_alloc (Below.refl wd.heap.size wd) (.cells #[.int .u8 0] 5)) hbc_)).1, (HFd.out _ (below_step (below_alloc (Below.refl wd.heap.size wd) (.cells #[.int .u8 0] 5)) hbc_)).2.1, (HFd.out _ (below_step (below_alloc (Below.refl wd.heap.size wd) (.cells #[.int .u8 0] 5)) hbc_)).2.2.1, (HFd.out _ (below_step (below_alloc (Below.refl wd.heap.size wd) (.cells #[.int .u8 0] 5)) hbc_)).2.2.2⟩ (fun hHeld => ?_)
    clear hK K
    refine norm_ (a' := ?_) ?_ ?_
    rotate_left
    ·show Act.put _ (some 55) _ = _
     simp only [Act.put, List.setIfInBounds_toArray, List.set_cons_zero, List.set_cons_succ, i64_w, i32_w]
     rfl
    refine pure_ (i := 8) (N := some 47) (v := ?_) (a' := ?_) #[true, true, true, true, true, true, true, true, true, false, false, false, false, false] rfl rfl (by kernel_rfl) (fun _ _ _ h => h) (Or.inl ⟨by rfl, ?_⟩) ?_ ?_
    rotate_left
    ·intro w'
     go_simp
     with_reducible rfl
    rotate_left
    ·simp only [Act.put, List.setIfInBounds_toArray, List.set_cons_zero, List.set_cons_succ, i64_w, i32_w]
     rfl
    refine pure_ (i := 9) (N := some 56) (v := ?_) (a' := ?_) #[true, true, true, true, true, true, true, true, true, true, false, false, false, false] rfl rfl (by kernel_rfl) (fun _ _ _ h => h) (Or.inl ⟨by rfl, ?_⟩) ?_ ?_
    rotate_left
    ·intro w'
     go_simp
     with_reducible rfl
    rotate_left
    ·simp only [Act.put, List.setIfInBounds_toArray, List.set_cons_zero, List.set_cons_succ, i64_w, i32_w]
     rfl
    refine pure_ (i := 10) (N := some 57) (v := ?_) (a' := ?_) #[true, true, true, true, true, true, true, true, true, true, true, false, false, false] rfl rfl (by kernel_rfl) (fun _ _ _ h => h) (Or.inl ⟨by rfl, ?_⟩) ?_ ?_
    rotate_left
    ·intro w'
     go_simp
     with_reducible rfl
    rotate_left
    ·simp only [Act.put, List.setIfInBounds_toArray, List.set_cons_zero, List.set_cons_succ, i64_w, i32_w]
     rfl
    refine one_ (i := 11) (N := some 11) #[true, true, true, true, true, true, true, true, true, true, true, true, false, false] rfl rfl (by kernel_rfl) (by decide) (fun K hK => ?_)
    refine value_ (w1 := ?_) (v := ?_) (by rfl) rfl ?_ ?_
    rotate_left 2
    ·go_simp
     constructor
     ·rfl
     ·rfl
    refine hK.out _ _ ⟨((blk_cell (blk_below HEd.out (below_alloc (below_step (below_alloc (Below.refl wd.heap.size wd) (.cells #[.int .u8 0] 5)) hbc_) (.cells #[.int .i64 0, .int .i64 0, .bool false, .bool false, .bool false, .int .i64 0, .string (⟨#[]⟩ : ByteArray), .bool false, .int .i64 0] 50))) 0).trans rfl), ((blk_cell (blk_below HEd.out (below_alloc (below_step (below_alloc (Below.refl wd.heap.size wd) (.cells #[.int .u8 0] 5)) hbc_) (.cells #[.int .i64 0, .int .i64 0, .bool false, .bool false, .bool false, .int .i64 0, .string (⟨#[]⟩ : ByteArray), .bool false, .int .i64 0] 50))) 1).trans rfl), ((blk_cell (blk_below HEd.out (below_alloc (below_step (below_alloc (Below.refl wd.heap.size wd) (.cells #[.int .u8 0] 5)) hbc_) (.cells #[.int .i64 0, .int .i64 0, .bool false, .bool false, .bool false, .int .i64 0, .string (⟨#[]⟩ : ByteArray), .bool false, .int .i64 0] 50))) 2).trans rfl), ((blk_cell (blk_below HEd.out (below_alloc (below_step (below_alloc (Below.refl wd.heap.size wd) (.cells #[.int .u8 0] 5)) hbc_) (.cells #[.int .i64 0, .int .i64 0, .bool false, .bool false, .bool false, .int .i64 0, .string (⟨#[]⟩ : ByteArray), .bool false, .int .i64 0] 50))) 3).trans rfl), ((blk_cell (blk_below HEd.out (below_alloc (below_step (below_alloc (Below.refl wd.heap.size wd) (.cells #[.int .u8 0] 5)) hbc_) (.cells #[.int .i64 0, .int .i64 0, .bool false, .bool false, .bool false, .int .i64 0, .string (⟨#[]⟩ : ByteArray), .bool false, .int .i64 0] 50))) 4).trans rfl), ((blk_cell (blk_below HEd.out (below_alloc (below_step (below_alloc (Below.refl wd.heap.size wd) (.cells #[.int .u8 0] 5)) hbc_) (.cells #[.int .i64 0, .int .i64 0, .bool false, .bool false, .bool false, .int .i64 0, .string (⟨#[]⟩ : ByteArray), .bool false, .int .i64 0] 50))) 5).trans rfl), ((blk_cell (blk_below HEd.out (below_alloc (below_step (below_alloc (Below.refl wd.heap.size wd) (.cells #[.int .u8 0] 5)) hbc_) (.cells #[.int .i64 0, .int .i64 0, .bool false, .bool false, .bool false, .int .i64 0, .string (⟨#[]⟩ : ByteArray), .bool false, .int .i64 0] 50))) 6).trans rfl), ((blk_cell (blk_below HEd.out (below_alloc (below_step (below_alloc (Below.refl wd.heap.size wd) (.cells #[.int .u8 0] 5)) hbc_) (.cells #[.int .i64 0, .int .i64 0, .bool false, .bool false, .bool false, .int .i64 0, .string (⟨#[]⟩ : ByteArray), .bool false, .int .i64 0] 50))) 7).trans rfl), ((blk_cell (blk_below HEd.out (below_alloc (below_step (below_alloc (Below.refl wd.heap.size wd) (.cells #[.int .u8 0] 5)) hbc_) (.cells #[.int .i64 0, .int .i64 0, .bool false, .bool false, .bool false, .int .i64 0, .string (⟨#[]⟩ : ByteArray), .bool false, .int .i64 0] 50))) 8).trans rfl), (HFd.out _ (below_alloc (below_step (below_alloc (Below.refl wd.heap.size wd) (.cells #[.int .u8 0] 5)) hbc_) (.cells #[.int .i64 0, .int .i64 0, .bool false, .bool false, .bool false, .int .i64 0, .string (⟨#[]⟩ : ByteArray), .bool false, .int .i64 0] 50))).1, (HFd.out _ (below_alloc (below_step (below_alloc (Below.refl wd.heap.size wd) (.cells #[.int .u8 0] 5)) hbc_) (.cells #[.int .i64 0, .int .i64 0, .bool false, .bool false, .bool false, .int .i64 0, .string (⟨#[]⟩ : ByteArray), .bool false, .int .i64 0] 50))).2.1, (HFd.out _ (below_alloc (below_step (below_alloc (Below.refl wd.heap.size wd) (.cells #[.int .u8 0] 5)) hbc_) (.cells #[.int .i64 0, .int .i64 0, .bool false, .bool false, .bool false, .int .i64 0, .string (⟨#[]⟩ : ByteArray), .bool false, .int .i64 0] 50))).2.2.1, (HFd.out _ (below_alloc (below_step (below_alloc (Below.refl wd.heap.size wd) (.cells #[.int .u8 0] 5)) hbc_) (.cells #[.int .i64 0, .int .i64 0, .bool false, .bool false, .bool false, .int .i64 0, .string (⟨#[]⟩ : ByteArray), .bool false, .int .i64 0] 50))).2.2.2⟩ (fun hHeld => ?_)
    clear hK K
    refine norm_ (a' := ?_) ?_ ?_
    rotate_left
    ·show Act.put _ (some 11) _ = _
     simp only [Act.put, List.setIfInBounds_toArray, List.set_cons_zero, List.set_cons_succ, i64_w, i32_w]
     rfl
    exact norm_ (by simp only [putAll, Act.put, List.setIfInBounds_toArray, List.set_cons_zero, List.set_cons_succ]) (hCont (wd.heap.size, wc_.heap.size) _ ⟨blk_new wc_ (.cells #[.int .i64 0, .int .i64 0, .bool false, .bool false, .bool false, .int .i64 0, .string (⟨#[]⟩ : ByteArray), .bool false, .int .i64 0] 50), (below_alloc (below_step (below_alloc (Below.refl wd.heap.size wd) (.cells #[.int .u8 0] 5)) hbc_) (.cells #[.int .i64 0, .int .i64 0, .bool false, .bool false, .bool false, .int .i64 0, .string (⟨#[]⟩ : ByteArray), .bool false, .int .i64 0] 50)), below_size (below_step (below_alloc (Below.refl wd.heap.size wd) (.cells #[.int .u8 0] 5)) hbc_)⟩)
   ·skip
    refine value_ (w1 := ?_) (v := ?_) (by rfl) rfl ?_ ?_
    rotate_left 2
    ·go_simp
     constructor
     ·rfl
     ·rfl
    refine hK.out _ _ ⟨((blk_cell (blk_below HEd.out (below_alloc (below_alloc (Below.refl wd.heap.size wd) (.cells #[.int .u8 0] 5)) (.cells #[.int .i64 0, .int .i64 0, .bool false, .bool false, .bool false, .int .i64 0, .string (⟨#[]⟩ : ByteArray), .bool false, .int .i64 0] 50))) 0).trans rfl), ((blk_cell (blk_below HEd.out (below_alloc (below_alloc (Below.refl wd.heap.size wd) (.cells #[.int .u8 0] 5)) (.cells #[.int .i64 0, .int .i64 0, .bool false, .bool false, .bool false, .int .i64 0, .string (⟨#[]⟩ : ByteArray), .bool false, .int .i64 0] 50))) 1).trans rfl), ((blk_cell (blk_below HEd.out (below_alloc (below_alloc (Below.refl wd.heap.size wd) (.cells #[.int .u8 0] 5)) (.cells #[.int .i64 0, .int .i64 0, .bool false, .bool false, .bool false, .int .i64 0, .string (⟨#[]⟩ : ByteArray), .bool false, .int .i64 0] 50))) 2).trans rfl), ((blk_cell (blk_below HEd.out (below_alloc (below_alloc (Below.refl wd.heap.size wd) (.cells #[.int .u8 0] 5)) (.cells #[.int .i64 0, .int .i64 0, .bool false, .bool false, .bool false, .int .i64 0, .string (⟨#[]⟩ : ByteArray), .bool false, .int .i64 0] 50))) 3).trans rfl), ((blk_cell (blk_below HEd.out (below_alloc (below_alloc (Below.refl wd.heap.size wd) (.cells #[.int .u8 0] 5)) (.cells #[.int .i64 0, .int .i64 0, .bool false, .bool false, .bool false, .int .i64 0, .string (⟨#[]⟩ : ByteArray), .bool false, .int .i64 0] 50))) 4).trans rfl), ((blk_cell (blk_below HEd.out (below_alloc (below_alloc (Below.refl wd.heap.size wd) (.cells #[.int .u8 0] 5)) (.cells #[.int .i64 0, .int .i64 0, .bool false, .bool false, .bool false, .int .i64 0, .string (⟨#[]⟩ : ByteArray), .bool false, .int .i64 0] 50))) 5).trans rfl), ((blk_cell (blk_below HEd.out (below_alloc (below_alloc (Below.refl wd.heap.size wd) (.cells #[.int .u8 0] 5)) (.cells #[.int .i64 0, .int .i64 0, .bool false, .bool false, .bool false, .int .i64 0, .string (⟨#[]⟩ : ByteArray), .bool false, .int .i64 0] 50))) 6).trans rfl), ((blk_cell (blk_below HEd.out (below_alloc (below_alloc (Below.refl wd.heap.size wd) (.cells #[.int .u8 0] 5)) (.cells #[.int .i64 0, .int .i64 0, .bool false, .bool false, .bool false, .int .i64 0, .string (⟨#[]⟩ : ByteArray), .bool false, .int .i64 0] 50))) 7).trans rfl), ((blk_cell (blk_below HEd.out (below_alloc (below_alloc (Below.refl wd.heap.size wd) (.cells #[.int .u8 0] 5)) (.cells #[.int .i64 0, .int .i64 0, .bool false, .bool false, .bool false, .int .i64 0, .string (⟨#[]⟩ : ByteArray), .bool false, .int .i64 0] 50))) 8).trans rfl), (HFd.out _ (below_alloc (below_alloc (Below.refl wd.heap.size wd) (.cells #[.int .u8 0] 5)) (.cells #[.int .i64 0, .int .i64 0, .bool false, .bool false, .bool false, .int .i64 0, .string (⟨#[]⟩ : ByteArray), .bool false, .int .i64 0] 50))).1, (HFd.out _ (below_alloc (below_alloc (Below.refl wd.heap.size wd) (.cells #[.int .u8 0] 5)) (.cells #[.int .i64 0, .int .i64 0, .bool false, .bool false, .bool false, .int .i64 0, .string (⟨#[]⟩ : ByteArray), .bool false, .int .i64 0] 50))).2.1, (HFd.out _ (below_alloc (below_alloc (Below.refl wd.heap.size wd) (.cells #[.int .u8 0] 5)) (.cells #[.int .i64 0, .int .i64 0, .bool false, .bool false, .bool false, .int .i64 0, .string (⟨#[]⟩ : ByteArray), .bool false, .int .i64 0] 50))).2.2.1, (HFd.out _ (below_alloc (below_alloc (Below.refl wd.heap.size wd) (.cells #[.int .u8 0] 5)) (.cells #[.int .i64 0, .int .i64 0, .bool false, .bool false, .bool false, .int .i64 0, .string (⟨#[]⟩ : ByteArray), .bool false, .int .i64 0] 50))).2.2.2⟩ (fun hHeld => ?_)
    clear hK K
    refine norm_ (a' := ?_) ?_ ?_
    rotate_left
    ·show Act.put _ (some 11) _ = _
     simp only [Act.put, List.setIfInBounds_toArray, List.set_cons_zero, List.set_cons_succ, i64_w, i32_w]
     rfl
    refine one_ (i := 7) (N := some 55) #[true, true, true, true, true, true, true, true, false, false, false, true, false, false] rfl rfl (by kernel_rfl) (by decide) (fun K hK => ?_)
    refine goes_ Tryd.func29 (by kernel_rfl) rfl #[.agg #[.int .i64 0, .int .i64 0, .int .i64 0, .int .i64 0, .string (⟨#[]⟩ : ByteArray), .string (⟨#[]⟩ : ByteArray), .int .i64 0, .int .u32 0, .bool false], .agg #[.int .i64 49187, .int .i64 0, .bool false, .bool false, .bool false, .int .i64 0, .string (⟨#[]⟩ : ByteArray), .bool false, .int .i64 0], .agg #[.int .i64 9, .int .i64 49187, .int .i64 7, .string (⟨#[]⟩ : ByteArray)], .int .i64 49187, .agg #[.int .i64 2, .int .i64 7, .slice (some ⟨wd.heap.size, 0, none⟩) 1 1]] (by rfl) rfl rfl (by simp only [List.map_toArray, List.map_cons, List.map_nil]; rfl) ?_
    with_reducible refine (awake_ans1c _ _ (Kd.C_alloc (C_zero wd _ rfl) _)).mono ?_
    rintro e wc_ ⟨rfl, hbc_⟩
    refine ⟨_, rfl, ?_⟩
    refine hK.out _ _ ⟨((blk_cell (blk_below HEd.out (below_step (below_alloc (below_alloc (Below.refl wd.heap.size wd) (.cells #[.int .u8 0] 5)) (.cells #[.int .i64 0, .int .i64 0, .bool false, .bool false, .bool false, .int .i64 0, .string (⟨#[]⟩ : ByteArray), .bool false, .int .i64 0] 50)) hbc_)) 0).trans rfl), ((blk_cell (blk_below HEd.out (below_step (below_alloc (below_alloc (Below.refl wd.heap.size wd) (.cells #[.int .u8 0] 5)) (.cells #[.int .i64 0, .int .i64 0, .bool false, .bool false, .bool false, .int .i64 0, .string (⟨#[]⟩ : ByteArray), .bool false, .int .i64 0] 50)) hbc_)) 1).trans rfl), ((blk_cell (blk_below HEd.out (below_step (below_alloc (below_alloc (Below.refl wd.heap.size wd) (.cells #[.int .u8 0] 5)) (.cells #[.int .i64 0, .int .i64 0, .bool false, .bool false, .bool false, .int .i64 0, .string (⟨#[]⟩ : ByteArray), .bool false, .int .i64 0] 50)) hbc_)) 2).trans rfl), ((blk_cell (blk_below HEd.out (below_step (below_alloc (below_alloc (Below.refl wd.heap.size wd) (.cells #[.int .u8 0] 5)) (.cells #[.int .i64 0, .int .i64 0, .bool false, .bool false, .bool false, .int .i64 0, .string (⟨#[]⟩ : ByteArray), .bool false, .int .i64 0] 50)) hbc_)) 3).trans rfl), ((blk_cell (blk_below HEd.out (below_step (below_alloc (below_alloc (Below.refl wd.heap.size wd) (.cells #[.int .u8 0] 5)) (.cells #[.int .i64 0, .int .i64 0, .bool false, .bool false, .bool false, .int .i64 0, .string (⟨#[]⟩ : ByteArray), .bool false, .int .i64 0] 50)) hbc_)) 4).trans rfl), ((blk_cell (blk_below HEd.out (below_step (below_alloc (below_alloc (Below.refl wd.heap.size wd) (.cells #[.int .u8 0] 5)) (.cells #[.int .i64 0, .int .i64 0, .bool false, .bool false, .bool false, .int .i64 0, .string (⟨#[]⟩ : ByteArray), .bool false, .int .i64 0] 50)) hbc_)) 5).trans rfl), ((blk_cell (blk_below HEd.out (below_step (below_alloc (below_alloc (Below.refl wd.heap.size wd) (.cells #[.int .u8 0] 5)) (.cells #[.int .i64 0, .int .i64 0, .bool false, .bool false, .bool false, .int .i64 0, .string (⟨#[]⟩ : ByteArray), .bool false, .int .i64 0] 50)) hbc_)) 6).trans rfl), ((blk_cell (blk_below HEd.out (below_step (below_alloc (below_alloc (Below.refl wd.heap.size wd) (.cells #[.int .u8 0] 5)) (.cells #[.int .i64 0, .int .i64 0, .bool false, .bool false, .bool false, .int .i64 0, .string (⟨#[]⟩ : ByteArray), .bool false, .int .i64 0] 50)) hbc_)) 7).trans rfl), ((blk_cell (blk_below HEd.out (below_step (below_alloc (below_alloc (Below.refl wd.heap.size wd) (.cells #[.int .u8 0] 5)) (.cells #[.int .i64 0, .int .i64 0, .bool false, .bool false, .bool false, .int .i64 0, .string (⟨#[]⟩ : ByteArray), .bool false, .int .i64 0] 50)) hbc_)) 8).trans rfl), (HFd.out _ (below_step (below_alloc (below_alloc (Below.refl wd.heap.size wd) (.cells #[.int .u8 0] 5)) (.cells #[.int .i64 0, .int .i64 0, .bool false, .bool false, .bool false, .int .i64 0, .string (⟨#[]⟩ : ByteArray), .bool false, .int .i64 0] 50)) hbc_)).1, (HFd.out _ (below_step (below_alloc (below_alloc (Below.refl wd.heap.size wd) (.cells #[.int .u8 0] 5)) (.cells #[.int .i64 0, .int .i64 0, .bool false, .bool false, .bool false, .int .i64 0, .string (⟨#[]⟩ : ByteArray), .bool false, .int .i64 0] 50)) hbc_)).2.1, (HFd.out _ (below_step (below_alloc (below_alloc (Below.refl wd.heap.size wd) (.cells #[.int .u8 0] 5)) (.cells #[.int .i64 0, .int .i64 0, .bool false, .bool false, .bool false, .int .i64 0, .string (⟨#[]⟩ : ByteArray), .bool false, .int .i64 0] 50)) hbc_)).2.2.1, (HFd.out _ (below_step (below_alloc (below_alloc (Below.refl wd.heap.size wd) (.cells #[.int .u8 0] 5)) (.cells #[.int .i64 0, .int .i64 0, .bool false, .bool false, .bool false, .int .i64 0, .string (⟨#[]⟩ : ByteArray), .bool false, .int .i64 0] 50)) hbc_)).2.2.2⟩ (fun hHeld => ?_)
    clear hK K
    refine norm_ (a' := ?_) ?_ ?_
    rotate_left
    ·show Act.put _ (some 55) _ = _
     simp only [Act.put, List.setIfInBounds_toArray, List.set_cons_zero, List.set_cons_succ, i64_w, i32_w]
     rfl
    refine pure_ (i := 8) (N := some 47) (v := ?_) (a' := ?_) #[true, true, true, true, true, true, true, true, true, false, false, true, false, false] rfl rfl (by kernel_rfl) (fun _ _ _ h => h) (Or.inl ⟨by rfl, ?_⟩) ?_ ?_
    rotate_left
    ·intro w'
     go_simp
     with_reducible rfl
    rotate_left
    ·simp only [Act.put, List.setIfInBounds_toArray, List.set_cons_zero, List.set_cons_succ, i64_w, i32_w]
     rfl
    refine pure_ (i := 9) (N := some 56) (v := ?_) (a' := ?_) #[true, true, true, true, true, true, true, true, true, true, false, true, false, false] rfl rfl (by kernel_rfl) (fun _ _ _ h => h) (Or.inl ⟨by rfl, ?_⟩) ?_ ?_
    rotate_left
    ·intro w'
     go_simp
     with_reducible rfl
    rotate_left
    ·simp only [Act.put, List.setIfInBounds_toArray, List.set_cons_zero, List.set_cons_succ, i64_w, i32_w]
     rfl
    refine pure_ (i := 10) (N := some 57) (v := ?_) (a' := ?_) #[true, true, true, true, true, true, true, true, true, true, true, true, false, false] rfl rfl (by kernel_rfl) (fun _ _ _ h => h) (Or.inl ⟨by rfl, ?_⟩) ?_ ?_
    rotate_left
    ·intro w'
     go_simp
     with_reducible rfl
    rotate_left
    ·simp only [Act.put, List.setIfInBounds_toArray, List.set_cons_zero, List.set_cons_succ, i64_w, i32_w]
     rfl
    exact norm_ (by simp only [putAll, Act.put, List.setIfInBounds_toArray, List.set_cons_zero, List.set_cons_succ]) (hCont (wd.heap.size, wd.heap.size + 1) _ ⟨blk_below (blk_new2 wd (.cells #[.int .u8 0] 5) (.cells #[.int .i64 0, .int .i64 0, .bool false, .bool false, .bool false, .int .i64 0, .string (⟨#[]⟩ : ByteArray), .bool false, .int .i64 0] 50)) hbc_, (below_step (below_alloc (below_alloc (Below.refl wd.heap.size wd) (.cells #[.int .u8 0] 5)) (.cells #[.int .i64 0, .int .i64 0, .bool false, .bool false, .bool false, .int .i64 0, .string (⟨#[]⟩ : ByteArray), .bool false, .int .i64 0] 50)) hbc_), Nat.le_succ _⟩)
  ·skip
   refine value_ (w1 := ?_) (v := ?_) (by rfl) rfl ?_ ?_
   rotate_left 2
   ·go_simp
    constructor
    ·rfl
    ·rfl
   refine hK.out _ _ ⟨((blk_cell (blk_below HEd.out (below_alloc (Below.refl wd.heap.size wd) (.cells #[.int .i64 0, .int .i64 0, .bool false, .bool false, .bool false, .int .i64 0, .string (⟨#[]⟩ : ByteArray), .bool false, .int .i64 0] 50))) 0).trans rfl), ((blk_cell (blk_below HEd.out (below_alloc (Below.refl wd.heap.size wd) (.cells #[.int .i64 0, .int .i64 0, .bool false, .bool false, .bool false, .int .i64 0, .string (⟨#[]⟩ : ByteArray), .bool false, .int .i64 0] 50))) 1).trans rfl), ((blk_cell (blk_below HEd.out (below_alloc (Below.refl wd.heap.size wd) (.cells #[.int .i64 0, .int .i64 0, .bool false, .bool false, .bool false, .int .i64 0, .string (⟨#[]⟩ : ByteArray), .bool false, .int .i64 0] 50))) 2).trans rfl), ((blk_cell (blk_below HEd.out (below_alloc (Below.refl wd.heap.size wd) (.cells #[.int .i64 0, .int .i64 0, .bool false, .bool false, .bool false, .int .i64 0, .string (⟨#[]⟩ : ByteArray), .bool false, .int .i64 0] 50))) 3).trans rfl), ((blk_cell (blk_below HEd.out (below_alloc (Below.refl wd.heap.size wd) (.cells #[.int .i64 0, .int .i64 0, .bool false, .bool false, .bool false, .int .i64 0, .string (⟨#[]⟩ : ByteArray), .bool false, .int .i64 0] 50))) 4).trans rfl), ((blk_cell (blk_below HEd.out (below_alloc (Below.refl wd.heap.size wd) (.cells #[.int .i64 0, .int .i64 0, .bool false, .bool false, .bool false, .int .i64 0, .string (⟨#[]⟩ : ByteArray), .bool false, .int .i64 0] 50))) 5).trans rfl), ((blk_cell (blk_below HEd.out (below_alloc (Below.refl wd.heap.size wd) (.cells #[.int .i64 0, .int .i64 0, .bool false, .bool false, .bool false, .int .i64 0, .string (⟨#[]⟩ : ByteArray), .bool false, .int .i64 0] 50))) 6).trans rfl), ((blk_cell (blk_below HEd.out (below_alloc (Below.refl wd.heap.size wd) (.cells #[.int .i64 0, .int .i64 0, .bool false, .bool false, .bool false, .int .i64 0, .string (⟨#[]⟩ : ByteArray), .bool false, .int .i64 0] 50))) 7).trans rfl), ((blk_cell (blk_below HEd.out (below_alloc (Below.refl wd.heap.size wd) (.cells #[.int .i64 0, .int .i64 0, .bool false, .bool false, .bool false, .int .i64 0, .string (⟨#[]⟩ : ByteArray), .bool false, .int .i64 0] 50))) 8).trans rfl), (HFd.out _ (below_alloc (Below.refl wd.heap.size wd) (.cells #[.int .i64 0, .int .i64 0, .bool false, .bool false, .bool false, .int .i64 0, .string (⟨#[]⟩ : ByteArray), .bool false, .int .i64 0] 50))).1, (HFd.out _ (below_alloc (Below.refl wd.heap.size wd) (.cells #[.int .i64 0, .int .i64 0, .bool false, .bool false, .bool false, .int .i64 0, .string (⟨#[]⟩ : ByteArray), .bool false, .int .i64 0] 50))).2.1, (HFd.out _ (below_alloc (Below.refl wd.heap.size wd) (.cells #[.int .i64 0, .int .i64 0, .bool false, .bool false, .bool false, .int .i64 0, .string (⟨#[]⟩ : ByteArray), .bool false, .int .i64 0] 50))).2.2.1, (HFd.out _ (below_alloc (Below.refl wd.heap.size wd) (.cells #[.int .i64 0, .int .i64 0, .bool false, .bool false, .bool false, .int .i64 0, .string (⟨#[]⟩ : ByteArray), .bool false, .int .i64 0] 50))).2.2.2⟩ (fun hHeld => ?_)
   clear hK K
   refine norm_ (a' := ?_) ?_ ?_
   rotate_left
   ·show Act.put _ (some 11) _ = _
    simp only [Act.put, List.setIfInBounds_toArray, List.set_cons_zero, List.set_cons_succ, i64_w, i32_w]
    rfl
   refine one_ (i := 5) (N := some 53) #[true, true, true, true, true, true, false, false, false, false, false, true, false, false] rfl rfl (by kernel_rfl) (by decide) (fun K hK => ?_)
   refine value_ (w1 := ?_) (v := ?_) (by rfl) rfl ?_ ?_
   rotate_left 2
   ·go_simp
    constructor
    ·rfl
    ·rfl
   refine hK.out _ _ ⟨((blk_cell (blk_below HEd.out (below_alloc (below_alloc (Below.refl wd.heap.size wd) (.cells #[.int .i64 0, .int .i64 0, .bool false, .bool false, .bool false, .int .i64 0, .string (⟨#[]⟩ : ByteArray), .bool false, .int .i64 0] 50)) (.cells #[.int .u8 0] 5))) 0).trans rfl), ((blk_cell (blk_below HEd.out (below_alloc (below_alloc (Below.refl wd.heap.size wd) (.cells #[.int .i64 0, .int .i64 0, .bool false, .bool false, .bool false, .int .i64 0, .string (⟨#[]⟩ : ByteArray), .bool false, .int .i64 0] 50)) (.cells #[.int .u8 0] 5))) 1).trans rfl), ((blk_cell (blk_below HEd.out (below_alloc (below_alloc (Below.refl wd.heap.size wd) (.cells #[.int .i64 0, .int .i64 0, .bool false, .bool false, .bool false, .int .i64 0, .string (⟨#[]⟩ : ByteArray), .bool false, .int .i64 0] 50)) (.cells #[.int .u8 0] 5))) 2).trans rfl), ((blk_cell (blk_below HEd.out (below_alloc (below_alloc (Below.refl wd.heap.size wd) (.cells #[.int .i64 0, .int .i64 0, .bool false, .bool false, .bool false, .int .i64 0, .string (⟨#[]⟩ : ByteArray), .bool false, .int .i64 0] 50)) (.cells #[.int .u8 0] 5))) 3).trans rfl), ((blk_cell (blk_below HEd.out (below_alloc (below_alloc (Below.refl wd.heap.size wd) (.cells #[.int .i64 0, .int .i64 0, .bool false, .bool false, .bool false, .int .i64 0, .string (⟨#[]⟩ : ByteArray), .bool false, .int .i64 0] 50)) (.cells #[.int .u8 0] 5))) 4).trans rfl), ((blk_cell (blk_below HEd.out (below_alloc (below_alloc (Below.refl wd.heap.size wd) (.cells #[.int .i64 0, .int .i64 0, .bool false, .bool false, .bool false, .int .i64 0, .string (⟨#[]⟩ : ByteArray), .bool false, .int .i64 0] 50)) (.cells #[.int .u8 0] 5))) 5).trans rfl), ((blk_cell (blk_below HEd.out (below_alloc (below_alloc (Below.refl wd.heap.size wd) (.cells #[.int .i64 0, .int .i64 0, .bool false, .bool false, .bool false, .int .i64 0, .string (⟨#[]⟩ : ByteArray), .bool false, .int .i64 0] 50)) (.cells #[.int .u8 0] 5))) 6).trans rfl), ((blk_cell (blk_below HEd.out (below_alloc (below_alloc (Below.refl wd.heap.size wd) (.cells #[.int .i64 0, .int .i64 0, .bool false, .bool false, .bool false, .int .i64 0, .string (⟨#[]⟩ : ByteArray), .bool false, .int .i64 0] 50)) (.cells #[.int .u8 0] 5))) 7).trans rfl), ((blk_cell (blk_below HEd.out (below_alloc (below_alloc (Below.refl wd.heap.size wd) (.cells #[.int .i64 0, .int .i64 0, .bool false, .bool false, .bool false, .int .i64 0, .string (⟨#[]⟩ : ByteArray), .bool false, .int .i64 0] 50)) (.cells #[.int .u8 0] 5))) 8).trans rfl), (HFd.out _ (below_alloc (below_alloc (Below.refl wd.heap.size wd) (.cells #[.int .i64 0, .int .i64 0, .bool false, .bool false, .bool false, .int .i64 0, .string (⟨#[]⟩ : ByteArray), .bool false, .int .i64 0] 50)) (.cells #[.int .u8 0] 5))).1, (HFd.out _ (below_alloc (below_alloc (Below.refl wd.heap.size wd) (.cells #[.int .i64 0, .int .i64 0, .bool false, .bool false, .bool false, .int .i64 0, .string (⟨#[]⟩ : ByteArray), .bool false, .int .i64 0] 50)) (.cells #[.int .u8 0] 5))).2.1, (HFd.out _ (below_alloc (below_alloc (Below.refl wd.heap.size wd) (.cells #[.int .i64 0, .int .i64 0, .bool false, .bool false, .bool false, .int .i64 0, .string (⟨#[]⟩ : ByteArray), .bool false, .int .i64 0] 50)) (.cells #[.int .u8 0] 5))).2.2.1, (HFd.out _ (below_alloc (below_alloc (Below.refl wd.heap.size wd) (.cells #[.int .i64 0, .int .i64 0, .bool false, .bool false, .bool false, .int .i64 0, .string (⟨#[]⟩ : ByteArray), .bool false, .int .i64 0] 50)) (.cells #[.int .u8 0] 5))).2.2.2⟩ (fun hHeld => ?_)
   clear hK K
   refine norm_ (a' := ?_) ?_ ?_
   rotate_left
   ·show Act.put _ (some 53) _ = _
    simp only [Act.put, List.setIfInBounds_toArray, List.set_cons_zero, List.set_cons_succ, i64_w, i32_w]
    rfl
   refine pure_ (i := 6) (N := some 54) (v := ?_) (a' := ?_) #[true, true, true, true, true, true, true, false, false, false, false, true, false, false] rfl rfl (by kernel_rfl) (fun _ _ _ h => h) (Or.inl ⟨by rfl, ?_⟩) ?_ ?_
   rotate_left
   ·intro w'
    go_simp
    with_reducible rfl
   rotate_left
   ·simp only [Act.put, List.setIfInBounds_toArray, List.set_cons_zero, List.set_cons_succ, i64_w, i32_w]
    rfl
   refine one_ (i := 7) (N := some 55) #[true, true, true, true, true, true, true, true, false, false, false, true, false, false] rfl rfl (by kernel_rfl) (by decide) (fun K hK => ?_)
   refine goes_ Tryd.func29 (by kernel_rfl) rfl #[.agg #[.int .i64 0, .int .i64 0, .int .i64 0, .int .i64 0, .string (⟨#[]⟩ : ByteArray), .string (⟨#[]⟩ : ByteArray), .int .i64 0, .int .u32 0, .bool false], .agg #[.int .i64 49187, .int .i64 0, .bool false, .bool false, .bool false, .int .i64 0, .string (⟨#[]⟩ : ByteArray), .bool false, .int .i64 0], .agg #[.int .i64 9, .int .i64 49187, .int .i64 7, .string (⟨#[]⟩ : ByteArray)], .int .i64 49187, .agg #[.int .i64 2, .int .i64 7, .slice (some ⟨wd.heap.size + 1, 0, none⟩) 1 1]] (by rfl) rfl rfl (by simp only [List.map_toArray, List.map_cons, List.map_nil]; rfl) ?_
   with_reducible refine (awake_ans1c _ _ (C_zero (wd.alloc _) _ (World.size_alloc ..))).mono ?_
   rintro e wc_ ⟨rfl, hbc_⟩
   refine ⟨_, rfl, ?_⟩
   refine hK.out _ _ ⟨((blk_cell (blk_below HEd.out (below_step (below_alloc (below_alloc (Below.refl wd.heap.size wd) (.cells #[.int .i64 0, .int .i64 0, .bool false, .bool false, .bool false, .int .i64 0, .string (⟨#[]⟩ : ByteArray), .bool false, .int .i64 0] 50)) (.cells #[.int .u8 0] 5)) hbc_)) 0).trans rfl), ((blk_cell (blk_below HEd.out (below_step (below_alloc (below_alloc (Below.refl wd.heap.size wd) (.cells #[.int .i64 0, .int .i64 0, .bool false, .bool false, .bool false, .int .i64 0, .string (⟨#[]⟩ : ByteArray), .bool false, .int .i64 0] 50)) (.cells #[.int .u8 0] 5)) hbc_)) 1).trans rfl), ((blk_cell (blk_below HEd.out (below_step (below_alloc (below_alloc (Below.refl wd.heap.size wd) (.cells #[.int .i64 0, .int .i64 0, .bool false, .bool false, .bool false, .int .i64 0, .string (⟨#[]⟩ : ByteArray), .bool false, .int .i64 0] 50)) (.cells #[.int .u8 0] 5)) hbc_)) 2).trans rfl), ((blk_cell (blk_below HEd.out (below_step (below_alloc (below_alloc (Below.refl wd.heap.size wd) (.cells #[.int .i64 0, .int .i64 0, .bool false, .bool false, .bool false, .int .i64 0, .string (⟨#[]⟩ : ByteArray), .bool false, .int .i64 0] 50)) (.cells #[.int .u8 0] 5)) hbc_)) 3).trans rfl), ((blk_cell (blk_below HEd.out (below_step (below_alloc (below_alloc (Below.refl wd.heap.size wd) (.cells #[.int .i64 0, .int .i64 0, .bool false, .bool false, .bool false, .int .i64 0, .string (⟨#[]⟩ : ByteArray), .bool false, .int .i64 0] 50)) (.cells #[.int .u8 0] 5)) hbc_)) 4).trans rfl), ((blk_cell (blk_below HEd.out (below_step (below_alloc (below_alloc (Below.refl wd.heap.size wd) (.cells #[.int .i64 0, .int .i64 0, .bool false, .bool false, .bool false, .int .i64 0, .string (⟨#[]⟩ : ByteArray), .bool false, .int .i64 0] 50)) (.cells #[.int .u8 0] 5)) hbc_)) 5).trans rfl), ((blk_cell (blk_below HEd.out (below_step (below_alloc (below_alloc (Below.refl wd.heap.size wd) (.cells #[.int .i64 0, .int .i64 0, .bool false, .bool false, .bool false, .int .i64 0, .string (⟨#[]⟩ : ByteArray), .bool false, .int .i64 0] 50)) (.cells #[.int .u8 0] 5)) hbc_)) 6).trans rfl), ((blk_cell (blk_below HEd.out (below_step (below_alloc (below_alloc (Below.refl wd.heap.size wd) (.cells #[.int .i64 0, .int .i64 0, .bool false, .bool false, .bool false, .int .i64 0, .string (⟨#[]⟩ : ByteArray), .bool false, .int .i64 0] 50)) (.cells #[.int .u8 0] 5)) hbc_)) 7).trans rfl), ((blk_cell (blk_below HEd.out (below_step (below_alloc (below_alloc (Below.refl wd.heap.size wd) (.cells #[.int .i64 0, .int .i64 0, .bool false, .bool false, .bool false, .int .i64 0, .string (⟨#[]⟩ : ByteArray), .bool false, .int .i64 0] 50)) (.cells #[.int .u8 0] 5)) hbc_)) 8).trans rfl), (HFd.out _ (below_step (below_alloc (below_alloc (Below.refl wd.heap.size wd) (.cells #[.int .i64 0, .int .i64 0, .bool false, .bool false, .bool false, .int .i64 0, .string (⟨#[]⟩ : ByteArray), .bool false, .int .i64 0] 50)) (.cells #[.int .u8 0] 5)) hbc_)).1, (HFd.out _ (below_step (below_alloc (below_alloc (Below.refl wd.heap.size wd) (.cells #[.int .i64 0, .int .i64 0, .bool false, .bool false, .bool false, .int .i64 0, .string (⟨#[]⟩ : ByteArray), .bool false, .int .i64 0] 50)) (.cells #[.int .u8 0] 5)) hbc_)).2.1, (HFd.out _ (below_step (below_alloc (below_alloc (Below.refl wd.heap.size wd) (.cells #[.int .i64 0, .int .i64 0, .bool false, .bool false, .bool false, .int .i64 0, .string (⟨#[]⟩ : ByteArray), .bool false, .int .i64 0] 50)) (.cells #[.int .u8 0] 5)) hbc_)).2.2.1, (HFd.out _ (below_step (below_alloc (below_alloc (Below.refl wd.heap.size wd) (.cells #[.int .i64 0, .int .i64 0, .bool false, .bool false, .bool false, .int .i64 0, .string (⟨#[]⟩ : ByteArray), .bool false, .int .i64 0] 50)) (.cells #[.int .u8 0] 5)) hbc_)).2.2.2⟩ (fun hHeld => ?_)
   clear hK K
   refine norm_ (a' := ?_) ?_ ?_
   rotate_left
   ·show Act.put _ (some 55) _ = _
    simp only [Act.put, List.setIfInBounds_toArray, List.set_cons_zero, List.set_cons_succ, i64_w, i32_w]
    rfl
   refine pure_ (i := 8) (N := some 47) (v := ?_) (a' := ?_) #[true, true, true, true, true, true, true, true, true, false, false, true, false, false] rfl rfl (by kernel_rfl) (fun _ _ _ h => h) (Or.inl ⟨by rfl, ?_⟩) ?_ ?_
   rotate_left
   ·intro w'
    go_simp
    with_reducible rfl
   rotate_left
   ·simp only [Act.put, List.setIfInBounds_toArray, List.set_cons_zero, List.set_cons_succ, i64_w, i32_w]
    rfl
   refine pure_ (i := 9) (N := some 56) (v := ?_) (a' := ?_) #[true, true, true, true, true, true, true, true, true, true, false, true, false, false] rfl rfl (by kernel_rfl) (fun _ _ _ h => h) (Or.inl ⟨by rfl, ?_⟩) ?_ ?_
   rotate_left
   ·intro w'
    go_simp
    with_reducible rfl
   rotate_left
   ·simp only [Act.put, List.setIfInBounds_toArray, List.set_cons_zero, List.set_cons_succ, i64_w, i32_w]
    rfl
   refine pure_ (i := 10) (N := some 57) (v := ?_) (a' := ?_) #[true, true, true, true, true, true, true, true, true, true, true, true, false, false] rfl rfl (by kernel_rfl) (fun _ _ _ h => h) (Or.inl ⟨by rfl, ?_⟩) ?_ ?_
   rotate_left
   ·intro w'
    go_simp
    with_reducible rfl
   rotate_left
   ·simp only [Act.put, List.setIfInBounds_toArray, List.set_cons_zero, List.set_cons_succ, i64_w, i32_w]
    rfl
   exact norm_ (by simp only [putAll, Act.put, List.setIfInBounds_toArray, List.set_cons_zero, List.set_cons_succ]) (hCont (wd.heap.size + 1, wd.heap.size) _ ⟨blk_below (blk_alloc (blk_new wd (.cells #[.int .i64 0, .int .i64 0, .bool false, .bool false, .bool false, .int .i64 0, .string (⟨#[]⟩ : ByteArray), .bool false, .int .i64 0] 50)) (.cells #[.int .u8 0] 5)) hbc_, (below_step (below_alloc (below_alloc (Below.refl wd.heap.size wd) (.cells #[.int .i64 0, .int .i64 0, .bool false, .bool false, .bool false, .int .i64 0, .string (⟨#[]⟩ : ByteArray), .bool false, .int .i64 0] 50)) (.cells #[.int .u8 0] 5)) hbc_), Nat.le_refl _⟩)
 rintro ⟨gs_, gg⟩ wz ⟨hz1_, hz2_, hz3_⟩
 have HZ := Aside0.mk hz1_
 have HZB := Aside0.mk hz2_
 have HZL := Aside0.mk hz3_
 clear hz1_ hz2_ hz3_
 have hHeld := True.intro
 refine norm_ (a' := ?_) ?_ ?_
 rotate_left
 ·simp only [putAll, Act.put, List.setIfInBounds_toArray, List.set_cons_zero, List.set_cons_succ]
  rfl
 refine last_ (i := 12) (N := none) #[true, true, true, true, true, true, true, true, true, true, true, true, true, false] rfl rfl (by kernel_rfl) (by decide) (fun K hK => ?_)
 obtain ⟨y0_, y1_, y2_, y3_, y4_, y5_, y6_, y7_, y8_, yf0_, yf1_, yf2_, yf3_, yf4_, yf5_, yf6_, yf7_, yf8_⟩ := cells9 HZ.out
 refine skip_ (w1 := ?_) (by rfl) rfl ?_ ?_
 rotate_left
 ·go_simp
  rfl
 refine hK.out _ _ ?_
 clear hK K
 refine pure_ (i := 13) (N := some 12) (v := ?_) (a' := ?_) #[true, true, true, true, true, true, true, true, true, true, true, true, true, true] rfl rfl (by kernel_rfl) (fun _ _ _ h => h) (Or.inl ⟨by rfl, ?_⟩) ?_ ?_
 rotate_left
 ·intro w'
  go_simp
  with_reducible rfl
 rotate_left
 ·simp only [Act.put, List.setIfInBounds_toArray, List.set_cons_zero, List.set_cons_succ, i64_w, i32_w]
  rfl
 refine done_ (by kernel_rfl) ?_
 have hN : Below wd.heap.size wd (((((((((wz.setCell ⟨gg, 0, none⟩ (.int .i64 49187)).setCell ⟨gg, 1, none⟩ (.int .i64 0)).setCell ⟨gg, 2, none⟩ (.bool true)).setCell ⟨gg, 3, none⟩ (.bool false)).setCell ⟨gg, 4, none⟩ (.bool false)).setCell ⟨gg, 5, none⟩ (.int .i64 0)).setCell ⟨gg, 6, none⟩ (.string (⟨#[]⟩ : ByteArray))).setCell ⟨gg, 7, none⟩ (.bool false)).setCell ⟨gg, 8, none⟩ (.int .i64 0)) := set9_below HZB.out HZL.out (.int .i64 49187) (.int .i64 0) (.bool true) (.bool false) (.bool false) (.int .i64 0) (.string (⟨#[]⟩ : ByteArray)) (.bool false) (.int .i64 0)
 have hG : (((((((((wz.setCell ⟨gg, 0, none⟩ (.int .i64 49187)).setCell ⟨gg, 1, none⟩ (.int .i64 0)).setCell ⟨gg, 2, none⟩ (.bool true)).setCell ⟨gg, 3, none⟩ (.bool false)).setCell ⟨gg, 4, none⟩ (.bool false)).setCell ⟨gg, 5, none⟩ (.int .i64 0)).setCell ⟨gg, 6, none⟩ (.string (⟨#[]⟩ : ByteArray))).setCell ⟨gg, 7, none⟩ (.bool false)).setCell ⟨gg, 8, none⟩ (.int .i64 0)).heap[gg]? = some (.cells #[.int .i64 49187, .int .i64 0, .bool true, .bool false, .bool false, .int .i64 0, .string (⟨#[]⟩ : ByteArray), .bool false, .int .i64 0] 50 (0, 0)) := set9_row HZ.out (.int .i64 49187) (.int .i64 0) (.bool true) (.bool false) (.bool false) (.int .i64 0) (.string (⟨#[]⟩ : ByteArray)) (.bool false) (.int .i64 0)
 generalize (((((((((wz.setCell ⟨gg, 0, none⟩ (.int .i64 49187)).setCell ⟨gg, 1, none⟩ (.int .i64 0)).setCell ⟨gg, 2, none⟩ (.bool true)).setCell ⟨gg, 3, none⟩ (.bool false)).setCell ⟨gg, 4, none⟩ (.bool false)).setCell ⟨gg, 5, none⟩ (.int .i64 0)).setCell ⟨gg, 6, none⟩ (.string (⟨#[]⟩ : ByteArray))).setCell ⟨gg, 7, none⟩ (.bool false)).setCell ⟨gg, 8, none⟩ (.int .i64 0)) = w6 at hN hG ⊢
 have HA := Aside0.mk (blk_below HAd.out hN)
 have HD := Aside0.mk (blk_below HDd.out hN)
 have HC := Aside0.mk (blk_below HCd.out hN)
 have HE := Aside0.mk (blk_below HEd.out hN)
 have HG := Aside0.mk hG
 have HB := Aside0.mk (below_step HBd.out hN)
 have HF := Aside0.mk (fun (W : World) (hb : Below w6.heap.size w6 W) => HFd.out W (below_step hN hb))
 clear hN hG HZ HZB HZL HAd HDd HCd HEd HBd HFd
 go_wp2_with fail
 obtain ⟨e_0, e_1, e_2, e_3, e_4, e_5, e_6, e_7, e_8, e_f0, e_f1, e_f2, e_f3, e_f4, e_f5, e_f6, e_f7, e_f8⟩ := cells9 HE.out
 have lte_ := blk_lt HE.out
 obtain ⟨f0_, f1_, f2_, f3_⟩ := HF.out w6 (Below.refl _ _)
 have HAd := Aside0.mk (blk_drew HA.out)
 clear HA
 have HDd := Aside0.mk (blk_drew HD.out)
 clear HD
 have HCd := Aside0.mk (blk_drew HC.out)
 clear HC
 have HEd := Aside0.mk (blk_drew HE.out)
 clear HE
 have HGd := Aside0.mk (blk_drew HG.out)
 clear HG
 have HBd := Aside0.mk (below_drew1 HB.out)
 have HFd := Aside0.mk (fun (W : World) (hb : Below w6.drew.heap.size w6.drew W) => HF.out W (below_step (below_drew1 (Below.refl w6.heap.size w6)) hb))
 clear HB HF
 refine start_ (n := 14) (S := fun w' => w'.cell? ⟨ge, 0, none⟩ = some (.int .i64 49187) ∧ w'.cell? ⟨ge, 1, none⟩ = some (.int .i64 0) ∧ w'.cell? ⟨ge, 2, none⟩ = some (.bool false) ∧ w'.cell? ⟨ge, 3, none⟩ = some (.bool false) ∧ w'.cell? ⟨ge, 4, none⟩ = some (.bool false) ∧ w'.cell? ⟨ge, 5, none⟩ = some (.int .i64 0) ∧ w'.cell? ⟨ge, 6, none⟩ = some (.string (⟨#[]⟩ : ByteArray)) ∧ w'.cell? ⟨ge, 7, none⟩ = some (.bool false) ∧ w'.cell? ⟨ge, 8, none⟩ = some (.int .i64 0) ∧ w'.cell? ⟨gf, 0, none⟩ = some (.int .i64 9) ∧ w'.cell? ⟨gf, 1, none⟩ = some (.int .i64 49187) ∧ w'.cell? ⟨gf, 2, none⟩ = some (.int .i64 7) ∧ w'.cell? ⟨gf, 3, none⟩ = some (.string (⟨#[]⟩ : ByteArray))) (ds := [12]) #[false, false, false, false, false, false, false, false, false, false, false, false, false, false] (by kernel_rfl) rfl rfl ⟨e_0, e_1, e_2, e_3, e_4, e_5, e_6, e_7, e_8, f0_, f1_, f2_, f3_⟩ (fun hHeld => ?_)
 clear e_0 e_f0 e_1 e_f1 e_2 e_f2 e_3 e_f3 e_4 e_f4 e_5 e_f5 e_6 e_f6 e_7 e_f7 e_8 e_f8 lte_ f0_ f1_ f2_ f3_
 generalize w6.drew = wd at HAd HDd HCd HEd HBd HFd HGd hHeld ⊢
 refine pure_ (i := 0) (N := some 59) (v := ?_) (a' := ?_) #[true, false, false, false, false, false, false, false, false, false, false, false, false, false] rfl rfl (by kernel_rfl) (fun _ _ _ h => h) (Or.inl ⟨by rfl, ?_⟩) ?_ ?_
 rotate_left
 ·intro w'
  go_simp
  with_reducible rfl
 rotate_left
 ·simp only [Act.put, List.setIfInBounds_toArray, List.set_cons_zero, List.set_cons_succ, i64_w, i32_w]
  rfl
 refine pure_ (i := 2) (N := some 61) (v := ?_) (a' := ?_) #[true, false, true, false, false, false, false, false, false, false, false, false, false, false] rfl rfl (by kernel_rfl) (fun _ _ _ h => h) (Or.inl ⟨by rfl, ?_⟩) ?_ ?_
 rotate_left
 ·intro w'
  go_simp
  with_reducible rfl
 rotate_left
 ·simp only [Act.put, List.setIfInBounds_toArray, List.set_cons_zero, List.set_cons_succ, i64_w, i32_w]
  rfl
 refine pure_ (i := 3) (N := some 62) (v := ?_) (a' := ?_) #[true, false, true, true, false, false, false, false, false, false, false, false, false, false] rfl rfl (by kernel_rfl) (fun _ _ _ h => h) (Or.inl ⟨by rfl, ?_⟩) ?_ ?_
 rotate_left
 ·intro w'
  go_simp
  with_reducible rfl
 rotate_left
 ·simp only [Act.put, List.setIfInBounds_toArray, List.set_cons_zero, List.set_cons_succ, i64_w, i32_w]
  rfl
 refine take_ (i := 1) (N := some 60) (v := ?_) (a' := ?_) #[true, true, true, true, false, false, false, false, false, false, false, false, false, false] rfl rfl (by kernel_rfl) (fun _ _ _ h => h) (Or.inl ⟨by rfl, ?_⟩) hHeld ?_ ?_
 rotate_left
 ·rintro w' ⟨s0, s1, s2, s3, s4, s5, s6, s7, s8, s9, s10, s11, s12⟩
  go_simp
  with_reducible rfl
 rotate_left
 ·simp only [Act.put, List.setIfInBounds_toArray, List.set_cons_zero, List.set_cons_succ, i64_w, i32_w]
  rfl
 refine take_ (i := 4) (N := some 63) (v := ?_) (a' := ?_) #[true, true, true, true, true, false, false, false, false, false, false, false, false, false] rfl rfl (by kernel_rfl) (fun _ _ _ h => h) (Or.inl ⟨by rfl, ?_⟩) hHeld ?_ ?_
 rotate_left
 ·rintro w' ⟨s0, s1, s2, s3, s4, s5, s6, s7, s8, s9, s10, s11, s12⟩
  go_simp
  with_reducible rfl
 rotate_left
 ·simp only [Act.put, List.setIfInBounds_toArray, List.set_cons_zero, List.set_cons_succ, i64_w, i32_w]
  rfl
 refine join_ (σ := Nat × Nat) 2 #[true, true, true, true, true, true, true, true, true, true, true, true, false, false] (fun s_ => [(64, .slice (some ⟨s_.1, 0, none⟩) 1 1), (65, .agg #[.int .i64 2, .int .i64 6, .slice (some ⟨s_.1, 0, none⟩) 1 1]), (66, .tuple #[.agg #[.int .i64 49187, .int .i64 0, .bool false, .bool false, .bool false, .int .i64 0, .string (⟨#[]⟩ : ByteArray), .bool false, .int .i64 0], .bool false]), (58, .tuple #[.agg #[.int .i64 49187, .int .i64 0, .bool false, .bool false, .bool false, .int .i64 0, .string (⟨#[]⟩ : ByteArray), .bool false, .int .i64 0], .bool false]), (67, .agg #[.int .i64 49187, .int .i64 0, .bool false, .bool false, .bool false, .int .i64 0, .string (⟨#[]⟩ : ByteArray), .bool false, .int .i64 0]), (68, .bool false), (13, .pointer (some ⟨s_.2, 0, none⟩))]) (fun s_ w' => w'.heap[s_.2]? = some (.cells #[.int .i64 0, .int .i64 0, .bool false, .bool false, .bool false, .int .i64 0, .string (⟨#[]⟩ : ByteArray), .bool false, .int .i64 0] 50 (0, 0)) ∧ Below wd.heap.size wd w' ∧ wd.heap.size ≤ s_.2) ?_ ?_
 rotate_left
 ·intro hCont
  refine two_ (i := 5) (j := 11) (Ni := some 64) (Nj := some 13) #[true, true, true, true, true, true, false, false, false, false, false, false, false, false] #[true, true, true, true, true, false, false, false, false, false, false, true, false, false] rfl rfl rfl rfl (by kernel_rfl) (by decide) (by decide) (fun K hK => ?_) (fun K hK => ?_)
  ·skip
   refine value_ (w1 := ?_) (v := ?_) (by rfl) rfl ?_ ?_
   rotate_left 2
   ·go_simp
    constructor
    ·rfl
    ·rfl
   refine hK.out _ _ ⟨((blk_cell (blk_below HEd.out (below_alloc (Below.refl wd.heap.size wd) (.cells #[.int .u8 0] 5))) 0).trans rfl), ((blk_cell (blk_below HEd.out (below_alloc (Below.refl wd.heap.size wd) (.cells #[.int .u8 0] 5))) 1).trans rfl), ((blk_cell (blk_below HEd.out (below_alloc (Below.refl wd.heap.size wd) (.cells #[.int .u8 0] 5))) 2).trans rfl), ((blk_cell (blk_below HEd.out (below_alloc (Below.refl wd.heap.size wd) (.cells #[.int .u8 0] 5))) 3).trans rfl), ((blk_cell (blk_below HEd.out (below_alloc (Below.refl wd.heap.size wd) (.cells #[.int .u8 0] 5))) 4).trans rfl), ((blk_cell (blk_below HEd.out (below_alloc (Below.refl wd.heap.size wd) (.cells #[.int .u8 0] 5))) 5).trans rfl), ((blk_cell (blk_below HEd.out (below_alloc (Below.refl wd.heap.size wd) (.cells #[.int .u8 0] 5))) 6).trans rfl), ((blk_cell (blk_below HEd.out (below_alloc (Below.refl wd.heap.size wd) (.cells #[.int .u8 0] 5))) 7).trans rfl), ((blk_cell (blk_below HEd.out (below_alloc (Below.refl wd.heap.size wd) (.cells #[.int .u8 0] 5))) 8).trans rfl), (HFd.out _ (below_alloc (Below.refl wd.heap.size wd) (.cells #[.int .u8 0] 5))).1, (HFd.out _ (below_alloc (Below.refl wd.heap.size wd) (.cells #[.int .u8 0] 5))).2.1, (HFd.out _ (below_alloc (Below.refl wd.heap.size wd) (.cells #[.int .u8 0] 5))).2.2.1, (HFd.out _ (below_alloc (Below.refl wd.heap.size wd) (.cells #[.int .u8 0] 5))).2.2.2⟩ (fun hHeld => ?_)
   clear hK K
   refine norm_ (a' := ?_) ?_ ?_
   rotate_left
   ·show Act.put _ (some 64) _ = _
    simp only [Act.put, List.setIfInBounds_toArray, List.set_cons_zero, List.set_cons_succ, i64_w, i32_w]
    rfl
   refine pure_ (i := 6) (N := some 65) (v := ?_) (a' := ?_) #[true, true, true, true, true, true, true, false, false, false, false, false, false, false] rfl rfl (by kernel_rfl) (fun _ _ _ h => h) (Or.inl ⟨by rfl, ?_⟩) ?_ ?_
   rotate_left
   ·intro w'
    go_simp
    with_reducible rfl
   rotate_left
   ·simp only [Act.put, List.setIfInBounds_toArray, List.set_cons_zero, List.set_cons_succ, i64_w, i32_w]
    rfl
   refine two_ (i := 7) (j := 11) (Ni := some 66) (Nj := some 13) #[true, true, true, true, true, true, true, true, false, false, false, false, false, false] #[true, true, true, true, true, true, true, false, false, false, false, true, false, false] rfl rfl rfl rfl (by kernel_rfl) (by decide) (by decide) (fun K hK => ?_) (fun K hK => ?_)
   ·skip
    refine goes_ Tryd.func29 (by kernel_rfl) rfl #[.agg #[.int .i64 0, .int .i64 0, .int .i64 0, .int .i64 0, .string (⟨#[]⟩ : ByteArray), .string (⟨#[]⟩ : ByteArray), .int .i64 0, .int .u32 0, .bool false], .agg #[.int .i64 49187, .int .i64 0, .bool false, .bool false, .bool false, .int .i64 0, .string (⟨#[]⟩ : ByteArray), .bool false, .int .i64 0], .agg #[.int .i64 9, .int .i64 49187, .int .i64 7, .string (⟨#[]⟩ : ByteArray)], .int .i64 49187, .agg #[.int .i64 2, .int .i64 6, .slice (some ⟨wd.heap.size, 0, none⟩) 1 1]] (by rfl) rfl rfl (by simp only [List.map_toArray, List.map_cons, List.map_nil]; rfl) ?_
    with_reducible refine (awake_ans2c _ _ (C_zero wd _ rfl)).mono ?_
    rintro e wc_ ⟨rfl, hbc_⟩
    refine ⟨_, rfl, ?_⟩
    refine hK.out _ _ ⟨((blk_cell (blk_below HEd.out (below_step (below_alloc (Below.refl wd.heap.size wd) (.cells #[.int .u8 0] 5)) hbc_)) 0).trans rfl), ((blk_cell (blk_below HEd.out (below_step (below_alloc (Below.refl wd.heap.size wd) (.cells #[.int .u8 0] 5)) hbc_)) 1).trans rfl), ((blk_cell (blk_below HEd.out (below_step (below_alloc (Below.refl wd.heap.size wd) (.cells #[.int .u8 0] 5)) hbc_)) 2).trans rfl), ((blk_cell (blk_below HEd.out (below_step (below_alloc (Below.refl wd.heap.size wd) (.cells #[.int .u8 0] 5)) hbc_)) 3).trans rfl), ((blk_cell (blk_below HEd.out (below_step (below_alloc (Below.refl wd.heap.size wd) (.cells #[.int .u8 0] 5)) hbc_)) 4).trans rfl), ((blk_cell (blk_below HEd.out (below_step (below_alloc (Below.refl wd.heap.size wd) (.cells #[.int .u8 0] 5)) hbc_)) 5).trans rfl), ((blk_cell (blk_below HEd.out (below_step (below_alloc (Below.refl wd.heap.size wd) (.cells #[.int .u8 0] 5)) hbc_)) 6).trans rfl), ((blk_cell (blk_below HEd.out (below_step (below_alloc (Below.refl wd.heap.size wd) (.cells #[.int .u8 0] 5)) hbc_)) 7).trans rfl), ((blk_cell (blk_below HEd.out (below_step (below_alloc (Below.refl wd.heap.size wd) (.cells #[.int .u8 0] 5)) hbc_)) 8).trans rfl), (HFd.out _ (below_step (below_alloc (Below.refl wd.heap.size wd) (.cells #[.int .u8 0] 5)) hbc_)).1, (HFd.out _ (below_step (below_alloc (Below.refl wd.heap.size wd) (.cells #[.int .u8 0] 5)) hbc_)).2.1, (HFd.out _ (below_step (below_alloc (Below.refl wd.heap.size wd) (.cells #[.int .u8 0] 5)) hbc_)).2.2.1, (HFd.out _ (below_step (below_alloc (Below.refl wd.heap.size wd) (.cells #[.int .u8 0] 5)) hbc_)).2.2.2⟩ (fun hHeld => ?_)
    clear hK K
    refine norm_ (a' := ?_) ?_ ?_
    rotate_left
    ·show Act.put _ (some 66) _ = _
     simp only [Act.put, List.setIfInBounds_toArray, List.set_cons_zero, List.set_cons_succ, i64_w, i32_w]
     rfl
    refine pure_ (i := 8) (N := some 58) (v := ?_) (a' := ?_) #[true, true, true, true, true, true, true, true, true, false, false, false, false, false] rfl rfl (by kernel_rfl) (fun _ _ _ h => h) (Or.inl ⟨by rfl, ?_⟩) ?_ ?_
    rotate_left
    ·intro w'
     go_simp
     with_reducible rfl
    rotate_left
    ·simp only [Act.put, List.setIfInBounds_toArray, List.set_cons_zero, List.set_cons_succ, i64_w, i32_w]
     rfl
    refine pure_ (i := 9) (N := some 67) (v := ?_) (a' := ?_) #[true, true, true, true, true, true, true, true, true, true, false, false, false, false] rfl rfl (by kernel_rfl) (fun _ _ _ h => h) (Or.inl ⟨by rfl, ?_⟩) ?_ ?_
    rotate_left
    ·intro w'
     go_simp
     with_reducible rfl
    rotate_left
    ·simp only [Act.put, List.setIfInBounds_toArray, List.set_cons_zero, List.set_cons_succ, i64_w, i32_w]
     rfl
    refine pure_ (i := 10) (N := some 68) (v := ?_) (a' := ?_) #[true, true, true, true, true, true, true, true, true, true, true, false, false, false] rfl rfl (by kernel_rfl) (fun _ _ _ h => h) (Or.inl ⟨by rfl, ?_⟩) ?_ ?_
    rotate_left
    ·intro w'
     go_simp
     with_reducible rfl
    rotate_left
    ·simp only [Act.put, List.setIfInBounds_toArray, List.set_cons_zero, List.set_cons_succ, i64_w, i32_w]
     rfl
    refine one_ (i := 11) (N := some 13) #[true, true, true, true, true, true, true, true, true, true, true, true, false, false] rfl rfl (by kernel_rfl) (by decide) (fun K hK => ?_)
    refine value_ (w1 := ?_) (v := ?_) (by rfl) rfl ?_ ?_
    rotate_left 2
    ·go_simp
     constructor
     ·rfl
     ·rfl
    refine hK.out _ _ ⟨((blk_cell (blk_below HEd.out (below_alloc (below_step (below_alloc (Below.refl wd.heap.size wd) (.cells #[.int .u8 0] 5)) hbc_) (.cells #[.int .i64 0, .int .i64 0, .bool false, .bool false, .bool false, .int .i64 0, .string (⟨#[]⟩ : ByteArray), .bool false, .int .i64 0] 50))) 0).trans rfl), ((blk_cell (blk_below HEd.out (below_alloc (below_step (below_alloc (Below.refl wd.heap.size wd) (.cells #[.int .u8 0] 5)) hbc_) (.cells #[.int .i64 0, .int .i64 0, .bool false, .bool false, .bool false, .int .i64 0, .string (⟨#[]⟩ : ByteArray), .bool false, .int .i64 0] 50))) 1).trans rfl), ((blk_cell (blk_below HEd.out (below_alloc (below_step (below_alloc (Below.refl wd.heap.size wd) (.cells #[.int .u8 0] 5)) hbc_) (.cells #[.int .i64 0, .int .i64 0, .bool false, .bool false, .bool false, .int .i64 0, .string (⟨#[]⟩ : ByteArray), .bool false, .int .i64 0] 50))) 2).trans rfl), ((blk_cell (blk_below HEd.out (below_alloc (below_step (below_alloc (Below.refl wd.heap.size wd) (.cells #[.int .u8 0] 5)) hbc_) (.cells #[.int .i64 0, .int .i64 0, .bool false, .bool false, .bool false, .int .i64 0, .string (⟨#[]⟩ : ByteArray), .bool false, .int .i64 0] 50))) 3).trans rfl), ((blk_cell (blk_below HEd.out (below_alloc (below_step (below_alloc (Below.refl wd.heap.size wd) (.cells #[.int .u8 0] 5)) hbc_) (.cells #[.int .i64 0, .int .i64 0, .bool false, .bool false, .bool false, .int .i64 0, .string (⟨#[]⟩ : ByteArray), .bool false, .int .i64 0] 50))) 4).trans rfl), ((blk_cell (blk_below HEd.out (below_alloc (below_step (below_alloc (Below.refl wd.heap.size wd) (.cells #[.int .u8 0] 5)) hbc_) (.cells #[.int .i64 0, .int .i64 0, .bool false, .bool false, .bool false, .int .i64 0, .string (⟨#[]⟩ : ByteArray), .bool false, .int .i64 0] 50))) 5).trans rfl), ((blk_cell (blk_below HEd.out (below_alloc (below_step (below_alloc (Below.refl wd.heap.size wd) (.cells #[.int .u8 0] 5)) hbc_) (.cells #[.int .i64 0, .int .i64 0, .bool false, .bool false, .bool false, .int .i64 0, .string (⟨#[]⟩ : ByteArray), .bool false, .int .i64 0] 50))) 6).trans rfl), ((blk_cell (blk_below HEd.out (below_alloc (below_step (below_alloc (Below.refl wd.heap.size wd) (.cells #[.int .u8 0] 5)) hbc_) (.cells #[.int .i64 0, .int .i64 0, .bool false, .bool false, .bool false, .int .i64 0, .string (⟨#[]⟩ : ByteArray), .bool false, .int .i64 0] 50))) 7).trans rfl), ((blk_cell (blk_below HEd.out (below_alloc (below_step (below_alloc (Below.refl wd.heap.size wd) (.cells #[.int .u8 0] 5)) hbc_) (.cells #[.int .i64 0, .int .i64 0, .bool false, .bool false, .bool false, .int .i64 0, .string (⟨#[]⟩ : ByteArray), .bool false, .int .i64 0] 50))) 8).trans rfl), (HFd.out _ (below_alloc (below_step (below_alloc (Below.refl wd.heap.size wd) (.cells #[.int .u8 0] 5)) hbc_) (.cells #[.int .i64 0, .int .i64 0, .bool false, .bool false, .bool false, .int .i64 0, .string (⟨#[]⟩ : ByteArray), .bool false, .int .i64 0] 50))).1, (HFd.out _ (below_alloc (below_step (below_alloc (Below.refl wd.heap.size wd) (.cells #[.int .u8 0] 5)) hbc_) (.cells #[.int .i64 0, .int .i64 0, .bool false, .bool false, .bool false, .int .i64 0, .string (⟨#[]⟩ : ByteArray), .bool false, .int .i64 0] 50))).2.1, (HFd.out _ (below_alloc (below_step (below_alloc (Below.refl wd.heap.size wd) (.cells #[.int .u8 0] 5)) hbc_) (.cells #[.int .i64 0, .int .i64 0, .bool false, .bool false, .bool false, .int .i64 0, .string (⟨#[]⟩ : ByteArray), .bool false, .int .i64 0] 50))).2.2.1, (HFd.out _ (below_alloc (below_step (below_alloc (Below.refl wd.heap.size wd) (.cells #[.int .u8 0] 5)) hbc_) (.cells #[.int .i64 0, .int .i64 0, .bool false, .bool false, .bool false, .int .i64 0, .string (⟨#[]⟩ : ByteArray), .bool false, .int .i64 0] 50))).2.2.2⟩ (fun hHeld => ?_)
    clear hK K
    refine norm_ (a' := ?_) ?_ ?_
    rotate_left
    ·show Act.put _ (some 13) _ = _
     simp only [Act.put, List.setIfInBounds_toArray, List.set_cons_zero, List.set_cons_succ, i64_w, i32_w]
     rfl
    exact norm_ (by simp only [putAll, Act.put, List.setIfInBounds_toArray, List.set_cons_zero, List.set_cons_succ]) (hCont (wd.heap.size, wc_.heap.size) _ ⟨blk_new wc_ (.cells #[.int .i64 0, .int .i64 0, .bool false, .bool false, .bool false, .int .i64 0, .string (⟨#[]⟩ : ByteArray), .bool false, .int .i64 0] 50), (below_alloc (below_step (below_alloc (Below.refl wd.heap.size wd) (.cells #[.int .u8 0] 5)) hbc_) (.cells #[.int .i64 0, .int .i64 0, .bool false, .bool false, .bool false, .int .i64 0, .string (⟨#[]⟩ : ByteArray), .bool false, .int .i64 0] 50)), below_size (below_step (below_alloc (Below.refl wd.heap.size wd) (.cells #[.int .u8 0] 5)) hbc_)⟩)
   ·skip
    refine value_ (w1 := ?_) (v := ?_) (by rfl) rfl ?_ ?_
    rotate_left 2
    ·go_simp
     constructor
     ·rfl
     ·rfl
    refine hK.out _ _ ⟨((blk_cell (blk_below HEd.out (below_alloc (below_alloc (Below.refl wd.heap.size wd) (.cells #[.int .u8 0] 5)) (.cells #[.int .i64 0, .int .i64 0, .bool false, .bool false, .bool false, .int .i64 0, .string (⟨#[]⟩ : ByteArray), .bool false, .int .i64 0] 50))) 0).trans rfl), ((blk_cell (blk_below HEd.out (below_alloc (below_alloc (Below.refl wd.heap.size wd) (.cells #[.int .u8 0] 5)) (.cells #[.int .i64 0, .int .i64 0, .bool false, .bool false, .bool false, .int .i64 0, .string (⟨#[]⟩ : ByteArray), .bool false, .int .i64 0] 50))) 1).trans rfl), ((blk_cell (blk_below HEd.out (below_alloc (below_alloc (Below.refl wd.heap.size wd) (.cells #[.int .u8 0] 5)) (.cells #[.int .i64 0, .int .i64 0, .bool false, .bool false, .bool false, .int .i64 0, .string (⟨#[]⟩ : ByteArray), .bool false, .int .i64 0] 50))) 2).trans rfl), ((blk_cell (blk_below HEd.out (below_alloc (below_alloc (Below.refl wd.heap.size wd) (.cells #[.int .u8 0] 5)) (.cells #[.int .i64 0, .int .i64 0, .bool false, .bool false, .bool false, .int .i64 0, .string (⟨#[]⟩ : ByteArray), .bool false, .int .i64 0] 50))) 3).trans rfl), ((blk_cell (blk_below HEd.out (below_alloc (below_alloc (Below.refl wd.heap.size wd) (.cells #[.int .u8 0] 5)) (.cells #[.int .i64 0, .int .i64 0, .bool false, .bool false, .bool false, .int .i64 0, .string (⟨#[]⟩ : ByteArray), .bool false, .int .i64 0] 50))) 4).trans rfl), ((blk_cell (blk_below HEd.out (below_alloc (below_alloc (Below.refl wd.heap.size wd) (.cells #[.int .u8 0] 5)) (.cells #[.int .i64 0, .int .i64 0, .bool false, .bool false, .bool false, .int .i64 0, .string (⟨#[]⟩ : ByteArray), .bool false, .int .i64 0] 50))) 5).trans rfl), ((blk_cell (blk_below HEd.out (below_alloc (below_alloc (Below.refl wd.heap.size wd) (.cells #[.int .u8 0] 5)) (.cells #[.int .i64 0, .int .i64 0, .bool false, .bool false, .bool false, .int .i64 0, .string (⟨#[]⟩ : ByteArray), .bool false, .int .i64 0] 50))) 6).trans rfl), ((blk_cell (blk_below HEd.out (below_alloc (below_alloc (Below.refl wd.heap.size wd) (.cells #[.int .u8 0] 5)) (.cells #[.int .i64 0, .int .i64 0, .bool false, .bool false, .bool false, .int .i64 0, .string (⟨#[]⟩ : ByteArray), .bool false, .int .i64 0] 50))) 7).trans rfl), ((blk_cell (blk_below HEd.out (below_alloc (below_alloc (Below.refl wd.heap.size wd) (.cells #[.int .u8 0] 5)) (.cells #[.int .i64 0, .int .i64 0, .bool false, .bool false, .bool false, .int .i64 0, .string (⟨#[]⟩ : ByteArray), .bool false, .int .i64 0] 50))) 8).trans rfl), (HFd.out _ (below_alloc (below_alloc (Below.refl wd.heap.size wd) (.cells #[.int .u8 0] 5)) (.cells #[.int .i64 0, .int .i64 0, .bool false, .bool false, .bool false, .int .i64 0, .string (⟨#[]⟩ : ByteArray), .bool false, .int .i64 0] 50))).1, (HFd.out _ (below_alloc (below_alloc (Below.refl wd.heap.size wd) (.cells #[.int .u8 0] 5)) (.cells #[.int .i64 0, .int .i64 0, .bool false, .bool false, .bool false, .int .i64 0, .string (⟨#[]⟩ : ByteArray), .bool false, .int .i64 0] 50))).2.1, (HFd.out _ (below_alloc (below_alloc (Below.refl wd.heap.size wd) (.cells #[.int .u8 0] 5)) (.cells #[.int .i64 0, .int .i64 0, .bool false, .bool false, .bool false, .int .i64 0, .string (⟨#[]⟩ : ByteArray), .bool false, .int .i64 0] 50))).2.2.1, (HFd.out _ (below_alloc (below_alloc (Below.refl wd.heap.size wd) (.cells #[.int .u8 0] 5)) (.cells #[.int .i64 0, .int .i64 0, .bool false, .bool false, .bool false, .int .i64 0, .string (⟨#[]⟩ : ByteArray), .bool false, .int .i64 0] 50))).2.2.2⟩ (fun hHeld => ?_)
    clear hK K
    refine norm_ (a' := ?_) ?_ ?_
    rotate_left
    ·show Act.put _ (some 13) _ = _
     simp only [Act.put, List.setIfInBounds_toArray, List.set_cons_zero, List.set_cons_succ, i64_w, i32_w]
     rfl
    refine one_ (i := 7) (N := some 66) #[true, true, true, true, true, true, true, true, false, false, false, true, false, false] rfl rfl (by kernel_rfl) (by decide) (fun K hK => ?_)
    refine goes_ Tryd.func29 (by kernel_rfl) rfl #[.agg #[.int .i64 0, .int .i64 0, .int .i64 0, .int .i64 0, .string (⟨#[]⟩ : ByteArray), .string (⟨#[]⟩ : ByteArray), .int .i64 0, .int .u32 0, .bool false], .agg #[.int .i64 49187, .int .i64 0, .bool false, .bool false, .bool false, .int .i64 0, .string (⟨#[]⟩ : ByteArray), .bool false, .int .i64 0], .agg #[.int .i64 9, .int .i64 49187, .int .i64 7, .string (⟨#[]⟩ : ByteArray)], .int .i64 49187, .agg #[.int .i64 2, .int .i64 6, .slice (some ⟨wd.heap.size, 0, none⟩) 1 1]] (by rfl) rfl rfl (by simp only [List.map_toArray, List.map_cons, List.map_nil]; rfl) ?_
    with_reducible refine (awake_ans2c _ _ (Kd.C_alloc (C_zero wd _ rfl) _)).mono ?_
    rintro e wc_ ⟨rfl, hbc_⟩
    refine ⟨_, rfl, ?_⟩
    refine hK.out _ _ ⟨((blk_cell (blk_below HEd.out (below_step (below_alloc (below_alloc (Below.refl wd.heap.size wd) (.cells #[.int .u8 0] 5)) (.cells #[.int .i64 0, .int .i64 0, .bool false, .bool false, .bool false, .int .i64 0, .string (⟨#[]⟩ : ByteArray), .bool false, .int .i64 0] 50)) hbc_)) 0).trans rfl), ((blk_cell (blk_below HEd.out (below_step (below_alloc (below_alloc (Below.refl wd.heap.size wd) (.cells #[.int .u8 0] 5)) (.cells #[.int .i64 0, .int .i64 0, .bool false, .bool false, .bool false, .int .i64 0, .string (⟨#[]⟩ : ByteArray), .bool false, .int .i64 0] 50)) hbc_)) 1).trans rfl), ((blk_cell (blk_below HEd.out (below_step (below_alloc (below_alloc (Below.refl wd.heap.size wd) (.cells #[.int .u8 0] 5)) (.cells #[.int .i64 0, .int .i64 0, .bool false, .bool false, .bool false, .int .i64 0, .string (⟨#[]⟩ : ByteArray), .bool false, .int .i64 0] 50)) hbc_)) 2).trans rfl), ((blk_cell (blk_below HEd.out (below_step (below_alloc (below_alloc (Below.refl wd.heap.size wd) (.cells #[.int .u8 0] 5)) (.cells #[.int .i64 0, .int .i64 0, .bool false, .bool false, .bool false, .int .i64 0, .string (⟨#[]⟩ : ByteArray), .bool false, .int .i64 0] 50)) hbc_)) 3).trans rfl), ((blk_cell (blk_below HEd.out (below_step (below_alloc (below_alloc (Below.refl wd.heap.size wd) (.cells #[.int .u8 0] 5)) (.cells #[.int .i64 0, .int .i64 0, .bool false, .bool false, .bool false, .int .i64 0, .string (⟨#[]⟩ : ByteArray), .bool false, .int .i64 0] 50)) hbc_)) 4).trans rfl), ((blk_cell (blk_below HEd.out (below_step (below_alloc (below_alloc (Below.refl wd.heap.size wd) (.cells #[.int .u8 0] 5)) (.cells #[.int .i64 0, .int .i64 0, .bool false, .bool false, .bool false, .int .i64 0, .string (⟨#[]⟩ : ByteArray), .bool false, .int .i64 0] 50)) hbc_)) 5).trans rfl), ((blk_cell (blk_below HEd.out (below_step (below_alloc (below_alloc (Below.refl wd.heap.size wd) (.cells #[.int .u8 0] 5)) (.cells #[.int .i64 0, .int .i64 0, .bool false, .bool false, .bool false, .int .i64 0, .string (⟨#[]⟩ : ByteArray), .bool false, .int .i64 0] 50)) hbc_)) 6).trans rfl), ((blk_cell (blk_below HEd.out (below_step (below_alloc (below_alloc (Below.refl wd.heap.size wd) (.cells #[.int .u8 0] 5)) (.cells #[.int .i64 0, .int .i64 0, .bool false, .bool false, .bool false, .int .i64 0, .string (⟨#[]⟩ : ByteArray), .bool false, .int .i64 0] 50)) hbc_)) 7).trans rfl), ((blk_cell (blk_below HEd.out (below_step (below_alloc (below_alloc (Below.refl wd.heap.size wd) (.cells #[.int .u8 0] 5)) (.cells #[.int .i64 0, .int .i64 0, .bool false, .bool false, .bool false, .int .i64 0, .string (⟨#[]⟩ : ByteArray), .bool false, .int .i64 0] 50)) hbc_)) 8).trans rfl), (HFd.out _ (below_step (below_alloc (below_alloc (Below.refl wd.heap.size wd) (.cells #[.int .u8 0] 5)) (.cells #[.int .i64 0, .int .i64 0, .bool false, .bool false, .bool false, .int .i64 0, .string (⟨#[]⟩ : ByteArray), .bool false, .int .i64 0] 50)) hbc_)).1, (HFd.out _ (below_step (below_alloc (below_alloc (Below.refl wd.heap.size wd) (.cells #[.int .u8 0] 5)) (.cells #[.int .i64 0, .int .i64 0, .bool false, .bool false, .bool false, .int .i64 0, .string (⟨#[]⟩ : ByteArray), .bool false, .int .i64 0] 50)) hbc_)).2.1, (HFd.out _ (below_step (below_alloc (below_alloc (Below.refl wd.heap.size wd) (.cells #[.int .u8 0] 5)) (.cells #[.int .i64 0, .int .i64 0, .bool false, .bool false, .bool false, .int .i64 0, .string (⟨#[]⟩ : ByteArray), .bool false, .int .i64 0] 50)) hbc_)).2.2.1, (HFd.out _ (below_step (below_alloc (below_alloc (Below.refl wd.heap.size wd) (.cells #[.int .u8 0] 5)) (.cells #[.int .i64 0, .int .i64 0, .bool false, .bool false, .bool false, .int .i64 0, .string (⟨#[]⟩ : ByteArray), .bool false, .int .i64 0] 50)) hbc_)).2.2.2⟩ (fun hHeld => ?_)
    clear hK K
    refine norm_ (a' := ?_) ?_ ?_
    rotate_left
    ·show Act.put _ (some 66) _ = _
     simp only [Act.put, List.setIfInBounds_toArray, List.set_cons_zero, List.set_cons_succ, i64_w, i32_w]
     rfl
    refine pure_ (i := 8) (N := some 58) (v := ?_) (a' := ?_) #[true, true, true, true, true, true, true, true, true, false, false, true, false, false] rfl rfl (by kernel_rfl) (fun _ _ _ h => h) (Or.inl ⟨by rfl, ?_⟩) ?_ ?_
    rotate_left
    ·intro w'
     go_simp
     with_reducible rfl
    rotate_left
    ·simp only [Act.put, List.setIfInBounds_toArray, List.set_cons_zero, List.set_cons_succ, i64_w, i32_w]
     rfl
    refine pure_ (i := 9) (N := some 67) (v := ?_) (a' := ?_) #[true, true, true, true, true, true, true, true, true, true, false, true, false, false] rfl rfl (by kernel_rfl) (fun _ _ _ h => h) (Or.inl ⟨by rfl, ?_⟩) ?_ ?_
    rotate_left
    ·intro w'
     go_simp
     with_reducible rfl
    rotate_left
    ·simp only [Act.put, List.setIfInBounds_toArray, List.set_cons_zero, List.set_cons_succ, i64_w, i32_w]
     rfl
    refine pure_ (i := 10) (N := some 68) (v := ?_) (a' := ?_) #[true, true, true, true, true, true, true, true, true, true, true, true, false, false] rfl rfl (by kernel_rfl) (fun _ _ _ h => h) (Or.inl ⟨by rfl, ?_⟩) ?_ ?_
    rotate_left
    ·intro w'
     go_simp
     with_reducible rfl
    rotate_left
    ·simp only [Act.put, List.setIfInBounds_toArray, List.set_cons_zero, List.set_cons_succ, i64_w, i32_w]
     rfl
    exact norm_ (by simp only [putAll, Act.put, List.setIfInBounds_toArray, List.set_cons_zero, List.set_cons_succ]) (hCont (wd.heap.size, wd.heap.size + 1) _ ⟨blk_below (blk_new2 wd (.cells #[.int .u8 0] 5) (.cells #[.int .i64 0, .int .i64 0, .bool false, .bool false, .bool false, .int .i64 0, .string (⟨#[]⟩ : ByteArray), .bool false, .int .i64 0] 50)) hbc_, (below_step (below_alloc (below_alloc (Below.refl wd.heap.size wd) (.cells #[.int .u8 0] 5)) (.cells #[.int .i64 0, .int .i64 0, .bool false, .bool false, .bool false, .int .i64 0, .string (⟨#[]⟩ : ByteArray), .bool false, .int .i64 0] 50)) hbc_), Nat.le_succ _⟩)
  ·skip
   refine value_ (w1 := ?_) (v := ?_) (by rfl) rfl ?_ ?_
   rotate_left 2
   ·go_simp
    constructor
    ·rfl
    ·rfl
   refine hK.out _ _ ⟨((blk_cell (blk_below HEd.out (below_alloc (Below.refl wd.heap.size wd) (.cells #[.int .i64 0, .int .i64 0, .bool false, .bool false, .bool false, .int .i64 0, .string (⟨#[]⟩ : ByteArray), .bool false, .int .i64 0] 50))) 0).trans rfl), ((blk_cell (blk_below HEd.out (below_alloc (Below.refl wd.heap.size wd) (.cells #[.int .i64 0, .int .i64 0, .bool false, .bool false, .bool false, .int .i64 0, .string (⟨#[]⟩ : ByteArray), .bool false, .int .i64 0] 50))) 1).trans rfl), ((blk_cell (blk_below HEd.out (below_alloc (Below.refl wd.heap.size wd) (.cells #[.int .i64 0, .int .i64 0, .bool false, .bool false, .bool false, .int .i64 0, .string (⟨#[]⟩ : ByteArray), .bool false, .int .i64 0] 50))) 2).trans rfl), ((blk_cell (blk_below HEd.out (below_alloc (Below.refl wd.heap.size wd) (.cells #[.int .i64 0, .int .i64 0, .bool false, .bool false, .bool false, .int .i64 0, .string (⟨#[]⟩ : ByteArray), .bool false, .int .i64 0] 50))) 3).trans rfl), ((blk_cell (blk_below HEd.out (below_alloc (Below.refl wd.heap.size wd) (.cells #[.int .i64 0, .int .i64 0, .bool false, .bool false, .bool false, .int .i64 0, .string (⟨#[]⟩ : ByteArray), .bool false, .int .i64 0] 50))) 4).trans rfl), ((blk_cell (blk_below HEd.out (below_alloc (Below.refl wd.heap.size wd) (.cells #[.int .i64 0, .int .i64 0, .bool false, .bool false, .bool false, .int .i64 0, .string (⟨#[]⟩ : ByteArray), .bool false, .int .i64 0] 50))) 5).trans rfl), ((blk_cell (blk_below HEd.out (below_alloc (Below.refl wd.heap.size wd) (.cells #[.int .i64 0, .int .i64 0, .bool false, .bool false, .bool false, .int .i64 0, .string (⟨#[]⟩ : ByteArray), .bool false, .int .i64 0] 50))) 6).trans rfl), ((blk_cell (blk_below HEd.out (below_alloc (Below.refl wd.heap.size wd) (.cells #[.int .i64 0, .int .i64 0, .bool false, .bool false, .bool false, .int .i64 0, .string (⟨#[]⟩ : ByteArray), .bool false, .int .i64 0] 50))) 7).trans rfl), ((blk_cell (blk_below HEd.out (below_alloc (Below.refl wd.heap.size wd) (.cells #[.int .i64 0, .int .i64 0, .bool false, .bool false, .bool false, .int .i64 0, .string (⟨#[]⟩ : ByteArray), .bool false, .int .i64 0] 50))) 8).trans rfl), (HFd.out _ (below_alloc (Below.refl wd.heap.size wd) (.cells #[.int .i64 0, .int .i64 0, .bool false, .bool false, .bool false, .int .i64 0, .string (⟨#[]⟩ : ByteArray), .bool false, .int .i64 0] 50))).1, (HFd.out _ (below_alloc (Below.refl wd.heap.size wd) (.cells #[.int .i64 0, .int .i64 0, .bool false, .bool false, .bool false, .int .i64 0, .string (⟨#[]⟩ : ByteArray), .bool false, .int .i64 0] 50))).2.1, (HFd.out _ (below_alloc (Below.refl wd.heap.size wd) (.cells #[.int .i64 0, .int .i64 0, .bool false, .bool false, .bool false, .int .i64 0, .string (⟨#[]⟩ : ByteArray), .bool false, .int .i64 0] 50))).2.2.1, (HFd.out _ (below_alloc (Below.refl wd.heap.size wd) (.cells #[.int .i64 0, .int .i64 0, .bool false, .bool false, .bool false, .int .i64 0, .string (⟨#[]⟩ : ByteArray), .bool false, .int .i64 0] 50))).2.2.2⟩ (fun hHeld => ?_)
   clear hK K
   refine norm_ (a' := ?_) ?_ ?_
   rotate_left
   ·show Act.put _ (some 13) _ = _
    simp only [Act.put, List.setIfInBounds_toArray, List.set_cons_zero, List.set_cons_succ, i64_w, i32_w]
    rfl
   refine one_ (i := 5) (N := some 64) #[true, true, true, true, true, true, false, false, false, false, false, true, false, false] rfl rfl (by kernel_rfl) (by decide) (fun K hK => ?_)
   refine value_ (w1 := ?_) (v := ?_) (by rfl) rfl ?_ ?_
   rotate_left 2
   ·go_simp
    constructor
    ·rfl
    ·rfl
   refine hK.out _ _ ⟨((blk_cell (blk_below HEd.out (below_alloc (below_alloc (Below.refl wd.heap.size wd) (.cells #[.int .i64 0, .int .i64 0, .bool false, .bool false, .bool false, .int .i64 0, .string (⟨#[]⟩ : ByteArray), .bool false, .int .i64 0] 50)) (.cells #[.int .u8 0] 5))) 0).trans rfl), ((blk_cell (blk_below HEd.out (below_alloc (below_alloc (Below.refl wd.heap.size wd) (.cells #[.int .i64 0, .int .i64 0, .bool false, .bool false, .bool false, .int .i64 0, .string (⟨#[]⟩ : ByteArray), .bool false, .int .i64 0] 50)) (.cells #[.int .u8 0] 5))) 1).trans rfl), ((blk_cell (blk_below HEd.out (below_alloc (below_alloc (Below.refl wd.heap.size wd) (.cells #[.int .i64 0, .int .i64 0, .bool false, .bool false, .bool false, .int .i64 0, .string (⟨#[]⟩ : ByteArray), .bool false, .int .i64 0] 50)) (.cells #[.int .u8 0] 5))) 2).trans rfl), ((blk_cell (blk_below HEd.out (below_alloc (below_alloc (Below.refl wd.heap.size wd) (.cells #[.int .i64 0, .int .i64 0, .bool false, .bool false, .bool false, .int .i64 0, .string (⟨#[]⟩ : ByteArray), .bool false, .int .i64 0] 50)) (.cells #[.int .u8 0] 5))) 3).trans rfl), ((blk_cell (blk_below HEd.out (below_alloc (below_alloc (Below.refl wd.heap.size wd) (.cells #[.int .i64 0, .int .i64 0, .bool false, .bool false, .bool false, .int .i64 0, .string (⟨#[]⟩ : ByteArray), .bool false, .int .i64 0] 50)) (.cells #[.int .u8 0] 5))) 4).trans rfl), ((blk_cell (blk_below HEd.out (below_alloc (below_alloc (Below.refl wd.heap.size wd) (.cells #[.int .i64 0, .int .i64 0, .bool false, .bool false, .bool false, .int .i64 0, .string (⟨#[]⟩ : ByteArray), .bool false, .int .i64 0] 50)) (.cells #[.int .u8 0] 5))) 5).trans rfl), ((blk_cell (blk_below HEd.out (below_alloc (below_alloc (Below.refl wd.heap.size wd) (.cells #[.int .i64 0, .int .i64 0, .bool false, .bool false, .bool false, .int .i64 0, .string (⟨#[]⟩ : ByteArray), .bool false, .int .i64 0] 50)) (.cells #[.int .u8 0] 5))) 6).trans rfl), ((blk_cell (blk_below HEd.out (below_alloc (below_alloc (Below.refl wd.heap.size wd) (.cells #[.int .i64 0, .int .i64 0, .bool false, .bool false, .bool false, .int .i64 0, .string (⟨#[]⟩ : ByteArray), .bool false, .int .i64 0] 50)) (.cells #[.int .u8 0] 5))) 7).trans rfl), ((blk_cell (blk_below HEd.out (below_alloc (below_alloc (Below.refl wd.heap.size wd) (.cells #[.int .i64 0, .int .i64 0, .bool false, .bool false, .bool false, .int .i64 0, .string (⟨#[]⟩ : ByteArray), .bool false, .int .i64 0] 50)) (.cells #[.int .u8 0] 5))) 8).trans rfl), (HFd.out _ (below_alloc (below_alloc (Below.refl wd.heap.size wd) (.cells #[.int .i64 0, .int .i64 0, .bool false, .bool false, .bool false, .int .i64 0, .string (⟨#[]⟩ : ByteArray), .bool false, .int .i64 0] 50)) (.cells #[.int .u8 0] 5))).1, (HFd.out _ (below_alloc (below_alloc (Below.refl wd.heap.size wd) (.cells #[.int .i64 0, .int .i64 0, .bool false, .bool false, .bool false, .int .i64 0, .string (⟨#[]⟩ : ByteArray), .bool false, .int .i64 0] 50)) (.cells #[.int .u8 0] 5))).2.1, (HFd.out _ (below_alloc (below_alloc (Below.refl wd.heap.size wd) (.cells #[.int .i64 0, .int .i64 0, .bool false, .bool false, .bool false, .int .i64 0, .string (⟨#[]⟩ : ByteArray), .bool false, .int .i64 0] 50)) (.cells #[.int .u8 0] 5))).2.2.1, (HFd.out _ (below_alloc (below_alloc (Below.refl wd.heap.size wd) (.cells #[.int .i64 0, .int .i64 0, .bool false, .bool false, .bool false, .int .i64 0, .string (⟨#[]⟩ : ByteArray), .bool false, .int .i64 0] 50)) (.cells #[.int .u8 0] 5))).2.2.2⟩ (fun hHeld => ?_)
   clear hK K
   refine norm_ (a' := ?_) ?_ ?_
   rotate_left
   ·show Act.put _ (some 64) _ = _
    simp only [Act.put, List.setIfInBounds_toArray, List.set_cons_zero, List.set_cons_succ, i64_w, i32_w]
    rfl
   refine pure_ (i := 6) (N := some 65) (v := ?_) (a' := ?_) #[true, true, true, true, true, true, true, false, false, false, false, true, false, false] rfl rfl (by kernel_rfl) (fun _ _ _ h => h) (Or.inl ⟨by rfl, ?_⟩) ?_ ?_
   rotate_left
   ·intro w'
    go_simp
    with_reducible rfl
   rotate_left
   ·simp only [Act.put, List.setIfInBounds_toArray, List.set_cons_zero, List.set_cons_succ, i64_w, i32_w]
    rfl
   refine one_ (i := 7) (N := some 66) #[true, true, true, true, true, true, true, true, false, false, false, true, false, false] rfl rfl (by kernel_rfl) (by decide) (fun K hK => ?_)
   refine goes_ Tryd.func29 (by kernel_rfl) rfl #[.agg #[.int .i64 0, .int .i64 0, .int .i64 0, .int .i64 0, .string (⟨#[]⟩ : ByteArray), .string (⟨#[]⟩ : ByteArray), .int .i64 0, .int .u32 0, .bool false], .agg #[.int .i64 49187, .int .i64 0, .bool false, .bool false, .bool false, .int .i64 0, .string (⟨#[]⟩ : ByteArray), .bool false, .int .i64 0], .agg #[.int .i64 9, .int .i64 49187, .int .i64 7, .string (⟨#[]⟩ : ByteArray)], .int .i64 49187, .agg #[.int .i64 2, .int .i64 6, .slice (some ⟨wd.heap.size + 1, 0, none⟩) 1 1]] (by rfl) rfl rfl (by simp only [List.map_toArray, List.map_cons, List.map_nil]; rfl) ?_
   with_reducible refine (awake_ans2c _ _ (C_zero (wd.alloc _) _ (World.size_alloc ..))).mono ?_
   rintro e wc_ ⟨rfl, hbc_⟩
   refine ⟨_, rfl, ?_⟩
   refine hK.out _ _ ⟨((blk_cell (blk_below HEd.out (below_step (below_alloc (below_alloc (Below.refl wd.heap.size wd) (.cells #[.int .i64 0, .int .i64 0, .bool false, .bool false, .bool false, .int .i64 0, .string (⟨#[]⟩ : ByteArray), .bool false, .int .i64 0] 50)) (.cells #[.int .u8 0] 5)) hbc_)) 0).trans rfl), ((blk_cell (blk_below HEd.out (below_step (below_alloc (below_alloc (Below.refl wd.heap.size wd) (.cells #[.int .i64 0, .int .i64 0, .bool false, .bool false, .bool false, .int .i64 0, .string (⟨#[]⟩ : ByteArray), .bool false, .int .i64 0] 50)) (.cells #[.int .u8 0] 5)) hbc_)) 1).trans rfl), ((blk_cell (blk_below HEd.out (below_step (below_alloc (below_alloc (Below.refl wd.heap.size wd) (.cells #[.int .i64 0, .int .i64 0, .bool false, .bool false, .bool false, .int .i64 0, .string (⟨#[]⟩ : ByteArray), .bool false, .int .i64 0] 50)) (.cells #[.int .u8 0] 5)) hbc_)) 2).trans rfl), ((blk_cell (blk_below HEd.out (below_step (below_alloc (below_alloc (Below.refl wd.heap.size wd) (.cells #[.int .i64 0, .int .i64 0, .bool false, .bool false, .bool false, .int .i64 0, .string (⟨#[]⟩ : ByteArray), .bool false, .int .i64 0] 50)) (.cells #[.int .u8 0] 5)) hbc_)) 3).trans rfl), ((blk_cell (blk_below HEd.out (below_step (below_alloc (below_alloc (Below.refl wd.heap.size wd) (.cells #[.int .i64 0, .int .i64 0, .bool false, .bool false, .bool false, .int .i64 0, .string (⟨#[]⟩ : ByteArray), .bool false, .int .i64 0] 50)) (.cells #[.int .u8 0] 5)) hbc_)) 4).trans rfl), ((blk_cell (blk_below HEd.out (below_step (below_alloc (below_alloc (Below.refl wd.heap.size wd) (.cells #[.int .i64 0, .int .i64 0, .bool false, .bool false, .bool false, .int .i64 0, .string (⟨#[]⟩ : ByteArray), .bool false, .int .i64 0] 50)) (.cells #[.int .u8 0] 5)) hbc_)) 5).trans rfl), ((blk_cell (blk_below HEd.out (below_step (below_alloc (below_alloc (Below.refl wd.heap.size wd) (.cells #[.int .i64 0, .int .i64 0, .bool false, .bool false, .bool false, .int .i64 0, .string (⟨#[]⟩ : ByteArray), .bool false, .int .i64 0] 50)) (.cells #[.int .u8 0] 5)) hbc_)) 6).trans rfl), ((blk_cell (blk_below HEd.out (below_step (below_alloc (below_alloc (Below.refl wd.heap.size wd) (.cells #[.int .i64 0, .int .i64 0, .bool false, .bool false, .bool false, .int .i64 0, .string (⟨#[]⟩ : ByteArray), .bool false, .int .i64 0] 50)) (.cells #[.int .u8 0] 5)) hbc_)) 7).trans rfl), ((blk_cell (blk_below HEd.out (below_step (below_alloc (below_alloc (Below.refl wd.heap.size wd) (.cells #[.int .i64 0, .int .i64 0, .bool false, .bool false, .bool false, .int .i64 0, .string (⟨#[]⟩ : ByteArray), .bool false, .int .i64 0] 50)) (.cells #[.int .u8 0] 5)) hbc_)) 8).trans rfl), (HFd.out _ (below_step (below_alloc (below_alloc (Below.refl wd.heap.size wd) (.cells #[.int .i64 0, .int .i64 0, .bool false, .bool false, .bool false, .int .i64 0, .string (⟨#[]⟩ : ByteArray), .bool false, .int .i64 0] 50)) (.cells #[.int .u8 0] 5)) hbc_)).1, (HFd.out _ (below_step (below_alloc (below_alloc (Below.refl wd.heap.size wd) (.cells #[.int .i64 0, .int .i64 0, .bool false, .bool false, .bool false, .int .i64 0, .string (⟨#[]⟩ : ByteArray), .bool false, .int .i64 0] 50)) (.cells #[.int .u8 0] 5)) hbc_)).2.1, (HFd.out _ (below_step (below_alloc (below_alloc (Below.refl wd.heap.size wd) (.cells #[.int .i64 0, .int .i64 0, .bool false, .bool false, .bool false, .int .i64 0, .string (⟨#[]⟩ : ByteArray), .bool false, .int .i64 0] 50)) (.cells #[.int .u8 0] 5)) hbc_)).2.2.1, (HFd.out _ (below_step (below_alloc (below_alloc (Below.refl wd.heap.size wd) (.cells #[.int .i64 0, .int .i64 0, .bool false, .bool false, .bool false, .int .i64 0, .string (⟨#[]⟩ : ByteArray), .bool false, .int .i64 0] 50)) (.cells #[.int .u8 0] 5)) hbc_)).2.2.2⟩ (fun hHeld => ?_)
   clear hK K
   refine norm_ (a' := ?_) ?_ ?_
   rotate_left
   ·show Act.put _ (some 66) _ = _
    simp only [Act.put, List.setIfInBounds_toArray, List.set_cons_zero, List.set_cons_succ, i64_w, i32_w]
    rfl
   refine pure_ (i := 8) (N := some 58) (v := ?_) (a' := ?_) #[true, true, true, true, true, true, true, true, true, false, false, true, false, false] rfl rfl (by kernel_rfl) (fun _ _ _ h => h) (Or.inl ⟨by rfl, ?_⟩) ?_ ?_
   rotate_left
   ·intro w'
    go_simp
    with_reducible rfl
   rotate_left
   ·simp only [Act.put, List.setIfInBounds_toArray, List.set_cons_zero, List.set_cons_succ, i64_w, i32_w]
    rfl
   refine pure_ (i := 9) (N := some 67) (v := ?_) (a' := ?_) #[true, true, true, true, true, true, true, true, true, true, false, true, false, false] rfl rfl (by kernel_rfl) (fun _ _ _ h => h) (Or.inl ⟨by rfl, ?_⟩) ?_ ?_
   rotate_left
   ·intro w'
    go_simp
    with_reducible rfl
   rotate_left
   ·simp only [Act.put, List.setIfInBounds_toArray, List.set_cons_zero, List.set_cons_succ, i64_w, i32_w]
    rfl
   refine pure_ (i := 10) (N := some 68) (v := ?_) (a' := ?_) #[true, true, true, true, true, true, true, true, true, true, true, true, false, false] rfl rfl (by kernel_rfl) (fun _ _ _ h => h) (Or.inl ⟨by rfl, ?_⟩) ?_ ?_
   rotate_left
   ·intro w'
    go_simp
    with_reducible rfl
   rotate_left
   ·simp only [Act.put, List.setIfInBounds_toArray, List.set_cons_zero, List.set_cons_succ, i64_w, i32_w]
    rfl
   exact norm_ (by simp only [putAll, Act.put, List.setIfInBounds_toArray, List.set_cons_zero, List.set_cons_succ]) (hCont (wd.heap.size + 1, wd.heap.size) _ ⟨blk_below (blk_alloc (blk_new wd (.cells #[.int .i64 0, .int .i64 0, .bool false, .bool false, .bool false, .int .i64 0, .string (⟨#[]⟩ : ByteArray), .bool false, .int .i64 0] 50)) (.cells #[.int .u8 0] 5)) hbc_, (below_step (below_alloc (below_alloc (Below.refl wd.heap.size wd) (.cells #[.int .i64 0, .int .i64 0, .bool false, .bool false, .bool false, .int .i64 0, .string (⟨#[]⟩ : ByteArray), .bool false, .int .i64 0] 50)) (.cells #[.int .u8 0] 5)) hbc_), Nat.le_refl _⟩)
 rintro ⟨gs_, gn⟩ wz ⟨hz1_, hz2_, hz3_⟩
 have HZ := Aside0.mk hz1_
 have HZB := Aside0.mk hz2_
 have HZL := Aside0.mk hz3_
 clear hz1_ hz2_ hz3_
 have hHeld := True.intro
 refine norm_ (a' := ?_) ?_ ?_
 rotate_left
 ·simp only [putAll, Act.put, List.setIfInBounds_toArray, List.set_cons_zero, List.set_cons_succ]
  rfl
 refine last_ (i := 12) (N := none) #[true, true, true, true, true, true, true, true, true, true, true, true, true, false] rfl rfl (by kernel_rfl) (by decide) (fun K hK => ?_)
 obtain ⟨y0_, y1_, y2_, y3_, y4_, y5_, y6_, y7_, y8_, yf0_, yf1_, yf2_, yf3_, yf4_, yf5_, yf6_, yf7_, yf8_⟩ := cells9 HZ.out
 refine skip_ (w1 := ?_) (by rfl) rfl ?_ ?_
 rotate_left
 ·go_simp
  rfl
 refine hK.out _ _ ?_
 clear hK K
 refine pure_ (i := 13) (N := some 14) (v := ?_) (a' := ?_) #[true, true, true, true, true, true, true, true, true, true, true, true, true, true] rfl rfl (by kernel_rfl) (fun _ _ _ h => h) (Or.inl ⟨by rfl, ?_⟩) ?_ ?_
 rotate_left
 ·intro w'
  go_simp
  with_reducible rfl
 rotate_left
 ·simp only [Act.put, List.setIfInBounds_toArray, List.set_cons_zero, List.set_cons_succ, i64_w, i32_w]
  rfl
 refine done_ (by kernel_rfl) ?_
 have hN : Below wd.heap.size wd (((((((((wz.setCell ⟨gn, 0, none⟩ (.int .i64 49187)).setCell ⟨gn, 1, none⟩ (.int .i64 0)).setCell ⟨gn, 2, none⟩ (.bool false)).setCell ⟨gn, 3, none⟩ (.bool false)).setCell ⟨gn, 4, none⟩ (.bool false)).setCell ⟨gn, 5, none⟩ (.int .i64 0)).setCell ⟨gn, 6, none⟩ (.string (⟨#[]⟩ : ByteArray))).setCell ⟨gn, 7, none⟩ (.bool false)).setCell ⟨gn, 8, none⟩ (.int .i64 0)) := set9_below HZB.out HZL.out (.int .i64 49187) (.int .i64 0) (.bool false) (.bool false) (.bool false) (.int .i64 0) (.string (⟨#[]⟩ : ByteArray)) (.bool false) (.int .i64 0)
 have hG : (((((((((wz.setCell ⟨gn, 0, none⟩ (.int .i64 49187)).setCell ⟨gn, 1, none⟩ (.int .i64 0)).setCell ⟨gn, 2, none⟩ (.bool false)).setCell ⟨gn, 3, none⟩ (.bool false)).setCell ⟨gn, 4, none⟩ (.bool false)).setCell ⟨gn, 5, none⟩ (.int .i64 0)).setCell ⟨gn, 6, none⟩ (.string (⟨#[]⟩ : ByteArray))).setCell ⟨gn, 7, none⟩ (.bool false)).setCell ⟨gn, 8, none⟩ (.int .i64 0)).heap[gn]? = some (.cells #[.int .i64 49187, .int .i64 0, .bool false, .bool false, .bool false, .int .i64 0, .string (⟨#[]⟩ : ByteArray), .bool false, .int .i64 0] 50 (0, 0)) := set9_row HZ.out (.int .i64 49187) (.int .i64 0) (.bool false) (.bool false) (.bool false) (.int .i64 0) (.string (⟨#[]⟩ : ByteArray)) (.bool false) (.int .i64 0)
 generalize (((((((((wz.setCell ⟨gn, 0, none⟩ (.int .i64 49187)).setCell ⟨gn, 1, none⟩ (.int .i64 0)).setCell ⟨gn, 2, none⟩ (.bool false)).setCell ⟨gn, 3, none⟩ (.bool false)).setCell ⟨gn, 4, none⟩ (.bool false)).setCell ⟨gn, 5, none⟩ (.int .i64 0)).setCell ⟨gn, 6, none⟩ (.string (⟨#[]⟩ : ByteArray))).setCell ⟨gn, 7, none⟩ (.bool false)).setCell ⟨gn, 8, none⟩ (.int .i64 0)) = w7 at hN hG ⊢
 have HA := Aside0.mk (blk_below HAd.out hN)
 have HD := Aside0.mk (blk_below HDd.out hN)
 have HC := Aside0.mk (blk_below HCd.out hN)
 have HE := Aside0.mk (blk_below HEd.out hN)
 have HG := Aside0.mk (blk_below HGd.out hN)
 have HB := Aside0.mk (below_step HBd.out hN)
 have HF := Aside0.mk (fun (W : World) (hb : Below w7.heap.size w7 W) => HFd.out W (below_step hN hb))
 clear hN hG HZ HZB HZL HAd HDd HCd HEd HBd HFd HGd
 clear HE
 obtain ⟨a0, a1, a2, a3, a4, a5, a6, a7, a8, af0, af1, af2, af3, af4, af5, af6, af7, af8⟩ := cells9 HA.out
 have lta := blk_lt HA.out
 obtain ⟨b0, b1, b2, b3, b4, b5, b6, b7, b8, bf0, bf1, bf2, bf3, bf4, bf5, bf6, bf7, bf8⟩ := cells9 HD.out
 have ltb := blk_lt HD.out
 obtain ⟨c0, c1, c2, c3, c4, c5, c6, c7, c8, cf0, cf1, cf2, cf3, cf4, cf5, cf6, cf7, cf8⟩ := cells9 HC.out
 have ltc := blk_lt HC.out
 obtain ⟨g0, g1, g2, g3, g4, g5, g6, g7, g8, gf0, gf1, gf2, gf3, gf4, gf5, gf6, gf7, gf8⟩ := cells9 HG.out
 have ltg := blk_lt HG.out
 obtain ⟨f0_, f1_, f2_, f3_⟩ := HF.out w7 (Below.refl _ _)
 go_wp2_with (first | ((with_reducible refine (PAuthBase.auth_Done.calls 0 49187 false true false 0 (⟨#[]⟩ : ByteArray) true 7 _ _ awake_done1).mono ?_); rintro e w8 ⟨rfl, hb⟩; clear a0 af0 a1 af1 a2 af2 a3 af3 a4 af4 a5 af5 a6 af6 a7 af7 a8 af8 b0 bf0 b1 bf1 b2 bf2 b3 bf3 b4 bf4 b5 bf5 b6 bf6 b7 bf7 b8 bf8 c0 cf0 c1 cf1 c2 cf2 c3 cf3 c4 cf4 c5 cf5 c6 cf6 c7 cf7 c8 cf8 g0 gf0 g1 gf1 g2 gf2 g3 gf3 g4 gf4 g5 gf5 g6 gf6 g7 gf7 g8 gf8 lta ltb ltc ltg; have HA_ := Aside0.mk (blk_below HA.out hb); clear HA; have HA := HA_; clear HA_; have HD_ := Aside0.mk (blk_below HD.out hb); clear HD; have HD := HD_; clear HD_; have HC_ := Aside0.mk (blk_below HC.out hb); clear HC; have HC := HC_; clear HC_; have HG_ := Aside0.mk (blk_below HG.out hb); clear HG; have HG := HG_; clear HG_; have HB_ := Aside0.mk (below_step HB.out hb); clear HB; have HB := HB_; clear HB_; clear hb; obtain ⟨a0, a1, a2, a3, a4, a5, a6, a7, a8, af0, af1, af2, af3, af4, af5, af6, af7, af8⟩ := cells9 HA.out; have lta := blk_lt HA.out; obtain ⟨b0, b1, b2, b3, b4, b5, b6, b7, b8, bf0, bf1, bf2, bf3, bf4, bf5, bf6, bf7, bf8⟩ := cells9 HD.out; have ltb := blk_lt HD.out; obtain ⟨c0, c1, c2, c3, c4, c5, c6, c7, c8, cf0, cf1, cf2, cf3, cf4, cf5, cf6, cf7, cf8⟩ := cells9 HC.out; have ltc := blk_lt HC.out; obtain ⟨g0, g1, g2, g3, g4, g5, g6, g7, g8, gf0, gf1, gf2, gf3, gf4, gf5, gf6, gf7, gf8⟩ := cells9 HG.out; have ltg := blk_lt HG.out) | ((with_reducible refine (PAuthBase.auth_Done.calls 49187 0 true false false 0 (⟨#[]⟩ : ByteArray) false 0 _ _ awake_done2).mono ?_); rintro e w9 ⟨rfl, hb⟩; clear a0 af0 a1 af1 a2 af2 a3 af3 a4 af4 a5 af5 a6 af6 a7 af7 a8 af8 b0 bf0 b1 bf1 b2 bf2 b3 bf3 b4 bf4 b5 bf5 b6 bf6 b7 bf7 b8 bf8 c0 cf0 c1 cf1 c2 cf2 c3 cf3 c4 cf4 c5 cf5 c6 cf6 c7 cf7 c8 cf8 g0 gf0 g1 gf1 g2 gf2 g3 gf3 g4 gf4 g5 gf5 g6 gf6 g7 gf7 g8 gf8 lta ltb ltc ltg; have HA_ := Aside0.mk (blk_below HA.out hb); clear HA; have HA := HA_; clear HA_; have HD_ := Aside0.mk (blk_below HD.out hb); clear HD; have HD := HD_; clear HD_; have HC_ := Aside0.mk (blk_below HC.out hb); clear HC; have HC := HC_; clear HC_; have HG_ := Aside0.mk (blk_below HG.out hb); clear HG; have HG := HG_; clear HG_; have HB_ := Aside0.mk (below_step HB.out hb); clear HB; have HB := HB_; clear HB_; clear hb; obtain ⟨a0, a1, a2, a3, a4, a5, a6, a7, a8, af0, af1, af2, af3, af4, af5, af6, af7, af8⟩ := cells9 HA.out; have lta := blk_lt HA.out; obtain ⟨b0, b1, b2, b3, b4, b5, b6, b7, b8, bf0, bf1, bf2, bf3, bf4, bf5, bf6, bf7, bf8⟩ := cells9 HD.out; have ltb := blk_lt HD.out; obtain ⟨c0, c1, c2, c3, c4, c5, c6, c7, c8, cf0, cf1, cf2, cf3, cf4, cf5, cf6, cf7, cf8⟩ := cells9 HC.out; have ltc := blk_lt HC.out; obtain ⟨g0, g1, g2, g3, g4, g5, g6, g7, g8, gf0, gf1, gf2, gf3, gf4, gf5, gf6, gf7, gf8⟩ := cells9 HG.out; have ltg := blk_lt HG.out) | ((with_reducible refine (PAuthBase.auth_Done.calls 0 49187 false false false 0 (⟨#[]⟩ : ByteArray) true 7 _ _ awake_done3).mono ?_); rintro e w10 ⟨rfl, hb⟩; clear a0 af0 a1 af1 a2 af2 a3 af3 a4 af4 a5 af5 a6 af6 a7 af7 a8 af8 b0 bf0 b1 bf1 b2 bf2 b3 bf3 b4 bf4 b5 bf5 b6 bf6 b7 bf7 b8 bf8 c0 cf0 c1 cf1 c2 cf2 c3 cf3 c4 cf4 c5 cf5 c6 cf6 c7 cf7 c8 cf8 g0 gf0 g1 gf1 g2 gf2 g3 gf3 g4 gf4 g5 gf5 g6 gf6 g7 gf7 g8 gf8 lta ltb ltc ltg; have HA_ := Aside0.mk (blk_below HA.out hb); clear HA; have HA := HA_; clear HA_; have HD_ := Aside0.mk (blk_below HD.out hb); clear HD; have HD := HD_; clear HD_; have HC_ := Aside0.mk (blk_below HC.out hb); clear HC; have HC := HC_; clear HC_; have HG_ := Aside0.mk (blk_below HG.out hb); clear HG; have HG := HG_; clear HG_; have HB_ := Aside0.mk (below_step HB.out hb); clear HB; have HB := HB_; clear HB_; clear hb; obtain ⟨a0, a1, a2, a3, a4, a5, a6, a7, a8, af0, af1, af2, af3, af4, af5, af6, af7, af8⟩ := cells9 HA.out; have lta := blk_lt HA.out; obtain ⟨b0, b1, b2, b3, b4, b5, b6, b7, b8, bf0, bf1, bf2, bf3, bf4, bf5, bf6, bf7, bf8⟩ := cells9 HD.out; have ltb := blk_lt HD.out; obtain ⟨c0, c1, c2, c3, c4, c5, c6, c7, c8, cf0, cf1, cf2, cf3, cf4, cf5, cf6, cf7, cf8⟩ := cells9 HC.out; have ltc := blk_lt HC.out; obtain ⟨g0, g1, g2, g3, g4, g5, g6, g7, g8, gf0, gf1, gf2, gf3, gf4, gf5, gf6, gf7, gf8⟩ := cells9 HG.out; have ltg := blk_lt HG.out) | ((with_reducible refine (PAuthBase.auth_Done.calls 0 0 false false false 0 (⟨#[]⟩ : ByteArray) false 0 _ _ awake_done4).mono ?_); rintro e w11 ⟨rfl, hb⟩; clear a0 af0 a1 af1 a2 af2 a3 af3 a4 af4 a5 af5 a6 af6 a7 af7 a8 af8 b0 bf0 b1 bf1 b2 bf2 b3 bf3 b4 bf4 b5 bf5 b6 bf6 b7 bf7 b8 bf8 c0 cf0 c1 cf1 c2 cf2 c3 cf3 c4 cf4 c5 cf5 c6 cf6 c7 cf7 c8 cf8 g0 gf0 g1 gf1 g2 gf2 g3 gf3 g4 gf4 g5 gf5 g6 gf6 g7 gf7 g8 gf8 lta ltb ltc ltg; have HA_ := Aside0.mk (blk_below HA.out hb); clear HA; have HA := HA_; clear HA_; have HD_ := Aside0.mk (blk_below HD.out hb); clear HD; have HD := HD_; clear HD_; have HC_ := Aside0.mk (blk_below HC.out hb); clear HC; have HC := HC_; clear HC_; have HG_ := Aside0.mk (blk_below HG.out hb); clear HG; have HG := HG_; clear HG_; have HB_ := Aside0.mk (below_step HB.out hb); clear HB; have HB := HB_; clear HB_; clear hb; obtain ⟨a0, a1, a2, a3, a4, a5, a6, a7, a8, af0, af1, af2, af3, af4, af5, af6, af7, af8⟩ := cells9 HA.out; have lta := blk_lt HA.out; obtain ⟨b0, b1, b2, b3, b4, b5, b6, b7, b8, bf0, bf1, bf2, bf3, bf4, bf5, bf6, bf7, bf8⟩ := cells9 HD.out; have ltb := blk_lt HD.out; obtain ⟨c0, c1, c2, c3, c4, c5, c6, c7, c8, cf0, cf1, cf2, cf3, cf4, cf5, cf6, cf7, cf8⟩ := cells9 HC.out; have ltc := blk_lt HC.out; obtain ⟨g0, g1, g2, g3, g4, g5, g6, g7, g8, gf0, gf1, gf2, gf3, gf4, gf5, gf6, gf7, gf8⟩ := cells9 HG.out; have ltg := blk_lt HG.out))
 go_ret
 exact ⟨rfl, HB.out⟩
end Go.Proofs.YtgadhmoifhoilaaDoor.AuthHand
