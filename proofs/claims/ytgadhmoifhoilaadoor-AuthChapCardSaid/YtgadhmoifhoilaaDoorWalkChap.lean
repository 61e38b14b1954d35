/-
  The law AuthChap, walked over its calls.
-/
import Derived.Test.YtgadhmoifhoilaaDoorAnsB
import Derived.Test.YtgadhmoifhoilaaDoorWWords
import Derived.Test.YtgadhmoifhoilaaDoorAuthAwake
import Derived.Test.YtgadhmoifhoilaaDoorChapEq
import Derived.Laws.CopyOwn
import Derived.Deep.RegionHeld3
import Derived.Deep.DrawnRows
namespace Go.Proofs.YtgadhmoifhoilaaDoor.Ans
open Go.RowKit Go.Lib Go.Proofs.YtgadhmoifhoilaaDoorW.PrintWords Go.Proofs.YtgadhmoifhoilaaDoorW.PrintLast Go.Proofs.YtgadhmoifhoilaaDoorW.PrintMore Go.Proofs.YtgadhmoifhoilaaDoor.Kit Go.Proofs.YtgadhmoifhoilaaDoor.Md5 Go.Proofs.YtgadhmoifhoilaaDoor.Chap
set_option linter.unusedVariables false
set_option linter.unusedSimpArgs false
theorem set9_blk {W : World} {b k : Nat} {o : Obj} (h : W.heap[k]? = some o) (hk : k ≠ b) (v0 v1 v2 v3 v4 v5 v6 v7 v8 : Value) : (set9 W b v0 v1 v2 v3 v4 v5 v6 v7 v8).heap[k]? = some o := by
 unfold set9
 rw [Below.heap_setCell _ _ _ k hk, Below.heap_setCell _ _ _ k hk, Below.heap_setCell _ _ _ k hk, Below.heap_setCell _ _ _ k hk, Below.heap_setCell _ _ _ k hk, Below.heap_setCell _ _ _ k hk, Below.heap_setCell _ _ _ k hk, Below.heap_setCell _ _ _ k hk, Below.heap_setCell _ _ _ k hk]
 exact h
def set3 (W : World) (b : Nat) (v0 v1 v2 : Value) : World := ((W.setCell ⟨b, 0, none⟩ v0).setCell ⟨b, 1, none⟩ v1).setCell ⟨b, 2, none⟩ v2
theorem set3_blk {W : World} {b k : Nat} {o : Obj} (h : W.heap[k]? = some o) (hk : k ≠ b) (v0 v1 v2 : Value) : (set3 W b v0 v1 v2).heap[k]? = some o := by
 unfold set3
 rw [Below.heap_setCell _ _ _ k hk, Below.heap_setCell _ _ _ k hk, Below.heap_setCell _ _ _ k hk]
 exact h
theorem set3_row {W : World} {b : Nat} {t : TypeId} {c0 c1 c2 : Value} (h : W.heap[b]? = some (.cells #[c0, c1, c2] t (0, 0))) (v0 v1 v2 : Value) : (set3 W b v0 v1 v2).heap[b]? = some (.cells #[v0, v1, v2] t (0, 0)) := blk_put (blk_put (blk_put (cs' := #[v0, c1, c2]) h 0 v0 rfl) 1 v1 (cs' := #[v0, v1, c2]) rfl) 2 v2 (cs' := #[v0, v1, v2]) rfl
theorem set3_below {w W : World} {b B : Nat} (h : Below B w W) (hb : B ≤ b) (v0 v1 v2 : Value) : Below B w (set3 W b v0 v1 v2) := ((h.setCell (p := ⟨b, 0, none⟩) hb _).setCell (p := ⟨b, 1, none⟩) hb _).setCell (p := ⟨b, 2, none⟩) hb _
def x16 (l : List Int) : List Int := l.take 16 ++ List.replicate (16 - l.length) 0
theorem x16_len (l : List Int) : (x16 l).length = 16 := by unfold x16; simp; omega
theorem copy16 {P : Program} {ops : Array Oper} {rest : List Oper} {o : Oper} {a : Act} {w0 W : World} {Q : Exit → Act → World → Prop} (hgd : o.guard = none) (d s : Operand) (dT sT e t : TypeId) (ho : o.op = .call { callee := .builtin .copy, args := #[d, s], argTypes := #[dT, sT] }) (hu : P.underlying dT = some (.slice e)) (hsz : (P.info? e).map (·.size) = some 1)
  {g c L B : Nat} {A : Option Addr} {l : List Int} (hd : a.eval d = .slice (some ⟨g, 0, none⟩) 16 16) (hs : a.eval s = .slice A L c) (hg : W.heap[g]? = some (.cells (List.replicate 16 (Value.int .u8 0)).toArray t (0, 0))) (hC : (Kd.int .u8).C W A L l) (hb : Below B w0 W) (hBg : B ≤ g)
  (h : ∀ n w', w'.heap[g]? = some (.cells (nums .u8 (x16 l)).toArray t (0, 0)) → Below B w0 w' → wpList P ops Q rest (a.put o.dst (goInt n)) w') : wpList P ops Q (o :: rest) a W := by
 have hl : l.length = L := Kd.C_len hC
 have hr := Kd.reads_of_C (enc := Value.int .u8) (d := (0 : Int)) (h1 := fun _ => rfl) hC
 refine wpList_copy_splice hgd d s dT sT ho e hu hsz _ _ 16 16 L c hd hs g 0 (List.replicate 16 (Value.int .u8 0)) t hg (nums .u8 (l.take 16)) ?_ ?_ ?_ ?_ B w0 hb hBg ?_
 ·rw [nums_length, List.length_take, hl]
  show min 16 L = min L 16
  omega
 ·intro hp
  rw [nums_length, List.length_take, hl] at hp
  obtain ⟨ad, rfl, hc⟩ := hr.2.2 (by omega)
  refine ⟨rfl, ad, rfl, fun j v hj => ?_⟩
  have hj' : j < (l.take 16).length := by
   have := (List.getElem?_eq_some_iff.1 hj).1
   rwa [nums_length] at this
  have hj2 : j < l.length := by rw [List.length_take] at hj'; omega
  have hj3 : j < 16 := by rw [List.length_take] at hj'; omega
  rw [hc j (by omega), ← hj]
  simp [nums, List.getElem?_take, hj3, hj2, List.getD_eq_getElem?_getD]
 ·rw [nums_length, List.length_take, List.length_replicate]
  omega
 ·intro v hv
  simp only [nums, List.mem_map] at hv
  obtain ⟨x, _, rfl⟩ := hv
  rfl
 ·intro w' hh hb'
  have h2 := hh.out
  have e2 : splice (List.replicate 16 (Value.int .u8 0)) 0 (nums .u8 (l.take 16)) = nums .u8 (x16 l) := by
   unfold splice x16
   rw [nums_append, List.take_zero, List.nil_append, nums_length, List.length_take, Nat.zero_add, List.drop_replicate]
   congr 1
   unfold nums
   rw [List.map_replicate]
   congr 1
   omega
  rw [e2] at h2
  exact h _ w' h2 hb'
theorem own_block {e base : Nat} {W : World} {ok : Nat → Prop} {v : Value} {xs ys : List Int} {n : Nat} (h : (Kd.int .u8).R e W base ok v xs) (he : xs = ys) (hn : ys.length = n) (hp : 0 < n) : ∃ (g c : Nat) (cur : Array Value), v = .slice (some ⟨g, 0, none⟩) n c ∧ n ≤ c ∧ W.heap[g]? = some (.cells cur e (0, 0)) ∧ ∀ W' : World, W'.heap[g]? = some (.cells cur e (0, 0)) → (Kd.int .u8).C W' (some ⟨g, 0, none⟩) n ys := by
 subst he
 subst hn
 obtain ⟨A, c, he, hc, hC⟩ := Kd.R_reads h
 obtain ⟨inner, ho, _⟩ := h.2
 rcases ho.2 with ⟨e0, _⟩ | ⟨g, cap, cur, e1, hg, hh, _⟩
 ·rw [e0] at he
  simp only [Value.slice.injEq] at he
  omega
 ·rw [he] at e1
  simp only [Value.slice.injEq] at e1
  obtain ⟨rfl, _, rfl⟩ := e1
  refine ⟨g, c, cur, he, hc, hh, fun W' hW' => ?_⟩
  have hr := Kd.reads_of_C (enc := Value.int .u8) (d := (0 : Int)) (h1 := fun _ => rfl) hC
  refine Kd.C_of_reads (enc := Value.int .u8) (d := (0 : Int)) (h1 := fun _ => rfl) ⟨hr.1, hr.2.1, fun hq => ?_⟩
  obtain ⟨ad, ea, h2⟩ := hr.2.2 hq
  simp only [Option.some.injEq] at ea
  subst ea
  refine ⟨_, rfl, fun i hi => ?_⟩
  have h1 := h2 i hi
  rw [show (Addr.add ⟨g, 0, none⟩ i) = ⟨g, i, none⟩ by simp [Addr.add]; omega] at h1 ⊢
  rw [blk_cell hh] at h1
  rw [blk_cell hW']
  exact h1
theorem due_own {w : World} {base : Nat} {ok : Nat → Prop} {v : Value} {x : PAuthBase.S60} (h : Kd.R PAuthBase.k60 60 w base ok v [x]) : ∃ (g c : Nat) (cur : Array Value), v = .slice (some ⟨g, 0, none⟩) 1 c ∧ w.heap[g]? = some (.cells cur 60 (0, 0)) ∧ ∀ W : World, W.heap[g]? = some (.cells cur 60 (0, 0)) → W.cell? ⟨g, 0, none⟩ = some (.int .i64 x.f0) ∧ W.cell? ⟨g, 1, none⟩ = some (.int .i64 x.f1) ∧ W.cell? ⟨g, 2, none⟩ = some (.int .i64 x.f2) ∧ W.cell? ⟨g, 3, none⟩ = some (.string x.f3) := by
 obtain ⟨g, c, e, H⟩ := AuthHand.due_one h
 obtain ⟨inner, ho, _⟩ := h.2
 rcases ho.2 with ⟨e0, _⟩ | ⟨g', cap, cur, e1, hg, hh, _⟩
 ·rw [e0] at e
  simp at e
 ·rw [e] at e1
  simp only [Value.slice.injEq, Option.some.injEq, Addr.mk.injEq] at e1
  obtain ⟨⟨rfl, _⟩, _⟩ := e1
  obtain ⟨h0, h1, h2, h3⟩ := H w (Below.refl _ _)
  rw [blk_cell hh] at h0 h1 h2 h3
  exact ⟨g, c, cur, e, hh, fun W hW => ⟨(blk_cell hW _).trans h0, (blk_cell hW _).trans h1, (blk_cell hW _).trans h2, (blk_cell hW _).trans h3⟩⟩
theorem new_blk {w : World} {g : Nat} {o : Obj} {u : Value} (h : w.heap[g]? = some o) (hn : ∃ b, u.ownBlock = some b ∧ w.heap.size ≤ b) : some g ≠ u.ownBlock := by
 obtain ⟨b, h1, h2⟩ := hn
 have := blk_lt h
 rw [h1]
 intro e
 injection e with e
 omega
theorem put_blk {W : World} {k : Nat} {o : Obj} {p : Addr} (h : W.heap[k]? = some o) (hk : k ≠ p.block) (v : Value) : (W.setCell p v).heap[k]? = some o := by
 rw [Below.heap_setCell _ _ _ k hk]
 exact h
theorem eqL (d : Nat) (w : World) (x0 y0 : Int) (x1 y1 : Int) (x2 y2 : Bool) (x3 y3 : Bool) (x4 y4 : Bool) (x5 y5 : Int) (x6 y6 : ByteArray) (x7 y7 : Bool) (x8 y8 : Int) :
  (Op.equalIn (d + 2) 50 (.agg #[.int .i64 x0, .int .i64 x1, .bool x2, .bool x3, .bool x4, .int .i64 x5, .string x6, .bool x7, .int .i64 x8]) (.agg #[.int .i64 y0, .int .i64 y1, .bool y2, .bool y3, .bool y4, .int .i64 y5, .string y6, .bool y7, .int .i64 y8])).run Tryd.prog w = .ok (x0 == y0 && (x1 == y1 && (x2 == y2 && (x3 == y3 && (x4 == y4 && (x5 == y5 && (x6.toList == y6.toList && (x7 == y7 && (x8 == y8))))))))) w := by
 refine eqA_of Tryd.underlying50 (by kernel_rfl) ?_
 refine eqf_cons (by rfl) (by go_simp; rfl) (by go_simp; rfl) (by go_simp) ?_
 refine eqf_cons (by rfl) (by go_simp; rfl) (by go_simp; rfl) (by go_simp) ?_
 refine eqf_cons (by rfl) (by go_simp; rfl) (by go_simp; rfl) (by go_simp) ?_
 refine eqf_cons (by rfl) (by go_simp; rfl) (by go_simp; rfl) (by go_simp) ?_
 refine eqf_cons (by rfl) (by go_simp; rfl) (by go_simp; rfl) (by go_simp) ?_
 refine eqf_cons (by rfl) (by go_simp; rfl) (by go_simp; rfl) (by go_simp) ?_
 refine eqf_cons (by rfl) (by go_simp; rfl) (by go_simp; rfl) (by go_simp) ?_
 refine eqf_cons (by rfl) (by go_simp; rfl) (by go_simp; rfl) (by go_simp) ?_
 exact eqf_last (by rfl) (by go_simp; rfl) (by go_simp; rfl) (by go_simp)
attribute [local go_sem high] eqL
section
attribute [local go_sem ↓] Go.wp_at_zero Go.wp_at_succ
set_option maxRecDepth 100000 in
set_option maxHeartbeats 4000000 in
theorem authchap_no (s : ByteArray) (A1 : Option Addr) (c1 L1 : Nat) (id : Int) (A3 : Option Addr) (c3 L3 : Nat) (ot : Int) (w : World) (hls : s.size ≤ 9223372036854775807) (hl1 : L1 ≤ 9223372036854775807) (HAW : Aside0 (∀ W, Below w.heap.size w W → Calls Tryd.prog 26 #[] W fun e w' => e = .returned (.bool true) ∧ Below W.heap.size W w'))
  (H : s.size < 1 ∨ (1 ≤ s.size ∧ 200 < s.size) ∨ (1 ≤ s.size ∧ s.size ≤ 200 ∧ L1 < 1) ∨ (1 ≤ s.size ∧ s.size ≤ 200 ∧ 1 ≤ L1 ∧ 255 < L1)) :
  Calls Tryd.prog 12 #[.string s, .slice A1 L1 c1, .int .u8 id, .slice A3 L3 c3, .int .u8 ot] w fun e w' => e = .returned (.bool true) ∧ Below w.heap.size w w' := by
 have HB := Aside0.mk (Below.refl w.heap.size w)
 rcases H with h | ⟨h, h2⟩ | ⟨h, h2, h3⟩ | ⟨h, h2, h3, h4⟩
 all_goals go_enter Tryd.func12, Tryd.ntmps12
 all_goals go_wp2_with (first | (go_at_call 26; (with_reducible refine (HAW.out _ HB.out).mono ?_); rintro e wq ⟨rfl, hbn⟩; replace HB := Aside0.mk (below_step HB.out hbn); clear hbn))
 all_goals go_ret
 all_goals exact ⟨rfl, HB.out⟩
set_option maxRecDepth 100000 in
set_option maxHeartbeats 8000000 in
theorem authchap_yes (s : ByteArray) (A1 : Option Addr) (c1 L1 : Nat) (id : Int) (A3 : Option Addr) (c3 L3 : Nat) (ot : Int) (ch vl : List Int) (cs xs : ByteArray) (x0 x1 x2 x3 x4 x5 x6 x7 x8 x9 x10 x11 x12 x13 x14 x15 o0 o1 o2 o3 o4 o5 o6 o7 o8 o9 o10 o11 o12 o13 o14 o15 : Int) (DK : List PAuthBase.S60) (nk : Nat) (b io : Bool) (w : World) (hs1 : 1 ≤ s.size) (hs2 : s.size ≤ 200) (hl1 : 1 ≤ L1) (hl2 : L1 ≤ 255) (hc1 : L1 ≤ c1) (hi0 : 0 ≤ id) (hi1 : id ≤ 255) (ho0 : 0 ≤ ot) (ho1 : ot ≤ 255) (hio : (id == ot) = io) (HNK : Aside0 (DK.length = nk)) (hnk : ((nk : Int) == 1) = io) (HX : Aside0 (x16 vl = [x0, x1, x2, x3, x4, x5, x6, x7, x8, x9, x10, x11, x12, x13, x14, x15])) (HBE : Aside0 (decide ([x0, x1, x2, x3, x4, x5, x6, x7, x8, x9, x10, x11, x12, x13, x14, x15] = [o0, o1, o2, o3, o4, o5, o6, o7, o8, o9, o10, o11, o12, o13, o14, o15]) = b))
  (HAW : Aside0 (∀ W, Below w.heap.size w W → Calls Tryd.prog 26 #[] W fun e w' => e = .returned (.bool true) ∧ Below W.heap.size W w'))
  (HCH : Aside0 (∀ W, Below w.heap.size w W → (Kd.int .u8).C W A1 L1 ch))
  (HVL : Aside0 (∀ W, Below w.heap.size w W → (Kd.int .u8).C W A3 L3 vl))
  (HE : Aside0 (∀ W, Below w.heap.size w W → ∀ A c, (Kd.int .u8).C W A 17 (16 :: [x0, x1, x2, x3, x4, x5, x6, x7, x8, x9, x10, x11, x12, x13, x14, x15]) → 17 ≤ c → Calls Tryd.prog 31 #[.agg #[.int .i64 49699, .int .i64 0, .bool false, .bool false, .bool false, .int .i64 0, .string (⟨#[]⟩ : ByteArray), .bool false, .int .i64 0], .int .i64 49699, .agg #[.int .i64 2, .int .i64 id, .slice A 17 c]] W fun e w' => ∃ v0_ : Value, e = .returned (.tuple #[.agg #[.int .i64 49699, .int .i64 0, .bool false, .bool false, .bool false, .int .i64 0, .string (⟨#[]⟩ : ByteArray), .bool false, .int .i64 0], v0_]) ∧ Kd.R PAuthBase.k60 60 w' W.heap.size (fun _ => True) v0_ [] ∧ Below W.heap.size W w'))
  (HBG : Aside0 (∀ W, Below w.heap.size w W → ∀ A c, (Kd.int .u8).C W A (L1 + 1) ((L1 : Int) :: ch) → L1 + 1 ≤ c → Calls Tryd.prog 32 #[.agg #[.int .i64 49699, .int .i64 0, .bool false, .bool false, .bool false, .int .i64 0, .string (⟨#[]⟩ : ByteArray), .bool false, .int .i64 0], .int .i64 49699, .agg #[.int .i64 1, .int .i64 id, .slice A (L1 + 1) c]] W fun e w' => e = .returned (.tuple #[.agg #[.int .i64 49699, .int .i64 0, .bool false, .bool false, .bool true, .int .i64 id, .string cs, .bool false, .int .i64 0], .bool true]) ∧ Below W.heap.size W w'))
  (HH : Aside0 (∀ W, Below w.heap.size w W → ∀ A c, (Kd.int .u8).C W A 17 (16 :: [x0, x1, x2, x3, x4, x5, x6, x7, x8, x9, x10, x11, x12, x13, x14, x15]) → 17 ≤ c → Calls Tryd.prog 31 #[.agg #[.int .i64 49699, .int .i64 0, .bool false, .bool false, .bool true, .int .i64 id, .string cs, .bool false, .int .i64 0], .int .i64 49699, .agg #[.int .i64 2, .int .i64 id, .slice A 17 c]] W fun e w' => ∃ v0_ : Value, e = .returned (.tuple #[.agg #[.int .i64 49699, .int .i64 0, .bool false, .bool false, .bool true, .int .i64 id, .string cs, .bool false, .int .i64 0], v0_]) ∧ Kd.R PAuthBase.k60 60 w' W.heap.size (fun _ => True) v0_ [⟨10, 49699, id, xs⟩] ∧ Below W.heap.size W w'))
  (HK : Aside0 (∀ W, Below w.heap.size w W → ∀ A c, (Kd.int .u8).C W A 17 (16 :: [x0, x1, x2, x3, x4, x5, x6, x7, x8, x9, x10, x11, x12, x13, x14, x15]) → 17 ≤ c → Calls Tryd.prog 31 #[.agg #[.int .i64 49699, .int .i64 0, .bool false, .bool false, .bool true, .int .i64 id, .string cs, .bool false, .int .i64 0], .int .i64 49699, .agg #[.int .i64 2, .int .i64 ot, .slice A 17 c]] W fun e w' => ∃ v0_ : Value, e = .returned (.tuple #[.agg #[.int .i64 49699, .int .i64 0, .bool false, .bool false, .bool true, .int .i64 id, .string cs, .bool false, .int .i64 0], v0_]) ∧ Kd.R PAuthBase.k60 60 w' W.heap.size (fun _ => True) v0_ DK ∧ Below W.heap.size W w'))
  (HRA : Aside0 (∀ W, Below w.heap.size w W → Calls Tryd.prog 23 #[.int .i64 id, .string s, .slice A1 L1 c1] W fun e w' => e = .returned (.agg #[.int .u8 o0, .int .u8 o1, .int .u8 o2, .int .u8 o3, .int .u8 o4, .int .u8 o5, .int .u8 o6, .int .u8 o7, .int .u8 o8, .int .u8 o9, .int .u8 o10, .int .u8 o11, .int .u8 o12, .int .u8 o13, .int .u8 o14, .int .u8 o15]) ∧ Below W.heap.size W w'))
  (HA3 : Aside0 (∀ W, Below w.heap.size w W → Calls Tryd.prog 29 #[.agg #[.int .i64 0, .int .i64 0, .int .i64 0, .int .i64 0, .string s, .string (⟨#[]⟩ : ByteArray), .int .i64 0, .int .u32 0, .bool false], .agg #[.int .i64 49699, .int .i64 0, .bool false, .bool false, .bool true, .int .i64 id, .string cs, .bool false, .int .i64 0], .agg #[.int .i64 10, .int .i64 49699, .int .i64 id, .string xs], .int .i64 49699, .agg #[.int .i64 3, .int .i64 id, .slice none 0 0]] W fun e w' => e = .returned (.tuple #[.agg #[.int .i64 49699, .int .i64 0, .bool b, .bool false, .bool true, .int .i64 id, .string cs, .bool false, .int .i64 0], .bool b]) ∧ Below W.heap.size W w'))
  (HA4 : Aside0 (∀ W, Below w.heap.size w W → Calls Tryd.prog 29 #[.agg #[.int .i64 0, .int .i64 0, .int .i64 0, .int .i64 0, .string s, .string (⟨#[]⟩ : ByteArray), .int .i64 0, .int .u32 0, .bool false], .agg #[.int .i64 49699, .int .i64 0, .bool false, .bool false, .bool true, .int .i64 id, .string cs, .bool false, .int .i64 0], .agg #[.int .i64 10, .int .i64 49699, .int .i64 id, .string xs], .int .i64 49699, .agg #[.int .i64 4, .int .i64 id, .slice none 0 0]] W fun e w' => e = .returned (.tuple #[.agg #[.int .i64 49699, .int .i64 0, .bool false, .bool false, .bool true, .int .i64 id, .string cs, .bool false, .int .i64 0], .bool (!b)]) ∧ Below W.heap.size W w'))
  (HD3 : Aside0 (∀ W, Below w.heap.size w W → Calls Tryd.prog 33 #[.agg #[.int .i64 49699, .int .i64 0, .bool b, .bool false, .bool true, .int .i64 id, .string cs, .bool false, .int .i64 0]] W fun e w' => e = .returned (.bool b) ∧ Below W.heap.size W w'))
  (HD4 : Aside0 (∀ W, Below w.heap.size w W → Calls Tryd.prog 33 #[.agg #[.int .i64 49699, .int .i64 0, .bool false, .bool false, .bool true, .int .i64 id, .string cs, .bool false, .int .i64 0]] W fun e w' => e = .returned (.bool false) ∧ Below W.heap.size W w')) :
  Calls Tryd.prog 12 #[.string s, .slice A1 L1 c1, .int .u8 id, .slice A3 L3 c3, .int .u8 ot] w fun e w' => e = .returned (.bool true) ∧ Below w.heap.size w w' := by
 have HB := Aside0.mk (Below.refl w.heap.size w)
 go_enter Tryd.func12, Tryd.ntmps12
 go_upto_region 4 with (first | (go_at_call 26; (with_reducible refine (HAW.out _ HB.out).mono ?_); rintro e wq ⟨rfl, hbn⟩; replace HB := Aside0.mk (below_step HB.out hbn); clear hbn) | ((with_reducible refine gate_dst (N := 11) rfl ?_); refine' box_event ?hg (N := 11) ?hd (t := 24) ?hr ?_; (case hd => rfl); (case hg => rfl); (case hr => first | (go_simp; done) | (go_simp; rfl)); intro g11 hgn wq hbox hbn; have GE_g11 := Aside0.mk (show w.heap.size ≤ g11 from Nat.le_trans (below_size HB.out) (Nat.le_of_eq hgn.symm)); replace HB := Aside0.mk (below_step HB.out hbn); have G11 := Aside0.mk hbox; clear hbox hbn hgn; skip))
 (try simp only [Act.put, List.setIfInBounds_toArray, List.set_cons_zero, List.set_cons_succ])
 go_upto_region 5 with (first | ((with_reducible refine gate_builtin (b := .copy) (xs := #[.tmp 51, .tmp 52]) rfl ?_); refine copy16 (w0 := w) (B := w.heap.size) rfl (.tmp 51) (.tmp 52) 22 22 5 24 rfl Tryd.underlying22 (by kernel_rfl) rfl rfl G11.out (HVL.out _ HB.out) HB.out GE_g11.out ?_; intro nn wq hgx hbx; rw [HX.out] at hgx; replace G11 := Aside0.mk (show wq.heap[g11]? = some (.cells #[.int .u8 x0, .int .u8 x1, .int .u8 x2, .int .u8 x3, .int .u8 x4, .int .u8 x5, .int .u8 x6, .int .u8 x7, .int .u8 x8, .int .u8 x9, .int .u8 x10, .int .u8 x11, .int .u8 x12, .int .u8 x13, .int .u8 x14, .int .u8 x15] 24 (0, 0)) from hgx); replace HB := Aside0.mk hbx; clear hgx hbx))
 (try simp only [Act.put, List.setIfInBounds_toArray, List.set_cons_zero, List.set_cons_succ])
 clear HX HVL
 go_upto_region 6 with (first | ((with_reducible refine gate_dst (N := 12) rfl ?_); refine' box_event ?hg (N := 12) ?hd (t := 48) ?hr ?_; (case hd => rfl); (case hg => rfl); (case hr => first | (go_simp; done) | (go_simp; rfl)); intro g12 hgn wq hbox hbn; have NE_G11_g12 := Aside0.mk (show g11 ≠ g12 from Nat.ne_of_lt (Nat.lt_of_lt_of_eq (blk_lt G11.out) hgn.symm)); have GE_g12 := Aside0.mk (show w.heap.size ≤ g12 from Nat.le_trans (below_size HB.out) (Nat.le_of_eq hgn.symm)); replace G11 := Aside0.mk (blk_below G11.out hbn); replace HB := Aside0.mk (below_step HB.out hbn); have G12 := Aside0.mk hbox; clear hbox hbn hgn; obtain ⟨c_0, c_1, c_2, c_3, c_4, c_5, c_6, c_7, c_8, c_f0, c_f1, c_f2, c_f3, c_f4, c_f5, c_f6, c_f7, c_f8⟩ := cells9 G12.out))
 (try simp only [Act.put, List.setIfInBounds_toArray, List.set_cons_zero, List.set_cons_succ])
 clear c_0 c_f0 c_1 c_f1 c_2 c_f2 c_3 c_f3 c_4 c_f4 c_5 c_f5 c_6 c_f6 c_7 c_f7 c_8 c_f8
 have yG11 := set9_blk G11.out NE_G11_g12.out (.int .i64 0) (.int .i64 0) (.int .i64 0) (.int .i64 0) (.string s) (.string (⟨#[]⟩ : ByteArray)) (.int .i64 0) (.int .u32 0) (.bool false)
 have yG12 := set9_row G12.out (.int .i64 0) (.int .i64 0) (.int .i64 0) (.int .i64 0) (.string s) (.string (⟨#[]⟩ : ByteArray)) (.int .i64 0) (.int .u32 0) (.bool false)
 have yHB := set9_below HB.out GE_g12.out (.int .i64 0) (.int .i64 0) (.int .i64 0) (.int .i64 0) (.string s) (.string (⟨#[]⟩ : ByteArray)) (.int .i64 0) (.int .u32 0) (.bool false)
 clear G11 G12 HB
 unfold set9 at yG11
 unfold set9 at yG12
 unfold set9 at yHB
 generalize (((((((((wq.setCell ⟨g12, 0, none⟩ (.int .i64 0)).setCell ⟨g12, 1, none⟩ (.int .i64 0)).setCell ⟨g12, 2, none⟩ (.int .i64 0)).setCell ⟨g12, 3, none⟩ (.int .i64 0)).setCell ⟨g12, 4, none⟩ (.string s)).setCell ⟨g12, 5, none⟩ (.string (⟨#[]⟩ : ByteArray))).setCell ⟨g12, 6, none⟩ (.int .i64 0)).setCell ⟨g12, 7, none⟩ (.int .u32 0)).setCell ⟨g12, 8, none⟩ (.bool false)) = wk1 at yG11 yG12 yHB ⊢
 have G11 := Aside0.mk yG11
 clear yG11
 have G12 := Aside0.mk yG12
 clear yG12
 have HB := Aside0.mk yHB
 clear yHB
 have HLM : ((L1 : Int) % 256) = L1 := by omega
 have HLC := Aside0.mk (Kd.C_len (HCH.out _ HB.out))
 go_upto_region 7 with (first | ((with_reducible refine gate_dst (N := 61) rfl ?_); refine Kd.R_lit (Kd.int .u8) _ 5 ?hg (N := 61) ?hd (xs := [(L1 : Int) % 256]) (inner := [.int .u8 ((L1 : Int) % 256)]) (ok := fun _ => True) (okp := fun _ => True) ?hr ?hp (fun _ hk => hk) trivial (Below.refl _ _) (Nat.le_refl _) (by simp) ?_; (case hd => rfl); (case hg => rfl); (case hr => first | (go_simp; done) | (go_simp; rfl)); (case hp => exact (Reps.one (show Kd.M (Kd.int .u8) _ _ _ ((L1 : Int) % 256) [.int .u8 ((L1 : Int) % 256)] from rfl) (Reps.none _ _))); intro v61 wq ho hbn hg_ hnew_; clear hg_ hnew_; have HL61 := Aside0.mk (Kd.R_lower ho (below_size HB.out)); clear ho; replace G11 := Aside0.mk (blk_below G11.out hbn); replace G12 := Aside0.mk (blk_below G12.out hbn); replace HB := Aside0.mk (below_step HB.out hbn); clear hbn) | ((with_reducible refine gate_builtin (b := .append) (xs := #[.tmp 61, .tmp 62]) rfl ?_); at_builtin; refine Kd.R_append_rows (Kd.int .u8) (w0 := w) w.heap.size rfl (.tmp 61) (.tmp 62) 22 5 (.int .u8 0) 1 rfl Tryd.underlying22 info5 rfl (by decide) (by omega) v61 ([(L1 : Int) % 256]) ch _ _ _ (fun _ => True) (fun _ => False) rfl rfl ?aO ?aR (fun _ _ h => h) (fun _ h => h.elim) ?aF ?aB ?aS ?aL ?_; (case aR => exact HCH.out _ HB.out); (case aB => exact HB.out); (case aF => exact (fun _ _ => trivial)); (case aO => exact HL61.out); (case aS => exact (below_size HB.out)); (case aL => first | (simp; done) | (simp; omega) | omega); intro vv wq ho hb hg hat; replace G11 := Aside0.mk (blk_grown G11.out hg (Kd.R_ne HL61.out G11.out (by decide))); replace G12 := Aside0.mk (blk_grown G12.out hg (Kd.R_ne HL61.out G12.out (by decide))); replace HB := Aside0.mk hb; obtain ⟨ga, c_ga, curga, rfl, h_ga, hg_ga, hC_ga⟩ := own_block (ys := ((L1 : Int) :: ch)) (n := (L1 + 1)) ho (by rw [HLM]; rfl) (by rw [List.length_cons, HLC.out]) (by omega); have GA := Aside0.mk hg_ga; have GAC := Aside0.mk hC_ga; have GAc := Aside0.mk h_ga; clear ho hb hg hat hg_ga hC_ga h_ga HL61) | ((with_reducible refine gate_dst (N := 13) rfl ?_); refine' box_event ?hg (N := 13) ?hd (t := 52) ?hr ?_; (case hd => rfl); (case hg => rfl); (case hr => first | (go_simp; done) | (go_simp; rfl)); intro g13 hgn wq hbox hbn; have NE_G11_g13 := Aside0.mk (show g11 ≠ g13 from Nat.ne_of_lt (Nat.lt_of_lt_of_eq (blk_lt G11.out) hgn.symm)); have NE_G12_g13 := Aside0.mk (show g12 ≠ g13 from Nat.ne_of_lt (Nat.lt_of_lt_of_eq (blk_lt G12.out) hgn.symm)); have NE_GA_g13 := Aside0.mk (show ga ≠ g13 from Nat.ne_of_lt (Nat.lt_of_lt_of_eq (blk_lt GA.out) hgn.symm)); have GE_g13 := Aside0.mk (show w.heap.size ≤ g13 from Nat.le_trans (below_size HB.out) (Nat.le_of_eq hgn.symm)); replace G11 := Aside0.mk (blk_below G11.out hbn); replace G12 := Aside0.mk (blk_below G12.out hbn); replace GA := Aside0.mk (blk_below GA.out hbn); replace HB := Aside0.mk (below_step HB.out hbn); have G13 := Aside0.mk hbox; clear hbox hbn hgn; obtain ⟨p_0, p_1, p_2, p_f0, p_f1, p_f2⟩ := cells3 G13.out))
 (try simp only [Act.put, List.setIfInBounds_toArray, List.set_cons_zero, List.set_cons_succ])
 clear HLM HLC HCH
 clear p_0 p_f0 p_1 p_f1 p_2 p_f2
 have yG11 := set3_blk G11.out NE_G11_g13.out (.int .i64 1) (.int .i64 id) (.slice (some ⟨ga, 0, none⟩) (L1 + 1) c_ga)
 have yG12 := set3_blk G12.out NE_G12_g13.out (.int .i64 1) (.int .i64 id) (.slice (some ⟨ga, 0, none⟩) (L1 + 1) c_ga)
 have yGA := set3_blk GA.out NE_GA_g13.out (.int .i64 1) (.int .i64 id) (.slice (some ⟨ga, 0, none⟩) (L1 + 1) c_ga)
 have yG13 := set3_row G13.out (.int .i64 1) (.int .i64 id) (.slice (some ⟨ga, 0, none⟩) (L1 + 1) c_ga)
 have yHB := set3_below HB.out GE_g13.out (.int .i64 1) (.int .i64 id) (.slice (some ⟨ga, 0, none⟩) (L1 + 1) c_ga)
 clear G11 G12 GA G13 HB
 unfold set3 at yG11
 unfold set3 at yG12
 unfold set3 at yGA
 unfold set3 at yG13
 unfold set3 at yHB
 generalize (((wq.setCell ⟨g13, 0, none⟩ (.int .i64 1)).setCell ⟨g13, 1, none⟩ (.int .i64 id)).setCell ⟨g13, 2, none⟩ (.slice (some ⟨ga, 0, none⟩) (L1 + 1) c_ga)) = wk2 at yG11 yG12 yGA yG13 yHB ⊢
 have G11 := Aside0.mk yG11
 clear yG11
 have G12 := Aside0.mk yG12
 clear yG12
 have GA := Aside0.mk yGA
 clear yGA
 have G13 := Aside0.mk yG13
 clear yG13
 have HB := Aside0.mk yHB
 clear yHB
 go_upto_region 8 with (first | ((with_reducible refine gate_dst (N := 67) rfl ?_); refine Kd.R_lit (Kd.int .u8) _ 5 ?hg (N := 67) ?hd (xs := [16]) (inner := [.int .u8 (16)]) (ok := fun _ => True) (okp := fun _ => True) ?hr ?hp (fun _ hk => hk) trivial (Below.refl _ _) (Nat.le_refl _) (by simp) ?_; (case hd => rfl); (case hg => rfl); (case hr => first | (go_simp; done) | (go_simp; rfl)); (case hp => exact (Reps.one (show Kd.M (Kd.int .u8) _ _ _ (16) [.int .u8 (16)] from rfl) (Reps.none _ _))); intro v67 wq ho hbn hg_ hnew_; have NX_GA := Aside0.mk (new_blk GA.out hnew_); clear hg_ hnew_; have HL67 := Aside0.mk (Kd.R_lower ho (below_size HB.out)); clear ho; replace G11 := Aside0.mk (blk_below G11.out hbn); replace G12 := Aside0.mk (blk_below G12.out hbn); replace GA := Aside0.mk (blk_below GA.out hbn); replace G13 := Aside0.mk (blk_below G13.out hbn); replace HB := Aside0.mk (below_step HB.out hbn); clear hbn) | ((with_reducible refine gate_builtin (b := .append) (xs := #[.tmp 67, .tmp 68]) rfl ?_); at_builtin; refine Kd.R_append_rows (Kd.int .u8) (w0 := w) w.heap.size rfl (.tmp 67) (.tmp 68) 22 5 (.int .u8 0) 1 rfl Tryd.underlying22 info5 rfl (by decide) (by omega) v67 ([16]) [x0, x1, x2, x3, x4, x5, x6, x7, x8, x9, x10, x11, x12, x13, x14, x15] _ _ _ (fun _ => True) (fun _ => False) rfl rfl ?aO ?aR (fun _ _ h => h) (fun _ h => h.elim) ?aF ?aB ?aS ?aL ?_; (case aR => exact (show (Kd.int .u8).C _ (some ⟨g11, 0, none⟩) 16 [x0, x1, x2, x3, x4, x5, x6, x7, x8, x9, x10, x11, x12, x13, x14, x15] from C_block (k := .u8) (xs := [x0, x1, x2, x3, x4, x5, x6, x7, x8, x9, x10, x11, x12, x13, x14, x15]) G11.out rfl (by simp))); (case aB => exact HB.out); (case aF => exact (fun _ _ => trivial)); (case aO => exact HL67.out); (case aS => exact (below_size HB.out)); (case aL => first | (simp; done) | (simp; omega) | omega); intro vv wq ho hb hg hat; replace G11 := Aside0.mk (blk_grown G11.out hg (Kd.R_ne HL67.out G11.out (by decide))); replace G12 := Aside0.mk (blk_grown G12.out hg (Kd.R_ne HL67.out G12.out (by decide))); replace GA := Aside0.mk (blk_grown GA.out hg NX_GA.out); replace G13 := Aside0.mk (blk_grown G13.out hg (Kd.R_ne HL67.out G13.out (by decide))); replace HB := Aside0.mk hb; obtain ⟨gb, c_gb, curgb, rfl, h_gb, hg_gb, hC_gb⟩ := own_block (ys := (16 :: [x0, x1, x2, x3, x4, x5, x6, x7, x8, x9, x10, x11, x12, x13, x14, x15])) (n := 17) ho (rfl) (rfl) (by omega); have GB := Aside0.mk hg_gb; have GBC := Aside0.mk hC_gb; have GBc := Aside0.mk h_gb; clear ho hb hg hat hg_gb hC_gb h_gb HL67) | ((with_reducible refine gate_dst (N := 14) rfl ?_); refine' box_event ?hg (N := 14) ?hd (t := 52) ?hr ?_; (case hd => rfl); (case hg => rfl); (case hr => first | (go_simp; done) | (go_simp; rfl)); intro g14 hgn wq hbox hbn; have NE_G11_g14 := Aside0.mk (show g11 ≠ g14 from Nat.ne_of_lt (Nat.lt_of_lt_of_eq (blk_lt G11.out) hgn.symm)); have NE_G12_g14 := Aside0.mk (show g12 ≠ g14 from Nat.ne_of_lt (Nat.lt_of_lt_of_eq (blk_lt G12.out) hgn.symm)); have NE_GA_g14 := Aside0.mk (show ga ≠ g14 from Nat.ne_of_lt (Nat.lt_of_lt_of_eq (blk_lt GA.out) hgn.symm)); have NE_G13_g14 := Aside0.mk (show g13 ≠ g14 from Nat.ne_of_lt (Nat.lt_of_lt_of_eq (blk_lt G13.out) hgn.symm)); have NE_GB_g14 := Aside0.mk (show gb ≠ g14 from Nat.ne_of_lt (Nat.lt_of_lt_of_eq (blk_lt GB.out) hgn.symm)); have GE_g14 := Aside0.mk (show w.heap.size ≤ g14 from Nat.le_trans (below_size HB.out) (Nat.le_of_eq hgn.symm)); replace G11 := Aside0.mk (blk_below G11.out hbn); replace G12 := Aside0.mk (blk_below G12.out hbn); replace GA := Aside0.mk (blk_below GA.out hbn); replace G13 := Aside0.mk (blk_below G13.out hbn); replace GB := Aside0.mk (blk_below GB.out hbn); replace HB := Aside0.mk (below_step HB.out hbn); have G14 := Aside0.mk hbox; clear hbox hbn hgn; obtain ⟨q_0, q_1, q_2, q_f0, q_f1, q_f2⟩ := cells3 G14.out))
 (try simp only [Act.put, List.setIfInBounds_toArray, List.set_cons_zero, List.set_cons_succ])
 clear NX_GA
 clear q_0 q_f0 q_1 q_f1 q_2 q_f2
 have yG11 := set3_blk G11.out NE_G11_g14.out (.int .i64 2) (.int .i64 id) (.slice (some ⟨gb, 0, none⟩) 17 c_gb)
 have yG12 := set3_blk G12.out NE_G12_g14.out (.int .i64 2) (.int .i64 id) (.slice (some ⟨gb, 0, none⟩) 17 c_gb)
 have yGA := set3_blk GA.out NE_GA_g14.out (.int .i64 2) (.int .i64 id) (.slice (some ⟨gb, 0, none⟩) 17 c_gb)
 have yG13 := set3_blk G13.out NE_G13_g14.out (.int .i64 2) (.int .i64 id) (.slice (some ⟨gb, 0, none⟩) 17 c_gb)
 have yGB := set3_blk GB.out NE_GB_g14.out (.int .i64 2) (.int .i64 id) (.slice (some ⟨gb, 0, none⟩) 17 c_gb)
 have yG14 := set3_row G14.out (.int .i64 2) (.int .i64 id) (.slice (some ⟨gb, 0, none⟩) 17 c_gb)
 have yHB := set3_below HB.out GE_g14.out (.int .i64 2) (.int .i64 id) (.slice (some ⟨gb, 0, none⟩) 17 c_gb)
 clear G11 G12 GA G13 GB G14 HB
 unfold set3 at yG11
 unfold set3 at yG12
 unfold set3 at yGA
 unfold set3 at yG13
 unfold set3 at yGB
 unfold set3 at yG14
 unfold set3 at yHB
 generalize (((wq.setCell ⟨g14, 0, none⟩ (.int .i64 2)).setCell ⟨g14, 1, none⟩ (.int .i64 id)).setCell ⟨g14, 2, none⟩ (.slice (some ⟨gb, 0, none⟩) 17 c_gb)) = wk3 at yG11 yG12 yGA yG13 yGB yG14 yHB ⊢
 have G11 := Aside0.mk yG11
 clear yG11
 have G12 := Aside0.mk yG12
 clear yG12
 have GA := Aside0.mk yGA
 clear yGA
 have G13 := Aside0.mk yG13
 clear yG13
 have GB := Aside0.mk yGB
 clear yGB
 have G14 := Aside0.mk yG14
 clear yG14
 have HB := Aside0.mk yHB
 clear yHB
 obtain ⟨q_0, q_1, q_2, q_f0, q_f1, q_f2⟩ := cells3 G14.out
 go_upto_region 9 with (first | (go_at_call 31; (with_reducible refine (HE.out _ HB.out _ _ (GBC.out _ GB.out) GBc.out).mono ?_); rintro e wq ⟨ve, rfl, hr, hbn⟩; clear q_0 q_f0 q_1 q_f1 q_2 q_f2; replace G11 := Aside0.mk (blk_below G11.out hbn); replace G12 := Aside0.mk (blk_below G12.out hbn); replace GA := Aside0.mk (blk_below GA.out hbn); replace G13 := Aside0.mk (blk_below G13.out hbn); replace GB := Aside0.mk (blk_below GB.out hbn); replace G14 := Aside0.mk (blk_below G14.out hbn); replace HB := Aside0.mk (below_step HB.out hbn); obtain ⟨Ae, ce, rfl⟩ := Kd.R_slice hr; clear hr; clear hbn; obtain ⟨q_0, q_1, q_2, q_f0, q_f1, q_f2⟩ := cells3 G14.out) | ((with_reducible refine gate_dst (N := 15) rfl ?_); refine' box_event ?hg (N := 15) ?hd (t := 50) ?hr ?_; (case hd => rfl); (case hg => rfl); (case hr => first | (go_simp; done) | (go_simp; rfl)); intro g15 hgn wq hbox hbn; clear q_0 q_f0 q_1 q_f1 q_2 q_f2; have NE_G11_g15 := Aside0.mk (show g11 ≠ g15 from Nat.ne_of_lt (Nat.lt_of_lt_of_eq (blk_lt G11.out) hgn.symm)); have NE_G12_g15 := Aside0.mk (show g12 ≠ g15 from Nat.ne_of_lt (Nat.lt_of_lt_of_eq (blk_lt G12.out) hgn.symm)); have NE_GA_g15 := Aside0.mk (show ga ≠ g15 from Nat.ne_of_lt (Nat.lt_of_lt_of_eq (blk_lt GA.out) hgn.symm)); have NE_G13_g15 := Aside0.mk (show g13 ≠ g15 from Nat.ne_of_lt (Nat.lt_of_lt_of_eq (blk_lt G13.out) hgn.symm)); have NE_GB_g15 := Aside0.mk (show gb ≠ g15 from Nat.ne_of_lt (Nat.lt_of_lt_of_eq (blk_lt GB.out) hgn.symm)); have NE_G14_g15 := Aside0.mk (show g14 ≠ g15 from Nat.ne_of_lt (Nat.lt_of_lt_of_eq (blk_lt G14.out) hgn.symm)); have GE_g15 := Aside0.mk (show w.heap.size ≤ g15 from Nat.le_trans (below_size HB.out) (Nat.le_of_eq hgn.symm)); replace G11 := Aside0.mk (blk_below G11.out hbn); replace G12 := Aside0.mk (blk_below G12.out hbn); replace GA := Aside0.mk (blk_below GA.out hbn); replace G13 := Aside0.mk (blk_below G13.out hbn); replace GB := Aside0.mk (blk_below GB.out hbn); replace G14 := Aside0.mk (blk_below G14.out hbn); replace HB := Aside0.mk (below_step HB.out hbn); have G15 := Aside0.mk hbox; clear hbox hbn hgn; obtain ⟨q_0, q_1, q_2, q_f0, q_f1, q_f2⟩ := cells3 G14.out; obtain ⟨e_0, e_1, e_2, e_3, e_4, e_5, e_6, e_7, e_8, e_f0, e_f1, e_f2, e_f3, e_f4, e_f5, e_f6, e_f7, e_f8⟩ := cells9 G15.out))
 (try simp only [Act.put, List.setIfInBounds_toArray, List.set_cons_zero, List.set_cons_succ])
 clear q_0 q_f0 q_1 q_f1 q_2 q_f2
 clear e_0 e_f0 e_1 e_f1 e_2 e_f2 e_3 e_f3 e_4 e_f4 e_5 e_f5 e_6 e_f6 e_7 e_f7 e_8 e_f8
 have yG11 := set9_blk G11.out NE_G11_g15.out (.int .i64 49699) (.int .i64 0) (.bool false) (.bool false) (.bool false) (.int .i64 0) (.string (⟨#[]⟩ : ByteArray)) (.bool false) (.int .i64 0)
 have yG12 := set9_blk G12.out NE_G12_g15.out (.int .i64 49699) (.int .i64 0) (.bool false) (.bool false) (.bool false) (.int .i64 0) (.string (⟨#[]⟩ : ByteArray)) (.bool false) (.int .i64 0)
 have yGA := set9_blk GA.out NE_GA_g15.out (.int .i64 49699) (.int .i64 0) (.bool false) (.bool false) (.bool false) (.int .i64 0) (.string (⟨#[]⟩ : ByteArray)) (.bool false) (.int .i64 0)
 have yG13 := set9_blk G13.out NE_G13_g15.out (.int .i64 49699) (.int .i64 0) (.bool false) (.bool false) (.bool false) (.int .i64 0) (.string (⟨#[]⟩ : ByteArray)) (.bool false) (.int .i64 0)
 have yGB := set9_blk GB.out NE_GB_g15.out (.int .i64 49699) (.int .i64 0) (.bool false) (.bool false) (.bool false) (.int .i64 0) (.string (⟨#[]⟩ : ByteArray)) (.bool false) (.int .i64 0)
 have yG14 := set9_blk G14.out NE_G14_g15.out (.int .i64 49699) (.int .i64 0) (.bool false) (.bool false) (.bool false) (.int .i64 0) (.string (⟨#[]⟩ : ByteArray)) (.bool false) (.int .i64 0)
 have yHB := set9_below HB.out GE_g15.out (.int .i64 49699) (.int .i64 0) (.bool false) (.bool false) (.bool false) (.int .i64 0) (.string (⟨#[]⟩ : ByteArray)) (.bool false) (.int .i64 0)
 clear G11 G12 GA G13 GB G14 G15 HB
 unfold set9 at yG11
 unfold set9 at yG12
 unfold set9 at yGA
 unfold set9 at yG13
 unfold set9 at yGB
 unfold set9 at yG14
 unfold set9 at yHB
 generalize (((((((((wq.setCell ⟨g15, 0, none⟩ (.int .i64 49699)).setCell ⟨g15, 1, none⟩ (.int .i64 0)).setCell ⟨g15, 2, none⟩ (.bool false)).setCell ⟨g15, 3, none⟩ (.bool false)).setCell ⟨g15, 4, none⟩ (.bool false)).setCell ⟨g15, 5, none⟩ (.int .i64 0)).setCell ⟨g15, 6, none⟩ (.string (⟨#[]⟩ : ByteArray))).setCell ⟨g15, 7, none⟩ (.bool false)).setCell ⟨g15, 8, none⟩ (.int .i64 0)) = wk4 at yG11 yG12 yGA yG13 yGB yG14 yHB ⊢
 have G11 := Aside0.mk yG11
 clear yG11
 have G12 := Aside0.mk yG12
 clear yG12
 have GA := Aside0.mk yGA
 clear yGA
 have G13 := Aside0.mk yG13
 clear yG13
 have GB := Aside0.mk yGB
 clear yGB
 have G14 := Aside0.mk yG14
 clear yG14
 have HB := Aside0.mk yHB
 clear yHB
 clear GE_g15
 clear HE
 obtain ⟨p_0, p_1, p_2, p_f0, p_f1, p_f2⟩ := cells3 G13.out
 go_upto_region 10 with (first | (go_at_call 32; (with_reducible refine (HBG.out _ HB.out _ _ (GAC.out _ GA.out) GAc.out).mono ?_); rintro e wq ⟨rfl, hbn⟩; clear p_0 p_f0 p_1 p_f1 p_2 p_f2; replace G11 := Aside0.mk (blk_below G11.out hbn); replace G12 := Aside0.mk (blk_below G12.out hbn); replace GA := Aside0.mk (blk_below GA.out hbn); replace G13 := Aside0.mk (blk_below G13.out hbn); replace GB := Aside0.mk (blk_below GB.out hbn); replace G14 := Aside0.mk (blk_below G14.out hbn); replace HB := Aside0.mk (below_step HB.out hbn); clear hbn; obtain ⟨p_0, p_1, p_2, p_f0, p_f1, p_f2⟩ := cells3 G13.out) | ((with_reducible refine gate_dst (N := 17) rfl ?_); refine' box_event ?hg (N := 17) ?hd (t := 50) ?hr ?_; (case hd => rfl); (case hg => rfl); (case hr => first | (go_simp; done) | (go_simp; rfl)); intro g17 hgn wq hbox hbn; clear p_0 p_f0 p_1 p_f1 p_2 p_f2; have NE_G11_g17 := Aside0.mk (show g11 ≠ g17 from Nat.ne_of_lt (Nat.lt_of_lt_of_eq (blk_lt G11.out) hgn.symm)); have NE_G12_g17 := Aside0.mk (show g12 ≠ g17 from Nat.ne_of_lt (Nat.lt_of_lt_of_eq (blk_lt G12.out) hgn.symm)); have NE_GA_g17 := Aside0.mk (show ga ≠ g17 from Nat.ne_of_lt (Nat.lt_of_lt_of_eq (blk_lt GA.out) hgn.symm)); have NE_G13_g17 := Aside0.mk (show g13 ≠ g17 from Nat.ne_of_lt (Nat.lt_of_lt_of_eq (blk_lt G13.out) hgn.symm)); have NE_GB_g17 := Aside0.mk (show gb ≠ g17 from Nat.ne_of_lt (Nat.lt_of_lt_of_eq (blk_lt GB.out) hgn.symm)); have NE_G14_g17 := Aside0.mk (show g14 ≠ g17 from Nat.ne_of_lt (Nat.lt_of_lt_of_eq (blk_lt G14.out) hgn.symm)); have GE_g17 := Aside0.mk (show w.heap.size ≤ g17 from Nat.le_trans (below_size HB.out) (Nat.le_of_eq hgn.symm)); replace G11 := Aside0.mk (blk_below G11.out hbn); replace G12 := Aside0.mk (blk_below G12.out hbn); replace GA := Aside0.mk (blk_below GA.out hbn); replace G13 := Aside0.mk (blk_below G13.out hbn); replace GB := Aside0.mk (blk_below GB.out hbn); replace G14 := Aside0.mk (blk_below G14.out hbn); replace HB := Aside0.mk (below_step HB.out hbn); have G17 := Aside0.mk hbox; clear hbox hbn hgn; obtain ⟨p_0, p_1, p_2, p_f0, p_f1, p_f2⟩ := cells3 G13.out; obtain ⟨l_0, l_1, l_2, l_3, l_4, l_5, l_6, l_7, l_8, l_f0, l_f1, l_f2, l_f3, l_f4, l_f5, l_f6, l_f7, l_f8⟩ := cells9 G17.out))
 (try simp only [Act.put, List.setIfInBounds_toArray, List.set_cons_zero, List.set_cons_succ])
 clear p_0 p_f0 p_1 p_f1 p_2 p_f2
 clear l_0 l_f0 l_1 l_f1 l_2 l_f2 l_3 l_f3 l_4 l_f4 l_5 l_f5 l_6 l_f6 l_7 l_f7 l_8 l_f8
 have yG11 := set9_blk G11.out NE_G11_g17.out (.int .i64 49699) (.int .i64 0) (.bool false) (.bool false) (.bool true) (.int .i64 id) (.string cs) (.bool false) (.int .i64 0)
 have yG12 := set9_blk G12.out NE_G12_g17.out (.int .i64 49699) (.int .i64 0) (.bool false) (.bool false) (.bool true) (.int .i64 id) (.string cs) (.bool false) (.int .i64 0)
 have yGA := set9_blk GA.out NE_GA_g17.out (.int .i64 49699) (.int .i64 0) (.bool false) (.bool false) (.bool true) (.int .i64 id) (.string cs) (.bool false) (.int .i64 0)
 have yG13 := set9_blk G13.out NE_G13_g17.out (.int .i64 49699) (.int .i64 0) (.bool false) (.bool false) (.bool true) (.int .i64 id) (.string cs) (.bool false) (.int .i64 0)
 have yGB := set9_blk GB.out NE_GB_g17.out (.int .i64 49699) (.int .i64 0) (.bool false) (.bool false) (.bool true) (.int .i64 id) (.string cs) (.bool false) (.int .i64 0)
 have yG14 := set9_blk G14.out NE_G14_g17.out (.int .i64 49699) (.int .i64 0) (.bool false) (.bool false) (.bool true) (.int .i64 id) (.string cs) (.bool false) (.int .i64 0)
 have yG17 := set9_row G17.out (.int .i64 49699) (.int .i64 0) (.bool false) (.bool false) (.bool true) (.int .i64 id) (.string cs) (.bool false) (.int .i64 0)
 have yHB := set9_below HB.out GE_g17.out (.int .i64 49699) (.int .i64 0) (.bool false) (.bool false) (.bool true) (.int .i64 id) (.string cs) (.bool false) (.int .i64 0)
 clear G11 G12 GA G13 GB G14 G17 HB
 unfold set9 at yG11
 unfold set9 at yG12
 unfold set9 at yGA
 unfold set9 at yG13
 unfold set9 at yGB
 unfold set9 at yG14
 unfold set9 at yG17
 unfold set9 at yHB
 generalize (((((((((wq.setCell ⟨g17, 0, none⟩ (.int .i64 49699)).setCell ⟨g17, 1, none⟩ (.int .i64 0)).setCell ⟨g17, 2, none⟩ (.bool false)).setCell ⟨g17, 3, none⟩ (.bool false)).setCell ⟨g17, 4, none⟩ (.bool true)).setCell ⟨g17, 5, none⟩ (.int .i64 id)).setCell ⟨g17, 6, none⟩ (.string cs)).setCell ⟨g17, 7, none⟩ (.bool false)).setCell ⟨g17, 8, none⟩ (.int .i64 0)) = wk5 at yG11 yG12 yGA yG13 yGB yG14 yG17 yHB ⊢
 have G11 := Aside0.mk yG11
 clear yG11
 have G12 := Aside0.mk yG12
 clear yG12
 have GA := Aside0.mk yGA
 clear yGA
 have G13 := Aside0.mk yG13
 clear yG13
 have GB := Aside0.mk yGB
 clear yGB
 have G14 := Aside0.mk yG14
 clear yG14
 have G17 := Aside0.mk yG17
 clear yG17
 have HB := Aside0.mk yHB
 clear yHB
 clear HBG
 clear G13
 clear GA
 clear GAC GAc
 obtain ⟨l_0, l_1, l_2, l_3, l_4, l_5, l_6, l_7, l_8, l_f0, l_f1, l_f2, l_f3, l_f4, l_f5, l_f6, l_f7, l_f8⟩ := cells9 G17.out
 obtain ⟨q_0, q_1, q_2, q_f0, q_f1, q_f2⟩ := cells3 G14.out
 go_upto_region 11 with (first | (go_at_call 31; (with_reducible refine (HH.out _ HB.out _ _ (GBC.out _ GB.out) GBc.out).mono ?_); rintro e wq ⟨ve, rfl, hr, hbn⟩; clear l_0 l_f0 l_1 l_f1 l_2 l_f2 l_3 l_f3 l_4 l_f4 l_5 l_f5 l_6 l_f6 l_7 l_f7 l_8 l_f8; clear q_0 q_f0 q_1 q_f1 q_2 q_f2; replace G11 := Aside0.mk (blk_below G11.out hbn); replace G12 := Aside0.mk (blk_below G12.out hbn); replace GB := Aside0.mk (blk_below GB.out hbn); replace G14 := Aside0.mk (blk_below G14.out hbn); replace G17 := Aside0.mk (blk_below G17.out hbn); replace HB := Aside0.mk (below_step HB.out hbn); obtain ⟨gd, cd, cud, rfl, hgd_, hdc_⟩ := due_own hr; have GD := Aside0.mk hgd_; have HDC := Aside0.mk hdc_; clear hr hgd_ hdc_; clear hbn; obtain ⟨l_0, l_1, l_2, l_3, l_4, l_5, l_6, l_7, l_8, l_f0, l_f1, l_f2, l_f3, l_f4, l_f5, l_f6, l_f7, l_f8⟩ := cells9 G17.out; obtain ⟨q_0, q_1, q_2, q_f0, q_f1, q_f2⟩ := cells3 G14.out) | ((with_reducible refine gate_dst (N := 19) rfl ?_); refine' box_event ?hg (N := 19) ?hd (t := 50) ?hr ?_; (case hd => rfl); (case hg => rfl); (case hr => first | (go_simp; done) | (go_simp; rfl)); intro g19 hgn wq hbox hbn; clear l_0 l_f0 l_1 l_f1 l_2 l_f2 l_3 l_f3 l_4 l_f4 l_5 l_f5 l_6 l_f6 l_7 l_f7 l_8 l_f8; clear q_0 q_f0 q_1 q_f1 q_2 q_f2; have NE_G11_g19 := Aside0.mk (show g11 ≠ g19 from Nat.ne_of_lt (Nat.lt_of_lt_of_eq (blk_lt G11.out) hgn.symm)); have NE_G12_g19 := Aside0.mk (show g12 ≠ g19 from Nat.ne_of_lt (Nat.lt_of_lt_of_eq (blk_lt G12.out) hgn.symm)); have NE_GB_g19 := Aside0.mk (show gb ≠ g19 from Nat.ne_of_lt (Nat.lt_of_lt_of_eq (blk_lt GB.out) hgn.symm)); have NE_G14_g19 := Aside0.mk (show g14 ≠ g19 from Nat.ne_of_lt (Nat.lt_of_lt_of_eq (blk_lt G14.out) hgn.symm)); have NE_G17_g19 := Aside0.mk (show g17 ≠ g19 from Nat.ne_of_lt (Nat.lt_of_lt_of_eq (blk_lt G17.out) hgn.symm)); have NE_GD_g19 := Aside0.mk (show gd ≠ g19 from Nat.ne_of_lt (Nat.lt_of_lt_of_eq (blk_lt GD.out) hgn.symm)); have GE_g19 := Aside0.mk (show w.heap.size ≤ g19 from Nat.le_trans (below_size HB.out) (Nat.le_of_eq hgn.symm)); replace G11 := Aside0.mk (blk_below G11.out hbn); replace G12 := Aside0.mk (blk_below G12.out hbn); replace GB := Aside0.mk (blk_below GB.out hbn); replace G14 := Aside0.mk (blk_below G14.out hbn); replace G17 := Aside0.mk (blk_below G17.out hbn); replace GD := Aside0.mk (blk_below GD.out hbn); replace HB := Aside0.mk (below_step HB.out hbn); have G19 := Aside0.mk hbox; clear hbox hbn hgn; obtain ⟨l_0, l_1, l_2, l_3, l_4, l_5, l_6, l_7, l_8, l_f0, l_f1, l_f2, l_f3, l_f4, l_f5, l_f6, l_f7, l_f8⟩ := cells9 G17.out; obtain ⟨q_0, q_1, q_2, q_f0, q_f1, q_f2⟩ := cells3 G14.out; obtain ⟨m_0, m_1, m_2, m_3, m_4, m_5, m_6, m_7, m_8, m_f0, m_f1, m_f2, m_f3, m_f4, m_f5, m_f6, m_f7, m_f8⟩ := cells9 G19.out))
 (try simp only [Act.put, List.setIfInBounds_toArray, List.set_cons_zero, List.set_cons_succ])
 clear l_0 l_f0 l_1 l_f1 l_2 l_f2 l_3 l_f3 l_4 l_f4 l_5 l_f5 l_6 l_f6 l_7 l_f7 l_8 l_f8
 clear q_0 q_f0 q_1 q_f1 q_2 q_f2
 clear m_0 m_f0 m_1 m_f1 m_2 m_f2 m_3 m_f3 m_4 m_f4 m_5 m_f5 m_6 m_f6 m_7 m_f7 m_8 m_f8
 have yG11 := set9_blk G11.out NE_G11_g19.out (.int .i64 49699) (.int .i64 0) (.bool false) (.bool false) (.bool true) (.int .i64 id) (.string cs) (.bool false) (.int .i64 0)
 have yG12 := set9_blk G12.out NE_G12_g19.out (.int .i64 49699) (.int .i64 0) (.bool false) (.bool false) (.bool true) (.int .i64 id) (.string cs) (.bool false) (.int .i64 0)
 have yGB := set9_blk GB.out NE_GB_g19.out (.int .i64 49699) (.int .i64 0) (.bool false) (.bool false) (.bool true) (.int .i64 id) (.string cs) (.bool false) (.int .i64 0)
 have yG14 := set9_blk G14.out NE_G14_g19.out (.int .i64 49699) (.int .i64 0) (.bool false) (.bool false) (.bool true) (.int .i64 id) (.string cs) (.bool false) (.int .i64 0)
 have yG17 := set9_blk G17.out NE_G17_g19.out (.int .i64 49699) (.int .i64 0) (.bool false) (.bool false) (.bool true) (.int .i64 id) (.string cs) (.bool false) (.int .i64 0)
 have yGD := set9_blk GD.out NE_GD_g19.out (.int .i64 49699) (.int .i64 0) (.bool false) (.bool false) (.bool true) (.int .i64 id) (.string cs) (.bool false) (.int .i64 0)
 have yG19 := set9_row G19.out (.int .i64 49699) (.int .i64 0) (.bool false) (.bool false) (.bool true) (.int .i64 id) (.string cs) (.bool false) (.int .i64 0)
 have yHB := set9_below HB.out GE_g19.out (.int .i64 49699) (.int .i64 0) (.bool false) (.bool false) (.bool true) (.int .i64 id) (.string cs) (.bool false) (.int .i64 0)
 clear G11 G12 GB G14 G17 GD G19 HB
 unfold set9 at yG11
 unfold set9 at yG12
 unfold set9 at yGB
 unfold set9 at yG14
 unfold set9 at yG17
 unfold set9 at yGD
 unfold set9 at yG19
 unfold set9 at yHB
 generalize (((((((((wq.setCell ⟨g19, 0, none⟩ (.int .i64 49699)).setCell ⟨g19, 1, none⟩ (.int .i64 0)).setCell ⟨g19, 2, none⟩ (.bool false)).setCell ⟨g19, 3, none⟩ (.bool false)).setCell ⟨g19, 4, none⟩ (.bool true)).setCell ⟨g19, 5, none⟩ (.int .i64 id)).setCell ⟨g19, 6, none⟩ (.string cs)).setCell ⟨g19, 7, none⟩ (.bool false)).setCell ⟨g19, 8, none⟩ (.int .i64 0)) = wk6 at yG11 yG12 yGB yG14 yG17 yGD yG19 yHB ⊢
 have G11 := Aside0.mk yG11
 clear yG11
 have G12 := Aside0.mk yG12
 clear yG12
 have GB := Aside0.mk yGB
 clear yGB
 have G14 := Aside0.mk yG14
 clear yG14
 have G17 := Aside0.mk yG17
 clear yG17
 have GD := Aside0.mk yGD
 clear yGD
 have G19 := Aside0.mk yG19
 clear yG19
 have HB := Aside0.mk yHB
 clear yHB
 clear HH
 obtain ⟨l_0, l_1, l_2, l_3, l_4, l_5, l_6, l_7, l_8, l_f0, l_f1, l_f2, l_f3, l_f4, l_f5, l_f6, l_f7, l_f8⟩ := cells9 G17.out
 obtain ⟨m_0, m_1, m_2, m_3, m_4, m_5, m_6, m_7, m_8, m_f0, m_f1, m_f2, m_f3, m_f4, m_f5, m_f6, m_f7, m_f8⟩ := cells9 G19.out
 go_upto_region 13 with fail
 (try simp only [Act.put, List.setIfInBounds_toArray, List.set_cons_zero, List.set_cons_succ])
 clear l_0 l_f0 l_1 l_f1 l_2 l_f2 l_3 l_f3 l_4 l_f4 l_5 l_f5 l_6 l_f6 l_7 l_f7 l_8 l_f8
 clear m_0 m_f0 m_1 m_f1 m_2 m_f2 m_3 m_f3 m_4 m_f4 m_5 m_f5 m_6 m_f6 m_7 m_f7 m_8 m_f8
 obtain ⟨q_0, q_1, q_2, q_f0, q_f1, q_f2⟩ := cells3 G14.out
 go_upto_region 14 with fail
 (try simp only [Act.put, List.setIfInBounds_toArray, List.set_cons_zero, List.set_cons_succ])
 clear q_0 q_f0 q_1 q_f1 q_2 q_f2
 have NE14 := Aside0.mk (blk_ne GD.out G14.out (by decide))
 have yG11 := put_blk (p := ⟨g14, 1, none⟩) G11.out NE_G11_g14.out (.int .i64 ot)
 have yG12 := put_blk (p := ⟨g14, 1, none⟩) G12.out NE_G12_g14.out (.int .i64 ot)
 have yGB := put_blk (p := ⟨g14, 1, none⟩) GB.out NE_GB_g14.out (.int .i64 ot)
 have yG14 := blk_put (cs' := #[.int .i64 2, .int .i64 ot, .slice (some ⟨gb, 0, none⟩) 17 c_gb]) G14.out 1 (.int .i64 ot) rfl
 have yG17 := put_blk (p := ⟨g14, 1, none⟩) G17.out (Ne.symm NE_G14_g17.out) (.int .i64 ot)
 have yGD := put_blk (p := ⟨g14, 1, none⟩) GD.out NE14.out (.int .i64 ot)
 have yG19 := put_blk (p := ⟨g14, 1, none⟩) G19.out (Ne.symm NE_G14_g19.out) (.int .i64 ot)
 have yHB := HB.out.setCell (p := ⟨g14, 1, none⟩) GE_g14.out (.int .i64 ot)
 clear NE14 G11 G12 GB G14 G17 GD G19 HB
 generalize (wk6.setCell ⟨g14, 1, none⟩ (.int .i64 ot)) = wk7 at yG11 yG12 yGB yG14 yG17 yGD yG19 yHB ⊢
 have G11 := Aside0.mk yG11
 clear yG11
 have G12 := Aside0.mk yG12
 clear yG12
 have GB := Aside0.mk yGB
 clear yGB
 have G14 := Aside0.mk yG14
 clear yG14
 have G17 := Aside0.mk yG17
 clear yG17
 have GD := Aside0.mk yGD
 clear yGD
 have G19 := Aside0.mk yG19
 clear yG19
 have HB := Aside0.mk yHB
 clear yHB
 obtain ⟨l_0, l_1, l_2, l_3, l_4, l_5, l_6, l_7, l_8, l_f0, l_f1, l_f2, l_f3, l_f4, l_f5, l_f6, l_f7, l_f8⟩ := cells9 G17.out
 obtain ⟨q_0, q_1, q_2, q_f0, q_f1, q_f2⟩ := cells3 G14.out
 go_upto_region 15 with (first | (go_at_call 31; (with_reducible refine (HK.out _ HB.out _ _ (GBC.out _ GB.out) GBc.out).mono ?_); rintro e wq ⟨ve, rfl, hr, hbn⟩; clear l_0 l_f0 l_1 l_f1 l_2 l_f2 l_3 l_f3 l_4 l_f4 l_5 l_f5 l_6 l_f6 l_7 l_f7 l_8 l_f8; clear q_0 q_f0 q_1 q_f1 q_2 q_f2; replace G11 := Aside0.mk (blk_below G11.out hbn); replace G12 := Aside0.mk (blk_below G12.out hbn); replace GB := Aside0.mk (blk_below GB.out hbn); replace G14 := Aside0.mk (blk_below G14.out hbn); replace G17 := Aside0.mk (blk_below G17.out hbn); replace GD := Aside0.mk (blk_below GD.out hbn); replace G19 := Aside0.mk (blk_below G19.out hbn); replace HB := Aside0.mk (below_step HB.out hbn); obtain ⟨Ak, ck, rfl⟩ := Kd.R_slice hr; clear hr; rw [HNK.out]; clear hbn; obtain ⟨l_0, l_1, l_2, l_3, l_4, l_5, l_6, l_7, l_8, l_f0, l_f1, l_f2, l_f3, l_f4, l_f5, l_f6, l_f7, l_f8⟩ := cells9 G17.out; obtain ⟨q_0, q_1, q_2, q_f0, q_f1, q_f2⟩ := cells3 G14.out) | ((with_reducible refine gate_dst (N := 21) rfl ?_); refine' box_event ?hg (N := 21) ?hd (t := 50) ?hr ?_; (case hd => rfl); (case hg => rfl); (case hr => first | (go_simp; done) | (go_simp; rfl)); intro g21 hgn wq hbox hbn; clear l_0 l_f0 l_1 l_f1 l_2 l_f2 l_3 l_f3 l_4 l_f4 l_5 l_f5 l_6 l_f6 l_7 l_f7 l_8 l_f8; clear q_0 q_f0 q_1 q_f1 q_2 q_f2; have NE_G11_g21 := Aside0.mk (show g11 ≠ g21 from Nat.ne_of_lt (Nat.lt_of_lt_of_eq (blk_lt G11.out) hgn.symm)); have NE_G12_g21 := Aside0.mk (show g12 ≠ g21 from Nat.ne_of_lt (Nat.lt_of_lt_of_eq (blk_lt G12.out) hgn.symm)); have NE_GB_g21 := Aside0.mk (show gb ≠ g21 from Nat.ne_of_lt (Nat.lt_of_lt_of_eq (blk_lt GB.out) hgn.symm)); have NE_G14_g21 := Aside0.mk (show g14 ≠ g21 from Nat.ne_of_lt (Nat.lt_of_lt_of_eq (blk_lt G14.out) hgn.symm)); have NE_G17_g21 := Aside0.mk (show g17 ≠ g21 from Nat.ne_of_lt (Nat.lt_of_lt_of_eq (blk_lt G17.out) hgn.symm)); have NE_GD_g21 := Aside0.mk (show gd ≠ g21 from Nat.ne_of_lt (Nat.lt_of_lt_of_eq (blk_lt GD.out) hgn.symm)); have NE_G19_g21 := Aside0.mk (show g19 ≠ g21 from Nat.ne_of_lt (Nat.lt_of_lt_of_eq (blk_lt G19.out) hgn.symm)); have GE_g21 := Aside0.mk (show w.heap.size ≤ g21 from Nat.le_trans (below_size HB.out) (Nat.le_of_eq hgn.symm)); replace G11 := Aside0.mk (blk_below G11.out hbn); replace G12 := Aside0.mk (blk_below G12.out hbn); replace GB := Aside0.mk (blk_below GB.out hbn); replace G14 := Aside0.mk (blk_below G14.out hbn); replace G17 := Aside0.mk (blk_below G17.out hbn); replace GD := Aside0.mk (blk_below GD.out hbn); replace G19 := Aside0.mk (blk_below G19.out hbn); replace HB := Aside0.mk (below_step HB.out hbn); have G21 := Aside0.mk hbox; clear hbox hbn hgn; obtain ⟨l_0, l_1, l_2, l_3, l_4, l_5, l_6, l_7, l_8, l_f0, l_f1, l_f2, l_f3, l_f4, l_f5, l_f6, l_f7, l_f8⟩ := cells9 G17.out; obtain ⟨q_0, q_1, q_2, q_f0, q_f1, q_f2⟩ := cells3 G14.out; obtain ⟨k_0, k_1, k_2, k_3, k_4, k_5, k_6, k_7, k_8, k_f0, k_f1, k_f2, k_f3, k_f4, k_f5, k_f6, k_f7, k_f8⟩ := cells9 G21.out))
 (try simp only [Act.put, List.setIfInBounds_toArray, List.set_cons_zero, List.set_cons_succ])
 clear l_0 l_f0 l_1 l_f1 l_2 l_f2 l_3 l_f3 l_4 l_f4 l_5 l_f5 l_6 l_f6 l_7 l_f7 l_8 l_f8
 clear q_0 q_f0 q_1 q_f1 q_2 q_f2
 clear k_0 k_f0 k_1 k_f1 k_2 k_f2 k_3 k_f3 k_4 k_f4 k_5 k_f5 k_6 k_f6 k_7 k_f7 k_8 k_f8
 have yG11 := set9_blk G11.out NE_G11_g21.out (.int .i64 49699) (.int .i64 0) (.bool false) (.bool false) (.bool true) (.int .i64 id) (.string cs) (.bool false) (.int .i64 0)
 have yG12 := set9_blk G12.out NE_G12_g21.out (.int .i64 49699) (.int .i64 0) (.bool false) (.bool false) (.bool true) (.int .i64 id) (.string cs) (.bool false) (.int .i64 0)
 have yGB := set9_blk GB.out NE_GB_g21.out (.int .i64 49699) (.int .i64 0) (.bool false) (.bool false) (.bool true) (.int .i64 id) (.string cs) (.bool false) (.int .i64 0)
 have yG14 := set9_blk G14.out NE_G14_g21.out (.int .i64 49699) (.int .i64 0) (.bool false) (.bool false) (.bool true) (.int .i64 id) (.string cs) (.bool false) (.int .i64 0)
 have yG17 := set9_blk G17.out NE_G17_g21.out (.int .i64 49699) (.int .i64 0) (.bool false) (.bool false) (.bool true) (.int .i64 id) (.string cs) (.bool false) (.int .i64 0)
 have yGD := set9_blk GD.out NE_GD_g21.out (.int .i64 49699) (.int .i64 0) (.bool false) (.bool false) (.bool true) (.int .i64 id) (.string cs) (.bool false) (.int .i64 0)
 have yG19 := set9_blk G19.out NE_G19_g21.out (.int .i64 49699) (.int .i64 0) (.bool false) (.bool false) (.bool true) (.int .i64 id) (.string cs) (.bool false) (.int .i64 0)
 have yHB := set9_below HB.out GE_g21.out (.int .i64 49699) (.int .i64 0) (.bool false) (.bool false) (.bool true) (.int .i64 id) (.string cs) (.bool false) (.int .i64 0)
 clear G11 G12 GB G14 G17 GD G19 G21 HB
 unfold set9 at yG11
 unfold set9 at yG12
 unfold set9 at yGB
 unfold set9 at yG14
 unfold set9 at yG17
 unfold set9 at yGD
 unfold set9 at yG19
 unfold set9 at yHB
 generalize (((((((((wq.setCell ⟨g21, 0, none⟩ (.int .i64 49699)).setCell ⟨g21, 1, none⟩ (.int .i64 0)).setCell ⟨g21, 2, none⟩ (.bool false)).setCell ⟨g21, 3, none⟩ (.bool false)).setCell ⟨g21, 4, none⟩ (.bool true)).setCell ⟨g21, 5, none⟩ (.int .i64 id)).setCell ⟨g21, 6, none⟩ (.string cs)).setCell ⟨g21, 7, none⟩ (.bool false)).setCell ⟨g21, 8, none⟩ (.int .i64 0)) = wk8 at yG11 yG12 yGB yG14 yG17 yGD yG19 yHB ⊢
 have G11 := Aside0.mk yG11
 clear yG11
 have G12 := Aside0.mk yG12
 clear yG12
 have GB := Aside0.mk yGB
 clear yGB
 have G14 := Aside0.mk yG14
 clear yG14
 have G17 := Aside0.mk yG17
 clear yG17
 have GD := Aside0.mk yGD
 clear yGD
 have G19 := Aside0.mk yG19
 clear yG19
 have HB := Aside0.mk yHB
 clear yHB
 clear GE_g21
 clear HK HNK
 clear G17
 clear G14
 clear GB
 clear GBC GBc
 have HW64 := Aside0.mk (show wrap64 id = id by unfold wrap64; omega)
 have HWW := Aside0.mk (show IntKind.i64.wrap id = id by rw [i64_w, HW64.out])
 have heq : ∀ W, (binOp .eql 24 (.agg #[.int .u8 x0, .int .u8 x1, .int .u8 x2, .int .u8 x3, .int .u8 x4, .int .u8 x5, .int .u8 x6, .int .u8 x7, .int .u8 x8, .int .u8 x9, .int .u8 x10, .int .u8 x11, .int .u8 x12, .int .u8 x13, .int .u8 x14, .int .u8 x15]) (.agg #[.int .u8 o0, .int .u8 o1, .int .u8 o2, .int .u8 o3, .int .u8 o4, .int .u8 o5, .int .u8 o6, .int .u8 o7, .int .u8 o8, .int .u8 o9, .int .u8 o10, .int .u8 o11, .int .u8 o12, .int .u8 o13, .int .u8 o14, .int .u8 o15])).run Tryd.prog W = .ok (.bool b) W := fun W => by rw [eq16g, HBE.out]
 go_wp2_with fail
 have G11d := Aside0.mk (blk_drew G11.out)
 have G12d := Aside0.mk (blk_drew G12.out)
 have GDd := Aside0.mk (blk_drew GD.out)
 have G19d := Aside0.mk (blk_drew G19.out)
 have HBd := Aside0.mk (below_drew1 HB.out)
 refine start_ (n := 8) (S := fun w' => w'.cell? ⟨g11, 0, none⟩ = some (.int .u8 x0) ∧ w'.cell? ⟨g11, 1, none⟩ = some (.int .u8 x1) ∧ w'.cell? ⟨g11, 2, none⟩ = some (.int .u8 x2) ∧ w'.cell? ⟨g11, 3, none⟩ = some (.int .u8 x3) ∧ w'.cell? ⟨g11, 4, none⟩ = some (.int .u8 x4) ∧ w'.cell? ⟨g11, 5, none⟩ = some (.int .u8 x5) ∧ w'.cell? ⟨g11, 6, none⟩ = some (.int .u8 x6) ∧ w'.cell? ⟨g11, 7, none⟩ = some (.int .u8 x7) ∧ w'.cell? ⟨g11, 8, none⟩ = some (.int .u8 x8) ∧ w'.cell? ⟨g11, 9, none⟩ = some (.int .u8 x9) ∧ w'.cell? ⟨g11, 10, none⟩ = some (.int .u8 x10) ∧ w'.cell? ⟨g11, 11, none⟩ = some (.int .u8 x11) ∧ w'.cell? ⟨g11, 12, none⟩ = some (.int .u8 x12) ∧ w'.cell? ⟨g11, 13, none⟩ = some (.int .u8 x13) ∧ w'.cell? ⟨g11, 14, none⟩ = some (.int .u8 x14) ∧ w'.cell? ⟨g11, 15, none⟩ = some (.int .u8 x15)) (ds := []) #[false, false, false, false, false, false, false, false] (by kernel_rfl) rfl rfl ⟨((blk_cell G11.out 0).trans rfl), ((blk_cell G11.out 1).trans rfl), ((blk_cell G11.out 2).trans rfl), ((blk_cell G11.out 3).trans rfl), ((blk_cell G11.out 4).trans rfl), ((blk_cell G11.out 5).trans rfl), ((blk_cell G11.out 6).trans rfl), ((blk_cell G11.out 7).trans rfl), ((blk_cell G11.out 8).trans rfl), ((blk_cell G11.out 9).trans rfl), ((blk_cell G11.out 10).trans rfl), ((blk_cell G11.out 11).trans rfl), ((blk_cell G11.out 12).trans rfl), ((blk_cell G11.out 13).trans rfl), ((blk_cell G11.out 14).trans rfl), ((blk_cell G11.out 15).trans rfl)⟩ (fun hHeld => ?_)
 generalize wk8.drew = wd at G11d G12d GDd G19d HBd hHeld ⊢
 clear HB G11 G12 GD G19
 refine pure_ (i := 1) (N := some 116) (v := ?_) (a' := ?_) #[false, true, false, false, false, false, false, false] rfl rfl (by kernel_rfl) (fun _ _ _ h => h) (Or.inl ⟨by rfl, ?_⟩) ?_ ?_
 rotate_left
 ·intro w'
  go_simp
  with_reducible rfl
 rotate_left
 ·simp only [Act.put, List.setIfInBounds_toArray, List.set_cons_zero, List.set_cons_succ, i64_w, i32_w]
  rfl
 refine pure_ (i := 2) (N := some 117) (v := ?_) (a' := ?_) #[false, true, true, false, false, false, false, false] rfl rfl (by kernel_rfl) (fun _ _ _ h => h) (Or.inl ⟨by rfl, ?_⟩) ?_ ?_
 rotate_left
 ·intro w'
  go_simp
  first | (rw [HWW.out]; done) | (rw [HW64.out]; done) | (rw [HWW.out]; with_reducible rfl) | (rw [HW64.out]; with_reducible rfl)
 rotate_left
 ·simp only [Act.put, List.setIfInBounds_toArray, List.set_cons_zero, List.set_cons_succ, i64_w, i32_w]
  rfl
 refine pure_ (i := 3) (N := some 118) (v := ?_) (a' := ?_) #[false, true, true, true, false, false, false, false] rfl rfl (by kernel_rfl) (fun _ _ _ h => h) (Or.inl ⟨by rfl, ?_⟩) ?_ ?_
 rotate_left
 ·intro w'
  go_simp
  with_reducible rfl
 rotate_left
 ·simp only [Act.put, List.setIfInBounds_toArray, List.set_cons_zero, List.set_cons_succ, i64_w, i32_w]
  rfl
 refine pure_ (i := 4) (N := some 119) (v := ?_) (a' := ?_) #[false, true, true, true, true, false, false, false] rfl rfl (by kernel_rfl) (fun _ _ _ h => h) (Or.inl ⟨by rfl, ?_⟩) ?_ ?_
 rotate_left
 ·intro w'
  go_simp
  with_reducible rfl
 rotate_left
 ·simp only [Act.put, List.setIfInBounds_toArray, List.set_cons_zero, List.set_cons_succ, i64_w, i32_w]
  rfl
 refine take_ (i := 0) (N := some 115) (v := ?_) (a' := ?_) #[true, true, true, true, true, false, false, false] rfl rfl (by kernel_rfl) (fun _ _ _ h => h) (Or.inl ⟨by rfl, ?_⟩) hHeld ?_ ?_
 rotate_left
 ·rintro w' ⟨s0, s1, s2, s3, s4, s5, s6, s7, s8, s9, s10, s11, s12, s13, s14, s15⟩
  go_simp
  with_reducible rfl
 rotate_left
 ·simp only [Act.put, List.setIfInBounds_toArray, List.set_cons_zero, List.set_cons_succ, i64_w, i32_w]
  rfl
 refine one_ (i := 5) (N := some 120) #[true, true, true, true, true, true, false, false] rfl rfl (by kernel_rfl) (by decide) (fun K hK => ?_)
 refine goes_ Tryd.func23 (by kernel_rfl) rfl #[.int .i64 id, .string s, .slice A1 L1 c1] (by rfl) rfl rfl (by simp only [List.map_toArray, List.map_cons, List.map_nil]; rfl) ?_
 with_reducible refine (HRA.out wd HBd.out).mono ?_
 rintro e wz ⟨rfl, hbn⟩
 refine ⟨_, rfl, ?_⟩
 have G11z := Aside0.mk (blk_below G11d.out hbn)
 have G12z := Aside0.mk (blk_below G12d.out hbn)
 have GDz := Aside0.mk (blk_below GDd.out hbn)
 have G19z := Aside0.mk (blk_below G19d.out hbn)
 have HBz := Aside0.mk (below_step HBd.out hbn)
 clear hbn
 refine hK.out _ _ ⟨((blk_cell G11z.out 0).trans rfl), ((blk_cell G11z.out 1).trans rfl), ((blk_cell G11z.out 2).trans rfl), ((blk_cell G11z.out 3).trans rfl), ((blk_cell G11z.out 4).trans rfl), ((blk_cell G11z.out 5).trans rfl), ((blk_cell G11z.out 6).trans rfl), ((blk_cell G11z.out 7).trans rfl), ((blk_cell G11z.out 8).trans rfl), ((blk_cell G11z.out 9).trans rfl), ((blk_cell G11z.out 10).trans rfl), ((blk_cell G11z.out 11).trans rfl), ((blk_cell G11z.out 12).trans rfl), ((blk_cell G11z.out 13).trans rfl), ((blk_cell G11z.out 14).trans rfl), ((blk_cell G11z.out 15).trans rfl)⟩ (fun hHeld => ?_)
 clear hK K
 refine norm_ (a' := ?_) ?_ ?_
 rotate_left
 ·show Act.put _ (some 120) _ = _
  simp only [Act.put, List.setIfInBounds_toArray, List.set_cons_zero, List.set_cons_succ, i64_w, i32_w]
  rfl
 refine pure_ (i := 6) (N := some 121) (v := ?_) (a' := ?_) #[true, true, true, true, true, true, true, false] rfl rfl (by kernel_rfl) (fun _ _ _ h => h) (Or.inl ⟨by rfl, ?_⟩) ?_ ?_
 rotate_left
 ·intro w'
  go_simp
  with_reducible rfl
 rotate_left
 ·simp only [Act.put, List.setIfInBounds_toArray, List.set_cons_zero, List.set_cons_succ, i64_w, i32_w]
  rfl
 refine pure_ (i := 7) (N := some 23) (v := ?_) (a' := ?_) #[true, true, true, true, true, true, true, true] rfl rfl (by kernel_rfl) (fun _ _ _ h => h) (Or.inl ⟨by rfl, ?_⟩) ?_ ?_
 rotate_left
 ·intro w'
  go_simp
  with_reducible rfl
 rotate_left
 ·simp only [Act.put, List.setIfInBounds_toArray, List.set_cons_zero, List.set_cons_succ, i64_w, i32_w]
  rfl
 refine done_ (by kernel_rfl) ?_
 clear G11d G12d GDd G19d HBd
 have G11 := Aside0.mk G11z.out
 clear G11z
 have G12 := Aside0.mk G12z.out
 clear G12z
 have GD := Aside0.mk GDz.out
 clear GDz
 have G19 := Aside0.mk G19z.out
 clear G19z
 have HB := Aside0.mk HBz.out
 clear HBz
 clear heq HRA HBE
 clear G11
 go_wp2_with fail
 have G12d := Aside0.mk (blk_drew G12.out)
 have GDd := Aside0.mk (blk_drew GD.out)
 have G19d := Aside0.mk (blk_drew G19.out)
 have HBd := Aside0.mk (below_drew1 HB.out)
 refine start_ (n := 15) (S := fun w' => w'.cell? ⟨g12, 0, none⟩ = some (.int .i64 0) ∧ w'.cell? ⟨g12, 1, none⟩ = some (.int .i64 0) ∧ w'.cell? ⟨g12, 2, none⟩ = some (.int .i64 0) ∧ w'.cell? ⟨g12, 3, none⟩ = some (.int .i64 0) ∧ w'.cell? ⟨g12, 4, none⟩ = some (.string s) ∧ w'.cell? ⟨g12, 5, none⟩ = some (.string (⟨#[]⟩ : ByteArray)) ∧ w'.cell? ⟨g12, 6, none⟩ = some (.int .i64 0) ∧ w'.cell? ⟨g12, 7, none⟩ = some (.int .u32 0) ∧ w'.cell? ⟨g12, 8, none⟩ = some (.bool false) ∧ w'.cell? ⟨g19, 0, none⟩ = some (.int .i64 49699) ∧ w'.cell? ⟨g19, 1, none⟩ = some (.int .i64 0) ∧ w'.cell? ⟨g19, 2, none⟩ = some (.bool false) ∧ w'.cell? ⟨g19, 3, none⟩ = some (.bool false) ∧ w'.cell? ⟨g19, 4, none⟩ = some (.bool true) ∧ w'.cell? ⟨g19, 5, none⟩ = some (.int .i64 id) ∧ w'.cell? ⟨g19, 6, none⟩ = some (.string cs) ∧ w'.cell? ⟨g19, 7, none⟩ = some (.bool false) ∧ w'.cell? ⟨g19, 8, none⟩ = some (.int .i64 0) ∧ w'.cell? ⟨gd, 0, none⟩ = some (.int .i64 10) ∧ w'.cell? ⟨gd, 1, none⟩ = some (.int .i64 49699) ∧ w'.cell? ⟨gd, 2, none⟩ = some (.int .i64 id) ∧ w'.cell? ⟨gd, 3, none⟩ = some (.string xs)) (ds := [13]) #[false, false, false, false, false, false, false, false, false, false, false, false, false, false, false] (by kernel_rfl) rfl rfl ⟨((blk_cell G12.out 0).trans rfl), ((blk_cell G12.out 1).trans rfl), ((blk_cell G12.out 2).trans rfl), ((blk_cell G12.out 3).trans rfl), ((blk_cell G12.out 4).trans rfl), ((blk_cell G12.out 5).trans rfl), ((blk_cell G12.out 6).trans rfl), ((blk_cell G12.out 7).trans rfl), ((blk_cell G12.out 8).trans rfl), ((blk_cell G19.out 0).trans rfl), ((blk_cell G19.out 1).trans rfl), ((blk_cell G19.out 2).trans rfl), ((blk_cell G19.out 3).trans rfl), ((blk_cell G19.out 4).trans rfl), ((blk_cell G19.out 5).trans rfl), ((blk_cell G19.out 6).trans rfl), ((blk_cell G19.out 7).trans rfl), ((blk_cell G19.out 8).trans rfl), (HDC.out _ GD.out).1, (HDC.out _ GD.out).2.1, (HDC.out _ GD.out).2.2.1, (HDC.out _ GD.out).2.2.2⟩ (fun hHeld => ?_)
 generalize wz.drew = wd at G12d GDd G19d HBd hHeld ⊢
 clear HB G12 GD G19
 refine pure_ (i := 2) (N := some 125) (v := ?_) (a' := ?_) #[false, false, true, false, false, false, false, false, false, false, false, false, false, false, false] rfl rfl (by kernel_rfl) (fun _ _ _ h => h) (Or.inl ⟨by rfl, ?_⟩) ?_ ?_
 rotate_left
 ·intro w'
  go_simp
  with_reducible rfl
 rotate_left
 ·simp only [Act.put, List.setIfInBounds_toArray, List.set_cons_zero, List.set_cons_succ, i64_w, i32_w]
  rfl
 refine pure_ (i := 3) (N := some 126) (v := ?_) (a' := ?_) #[false, false, true, true, false, false, false, false, false, false, false, false, false, false, false] rfl rfl (by kernel_rfl) (fun _ _ _ h => h) (Or.inl ⟨by rfl, ?_⟩) ?_ ?_
 rotate_left
 ·intro w'
  go_simp
  with_reducible rfl
 rotate_left
 ·simp only [Act.put, List.setIfInBounds_toArray, List.set_cons_zero, List.set_cons_succ, i64_w, i32_w]
  rfl
 refine pure_ (i := 5) (N := some 128) (v := ?_) (a' := ?_) #[false, false, true, true, false, true, false, false, false, false, false, false, false, false, false] rfl rfl (by kernel_rfl) (fun _ _ _ h => h) (Or.inl ⟨by rfl, ?_⟩) ?_ ?_
 rotate_left
 ·intro w'
  go_simp
  with_reducible rfl
 rotate_left
 ·simp only [Act.put, List.setIfInBounds_toArray, List.set_cons_zero, List.set_cons_succ, i64_w, i32_w]
  rfl
 refine pure_ (i := 6) (N := some 129) (v := ?_) (a' := ?_) #[false, false, true, true, false, true, true, false, false, false, false, false, false, false, false] rfl rfl (by kernel_rfl) (fun _ _ _ h => h) (Or.inl ⟨by rfl, ?_⟩) ?_ ?_
 rotate_left
 ·intro w'
  go_simp
  first | (rw [HWW.out]; done) | (rw [HW64.out]; done) | (rw [HWW.out]; with_reducible rfl) | (rw [HW64.out]; with_reducible rfl)
 rotate_left
 ·simp only [Act.put, List.setIfInBounds_toArray, List.set_cons_zero, List.set_cons_succ, i64_w, i32_w]
  rfl
 refine pure_ (i := 7) (N := some 130) (v := ?_) (a' := ?_) #[false, false, true, true, false, true, true, true, false, false, false, false, false, false, false] rfl rfl (by kernel_rfl) (fun _ _ _ h => h) (Or.inl ⟨by rfl, ?_⟩) ?_ ?_
 rotate_left
 ·intro w'
  go_simp
  with_reducible rfl
 rotate_left
 ·simp only [Act.put, List.setIfInBounds_toArray, List.set_cons_zero, List.set_cons_succ, i64_w, i32_w]
  rfl
 refine take_ (i := 0) (N := some 123) (v := ?_) (a' := ?_) #[true, false, true, true, false, true, true, true, false, false, false, false, false, false, false] rfl rfl (by kernel_rfl) (fun _ _ _ h => h) (Or.inl ⟨by rfl, ?_⟩) hHeld ?_ ?_
 rotate_left
 ·rintro w' ⟨s0, s1, s2, s3, s4, s5, s6, s7, s8, s9, s10, s11, s12, s13, s14, s15, s16, s17, s18, s19, s20, s21⟩
  go_simp
  with_reducible rfl
 rotate_left
 ·simp only [Act.put, List.setIfInBounds_toArray, List.set_cons_zero, List.set_cons_succ, i64_w, i32_w]
  rfl
 refine take_ (i := 1) (N := some 124) (v := ?_) (a' := ?_) #[true, true, true, true, false, true, true, true, false, false, false, false, false, false, false] rfl rfl (by kernel_rfl) (fun _ _ _ h => h) (Or.inl ⟨by rfl, ?_⟩) hHeld ?_ ?_
 rotate_left
 ·rintro w' ⟨s0, s1, s2, s3, s4, s5, s6, s7, s8, s9, s10, s11, s12, s13, s14, s15, s16, s17, s18, s19, s20, s21⟩
  go_simp
  with_reducible rfl
 rotate_left
 ·simp only [Act.put, List.setIfInBounds_toArray, List.set_cons_zero, List.set_cons_succ, i64_w, i32_w]
  rfl
 refine take_ (i := 4) (N := some 127) (v := ?_) (a' := ?_) #[true, true, true, true, true, true, true, true, false, false, false, false, false, false, false] rfl rfl (by kernel_rfl) (fun _ _ _ h => h) (Or.inl ⟨by rfl, ?_⟩) hHeld ?_ ?_
 rotate_left
 ·rintro w' ⟨s0, s1, s2, s3, s4, s5, s6, s7, s8, s9, s10, s11, s12, s13, s14, s15, s16, s17, s18, s19, s20, s21⟩
  go_simp
  with_reducible rfl
 rotate_left
 ·simp only [Act.put, List.setIfInBounds_toArray, List.set_cons_zero, List.set_cons_succ, i64_w, i32_w]
  rfl
 refine join_ (σ := Nat) 2 #[true, true, true, true, true, true, true, true, true, true, true, true, true, false, false] (fun s_ => [(131, .tuple #[.agg #[.int .i64 49699, .int .i64 0, .bool b, .bool false, .bool true, .int .i64 id, .string cs, .bool false, .int .i64 0], .bool b]), (122, .tuple #[.agg #[.int .i64 49699, .int .i64 0, .bool b, .bool false, .bool true, .int .i64 id, .string cs, .bool false, .int .i64 0], .bool b]), (132, .agg #[.int .i64 49699, .int .i64 0, .bool b, .bool false, .bool true, .int .i64 id, .string cs, .bool false, .int .i64 0]), (133, .bool b), (24, .pointer (some ⟨s_, 0, none⟩))]) (fun s_ w' => w'.heap[s_]? = some (.cells #[.int .i64 0, .int .i64 0, .bool false, .bool false, .bool false, .int .i64 0, .string (⟨#[]⟩ : ByteArray), .bool false, .int .i64 0] 50 (0, 0)) ∧ w'.heap[g12]? = some (.cells #[.int .i64 0, .int .i64 0, .int .i64 0, .int .i64 0, .string s, .string (⟨#[]⟩ : ByteArray), .int .i64 0, .int .u32 0, .bool false] 48 (0, 0)) ∧ w'.heap[gd]? = some (.cells cud 60 (0, 0)) ∧ w'.heap[g19]? = some (.cells #[.int .i64 49699, .int .i64 0, .bool false, .bool false, .bool true, .int .i64 id, .string cs, .bool false, .int .i64 0] 50 (0, 0)) ∧ Below w.heap.size w w' ∧ w.heap.size ≤ s_ ∧ g12 ≠ s_ ∧ gd ≠ s_ ∧ g19 ≠ s_) ?_ ?_
 rotate_left
 ·intro hCont
  refine two_ (i := 8) (j := 12) (Ni := some 131) (Nj := some 24) #[true, true, true, true, true, true, true, true, true, false, false, false, false, false, false] #[true, true, true, true, true, true, true, true, false, false, false, false, true, false, false] rfl rfl rfl rfl (by kernel_rfl) (by decide) (by decide) (fun K hK => ?_) (fun K hK => ?_)
  ·skip
   refine goes_ Tryd.func29 (by kernel_rfl) rfl #[.agg #[.int .i64 0, .int .i64 0, .int .i64 0, .int .i64 0, .string s, .string (⟨#[]⟩ : ByteArray), .int .i64 0, .int .u32 0, .bool false], .agg #[.int .i64 49699, .int .i64 0, .bool false, .bool false, .bool true, .int .i64 id, .string cs, .bool false, .int .i64 0], .agg #[.int .i64 10, .int .i64 49699, .int .i64 id, .string xs], .int .i64 49699, .agg #[.int .i64 3, .int .i64 id, .slice none 0 0]] (by rfl) rfl rfl (by simp only [List.map_toArray, List.map_cons, List.map_nil]; rfl) ?_
   with_reducible refine (HA3.out wd HBd.out).mono ?_
   rintro e wz ⟨rfl, hbn⟩
   refine ⟨_, rfl, ?_⟩
   have G12z := Aside0.mk (blk_below G12d.out hbn)
   have GDz := Aside0.mk (blk_below GDd.out hbn)
   have G19z := Aside0.mk (blk_below G19d.out hbn)
   have HBz := Aside0.mk (below_step HBd.out hbn)
   clear hbn
   refine hK.out _ _ ⟨((blk_cell G12z.out 0).trans rfl), ((blk_cell G12z.out 1).trans rfl), ((blk_cell G12z.out 2).trans rfl), ((blk_cell G12z.out 3).trans rfl), ((blk_cell G12z.out 4).trans rfl), ((blk_cell G12z.out 5).trans rfl), ((blk_cell G12z.out 6).trans rfl), ((blk_cell G12z.out 7).trans rfl), ((blk_cell G12z.out 8).trans rfl), ((blk_cell G19z.out 0).trans rfl), ((blk_cell G19z.out 1).trans rfl), ((blk_cell G19z.out 2).trans rfl), ((blk_cell G19z.out 3).trans rfl), ((blk_cell G19z.out 4).trans rfl), ((blk_cell G19z.out 5).trans rfl), ((blk_cell G19z.out 6).trans rfl), ((blk_cell G19z.out 7).trans rfl), ((blk_cell G19z.out 8).trans rfl), (HDC.out _ GDz.out).1, (HDC.out _ GDz.out).2.1, (HDC.out _ GDz.out).2.2.1, (HDC.out _ GDz.out).2.2.2⟩ (fun hHeld => ?_)
   clear hK K
   refine norm_ (a' := ?_) ?_ ?_
   rotate_left
   ·show Act.put _ (some 131) _ = _
    simp only [Act.put, List.setIfInBounds_toArray, List.set_cons_zero, List.set_cons_succ, i64_w, i32_w]
    rfl
   refine pure_ (i := 9) (N := some 122) (v := ?_) (a' := ?_) #[true, true, true, true, true, true, true, true, true, true, false, false, false, false, false] rfl rfl (by kernel_rfl) (fun _ _ _ h => h) (Or.inl ⟨by rfl, ?_⟩) ?_ ?_
   rotate_left
   ·intro w'
    go_simp
    with_reducible rfl
   rotate_left
   ·simp only [Act.put, List.setIfInBounds_toArray, List.set_cons_zero, List.set_cons_succ, i64_w, i32_w]
    rfl
   refine pure_ (i := 10) (N := some 132) (v := ?_) (a' := ?_) #[true, true, true, true, true, true, true, true, true, true, true, false, false, false, false] rfl rfl (by kernel_rfl) (fun _ _ _ h => h) (Or.inl ⟨by rfl, ?_⟩) ?_ ?_
   rotate_left
   ·intro w'
    go_simp
    with_reducible rfl
   rotate_left
   ·simp only [Act.put, List.setIfInBounds_toArray, List.set_cons_zero, List.set_cons_succ, i64_w, i32_w]
    rfl
   refine pure_ (i := 11) (N := some 133) (v := ?_) (a' := ?_) #[true, true, true, true, true, true, true, true, true, true, true, true, false, false, false] rfl rfl (by kernel_rfl) (fun _ _ _ h => h) (Or.inl ⟨by rfl, ?_⟩) ?_ ?_
   rotate_left
   ·intro w'
    go_simp
    with_reducible rfl
   rotate_left
   ·simp only [Act.put, List.setIfInBounds_toArray, List.set_cons_zero, List.set_cons_succ, i64_w, i32_w]
    rfl
   refine one_ (i := 12) (N := some 24) #[true, true, true, true, true, true, true, true, true, true, true, true, true, false, false] rfl rfl (by kernel_rfl) (by decide) (fun K hK => ?_)
   refine value_ (w1 := ?_) (v := ?_) (by rfl) rfl ?_ ?_
   rotate_left 2
   ·go_simp
    constructor
    ·rfl
    ·rfl
   refine hK.out _ _ ⟨((blk_cell (blk_alloc G12z.out (.cells #[.int .i64 0, .int .i64 0, .bool false, .bool false, .bool false, .int .i64 0, .string (⟨#[]⟩ : ByteArray), .bool false, .int .i64 0] 50)) 0).trans rfl), ((blk_cell (blk_alloc G12z.out (.cells #[.int .i64 0, .int .i64 0, .bool false, .bool false, .bool false, .int .i64 0, .string (⟨#[]⟩ : ByteArray), .bool false, .int .i64 0] 50)) 1).trans rfl), ((blk_cell (blk_alloc G12z.out (.cells #[.int .i64 0, .int .i64 0, .bool false, .bool false, .bool false, .int .i64 0, .string (⟨#[]⟩ : ByteArray), .bool false, .int .i64 0] 50)) 2).trans rfl), ((blk_cell (blk_alloc G12z.out (.cells #[.int .i64 0, .int .i64 0, .bool false, .bool false, .bool false, .int .i64 0, .string (⟨#[]⟩ : ByteArray), .bool false, .int .i64 0] 50)) 3).trans rfl), ((blk_cell (blk_alloc G12z.out (.cells #[.int .i64 0, .int .i64 0, .bool false, .bool false, .bool false, .int .i64 0, .string (⟨#[]⟩ : ByteArray), .bool false, .int .i64 0] 50)) 4).trans rfl), ((blk_cell (blk_alloc G12z.out (.cells #[.int .i64 0, .int .i64 0, .bool false, .bool false, .bool false, .int .i64 0, .string (⟨#[]⟩ : ByteArray), .bool false, .int .i64 0] 50)) 5).trans rfl), ((blk_cell (blk_alloc G12z.out (.cells #[.int .i64 0, .int .i64 0, .bool false, .bool false, .bool false, .int .i64 0, .string (⟨#[]⟩ : ByteArray), .bool false, .int .i64 0] 50)) 6).trans rfl), ((blk_cell (blk_alloc G12z.out (.cells #[.int .i64 0, .int .i64 0, .bool false, .bool false, .bool false, .int .i64 0, .string (⟨#[]⟩ : ByteArray), .bool false, .int .i64 0] 50)) 7).trans rfl), ((blk_cell (blk_alloc G12z.out (.cells #[.int .i64 0, .int .i64 0, .bool false, .bool false, .bool false, .int .i64 0, .string (⟨#[]⟩ : ByteArray), .bool false, .int .i64 0] 50)) 8).trans rfl), ((blk_cell (blk_alloc G19z.out (.cells #[.int .i64 0, .int .i64 0, .bool false, .bool false, .bool false, .int .i64 0, .string (⟨#[]⟩ : ByteArray), .bool false, .int .i64 0] 50)) 0).trans rfl), ((blk_cell (blk_alloc G19z.out (.cells #[.int .i64 0, .int .i64 0, .bool false, .bool false, .bool false, .int .i64 0, .string (⟨#[]⟩ : ByteArray), .bool false, .int .i64 0] 50)) 1).trans rfl), ((blk_cell (blk_alloc G19z.out (.cells #[.int .i64 0, .int .i64 0, .bool false, .bool false, .bool false, .int .i64 0, .string (⟨#[]⟩ : ByteArray), .bool false, .int .i64 0] 50)) 2).trans rfl), ((blk_cell (blk_alloc G19z.out (.cells #[.int .i64 0, .int .i64 0, .bool false, .bool false, .bool false, .int .i64 0, .string (⟨#[]⟩ : ByteArray), .bool false, .int .i64 0] 50)) 3).trans rfl), ((blk_cell (blk_alloc G19z.out (.cells #[.int .i64 0, .int .i64 0, .bool false, .bool false, .bool false, .int .i64 0, .string (⟨#[]⟩ : ByteArray), .bool false, .int .i64 0] 50)) 4).trans rfl), ((blk_cell (blk_alloc G19z.out (.cells #[.int .i64 0, .int .i64 0, .bool false, .bool false, .bool false, .int .i64 0, .string (⟨#[]⟩ : ByteArray), .bool false, .int .i64 0] 50)) 5).trans rfl), ((blk_cell (blk_alloc G19z.out (.cells #[.int .i64 0, .int .i64 0, .bool false, .bool false, .bool false, .int .i64 0, .string (⟨#[]⟩ : ByteArray), .bool false, .int .i64 0] 50)) 6).trans rfl), ((blk_cell (blk_alloc G19z.out (.cells #[.int .i64 0, .int .i64 0, .bool false, .bool false, .bool false, .int .i64 0, .string (⟨#[]⟩ : ByteArray), .bool false, .int .i64 0] 50)) 7).trans rfl), ((blk_cell (blk_alloc G19z.out (.cells #[.int .i64 0, .int .i64 0, .bool false, .bool false, .bool false, .int .i64 0, .string (⟨#[]⟩ : ByteArray), .bool false, .int .i64 0] 50)) 8).trans rfl), (HDC.out _ (blk_alloc GDz.out (.cells #[.int .i64 0, .int .i64 0, .bool false, .bool false, .bool false, .int .i64 0, .string (⟨#[]⟩ : ByteArray), .bool false, .int .i64 0] 50))).1, (HDC.out _ (blk_alloc GDz.out (.cells #[.int .i64 0, .int .i64 0, .bool false, .bool false, .bool false, .int .i64 0, .string (⟨#[]⟩ : ByteArray), .bool false, .int .i64 0] 50))).2.1, (HDC.out _ (blk_alloc GDz.out (.cells #[.int .i64 0, .int .i64 0, .bool false, .bool false, .bool false, .int .i64 0, .string (⟨#[]⟩ : ByteArray), .bool false, .int .i64 0] 50))).2.2.1, (HDC.out _ (blk_alloc GDz.out (.cells #[.int .i64 0, .int .i64 0, .bool false, .bool false, .bool false, .int .i64 0, .string (⟨#[]⟩ : ByteArray), .bool false, .int .i64 0] 50))).2.2.2⟩ (fun hHeld => ?_)
   clear hK K
   refine norm_ (a' := ?_) ?_ ?_
   rotate_left
   ·show Act.put _ (some 24) _ = _
    simp only [Act.put, List.setIfInBounds_toArray, List.set_cons_zero, List.set_cons_succ, i64_w, i32_w]
    rfl
   exact norm_ (by simp only [putAll, Act.put, List.setIfInBounds_toArray, List.set_cons_zero, List.set_cons_succ]) (hCont wz.heap.size _ ⟨blk_new wz (.cells #[.int .i64 0, .int .i64 0, .bool false, .bool false, .bool false, .int .i64 0, .string (⟨#[]⟩ : ByteArray), .bool false, .int .i64 0] 50), (blk_alloc G12z.out (.cells #[.int .i64 0, .int .i64 0, .bool false, .bool false, .bool false, .int .i64 0, .string (⟨#[]⟩ : ByteArray), .bool false, .int .i64 0] 50)), (blk_alloc GDz.out (.cells #[.int .i64 0, .int .i64 0, .bool false, .bool false, .bool false, .int .i64 0, .string (⟨#[]⟩ : ByteArray), .bool false, .int .i64 0] 50)), (blk_alloc G19z.out (.cells #[.int .i64 0, .int .i64 0, .bool false, .bool false, .bool false, .int .i64 0, .string (⟨#[]⟩ : ByteArray), .bool false, .int .i64 0] 50)), (below_alloc HBz.out (.cells #[.int .i64 0, .int .i64 0, .bool false, .bool false, .bool false, .int .i64 0, .string (⟨#[]⟩ : ByteArray), .bool false, .int .i64 0] 50)), below_size HBz.out, Nat.ne_of_lt (blk_lt G12z.out), Nat.ne_of_lt (blk_lt GDz.out), Nat.ne_of_lt (blk_lt G19z.out)⟩)
  ·skip
   refine value_ (w1 := ?_) (v := ?_) (by rfl) rfl ?_ ?_
   rotate_left 2
   ·go_simp
    constructor
    ·rfl
    ·rfl
   refine hK.out _ _ ⟨((blk_cell (blk_alloc G12d.out (.cells #[.int .i64 0, .int .i64 0, .bool false, .bool false, .bool false, .int .i64 0, .string (⟨#[]⟩ : ByteArray), .bool false, .int .i64 0] 50)) 0).trans rfl), ((blk_cell (blk_alloc G12d.out (.cells #[.int .i64 0, .int .i64 0, .bool false, .bool false, .bool false, .int .i64 0, .string (⟨#[]⟩ : ByteArray), .bool false, .int .i64 0] 50)) 1).trans rfl), ((blk_cell (blk_alloc G12d.out (.cells #[.int .i64 0, .int .i64 0, .bool false, .bool false, .bool false, .int .i64 0, .string (⟨#[]⟩ : ByteArray), .bool false, .int .i64 0] 50)) 2).trans rfl), ((blk_cell (blk_alloc G12d.out (.cells #[.int .i64 0, .int .i64 0, .bool false, .bool false, .bool false, .int .i64 0, .string (⟨#[]⟩ : ByteArray), .bool false, .int .i64 0] 50)) 3).trans rfl), ((blk_cell (blk_alloc G12d.out (.cells #[.int .i64 0, .int .i64 0, .bool false, .bool false, .bool false, .int .i64 0, .string (⟨#[]⟩ : ByteArray), .bool false, .int .i64 0] 50)) 4).trans rfl), ((blk_cell (blk_alloc G12d.out (.cells #[.int .i64 0, .int .i64 0, .bool false, .bool false, .bool false, .int .i64 0, .string (⟨#[]⟩ : ByteArray), .bool false, .int .i64 0] 50)) 5).trans rfl), ((blk_cell (blk_alloc G12d.out (.cells #[.int .i64 0, .int .i64 0, .bool false, .bool false, .bool false, .int .i64 0, .string (⟨#[]⟩ : ByteArray), .bool false, .int .i64 0] 50)) 6).trans rfl), ((blk_cell (blk_alloc G12d.out (.cells #[.int .i64 0, .int .i64 0, .bool false, .bool false, .bool false, .int .i64 0, .string (⟨#[]⟩ : ByteArray), .bool false, .int .i64 0] 50)) 7).trans rfl), ((blk_cell (blk_alloc G12d.out (.cells #[.int .i64 0, .int .i64 0, .bool false, .bool false, .bool false, .int .i64 0, .string (⟨#[]⟩ : ByteArray), .bool false, .int .i64 0] 50)) 8).trans rfl), ((blk_cell (blk_alloc G19d.out (.cells #[.int .i64 0, .int .i64 0, .bool false, .bool false, .bool false, .int .i64 0, .string (⟨#[]⟩ : ByteArray), .bool false, .int .i64 0] 50)) 0).trans rfl), ((blk_cell (blk_alloc G19d.out (.cells #[.int .i64 0, .int .i64 0, .bool false, .bool false, .bool false, .int .i64 0, .string (⟨#[]⟩ : ByteArray), .bool false, .int .i64 0] 50)) 1).trans rfl), ((blk_cell (blk_alloc G19d.out (.cells #[.int .i64 0, .int .i64 0, .bool false, .bool false, .bool false, .int .i64 0, .string (⟨#[]⟩ : ByteArray), .bool false, .int .i64 0] 50)) 2).trans rfl), ((blk_cell (blk_alloc G19d.out (.cells #[.int .i64 0, .int .i64 0, .bool false, .bool false, .bool false, .int .i64 0, .string (⟨#[]⟩ : ByteArray), .bool false, .int .i64 0] 50)) 3).trans rfl), ((blk_cell (blk_alloc G19d.out (.cells #[.int .i64 0, .int .i64 0, .bool false, .bool false, .bool false, .int .i64 0, .string (⟨#[]⟩ : ByteArray), .bool false, .int .i64 0] 50)) 4).trans rfl), ((blk_cell (blk_alloc G19d.out (.cells #[.int .i64 0, .int .i64 0, .bool false, .bool false, .bool false, .int .i64 0, .string (⟨#[]⟩ : ByteArray), .bool false, .int .i64 0] 50)) 5).trans rfl), ((blk_cell (blk_alloc G19d.out (.cells #[.int .i64 0, .int .i64 0, .bool false, .bool false, .bool false, .int .i64 0, .string (⟨#[]⟩ : ByteArray), .bool false, .int .i64 0] 50)) 6).trans rfl), ((blk_cell (blk_alloc G19d.out (.cells #[.int .i64 0, .int .i64 0, .bool false, .bool false, .bool false, .int .i64 0, .string (⟨#[]⟩ : ByteArray), .bool false, .int .i64 0] 50)) 7).trans rfl), ((blk_cell (blk_alloc G19d.out (.cells #[.int .i64 0, .int .i64 0, .bool false, .bool false, .bool false, .int .i64 0, .string (⟨#[]⟩ : ByteArray), .bool false, .int .i64 0] 50)) 8).trans rfl), (HDC.out _ (blk_alloc GDd.out (.cells #[.int .i64 0, .int .i64 0, .bool false, .bool false, .bool false, .int .i64 0, .string (⟨#[]⟩ : ByteArray), .bool false, .int .i64 0] 50))).1, (HDC.out _ (blk_alloc GDd.out (.cells #[.int .i64 0, .int .i64 0, .bool false, .bool false, .bool false, .int .i64 0, .string (⟨#[]⟩ : ByteArray), .bool false, .int .i64 0] 50))).2.1, (HDC.out _ (blk_alloc GDd.out (.cells #[.int .i64 0, .int .i64 0, .bool false, .bool false, .bool false, .int .i64 0, .string (⟨#[]⟩ : ByteArray), .bool false, .int .i64 0] 50))).2.2.1, (HDC.out _ (blk_alloc GDd.out (.cells #[.int .i64 0, .int .i64 0, .bool false, .bool false, .bool false, .int .i64 0, .string (⟨#[]⟩ : ByteArray), .bool false, .int .i64 0] 50))).2.2.2⟩ (fun hHeld => ?_)
   clear hK K
   refine norm_ (a' := ?_) ?_ ?_
   rotate_left
   ·show Act.put _ (some 24) _ = _
    simp only [Act.put, List.setIfInBounds_toArray, List.set_cons_zero, List.set_cons_succ, i64_w, i32_w]
    rfl
   refine one_ (i := 8) (N := some 131) #[true, true, true, true, true, true, true, true, true, false, false, false, true, false, false] rfl rfl (by kernel_rfl) (by decide) (fun K hK => ?_)
   refine goes_ Tryd.func29 (by kernel_rfl) rfl #[.agg #[.int .i64 0, .int .i64 0, .int .i64 0, .int .i64 0, .string s, .string (⟨#[]⟩ : ByteArray), .int .i64 0, .int .u32 0, .bool false], .agg #[.int .i64 49699, .int .i64 0, .bool false, .bool false, .bool true, .int .i64 id, .string cs, .bool false, .int .i64 0], .agg #[.int .i64 10, .int .i64 49699, .int .i64 id, .string xs], .int .i64 49699, .agg #[.int .i64 3, .int .i64 id, .slice none 0 0]] (by rfl) rfl rfl (by simp only [List.map_toArray, List.map_cons, List.map_nil]; rfl) ?_
   with_reducible refine (HA3.out (wd.alloc (.cells #[.int .i64 0, .int .i64 0, .bool false, .bool false, .bool false, .int .i64 0, .string (⟨#[]⟩ : ByteArray), .bool false, .int .i64 0] 50)) (below_alloc HBd.out (.cells #[.int .i64 0, .int .i64 0, .bool false, .bool false, .bool false, .int .i64 0, .string (⟨#[]⟩ : ByteArray), .bool false, .int .i64 0] 50))).mono ?_
   rintro e wz ⟨rfl, hbn⟩
   refine ⟨_, rfl, ?_⟩
   have G12z := Aside0.mk (blk_below (blk_alloc G12d.out (.cells #[.int .i64 0, .int .i64 0, .bool false, .bool false, .bool false, .int .i64 0, .string (⟨#[]⟩ : ByteArray), .bool false, .int .i64 0] 50)) hbn)
   have GDz := Aside0.mk (blk_below (blk_alloc GDd.out (.cells #[.int .i64 0, .int .i64 0, .bool false, .bool false, .bool false, .int .i64 0, .string (⟨#[]⟩ : ByteArray), .bool false, .int .i64 0] 50)) hbn)
   have G19z := Aside0.mk (blk_below (blk_alloc G19d.out (.cells #[.int .i64 0, .int .i64 0, .bool false, .bool false, .bool false, .int .i64 0, .string (⟨#[]⟩ : ByteArray), .bool false, .int .i64 0] 50)) hbn)
   have HBz := Aside0.mk (below_step (below_alloc HBd.out (.cells #[.int .i64 0, .int .i64 0, .bool false, .bool false, .bool false, .int .i64 0, .string (⟨#[]⟩ : ByteArray), .bool false, .int .i64 0] 50)) hbn)
   have HSz := Aside0.mk (blk_below (blk_new wd (.cells #[.int .i64 0, .int .i64 0, .bool false, .bool false, .bool false, .int .i64 0, .string (⟨#[]⟩ : ByteArray), .bool false, .int .i64 0] 50)) hbn)
   clear hbn
   refine hK.out _ _ ⟨((blk_cell G12z.out 0).trans rfl), ((blk_cell G12z.out 1).trans rfl), ((blk_cell G12z.out 2).trans rfl), ((blk_cell G12z.out 3).trans rfl), ((blk_cell G12z.out 4).trans rfl), ((blk_cell G12z.out 5).trans rfl), ((blk_cell G12z.out 6).trans rfl), ((blk_cell G12z.out 7).trans rfl), ((blk_cell G12z.out 8).trans rfl), ((blk_cell G19z.out 0).trans rfl), ((blk_cell G19z.out 1).trans rfl), ((blk_cell G19z.out 2).trans rfl), ((blk_cell G19z.out 3).trans rfl), ((blk_cell G19z.out 4).trans rfl), ((blk_cell G19z.out 5).trans rfl), ((blk_cell G19z.out 6).trans rfl), ((blk_cell G19z.out 7).trans rfl), ((blk_cell G19z.out 8).trans rfl), (HDC.out _ GDz.out).1, (HDC.out _ GDz.out).2.1, (HDC.out _ GDz.out).2.2.1, (HDC.out _ GDz.out).2.2.2⟩ (fun hHeld => ?_)
   clear hK K
   refine norm_ (a' := ?_) ?_ ?_
   rotate_left
   ·show Act.put _ (some 131) _ = _
    simp only [Act.put, List.setIfInBounds_toArray, List.set_cons_zero, List.set_cons_succ, i64_w, i32_w]
    rfl
   refine pure_ (i := 9) (N := some 122) (v := ?_) (a' := ?_) #[true, true, true, true, true, true, true, true, true, true, false, false, true, false, false] rfl rfl (by kernel_rfl) (fun _ _ _ h => h) (Or.inl ⟨by rfl, ?_⟩) ?_ ?_
   rotate_left
   ·intro w'
    go_simp
    with_reducible rfl
   rotate_left
   ·simp only [Act.put, List.setIfInBounds_toArray, List.set_cons_zero, List.set_cons_succ, i64_w, i32_w]
    rfl
   refine pure_ (i := 10) (N := some 132) (v := ?_) (a' := ?_) #[true, true, true, true, true, true, true, true, true, true, true, false, true, false, false] rfl rfl (by kernel_rfl) (fun _ _ _ h => h) (Or.inl ⟨by rfl, ?_⟩) ?_ ?_
   rotate_left
   ·intro w'
    go_simp
    with_reducible rfl
   rotate_left
   ·simp only [Act.put, List.setIfInBounds_toArray, List.set_cons_zero, List.set_cons_succ, i64_w, i32_w]
    rfl
   refine pure_ (i := 11) (N := some 133) (v := ?_) (a' := ?_) #[true, true, true, true, true, true, true, true, true, true, true, true, true, false, false] rfl rfl (by kernel_rfl) (fun _ _ _ h => h) (Or.inl ⟨by rfl, ?_⟩) ?_ ?_
   rotate_left
   ·intro w'
    go_simp
    with_reducible rfl
   rotate_left
   ·simp only [Act.put, List.setIfInBounds_toArray, List.set_cons_zero, List.set_cons_succ, i64_w, i32_w]
    rfl
   exact norm_ (by simp only [putAll, Act.put, List.setIfInBounds_toArray, List.set_cons_zero, List.set_cons_succ]) (hCont wd.heap.size _ ⟨HSz.out, G12z.out, GDz.out, G19z.out, HBz.out, below_size HBd.out, Nat.ne_of_lt (blk_lt G12d.out), Nat.ne_of_lt (blk_lt GDd.out), Nat.ne_of_lt (blk_lt G19d.out)⟩)
 rintro s_ wy ⟨hHS_, hG12_, hGD_, hG19_, hHB_, hGES_, hNEG12_, hNEGD_, hNEG19_⟩
 have HSy := Aside0.mk hHS_
 have G12y := Aside0.mk hG12_
 have GDy := Aside0.mk hGD_
 have G19y := Aside0.mk hG19_
 have HBy := Aside0.mk hHB_
 have GESy := Aside0.mk hGES_
 have NEG12y := Aside0.mk hNEG12_
 have NEGDy := Aside0.mk hNEGD_
 have NEG19y := Aside0.mk hNEG19_
 clear hHS_ hG12_ hGD_ hG19_ hHB_ hGES_ hNEG12_ hNEGD_ hNEG19_
 have hHeld := True.intro
 refine norm_ (a' := ?_) ?_ ?_
 rotate_left
 ·simp only [putAll, Act.put, List.setIfInBounds_toArray, List.set_cons_zero, List.set_cons_succ]
  rfl
 refine last_ (i := 13) (N := none) #[true, true, true, true, true, true, true, true, true, true, true, true, true, true, false] rfl rfl (by kernel_rfl) (by decide) (fun K hK => ?_)
 obtain ⟨u0_, u1_, u2_, u3_, u4_, u5_, u6_, u7_, u8_, uf0_, uf1_, uf2_, uf3_, uf4_, uf5_, uf6_, uf7_, uf8_⟩ := cells9 HSy.out
 refine skip_ (w1 := ?_) (by rfl) rfl ?_ ?_
 rotate_left
 ·go_simp
  rfl
 refine hK.out _ _ ?_
 clear hK K
 refine pure_ (i := 14) (N := some 25) (v := ?_) (a' := ?_) #[true, true, true, true, true, true, true, true, true, true, true, true, true, true, true] rfl rfl (by kernel_rfl) (fun _ _ _ h => h) (Or.inl ⟨by rfl, ?_⟩) ?_ ?_
 rotate_left
 ·intro w'
  go_simp
  with_reducible rfl
 rotate_left
 ·simp only [Act.put, List.setIfInBounds_toArray, List.set_cons_zero, List.set_cons_succ, i64_w, i32_w]
  rfl
 refine done_ (by kernel_rfl) ?_
 have yG12 := set9_blk G12y.out NEG12y.out (.int .i64 49699) (.int .i64 0) (.bool b) (.bool false) (.bool true) (.int .i64 id) (.string cs) (.bool false) (.int .i64 0)
 have yGD := set9_blk GDy.out NEGDy.out (.int .i64 49699) (.int .i64 0) (.bool b) (.bool false) (.bool true) (.int .i64 id) (.string cs) (.bool false) (.int .i64 0)
 have yG19 := set9_blk G19y.out NEG19y.out (.int .i64 49699) (.int .i64 0) (.bool b) (.bool false) (.bool true) (.int .i64 id) (.string cs) (.bool false) (.int .i64 0)
 have yG24 := set9_row HSy.out (.int .i64 49699) (.int .i64 0) (.bool b) (.bool false) (.bool true) (.int .i64 id) (.string cs) (.bool false) (.int .i64 0)
 have yHB := set9_below HBy.out GESy.out (.int .i64 49699) (.int .i64 0) (.bool b) (.bool false) (.bool true) (.int .i64 id) (.string cs) (.bool false) (.int .i64 0)
 unfold set9 at yG12
 unfold set9 at yGD
 unfold set9 at yG19
 unfold set9 at yG24
 unfold set9 at yHB
 generalize (((((((((wy.setCell ⟨s_, 0, none⟩ (.int .i64 49699)).setCell ⟨s_, 1, none⟩ (.int .i64 0)).setCell ⟨s_, 2, none⟩ (.bool b)).setCell ⟨s_, 3, none⟩ (.bool false)).setCell ⟨s_, 4, none⟩ (.bool true)).setCell ⟨s_, 5, none⟩ (.int .i64 id)).setCell ⟨s_, 6, none⟩ (.string cs)).setCell ⟨s_, 7, none⟩ (.bool false)).setCell ⟨s_, 8, none⟩ (.int .i64 0)) = w24 at yG12 yGD yG19 yG24 yHB ⊢
 have G12 := Aside0.mk yG12
 clear yG12
 have GD := Aside0.mk yGD
 clear yGD
 have G19 := Aside0.mk yG19
 clear yG19
 have G24 := Aside0.mk yG24
 clear yG24
 have HB := Aside0.mk yHB
 clear yHB
 clear HSy HBy GESy G12y GDy G19y NEG12y NEGDy NEG19y G12d GDd G19d HBd
 generalize s_ = g24 at G24 ⊢
 go_wp2_with fail
 have G12d := Aside0.mk (blk_drew G12.out)
 have GDd := Aside0.mk (blk_drew GD.out)
 have G19d := Aside0.mk (blk_drew G19.out)
 have G24d := Aside0.mk (blk_drew G24.out)
 have HBd := Aside0.mk (below_drew1 HB.out)
 refine start_ (n := 15) (S := fun w' => w'.cell? ⟨g12, 0, none⟩ = some (.int .i64 0) ∧ w'.cell? ⟨g12, 1, none⟩ = some (.int .i64 0) ∧ w'.cell? ⟨g12, 2, none⟩ = some (.int .i64 0) ∧ w'.cell? ⟨g12, 3, none⟩ = some (.int .i64 0) ∧ w'.cell? ⟨g12, 4, none⟩ = some (.string s) ∧ w'.cell? ⟨g12, 5, none⟩ = some (.string (⟨#[]⟩ : ByteArray)) ∧ w'.cell? ⟨g12, 6, none⟩ = some (.int .i64 0) ∧ w'.cell? ⟨g12, 7, none⟩ = some (.int .u32 0) ∧ w'.cell? ⟨g12, 8, none⟩ = some (.bool false) ∧ w'.cell? ⟨g19, 0, none⟩ = some (.int .i64 49699) ∧ w'.cell? ⟨g19, 1, none⟩ = some (.int .i64 0) ∧ w'.cell? ⟨g19, 2, none⟩ = some (.bool false) ∧ w'.cell? ⟨g19, 3, none⟩ = some (.bool false) ∧ w'.cell? ⟨g19, 4, none⟩ = some (.bool true) ∧ w'.cell? ⟨g19, 5, none⟩ = some (.int .i64 id) ∧ w'.cell? ⟨g19, 6, none⟩ = some (.string cs) ∧ w'.cell? ⟨g19, 7, none⟩ = some (.bool false) ∧ w'.cell? ⟨g19, 8, none⟩ = some (.int .i64 0) ∧ w'.cell? ⟨gd, 0, none⟩ = some (.int .i64 10) ∧ w'.cell? ⟨gd, 1, none⟩ = some (.int .i64 49699) ∧ w'.cell? ⟨gd, 2, none⟩ = some (.int .i64 id) ∧ w'.cell? ⟨gd, 3, none⟩ = some (.string xs)) (ds := [13]) #[false, false, false, false, false, false, false, false, false, false, false, false, false, false, false] (by kernel_rfl) rfl rfl ⟨((blk_cell G12.out 0).trans rfl), ((blk_cell G12.out 1).trans rfl), ((blk_cell G12.out 2).trans rfl), ((blk_cell G12.out 3).trans rfl), ((blk_cell G12.out 4).trans rfl), ((blk_cell G12.out 5).trans rfl), ((blk_cell G12.out 6).trans rfl), ((blk_cell G12.out 7).trans rfl), ((blk_cell G12.out 8).trans rfl), ((blk_cell G19.out 0).trans rfl), ((blk_cell G19.out 1).trans rfl), ((blk_cell G19.out 2).trans rfl), ((blk_cell G19.out 3).trans rfl), ((blk_cell G19.out 4).trans rfl), ((blk_cell G19.out 5).trans rfl), ((blk_cell G19.out 6).trans rfl), ((blk_cell G19.out 7).trans rfl), ((blk_cell G19.out 8).trans rfl), (HDC.out _ GD.out).1, (HDC.out _ GD.out).2.1, (HDC.out _ GD.out).2.2.1, (HDC.out _ GD.out).2.2.2⟩ (fun hHeld => ?_)
 generalize w24.drew = wd at G12d GDd G19d G24d HBd hHeld ⊢
 clear HB G12 GD G19 G24
 refine pure_ (i := 2) (N := some 137) (v := ?_) (a' := ?_) #[false, false, true, false, false, false, false, false, false, false, false, false, false, false, false] rfl rfl (by kernel_rfl) (fun _ _ _ h => h) (Or.inl ⟨by rfl, ?_⟩) ?_ ?_
 rotate_left
 ·intro w'
  go_simp
  with_reducible rfl
 rotate_left
 ·simp only [Act.put, List.setIfInBounds_toArray, List.set_cons_zero, List.set_cons_succ, i64_w, i32_w]
  rfl
 refine pure_ (i := 3) (N := some 138) (v := ?_) (a' := ?_) #[false, false, true, true, false, false, false, false, false, false, false, false, false, false, false] rfl rfl (by kernel_rfl) (fun _ _ _ h => h) (Or.inl ⟨by rfl, ?_⟩) ?_ ?_
 rotate_left
 ·intro w'
  go_simp
  with_reducible rfl
 rotate_left
 ·simp only [Act.put, List.setIfInBounds_toArray, List.set_cons_zero, List.set_cons_succ, i64_w, i32_w]
  rfl
 refine pure_ (i := 5) (N := some 140) (v := ?_) (a' := ?_) #[false, false, true, true, false, true, false, false, false, false, false, false, false, false, false] rfl rfl (by kernel_rfl) (fun _ _ _ h => h) (Or.inl ⟨by rfl, ?_⟩) ?_ ?_
 rotate_left
 ·intro w'
  go_simp
  with_reducible rfl
 rotate_left
 ·simp only [Act.put, List.setIfInBounds_toArray, List.set_cons_zero, List.set_cons_succ, i64_w, i32_w]
  rfl
 refine pure_ (i := 6) (N := some 141) (v := ?_) (a' := ?_) #[false, false, true, true, false, true, true, false, false, false, false, false, false, false, false] rfl rfl (by kernel_rfl) (fun _ _ _ h => h) (Or.inl ⟨by rfl, ?_⟩) ?_ ?_
 rotate_left
 ·intro w'
  go_simp
  first | (rw [HWW.out]; done) | (rw [HW64.out]; done) | (rw [HWW.out]; with_reducible rfl) | (rw [HW64.out]; with_reducible rfl)
 rotate_left
 ·simp only [Act.put, List.setIfInBounds_toArray, List.set_cons_zero, List.set_cons_succ, i64_w, i32_w]
  rfl
 refine pure_ (i := 7) (N := some 142) (v := ?_) (a' := ?_) #[false, false, true, true, false, true, true, true, false, false, false, false, false, false, false] rfl rfl (by kernel_rfl) (fun _ _ _ h => h) (Or.inl ⟨by rfl, ?_⟩) ?_ ?_
 rotate_left
 ·intro w'
  go_simp
  with_reducible rfl
 rotate_left
 ·simp only [Act.put, List.setIfInBounds_toArray, List.set_cons_zero, List.set_cons_succ, i64_w, i32_w]
  rfl
 refine take_ (i := 0) (N := some 135) (v := ?_) (a' := ?_) #[true, false, true, true, false, true, true, true, false, false, false, false, false, false, false] rfl rfl (by kernel_rfl) (fun _ _ _ h => h) (Or.inl ⟨by rfl, ?_⟩) hHeld ?_ ?_
 rotate_left
 ·rintro w' ⟨s0, s1, s2, s3, s4, s5, s6, s7, s8, s9, s10, s11, s12, s13, s14, s15, s16, s17, s18, s19, s20, s21⟩
  go_simp
  with_reducible rfl
 rotate_left
 ·simp only [Act.put, List.setIfInBounds_toArray, List.set_cons_zero, List.set_cons_succ, i64_w, i32_w]
  rfl
 refine take_ (i := 1) (N := some 136) (v := ?_) (a' := ?_) #[true, true, true, true, false, true, true, true, false, false, false, false, false, false, false] rfl rfl (by kernel_rfl) (fun _ _ _ h => h) (Or.inl ⟨by rfl, ?_⟩) hHeld ?_ ?_
 rotate_left
 ·rintro w' ⟨s0, s1, s2, s3, s4, s5, s6, s7, s8, s9, s10, s11, s12, s13, s14, s15, s16, s17, s18, s19, s20, s21⟩
  go_simp
  with_reducible rfl
 rotate_left
 ·simp only [Act.put, List.setIfInBounds_toArray, List.set_cons_zero, List.set_cons_succ, i64_w, i32_w]
  rfl
 refine take_ (i := 4) (N := some 139) (v := ?_) (a' := ?_) #[true, true, true, true, true, true, true, true, false, false, false, false, false, false, false] rfl rfl (by kernel_rfl) (fun _ _ _ h => h) (Or.inl ⟨by rfl, ?_⟩) hHeld ?_ ?_
 rotate_left
 ·rintro w' ⟨s0, s1, s2, s3, s4, s5, s6, s7, s8, s9, s10, s11, s12, s13, s14, s15, s16, s17, s18, s19, s20, s21⟩
  go_simp
  with_reducible rfl
 rotate_left
 ·simp only [Act.put, List.setIfInBounds_toArray, List.set_cons_zero, List.set_cons_succ, i64_w, i32_w]
  rfl
 refine join_ (σ := Nat) 2 #[true, true, true, true, true, true, true, true, true, true, true, true, true, false, false] (fun s_ => [(143, .tuple #[.agg #[.int .i64 49699, .int .i64 0, .bool false, .bool false, .bool true, .int .i64 id, .string cs, .bool false, .int .i64 0], .bool (!b)]), (134, .tuple #[.agg #[.int .i64 49699, .int .i64 0, .bool false, .bool false, .bool true, .int .i64 id, .string cs, .bool false, .int .i64 0], .bool (!b)]), (144, .agg #[.int .i64 49699, .int .i64 0, .bool false, .bool false, .bool true, .int .i64 id, .string cs, .bool false, .int .i64 0]), (145, .bool (!b)), (26, .pointer (some ⟨s_, 0, none⟩))]) (fun s_ w' => w'.heap[s_]? = some (.cells #[.int .i64 0, .int .i64 0, .bool false, .bool false, .bool false, .int .i64 0, .string (⟨#[]⟩ : ByteArray), .bool false, .int .i64 0] 50 (0, 0)) ∧ w'.heap[g12]? = some (.cells #[.int .i64 0, .int .i64 0, .int .i64 0, .int .i64 0, .string s, .string (⟨#[]⟩ : ByteArray), .int .i64 0, .int .u32 0, .bool false] 48 (0, 0)) ∧ w'.heap[gd]? = some (.cells cud 60 (0, 0)) ∧ w'.heap[g19]? = some (.cells #[.int .i64 49699, .int .i64 0, .bool false, .bool false, .bool true, .int .i64 id, .string cs, .bool false, .int .i64 0] 50 (0, 0)) ∧ w'.heap[g24]? = some (.cells #[.int .i64 49699, .int .i64 0, .bool b, .bool false, .bool true, .int .i64 id, .string cs, .bool false, .int .i64 0] 50 (0, 0)) ∧ Below w.heap.size w w' ∧ w.heap.size ≤ s_ ∧ g12 ≠ s_ ∧ gd ≠ s_ ∧ g19 ≠ s_ ∧ g24 ≠ s_) ?_ ?_
 rotate_left
 ·intro hCont
  refine two_ (i := 8) (j := 12) (Ni := some 143) (Nj := some 26) #[true, true, true, true, true, true, true, true, true, false, false, false, false, false, false] #[true, true, true, true, true, true, true, true, false, false, false, false, true, false, false] rfl rfl rfl rfl (by kernel_rfl) (by decide) (by decide) (fun K hK => ?_) (fun K hK => ?_)
  ·skip
   refine goes_ Tryd.func29 (by kernel_rfl) rfl #[.agg #[.int .i64 0, .int .i64 0, .int .i64 0, .int .i64 0, .string s, .string (⟨#[]⟩ : ByteArray), .int .i64 0, .int .u32 0, .bool false], .agg #[.int .i64 49699, .int .i64 0, .bool false, .bool false, .bool true, .int .i64 id, .string cs, .bool false, .int .i64 0], .agg #[.int .i64 10, .int .i64 49699, .int .i64 id, .string xs], .int .i64 49699, .agg #[.int .i64 4, .int .i64 id, .slice none 0 0]] (by rfl) rfl rfl (by simp only [List.map_toArray, List.map_cons, List.map_nil]; rfl) ?_
   with_reducible refine (HA4.out wd HBd.out).mono ?_
   rintro e wz ⟨rfl, hbn⟩
   refine ⟨_, rfl, ?_⟩
   have G12z := Aside0.mk (blk_below G12d.out hbn)
   have GDz := Aside0.mk (blk_below GDd.out hbn)
   have G19z := Aside0.mk (blk_below G19d.out hbn)
   have G24z := Aside0.mk (blk_below G24d.out hbn)
   have HBz := Aside0.mk (below_step HBd.out hbn)
   clear hbn
   refine hK.out _ _ ⟨((blk_cell G12z.out 0).trans rfl), ((blk_cell G12z.out 1).trans rfl), ((blk_cell G12z.out 2).trans rfl), ((blk_cell G12z.out 3).trans rfl), ((blk_cell G12z.out 4).trans rfl), ((blk_cell G12z.out 5).trans rfl), ((blk_cell G12z.out 6).trans rfl), ((blk_cell G12z.out 7).trans rfl), ((blk_cell G12z.out 8).trans rfl), ((blk_cell G19z.out 0).trans rfl), ((blk_cell G19z.out 1).trans rfl), ((blk_cell G19z.out 2).trans rfl), ((blk_cell G19z.out 3).trans rfl), ((blk_cell G19z.out 4).trans rfl), ((blk_cell G19z.out 5).trans rfl), ((blk_cell G19z.out 6).trans rfl), ((blk_cell G19z.out 7).trans rfl), ((blk_cell G19z.out 8).trans rfl), (HDC.out _ GDz.out).1, (HDC.out _ GDz.out).2.1, (HDC.out _ GDz.out).2.2.1, (HDC.out _ GDz.out).2.2.2⟩ (fun hHeld => ?_)
   clear hK K
   refine norm_ (a' := ?_) ?_ ?_
   rotate_left
   ·show Act.put _ (some 143) _ = _
    simp only [Act.put, List.setIfInBounds_toArray, List.set_cons_zero, List.set_cons_succ, i64_w, i32_w]
    rfl
   refine pure_ (i := 9) (N := some 134) (v := ?_) (a' := ?_) #[true, true, true, true, true, true, true, true, true, true, false, false, false, false, false] rfl rfl (by kernel_rfl) (fun _ _ _ h => h) (Or.inl ⟨by rfl, ?_⟩) ?_ ?_
   rotate_left
   ·intro w'
    go_simp
    with_reducible rfl
   rotate_left
   ·simp only [Act.put, List.setIfInBounds_toArray, List.set_cons_zero, List.set_cons_succ, i64_w, i32_w]
    rfl
   refine pure_ (i := 10) (N := some 144) (v := ?_) (a' := ?_) #[true, true, true, true, true, true, true, true, true, true, true, false, false, false, false] rfl rfl (by kernel_rfl) (fun _ _ _ h => h) (Or.inl ⟨by rfl, ?_⟩) ?_ ?_
   rotate_left
   ·intro w'
    go_simp
    with_reducible rfl
   rotate_left
   ·simp only [Act.put, List.setIfInBounds_toArray, List.set_cons_zero, List.set_cons_succ, i64_w, i32_w]
    rfl
   refine pure_ (i := 11) (N := some 145) (v := ?_) (a' := ?_) #[true, true, true, true, true, true, true, true, true, true, true, true, false, false, false] rfl rfl (by kernel_rfl) (fun _ _ _ h => h) (Or.inl ⟨by rfl, ?_⟩) ?_ ?_
   rotate_left
   ·intro w'
    go_simp
    with_reducible rfl
   rotate_left
   ·simp only [Act.put, List.setIfInBounds_toArray, List.set_cons_zero, List.set_cons_succ, i64_w, i32_w]
    rfl
   refine one_ (i := 12) (N := some 26) #[true, true, true, true, true, true, true, true, true, true, true, true, true, false, false] rfl rfl (by kernel_rfl) (by decide) (fun K hK => ?_)
   refine value_ (w1 := ?_) (v := ?_) (by rfl) rfl ?_ ?_
   rotate_left 2
   ·go_simp
    constructor
    ·rfl
    ·rfl
   refine hK.out _ _ ⟨((blk_cell (blk_alloc G12z.out (.cells #[.int .i64 0, .int .i64 0, .bool false, .bool false, .bool false, .int .i64 0, .string (⟨#[]⟩ : ByteArray), .bool false, .int .i64 0] 50)) 0).trans rfl), ((blk_cell (blk_alloc G12z.out (.cells #[.int .i64 0, .int .i64 0, .bool false, .bool false, .bool false, .int .i64 0, .string (⟨#[]⟩ : ByteArray), .bool false, .int .i64 0] 50)) 1).trans rfl), ((blk_cell (blk_alloc G12z.out (.cells #[.int .i64 0, .int .i64 0, .bool false, .bool false, .bool false, .int .i64 0, .string (⟨#[]⟩ : ByteArray), .bool false, .int .i64 0] 50)) 2).trans rfl), ((blk_cell (blk_alloc G12z.out (.cells #[.int .i64 0, .int .i64 0, .bool false, .bool false, .bool false, .int .i64 0, .string (⟨#[]⟩ : ByteArray), .bool false, .int .i64 0] 50)) 3).trans rfl), ((blk_cell (blk_alloc G12z.out (.cells #[.int .i64 0, .int .i64 0, .bool false, .bool false, .bool false, .int .i64 0, .string (⟨#[]⟩ : ByteArray), .bool false, .int .i64 0] 50)) 4).trans rfl), ((blk_cell (blk_alloc G12z.out (.cells #[.int .i64 0, .int .i64 0, .bool false, .bool false, .bool false, .int .i64 0, .string (⟨#[]⟩ : ByteArray), .bool false, .int .i64 0] 50)) 5).trans rfl), ((blk_cell (blk_alloc G12z.out (.cells #[.int .i64 0, .int .i64 0, .bool false, .bool false, .bool false, .int .i64 0, .string (⟨#[]⟩ : ByteArray), .bool false, .int .i64 0] 50)) 6).trans rfl), ((blk_cell (blk_alloc G12z.out (.cells #[.int .i64 0, .int .i64 0, .bool false, .bool false, .bool false, .int .i64 0, .string (⟨#[]⟩ : ByteArray), .bool false, .int .i64 0] 50)) 7).trans rfl), ((blk_cell (blk_alloc G12z.out (.cells #[.int .i64 0, .int .i64 0, .bool false, .bool false, .bool false, .int .i64 0, .string (⟨#[]⟩ : ByteArray), .bool false, .int .i64 0] 50)) 8).trans rfl), ((blk_cell (blk_alloc G19z.out (.cells #[.int .i64 0, .int .i64 0, .bool false, .bool false, .bool false, .int .i64 0, .string (⟨#[]⟩ : ByteArray), .bool false, .int .i64 0] 50)) 0).trans rfl), ((blk_cell (blk_alloc G19z.out (.cells #[.int .i64 0, .int .i64 0, .bool false, .bool false, .bool false, .int .i64 0, .string (⟨#[]⟩ : ByteArray), .bool false, .int .i64 0] 50)) 1).trans rfl), ((blk_cell (blk_alloc G19z.out (.cells #[.int .i64 0, .int .i64 0, .bool false, .bool false, .bool false, .int .i64 0, .string (⟨#[]⟩ : ByteArray), .bool false, .int .i64 0] 50)) 2).trans rfl), ((blk_cell (blk_alloc G19z.out (.cells #[.int .i64 0, .int .i64 0, .bool false, .bool false, .bool false, .int .i64 0, .string (⟨#[]⟩ : ByteArray), .bool false, .int .i64 0] 50)) 3).trans rfl), ((blk_cell (blk_alloc G19z.out (.cells #[.int .i64 0, .int .i64 0, .bool false, .bool false, .bool false, .int .i64 0, .string (⟨#[]⟩ : ByteArray), .bool false, .int .i64 0] 50)) 4).trans rfl), ((blk_cell (blk_alloc G19z.out (.cells #[.int .i64 0, .int .i64 0, .bool false, .bool false, .bool false, .int .i64 0, .string (⟨#[]⟩ : ByteArray), .bool false, .int .i64 0] 50)) 5).trans rfl), ((blk_cell (blk_alloc G19z.out (.cells #[.int .i64 0, .int .i64 0, .bool false, .bool false, .bool false, .int .i64 0, .string (⟨#[]⟩ : ByteArray), .bool false, .int .i64 0] 50)) 6).trans rfl), ((blk_cell (blk_alloc G19z.out (.cells #[.int .i64 0, .int .i64 0, .bool false, .bool false, .bool false, .int .i64 0, .string (⟨#[]⟩ : ByteArray), .bool false, .int .i64 0] 50)) 7).trans rfl), ((blk_cell (blk_alloc G19z.out (.cells #[.int .i64 0, .int .i64 0, .bool false, .bool false, .bool false, .int .i64 0, .string (⟨#[]⟩ : ByteArray), .bool false, .int .i64 0] 50)) 8).trans rfl), (HDC.out _ (blk_alloc GDz.out (.cells #[.int .i64 0, .int .i64 0, .bool false, .bool false, .bool false, .int .i64 0, .string (⟨#[]⟩ : ByteArray), .bool false, .int .i64 0] 50))).1, (HDC.out _ (blk_alloc GDz.out (.cells #[.int .i64 0, .int .i64 0, .bool false, .bool false, .bool false, .int .i64 0, .string (⟨#[]⟩ : ByteArray), .bool false, .int .i64 0] 50))).2.1, (HDC.out _ (blk_alloc GDz.out (.cells #[.int .i64 0, .int .i64 0, .bool false, .bool false, .bool false, .int .i64 0, .string (⟨#[]⟩ : ByteArray), .bool false, .int .i64 0] 50))).2.2.1, (HDC.out _ (blk_alloc GDz.out (.cells #[.int .i64 0, .int .i64 0, .bool false, .bool false, .bool false, .int .i64 0, .string (⟨#[]⟩ : ByteArray), .bool false, .int .i64 0] 50))).2.2.2⟩ (fun hHeld => ?_)
   clear hK K
   refine norm_ (a' := ?_) ?_ ?_
   rotate_left
   ·show Act.put _ (some 26) _ = _
    simp only [Act.put, List.setIfInBounds_toArray, List.set_cons_zero, List.set_cons_succ, i64_w, i32_w]
    rfl
   exact norm_ (by simp only [putAll, Act.put, List.setIfInBounds_toArray, List.set_cons_zero, List.set_cons_succ]) (hCont wz.heap.size _ ⟨blk_new wz (.cells #[.int .i64 0, .int .i64 0, .bool false, .bool false, .bool false, .int .i64 0, .string (⟨#[]⟩ : ByteArray), .bool false, .int .i64 0] 50), (blk_alloc G12z.out (.cells #[.int .i64 0, .int .i64 0, .bool false, .bool false, .bool false, .int .i64 0, .string (⟨#[]⟩ : ByteArray), .bool false, .int .i64 0] 50)), (blk_alloc GDz.out (.cells #[.int .i64 0, .int .i64 0, .bool false, .bool false, .bool false, .int .i64 0, .string (⟨#[]⟩ : ByteArray), .bool false, .int .i64 0] 50)), (blk_alloc G19z.out (.cells #[.int .i64 0, .int .i64 0, .bool false, .bool false, .bool false, .int .i64 0, .string (⟨#[]⟩ : ByteArray), .bool false, .int .i64 0] 50)), (blk_alloc G24z.out (.cells #[.int .i64 0, .int .i64 0, .bool false, .bool false, .bool false, .int .i64 0, .string (⟨#[]⟩ : ByteArray), .bool false, .int .i64 0] 50)), (below_alloc HBz.out (.cells #[.int .i64 0, .int .i64 0, .bool false, .bool false, .bool false, .int .i64 0, .string (⟨#[]⟩ : ByteArray), .bool false, .int .i64 0] 50)), below_size HBz.out, Nat.ne_of_lt (blk_lt G12z.out), Nat.ne_of_lt (blk_lt GDz.out), Nat.ne_of_lt (blk_lt G19z.out), Nat.ne_of_lt (blk_lt G24z.out)⟩)
  ·skip
   refine value_ (w1 := ?_) (v := ?_) (by rfl) rfl ?_ ?_
   rotate_left 2
   ·go_simp
    constructor
    ·rfl
    ·rfl
   refine hK.out _ _ ⟨((blk_cell (blk_alloc G12d.out (.cells #[.int .i64 0, .int .i64 0, .bool false, .bool false, .bool false, .int .i64 0, .string (⟨#[]⟩ : ByteArray), .bool false, .int .i64 0] 50)) 0).trans rfl), ((blk_cell (blk_alloc G12d.out (.cells #[.int .i64 0, .int .i64 0, .bool false, .bool false, .bool false, .int .i64 0, .string (⟨#[]⟩ : ByteArray), .bool false, .int .i64 0] 50)) 1).trans rfl), ((blk_cell (blk_alloc G12d.out (.cells #[.int .i64 0, .int .i64 0, .bool false, .bool false, .bool false, .int .i64 0, .string (⟨#[]⟩ : ByteArray), .bool false, .int .i64 0] 50)) 2).trans rfl), ((blk_cell (blk_alloc G12d.out (.cells #[.int .i64 0, .int .i64 0, .bool false, .bool false, .bool false, .int .i64 0, .string (⟨#[]⟩ : ByteArray), .bool false, .int .i64 0] 50)) 3).trans rfl), ((blk_cell (blk_alloc G12d.out (.cells #[.int .i64 0, .int .i64 0, .bool false, .bool false, .bool false, .int .i64 0, .string (⟨#[]⟩ : ByteArray), .bool false, .int .i64 0] 50)) 4).trans rfl), ((blk_cell (blk_alloc G12d.out (.cells #[.int .i64 0, .int .i64 0, .bool false, .bool false, .bool false, .int .i64 0, .string (⟨#[]⟩ : ByteArray), .bool false, .int .i64 0] 50)) 5).trans rfl), ((blk_cell (blk_alloc G12d.out (.cells #[.int .i64 0, .int .i64 0, .bool false, .bool false, .bool false, .int .i64 0, .string (⟨#[]⟩ : ByteArray), .bool false, .int .i64 0] 50)) 6).trans rfl), ((blk_cell (blk_alloc G12d.out (.cells #[.int .i64 0, .int .i64 0, .bool false, .bool false, .bool false, .int .i64 0, .string (⟨#[]⟩ : ByteArray), .bool false, .int .i64 0] 50)) 7).trans rfl), ((blk_cell (blk_alloc G12d.out (.cells #[.int .i64 0, .int .i64 0, .bool false, .bool false, .bool false, .int .i64 0, .string (⟨#[]⟩ : ByteArray), .bool false, .int .i64 0] 50)) 8).trans rfl), ((blk_cell (blk_alloc G19d.out (.cells #[.int .i64 0, .int .i64 0, .bool false, .bool false, .bool false, .int .i64 0, .string (⟨#[]⟩ : ByteArray), .bool false, .int .i64 0] 50)) 0).trans rfl), ((blk_cell (blk_alloc G19d.out (.cells #[.int .i64 0, .int .i64 0, .bool false, .bool false, .bool false, .int .i64 0, .string (⟨#[]⟩ : ByteArray), .bool false, .int .i64 0] 50)) 1).trans rfl), ((blk_cell (blk_alloc G19d.out (.cells #[.int .i64 0, .int .i64 0, .bool false, .bool false, .bool false, .int .i64 0, .string (⟨#[]⟩ : ByteArray), .bool false, .int .i64 0] 50)) 2).trans rfl), ((blk_cell (blk_alloc G19d.out (.cells #[.int .i64 0, .int .i64 0, .bool false, .bool false, .bool false, .int .i64 0, .string (⟨#[]⟩ : ByteArray), .bool false, .int .i64 0] 50)) 3).trans rfl), ((blk_cell (blk_alloc G19d.out (.cells #[.int .i64 0, .int .i64 0, .bool false, .bool false, .bool false, .int .i64 0, .string (⟨#[]⟩ : ByteArray), .bool false, .int .i64 0] 50)) 4).trans rfl), ((blk_cell (blk_alloc G19d.out (.cells #[.int .i64 0, .int .i64 0, .bool false, .bool false, .bool false, .int .i64 0, .string (⟨#[]⟩ : ByteArray), .bool false, .int .i64 0] 50)) 5).trans rfl), ((blk_cell (blk_alloc G19d.out (.cells #[.int .i64 0, .int .i64 0, .bool false, .bool false, .bool false, .int .i64 0, .string (⟨#[]⟩ : ByteArray), .bool false, .int .i64 0] 50)) 6).trans rfl), ((blk_cell (blk_alloc G19d.out (.cells #[.int .i64 0, .int .i64 0, .bool false, .bool false, .bool false, .int .i64 0, .string (⟨#[]⟩ : ByteArray), .bool false, .int .i64 0] 50)) 7).trans rfl), ((blk_cell (blk_alloc G19d.out (.cells #[.int .i64 0, .int .i64 0, .bool false, .bool false, .bool false, .int .i64 0, .string (⟨#[]⟩ : ByteArray), .bool false, .int .i64 0] 50)) 8).trans rfl), (HDC.out _ (blk_alloc GDd.out (.cells #[.int .i64 0, .int .i64 0, .bool false, .bool false, .bool false, .int .i64 0, .string (⟨#[]⟩ : ByteArray), .bool false, .int .i64 0] 50))).1, (HDC.out _ (blk_alloc GDd.out (.cells #[.int .i64 0, .int .i64 0, .bool false, .bool false, .bool false, .int .i64 0, .string (⟨#[]⟩ : ByteArray), .bool false, .int .i64 0] 50))).2.1, (HDC.out _ (blk_alloc GDd.out (.cells #[.int .i64 0, .int .i64 0, .bool false, .bool false, .bool false, .int .i64 0, .string (⟨#[]⟩ : ByteArray), .bool false, .int .i64 0] 50))).2.2.1, (HDC.out _ (blk_alloc GDd.out (.cells #[.int .i64 0, .int .i64 0, .bool false, .bool false, .bool false, .int .i64 0, .string (⟨#[]⟩ : ByteArray), .bool false, .int .i64 0] 50))).2.2.2⟩ (fun hHeld => ?_)
   clear hK K
   refine norm_ (a' := ?_) ?_ ?_
   rotate_left
   ·show Act.put _ (some 26) _ = _
    simp only [Act.put, List.setIfInBounds_toArray, List.set_cons_zero, List.set_cons_succ, i64_w, i32_w]
    rfl
   refine one_ (i := 8) (N := some 143) #[true, true, true, true, true, true, true, true, true, false, false, false, true, false, false] rfl rfl (by kernel_rfl) (by decide) (fun K hK => ?_)
   refine goes_ Tryd.func29 (by kernel_rfl) rfl #[.agg #[.int .i64 0, .int .i64 0, .int .i64 0, .int .i64 0, .string s, .string (⟨#[]⟩ : ByteArray), .int .i64 0, .int .u32 0, .bool false], .agg #[.int .i64 49699, .int .i64 0, .bool false, .bool false, .bool true, .int .i64 id, .string cs, .bool false, .int .i64 0], .agg #[.int .i64 10, .int .i64 49699, .int .i64 id, .string xs], .int .i64 49699, .agg #[.int .i64 4, .int .i64 id, .slice none 0 0]] (by rfl) rfl rfl (by simp only [List.map_toArray, List.map_cons, List.map_nil]; rfl) ?_
   with_reducible refine (HA4.out (wd.alloc (.cells #[.int .i64 0, .int .i64 0, .bool false, .bool false, .bool false, .int .i64 0, .string (⟨#[]⟩ : ByteArray), .bool false, .int .i64 0] 50)) (below_alloc HBd.out (.cells #[.int .i64 0, .int .i64 0, .bool false, .bool false, .bool false, .int .i64 0, .string (⟨#[]⟩ : ByteArray), .bool false, .int .i64 0] 50))).mono ?_
   rintro e wz ⟨rfl, hbn⟩
   refine ⟨_, rfl, ?_⟩
   have G12z := Aside0.mk (blk_below (blk_alloc G12d.out (.cells #[.int .i64 0, .int .i64 0, .bool false, .bool false, .bool false, .int .i64 0, .string (⟨#[]⟩ : ByteArray), .bool false, .int .i64 0] 50)) hbn)
   have GDz := Aside0.mk (blk_below (blk_alloc GDd.out (.cells #[.int .i64 0, .int .i64 0, .bool false, .bool false, .bool false, .int .i64 0, .string (⟨#[]⟩ : ByteArray), .bool false, .int .i64 0] 50)) hbn)
   have G19z := Aside0.mk (blk_below (blk_alloc G19d.out (.cells #[.int .i64 0, .int .i64 0, .bool false, .bool false, .bool false, .int .i64 0, .string (⟨#[]⟩ : ByteArray), .bool false, .int .i64 0] 50)) hbn)
   have G24z := Aside0.mk (blk_below (blk_alloc G24d.out (.cells #[.int .i64 0, .int .i64 0, .bool false, .bool false, .bool false, .int .i64 0, .string (⟨#[]⟩ : ByteArray), .bool false, .int .i64 0] 50)) hbn)
   have HBz := Aside0.mk (below_step (below_alloc HBd.out (.cells #[.int .i64 0, .int .i64 0, .bool false, .bool false, .bool false, .int .i64 0, .string (⟨#[]⟩ : ByteArray), .bool false, .int .i64 0] 50)) hbn)
   have HSz := Aside0.mk (blk_below (blk_new wd (.cells #[.int .i64 0, .int .i64 0, .bool false, .bool false, .bool false, .int .i64 0, .string (⟨#[]⟩ : ByteArray), .bool false, .int .i64 0] 50)) hbn)
   clear hbn
   refine hK.out _ _ ⟨((blk_cell G12z.out 0).trans rfl), ((blk_cell G12z.out 1).trans rfl), ((blk_cell G12z.out 2).trans rfl), ((blk_cell G12z.out 3).trans rfl), ((blk_cell G12z.out 4).trans rfl), ((blk_cell G12z.out 5).trans rfl), ((blk_cell G12z.out 6).trans rfl), ((blk_cell G12z.out 7).trans rfl), ((blk_cell G12z.out 8).trans rfl), ((blk_cell G19z.out 0).trans rfl), ((blk_cell G19z.out 1).trans rfl), ((blk_cell G19z.out 2).trans rfl), ((blk_cell G19z.out 3).trans rfl), ((blk_cell G19z.out 4).trans rfl), ((blk_cell G19z.out 5).trans rfl), ((blk_cell G19z.out 6).trans rfl), ((blk_cell G19z.out 7).trans rfl), ((blk_cell G19z.out 8).trans rfl), (HDC.out _ GDz.out).1, (HDC.out _ GDz.out).2.1, (HDC.out _ GDz.out).2.2.1, (HDC.out _ GDz.out).2.2.2⟩ (fun hHeld => ?_)
   clear hK K
   refine norm_ (a' := ?_) ?_ ?_
   rotate_left
   ·show Act.put _ (some 143) _ = _
    simp only [Act.put, List.setIfInBounds_toArray, List.set_cons_zero, List.set_cons_succ, i64_w, i32_w]
    rfl
   refine pure_ (i := 9) (N := some 134) (v := ?_) (a' := ?_) #[true, true, true, true, true, true, true, true, true, true, false, false, true, false, false] rfl rfl (by kernel_rfl) (fun _ _ _ h => h) (Or.inl ⟨by rfl, ?_⟩) ?_ ?_
   rotate_left
   ·intro w'
    go_simp
    with_reducible rfl
   rotate_left
   ·simp only [Act.put, List.setIfInBounds_toArray, List.set_cons_zero, List.set_cons_succ, i64_w, i32_w]
    rfl
   refine pure_ (i := 10) (N := some 144) (v := ?_) (a' := ?_) #[true, true, true, true, true, true, true, true, true, true, true, false, true, false, false] rfl rfl (by kernel_rfl) (fun _ _ _ h => h) (Or.inl ⟨by rfl, ?_⟩) ?_ ?_
   rotate_left
   ·intro w'
    go_simp
    with_reducible rfl
   rotate_left
   ·simp only [Act.put, List.setIfInBounds_toArray, List.set_cons_zero, List.set_cons_succ, i64_w, i32_w]
    rfl
   refine pure_ (i := 11) (N := some 145) (v := ?_) (a' := ?_) #[true, true, true, true, true, true, true, true, true, true, true, true, true, false, false] rfl rfl (by kernel_rfl) (fun _ _ _ h => h) (Or.inl ⟨by rfl, ?_⟩) ?_ ?_
   rotate_left
   ·intro w'
    go_simp
    with_reducible rfl
   rotate_left
   ·simp only [Act.put, List.setIfInBounds_toArray, List.set_cons_zero, List.set_cons_succ, i64_w, i32_w]
    rfl
   exact norm_ (by simp only [putAll, Act.put, List.setIfInBounds_toArray, List.set_cons_zero, List.set_cons_succ]) (hCont wd.heap.size _ ⟨HSz.out, G12z.out, GDz.out, G19z.out, G24z.out, HBz.out, below_size HBd.out, Nat.ne_of_lt (blk_lt G12d.out), Nat.ne_of_lt (blk_lt GDd.out), Nat.ne_of_lt (blk_lt G19d.out), Nat.ne_of_lt (blk_lt G24d.out)⟩)
 rintro s_ wy ⟨hHS_, hG12_, hGD_, hG19_, hG24_, hHB_, hGES_, hNEG12_, hNEGD_, hNEG19_, hNEG24_⟩
 have HSy := Aside0.mk hHS_
 have G12y := Aside0.mk hG12_
 have GDy := Aside0.mk hGD_
 have G19y := Aside0.mk hG19_
 have G24y := Aside0.mk hG24_
 have HBy := Aside0.mk hHB_
 have GESy := Aside0.mk hGES_
 have NEG12y := Aside0.mk hNEG12_
 have NEGDy := Aside0.mk hNEGD_
 have NEG19y := Aside0.mk hNEG19_
 have NEG24y := Aside0.mk hNEG24_
 clear hHS_ hG12_ hGD_ hG19_ hG24_ hHB_ hGES_ hNEG12_ hNEGD_ hNEG19_ hNEG24_
 have hHeld := True.intro
 refine norm_ (a' := ?_) ?_ ?_
 rotate_left
 ·simp only [putAll, Act.put, List.setIfInBounds_toArray, List.set_cons_zero, List.set_cons_succ]
  rfl
 refine last_ (i := 13) (N := none) #[true, true, true, true, true, true, true, true, true, true, true, true, true, true, false] rfl rfl (by kernel_rfl) (by decide) (fun K hK => ?_)
 obtain ⟨u0_, u1_, u2_, u3_, u4_, u5_, u6_, u7_, u8_, uf0_, uf1_, uf2_, uf3_, uf4_, uf5_, uf6_, uf7_, uf8_⟩ := cells9 HSy.out
 refine skip_ (w1 := ?_) (by rfl) rfl ?_ ?_
 rotate_left
 ·go_simp
  rfl
 refine hK.out _ _ ?_
 clear hK K
 refine pure_ (i := 14) (N := some 27) (v := ?_) (a' := ?_) #[true, true, true, true, true, true, true, true, true, true, true, true, true, true, true] rfl rfl (by kernel_rfl) (fun _ _ _ h => h) (Or.inl ⟨by rfl, ?_⟩) ?_ ?_
 rotate_left
 ·intro w'
  go_simp
  with_reducible rfl
 rotate_left
 ·simp only [Act.put, List.setIfInBounds_toArray, List.set_cons_zero, List.set_cons_succ, i64_w, i32_w]
  rfl
 refine done_ (by kernel_rfl) ?_
 have yG12 := set9_blk G12y.out NEG12y.out (.int .i64 49699) (.int .i64 0) (.bool false) (.bool false) (.bool true) (.int .i64 id) (.string cs) (.bool false) (.int .i64 0)
 have yGD := set9_blk GDy.out NEGDy.out (.int .i64 49699) (.int .i64 0) (.bool false) (.bool false) (.bool true) (.int .i64 id) (.string cs) (.bool false) (.int .i64 0)
 have yG19 := set9_blk G19y.out NEG19y.out (.int .i64 49699) (.int .i64 0) (.bool false) (.bool false) (.bool true) (.int .i64 id) (.string cs) (.bool false) (.int .i64 0)
 have yG24 := set9_blk G24y.out NEG24y.out (.int .i64 49699) (.int .i64 0) (.bool false) (.bool false) (.bool true) (.int .i64 id) (.string cs) (.bool false) (.int .i64 0)
 have yG26 := set9_row HSy.out (.int .i64 49699) (.int .i64 0) (.bool false) (.bool false) (.bool true) (.int .i64 id) (.string cs) (.bool false) (.int .i64 0)
 have yHB := set9_below HBy.out GESy.out (.int .i64 49699) (.int .i64 0) (.bool false) (.bool false) (.bool true) (.int .i64 id) (.string cs) (.bool false) (.int .i64 0)
 unfold set9 at yG12
 unfold set9 at yGD
 unfold set9 at yG19
 unfold set9 at yG24
 unfold set9 at yG26
 unfold set9 at yHB
 generalize (((((((((wy.setCell ⟨s_, 0, none⟩ (.int .i64 49699)).setCell ⟨s_, 1, none⟩ (.int .i64 0)).setCell ⟨s_, 2, none⟩ (.bool false)).setCell ⟨s_, 3, none⟩ (.bool false)).setCell ⟨s_, 4, none⟩ (.bool true)).setCell ⟨s_, 5, none⟩ (.int .i64 id)).setCell ⟨s_, 6, none⟩ (.string cs)).setCell ⟨s_, 7, none⟩ (.bool false)).setCell ⟨s_, 8, none⟩ (.int .i64 0)) = w26 at yG12 yGD yG19 yG24 yG26 yHB ⊢
 have G12 := Aside0.mk yG12
 clear yG12
 have GD := Aside0.mk yGD
 clear yGD
 have G19 := Aside0.mk yG19
 clear yG19
 have G24 := Aside0.mk yG24
 clear yG24
 have G26 := Aside0.mk yG26
 clear yG26
 have HB := Aside0.mk yHB
 clear yHB
 clear HSy HBy GESy G12y GDy G19y G24y NEG12y NEGDy NEG19y NEG24y G12d GDd G19d G24d HBd
 generalize s_ = g26 at G26 ⊢
 clear G12
 clear G19
 clear GD
 obtain ⟨s_0, s_1, s_2, s_3, s_4, s_5, s_6, s_7, s_8, s_f0, s_f1, s_f2, s_f3, s_f4, s_f5, s_f6, s_f7, s_f8⟩ := cells9 G24.out
 obtain ⟨t_0, t_1, t_2, t_3, t_4, t_5, t_6, t_7, t_8, t_f0, t_f1, t_f2, t_f3, t_f4, t_f5, t_f6, t_f7, t_f8⟩ := cells9 G26.out
 cases b <;> cases io
 all_goals go_wp2_with (first | (go_at_call 33; (with_reducible refine (HD3.out _ HB.out).mono ?_); rintro e wq ⟨rfl, hbn⟩; clear s_0 s_f0 s_1 s_f1 s_2 s_f2 s_3 s_f3 s_4 s_f4 s_5 s_f5 s_6 s_f6 s_7 s_f7 s_8 s_f8; clear t_0 t_f0 t_1 t_f1 t_2 t_f2 t_3 t_f3 t_4 t_f4 t_5 t_f5 t_6 t_f6 t_7 t_f7 t_8 t_f8; replace G24 := Aside0.mk (blk_below G24.out hbn); replace G26 := Aside0.mk (blk_below G26.out hbn); replace HB := Aside0.mk (below_step HB.out hbn); clear hbn; obtain ⟨s_0, s_1, s_2, s_3, s_4, s_5, s_6, s_7, s_8, s_f0, s_f1, s_f2, s_f3, s_f4, s_f5, s_f6, s_f7, s_f8⟩ := cells9 G24.out; obtain ⟨t_0, t_1, t_2, t_3, t_4, t_5, t_6, t_7, t_8, t_f0, t_f1, t_f2, t_f3, t_f4, t_f5, t_f6, t_f7, t_f8⟩ := cells9 G26.out) | (go_at_call 33; (with_reducible refine (HD4.out _ HB.out).mono ?_); rintro e wq ⟨rfl, hbn⟩; clear s_0 s_f0 s_1 s_f1 s_2 s_f2 s_3 s_f3 s_4 s_f4 s_5 s_f5 s_6 s_f6 s_7 s_f7 s_8 s_f8; clear t_0 t_f0 t_1 t_f1 t_2 t_f2 t_3 t_f3 t_4 t_f4 t_5 t_f5 t_6 t_f6 t_7 t_f7 t_8 t_f8; replace G24 := Aside0.mk (blk_below G24.out hbn); replace G26 := Aside0.mk (blk_below G26.out hbn); replace HB := Aside0.mk (below_step HB.out hbn); clear hbn; obtain ⟨s_0, s_1, s_2, s_3, s_4, s_5, s_6, s_7, s_8, s_f0, s_f1, s_f2, s_f3, s_f4, s_f5, s_f6, s_f7, s_f8⟩ := cells9 G24.out; obtain ⟨t_0, t_1, t_2, t_3, t_4, t_5, t_6, t_7, t_8, t_f0, t_f1, t_f2, t_f3, t_f4, t_f5, t_f6, t_f7, t_f8⟩ := cells9 G26.out))
 all_goals go_ret
 all_goals exact ⟨by first | rfl | simp, HB.out⟩
end
end Go.Proofs.YtgadhmoifhoilaaDoor.Ans
