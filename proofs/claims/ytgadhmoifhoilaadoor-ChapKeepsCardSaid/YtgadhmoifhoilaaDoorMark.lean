/-
  A row of bytes made of a string ([]byte(s)), written on by append: its block bears a mark behind its cells.
-/
import Derived.Test.YtgadhmoifhoilaaDoorKit
import Derived.Lib.ConvBytes
import Derived.Laws.AppendOwn
namespace Go.Proofs.YtgadhmoifhoilaaDoor.Kit
open Go.RowKit Go.Proofs.YtgadhmoifhoilaaDoorW.PrintWords Go.Proofs.YtgadhmoifhoilaaDoorW.PrintLast Go.Proofs.YtgadhmoifhoilaaDoorW.PrintMore
set_option linter.unusedVariables false
theorem run_storeCells_atM (P : Program) (g o : Nat) (t : TypeId) (fz : Nat × Nat) : ∀ (vs : List Value) (i : Nat) (cur : Array Value) (w : World), w.heap[g]? = some (.cells cur t fz) → o + i + vs.length ≤ fz.1 → o + i + vs.length ≤ cur.size → (∀ v ∈ vs, v.oneCell' = true) →
    (storeCells ⟨g, o, none⟩ vs i).run P w = .ok () (w.setRow g (cur.toList.take (o + i) ++ vs ++ cur.toList.drop (o + i + vs.length)).toArray)
  | [], i, cur, w, hg, _, _, _ => by
    simp only [storeCells, List.append_nil, List.length_nil, Nat.add_zero, List.take_append_drop, Array.toArray_toList]
    rw [setRow_self w g cur t fz hg]
    rfl
  | v :: rest, i, cur, w, hg, hfz, hl, h1 => by
    have hi : o + i < cur.size := by simp at hl; omega
    have hadd : (⟨g, o, none⟩ : Addr).add i = ⟨g, o + i, none⟩ := by unfold Addr.add; split <;> simp_all
    have hcell : w.cell? ⟨g, o + i, none⟩ = some cur[o + i] := by simp [World.cell?, hg, hi]
    have hfro : w.frozen? ⟨g, o + i, none⟩ = false := by
      obtain ⟨lo, hi'⟩ := fz
      simp only [World.frozen?, hg, Bool.and_eq_false_iff, decide_eq_false_iff_not]
      left
      simp only [List.length_cons] at hfz
      omega
    have hst : (store ((⟨g, o, none⟩ : Addr).add i) v).run P w = .ok () (w.setRow g (cur.setIfInBounds (o + i) v)) := by
      rw [hadd, run_store P w _ v _ (h1 v (by simp)), hcell]
      simp [hfro, setCell_eq_setRow w g (o + i) cur t fz v hg]
    have ih := run_storeCells_atM P g o t fz rest (i + 1) (cur.setIfInBounds (o + i) v) (w.setRow g (cur.setIfInBounds (o + i) v)) (setRow_heap w g cur _ t _ hg) (by simp at hfz ⊢; omega) (by simp at hl ⊢; omega) (fun x hx => h1 x (by simp [hx]))
    simp only [storeCells, Sem.run_bind, hst, Result.andThen_ok, ih, setRow_setRow]
    congr 3
    have e := list_seg_step cur.toList (o + i) v rest (by simp at hl ⊢; omega)
    simpa [Array.toList_setIfInBounds, Nat.add_assoc] using e
theorem run_append_roomM {P : Program} (w : World) (t ty e : TypeId) (i : TypeInfo) (ht : P.underlying t = some (.slice e)) (hi : P.info? e = some i) (hs1 : i.size = 1)
    (g sLen sCap : Nat) (cur : Array Value) (fz : Nat × Nat) (hg : w.heap[g]? = some (.cells cur e fz))
    (a : Addr) (m c : Nat) (news : List Value) (hl : news.length = m) (hnews : ∀ j u, news[j]? = some u → w.cell? (a.add j) = some u) (h1 : ∀ u ∈ news, u.oneCell' = true)
    (hroom : sLen + m ≤ sCap) (hfit : sLen + m ≤ cur.size) (hfz : sLen + m ≤ fz.1) :
    (Builtin.append_ #[t, t] ty #[.slice (some ⟨g, 0, none⟩) sLen sCap, .slice (some a) m c]).run P w =
      .ok (.slice (some ⟨g, 0, none⟩) (sLen + m) sCap) (w.setRow g (cur.toList.take sLen ++ news ++ cur.toList.drop (sLen + m)).toArray) := by
  have hf := run_firstCells_some (P := P) w 1 m a m c news (by simpa using hl) hnews
  have hst := run_storeCells_atM P g sLen e fz news 0 cur w hg (by simpa [hl] using hfz) (by simpa [hl] using hfit) h1
  simp only [Nat.add_zero, hl] at hst
  simp [Builtin.append_, run_underlying ht, sizeOf, typeInfo, hi, hs1, Builtin.lenOf, hroom, hf, Addr.add_lit, hst]
/-- A block of bytes, marked behind its cells, whose first cells are these. -/
def MB (w : World) (e : TypeId) (g cap : Nat) (xs : List Int) : Prop := ∃ cur : Array Value, w.heap[g]? = some (.cells cur e (cur.size, cur.size + 1)) ∧ cur.size = cap ∧ xs.length ≤ cap ∧ cap ≤ maxLen ∧ cur.toList.take xs.length = nums .u8 xs
theorem MB.below {w w1 : World} {e : TypeId} {g cap : Nat} {xs : List Int} (h : MB w e g cap xs) (hb : Below w.heap.size w w1) : MB w1 e g cap xs := by
  obtain ⟨cur, h1, h2⟩ := h
  exact ⟨cur, blk_below h1 hb, h2⟩
theorem C_prefix {w : World} {g : Nat} {e : TypeId} {fz : Nat × Nat} {cur : Array Value} {zs : List Int} (hg : w.heap[g]? = some (.cells cur e fz)) (ht : cur.toList.take zs.length = nums .u8 zs) (hl : zs.length ≤ 9223372036854775807) : (Kd.int .u8).C w (some ⟨g, 0, none⟩) zs.length zs := by
  refine Kd.C_of_reads (enc := Value.int .u8) (d := (0 : Int)) (h1 := fun _ => rfl) ⟨rfl, hl, fun _ => ⟨_, rfl, fun j hj => ?_⟩⟩
  rw [show (⟨g, 0, none⟩ : Addr).add j = ⟨g, j, none⟩ from add_plain _ _, cell_of_row w g j cur e fz hg]
  have h := congrArg (·[j]?) ht
  simp only [List.getElem?_take, if_pos hj] at h
  rw [← Array.getElem?_toList, h]
  simp [nums, hj, List.getD_eq_getElem?_getD]
theorem MB.reads {w : World} {e : TypeId} {g cap : Nat} {xs : List Int} (h : MB w e g cap xs) : (Kd.int .u8).C w (some ⟨g, 0, none⟩) xs.length xs ∧ xs.length ≤ cap := by
  obtain ⟨cur, h1, h2, h3, h4, h5⟩ := h
  exact ⟨C_prefix h1 h5 (by unfold maxLen at h4; omega), h3⟩
theorem marked_event {P : Program} {ops : Array Oper} {rest : List Oper} {o : Oper} {a : Act} {W : World} {Q : Exit → Act → World → Prop} (hgd : o.guard = none) (src dst e : TypeId) (x : Operand) (ho : o.op = .convert src dst x) {s : ByteArray} (hx : a.eval x = .string s) (hs : P.underlying src = some .string) (hd : P.underlying dst = some (.slice e)) (he : P.underlying e = some (.int .u8)) (hz : s.size ≤ maxLen)
    (h : ∀ g c w1, MB w1 e g c (bytesOf s) → W.heap.size = g → Below W.heap.size W w1 → wpList P ops Q rest (a.put o.dst (.slice (some ⟨g, 0, none⟩) s.size c)) w1) : wpList P ops Q (o :: rest) a W :=
  wpList_plain hgd fun K hK => by
    unfold Oper.wp execOp
    simp [ho, hx, print_bytes src dst e hs hd he s W, Result.andThen]
    refine hK _ _ (h _ _ _ ⟨Lib.bytesCells W e s, Lib.bytesWorld_at_new W e s, ?_, by rw [bytesOf_length]; exact grownCap_ge _ _ _ _, grownCap_le_maxLen _ _ _ _ hz, ?_⟩ rfl (bytes_below (Below.refl _ _) (Nat.le_refl _) e s))
    · have := grownCap_ge W s.size 0 e
      have hd := data_length s
      simp [Lib.bytesCells]
      omega
    · rw [bytesOf_length]
      simp [Lib.bytesCells, nums, bytesOf]
/-- append onto such a block: where it lies is one's own letter. -/
theorem append_marked {P : Program} (W : World) (t ty e : TypeId) (bytes : Nat) (ht : P.underlying t = some (.slice e)) (hinfo : (P.info? e).map (fun i => (i.zero, i.size, i.bytes)) = some (some (.int .u8 0), 1, 1)) {g cap : Nat} {xs : List Int} (hm : MB W e g cap xs)
    {A : Option Addr} {c : Nat} {ys : List Int} (hC : (Kd.int .u8).C W A ys.length ys) (hl : xs.length + ys.length ≤ 140737488355328) :
    ∃ A' c' w1, (Builtin.append_ #[t, t] ty #[.slice (some ⟨g, 0, none⟩) xs.length cap, .slice A ys.length c]).run P W = .ok (.slice A' (xs.length + ys.length) c') w1 ∧ xs.length + ys.length ≤ c' ∧ (Kd.int .u8).C w1 A' (xs.length + ys.length) (xs ++ ys) ∧ W.grownBy w1 (some g) := by
  obtain ⟨i, hi, hzz⟩ := Option.map_eq_some_iff.1 hinfo
  simp only [Prod.mk.injEq] at hzz
  obtain ⟨hz0, hz1, hz2⟩ := hzz
  obtain ⟨cur, hg, hcs, hxc, hcm, htake⟩ := hm
  have hlen : (xs ++ ys).length = xs.length + ys.length := List.length_append
  rcases Nat.eq_zero_or_pos ys.length with h0 | h0
  · obtain rfl : ys = [] := List.eq_nil_of_length_eq_zero h0
    refine ⟨some ⟨g, 0, none⟩, cap, W, ?_, by simpa using hxc, by rw [List.append_nil, List.length_nil, Nat.add_zero]; exact C_prefix hg htake (by omega), World.grownBy.refl W _⟩
    rw [List.length_nil, Nat.add_zero]
    cases A with
    | none => simp [Builtin.append_, run_underlying ht, sizeOf, typeInfo, hi, Builtin.lenOf, Builtin.firstCells, hxc, storeCells]
    | some ad => simp [Builtin.append_, run_underlying ht, sizeOf, typeInfo, hi, Builtin.lenOf, Builtin.firstCells, hxc, storeCells, loadCells, loadCellsFrom]
  · have hr := Kd.reads_of_C (enc := Value.int .u8) (d := (0 : Int)) (h1 := fun _ => rfl) hC
    obtain ⟨ad, rfl, hc⟩ := hr.2.2 h0
    have hnl : (nums .u8 ys).length = ys.length := nums_length _ _
    have hxl : (nums .u8 xs).length = xs.length := nums_length _ _
    have hnews : ∀ j u, (nums .u8 ys)[j]? = some u → W.cell? (ad.add j) = some u := fun j u hj => by
      have hj' : j < ys.length := by have := (List.getElem?_eq_some_iff.1 hj).1; omega
      rw [hc j hj', ← hj]
      simp [nums, hj', List.getD_eq_getElem?_getD]
    have hone : ∀ u ∈ nums .u8 ys, u.oneCell' = true := fun u hu => by
      simp only [nums, List.mem_map] at hu
      obtain ⟨x, _, rfl⟩ := hu
      rfl
    have hnapp : nums .u8 (xs ++ ys) = nums .u8 xs ++ nums .u8 ys := nums_append _ _ _
    by_cases hroom : xs.length + ys.length ≤ cap
    · have hrun := run_append_roomM (P := P) W t ty e i ht hi hz1 g xs.length cap cur _ hg ad ys.length c (nums .u8 ys) hnl hnews hone hroom (by omega) (by simp only; omega)
      refine ⟨some ⟨g, 0, none⟩, cap, _, hrun, hroom, ?_, ⟨rfl, rfl, rfl, by simp, fun k _ hk => setRow_other W g k _ (fun e => hk (by rw [e]))⟩⟩
      rw [← hlen]
      refine C_prefix (setRow_heap W g cur _ e _ hg) ?_ (by omega)
      rw [htake, hnapp, hlen]
      simp only [List.append_assoc]
      rw [← List.append_assoc]
      exact List.take_left' (by rw [List.length_append, hnl, hxl])
    · have holds : ∀ j u, (nums .u8 xs)[j]? = some u → W.cell? ((⟨g, 0, none⟩ : Addr).add j) = some u := fun j u hj => by
        have hj' : j < xs.length := by have := (List.getElem?_eq_some_iff.1 hj).1; omega
        rw [show (⟨g, 0, none⟩ : Addr).add j = ⟨g, j, none⟩ from add_plain _ _, cell_of_row W g j cur e _ hg]
        have h := congrArg (·[j]?) htake
        simp only [List.getElem?_take, if_pos hj'] at h
        rw [← Array.getElem?_toList, h]
        exact hj
      have hrun := run_append_grow (P := P) W t ty e i (.int .u8 0) ht hi hz0 ⟨g, 0, none⟩ xs.length cap (nums .u8 xs) (by rw [hz1, Nat.mul_one]; exact hxl) holds ad ys.length c (nums .u8 ys) (by rw [hz1, Nat.mul_one]; exact hnl) hnews (by omega) (by omega) (growslice_fits (by omega) (by rw [hz2]; omega))
      refine ⟨_, _, _, hrun, grownCap_ge _ _ _ _, ?_, ⟨rfl, rfl, rfl, by simp, fun k hk _ => heap_alloc_old W.drew _ hk⟩⟩
      rw [← hlen]
      refine C_prefix (heap_alloc_new W.drew _) ?_ (by omega)
      simp only [Array.toList_append, List.append_assoc]
      rw [← List.append_assoc, hnapp, hlen]
      exact List.take_left' (by rw [List.length_append, hnl, hxl])
theorem wpList_append_marked {P : Program} {ops : Array Oper} {rest : List Oper} {o : Oper} {a : Act} {w0 W : World} {Q : Exit → Act → World → Prop} (base : Nat) (hgd : o.guard = none) (s x : Operand) (t e : TypeId)
    (ho : o.op = .call { callee := .builtin .append, args := #[s, x], argTypes := #[t, t] })
    (ht : P.underlying t = some (.slice e)) (hinfo : (P.info? e).map (fun i => (i.zero, i.size, i.bytes)) = some (some (.int .u8 0), 1, 1)) {g cap n m : Nat} {xs : List Int} {A : Option Addr} {c : Nat} {ys : List Int} (hs : a.eval s = .slice (some ⟨g, 0, none⟩) n cap) (hx : a.eval x = .slice A m c)
    (hm : MB W e g cap xs) (hn : xs.length = n) (hC : (Kd.int .u8).C W A m ys) (hl : n + m ≤ 140737488355328) (HB : Below base w0 W) (hbase : base ≤ W.heap.size) (hgb : base ≤ g)
    (h : ∀ A' c' w1, n + m ≤ c' → (Kd.int .u8).C w1 A' (n + m) (xs ++ ys) → Below base w0 w1 → W.grownBy w1 (some g) → wpList P ops Q rest (a.put o.dst (.slice A' (n + m) c')) w1) :
    wpList P ops Q (o :: rest) a W := by
  subst hn
  have hy : ys.length = m := Kd.C_len hC
  subst hy
  obtain ⟨A', c', w1, hr, h1, h2, h3⟩ := append_marked (P := P) W t o.type e 1 ht hinfo hm (c := c) hC hl
  refine wpList_plain hgd fun K hK => ?_
  unfold Oper.wp execOp
  simp only [ho, resolve, invoke, builtin, Sem.run_bind, Sem.run_pure, Result.andThen_ok, List.map_toArray, List.map_cons, List.map_nil, hs, hx, hr]
  exact hK _ _ (h A' c' w1 h1 h2 (HB.grown h3 hbase (fun k hk => by injection hk with hk; omega)) h3)
end Go.Proofs.YtgadhmoifhoilaaDoor.Kit
