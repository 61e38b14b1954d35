/-
  Small words for the walks: rows that a call reads, cuts, or makes; blocks behind allocations.
-/
import Derived.Test.YtgadhmoifhoilaaDoorProg
import Derived.Below
import Derived.WalkKit
import Derived.KernelRfl
import Derived.Lib.Hide
import Derived.Test.YtgadhmoifhoilaaDoorWWords
namespace Go.Proofs.YtgadhmoifhoilaaDoor.Kit
open Go.RowKit Go.Proofs.YtgadhmoifhoilaaDoorW.PrintWords Go.Proofs.YtgadhmoifhoilaaDoorW.PrintLast
theorem info5 : (Tryd.prog.info? 5).map (fun i => (i.zero, i.size, i.bytes)) = some (some (.int .u8 0), 1, 1) := by kernel_rfl
theorem cut_low {P : Program} (t e : TypeId) (kl : IntKind) {i : TypeInfo} (ht : P.underlying t = some (.slice e)) (hi : P.info? e = some i) (hsz : i.size = 1) (A : Option Addr) (c : Nat) (xs : List Int) (lo : Int) (n : Nat) (h0 : lo = (n : Int)) (h1 : n ≤ xs.length) (hc : xs.length ≤ c) {w : World} {k : IntKind} (hC : (Kd.int k).C w A xs.length xs) :
  ∃ A' : Option Addr, (∀ W : World, (Instr.slice t (.slice A xs.length c) (some (.int kl lo)) none none).run P W = .ok (.slice A' (xs.drop n).length (c - n)) W) ∧ (Kd.int k).C w A' (xs.drop n).length (xs.drop n) := by
 subst h0
 obtain ⟨A', h2, h3⟩ := print_cut_of (P := P) (Value.int k) 0 t e kl ht hi hsz A xs.length c n h1
 refine ⟨A', fun W => by rw [List.length_drop]; exact h2 W, ?_⟩
 have h4 := h3 w xs hc (Kd.reads_of_C hC)
 rw [← List.length_drop] at h4
 exact Kd.C_of_reads (h1 := fun _ => rfl) h4
theorem C_turned {w : World} {k : IntKind} {A : Option Addr} {xs : List Int} {p : Addr} {A0 : Option Addr} {n0 c0 : Nat} (hp : w.cell? p = some (.slice A0 n0 c0)) (v : Value) (hC : (Kd.int k).C w A xs.length xs) :
  (Kd.int k).C (w.setCell p v) A xs.length xs := by
 have h := Kd.reads_of_C (enc := Value.int k) (d := (0 : Int)) (h1 := fun _ => rfl) hC
 refine Kd.C_of_reads (enc := Value.int k) (d := (0 : Int)) (h1 := fun _ => rfl) ⟨h.1, h.2.1, fun hn => ?_⟩
 obtain ⟨ad, e, hc⟩ := h.2.2 hn
 refine ⟨ad, e, fun j hj => ?_⟩
 have hj' := hc j hj
 rw [World.cell?_setCell_other]
 ·exact hj'
 ·intro e2
  rw [← e2, hp] at hj'
  simp at hj'
theorem C_lit (w : World) (e : TypeId) (k : IntKind) (xs : List Int) (h : xs.length ≤ 9223372036854775807) :
  (Kd.int k).C (w.alloc (.cells (nums k xs).toArray e)) (some ⟨w.heap.size, 0, none⟩) xs.length xs := by
 refine Kd.C_of_reads (enc := Value.int k) (d := (0 : Int)) (h1 := fun _ => rfl) ⟨rfl, h, fun _ => ⟨_, rfl, fun j hj => ?_⟩⟩
 rw [show (⟨w.heap.size, 0, none⟩ : Addr).add j = ⟨w.heap.size, j, none⟩ from add_plain _ _, blk_cell (blk_new _ _) j]
 simp [nums, hj, List.getD_eq_getElem?_getD]
theorem C_lit' (w : World) (e : TypeId) (k : IntKind) (xs : List Int) (h : xs.length ≤ 9223372036854775807) (g : Nat) (hg : w.heap.size = g) :
  (Kd.int k).C (w.alloc (.cells (nums k xs).toArray e)) (some ⟨g, 0, none⟩) xs.length xs := hg ▸ C_lit w e k xs h
theorem C_block {w : World} {g : Nat} {cs : Array Value} {t : TypeId} {k : IntKind} {xs : List Int} (hb : w.heap[g]? = some (.cells cs t (0, 0))) (hcs : cs = (nums k xs).toArray) (h : xs.length ≤ 9223372036854775807) :
  (Kd.int k).C w (some ⟨g, 0, none⟩) xs.length xs := by
 refine Kd.C_of_reads (enc := Value.int k) (d := (0 : Int)) (h1 := fun _ => rfl) ⟨rfl, h, fun _ => ⟨_, rfl, fun j hj => ?_⟩⟩
 rw [show (⟨g, 0, none⟩ : Addr).add j = ⟨g, j, none⟩ from add_plain _ _, blk_cell hb j, hcs]
 simp [nums, hj, List.getD_eq_getElem?_getD]
theorem own_new (W : World) (base : Nat) (e : TypeId) (k : IntKind) (xs : List Int) (hb : base ≤ W.heap.size) (hm : xs.length ≤ 9223372036854775807) :
  (Kd.int k).R e (W.alloc (.cells (nums k xs).toArray e)) base (fun _ => True) (.slice (some ⟨W.heap.size, 0, none⟩) xs.length xs.length) xs :=
 Kd.R_of_own (enc := Value.int k) (h1 := fun _ => rfl) (own_lit W base e k xs hb hm) (fun _ _ => trivial)
theorem own_new' (W : World) (base : Nat) (e : TypeId) (k : IntKind) (xs : List Int) (hb : base ≤ W.heap.size) (hm : xs.length ≤ 9223372036854775807) (g : Nat) (hg : W.heap.size = g) :
  (Kd.int k).R e (W.alloc (.cells (nums k xs).toArray e)) base (fun _ => True) (.slice (some ⟨g, 0, none⟩) xs.length xs.length) xs := hg ▸ own_new W base e k xs hb hm
theorem blk_new2 (w : World) (o1 o2 : Obj) : ((w.alloc o1).alloc o2).heap[w.heap.size + 1]? = some o2 := by
 have := blk_new (w.alloc o1) o2
 rwa [World.size_alloc] at this
theorem blk_new3 (w : World) (o1 o2 o3 : Obj) : (((w.alloc o1).alloc o2).alloc o3).heap[w.heap.size]? = some o1 ∧ (((w.alloc o1).alloc o2).alloc o3).heap[w.heap.size + 1]? = some o2 ∧ (((w.alloc o1).alloc o2).alloc o3).heap[w.heap.size + 2]? = some o3 := by
 have h2 := blk_new (w.alloc o1) o2
 have h3 := blk_new ((w.alloc o1).alloc o2) o3
 rw [World.size_alloc] at h2 h3
 rw [World.size_alloc] at h3
 exact ⟨blk_alloc (blk_alloc (blk_new _ _) _) _, blk_alloc h2 _, h3⟩
theorem below2 (w : World) (o1 o2 : Obj) : Below w.heap.size w ((w.alloc o1).alloc o2) := below_alloc (below_alloc (Below.refl _ _) _) _
theorem wrapS {x : Int} (h0 : -1000000000000000000 ≤ x) (h1 : x ≤ 1000000000000000000) : wrap64 x = x := by
 unfold wrap64; omega
theorem wrapI {x : Int} (h0 : -1000000000000000000 ≤ x) (h1 : x ≤ 1000000000000000000) : IntKind.i64.wrap x = x := by
 rw [IntKind.wrap_i64]; omega
def isB (l : List Int) : Bool := l.all fun x => decide (0 ≤ x) && decide (x ≤ 255)
theorem rd_byte {l : List Int} (h : isB l = true) (i : Int) : 0 ≤ rd l i ∧ rd l i ≤ 255 := by
 unfold isB at h
 unfold rd
 rw [List.getD_eq_getElem?_getD]
 rcases Nat.lt_or_ge i.toNat l.length with hi | hi
 ·rw [List.getElem?_eq_getElem hi]
  have := List.all_eq_true.1 h _ (List.getElem_mem hi)
  simpa using this
 ·rw [List.getElem?_eq_none hi]
  simp
theorem isB_drop {l : List Int} (h : isB l = true) (n : Nat) : isB (l.drop n) = true := by
 unfold isB at h ⊢
 rw [List.all_eq_true] at h ⊢
 exact fun x hx => h x (List.mem_of_mem_drop hx)
theorem isB_take {l : List Int} (h : isB l = true) (n : Nat) : isB (l.take n) = true := by
 unfold isB at h ⊢
 rw [List.all_eq_true] at h ⊢
 exact fun x hx => h x (List.mem_of_mem_take hx)
theorem isB_append {a b : List Int} (ha : isB a = true) (hb : isB b = true) : isB (a ++ b) = true := by
 unfold isB at *
 rw [List.all_append, ha, hb]; rfl
theorem isB_of_wf {l : List Int} (h : ∀ x ∈ l, (Lit.int .u8 x).wf = true) : isB l = true := by
 unfold isB
 rw [List.all_eq_true]
 intro x hx
 have := h x hx
 simp [Lit.wf, IntKind.min, IntKind.max, IntKind.signed, IntKind.bits] at this
 simp
 omega
end Go.Proofs.YtgadhmoifhoilaaDoor.Kit
