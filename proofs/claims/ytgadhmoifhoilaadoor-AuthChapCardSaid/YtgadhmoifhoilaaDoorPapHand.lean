/-
  What pap's readers do: a short text is read, or fails; a request and an answer are read as plain functions of lists tell (data of bytes alone).
-/
import Derived.Test.YtgadhmoifhoilaaDoorProg
import Derived.Below
import Derived.WalkKit
import Derived.KernelRfl
import Derived.BigQuiet
import Derived.Deep.QuietTactic
import Derived.Lib.Hide
import Derived.Test.YtgadhmoifhoilaaDoorWWords
namespace Go.Proofs.YtgadhmoifhoilaaDoor.PapHand
open Go.RowKit Go.Proofs.YtgadhmoifhoilaaDoorW.PrintWords Go.Proofs.YtgadhmoifhoilaaDoorW.PrintLast
theorem info5 : (Tryd.prog.info? 5).map (fun i => (i.zero, i.size, i.bytes)) = some (some (.int .u8 0), 1, 1) := by kernel_rfl
theorem cut_low {P : Program} (t e : TypeId) (kl : IntKind) {i : TypeInfo} (ht : P.underlying t = some (.slice e)) (hi : P.info? e = some i) (hsz : i.size = 1) (A : Option Addr) (c : Nat) (xs : List Int) (lo : Int) (n : Nat) (h0 : lo = (n : Int)) (h1 : n ≤ xs.length) (hc : xs.length ≤ c) {w : World} {k : IntKind} (hC : (Kd.int k).C w A xs.length xs) :
    ∃ A' : Option Addr, (∀ W : World, (Instr.slice t (.slice A xs.length c) (some (.int kl lo)) none none).run P W = .ok (.slice A' (xs.drop n).length (c - n)) W) ∧ (Kd.int k).C w A' (xs.drop n).length (xs.drop n) := by
  subst h0
  obtain ⟨A', h2, h3⟩ := print_cut_of (P := P) (Value.int k) 0 t e kl ht hi hsz A xs.length c n h1
  refine ⟨A', fun W => by rw [List.length_drop]; exact h2 W, ?_⟩
  have h4 := h3 w xs hc (Kd.reads_of_C hC)
  rw [← List.length_drop] at h4
  exact Kd.C_of_reads (h1 := fun _ => rfl) h4
theorem C_turned {w : World} {k : IntKind} {A : Option Addr} {xs : List Int} {p : Addr} {A0 : Option Addr} {n0 c0 : Nat} (hp : w.cell? p = some (.slice A0 n0 c0)) (v : Value) (hC : (Kd.int k).C w A xs.length xs) :
    (Kd.int k).C (w.setCell p v) A xs.length xs := by
  have h := Kd.reads_of_C (enc := Value.int k) (d := (0 : Int)) (h1 := fun _ => rfl) hC
  refine Kd.C_of_reads (enc := Value.int k) (d := (0 : Int)) (h1 := fun _ => rfl) ⟨h.1, h.2.1, fun hn => ?_⟩
  obtain ⟨ad, e, hc⟩ := h.2.2 hn
  refine ⟨ad, e, fun j hj => ?_⟩
  have hj' := hc j hj
  rw [World.cell?_setCell_other]
  · exact hj'
  · intro e2
    rw [← e2, hp] at hj'
    simp at hj'
theorem text_nil (g c : Nat) (A : Option Addr) (w : World)
    (hb : w.heap[g]? = some (.cells #[.slice A 0 c] 117 (0, 0))) :
    Calls Tryd.prog 70 #[.pointer (some ⟨g, 0, none⟩)] w fun e w' => e = .returned (.tuple #[.string ⟨#[]⟩, .int .i64 2]) ∧ w = w' := by
  have hcell : w.cell? ⟨g, 0, none⟩ = some (.slice A 0 c) := (blk_cell hb 0).trans rfl
  clear hb
  go_enter Tryd.func70, Tryd.ntmps70
  go_wp2
  go_ret2
  exact ⟨rfl, rfl⟩
theorem text_short (g c : Nat) (A : Option Addr) (xs : List Int) (w : World)
    (hb : w.heap[g]? = some (.cells #[.slice A xs.length c] 117 (0, 0)))
    (hC : (Kd.int .u8).C w A xs.length xs) (h0 : 0 < xs.length) (hr0 : 0 ≤ rd xs 0) (hr1 : rd xs 0 ≤ 255) (hs : (xs.length : Int) ≤ rd xs 0) :
    Calls Tryd.prog 70 #[.pointer (some ⟨g, 0, none⟩)] w fun e w' => e = .returned (.tuple #[.string ⟨#[]⟩, .int .i64 2]) ∧ w = w' := by
  have hcell : w.cell? ⟨g, 0, none⟩ = some (.slice A xs.length c) := (blk_cell hb 0).trans rfl
  clear hb
  obtain ⟨ad, rfl, hx0⟩ := Kd.at_int hC 0 (by omega) (by omega)
  have hx : w.cell? ad = some (.int .u8 (rd xs 0)) := by simpa [Addr.add] using hx0
  clear hx0
  have he : ((xs.length : Int) == 0) = false := beq_eq_false_iff_ne.mpr (by omega)
  have hl : decide ((xs.length : Int) - 1 < rd xs 0) = true := decide_eq_true (by omega)
  clear hC
  go_enter Tryd.func70, Tryd.ntmps70
  go_wp2
  go_ret2
  exact ⟨rfl, rfl⟩
set_option maxRecDepth 100000 in
theorem text_ok (g c k : Nat) (A : Option Addr) (xs : List Int) (w : World)
    (hb : w.heap[g]? = some (.cells #[.slice A xs.length c] 117 (0, 0)))
    (hC : (Kd.int .u8).C w A xs.length xs) (hc : xs.length ≤ c) (h0 : 0 < xs.length) (hr0 : rd xs 0 = (k : Int)) (hr1 : k ≤ 255) (hs : k < xs.length) :
    Calls Tryd.prog 70 #[.pointer (some ⟨g, 0, none⟩)] w fun e w' => ∃ A' : Option Addr, e = .returned (.tuple #[.string (strOfNums ((xs.take (1 + k)).drop 1)), .int .i64 0]) ∧ (Kd.int .u8).C w A' (xs.drop (1 + k)).length (xs.drop (1 + k)) ∧
      w' = w.setCell ⟨g, 0, none⟩ (.slice A' (xs.drop (1 + k)).length (c - (1 + k))) := by
  have hcell : w.cell? ⟨g, 0, none⟩ = some (.slice A xs.length c) := (blk_cell hb 0).trans rfl
  have hfr : w.frozen? ⟨g, 0, none⟩ = false := blk_frozen hb 0
  obtain ⟨i0, hi0, _, hsz0, _⟩ := info_parts info5
  clear hb
  obtain ⟨ad, rfl, hx0⟩ := Kd.at_int hC 0 (by omega) (by omega)
  have hx : w.cell? ad = some (.int .u8 (k : Int)) := by rw [← hr0]; simpa [Addr.add] using hx0
  clear hx0 hr0
  have he : ((xs.length : Int) == 0) = false := beq_eq_false_iff_ne.mpr (by omega)
  have hl : decide ((xs.length : Int) - 1 < (k : Int)) = false := decide_eq_false (by omega)
  obtain ⟨A1, hrun1, hC1⟩ := cut_low 117 5 .i64 Tryd.underlying117 hi0 hsz0 (some ad) c xs (1 + (k : Int)) (1 + k) (by omega) (by omega) hc hC
  obtain ⟨A2, hrun2, hC2, _⟩ := print_mid_of (P := Tryd.prog) (Value.int .u8) 0 117 5 .i64 .i64 Tryd.underlying117 hi0 hsz0 (some ad) c xs 1 (1 + (k : Int)) (by omega) (by omega) (by omega) hc
  have hC3 := C_turned (p := ⟨g, 0, none⟩) hcell (.slice A1 (xs.drop (1 + k)).length (c - (1 + k))) (Kd.C_of_reads (h1 := fun _ => rfl) (hC2 _ (Kd.reads_of_C hC)))
  rw [show (1 + (k : Int)).toNat = 1 + k from by omega, show (1 : Int).toNat = 1 from rfl] at hrun2 hC3
  generalize hys : (xs.take (1 + k)).drop 1 = ys at *
  generalize hzs : xs.drop (1 + k) = zs at *
  have hcv := Kd.C_string (P := Tryd.prog) (A := A2) (c := c - 1) Tryd.underlying117 Tryd.underlying5 Tryd.underlying9 hC3
  have hml : xs.length ≤ 9223372036854775807 := hC.2.1
  have hC1' := Aside0.mk hC1
  clear hi0 hsz0 hC2 hC3 hC hys hzs hC1
  go_enter Tryd.func70, Tryd.ntmps70
  go_wp2
  go_ret2
  exact ⟨A1, rfl, hC1'.out, rfl⟩
theorem end_ok (g c : Nat) (A : Option Addr) (w : World) (hb : w.heap[g]? = some (.cells #[.slice A 0 c] 117 (0, 0))) :
    Calls Tryd.prog 71 #[.pointer (some ⟨g, 0, none⟩)] w fun e w' => e = .returned (.int .i64 0) ∧ w = w' := by
  have hcell : w.cell? ⟨g, 0, none⟩ = some (.slice A 0 c) := (blk_cell hb 0).trans rfl
  clear hb
  go_enter Tryd.func71, Tryd.ntmps71
  go_wp2
  go_ret
  exact ⟨rfl, rfl⟩
theorem end_bad (g c n : Nat) (A : Option Addr) (w : World) (hb : w.heap[g]? = some (.cells #[.slice A n c] 117 (0, 0))) (hn : 0 < n) :
    Calls Tryd.prog 71 #[.pointer (some ⟨g, 0, none⟩)] w fun e w' => e = .returned (.int .i64 3) ∧ w = w' := by
  have hcell : w.cell? ⟨g, 0, none⟩ = some (.slice A n c) := (blk_cell hb 0).trans rfl
  clear hb
  go_enter Tryd.func71, Tryd.ntmps71
  go_wp2
  go_ret
  exact ⟨rfl, rfl⟩
def isB (l : List Int) : Bool := l.all fun x => decide (0 ≤ x) && decide (x ≤ 255)
def shorty (l : List Int) : Bool := decide (l.length = 0) || decide ((l.length : Int) ≤ rd l 0)
def headT (l : List Int) : ByteArray := strOfNums ((l.take (1 + (rd l 0).toNat)).drop 1)
def restT (l : List Int) : List Int := l.drop (1 + (rd l 0).toNat)
def pap_ReadSay.f (l : List Int) : Option (ByteArray × Int) :=
  if isB l = true then
    (if shorty l = true then some (⟨#[]⟩, 2) else if (restT l).length = 0 then some (headT l, 0) else some (⟨#[]⟩, 3))
  else none
def pap_ReadAsk.f (l : List Int) : Option (ByteArray × ByteArray × Int) :=
  if isB l = true then
    (if shorty l = true then some (⟨#[]⟩, ⟨#[]⟩, 2) else if shorty (restT l) = true then some (⟨#[]⟩, ⟨#[]⟩, 2)
     else if (restT (restT l)).length = 0 then some (headT l, headT (restT l), 0) else some (⟨#[]⟩, ⟨#[]⟩, 3))
  else none
theorem isB_rd {l : List Int} (h : isB l = true) : 0 ≤ rd l 0 ∧ rd l 0 ≤ 255 := by
  unfold isB at h
  cases l with
  | nil => simp [rd]
  | cons a t =>
    simp only [List.all_cons, Bool.and_eq_true, decide_eq_true_eq] at h
    have e : rd (a :: t) 0 = a := by simp [rd]
    rw [e]; exact h.1
theorem isB_drop {l : List Int} (h : isB l = true) (n : Nat) : isB (l.drop n) = true := by
  unfold isB at h ⊢
  rw [List.all_eq_true] at h ⊢
  exact fun x hx => h x (List.mem_of_mem_drop hx)
theorem text_bad (g c : Nat) (A : Option Addr) (xs : List Int) (w : World)
    (hb : w.heap[g]? = some (.cells #[.slice A xs.length c] 117 (0, 0)))
    (hC : (Kd.int .u8).C w A xs.length xs) (hB : isB xs = true) (hs : shorty xs = true) :
    Calls Tryd.prog 70 #[.pointer (some ⟨g, 0, none⟩)] w fun e w' => e = .returned (.tuple #[.string ⟨#[]⟩, .int .i64 2]) ∧ w = w' := by
  have := isB_rd hB
  simp only [shorty, Bool.or_eq_true, decide_eq_true_eq] at hs
  by_cases h0 : xs.length = 0
  · rw [h0] at hb
    exact text_nil g c A w hb
  · exact text_short g c A xs w hb hC (by omega) this.1 this.2 (by omega)
theorem text_good (g c : Nat) (A : Option Addr) (xs : List Int) (w : World)
    (hb : w.heap[g]? = some (.cells #[.slice A xs.length c] 117 (0, 0)))
    (hC : (Kd.int .u8).C w A xs.length xs) (hc : xs.length ≤ c) (hB : isB xs = true) (hs : shorty xs = false) :
    Calls Tryd.prog 70 #[.pointer (some ⟨g, 0, none⟩)] w fun e w' => ∃ A' : Option Addr, e = .returned (.tuple #[.string (headT xs), .int .i64 0]) ∧ (Kd.int .u8).C w A' (restT xs).length (restT xs) ∧
      w' = w.setCell ⟨g, 0, none⟩ (.slice A' (restT xs).length (c - (1 + (rd xs 0).toNat))) := by
  have := isB_rd hB
  simp only [shorty, Bool.or_eq_false_iff, decide_eq_false_iff_not] at hs
  exact text_ok g c (rd xs 0).toNat A xs w hb hC hc (by omega) (by omega) (by omega) (by omega)
theorem text_good' (g c : Nat) (A : Option Addr) (xs : List Int) (w : World)
    (hb : w.heap[g]? = some (.cells #[.slice A xs.length c] 117 (0, 0)))
    (hC : (Kd.int .u8).C w A xs.length xs) (hc : xs.length ≤ c) (hB : isB xs = true) (hs : shorty xs = false) :
    Calls Tryd.prog 70 #[.pointer (some ⟨g, 0, none⟩)] w fun e w' => ∃ (A' : Option Addr) (c' : Nat), e = .returned (.tuple #[.string (headT xs), .int .i64 0]) ∧ (Kd.int .u8).C w' A' (restT xs).length (restT xs) ∧ (restT xs).length ≤ c' ∧
      w'.heap[g]? = some (.cells #[.slice A' (restT xs).length c'] 117 (0, 0)) ∧ (∀ B, B ≤ g → Below B w w') := by
  refine (text_good g c A xs w hb hC hc hB hs).mono ?_
  rintro e w' ⟨A', rfl, h1, rfl⟩
  refine ⟨A', _, rfl, C_turned (A0 := A) (n0 := xs.length) (c0 := c) ((blk_cell hb 0).trans rfl) _ h1, ?_, blk_set hb 0 _, fun B hB => ?_⟩
  · unfold restT
    rw [List.length_drop]
    omega
  · exact (Below.refl B w).setCell (p := ⟨g, 0, none⟩) hB _
set_option maxRecDepth 100000 in
theorem pap_ReadSay.calls (A0 : Option Addr) (c0 : Nat) (l0 : List Int) (r1 : ByteArray) (r2 : Int) (w : World) (hr0 : (Kd.int .u8).C w A0 l0.length l0) (hc0 : l0.length ≤ c0) (h : pap_ReadSay.f l0 = some (r1, r2)) :
    Calls Tryd.prog 64 #[.slice A0 l0.length c0] w fun e w' => e = .returned (.tuple #[.string r1, .int .i64 r2]) ∧ Below w.heap.size w w' := by
  unfold pap_ReadSay.f at h
  split at h
  · rename_i hB
    have HR0 := Aside0.mk hr0
    have HB := Aside0.mk hB
    have HC0 := Aside0.mk hc0
    clear hr0 hB hc0
    by_cases hs : shorty l0 = true
    · rw [if_pos hs] at h
      have HS := Aside0.mk hs
      clear hs
      simp only [Option.some.injEq, Prod.mk.injEq] at h
      obtain ⟨rfl, rfl⟩ := h
      go_enter Tryd.func64, Tryd.ntmps64
      go_wp2_with fail
      refine (text_bad w.heap.size c0 A0 l0 _ (blk_new _ _) (Kd.C_below HR0.out (below_alloc (Below.refl _ _) _)) HB.out HS.out).mono ?_
      rintro e w' ⟨rfl, rfl⟩
      go_wp2_with fail
      go_ret2
      exact ⟨rfl, below_alloc (Below.refl _ _) _⟩
    · rw [if_neg hs] at h
      have HS := Aside0.mk (Bool.eq_false_iff.mpr hs)
      clear hs
      have hx : ((restT l0).length = 0 ∧ r1 = headT l0 ∧ r2 = 0) ∨ (0 < (restT l0).length ∧ r1 = ⟨#[]⟩ ∧ r2 = 3) := by
        split at h <;> simp only [Option.some.injEq, Prod.mk.injEq] at h
        · exact .inl ⟨by assumption, h.1.symm, h.2.symm⟩
        · exact .inr ⟨by omega, h.1.symm, h.2.symm⟩
      clear h
      rcases hx with ⟨hx, rfl, rfl⟩ | ⟨hx, rfl, rfl⟩
      all_goals
        have HX := Aside0.mk hx
        clear hx
        go_enter Tryd.func64, Tryd.ntmps64
        go_wp2_with fail
        refine (text_good' w.heap.size c0 A0 l0 _ (blk_new _ _) (Kd.C_below HR0.out (below_alloc (Below.refl _ _) _)) HC0.out HB.out HS.out).mono ?_
        rintro e w' ⟨A1, c1, rfl, h1, h2, h3, h4⟩
        have H1 := Aside0.mk h1
        have H3 := Aside0.mk h3
        have H4 := Aside0.mk ((below_alloc (Below.refl w.heap.size w) (.cells #[.slice A0 l0.length c0] 117)).trans (h4 w.heap.size (Nat.le_refl _)))
        clear h1 h2 h3 h4
        go_wp2_with fail
      · refine (end_ok w.heap.size c1 A1 _ (by have := H3.out; rw [HX.out] at this; exact this)).mono ?_
        rintro e w' ⟨rfl, rfl⟩
        go_wp2_with fail
        go_ret2
        exact ⟨rfl, H4.out⟩
      · refine (end_bad w.heap.size c1 _ A1 _ H3.out HX.out).mono ?_
        rintro e w' ⟨rfl, rfl⟩
        go_wp2_with fail
        go_ret2
        exact ⟨rfl, H4.out⟩
  · cases h
theorem blk_new2 (w : World) (o1 o2 : Obj) : ((w.alloc o1).alloc o2).heap[w.heap.size + 1]? = some o2 := by
  have := blk_new (w.alloc o1) o2
  rwa [World.size_alloc] at this
theorem below2 (w : World) (o1 o2 : Obj) : Below w.heap.size w ((w.alloc o1).alloc o2) := below_alloc (below_alloc (Below.refl _ _) _) _
set_option maxRecDepth 100000 in
theorem pap_ReadAsk.calls (A0 : Option Addr) (c0 : Nat) (l0 : List Int) (r1 r2 : ByteArray) (r3 : Int) (w : World) (hr0 : (Kd.int .u8).C w A0 l0.length l0) (hc0 : l0.length ≤ c0) (h : pap_ReadAsk.f l0 = some (r1, r2, r3)) :
    Calls Tryd.prog 63 #[.slice A0 l0.length c0] w fun e w' => e = .returned (.tuple #[.agg #[.string r1, .string r2], .int .i64 r3]) ∧ Below w.heap.size w w' := by
  unfold pap_ReadAsk.f at h
  split at h
  · rename_i hB
    have HR0 := Aside0.mk hr0
    have HB := Aside0.mk hB
    have HC0 := Aside0.mk hc0
    clear hr0 hB hc0
    by_cases hs : shorty l0 = true
    · rw [if_pos hs] at h
      have HS := Aside0.mk hs
      clear hs
      simp only [Option.some.injEq, Prod.mk.injEq] at h
      obtain ⟨rfl, rfl, rfl⟩ := h
      go_enter Tryd.func63, Tryd.ntmps63
      go_wp2_with fail
      refine (text_bad (w.heap.size + 1) c0 A0 l0 _ (blk_new2 _ _ _) (Kd.C_below HR0.out (below2 _ _ _)) HB.out HS.out).mono ?_
      rintro e w' ⟨rfl, rfl⟩
      go_wp2_with fail
      exact bodyPost_ret (results_ct Tryd.results63 _ _ w.heap.size 99 #[.string ⟨#[]⟩, .string ⟨#[]⟩] (0, 0) _ rfl (blk_alloc (blk_new _ _) _) Tryd.underlying99 rfl (by kernel_rfl)) rfl ⟨rfl, below2 _ _ _⟩
    · rw [if_neg hs] at h
      have HS := Aside0.mk (Bool.eq_false_iff.mpr hs)
      clear hs
      by_cases hs2 : shorty (restT l0) = true
      · rw [if_pos hs2] at h
        have HS2 := Aside0.mk hs2
        clear hs2
        simp only [Option.some.injEq, Prod.mk.injEq] at h
        obtain ⟨rfl, rfl, rfl⟩ := h
        go_enter Tryd.func63, Tryd.ntmps63
        go_wp2_with fail
        refine (text_good' (w.heap.size + 1) c0 A0 l0 _ (blk_new2 _ _ _) (Kd.C_below HR0.out (below2 _ _ _)) HC0.out HB.out HS.out).mono ?_
        rintro e w3 ⟨A1, c1, rfl, h1, h2, h3, h4⟩
        have H1 := Aside0.mk h1
        have H3 := Aside0.mk h3
        have H2 := Aside0.mk h2
        have H4 := Aside0.mk ((below2 w _ _).trans (h4 w.heap.size (by omega)))
        have H5 := Aside0.mk (show w3.heap[w.heap.size]? = some (.cells #[.string ⟨#[]⟩, .string ⟨#[]⟩] 99 (0, 0)) from ((h4 (w.heap.size + 1) (Nat.le_refl _)).block w.heap.size (by omega)).trans (blk_alloc (blk_new _ _) _))
        clear h1 h2 h3 h4
        go_wp2_with fail
        refine (text_bad (w.heap.size + 1) c1 A1 (restT l0) _ H3.out H1.out (isB_drop HB.out _) HS2.out).mono ?_
        rintro e w' ⟨rfl, rfl⟩
        have hc0 := (blk_cell H5.out 0).trans rfl
        have hc1 := (blk_cell H5.out 1).trans rfl
        have hf0 := blk_frozen H5.out 0
        have hf1 := blk_frozen H5.out 1
        go_wp2_with fail
        exact bodyPost_ret (results_ct Tryd.results63 _ _ w.heap.size 99 #[.string ⟨#[]⟩, .string ⟨#[]⟩] (0, 0) _ rfl (blk_set (blk_set H5.out 0 _) 1 _) Tryd.underlying99 rfl (by kernel_rfl)) rfl ⟨rfl, (H4.out.setCell (p := ⟨w.heap.size, 0, none⟩) (Nat.le_refl _) _).setCell (p := ⟨w.heap.size, 1, none⟩) (Nat.le_refl _) _⟩
      · rw [if_neg hs2] at h
        have HS2 := Aside0.mk (Bool.eq_false_iff.mpr hs2)
        clear hs2
        have hx : ((restT (restT l0)).length = 0 ∧ r1 = headT l0 ∧ r2 = headT (restT l0) ∧ r3 = 0) ∨ (0 < (restT (restT l0)).length ∧ r1 = ⟨#[]⟩ ∧ r2 = ⟨#[]⟩ ∧ r3 = 3) := by
          split at h <;> simp only [Option.some.injEq, Prod.mk.injEq] at h
          · exact .inl ⟨by assumption, h.1.symm, h.2.1.symm, h.2.2.symm⟩
          · exact .inr ⟨by omega, h.1.symm, h.2.1.symm, h.2.2.symm⟩
        clear h
        rcases hx with ⟨hx, rfl, rfl, rfl⟩ | ⟨hx, rfl, rfl, rfl⟩
        all_goals
          have HX := Aside0.mk hx
          clear hx
          go_enter Tryd.func63, Tryd.ntmps63
          go_wp2_with fail
          refine (text_good' (w.heap.size + 1) c0 A0 l0 _ (blk_new2 _ _ _) (Kd.C_below HR0.out (below2 _ _ _)) HC0.out HB.out HS.out).mono ?_
          rintro e w3 ⟨A1, c1, rfl, h1, h2, h3, h4⟩
          have H1 := Aside0.mk h1
          have H3 := Aside0.mk h3
          have H2 := Aside0.mk h2
          have H4 := Aside0.mk ((below2 w _ _).trans (h4 w.heap.size (by omega)))
          have H5 := Aside0.mk (show w3.heap[w.heap.size]? = some (.cells #[.string ⟨#[]⟩, .string ⟨#[]⟩] 99 (0, 0)) from ((h4 (w.heap.size + 1) (Nat.le_refl _)).block w.heap.size (by omega)).trans (blk_alloc (blk_new _ _) _))
          clear h1 h2 h3 h4
          go_wp2_with fail
          refine (text_good' (w.heap.size + 1) c1 A1 (restT l0) _ H3.out H1.out H2.out (isB_drop HB.out _) HS2.out).mono ?_
          rintro e w4 ⟨A2, c2, rfl, h1, h2, h3, h4⟩
          have H4' := H4
          have H5' := H5
          clear H1 H2 H3 H4 H5
          have H3 := Aside0.mk h3
          have H4 := Aside0.mk (H4'.out.trans (h4 w.heap.size (by omega)))
          have H5 := Aside0.mk (show w4.heap[w.heap.size]? = some (.cells #[.string ⟨#[]⟩, .string ⟨#[]⟩] 99 (0, 0)) from ((h4 (w.heap.size + 1) (Nat.le_refl _)).block w.heap.size (by omega)).trans H5'.out)
          clear h1 h2 h3 h4 H4' H5'
          go_wp2_with fail
        · refine (end_ok (w.heap.size + 1) c2 A2 _ (by have := H3.out; rw [HX.out] at this; exact this)).mono ?_
          rintro e w' ⟨rfl, rfl⟩
          have hc0 := (blk_cell H5.out 0).trans rfl
          have hc1 := (blk_cell H5.out 1).trans rfl
          have hf0 := blk_frozen H5.out 0
          have hf1 := blk_frozen H5.out 1
          go_wp2_with fail
          exact bodyPost_ret (results_ct Tryd.results63 _ _ w.heap.size 99 #[.string (headT l0), .string (headT (restT l0))] (0, 0) _ rfl (blk_set (blk_set H5.out 0 _) 1 _) Tryd.underlying99 rfl (by kernel_rfl)) rfl ⟨rfl, (H4.out.setCell (p := ⟨w.heap.size, 0, none⟩) (Nat.le_refl _) _).setCell (p := ⟨w.heap.size, 1, none⟩) (Nat.le_refl _) _⟩
        · refine (end_bad (w.heap.size + 1) c2 _ A2 _ H3.out HX.out).mono ?_
          rintro e w' ⟨rfl, rfl⟩
          have hc0 := (blk_cell H5.out 0).trans rfl
          have hc1 := (blk_cell H5.out 1).trans rfl
          have hf0 := blk_frozen H5.out 0
          have hf1 := blk_frozen H5.out 1
          go_wp2_with fail
          exact bodyPost_ret (results_ct Tryd.results63 _ _ w.heap.size 99 #[.string ⟨#[]⟩, .string ⟨#[]⟩] (0, 0) _ rfl (blk_set (blk_set H5.out 0 _) 1 _) Tryd.underlying99 rfl (by kernel_rfl)) rfl ⟨rfl, (H4.out.setCell (p := ⟨w.heap.size, 0, none⟩) (Nat.le_refl _) _).setCell (p := ⟨w.heap.size, 1, none⟩) (Nat.le_refl _) _⟩
  · cases h
end Go.Proofs.YtgadhmoifhoilaaDoor.PapHand
