/-
  Plain facts about what the printed functions of pap and of its reference answer: what is laid, what is read, and that the one undoes the other.
-/
import Derived.Test.YtglbaeikklkghaaPapAwake
namespace Go.Proofs.Ytglbaeikklkghaa.PapPlain
open Go.RowKit Go.Proofs.YtglbaeikklkghaaW.PrintWords Go.Proofs.YtglbaeikklkghaaW.PrintLast Go.Proofs.Ytglbaeikklkghaa.PapHand Go.Proofs.Ytglbaeikklkghaa.PPapBase

/-! What is laid: of one text, of two; both by the program's own function and by the reference's. -/
def one (s : ByteArray) : List Int := (s.size : Int) :: bytesOf s
theorem wrapS {x : Int} (h0 : -1000000000000000000 ≤ x) (h1 : x ≤ 1000000000000000000) : wrap64 x = x := by
  unfold wrap64; omega
theorem bind_if {α β : Type} (c : Prop) [Decidable c] (a b : Option α) (f : α → Option β) : (if c then a else b).bind f = if c then a.bind f else b.bind f := by
  split <;> rfl

theorem texts_step (k : Nat) (x : List Int) (l : List ByteArray) (i : Nat) (s : ByteArray) (hi : l[i]? = some s) (hs : s.size ≤ 255) (hx : x.length ≤ 1000) (hl : l.length ≤ 100) :
    pap_texts.l0 (k + 1) x l (l.length : Int) (i : Int) = pap_texts.l0 k (x ++ one s) l (l.length : Int) ((i + 1 : Nat) : Int) := by
  have hlt : i < l.length := (List.getElem?_eq_some_iff.1 hi).1
  have hr : rdOf ByteArray.empty l (i : Int) = s := by simp [rdOf, List.getD_eq_getElem?_getD, hi]
  simp only [pap_texts.l0, hr]
  rw [if_pos (by omega), if_pos (by omega), if_pos (by omega), if_neg (by omega), if_pos (by omega)]
  simp only [Option.bind_some]
  rw [if_pos (by simp; omega), wrapS (by omega) (by omega), show ((s.size : Int) % 256) = (s.size : Int) from by omega]
  simp [one]
theorem texts_long (k : Nat) (x : List Int) (l : List ByteArray) (i : Nat) (s : ByteArray) (hi : l[i]? = some s) (hs : 255 < s.size) :
    pap_texts.l0 (k + 1) x l (l.length : Int) (i : Int) = some ([], 4) := by
  have hlt : i < l.length := (List.getElem?_eq_some_iff.1 hi).1
  have hr : rdOf ByteArray.empty l (i : Int) = s := by simp [rdOf, List.getD_eq_getElem?_getD, hi]
  simp only [pap_texts.l0, hr]
  rw [if_pos (by omega), if_pos (by omega), if_pos (by omega), if_pos (by omega)]
theorem texts_done (k : Nat) (x : List Int) (l : List ByteArray) (i : Nat) (hi : i = l.length) :
    pap_texts.l0 (k + 1) x l (l.length : Int) (i : Int) = some (x, 0) := by
  simp only [pap_texts.l0]
  rw [if_neg (by omega)]
theorem ref_step (k : Nat) (x : List Int) (l : List ByteArray) (i : Nat) (s : ByteArray) (hi : l[i]? = some s) (hs : s.size ≤ 255) (hx : x.length ≤ 1000) (hl : l.length ≤ 100) :
    umpireref16_Texts.l0 (k + 1) l x (i : Int) = umpireref16_Texts.l0 k l (x ++ one s) ((i + 1 : Nat) : Int) := by
  have hlt : i < l.length := (List.getElem?_eq_some_iff.1 hi).1
  have hr : rdOf ByteArray.empty l (i : Int) = s := by simp [rdOf, List.getD_eq_getElem?_getD, hi]
  simp only [umpireref16_Texts.l0, hr]
  rw [if_pos (by omega), if_pos (by omega), if_neg (by omega), if_pos (by omega)]
  simp only [Option.bind_some]
  rw [if_pos (by simp; omega), wrapS (by omega) (by omega), show ((s.size : Int) % 256) = (s.size : Int) from by omega]
  simp [one]
theorem ref_long (k : Nat) (x : List Int) (l : List ByteArray) (i : Nat) (s : ByteArray) (hi : l[i]? = some s) (hs : 255 < s.size) :
    umpireref16_Texts.l0 (k + 1) l x (i : Int) = some ([], false) := by
  have hlt : i < l.length := (List.getElem?_eq_some_iff.1 hi).1
  have hr : rdOf ByteArray.empty l (i : Int) = s := by simp [rdOf, List.getD_eq_getElem?_getD, hi]
  simp only [umpireref16_Texts.l0, hr]
  rw [if_pos (by omega), if_pos (by omega), if_pos (by omega)]
theorem ref_done (k : Nat) (x : List Int) (l : List ByteArray) (i : Nat) (hi : i = l.length) :
    umpireref16_Texts.l0 (k + 1) l x (i : Int) = some (x, true) := by
  simp only [umpireref16_Texts.l0]
  rw [if_neg (by omega)]

def fits1 (s : ByteArray) : Bool := decide (s.size ≤ 255)
def fits2 (a b : ByteArray) : Bool := fits1 a && fits1 b
theorem one_length (s : ByteArray) : (one s).length = s.size + 1 := by simp [one, bytesOf_length]
theorem say_put (k : Nat) (s : ByteArray) : pap_PutSay.f (k + 2) s = some (if fits1 s = true then (one s, 0) else ([], 4)) := by
  unfold pap_PutSay.f pap_texts.f
  by_cases h : s.size ≤ 255
  · rw [show (0 : Int) = ((0 : Nat) : Int) from rfl, texts_step (k + 1) [] [s] 0 s rfl h (by simp) (by simp), texts_done _ _ _ _ (by simp)]
    simp [fits1, h]
  · rw [show (0 : Int) = ((0 : Nat) : Int) from rfl, texts_long (k + 1) [] [s] 0 s rfl (by omega)]
    simp [fits1, h]
theorem ask_put (k : Nat) (a b : ByteArray) : pap_PutAsk.f (k + 3) a b = some (if fits2 a b = true then (one a ++ one b, 0) else ([], 4)) := by
  unfold pap_PutAsk.f pap_texts.f
  by_cases h : a.size ≤ 255
  · have e : pap_texts.l0 (k + 3) [] [a, b] (([a, b] : List ByteArray).length : Int) 0 = pap_texts.l0 (k + 2) ([] ++ one a) [a, b] (([a, b] : List ByteArray).length : Int) ((0 + 1 : Nat) : Int) := texts_step (k + 2) [] [a, b] 0 a rfl h (by simp) (by simp)
    rw [e]
    by_cases h2 : b.size ≤ 255
    · rw [texts_step (k + 1) _ [a, b] (0 + 1) b rfl h2 (by simp [one_length]; omega) (by simp), texts_done _ _ _ _ (by simp)]
      simp [fits1, fits2, h, h2]
    · rw [texts_long (k + 1) _ [a, b] (0 + 1) b rfl (by omega)]
      simp [fits1, fits2, h2]
  · have e : pap_texts.l0 (k + 3) [] [a, b] (([a, b] : List ByteArray).length : Int) 0 = some ([], 4) := texts_long (k + 2) [] [a, b] 0 a rfl (by omega)
    rw [e]
    simp [fits1, fits2, h]
theorem ref_one (k : Nat) (s : ByteArray) : umpireref16_Texts.f (k + 2) [s] = some (if fits1 s = true then (one s, true) else ([], false)) := by
  unfold umpireref16_Texts.f
  by_cases h : s.size ≤ 255
  · have e : umpireref16_Texts.l0 (k + 2) [s] [] 0 = umpireref16_Texts.l0 (k + 1) [s] ([] ++ one s) ((0 + 1 : Nat) : Int) := ref_step (k + 1) [] [s] 0 s rfl h (by simp) (by simp)
    rw [e, ref_done _ _ _ _ (by simp)]
    simp [fits1, h]
  · have e : umpireref16_Texts.l0 (k + 2) [s] [] 0 = some ([], false) := ref_long (k + 1) [] [s] 0 s rfl (by omega)
    rw [e]
    simp [fits1, h]
theorem ref_two (k : Nat) (a b : ByteArray) : umpireref16_Texts.f (k + 3) [a, b] = some (if fits2 a b = true then (one a ++ one b, true) else ([], false)) := by
  unfold umpireref16_Texts.f
  by_cases h : a.size ≤ 255
  · have e : umpireref16_Texts.l0 (k + 3) [a, b] [] 0 = umpireref16_Texts.l0 (k + 2) [a, b] ([] ++ one a) ((0 + 1 : Nat) : Int) := ref_step (k + 2) [] [a, b] 0 a rfl h (by simp) (by simp)
    rw [e]
    by_cases h2 : b.size ≤ 255
    · rw [ref_step (k + 1) _ [a, b] (0 + 1) b rfl h2 (by simp [one_length]; omega) (by simp), ref_done _ _ _ _ (by simp)]
      simp [fits1, fits2, h, h2]
    · rw [ref_long (k + 1) _ [a, b] (0 + 1) b rfl (by omega)]
      simp [fits1, fits2, h2]
  · have e : umpireref16_Texts.l0 (k + 3) [a, b] [] 0 = some ([], false) := ref_long (k + 2) [] [a, b] 0 a rfl (by omega)
    rw [e]
    simp [fits1, fits2, h]

/-! What is read. -/
theorem rd_drop (l : List Int) (at_ : Nat) : rd (l.drop at_) 0 = rd l (at_ : Int) := by
  simp [rd, List.getD_eq_getElem?_getD]
theorem rd_byte {l : List Int} (h : isB l = true) (i : Int) : 0 ≤ rd l i ∧ rd l i ≤ 255 := by
  unfold isB at h
  unfold rd
  rw [List.getD_eq_getElem?_getD]
  rcases Nat.lt_or_ge i.toNat l.length with hi | hi
  · rw [List.getElem?_eq_getElem hi]
    have := List.all_eq_true.1 h _ (List.getElem_mem hi)
    simpa using this
  · rw [List.getElem?_eq_none hi]
    simp
theorem head_drop (l : List Int) (a n : Nat) : ((l.drop a).take (1 + n)).drop 1 = (l.take (a + 1 + n)).drop (a + 1) := by
  rw [List.take_drop, List.drop_drop, Nat.add_assoc]
theorem shorty_drop (l : List Int) (a : Nat) : shorty (l.drop a) = true ↔ l.length ≤ a ∨ (l.length : Int) < (a : Int) + 1 + rd l a := by
  simp only [shorty, Bool.or_eq_true, decide_eq_true_eq, rd_drop, List.length_drop]
  omega
theorem read_step (k : Nat) (l : List Int) (many : Int) (out : List ByteArray) (a : Nat) (i : Int) (hB : isB l = true) (hl : l.length ≤ 1000000) (hi : i < many) (hi0 : 0 ≤ i) (hm : many ≤ 100) (ho : out.length ≤ 100) :
    umpireref16_Read.l0 (k + 1) l many out (a : Int) i = if shorty (l.drop a) = true then some ([], 2) else umpireref16_Read.l0 k l many (out ++ [headT (l.drop a)]) ((a + (1 + (rd (l.drop a) 0).toNat) : Nat) : Int) (i + 1) := by
  have hr := rd_byte hB (a : Int)
  simp only [umpireref16_Read.l0]
  rw [if_pos hi]
  by_cases h1 : (a : Int) ≥ (l.length : Int)
  · rw [if_pos h1, if_pos ((shorty_drop l a).2 (.inl (by omega)))]
  · rw [if_neg h1, if_pos (by omega), if_pos (by omega)]
    have e1 : wrap64 ((a : Int) + 1) = (a : Int) + 1 := wrapS (by omega) (by omega)
    have e2 : wrap64 (rd l (a : Int)) = rd l (a : Int) := wrapS (by omega) (by omega)
    rw [e1, e2, wrapS (by omega) (by omega)]
    by_cases h2 : (a : Int) + 1 + rd l (a : Int) > (l.length : Int)
    · rw [if_pos h2, if_pos ((shorty_drop l a).2 (.inr (by omega)))]
    · rw [if_neg h2, if_pos (by omega), if_pos (by omega), if_pos (by omega), if_pos (by omega), if_neg (fun h => by have := (shorty_drop l a).1 h; omega), wrapS (by omega) (by omega)]
      have e3 : headT (l.drop a) = strOfNums ((l.take ((a : Int) + 1 + rd l (a : Int)).toNat).drop ((a : Int) + 1).toNat) := by
        unfold headT
        rw [rd_drop, head_drop]
        rw [show ((a : Int) + 1 + rd l (a : Int)).toNat = a + 1 + (rd l (a : Int)).toNat from by omega, show ((a : Int) + 1).toNat = a + 1 from by omega]
      rw [e3, rd_drop]
      rw [show ((a : Int) + 1 + rd l (a : Int)) = ((a + (1 + (rd l (a : Int)).toNat) : Nat) : Int) from by omega]
theorem read_end (k : Nat) (l : List Int) (many : Int) (out : List ByteArray) (a : Nat) (i : Int) (hi : many ≤ i) :
    umpireref16_Read.l0 (k + 1) l many out (a : Int) i = if (l.drop a).length = 0 then some (out, 0) else some ([], 3) := by
  simp only [umpireref16_Read.l0, List.length_drop]
  rw [if_neg (by omega)]
  by_cases h : (a : Int) < (l.length : Int)
  · rw [if_pos h, if_neg (by omega)]
  · rw [if_neg h, if_pos (by omega)]
theorem rest_drop (l : List Int) (a : Nat) : restT (l.drop a) = l.drop (a + (1 + (rd (l.drop a) 0).toNat)) := by
  unfold restT
  rw [List.drop_drop]
theorem say_ref (k : Nat) (l : List Int) (hB : isB l = true) (hl : l.length ≤ 1000000) : umpireref16_Say.f (k + 2) l = pap_ReadSay.f l := by
  unfold umpireref16_Say.f umpireref16_Read.f pap_ReadSay.f
  have h0 := read_step (k + 1) l 1 [] 0 0 hB hl (by omega) (by omega) (by omega) (by simp)
  rw [if_pos hB]
  rw [show ((0 : Nat) : Int) = 0 from rfl, List.drop_zero] at h0
  rw [h0]
  by_cases hs : shorty l = true
  · rw [if_pos hs, if_pos hs]; rfl
  · rw [if_neg hs, if_neg hs, read_end _ _ _ _ _ _ (by omega)]
    have e := rest_drop l 0
    rw [List.drop_zero] at e
    rw [← e]
    by_cases hz : (restT l).length = 0
    · rw [if_pos hz, if_pos hz]; rfl
    · rw [if_neg hz, if_neg hz]; rfl
theorem ask_ref (k : Nat) (l : List Int) (hB : isB l = true) (hl : l.length ≤ 1000000) : umpireref16_Ask.f (k + 3) l = pap_ReadAsk.f l := by
  unfold umpireref16_Ask.f umpireref16_Read.f pap_ReadAsk.f
  have h0 := read_step (k + 2) l 2 [] 0 0 hB hl (by omega) (by omega) (by omega) (by simp)
  rw [if_pos hB]
  rw [show ((0 : Nat) : Int) = 0 from rfl, List.drop_zero] at h0
  rw [h0]
  by_cases hs : shorty l = true
  · rw [if_pos hs, if_pos hs]; rfl
  · have e := rest_drop l 0
    rw [List.drop_zero] at e
    rw [if_neg hs, if_neg hs, read_step (k + 1) l 2 _ _ _ hB hl (by omega) (by omega) (by omega) (by simp), ← e]
    by_cases hs2 : shorty (restT l) = true
    · rw [if_pos hs2, if_pos hs2]; rfl
    · have e2 := rest_drop l (0 + (1 + (rd l 0).toNat))
      rw [← e] at e2
      rw [if_neg hs2, if_neg hs2, read_end _ _ _ _ _ _ (by omega), ← e2]
      by_cases hz : (restT (restT l)).length = 0
      · rw [if_pos hz, if_pos hz]; rfl
      · rw [if_neg hz, if_neg hz]; rfl
theorem isB_of_wf {l : List Int} (h : ∀ x ∈ l, (Lit.int .u8 x).wf = true) : isB l = true := by
  unfold isB
  rw [List.all_eq_true]
  intro x hx
  have := h x hx
  simp [Lit.wf, IntKind.min, IntKind.max, IntKind.signed, IntKind.bits] at this
  simp
  omega

/-! What is laid is read as it was, and by no other data. -/
theorem bytes_back (s : ByteArray) : strOfNums (bytesOf s) = s := by
  unfold strOfNums bytesOf
  rw [List.map_map]
  have : (s.data.toList.map ((fun n : Int => UInt8.ofNat n.toNat) ∘ fun b : UInt8 => (b.toNat : Int))) = s.data.toList := by
    rw [List.map_congr_left (g := id) (fun b _ => by simp)]
    simp
  rw [this]
theorem back_bytes {l : List Int} (h : isB l = true) : bytesOf (strOfNums l) = l := by
  unfold bytesOf
  rw [strOfNums_data, List.map_map]
  rw [List.map_congr_left (g := id) (fun x hx => by
    have := List.all_eq_true.1 h x hx
    simp at this ⊢
    omega)]
  simp
theorem isB_bytes (s : ByteArray) : isB (bytesOf s) = true := by
  unfold isB bytesOf
  rw [List.all_eq_true]
  intro x hx
  obtain ⟨b, _, rfl⟩ := List.mem_map.1 hx
  have := b.toNat_lt
  simp
  omega
theorem isB_append {a b : List Int} (ha : isB a = true) (hb : isB b = true) : isB (a ++ b) = true := by
  unfold isB at *
  rw [List.all_append, ha, hb]; rfl
theorem isB_take {l : List Int} (h : isB l = true) (n : Nat) : isB (l.take n) = true := by
  unfold isB at h ⊢
  rw [List.all_eq_true] at h ⊢
  exact fun x hx => h x (List.mem_of_mem_take hx)
theorem isB_one {s : ByteArray} (h : s.size ≤ 255) : isB (one s) = true := by
  have := isB_bytes s
  unfold isB at this ⊢
  unfold one
  rw [List.all_cons, this]
  simp
  omega
theorem rd_one (s : ByteArray) (r : List Int) : rd (one s ++ r) 0 = (s.size : Int) := by simp [rd, one]
theorem one_short (s : ByteArray) (r : List Int) : shorty (one s ++ r) = false := by
  rw [Bool.eq_false_iff]
  intro h
  simp only [shorty, Bool.or_eq_true, decide_eq_true_eq, rd_one, List.length_append, one_length] at h
  omega
theorem one_head (s : ByteArray) (r : List Int) : headT (one s ++ r) = s := by
  unfold headT
  rw [rd_one, show (1 + ((s.size : Int)).toNat) = (one s).length from by rw [one_length]; omega, List.take_left' rfl]
  show strOfNums (bytesOf s) = s
  exact bytes_back s
theorem one_rest (s : ByteArray) (r : List Int) : restT (one s ++ r) = r := by
  unfold restT
  rw [rd_one, show (1 + ((s.size : Int)).toNat) = (one s).length from by rw [one_length]; omega, List.drop_left' rfl]
theorem one_back {l : List Int} (h : isB l = true) (hs : shorty l = false) : one (headT l) ++ restT l = l := by
  have hr := rd_byte h 0
  have hs' := Bool.eq_false_iff.1 hs
  simp only [shorty, ne_eq, Bool.or_eq_true, decide_eq_true_eq] at hs'
  cases l with
  | nil => simp at hs'
  | cons a t =>
    have e : rd (a :: t) 0 = a := by simp [rd]
    rw [e] at hr hs'
    simp only [List.length_cons] at hs'
    have hb : isB t = true := by
      have := h
      unfold isB at this ⊢
      rw [List.all_cons] at this
      simp only [Bool.and_eq_true] at this
      exact this.2
    have hh : headT (a :: t) = strOfNums (t.take a.toNat) := by
      unfold headT
      rw [e, Nat.add_comm, List.take_succ_cons, List.drop_succ_cons, List.drop_zero]
    have hrest : restT (a :: t) = t.drop a.toNat := by
      unfold restT
      rw [e, Nat.add_comm, List.drop_succ_cons]
    rw [hh, hrest]
    unfold one
    rw [back_bytes (isB_take hb _), strOfNums_size, List.length_take]
    rw [List.cons_append, List.take_append_drop]
    congr 1
    omega
theorem head_small {l : List Int} (h : isB l = true) (_hs : shorty l = false) : (headT l).size ≤ 255 := by
  have hr := rd_byte h 0
  unfold headT
  rw [strOfNums_size, List.length_drop, List.length_take]
  omega
theorem ask_back {a b : ByteArray} (h : fits2 a b = true) : pap_ReadAsk.f (one a ++ one b) = some (a, b, 0) := by
  simp only [fits2, fits1, Bool.and_eq_true, decide_eq_true_eq] at h
  unfold pap_ReadAsk.f
  have e := one_short b []
  have e2 := one_head b []
  have e3 := one_rest b []
  rw [List.append_nil] at e e2 e3
  rw [if_pos (isB_append (isB_one h.1) (isB_one h.2)), one_short, one_rest, e, e3, one_head, e2]
  rfl
theorem say_back {s : ByteArray} (h : fits1 s = true) : pap_ReadSay.f (one s) = some (s, 0) := by
  simp only [fits1, decide_eq_true_eq] at h
  unfold pap_ReadSay.f
  have e := one_short s []
  have e2 := one_head s []
  have e3 := one_rest s []
  rw [List.append_nil] at e e2 e3
  rw [if_pos (isB_one h), e, e2, e3]
  rfl
/-- A request that is read: its data are those of its texts. -/
theorem ask_only {l : List Int} (h : isB l = true) : ∃ x y e, pap_ReadAsk.f l = some (x, y, e) ∧ (e = 0 → fits2 x y = true ∧ one x ++ one y = l) := by
  unfold pap_ReadAsk.f
  rw [if_pos h]
  by_cases h1 : shorty l = true
  · rw [if_pos h1]; exact ⟨_, _, _, rfl, fun h => by cases h⟩
  · rw [if_neg h1]
    have h1' := Bool.eq_false_iff.2 h1
    have hr : isB (restT l) = true := isB_drop h _
    by_cases h2 : shorty (restT l) = true
    · rw [if_pos h2]; exact ⟨_, _, _, rfl, fun h => by cases h⟩
    · rw [if_neg h2]
      have h2' := Bool.eq_false_iff.2 h2
      by_cases h3 : (restT (restT l)).length = 0
      · rw [if_pos h3]
        refine ⟨_, _, _, rfl, fun _ => ⟨?_, ?_⟩⟩
        · simp only [fits2, fits1, Bool.and_eq_true, decide_eq_true_eq]
          exact ⟨head_small h h1', head_small hr h2'⟩
        · have a1 := one_back h h1'
          have a2 := one_back hr h2'
          rw [List.eq_nil_of_length_eq_zero h3, List.append_nil] at a2
          rw [a2, a1]
      · rw [if_neg h3]; exact ⟨_, _, _, rfl, fun h => by cases h⟩
theorem say_only {l : List Int} (h : isB l = true) : ∃ x e, pap_ReadSay.f l = some (x, e) ∧ (e = 0 → fits1 x = true ∧ one x = l) := by
  unfold pap_ReadSay.f
  rw [if_pos h]
  by_cases h1 : shorty l = true
  · rw [if_pos h1]; exact ⟨_, _, rfl, fun h => by cases h⟩
  · rw [if_neg h1]
    have h1' := Bool.eq_false_iff.2 h1
    by_cases h3 : (restT l).length = 0
    · rw [if_pos h3]
      refine ⟨_, _, rfl, fun _ => ⟨by simpa [fits1] using head_small h h1', ?_⟩⟩
      have a1 := one_back h h1'
      rwa [List.eq_nil_of_length_eq_zero h3, List.append_nil] at a1
    · rw [if_neg h3]; exact ⟨_, _, rfl, fun h => by cases h⟩
end Go.Proofs.Ytglbaeikklkghaa.PapPlain
