/-
  math.Sin, math.Abs and the reference's sine at the whole numbers 1 to 64: what they answer, reckoned by the model's own floats.
-/
import Derived.Test.YtgadhmoifhoilaaDoorMd5Sin
import Derived.WalkLawsBesides
import Derived.Laws.Externs
import Derived.Lib.Hide
namespace Go.Proofs.YtgadhmoifhoilaaDoor.Md5
open Go.RowKit Go.Proofs.YtgadhmoifhoilaaDoorW.PrintWords Go.Proofs.YtgadhmoifhoilaaDoorW.PrintLast
set_option linter.unusedVariables false
set_option linter.unusedSimpArgs false
theorem run_f64bits (b : Nat) (w : World) : (callFunc 66 #[.float .f64 b]).run Tryd.prog w = .ok (.value (.int .u64 b)) w := by
 rw [run_callFunc_extern (e := Extern.MathFloatBits.float64bits) Tryd.func66 (by kernel_rfl) rfl (by kernel_rfl) (by kernel_rfl)]
 rfl
theorem run_f64from (n : Int) (w : World) : (callFunc 65 #[.int .u64 n]).run Tryd.prog w = .ok (.value (.float .f64 n.toNat)) w := by
 rw [run_callFunc_extern (e := Extern.MathFloatBits.float64frombits) Tryd.func65 (by kernel_rfl) rfl (by kernel_rfl) (by kernel_rfl)]
 rfl
def absF (b : Nat) : Nat := (Go.bits .andNot .u64 (b : Int) 9223372036854775808).toNat
theorem abs_calls (b : Nat) (w : World) : Calls Tryd.prog 59 #[.float .f64 b] w fun e w' => e = .returned (.float .f64 (absF b)) ∧ w' = w := by
 have h1 := run_f64bits
 have h2 := run_f64from
 go_enter Tryd.func59, Tryd.ntmps59
 go_wp2
 go_ret
 exact ⟨rfl, rfl⟩
def oF (op : BinOp) (x y : Nat) : Option Nat := floatBits op .f64 x y
theorem run_oF {op : BinOp} {x y r : Nat} (h : oF op x y = some r) (t : TypeId) (w : World) : (binOp op t (.float .f64 x) (.float .f64 y)).run Tryd.prog w = .ok (.float .f64 r) w := run_float_arith w op t .f64 x y r h
def cosP (zz : Nat) : Option Nat := (oF .mul 4602678819172646912 zz).bind fun q1 => (oF .sub 4607182418800017408 q1).bind fun q2 => (oF .mul zz zz).bind fun q3 => (oF .mul 13666448263388469915 zz).bind fun p1 => (oF .add p1 4477121864728985349).bind fun p2 => (oF .mul p2 zz).bind fun p3 => (oF .add p3 13732177093698800582).bind fun p4 => (oF .mul p4 zz).bind fun p5 => (oF .add p5 4537941361668146421).bind fun p6 => (oF .mul p6 zz).bind fun p7 => (oF .add p7 13787419979223748497).bind fun p8 => (oF .mul p8 zz).bind fun p9 => (oF .add p9 4586165620538955083).bind fun p10 => (oF .mul q3 p10).bind fun q4 => oF .add q2 q4
def sinP (z zz : Nat) : Option Nat := (oF .mul z zz).bind fun q1 => (oF .mul 4460209587652500685 zz).bind fun p1 => (oF .add p1 13716528389658582877).bind fun p2 => (oF .mul p2 zz).bind fun p3 => (oF .add p3 4523617212962785441).bind fun p4 => (oF .mul p4 zz).bind fun p5 => (oF .add p5 13774824197404483331).bind fun p6 => (oF .mul p6 zz).bind fun p7 => (oF .add p7 4575957461383575504).bind fun p8 => (oF .mul p8 zz).bind fun p9 => (oF .add p9 13818544856648471880).bind fun p10 => (oF .mul q1 p10).bind fun q2 => oF .add z q2
def jF (x : Nat) : Option Int := (oF .mul x 4608412980311869571).bind fun t => floatToIntVal .f64 t .u64
def yF (j : Int) : Option Nat := if j % 2 = 1 then oF .add (floatOfInt .f64 j) 4607182418800017408 else some (floatOfInt .f64 j)
def zF (x y : Nat) : Option Nat := (oF .mul y 4605249456957292544).bind fun m1 => (oF .sub x m1).bind fun s1 => (oF .mul y 4495793288086814720).bind fun m2 => (oF .sub s1 m2).bind fun s2 => (oF .mul y 4388835458085048688).bind fun m3 => oF .sub s2 m3
def octF (j : Int) : Int := (if j % 2 = 1 then j + 1 else j) % 8
def sinF (x : Nat) : Option Nat :=
 (jF x).bind fun j => (yF j).bind fun y => (zF x y).bind fun z => (oF .mul z z).bind fun zz =>
  (if octF j = 2 ∨ octF j = 6 then cosP zz else sinP z zz).bind fun r => some (if octF j = 4 ∨ octF j = 6 then Op.negFloat .f64 r else r)
def sineF (i : Int) : Option Int := (sinF (floatOfInt .f64 i)).bind fun s => (oF .mul (absF s) 4751297606875873280).bind fun t => floatToIntVal .f64 t .u32
theorem sines_all : (List.range 64).map (fun i : Nat => sineF ((i : Int) + 1)) = sinesL.map some := by kernel_rfl
structure Laid (w : World) : Prop where
 c0 : w.cell? ⟨1, 0, none⟩ = some (.float .f64 13666448263388469915)
 c1 : w.cell? ⟨1, 1, none⟩ = some (.float .f64 4477121864728985349)
 c2 : w.cell? ⟨1, 2, none⟩ = some (.float .f64 13732177093698800582)
 c3 : w.cell? ⟨1, 3, none⟩ = some (.float .f64 4537941361668146421)
 c4 : w.cell? ⟨1, 4, none⟩ = some (.float .f64 13787419979223748497)
 c5 : w.cell? ⟨1, 5, none⟩ = some (.float .f64 4586165620538955083)
 s0 : w.cell? ⟨2, 0, none⟩ = some (.float .f64 4460209587652500685)
 s1 : w.cell? ⟨2, 1, none⟩ = some (.float .f64 13716528389658582877)
 s2 : w.cell? ⟨2, 2, none⟩ = some (.float .f64 4523617212962785441)
 s3 : w.cell? ⟨2, 3, none⟩ = some (.float .f64 13774824197404483331)
 s4 : w.cell? ⟨2, 4, none⟩ = some (.float .f64 4575957461383575504)
 s5 : w.cell? ⟨2, 5, none⟩ = some (.float .f64 13818544856648471880)
theorem Laid.below {w W : World} {B : Nat} (h : Laid w) (hb : Below B w W) (h3 : 3 ≤ B) : Laid W := ⟨(hb.cell (p := ⟨1, 0, none⟩) (by simp; omega)).trans h.c0, (hb.cell (p := ⟨1, 1, none⟩) (by simp; omega)).trans h.c1, (hb.cell (p := ⟨1, 2, none⟩) (by simp; omega)).trans h.c2, (hb.cell (p := ⟨1, 3, none⟩) (by simp; omega)).trans h.c3, (hb.cell (p := ⟨1, 4, none⟩) (by simp; omega)).trans h.c4, (hb.cell (p := ⟨1, 5, none⟩) (by simp; omega)).trans h.c5, (hb.cell (p := ⟨2, 0, none⟩) (by simp; omega)).trans h.s0, (hb.cell (p := ⟨2, 1, none⟩) (by simp; omega)).trans h.s1, (hb.cell (p := ⟨2, 2, none⟩) (by simp; omega)).trans h.s2, (hb.cell (p := ⟨2, 3, none⟩) (by simp; omega)).trans h.s3, (hb.cell (p := ⟨2, 4, none⟩) (by simp; omega)).trans h.s4, (hb.cell (p := ⟨2, 5, none⟩) (by simp; omega)).trans h.s5⟩
theorem isnan_calls (x : Nat) (w : World) (h : (FloatKind.f64.format.order x x != some .eq) = false) : Calls Tryd.prog 72 #[.float .f64 x] w fun e w' => e = .returned (.bool false) ∧ w' = w := by
 go_enter Tryd.func72, Tryd.ntmps72
 go_wp2
 go_ret
 exact ⟨rfl, rfl⟩
theorem isinf_calls (x : Nat) (w : World) (h : (FloatKind.f64.format.order (absF x) 9218868437227405311 == some .gt) = false) : Calls Tryd.prog 73 #[.float .f64 x, .int .i64 0] w fun e w' => e = .returned (.bool false) ∧ w' = w := by
 go_enter Tryd.func73, Tryd.ntmps73
 go_wp2_with (first | (go_at_call 59; refine (abs_calls _ _).mono ?_; rintro e w' ⟨rfl, rfl⟩))
 go_ret
 exact ⟨rfl, rfl⟩
theorem run_negf (b : Nat) (w : World) : (Op.unary .neg (.float .f64 b)).run Tryd.prog w = .ok (.float .f64 (Op.negFloat .f64 b)) w := rfl
theorem and_one (n : Nat) (h : n ≤ 110) : Go.bits .and .u64 (n : Int) 1 = (n : Int) % 2 := by
 have e : ∀ m : Fin 111, Go.bits .and .u64 ((m.val : Nat) : Int) 1 = ((m.val : Nat) : Int) % 2 := by decide +kernel
 exact e ⟨n, by omega⟩
theorem and_seven (n : Nat) (h : n ≤ 110) : Go.bits .and .u64 (n : Int) 7 = (n : Int) % 8 := by
 have e : ∀ m : Fin 111, Go.bits .and .u64 ((m.val : Nat) : Int) 7 = ((m.val : Nat) : Int) % 8 := by decide +kernel
 exact e ⟨n, by omega⟩
set_option maxRecDepth 100000 in
set_option maxHeartbeats 40000000 in
theorem sin_calls (x r n : Nat) (w : World) (HG : Laid w) (h1 : (FloatKind.f64.format.order x 0 == some .eq) = false) (h2 : (FloatKind.f64.format.order x x != some .eq) = false) (h3 : (FloatKind.f64.format.order (absF x) 9218868437227405311 == some .gt) = false) (h4 : (FloatKind.f64.format.order x 0 == some .lt) = false) (h5 : (FloatKind.f64.format.order x 4737786807993761792 == some .gt || FloatKind.f64.format.order x 4737786807993761792 == some .eq) = false)
  (hn : jF x = some (n : Int)) (hn1 : n ≤ 100) (h : sinF x = some r) : Calls Tryd.prog 68 #[.float .f64 x] w fun e w' => e = .returned (.float .f64 r) ∧ w' = w := by
 unfold sinF at h
 rw [hn] at h
 simp only [Option.bind_some] at h
 obtain ⟨y, hy, ha⟩ := Option.bind_eq_some_iff.1 h
 obtain ⟨z, hz, hb⟩ := Option.bind_eq_some_iff.1 ha
 obtain ⟨zz, hzz, hc⟩ := Option.bind_eq_some_iff.1 hb
 obtain ⟨p, hp, hd⟩ := Option.bind_eq_some_iff.1 hc
 clear h ha hb hc
 simp only [Option.some.injEq] at hd
 unfold jF at hn
 obtain ⟨t, ht, hj⟩ := Option.bind_eq_some_iff.1 hn
 clear hn
 have k1 := run_oF ht 96
 have k2 : ∀ w, (convert 96 88 (.float .f64 t)).run Tryd.prog w = .ok (.int .u64 (n : Int)) w := fun w => run_convert_float_int w 96 88 .f64 .u64 t (n : Int) (by rw [Tryd.underlying96]; rfl) Tryd.underlying88 hj
 clear ht hj
 unfold zF at hz
 obtain ⟨m1, hm1, hz1⟩ := Option.bind_eq_some_iff.1 hz
 obtain ⟨s1, hs1, hz2⟩ := Option.bind_eq_some_iff.1 hz1
 obtain ⟨m2, hm2, hz3⟩ := Option.bind_eq_some_iff.1 hz2
 obtain ⟨s2, hs2, hz4⟩ := Option.bind_eq_some_iff.1 hz3
 obtain ⟨m3, hm3, hz5⟩ := Option.bind_eq_some_iff.1 hz4
 clear hz hz1 hz2 hz3 hz4
 have k3 := run_oF hm1 96
 have k4 := run_oF hs1 96
 have k5 := run_oF hm2 96
 have k6 := run_oF hs2 96
 have k7 := run_oF hm3 96
 have k8 := run_oF hz5 96
 have k9 := run_oF hzz 96
 clear hm1 hs1 hm2 hs2 hm3 hz5 hzz
 obtain ⟨c0, c1, c2, c3, c4, c5, s0, s1, s2, s3, s4, s5⟩ := HG
 have a1 := and_one n (by omega)
 have HD := Aside0.mk hd
 clear hd
 have hp2 : (octF n = 2 ∨ octF n = 6) → cosP zz = some p := fun e => by rw [if_pos e] at hp; exact hp
 have hp0 : ¬ (octF n = 2 ∨ octF n = 6) → sinP z zz = some p := fun e => by rw [if_neg e] at hp; exact hp
 clear hp
 have HP2 := Aside0.mk hp2
 have HP0 := Aside0.mk hp0
 clear hp2 hp0
 by_cases hodd : (n : Int) % 2 = 1
 ·have ho : octF n = ((n : Int) + 1) % 8 := by unfold octF; rw [if_pos hodd]
  unfold yF at hy
  rw [if_pos hodd] at hy
  have k0 := run_oF hy 96
  clear hy
  have a7 := and_seven (n + 1) (by omega)
  rw [show ((n + 1 : Nat) : Int) = (n : Int) + 1 from rfl] at a7
  rw [hodd] at a1
  have hw1 : IntKind.u64.wrap ((n : Int) + 1) = (n : Int) + 1 := wraps_u64 _ (by omega) (by omega)
  obtain ⟨oc, hoc⟩ : ∃ oc, octF n = oc := ⟨_, rfl⟩
  rw [← ho, hoc] at a7
  rw [hoc] at HD HP2 HP0
  have hcases : oc = 0 ∨ oc = 2 ∨ oc = 4 ∨ oc = 6 := by omega
  clear ho hoc hodd
  rcases hcases with rfl | rfl | rfl | rfl
  ·have hq0 := HP0.out (by decide)
   unfold sinP at hq0
   obtain ⟨vq1, eq1, hq1⟩ := Option.bind_eq_some_iff.1 hq0
   obtain ⟨vp1, ep1, hq2⟩ := Option.bind_eq_some_iff.1 hq1
   obtain ⟨vp2, ep2, hq3⟩ := Option.bind_eq_some_iff.1 hq2
   obtain ⟨vp3, ep3, hq4⟩ := Option.bind_eq_some_iff.1 hq3
   obtain ⟨vp4, ep4, hq5⟩ := Option.bind_eq_some_iff.1 hq4
   obtain ⟨vp5, ep5, hq6⟩ := Option.bind_eq_some_iff.1 hq5
   obtain ⟨vp6, ep6, hq7⟩ := Option.bind_eq_some_iff.1 hq6
   obtain ⟨vp7, ep7, hq8⟩ := Option.bind_eq_some_iff.1 hq7
   obtain ⟨vp8, ep8, hq9⟩ := Option.bind_eq_some_iff.1 hq8
   obtain ⟨vp9, ep9, hq10⟩ := Option.bind_eq_some_iff.1 hq9
   obtain ⟨vp10, ep10, hq11⟩ := Option.bind_eq_some_iff.1 hq10
   obtain ⟨vq2, eq2, hq12⟩ := Option.bind_eq_some_iff.1 hq11
   have gq1 := run_oF eq1 96
   have gp1 := run_oF ep1 96
   have gp2 := run_oF ep2 96
   have gp3 := run_oF ep3 96
   have gp4 := run_oF ep4 96
   have gp5 := run_oF ep5 96
   have gp6 := run_oF ep6 96
   have gp7 := run_oF ep7 96
   have gp8 := run_oF ep8 96
   have gp9 := run_oF ep9 96
   have gp10 := run_oF ep10 96
   have gq2 := run_oF eq2 96
   have gz := run_oF hq12 96
   clear hq0 hq1 hq2 hq3 hq4 hq5 hq6 hq7 hq8 hq9 hq10 hq11 hq12 eq1 ep1 ep2 ep3 ep4 ep5 ep6 ep7 ep8 ep9 ep10 eq2
   have hr := HD.out
   rw [if_neg (by decide)] at hr
   subst hr
   clear HD HP2 HP0
   have kn := run_negf
   go_enter Tryd.func68, Tryd.ntmps68
   go_wp2_with (first | (go_at_call 72; refine (isnan_calls _ _ h2).mono ?_; rintro e w' ⟨rfl, rfl⟩) | (go_at_call 73; refine (isinf_calls _ _ h3).mono ?_; rintro e w' ⟨rfl, rfl⟩))
   go_ret
   exact ⟨rfl, rfl⟩
  ·have hq0 := HP2.out (by decide)
   unfold cosP at hq0
   obtain ⟨vq1, eq1, hq1⟩ := Option.bind_eq_some_iff.1 hq0
   obtain ⟨vq2, eq2, hq2⟩ := Option.bind_eq_some_iff.1 hq1
   obtain ⟨vq3, eq3, hq3⟩ := Option.bind_eq_some_iff.1 hq2
   obtain ⟨vp1, ep1, hq4⟩ := Option.bind_eq_some_iff.1 hq3
   obtain ⟨vp2, ep2, hq5⟩ := Option.bind_eq_some_iff.1 hq4
   obtain ⟨vp3, ep3, hq6⟩ := Option.bind_eq_some_iff.1 hq5
   obtain ⟨vp4, ep4, hq7⟩ := Option.bind_eq_some_iff.1 hq6
   obtain ⟨vp5, ep5, hq8⟩ := Option.bind_eq_some_iff.1 hq7
   obtain ⟨vp6, ep6, hq9⟩ := Option.bind_eq_some_iff.1 hq8
   obtain ⟨vp7, ep7, hq10⟩ := Option.bind_eq_some_iff.1 hq9
   obtain ⟨vp8, ep8, hq11⟩ := Option.bind_eq_some_iff.1 hq10
   obtain ⟨vp9, ep9, hq12⟩ := Option.bind_eq_some_iff.1 hq11
   obtain ⟨vp10, ep10, hq13⟩ := Option.bind_eq_some_iff.1 hq12
   obtain ⟨vq4, eq4, hq14⟩ := Option.bind_eq_some_iff.1 hq13
   have gq1 := run_oF eq1 96
   have gq2 := run_oF eq2 96
   have gq3 := run_oF eq3 96
   have gp1 := run_oF ep1 96
   have gp2 := run_oF ep2 96
   have gp3 := run_oF ep3 96
   have gp4 := run_oF ep4 96
   have gp5 := run_oF ep5 96
   have gp6 := run_oF ep6 96
   have gp7 := run_oF ep7 96
   have gp8 := run_oF ep8 96
   have gp9 := run_oF ep9 96
   have gp10 := run_oF ep10 96
   have gq4 := run_oF eq4 96
   have gz := run_oF hq14 96
   clear hq0 hq1 hq2 hq3 hq4 hq5 hq6 hq7 hq8 hq9 hq10 hq11 hq12 hq13 hq14 eq1 eq2 eq3 ep1 ep2 ep3 ep4 ep5 ep6 ep7 ep8 ep9 ep10 eq4
   have hr := HD.out
   rw [if_neg (by decide)] at hr
   subst hr
   clear HD HP2 HP0
   have kn := run_negf
   go_enter Tryd.func68, Tryd.ntmps68
   go_wp2_with (first | (go_at_call 72; refine (isnan_calls _ _ h2).mono ?_; rintro e w' ⟨rfl, rfl⟩) | (go_at_call 73; refine (isinf_calls _ _ h3).mono ?_; rintro e w' ⟨rfl, rfl⟩))
   go_ret
   exact ⟨rfl, rfl⟩
  ·have hq0 := HP0.out (by decide)
   unfold sinP at hq0
   obtain ⟨vq1, eq1, hq1⟩ := Option.bind_eq_some_iff.1 hq0
   obtain ⟨vp1, ep1, hq2⟩ := Option.bind_eq_some_iff.1 hq1
   obtain ⟨vp2, ep2, hq3⟩ := Option.bind_eq_some_iff.1 hq2
   obtain ⟨vp3, ep3, hq4⟩ := Option.bind_eq_some_iff.1 hq3
   obtain ⟨vp4, ep4, hq5⟩ := Option.bind_eq_some_iff.1 hq4
   obtain ⟨vp5, ep5, hq6⟩ := Option.bind_eq_some_iff.1 hq5
   obtain ⟨vp6, ep6, hq7⟩ := Option.bind_eq_some_iff.1 hq6
   obtain ⟨vp7, ep7, hq8⟩ := Option.bind_eq_some_iff.1 hq7
   obtain ⟨vp8, ep8, hq9⟩ := Option.bind_eq_some_iff.1 hq8
   obtain ⟨vp9, ep9, hq10⟩ := Option.bind_eq_some_iff.1 hq9
   obtain ⟨vp10, ep10, hq11⟩ := Option.bind_eq_some_iff.1 hq10
   obtain ⟨vq2, eq2, hq12⟩ := Option.bind_eq_some_iff.1 hq11
   have gq1 := run_oF eq1 96
   have gp1 := run_oF ep1 96
   have gp2 := run_oF ep2 96
   have gp3 := run_oF ep3 96
   have gp4 := run_oF ep4 96
   have gp5 := run_oF ep5 96
   have gp6 := run_oF ep6 96
   have gp7 := run_oF ep7 96
   have gp8 := run_oF ep8 96
   have gp9 := run_oF ep9 96
   have gp10 := run_oF ep10 96
   have gq2 := run_oF eq2 96
   have gz := run_oF hq12 96
   clear hq0 hq1 hq2 hq3 hq4 hq5 hq6 hq7 hq8 hq9 hq10 hq11 hq12 eq1 ep1 ep2 ep3 ep4 ep5 ep6 ep7 ep8 ep9 ep10 eq2
   have hr := HD.out
   rw [if_pos (by decide)] at hr
   subst hr
   clear HD HP2 HP0
   have kn := run_negf
   go_enter Tryd.func68, Tryd.ntmps68
   go_wp2_with (first | (go_at_call 72; refine (isnan_calls _ _ h2).mono ?_; rintro e w' ⟨rfl, rfl⟩) | (go_at_call 73; refine (isinf_calls _ _ h3).mono ?_; rintro e w' ⟨rfl, rfl⟩))
   go_ret
   exact ⟨rfl, rfl⟩
  ·have hq0 := HP2.out (by decide)
   unfold cosP at hq0
   obtain ⟨vq1, eq1, hq1⟩ := Option.bind_eq_some_iff.1 hq0
   obtain ⟨vq2, eq2, hq2⟩ := Option.bind_eq_some_iff.1 hq1
   obtain ⟨vq3, eq3, hq3⟩ := Option.bind_eq_some_iff.1 hq2
   obtain ⟨vp1, ep1, hq4⟩ := Option.bind_eq_some_iff.1 hq3
   obtain ⟨vp2, ep2, hq5⟩ := Option.bind_eq_some_iff.1 hq4
   obtain ⟨vp3, ep3, hq6⟩ := Option.bind_eq_some_iff.1 hq5
   obtain ⟨vp4, ep4, hq7⟩ := Option.bind_eq_some_iff.1 hq6
   obtain ⟨vp5, ep5, hq8⟩ := Option.bind_eq_some_iff.1 hq7
   obtain ⟨vp6, ep6, hq9⟩ := Option.bind_eq_some_iff.1 hq8
   obtain ⟨vp7, ep7, hq10⟩ := Option.bind_eq_some_iff.1 hq9
   obtain ⟨vp8, ep8, hq11⟩ := Option.bind_eq_some_iff.1 hq10
   obtain ⟨vp9, ep9, hq12⟩ := Option.bind_eq_some_iff.1 hq11
   obtain ⟨vp10, ep10, hq13⟩ := Option.bind_eq_some_iff.1 hq12
   obtain ⟨vq4, eq4, hq14⟩ := Option.bind_eq_some_iff.1 hq13
   have gq1 := run_oF eq1 96
   have gq2 := run_oF eq2 96
   have gq3 := run_oF eq3 96
   have gp1 := run_oF ep1 96
   have gp2 := run_oF ep2 96
   have gp3 := run_oF ep3 96
   have gp4 := run_oF ep4 96
   have gp5 := run_oF ep5 96
   have gp6 := run_oF ep6 96
   have gp7 := run_oF ep7 96
   have gp8 := run_oF ep8 96
   have gp9 := run_oF ep9 96
   have gp10 := run_oF ep10 96
   have gq4 := run_oF eq4 96
   have gz := run_oF hq14 96
   clear hq0 hq1 hq2 hq3 hq4 hq5 hq6 hq7 hq8 hq9 hq10 hq11 hq12 hq13 hq14 eq1 eq2 eq3 ep1 ep2 ep3 ep4 ep5 ep6 ep7 ep8 ep9 ep10 eq4
   have hr := HD.out
   rw [if_pos (by decide)] at hr
   subst hr
   clear HD HP2 HP0
   have kn := run_negf
   go_enter Tryd.func68, Tryd.ntmps68
   go_wp2_with (first | (go_at_call 72; refine (isnan_calls _ _ h2).mono ?_; rintro e w' ⟨rfl, rfl⟩) | (go_at_call 73; refine (isinf_calls _ _ h3).mono ?_; rintro e w' ⟨rfl, rfl⟩))
   go_ret
   exact ⟨rfl, rfl⟩
 ·have ho : octF n = (n : Int) % 8 := by unfold octF; rw [if_neg hodd]
  unfold yF at hy
  rw [if_neg hodd] at hy
  obtain rfl := Option.some.inj hy
  clear hy
  have a7 := and_seven n (by omega)
  rw [show (n : Int) % 2 = 0 from by omega] at a1
  obtain ⟨oc, hoc⟩ : ∃ oc, octF n = oc := ⟨_, rfl⟩
  rw [← ho, hoc] at a7
  rw [hoc] at HD HP2 HP0
  have hcases : oc = 0 ∨ oc = 2 ∨ oc = 4 ∨ oc = 6 := by omega
  clear ho hoc hodd
  rcases hcases with rfl | rfl | rfl | rfl
  ·have hq0 := HP0.out (by decide)
   unfold sinP at hq0
   obtain ⟨vq1, eq1, hq1⟩ := Option.bind_eq_some_iff.1 hq0
   obtain ⟨vp1, ep1, hq2⟩ := Option.bind_eq_some_iff.1 hq1
   obtain ⟨vp2, ep2, hq3⟩ := Option.bind_eq_some_iff.1 hq2
   obtain ⟨vp3, ep3, hq4⟩ := Option.bind_eq_some_iff.1 hq3
   obtain ⟨vp4, ep4, hq5⟩ := Option.bind_eq_some_iff.1 hq4
   obtain ⟨vp5, ep5, hq6⟩ := Option.bind_eq_some_iff.1 hq5
   obtain ⟨vp6, ep6, hq7⟩ := Option.bind_eq_some_iff.1 hq6
   obtain ⟨vp7, ep7, hq8⟩ := Option.bind_eq_some_iff.1 hq7
   obtain ⟨vp8, ep8, hq9⟩ := Option.bind_eq_some_iff.1 hq8
   obtain ⟨vp9, ep9, hq10⟩ := Option.bind_eq_some_iff.1 hq9
   obtain ⟨vp10, ep10, hq11⟩ := Option.bind_eq_some_iff.1 hq10
   obtain ⟨vq2, eq2, hq12⟩ := Option.bind_eq_some_iff.1 hq11
   have gq1 := run_oF eq1 96
   have gp1 := run_oF ep1 96
   have gp2 := run_oF ep2 96
   have gp3 := run_oF ep3 96
   have gp4 := run_oF ep4 96
   have gp5 := run_oF ep5 96
   have gp6 := run_oF ep6 96
   have gp7 := run_oF ep7 96
   have gp8 := run_oF ep8 96
   have gp9 := run_oF ep9 96
   have gp10 := run_oF ep10 96
   have gq2 := run_oF eq2 96
   have gz := run_oF hq12 96
   clear hq0 hq1 hq2 hq3 hq4 hq5 hq6 hq7 hq8 hq9 hq10 hq11 hq12 eq1 ep1 ep2 ep3 ep4 ep5 ep6 ep7 ep8 ep9 ep10 eq2
   have hr := HD.out
   rw [if_neg (by decide)] at hr
   subst hr
   clear HD HP2 HP0
   have kn := run_negf
   go_enter Tryd.func68, Tryd.ntmps68
   go_wp2_with (first | (go_at_call 72; refine (isnan_calls _ _ h2).mono ?_; rintro e w' ⟨rfl, rfl⟩) | (go_at_call 73; refine (isinf_calls _ _ h3).mono ?_; rintro e w' ⟨rfl, rfl⟩))
   go_ret
   exact ⟨rfl, rfl⟩
  ·have hq0 := HP2.out (by decide)
   unfold cosP at hq0
   obtain ⟨vq1, eq1, hq1⟩ := Option.bind_eq_some_iff.1 hq0
   obtain ⟨vq2, eq2, hq2⟩ := Option.bind_eq_some_iff.1 hq1
   obtain ⟨vq3, eq3, hq3⟩ := Option.bind_eq_some_iff.1 hq2
   obtain ⟨vp1, ep1, hq4⟩ := Option.bind_eq_some_iff.1 hq3
   obtain ⟨vp2, ep2, hq5⟩ := Option.bind_eq_some_iff.1 hq4
   obtain ⟨vp3, ep3, hq6⟩ := Option.bind_eq_some_iff.1 hq5
   obtain ⟨vp4, ep4, hq7⟩ := Option.bind_eq_some_iff.1 hq6
   obtain ⟨vp5, ep5, hq8⟩ := Option.bind_eq_some_iff.1 hq7
   obtain ⟨vp6, ep6, hq9⟩ := Option.bind_eq_some_iff.1 hq8
   obtain ⟨vp7, ep7, hq10⟩ := Option.bind_eq_some_iff.1 hq9
   obtain ⟨vp8, ep8, hq11⟩ := Option.bind_eq_some_iff.1 hq10
   obtain ⟨vp9, ep9, hq12⟩ := Option.bind_eq_some_iff.1 hq11
   obtain ⟨vp10, ep10, hq13⟩ := Option.bind_eq_some_iff.1 hq12
   obtain ⟨vq4, eq4, hq14⟩ := Option.bind_eq_some_iff.1 hq13
   have gq1 := run_oF eq1 96
   have gq2 := run_oF eq2 96
   have gq3 := run_oF eq3 96
   have gp1 := run_oF ep1 96
   have gp2 := run_oF ep2 96
   have gp3 := run_oF ep3 96
   have gp4 := run_oF ep4 96
   have gp5 := run_oF ep5 96
   have gp6 := run_oF ep6 96
   have gp7 := run_oF ep7 96
   have gp8 := run_oF ep8 96
   have gp9 := run_oF ep9 96
   have gp10 := run_oF ep10 96
   have gq4 := run_oF eq4 96
   have gz := run_oF hq14 96
   clear hq0 hq1 hq2 hq3 hq4 hq5 hq6 hq7 hq8 hq9 hq10 hq11 hq12 hq13 hq14 eq1 eq2 eq3 ep1 ep2 ep3 ep4 ep5 ep6 ep7 ep8 ep9 ep10 eq4
   have hr := HD.out
   rw [if_neg (by decide)] at hr
   subst hr
   clear HD HP2 HP0
   have kn := run_negf
   go_enter Tryd.func68, Tryd.ntmps68
   go_wp2_with (first | (go_at_call 72; refine (isnan_calls _ _ h2).mono ?_; rintro e w' ⟨rfl, rfl⟩) | (go_at_call 73; refine (isinf_calls _ _ h3).mono ?_; rintro e w' ⟨rfl, rfl⟩))
   go_ret
   exact ⟨rfl, rfl⟩
  ·have hq0 := HP0.out (by decide)
   unfold sinP at hq0
   obtain ⟨vq1, eq1, hq1⟩ := Option.bind_eq_some_iff.1 hq0
   obtain ⟨vp1, ep1, hq2⟩ := Option.bind_eq_some_iff.1 hq1
   obtain ⟨vp2, ep2, hq3⟩ := Option.bind_eq_some_iff.1 hq2
   obtain ⟨vp3, ep3, hq4⟩ := Option.bind_eq_some_iff.1 hq3
   obtain ⟨vp4, ep4, hq5⟩ := Option.bind_eq_some_iff.1 hq4
   obtain ⟨vp5, ep5, hq6⟩ := Option.bind_eq_some_iff.1 hq5
   obtain ⟨vp6, ep6, hq7⟩ := Option.bind_eq_some_iff.1 hq6
   obtain ⟨vp7, ep7, hq8⟩ := Option.bind_eq_some_iff.1 hq7
   obtain ⟨vp8, ep8, hq9⟩ := Option.bind_eq_some_iff.1 hq8
   obtain ⟨vp9, ep9, hq10⟩ := Option.bind_eq_some_iff.1 hq9
   obtain ⟨vp10, ep10, hq11⟩ := Option.bind_eq_some_iff.1 hq10
   obtain ⟨vq2, eq2, hq12⟩ := Option.bind_eq_some_iff.1 hq11
   have gq1 := run_oF eq1 96
   have gp1 := run_oF ep1 96
   have gp2 := run_oF ep2 96
   have gp3 := run_oF ep3 96
   have gp4 := run_oF ep4 96
   have gp5 := run_oF ep5 96
   have gp6 := run_oF ep6 96
   have gp7 := run_oF ep7 96
   have gp8 := run_oF ep8 96
   have gp9 := run_oF ep9 96
   have gp10 := run_oF ep10 96
   have gq2 := run_oF eq2 96
   have gz := run_oF hq12 96
   clear hq0 hq1 hq2 hq3 hq4 hq5 hq6 hq7 hq8 hq9 hq10 hq11 hq12 eq1 ep1 ep2 ep3 ep4 ep5 ep6 ep7 ep8 ep9 ep10 eq2
   have hr := HD.out
   rw [if_pos (by decide)] at hr
   subst hr
   clear HD HP2 HP0
   have kn := run_negf
   go_enter Tryd.func68, Tryd.ntmps68
   go_wp2_with (first | (go_at_call 72; refine (isnan_calls _ _ h2).mono ?_; rintro e w' ⟨rfl, rfl⟩) | (go_at_call 73; refine (isinf_calls _ _ h3).mono ?_; rintro e w' ⟨rfl, rfl⟩))
   go_ret
   exact ⟨rfl, rfl⟩
  ·have hq0 := HP2.out (by decide)
   unfold cosP at hq0
   obtain ⟨vq1, eq1, hq1⟩ := Option.bind_eq_some_iff.1 hq0
   obtain ⟨vq2, eq2, hq2⟩ := Option.bind_eq_some_iff.1 hq1
   obtain ⟨vq3, eq3, hq3⟩ := Option.bind_eq_some_iff.1 hq2
   obtain ⟨vp1, ep1, hq4⟩ := Option.bind_eq_some_iff.1 hq3
   obtain ⟨vp2, ep2, hq5⟩ := Option.bind_eq_some_iff.1 hq4
   obtain ⟨vp3, ep3, hq6⟩ := Option.bind_eq_some_iff.1 hq5
   obtain ⟨vp4, ep4, hq7⟩ := Option.bind_eq_some_iff.1 hq6
   obtain ⟨vp5, ep5, hq8⟩ := Option.bind_eq_some_iff.1 hq7
   obtain ⟨vp6, ep6, hq9⟩ := Option.bind_eq_some_iff.1 hq8
   obtain ⟨vp7, ep7, hq10⟩ := Option.bind_eq_some_iff.1 hq9
   obtain ⟨vp8, ep8, hq11⟩ := Option.bind_eq_some_iff.1 hq10
   obtain ⟨vp9, ep9, hq12⟩ := Option.bind_eq_some_iff.1 hq11
   obtain ⟨vp10, ep10, hq13⟩ := Option.bind_eq_some_iff.1 hq12
   obtain ⟨vq4, eq4, hq14⟩ := Option.bind_eq_some_iff.1 hq13
   have gq1 := run_oF eq1 96
   have gq2 := run_oF eq2 96
   have gq3 := run_oF eq3 96
   have gp1 := run_oF ep1 96
   have gp2 := run_oF ep2 96
   have gp3 := run_oF ep3 96
   have gp4 := run_oF ep4 96
   have gp5 := run_oF ep5 96
   have gp6 := run_oF ep6 96
   have gp7 := run_oF ep7 96
   have gp8 := run_oF ep8 96
   have gp9 := run_oF ep9 96
   have gp10 := run_oF ep10 96
   have gq4 := run_oF eq4 96
   have gz := run_oF hq14 96
   clear hq0 hq1 hq2 hq3 hq4 hq5 hq6 hq7 hq8 hq9 hq10 hq11 hq12 hq13 hq14 eq1 eq2 eq3 ep1 ep2 ep3 ep4 ep5 ep6 ep7 ep8 ep9 ep10 eq4
   have hr := HD.out
   rw [if_pos (by decide)] at hr
   subst hr
   clear HD HP2 HP0
   have kn := run_negf
   go_enter Tryd.func68, Tryd.ntmps68
   go_wp2_with (first | (go_at_call 72; refine (isnan_calls _ _ h2).mono ?_; rintro e w' ⟨rfl, rfl⟩) | (go_at_call 73; refine (isinf_calls _ _ h3).mono ?_; rintro e w' ⟨rfl, rfl⟩))
   go_ret
   exact ⟨rfl, rfl⟩
theorem Sin_calls (x r n : Nat) (w : World) (HG : Laid w) (h1 : (FloatKind.f64.format.order x 0 == some .eq) = false) (h2 : (FloatKind.f64.format.order x x != some .eq) = false) (h3 : (FloatKind.f64.format.order (absF x) 9218868437227405311 == some .gt) = false) (h4 : (FloatKind.f64.format.order x 0 == some .lt) = false) (h5 : (FloatKind.f64.format.order x 4737786807993761792 == some .gt || FloatKind.f64.format.order x 4737786807993761792 == some .eq) = false)
  (hn : jF x = some (n : Int)) (hn1 : n ≤ 100) (h : sinF x = some r) : Calls Tryd.prog 60 #[.float .f64 x] w fun e w' => e = .returned (.float .f64 r) ∧ w' = w := by
 have HC := Aside0.mk (sin_calls x r n w HG h1 h2 h3 h4 h5 hn hn1 h)
 clear h1 h2 h3 h4 h5 hn hn1 h HG
 go_enter Tryd.func60, Tryd.ntmps60
 go_wp2_with (first | (go_at_call 68; refine HC.out.mono ?_; rintro e w' ⟨rfl, rfl⟩))
 go_ret
 exact ⟨rfl, rfl⟩
def okF (i : Nat) : Bool :=
 !(FloatKind.f64.format.order (floatOfInt .f64 ((i : Int) + 1)) 0 == some .eq) && (!(FloatKind.f64.format.order (floatOfInt .f64 ((i : Int) + 1)) (floatOfInt .f64 ((i : Int) + 1)) != some .eq) && (!(FloatKind.f64.format.order (absF (floatOfInt .f64 ((i : Int) + 1))) 9218868437227405311 == some .gt) && (!(FloatKind.f64.format.order (floatOfInt .f64 ((i : Int) + 1)) 0 == some .lt) &&
  (!(FloatKind.f64.format.order (floatOfInt .f64 ((i : Int) + 1)) 4737786807993761792 == some .gt || FloatKind.f64.format.order (floatOfInt .f64 ((i : Int) + 1)) 4737786807993761792 == some .eq) && (((jF (floatOfInt .f64 ((i : Int) + 1))).map fun j => decide (0 ≤ j) && decide (j ≤ 100)) == some true)))))
theorem okF_all : (List.range 64).all okF = true := by kernel_rfl
theorem sine_is (i : Nat) (hi : i < 64) : sineF ((i : Int) + 1) = some (sinesL.getD i 0) := by
 have e := congrArg (fun l : List (Option Int) => l[i]?) sines_all
 have hl : i < sinesL.length := hi
 simp only [List.getElem?_map, List.getElem?_range hi, Option.map_some, List.getElem?_eq_getElem hl, Option.some.injEq] at e
 rw [List.getD_eq_getElem?_getD, List.getElem?_eq_getElem hl]
 exact e
theorem sine_calls (i : Nat) (hi : i < 64) (w : World) (HG : Laid w) : Calls Tryd.prog 40 #[.int .i64 ((i : Int) + 1)] w fun e w' => e = .returned (.int .u32 (sinesL.getD i 0)) ∧ w' = w := by
 have hs := sine_is i hi
 have hk := List.all_eq_true.1 okF_all i (List.mem_range.2 hi)
 unfold okF at hk
 unfold sineF at hs
 have hx : ∀ w, (convert 3 96 (.int .i64 ((i : Int) + 1))).run Tryd.prog w = .ok (.float .f64 (floatOfInt .f64 ((i : Int) + 1))) w := fun w => run_convert_int_float w 3 96 .i64 .f64 _ (by rw [Tryd.underlying3]; rfl) Tryd.underlying96
 generalize floatOfInt .f64 ((i : Int) + 1) = x at hs hk hx
 generalize sinesL.getD i 0 = v at hs ⊢
 simp only [Bool.and_eq_true, Bool.not_eq_true'] at hk
 obtain ⟨h1, h2, h3, h4, h5, h6⟩ := hk
 obtain ⟨n, hn, hn1⟩ : ∃ n : Nat, jF x = some (n : Int) ∧ n ≤ 100 := by
  cases hj : jF x with
  | none => rw [hj] at h6; simp at h6
  | some j =>
   rw [hj] at h6
   simp at h6
   exact ⟨j.toNat, by congr 1; omega, by omega⟩
 obtain ⟨s, hs1, hs2⟩ := Option.bind_eq_some_iff.1 hs
 obtain ⟨t, hs3, hs4⟩ := Option.bind_eq_some_iff.1 hs2
 have HC := Aside0.mk (Sin_calls x s n w HG h1 h2 h3 h4 h5 hn hn1 hs1)
 have k1 := run_oF hs3 96
 have k2 : ∀ w, (convert 96 46 (.float .f64 t)).run Tryd.prog w = .ok (.int .u32 v) w := fun w => run_convert_float_int w 96 46 .f64 .u32 t v (by rw [Tryd.underlying96]; rfl) Tryd.underlying46 hs4
 clear h1 h2 h3 h4 h5 h6 hn hn1 hs hs1 hs2 hs3 hs4 HG hi
 go_enter Tryd.func40, Tryd.ntmps40
 go_wp2_with (first | (go_at_call 60; refine HC.out.mono ?_; rintro e w' ⟨rfl, rfl⟩) | (go_at_call 59; refine (abs_calls _ _).mono ?_; rintro e w' ⟨rfl, rfl⟩))
 go_ret
 exact ⟨rfl, rfl⟩
end Go.Proofs.YtgadhmoifhoilaaDoor.Md5
