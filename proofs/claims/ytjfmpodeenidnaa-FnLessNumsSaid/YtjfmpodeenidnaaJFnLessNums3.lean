/- Contracts of functions of the program and of the reference, and plain lemmas on what they compute: a part of the proof of the law FnLessNums. No condition. -/
import Derived.Test.YtjfmpodeenidnaaG90508x0
import Derived.Test.YtjfmpodeenidnaaG90508x1
import Derived.Test.YtjfmpodeenidnaaShortV
set_option maxHeartbeats 8000000
set_option maxRecDepth 100000
namespace Go.Proofs.Ytjfmpodeenidnaa.PC
open Go.RowKit Go.Proofs.Ytjfmpodeenidnaa.Short Go.Proofs.YtjfmpodeenidnaaW.PrintWords Go.Proofs.YtjfmpodeenidnaaW.PrintLast Go.Proofs.YtjfmpodeenidnaaW.PrintMore
attribute [local go_sem] max2_int min2_int max_two min_two max_three min_three max_four min_four   -- for this text's walks alone
set_option linter.unusedVariables false
set_option linter.unusedSimpArgs false

def laws_hasNum.l0 : Nat → List Int → Int → Int → Option (Bool)
 | 0, _, _, _ => none
 | k + 1, x0, x1, x5 => if x5 < (x0.length : Int) then (if 0 ≤ x5 then (if (rd x0 x5) = x1 then (some true) else (laws_hasNum.l0 k x0 x1 (wrap64 (x5 + 1)))) else (none)) else (some false)
def laws_hasNum.f (k : Nat) (l0 : List Int) (a1 : Int) : Option (Bool) := laws_hasNum.l0 k l0 a1 0
theorem laws_hasNum.mono_l : ∀ k, (∀ y0 y1 y2, LeO (laws_hasNum.l0 k y0 y1 y2) (laws_hasNum.l0 (k + 1) y0 y1 y2))
 | 0 => fun _ _ _ r h => by simp [laws_hasNum.l0] at h
 | k + 1 => by
  have ih0 := laws_hasNum.mono_l k
  ·intro y0 y1 y2
   unfold laws_hasNum.l0
   exact mo_
theorem laws_hasNum.mono : ∀ a0 a1 k, LeO (laws_hasNum.f k a0 a1) (laws_hasNum.f (k + 1) a0 a1) := by
 intro a0 a1 k
 have ih0 := laws_hasNum.mono_l k
 unfold laws_hasNum.f
 exact mo_
theorem laws_hasNum.calls (k : Nat) (A0 : Option Addr) (c0 : Nat) (l0 : List Int) (a1 : Int) (r : Bool) (w : World) (hr0 : Kd.C (Kd.int .i64) w A0 l0.length l0) (hc0 : l0.length ≤ c0) (h : laws_hasNum.f k l0 a1 = some r) :
 Calls Try.prog 23 #[.slice A0 l0.length c0, .int .i64 a1] w fun e w' => e = .returned (.bool r) ∧ Drawn0 w w' := by
 have HR0 := Aside0.mk hr0
 have HC0 := Aside0.mk hc0
 clear hr0 hc0
 have H := h
 unfold laws_hasNum.f at H
 clear h
 have H' := Aside0.mk H
 clear H
 go_enter Try.func23, Try.ntmps23
 go_wp2
 go_loopg [5] k (fun kq v5 w' => ∃ (x5_1 : Int), v5 = .int .i64 x5_1 ∧ Aside0 (laws_hasNum.l0 kq l0 a1 x5_1 = some r) ∧ Aside0 (kq ≤ k) ∧ Drawn0 w w')
 case atStart => exact ⟨(0), (sr_), H', ⟨Nat.le_refl _⟩, by repeat (first | exact Drawn0.refl _ | apply Drawn0.step)⟩
 clear H'
 obtain ⟨x5_1, rfl, HA, HK1, ⟨m1, rfl⟩⟩ := hrel
 cases gk with
 | zero => exact absurd HA.out (by simp [laws_hasNum.l0])
 | succ k1 => ?_
 have H := HA.out
 clear HA
 simp only [laws_hasNum.l0] at H
 by_cases c3 : x5_1 < (l0.length : Int)
 rotate_left
 ·rw [if_neg c3] at H
  have c3b0 := decide_eq_false c3
  clear c3
  obtain rfl := Option.some.inj H
  go_wp2
  go_ret
  exact ⟨sr_, by repeat (first | exact Drawn0.refl _ | apply Drawn0.step)⟩
 rw [if_pos c3] at H
 have c3b0 := decide_eq_true c3
 clear c3
 by_cases c4 : 0 ≤ x5_1
 rotate_left
 ·exact nn_ c4 H
 rw [if_pos c4] at H
 have c4b0 := decide_eq_true c4
 clear c4
 by_cases c5 : (rd l0 x5_1) = a1
 ·rw [if_pos c5] at H
  have c5b0 : ((rd l0 x5_1) == a1) = true := beq_iff_eq.mpr c5
  have c5b1 : ((rd l0 x5_1) != a1) = false := bne_eq_false_iff_eq.mpr c5
  clear c5
  obtain rfl := Option.some.inj H
  have p479 : 0 ≤ (x5_1 : Int) := of_decide_eq_true as_
  have q479 : x5_1 < (l0.length : Int) := of_decide_eq_true as_
  obtain ⟨ad479, e479, hx479_0⟩ := Kd.at_int HR0.out x5_1 p479 q479
  cases e479
  replace p479 := eq_true p479
  replace q479 := eq_true q479
  go_wp2
  go_ret
  exact ⟨sr_, by repeat (first | exact Drawn0.refl _ | apply Drawn0.step)⟩
 rw [if_neg c5] at H
 have c5b0 : ((rd l0 x5_1) == a1) = false := beq_eq_false_iff_ne.mpr c5
 have c5b1 : ((rd l0 x5_1) != a1) = true := bne_iff_ne.mpr c5
 have H' := Aside0.mk H
 clear H
 have p479 : 0 ≤ (x5_1 : Int) := of_decide_eq_true as_
 have q479 : x5_1 < (l0.length : Int) := of_decide_eq_true as_
 obtain ⟨ad479, e479, hx479_0⟩ := Kd.at_int HR0.out x5_1 p479 q479
 cases e479
 replace p479 := eq_true p479
 replace q479 := eq_true q479
 go_wp2
 go_roundg k1
 case measure => have := HK1.out; omega
 case rel => exact ⟨(wrap64 (x5_1 + 1)), (sr_), H', ⟨by have := HK1.out; omega⟩, by repeat (first | exact Drawn0.refl _ | apply Drawn0.step)⟩


def spec_DrawPlaces.l0 : Nat → List Int → Int → List Int → Int → Int → Option (List Int)
 | 0, _, _, _, _, _ => none
 | k + 1, x4, x5, x484000, x484001, x484002 => if x5 < 12 then ((spec_l01Below.f x484000 x484001 x484002 10000).bind fun bt490 => (if x4.length < 17592186044416 then (spec_DrawPlaces.l0 k (x4 ++ [bt490.1]) (wrap64 (x5 + 1)) x484000 bt490.2.1 bt490.2.2) else (none))) else (some x4)
def spec_DrawPlaces.f (k : Nat) (l0 : List Int) : Option (List Int) := (spec_l01New.f k l0).bind fun bt480 => ((spec_l01Byte.f bt480.1 bt480.2.1 bt480.2.2).bind fun bt484 => (spec_DrawPlaces.l0 k (([] : List Int)) 0 bt480.1 bt484.2.1 bt484.2.2))
theorem spec_DrawPlaces.mono_l : ∀ k, (∀ y0 y1 y2 y3 y4, LeO (spec_DrawPlaces.l0 k y0 y1 y2 y3 y4) (spec_DrawPlaces.l0 (k + 1) y0 y1 y2 y3 y4))
 | 0 => fun _ _ _ _ _ r h => by simp [spec_DrawPlaces.l0] at h
 | k + 1 => by
  have ih0 := spec_DrawPlaces.mono_l k
  ·intro y0 y1 y2 y3 y4
   unfold spec_DrawPlaces.l0
   have m0 := @spec_l01New.mono
   exact mo_
theorem spec_DrawPlaces.mono : ∀ a0 k, LeO (spec_DrawPlaces.f k a0) (spec_DrawPlaces.f (k + 1) a0) := by
 intro a0 k
 have ih0 := spec_DrawPlaces.mono_l k
 unfold spec_DrawPlaces.f
 have m0 := @spec_l01New.mono
 exact mo_
theorem spec_DrawPlaces.calls (k : Nat) (A0 : Option Addr) (c0 : Nat) (l0 : List Int) (r : List Int) (w : World) (hr0 : Kd.C (Kd.int .u8) w A0 l0.length l0) (hc0 : l0.length ≤ c0) (h : spec_DrawPlaces.f k l0 = some r) :
 Calls Try.prog 24 #[.slice A0 l0.length c0] w fun e w' => ∃ v0_ : Value, e = .returned (v0_) ∧ Kd.R (Kd.int .i64) 3 w' w.heap.size (fun _ => True) v0_ r ∧ Below w.heap.size w w' := by
 have HR0 := Aside0.mk hr0
 have HC0 := Aside0.mk hc0
 clear hr0 hc0
 have HB := Aside0.mk (Below.refl w.heap.size w)
 have H := h
 unfold spec_DrawPlaces.f at H
 clear h
 replace H := bs_ H
 obtain ⟨⟨t480, t481, t482⟩, A2, H⟩ := H
 try dsimp only at H
 replace H := bs_ H
 obtain ⟨⟨t484, t485, t486⟩, A3, H⟩ := H
 try dsimp only at H
 obtain ⟨y487, hy487⟩ : ∃ y_ : List Int, y_ = (([] : List Int)) := ⟨_, rfl⟩
 replace H : (spec_DrawPlaces.l0 k y487 0 t480 t485 t486) = some r := rp_ H hy487
 have Ny487 := Aside0.mk hy487
 clear hy487
 have H' := Aside0.mk H
 clear H
 go_enter Try.func24, Try.ntmps24
 go_wp2_with (first | ((with_reducible refine gate_callee (f := 60) rfl ?_); refine gs_ (some 7) Try.func60 #[.slice A0 l0.length c0] ?_; (with_reducible refine (spec_l01New.calls k _ _ l0 t480 t481 t482 w _ ?side1 ?side2 ?side3 A2.out).mono ?_); (case side1 => repeat (first | (with_reducible first | exact HB.out | apply below_alloc | apply pw_below_drewN | apply below_drew1) | exact HB.out)); (case side2 => exact HR0.out); (case side3 => exact HC0.out); rintro e w4 ⟨g483, rfl, hi, hb, hb2⟩; refine ⟨_, rfl, ?_⟩; replace HB := Aside0.mk (hb); have HI483 := Aside0.mk (hi); (try clear hb); (try clear hb2); (try clear hi)) | ((with_reducible refine gate_callee (f := 66) rfl ?_); refine gs_ (some 9) Try.func66 #[.pointer (some ⟨g483, 0, none⟩)] ?_; (with_reducible refine (spec_l01Byte.calls g483 t480 t481 t482 t484 t485 t486 w _ ?side1 ?side2 A3.out).mono ?_); (case side1 => exact is2_); (case side2 => exact bi2_); rintro e w5 ⟨rfl, hi, hb, hk⟩; refine ⟨_, rfl, ?_⟩; replace HB := Aside0.mk (hb); replace HI483 := Aside0.mk (hi); (try clear hb); (try clear hk); (try clear hi)) | ((with_reducible refine gate_dst (N := 10) rfl ?_); refine Kd.R_lit (Kd.int .i64) _ 3 ?hg (N := 10) ?hd (xs := ([] : List Int)) (inner := []) (ok := fun _ => True) (okp := fun _ => True) ?hr ?hp (fun _ hk => hk) trivial (Below.refl _ _) (Nat.le_refl _) (by simp) ?_; (case hd => rfl); (case hg => rfl); (case hr => first | (go_simp; done) | (go_simp; rfl)); (case hp => exact (Reps.none _ _)); intro v488 w6 ho7 hb hg_ hnew_; clear hg_ hnew_; (first | rw [← Ny487.out] at ho7 | (simp only [Int.reduceToNat] at ho7; rw [← Ny487.out] at ho7)); have HO489 := Aside0.mk (Kd.R_lower ho7 (below_size bi2_)); replace HB := Aside0.mk (below_step bi2_ hb); replace HI483 := Aside0.mk (IsS118.below is2_ hb); clear hb ho7))
 go_loopg [4, 5] k (fun kq v4 v5 w' => ∃ (x4_1 : List Int) (x5_1 : Int) (x484001_1 : Int) (x484002_1 : Int), v5 = .int .i64 x5_1 ∧ Aside0 (spec_DrawPlaces.l0 kq x4_1 x5_1 t480 x484001_1 x484002_1 = some r) ∧ Aside0 (kq ≤ k) ∧ Aside0 (Kd.R (Kd.int .i64) 3 w' w.heap.size (fun _ => True) v4 x4_1) ∧ Aside0 (IsS118 w w' g483 t480 x484001_1 x484002_1) ∧ Aside0 (Below w.heap.size w w'))
 case atStart => exact ⟨(y487), (0), (t485), (t486), (sr_), H', ⟨Nat.le_refl _⟩, ⟨ra_ HO489.out⟩, ⟨is2_⟩, ⟨bi2_⟩⟩
 clear H'
 obtain ⟨x4_1, x5_1, x484001_1, x484002_1, rfl, HA, HK1, HO_4, HI483, HB⟩ := hrel
 cases gk with
 | zero => exact absurd HA.out (by simp [spec_DrawPlaces.l0])
 | succ k1 => ?_
 have H := HA.out
 clear HA
 simp only [spec_DrawPlaces.l0] at H
 by_cases c8 : x5_1 < 12
 rotate_left
 ·rw [if_neg c8] at H
  have c8b0 := decide_eq_false c8
  clear c8
  obtain rfl := Option.some.inj H
  go_wp2
  go_ret
  exact ⟨_, er_, ra_ HO_4.out, bi2_⟩
 rw [if_pos c8] at H
 have c8b0 := decide_eq_true c8
 clear c8
 replace H := bs_ H
 obtain ⟨⟨t490, t491, t492⟩, A9, H⟩ := H
 try dsimp only at H
 by_cases c10 : x4_1.length < 17592186044416
 rotate_left
 ·exact nn_ c10 H
 rw [if_pos c10] at H
 have LMc10 := Aside0.mk c10
 clear c10
 obtain ⟨y493, hy493⟩ : ∃ y_ : List Int, y_ = (x4_1 ++ [t490]) := ⟨_, rfl⟩
 replace H : (spec_DrawPlaces.l0 k1 y493 (wrap64 (x5_1 + 1)) t480 t491 t492) = some r := rp_ H hy493
 have Ny493 := Aside0.mk hy493
 clear hy493
 have H' := Aside0.mk H
 clear H
 go_wp2_with (first | ((with_reducible refine gate_callee (f := 62) rfl ?_); refine gs_ (some 17) Try.func62 #[.pointer (some ⟨g483, 0, none⟩), .int .i64 10000] ?_; (with_reducible refine (spec_l01Below.calls g483 t480 x484001_1 x484002_1 10000 t490 t491 t492 w _ ?side1 ?side2 A9.out).mono ?_); (case side1 => exact is2_); (case side2 => exact bi2_); rintro e w11 ⟨rfl, hi, hb, hk⟩; refine ⟨_, rfl, ?_⟩; replace HO_4 := Aside0.mk (Kd.R_mono (Kd.R_keep (IsS118.apart (show IsS118 w _ g483 t480 x484001_1 x484002_1 from is2_) (ra_ HO_4.out) (by decide)) hk (fun _ h => h.2)) (fun _ h => h.1)); replace HB := Aside0.mk (hb); replace HI483 := Aside0.mk (hi); (try clear hb); (try clear hk); (try clear hi)) | ((with_reducible refine gate_builtin (b := .append) (xs := #[.tmp 15, .tmp 18]) rfl ?_); at_builtin; refine Kd.R_append (Kd.int .i64) (w0 := w) w.heap.size rfl (.tmp 15) (.tmp 18) 32 3 (.int .i64 0) 8 rfl Try.underlying32 info3 rfl (by decide) (by omega) u4 x4_1 t490 [.int .i64 t490] (fun _ => True) (fun _ => False) rfl rfl ?aP (fun _ hk => hk.elim) ?aF ?aO ?aB ?aS ?aL ?_; (case aP => exact rfl); (case aB => exact bi2_); (case aF => exact (fun _ _ => trivial)); (case aO => exact (ra_ HO_4.out)); (case aS => exact (below_size bi2_)); (case aL => have := LMc10.out; omega); intro v494 w12 ho hb hg hat; rw [← Ny493.out] at ho; replace HI483 := Aside0.mk (IsS118.grown (show IsS118 w _ g483 t480 t491 t492 from is2_) hg (IsS118.own_ne HI483.out HO_4.out (by decide))); replace HB := Aside0.mk (hb); have HO495 := Aside0.mk (ho); clear HO_4; clear ho hb hg hat))
 go_roundg k1
 case measure => have := HK1.out; omega
 case rel => exact ⟨(y493), (wrap64 (x5_1 + 1)), (t491), (t492), (sr_), H', ⟨by have := HK1.out; omega⟩, ⟨ra_ HO495.out⟩, ⟨is2_⟩, ⟨bi2_⟩⟩


def spec_CallOk.l0 : Nat → Int → Int → Int → List (S98) → Option (Bool)
 | 0, _, _, _, _ => none
 | k + 1, x3, x553000, x553001, x553002 => if x3 < (x553002.length : Int) then (if 0 ≤ x3 then ((spec_WideOk.f ((rd_T98 x553002 x3).f0) ((rd_T98 x553002 x3).f1)).bind fun t554 => (if t554 = true then (spec_CallOk.l0 k (wrap64 (x3 + 1)) x553000 x553001 x553002) else (some false))) else (none)) else ((spec_HalfOk.f x553000).bind fun t555 => (if t555 = true then ((spec_HalfOk.f x553001).bind fun t556 => (if t556 = true then (some ((x553002.length : Int) == 3)) else (some false))) else (some false)))
def spec_CallOk.f (k : Nat) (a0_0 : Int) (a0_1 : Int) (l0_2 : List (S98)) : Option (Bool) := spec_CallOk.l0 k 0 a0_0 a0_1 l0_2
theorem spec_CallOk.mono_l : ∀ k, (∀ y0 y1 y2 y3, LeO (spec_CallOk.l0 k y0 y1 y2 y3) (spec_CallOk.l0 (k + 1) y0 y1 y2 y3))
 | 0 => fun _ _ _ _ r h => by simp [spec_CallOk.l0] at h
 | k + 1 => by
  have ih0 := spec_CallOk.mono_l k
  ·intro y0 y1 y2 y3
   unfold spec_CallOk.l0
   exact mo_
theorem spec_CallOk.mono : ∀ a0 a1 a2 k, LeO (spec_CallOk.f k a0 a1 a2) (spec_CallOk.f (k + 1) a0 a1 a2) := by
 intro a0 a1 a2 k
 have ih0 := spec_CallOk.mono_l k
 unfold spec_CallOk.f
 exact mo_
theorem spec_CallOk.calls (k : Nat) (a0_0 : Int) (a0_1 : Int) (A0_2 : Option Addr) (c0_2 : Nat) (l0_2 : List (S98)) (r : Bool) (w : World) (hr0_2 : Kd.C k98 w A0_2 l0_2.length l0_2) (hc0_2 : l0_2.length ≤ c0_2) (h : spec_CallOk.f k a0_0 a0_1 l0_2 = some r) :
 Calls Try.prog 71 #[.agg #[.int .i64 a0_0, .int .i64 a0_1, .slice A0_2 l0_2.length c0_2]] w fun e w' => e = .returned (.bool r) ∧ Below w.heap.size w w' := by
 have hu47 := Try.underlying47
 have hu98 := Try.underlying98
 have HR0_2 := Aside0.mk hr0_2
 have HC0_2 := Aside0.mk hc0_2
 clear hr0_2 hc0_2
 have HB := Aside0.mk (Below.refl w.heap.size w)
 have H := h
 unfold spec_CallOk.f at H
 clear h
 have H' := Aside0.mk H
 clear H
 go_enter Try.func71, Try.ntmps71
 go_wp2_with (first | ((with_reducible refine gate_dst (N := 1) rfl ?_); (try (refine gate_guard (by rfl) ?_; dsimp only)); refine bx_ 1 47 #[.int .i64 a0_0, .int .i64 a0_1, .slice A0_2 l0_2.length c0_2] ?_; intro gb552 hg w2 hbox hb; have BK552 := Aside0.mk (hbox); have GW552 := Aside0.mk ((hz_ : w.heap.size ≤ gb552)); have GE552 := Aside0.mk ((hz_ : w.heap.size ≤ gb552)); replace HB := Aside0.mk (below_step bl_ hb); clear hb hbox hg))
 go_loopg [3] k (fun kq v3 w' => ∃ (x3_1 : Int), v3 = .int .i64 x3_1 ∧ Aside0 (spec_CallOk.l0 kq x3_1 a0_0 a0_1 l0_2 = some r) ∧ Aside0 (kq ≤ k) ∧ Aside0 (w'.heap[gb552]? = some (.cells #[.int .i64 a0_0, .int .i64 a0_1, (.slice A0_2 l0_2.length c0_2)] 47 (0, 0))) ∧ Aside0 (Below w.heap.size w w'))
 case atStart => exact ⟨(0), (sr_), H', ⟨Nat.le_refl _⟩, ⟨bk_ BK552.out⟩, ⟨bl_⟩⟩
 clear H'
 obtain ⟨x3_1, rfl, HA, HK1, BK552, HB⟩ := hrel
 cases gk with
 | zero => exact absurd HA.out (by simp [spec_CallOk.l0])
 | succ k1 => ?_
 have H := HA.out
 clear HA
 simp only [spec_CallOk.l0] at H
 by_cases c3 : x3_1 < (l0_2.length : Int)
 rotate_left
 ·rw [if_neg c3] at H
  have c3b0 := decide_eq_false c3
  clear c3
  replace H := bs_ H
  obtain ⟨t555, A11, H⟩ := H
  try dsimp only at H
  by_cases c12 : t555 = true
  rotate_left
  ·replace c12 := Bool.eq_false_iff.mpr c12
   subst c12
   rw [nf_] at H
   obtain rfl := Option.some.inj H
   obtain ⟨hcz17_0, hcz17_1, hcz17_2, hfz17_0, hfz17_1, hfz17_2⟩ := cf3_ BK552.out
   go_wp2_with (first | ((with_reducible refine gate_callee (f := 75) rfl ?_); refine gs_ (some 20) Try.func75 #[.int .i64 a0_0] ?_; (with_reducible refine (spec_HalfOk.calls a0_0 false _ A11.out).mono ?_); rintro e w' ⟨rfl, ⟨nd, rfl⟩⟩; refine ⟨_, rfl, ?_⟩))
   go_ret
   exact ⟨er_, bl_⟩
  subst c12
  rw [if_pos rfl] at H
  replace H := bs_ H
  obtain ⟨t556, A13, H⟩ := H
  try dsimp only at H
  by_cases c14 : t556 = true
  ·subst c14
   rw [if_pos rfl] at H
   obtain rfl := Option.some.inj H
   obtain ⟨hcz15_0, hcz15_1, hcz15_2, hfz15_0, hfz15_1, hfz15_2⟩ := cf3_ BK552.out
   go_wp2_with (first | ((with_reducible refine gate_callee (f := 75) rfl ?_); refine gs_ (some 20) Try.func75 #[.int .i64 a0_0] ?_; (with_reducible refine (spec_HalfOk.calls a0_0 true _ A11.out).mono ?_); rintro e w' ⟨rfl, ⟨nd, rfl⟩⟩; refine ⟨_, rfl, ?_⟩) | (go_at_call 75; (with_reducible refine (spec_HalfOk.calls a0_1 true _ A13.out).mono ?_); rintro e w' ⟨rfl, ⟨nd, rfl⟩⟩))
   go_ret
   exact ⟨er_, bl_⟩
  replace c14 := Bool.eq_false_iff.mpr c14
  subst c14
  rw [nf_] at H
  obtain rfl := Option.some.inj H
  obtain ⟨hcz16_0, hcz16_1, hcz16_2, hfz16_0, hfz16_1, hfz16_2⟩ := cf3_ BK552.out
  go_wp2_with (first | ((with_reducible refine gate_callee (f := 75) rfl ?_); refine gs_ (some 20) Try.func75 #[.int .i64 a0_0] ?_; (with_reducible refine (spec_HalfOk.calls a0_0 true _ A11.out).mono ?_); rintro e w' ⟨rfl, ⟨nd, rfl⟩⟩; refine ⟨_, rfl, ?_⟩) | (go_at_call 75; (with_reducible refine (spec_HalfOk.calls a0_1 false _ A13.out).mono ?_); rintro e w' ⟨rfl, ⟨nd, rfl⟩⟩))
  go_ret
  exact ⟨er_, bl_⟩
 rw [if_pos c3] at H
 have c3b0 := decide_eq_true c3
 clear c3
 by_cases c4 : 0 ≤ x3_1
 rotate_left
 ·exact nn_ c4 H
 rw [if_pos c4] at H
 have c4b0 := decide_eq_true c4
 clear c4
 replace H := bs_ H
 obtain ⟨t554, A5, H⟩ := H
 try dsimp only at H
 by_cases c6 : t554 = true
 rotate_left
 ·replace c6 := Bool.eq_false_iff.mpr c6
  subst c6
  rw [nf_] at H
  obtain rfl := Option.some.inj H
  obtain ⟨hcz9_0, hcz9_1, hcz9_2, hfz9_0, hfz9_1, hfz9_2⟩ := cf3_ BK552.out
  have p553 : 0 ≤ (x3_1 : Int) := of_decide_eq_true as_
  have q553 : x3_1 < (l0_2.length : Int) := of_decide_eq_true as_
  obtain ⟨ad553, e553, hx553_0, hx553_1⟩ := at_T98 HR0_2.out x3_1 p553 q553
  cases e553
  replace hx553_0 := (HB.out.cell (World.block_lt_of_cell? w _ hx553_0)).trans hx553_0
  replace hx553_1 := (HB.out.cell (World.block_lt_of_cell? w _ hx553_1)).trans hx553_1
  replace p553 := eq_true p553
  replace q553 := eq_true q553
  go_wp2_with (first | ((with_reducible refine gate_callee (f := 110) rfl ?_); refine gs_ (some 16) Try.func110 #[.agg #[.int .i64 ((rd_T98 l0_2 x3_1).f0), .int .i64 ((rd_T98 l0_2 x3_1).f1)]] ?_; (with_reducible refine (spec_WideOk.calls ((rd_T98 l0_2 x3_1).f0) ((rd_T98 l0_2 x3_1).f1) false _ A5.out).mono ?_); rintro e w10 ⟨rfl, hb⟩; refine ⟨_, rfl, ?_⟩; replace BK552 := Aside0.mk (blk_below (bn0_ BK552.out) hb); replace HB := Aside0.mk (below_step bl_ hb); (try clear hb)))
  go_ret
  exact ⟨er_, bl_⟩
 subst c6
 rw [if_pos rfl] at H
 have H' := Aside0.mk H
 clear H
 obtain ⟨hcz7_0, hcz7_1, hcz7_2, hfz7_0, hfz7_1, hfz7_2⟩ := cf3_ BK552.out
 have p553 : 0 ≤ (x3_1 : Int) := of_decide_eq_true as_
 have q553 : x3_1 < (l0_2.length : Int) := of_decide_eq_true as_
 obtain ⟨ad553, e553, hx553_0, hx553_1⟩ := at_T98 HR0_2.out x3_1 p553 q553
 cases e553
 replace hx553_0 := (HB.out.cell (World.block_lt_of_cell? w _ hx553_0)).trans hx553_0
 replace hx553_1 := (HB.out.cell (World.block_lt_of_cell? w _ hx553_1)).trans hx553_1
 replace p553 := eq_true p553
 replace q553 := eq_true q553
 go_wp2_with (first | ((with_reducible refine gate_callee (f := 110) rfl ?_); refine gs_ (some 16) Try.func110 #[.agg #[.int .i64 ((rd_T98 l0_2 x3_1).f0), .int .i64 ((rd_T98 l0_2 x3_1).f1)]] ?_; (with_reducible refine (spec_WideOk.calls ((rd_T98 l0_2 x3_1).f0) ((rd_T98 l0_2 x3_1).f1) true _ A5.out).mono ?_); rintro e w8 ⟨rfl, hb⟩; refine ⟨_, rfl, ?_⟩; replace BK552 := Aside0.mk (blk_below (bn0_ BK552.out) hb); replace HB := Aside0.mk (below_step bl_ hb); (try clear hb)))
 go_roundg k1
 case measure => have := HK1.out; omega
 case rel => exact ⟨(wrap64 (x3_1 + 1)), (sr_), H', ⟨by have := HK1.out; omega⟩, ⟨bk_ BK552.out⟩, ⟨bl_⟩⟩


def spec_l04Cmp.f (a0 : Int) (a1 : Int) : Option (Int) := if a0 < a1 then (some (-1)) else (if a0 > a1 then (some 1) else (some 0))
theorem spec_l04Cmp.calls (a0 : Int) (a1 : Int) (r : Int) (w : World) (h : spec_l04Cmp.f a0 a1 = some r) :
 Calls Try.prog 149 #[.int .i64 a0, .int .i64 a1] w fun e w' => e = .returned (.int .i64 r) ∧ Drawn0 w w' := by
 have H := h
 unfold spec_l04Cmp.f at H
 clear h
 by_cases c3 : a0 < a1
 ·rw [if_pos c3] at H
  have c3b0 := decide_eq_true c3
  clear c3
  obtain rfl := Option.some.inj H
  go_enter Try.func149, Try.ntmps149
  go_wp2
  go_ret
  exact ⟨sr_, by repeat (first | exact Drawn0.refl _ | apply Drawn0.step)⟩
 rw [if_neg c3] at H
 have c3b0 := decide_eq_false c3
 clear c3
 by_cases c4 : a0 > a1
 rotate_left
 ·rw [if_neg c4] at H
  have c4b0 := decide_eq_false c4
  clear c4
  obtain rfl := Option.some.inj H
  go_enter Try.func149, Try.ntmps149
  go_wp2
  go_ret
  exact ⟨sr_, by repeat (first | exact Drawn0.refl _ | apply Drawn0.step)⟩
 rw [if_pos c4] at H
 have c4b0 := decide_eq_true c4
 clear c4
 obtain rfl := Option.some.inj H
 go_enter Try.func149, Try.ntmps149
 go_wp2
 go_ret
 exact ⟨sr_, by repeat (first | exact Drawn0.refl _ | apply Drawn0.step)⟩


def spec_WideCmp.f (a0_0 : Int) (a0_1 : Int) (a1_0 : Int) (a1_1 : Int) : Option (Int) := (spec_l04Cmp.f a0_0 a1_0).bind fun t559 => (if t559 = 0 then ((spec_l04Cmp.f a0_1 a1_1).bind fun t560 => (some t560)) else (some t559))
theorem spec_WideCmp.calls (a0_0 : Int) (a0_1 : Int) (a1_0 : Int) (a1_1 : Int) (r : Int) (w : World) (h : spec_WideCmp.f a0_0 a0_1 a1_0 a1_1 = some r) :
 Calls Try.prog 130 #[.agg #[.int .i64 a0_0, .int .i64 a0_1], .agg #[.int .i64 a1_0, .int .i64 a1_1]] w fun e w' => e = .returned (.int .i64 r) ∧ Below w.heap.size w w' := by
 have hu98 := Try.underlying98
 have HB := Aside0.mk (Below.refl w.heap.size w)
 have H := h
 unfold spec_WideCmp.f at H
 clear h
 replace H := bs_ H
 obtain ⟨t559, A3, H⟩ := H
 try dsimp only at H
 by_cases c4 : t559 = 0
 rotate_left
 ·rw [if_neg c4] at H
  have c4b0 : (t559 == 0) = false := beq_eq_false_iff_ne.mpr c4
  have c4b1 : (t559 != 0) = true := bne_iff_ne.mpr c4
  obtain rfl := Option.some.inj H
  go_enter Try.func130, Try.ntmps130
  go_wp2_with (first | ((with_reducible refine gate_dst (N := 2) rfl ?_); refine bx_ 2 98 #[.int .i64 a0_0, .int .i64 a0_1] ?_; intro gb557 hg w11 hbox hb; have BK557 := Aside0.mk (hbox); have GW557 := Aside0.mk ((hz_ : w.heap.size ≤ gb557)); have GE557 := Aside0.mk ((hz_ : w.heap.size ≤ gb557)); replace HB := Aside0.mk (below_step bl_ hb); clear hb hbox hg) | ((with_reducible refine gate_dst (N := 3) rfl ?_); refine bx_ 3 98 #[.int .i64 a1_0, .int .i64 a1_1] ?_; intro gb558 hg w12 hbox hb; have BK558 := Aside0.mk (hbox); have GW558 := Aside0.mk ((hz_ : w.heap.size ≤ gb558)); have GE558 := Aside0.mk ((hz_ : w.heap.size ≤ gb558)); replace HB := Aside0.mk (below_step bl_ hb); have NB557_558 := Aside0.mk ((by rw [hg]; exact Nat.ne_of_lt (blk_lt (g := gb557) (o := .cells #[.int .i64 a0_0, .int .i64 a0_1] 98 (0, 0)) (bk_ BK557.out)) : gb557 ≠ gb558)); have NB558_557 := Aside0.mk ((by rw [hg]; exact Nat.ne_of_gt (blk_lt (g := gb557) (o := .cells #[.int .i64 a0_0, .int .i64 a0_1] 98 (0, 0)) (bk_ BK557.out)) : gb558 ≠ gb557)); replace BK557 := Aside0.mk (blk_below (bn0_ BK557.out) hb); clear hb hbox hg; have hnb13 := NB557_558.out; have hnc13 := NB558_557.out; obtain ⟨hcz14_0, hcz14_1, hfz14_0, hfz14_1⟩ := cf2_ BK557.out; obtain ⟨hcz15_0, hcz15_1, hfz15_0, hfz15_1⟩ := cf2_ BK558.out) | ((with_reducible refine gate_callee (f := 149) rfl ?_); refine gs_ (some 10) Try.func149 #[.int .i64 a0_0, .int .i64 a1_0] ?_; (with_reducible refine (spec_l04Cmp.calls a0_0 a1_0 t559 _ A3.out).mono ?_); rintro e w' ⟨rfl, ⟨nd, rfl⟩⟩; refine ⟨_, rfl, ?_⟩))
  go_ret
  exact ⟨er_, bl_⟩
 rw [if_pos c4] at H
 have c4b0 : (t559 == 0) = true := beq_iff_eq.mpr c4
 have c4b1 : (t559 != 0) = false := bne_eq_false_iff_eq.mpr c4
 clear c4
 replace H := bs_ H
 obtain ⟨t560, A5, H⟩ := H
 try dsimp only at H
 obtain rfl := Option.some.inj H
 go_enter Try.func130, Try.ntmps130
 go_wp2_with (first | ((with_reducible refine gate_dst (N := 2) rfl ?_); refine bx_ 2 98 #[.int .i64 a0_0, .int .i64 a0_1] ?_; intro gb557 hg w6 hbox hb; have BK557 := Aside0.mk (hbox); have GW557 := Aside0.mk ((hz_ : w.heap.size ≤ gb557)); have GE557 := Aside0.mk ((hz_ : w.heap.size ≤ gb557)); replace HB := Aside0.mk (below_step bl_ hb); clear hb hbox hg) | ((with_reducible refine gate_dst (N := 3) rfl ?_); refine bx_ 3 98 #[.int .i64 a1_0, .int .i64 a1_1] ?_; intro gb558 hg w7 hbox hb; have BK558 := Aside0.mk (hbox); have GW558 := Aside0.mk ((hz_ : w.heap.size ≤ gb558)); have GE558 := Aside0.mk ((hz_ : w.heap.size ≤ gb558)); replace HB := Aside0.mk (below_step bl_ hb); have NB557_558 := Aside0.mk ((by rw [hg]; exact Nat.ne_of_lt (blk_lt (g := gb557) (o := .cells #[.int .i64 a0_0, .int .i64 a0_1] 98 (0, 0)) (bk_ BK557.out)) : gb557 ≠ gb558)); have NB558_557 := Aside0.mk ((by rw [hg]; exact Nat.ne_of_gt (blk_lt (g := gb557) (o := .cells #[.int .i64 a0_0, .int .i64 a0_1] 98 (0, 0)) (bk_ BK557.out)) : gb558 ≠ gb557)); replace BK557 := Aside0.mk (blk_below (bn0_ BK557.out) hb); clear hb hbox hg; have hnb8 := NB557_558.out; have hnc8 := NB558_557.out; obtain ⟨hcz9_0, hcz9_1, hfz9_0, hfz9_1⟩ := cf2_ BK557.out; obtain ⟨hcz10_0, hcz10_1, hfz10_0, hfz10_1⟩ := cf2_ BK558.out) | ((with_reducible refine gate_callee (f := 149) rfl ?_); refine gs_ (some 10) Try.func149 #[.int .i64 a0_0, .int .i64 a1_0] ?_; (with_reducible refine (spec_l04Cmp.calls a0_0 a1_0 t559 _ A3.out).mono ?_); rintro e w' ⟨rfl, ⟨nd, rfl⟩⟩; refine ⟨_, rfl, ?_⟩) | ((with_reducible refine gate_callee (f := 149) rfl ?_); refine gs_ (some 17) Try.func149 #[.int .i64 a0_1, .int .i64 a1_1] ?_; (with_reducible refine (spec_l04Cmp.calls a0_1 a1_1 t560 _ A5.out).mono ?_); rintro e w' ⟨rfl, ⟨nd, rfl⟩⟩; refine ⟨_, rfl, ?_⟩))
 go_ret
 exact ⟨er_, bl_⟩


def spec_WideAnd.f (a0_0 : Int) (a0_1 : Int) (a1_0 : Int) (a1_1 : Int) : Option (Int × Int) := (spec_WideOk.f a0_0 a0_1).bind fun t564 => (if t564 = true then ((spec_WideOk.f a1_0 a1_1).bind fun t565 => (if t565 = true then (some (Go.bits .and .i64 a0_0 a1_0, Go.bits .and .i64 a0_1 a1_1)) else (some (0, 0)))) else (some (0, 0)))
theorem spec_WideAnd.calls (a0_0 : Int) (a0_1 : Int) (a1_0 : Int) (a1_1 : Int) (r1 : Int) (r2 : Int) (w : World) (h : spec_WideAnd.f a0_0 a0_1 a1_0 a1_1 = some (r1, r2)) :
 Calls Try.prog 131 #[.agg #[.int .i64 a0_0, .int .i64 a0_1], .agg #[.int .i64 a1_0, .int .i64 a1_1]] w fun e w' => e = .returned (.agg #[.int .i64 r1, .int .i64 r2]) ∧ Below w.heap.size w w' := by
 have hu98 := Try.underlying98
 have HB := Aside0.mk (Below.refl w.heap.size w)
 have H := h
 unfold spec_WideAnd.f at H
 clear h
 replace H := bs_ H
 obtain ⟨t564, A3, H⟩ := H
 try dsimp only at H
 by_cases c4 : t564 = true
 rotate_left
 ·replace c4 := Bool.eq_false_iff.mpr c4
  subst c4
  rw [nf_] at H
  simp only [Option.some.injEq, Prod.mk.injEq] at H
  obtain ⟨rfl, rfl⟩ := H
  go_enter Try.func131, Try.ntmps131
  go_wp2_with (first | ((with_reducible refine gate_dst (N := 2) rfl ?_); refine bx_ 2 98 #[.int .i64 a0_0, .int .i64 a0_1] ?_; intro gb561 hg w31 hbox hb; have BK561 := Aside0.mk (hbox); have GW561 := Aside0.mk ((hz_ : w.heap.size ≤ gb561)); have GE561 := Aside0.mk ((hz_ : w.heap.size ≤ gb561)); replace HB := Aside0.mk (below_step bl_ hb); clear hb hbox hg) | ((with_reducible refine gate_dst (N := 3) rfl ?_); refine bx_ 3 98 #[.int .i64 a1_0, .int .i64 a1_1] ?_; intro gb562 hg w32 hbox hb; have BK562 := Aside0.mk (hbox); have GW562 := Aside0.mk ((hz_ : w.heap.size ≤ gb562)); have GE562 := Aside0.mk ((hz_ : w.heap.size ≤ gb562)); replace HB := Aside0.mk (below_step bl_ hb); have NB561_562 := Aside0.mk ((by rw [hg]; exact Nat.ne_of_lt (blk_lt (g := gb561) (o := .cells #[.int .i64 a0_0, .int .i64 a0_1] 98 (0, 0)) (bk_ BK561.out)) : gb561 ≠ gb562)); have NB562_561 := Aside0.mk ((by rw [hg]; exact Nat.ne_of_gt (blk_lt (g := gb561) (o := .cells #[.int .i64 a0_0, .int .i64 a0_1] 98 (0, 0)) (bk_ BK561.out)) : gb562 ≠ gb561)); replace BK561 := Aside0.mk (blk_below (bn0_ BK561.out) hb); clear hb hbox hg) | ((with_reducible refine gate_dst (N := 4) rfl ?_); refine bx_ 4 98 #[.int .i64 0, .int .i64 0] ?_; intro gb563 hg w33 hbox hb; have BK563 := Aside0.mk (hbox); have GW563 := Aside0.mk ((hz_ : w.heap.size ≤ gb563)); have GE563 := Aside0.mk ((hz_ : w.heap.size ≤ gb563)); replace HB := Aside0.mk (below_step bl_ hb); have NB561_563 := Aside0.mk ((by rw [hg]; exact Nat.ne_of_lt (blk_lt (g := gb561) (o := .cells #[.int .i64 a0_0, .int .i64 a0_1] 98 (0, 0)) (bk_ BK561.out)) : gb561 ≠ gb563)); have NB563_561 := Aside0.mk ((by rw [hg]; exact Nat.ne_of_gt (blk_lt (g := gb561) (o := .cells #[.int .i64 a0_0, .int .i64 a0_1] 98 (0, 0)) (bk_ BK561.out)) : gb563 ≠ gb561)); replace BK561 := Aside0.mk (blk_below (bn0_ BK561.out) hb); have NB562_563 := Aside0.mk ((by rw [hg]; exact Nat.ne_of_lt (blk_lt (g := gb562) (o := .cells #[.int .i64 a1_0, .int .i64 a1_1] 98 (0, 0)) (bk_ BK562.out)) : gb562 ≠ gb563)); have NB563_562 := Aside0.mk ((by rw [hg]; exact Nat.ne_of_gt (blk_lt (g := gb562) (o := .cells #[.int .i64 a1_0, .int .i64 a1_1] 98 (0, 0)) (bk_ BK562.out)) : gb563 ≠ gb562)); replace BK562 := Aside0.mk (blk_below (bn0_ BK562.out) hb); clear hb hbox hg; have hnb34 := NB561_562.out; have hnc34 := NB562_561.out; have hnb35 := NB561_563.out; have hnc35 := NB563_561.out; obtain ⟨hcz36_0, hcz36_1, hfz36_0, hfz36_1⟩ := cf2_ BK561.out) | ((with_reducible refine gate_callee (f := 110) rfl ?_); refine gs_ (some 6) Try.func110 #[.agg #[.int .i64 a0_0, .int .i64 a0_1]] ?_; (with_reducible refine (spec_WideOk.calls a0_0 a0_1 false _ A3.out).mono ?_); rintro e w37 ⟨rfl, hb⟩; refine ⟨_, rfl, ?_⟩; replace BK561 := Aside0.mk (blk_below (bn0_ BK561.out) hb); replace BK562 := Aside0.mk (blk_below (bn0_ BK562.out) hb); replace BK563 := Aside0.mk (blk_below (bn0_ BK563.out) hb); replace HB := Aside0.mk (below_step bl_ hb); (try clear hb); have hnb38 := NB563_562.out; have hnc38 := NB562_563.out; obtain ⟨hcz39_0, hcz39_1, hfz39_0, hfz39_1⟩ := cf2_ BK563.out))
  refine bodyPost_ret (results_cell_row rfl _ _ gb563 98 #[.int .i64 0, .int .i64 0] (0, 0) _ rfl (bp0_ BK563.out) Try.underlying98 rfl (by kernel_rfl)) rfl ?_
  exact ⟨er_, bl_⟩
 subst c4
 rw [if_pos rfl] at H
 replace H := bs_ H
 obtain ⟨t565, A5, H⟩ := H
 try dsimp only at H
 by_cases c6 : t565 = true
 ·subst c6
  rw [if_pos rfl] at H
  simp only [Option.some.injEq, Prod.mk.injEq] at H
  obtain ⟨rfl, rfl⟩ := H
  go_enter Try.func131, Try.ntmps131
  go_wp2_with (first | ((with_reducible refine gate_dst (N := 2) rfl ?_); refine bx_ 2 98 #[.int .i64 a0_0, .int .i64 a0_1] ?_; intro gb561 hg w7 hbox hb; have BK561 := Aside0.mk (hbox); have GW561 := Aside0.mk ((hz_ : w.heap.size ≤ gb561)); have GE561 := Aside0.mk ((hz_ : w.heap.size ≤ gb561)); replace HB := Aside0.mk (below_step bl_ hb); clear hb hbox hg) | ((with_reducible refine gate_dst (N := 3) rfl ?_); refine bx_ 3 98 #[.int .i64 a1_0, .int .i64 a1_1] ?_; intro gb562 hg w8 hbox hb; have BK562 := Aside0.mk (hbox); have GW562 := Aside0.mk ((hz_ : w.heap.size ≤ gb562)); have GE562 := Aside0.mk ((hz_ : w.heap.size ≤ gb562)); replace HB := Aside0.mk (below_step bl_ hb); have NB561_562 := Aside0.mk ((by rw [hg]; exact Nat.ne_of_lt (blk_lt (g := gb561) (o := .cells #[.int .i64 a0_0, .int .i64 a0_1] 98 (0, 0)) (bk_ BK561.out)) : gb561 ≠ gb562)); have NB562_561 := Aside0.mk ((by rw [hg]; exact Nat.ne_of_gt (blk_lt (g := gb561) (o := .cells #[.int .i64 a0_0, .int .i64 a0_1] 98 (0, 0)) (bk_ BK561.out)) : gb562 ≠ gb561)); replace BK561 := Aside0.mk (blk_below (bn0_ BK561.out) hb); clear hb hbox hg) | ((with_reducible refine gate_dst (N := 4) rfl ?_); refine bx_ 4 98 #[.int .i64 0, .int .i64 0] ?_; intro gb563 hg w9 hbox hb; have BK563 := Aside0.mk (hbox); have GW563 := Aside0.mk ((hz_ : w.heap.size ≤ gb563)); have GE563 := Aside0.mk ((hz_ : w.heap.size ≤ gb563)); replace HB := Aside0.mk (below_step bl_ hb); have NB561_563 := Aside0.mk ((by rw [hg]; exact Nat.ne_of_lt (blk_lt (g := gb561) (o := .cells #[.int .i64 a0_0, .int .i64 a0_1] 98 (0, 0)) (bk_ BK561.out)) : gb561 ≠ gb563)); have NB563_561 := Aside0.mk ((by rw [hg]; exact Nat.ne_of_gt (blk_lt (g := gb561) (o := .cells #[.int .i64 a0_0, .int .i64 a0_1] 98 (0, 0)) (bk_ BK561.out)) : gb563 ≠ gb561)); replace BK561 := Aside0.mk (blk_below (bn0_ BK561.out) hb); have NB562_563 := Aside0.mk ((by rw [hg]; exact Nat.ne_of_lt (blk_lt (g := gb562) (o := .cells #[.int .i64 a1_0, .int .i64 a1_1] 98 (0, 0)) (bk_ BK562.out)) : gb562 ≠ gb563)); have NB563_562 := Aside0.mk ((by rw [hg]; exact Nat.ne_of_gt (blk_lt (g := gb562) (o := .cells #[.int .i64 a1_0, .int .i64 a1_1] 98 (0, 0)) (bk_ BK562.out)) : gb563 ≠ gb562)); replace BK562 := Aside0.mk (blk_below (bn0_ BK562.out) hb); clear hb hbox hg; have hnb10 := NB561_562.out; have hnc10 := NB562_561.out; have hnb11 := NB561_563.out; have hnc11 := NB563_561.out; obtain ⟨hcz12_0, hcz12_1, hfz12_0, hfz12_1⟩ := cf2_ BK561.out) | ((with_reducible refine gate_callee (f := 110) rfl ?_); refine gs_ (some 6) Try.func110 #[.agg #[.int .i64 a0_0, .int .i64 a0_1]] ?_; (with_reducible refine (spec_WideOk.calls a0_0 a0_1 true _ A3.out).mono ?_); rintro e w13 ⟨rfl, hb⟩; refine ⟨_, rfl, ?_⟩; replace BK561 := Aside0.mk (blk_below (bn0_ BK561.out) hb); replace BK562 := Aside0.mk (blk_below (bn0_ BK562.out) hb); replace BK563 := Aside0.mk (blk_below (bn0_ BK563.out) hb); replace HB := Aside0.mk (below_step bl_ hb); (try clear hb); have hnb14 := NB562_563.out; have hnc14 := NB563_562.out; have hcz15_0 : w13.cell? ⟨gb562, 0, none⟩ = some (.int .i64 a1_0) := (blk_cell BK562.out 0).trans rfl; have hcz15_1 : w13.cell? ⟨gb562, 1, none⟩ = some (.int .i64 a1_1) := (blk_cell BK562.out 1).trans rfl; have hfz15_0 := blk_frozen BK562.out 0; have hfz15_1 := blk_frozen BK562.out 1) | (go_at_call 110; (with_reducible refine (spec_WideOk.calls a1_0 a1_1 true _ A5.out).mono ?_); rintro e w16 ⟨rfl, hb⟩; replace BK561 := Aside0.mk (blk_below (bn0_ BK561.out) hb); replace BK562 := Aside0.mk (blk_below (bn0_ BK562.out) hb); replace BK563 := Aside0.mk (blk_below (bn0_ BK563.out) hb); replace HB := Aside0.mk (below_step bl_ hb); (try clear hb); obtain ⟨hcz17_0, hcz17_1, hfz17_0, hfz17_1⟩ := cf2_ BK561.out; obtain ⟨hcz18_0, hcz18_1, hfz18_0, hfz18_1⟩ := cf2_ BK562.out; obtain ⟨hcz19_0, hcz19_1, hfz19_0, hfz19_1⟩ := cf2_ BK563.out))
  refine bodyPost_ret (results_cell_row rfl _ _ gb563 98 #[.int .i64 (Go.bits .and .i64 a0_0 a1_0), .int .i64 (Go.bits .and .i64 a0_1 a1_1)] (0, 0) _ rfl (bp0_ BK563.out) Try.underlying98 rfl (by kernel_rfl)) rfl ?_
  exact ⟨er_, bl_⟩
 replace c6 := Bool.eq_false_iff.mpr c6
 subst c6
 rw [nf_] at H
 simp only [Option.some.injEq, Prod.mk.injEq] at H
 obtain ⟨rfl, rfl⟩ := H
 go_enter Try.func131, Try.ntmps131
 go_wp2_with (first | ((with_reducible refine gate_dst (N := 2) rfl ?_); refine bx_ 2 98 #[.int .i64 a0_0, .int .i64 a0_1] ?_; intro gb561 hg w20 hbox hb; have BK561 := Aside0.mk (hbox); have GW561 := Aside0.mk ((hz_ : w.heap.size ≤ gb561)); have GE561 := Aside0.mk ((hz_ : w.heap.size ≤ gb561)); replace HB := Aside0.mk (below_step bl_ hb); clear hb hbox hg) | ((with_reducible refine gate_dst (N := 3) rfl ?_); refine bx_ 3 98 #[.int .i64 a1_0, .int .i64 a1_1] ?_; intro gb562 hg w21 hbox hb; have BK562 := Aside0.mk (hbox); have GW562 := Aside0.mk ((hz_ : w.heap.size ≤ gb562)); have GE562 := Aside0.mk ((hz_ : w.heap.size ≤ gb562)); replace HB := Aside0.mk (below_step bl_ hb); have NB561_562 := Aside0.mk ((by rw [hg]; exact Nat.ne_of_lt (blk_lt (g := gb561) (o := .cells #[.int .i64 a0_0, .int .i64 a0_1] 98 (0, 0)) (bk_ BK561.out)) : gb561 ≠ gb562)); have NB562_561 := Aside0.mk ((by rw [hg]; exact Nat.ne_of_gt (blk_lt (g := gb561) (o := .cells #[.int .i64 a0_0, .int .i64 a0_1] 98 (0, 0)) (bk_ BK561.out)) : gb562 ≠ gb561)); replace BK561 := Aside0.mk (blk_below (bn0_ BK561.out) hb); clear hb hbox hg) | ((with_reducible refine gate_dst (N := 4) rfl ?_); refine bx_ 4 98 #[.int .i64 0, .int .i64 0] ?_; intro gb563 hg w22 hbox hb; have BK563 := Aside0.mk (hbox); have GW563 := Aside0.mk ((hz_ : w.heap.size ≤ gb563)); have GE563 := Aside0.mk ((hz_ : w.heap.size ≤ gb563)); replace HB := Aside0.mk (below_step bl_ hb); have NB561_563 := Aside0.mk ((by rw [hg]; exact Nat.ne_of_lt (blk_lt (g := gb561) (o := .cells #[.int .i64 a0_0, .int .i64 a0_1] 98 (0, 0)) (bk_ BK561.out)) : gb561 ≠ gb563)); have NB563_561 := Aside0.mk ((by rw [hg]; exact Nat.ne_of_gt (blk_lt (g := gb561) (o := .cells #[.int .i64 a0_0, .int .i64 a0_1] 98 (0, 0)) (bk_ BK561.out)) : gb563 ≠ gb561)); replace BK561 := Aside0.mk (blk_below (bn0_ BK561.out) hb); have NB562_563 := Aside0.mk ((by rw [hg]; exact Nat.ne_of_lt (blk_lt (g := gb562) (o := .cells #[.int .i64 a1_0, .int .i64 a1_1] 98 (0, 0)) (bk_ BK562.out)) : gb562 ≠ gb563)); have NB563_562 := Aside0.mk ((by rw [hg]; exact Nat.ne_of_gt (blk_lt (g := gb562) (o := .cells #[.int .i64 a1_0, .int .i64 a1_1] 98 (0, 0)) (bk_ BK562.out)) : gb563 ≠ gb562)); replace BK562 := Aside0.mk (blk_below (bn0_ BK562.out) hb); clear hb hbox hg; have hnb23 := NB561_562.out; have hnc23 := NB562_561.out; have hnb24 := NB561_563.out; have hnc24 := NB563_561.out; obtain ⟨hcz25_0, hcz25_1, hfz25_0, hfz25_1⟩ := cf2_ BK561.out) | ((with_reducible refine gate_callee (f := 110) rfl ?_); refine gs_ (some 6) Try.func110 #[.agg #[.int .i64 a0_0, .int .i64 a0_1]] ?_; (with_reducible refine (spec_WideOk.calls a0_0 a0_1 true _ A3.out).mono ?_); rintro e w26 ⟨rfl, hb⟩; refine ⟨_, rfl, ?_⟩; replace BK561 := Aside0.mk (blk_below (bn0_ BK561.out) hb); replace BK562 := Aside0.mk (blk_below (bn0_ BK562.out) hb); replace BK563 := Aside0.mk (blk_below (bn0_ BK563.out) hb); replace HB := Aside0.mk (below_step bl_ hb); (try clear hb); have hnb27 := NB562_563.out; have hnc27 := NB563_562.out; have hcz28_0 : w26.cell? ⟨gb562, 0, none⟩ = some (.int .i64 a1_0) := (blk_cell BK562.out 0).trans rfl; have hcz28_1 : w26.cell? ⟨gb562, 1, none⟩ = some (.int .i64 a1_1) := (blk_cell BK562.out 1).trans rfl; have hfz28_0 := blk_frozen BK562.out 0; have hfz28_1 := blk_frozen BK562.out 1) | (go_at_call 110; (with_reducible refine (spec_WideOk.calls a1_0 a1_1 false _ A5.out).mono ?_); rintro e w29 ⟨rfl, hb⟩; replace BK561 := Aside0.mk (blk_below (bn0_ BK561.out) hb); replace BK562 := Aside0.mk (blk_below (bn0_ BK562.out) hb); replace BK563 := Aside0.mk (blk_below (bn0_ BK563.out) hb); replace HB := Aside0.mk (below_step bl_ hb); (try clear hb); obtain ⟨hcz30_0, hcz30_1, hfz30_0, hfz30_1⟩ := cf2_ BK563.out))
 refine bodyPost_ret (results_cell_row rfl _ _ gb563 98 #[.int .i64 0, .int .i64 0] (0, 0) _ rfl (bp0_ BK563.out) Try.underlying98 rfl (by kernel_rfl)) rfl ?_
 exact ⟨er_, bl_⟩


def spec_CondHolds.j0 : Nat → Bool → Int → Int → Int → Int → Int → Int → Int → Int → List (S98) → Option (Bool)
 | 0, _, _, _, _, _, _, _, _, _, _ => none
 | k + 1, x13, x567000, x567001, x567002, x567003, x567004, x567005, x568000, x568001, x568002 => if x13 = true then (some false) else (if 0 ≤ x567000 then (if x567000 < (x568002.length : Int) then ((spec_WideAnd.f ((rd_T98 x568002 x567000).f0) ((rd_T98 x568002 x567000).f1) x567001 x567002).bind fun bt571 => ((spec_WideCmp.f bt571.1 bt571.2 x567004 x567005).bind fun t573 => (if x567003 = 1 then (some (t573 == 0)) else (if x567003 = 2 then (some (t573 != 0)) else (if x567003 = 3 then (some (decide (t573 < 0))) else (if x567003 = 4 then (some (decide (t573 ≤ 0))) else (if x567003 = 5 then (some (decide (t573 > 0))) else (some (decide (t573 ≥ 0)))))))))) else (none)) else (none))
def spec_CondHolds.f (k : Nat) (a0_0 : Int) (a0_1 : Int) (a0_2 : Int) (a0_3 : Int) (a0_4 : Int) (a0_5 : Int) (a1_0 : Int) (a1_1 : Int) (l1_2 : List (S98)) : Option (Bool) := (spec_CondOk.f a0_0 a0_1 a0_2 a0_3 a0_4 a0_5).bind fun t568 => (if t568 = true then ((spec_CallOk.f k a1_0 a1_1 l1_2).bind fun t569 => (spec_CondHolds.j0 k (!t569) a0_0 a0_1 a0_2 a0_3 a0_4 a0_5 a1_0 a1_1 l1_2)) else (spec_CondHolds.j0 k true a0_0 a0_1 a0_2 a0_3 a0_4 a0_5 a1_0 a1_1 l1_2))
theorem spec_CondHolds.mono_l : ∀ k, (∀ y0 y1 y2 y3 y4 y5 y6 y7 y8 y9, LeO (spec_CondHolds.j0 k y0 y1 y2 y3 y4 y5 y6 y7 y8 y9) (spec_CondHolds.j0 (k + 1) y0 y1 y2 y3 y4 y5 y6 y7 y8 y9))
 | 0 => fun _ _ _ _ _ _ _ _ _ _ r h => by simp [spec_CondHolds.j0] at h
 | k + 1 => by
  have ih0 := spec_CondHolds.mono_l k
  ·intro y0 y1 y2 y3 y4 y5 y6 y7 y8 y9
   unfold spec_CondHolds.j0
   have m0 := @spec_CallOk.mono
   exact mo_
theorem spec_CondHolds.mono : ∀ a0 a1 a2 a3 a4 a5 a6 a7 a8 k, LeO (spec_CondHolds.f k a0 a1 a2 a3 a4 a5 a6 a7 a8) (spec_CondHolds.f (k + 1) a0 a1 a2 a3 a4 a5 a6 a7 a8) := by
 intro a0 a1 a2 a3 a4 a5 a6 a7 a8 k
 have ih0 := spec_CondHolds.mono_l k
 unfold spec_CondHolds.f
 have m0 := @spec_CallOk.mono
 exact mo_
def spec_CondHolds.T3 : Bool × List (List Nat × List Nat) := (true, [([], []), ([0], [0]), ([], []), ([2], [2]), ([1, 3], [1, 3]), ([4], [4]), ([], []), ([6], [6]), ([5, 7], [5, 7]), ([], []), ([9], [9]), ([8, 10, 8], [8, 10]), ([11, 11, 0, 1, 2, 3, 4, 5, 6, 7, 8, 9, 10, 11], [11])])
def spec_CondHolds.B3 : List Nat := [0, 1, 0, 4, 15, 31, 0, 64, 255, 0, 512, 2047, 4095]
theorem spec_CondHolds.tab3 : rtab .any (opsOf Try.f111 3) = spec_CondHolds.T3 := by kernel_rfl
theorem spec_CondHolds.bits3 : waitsOk spec_CondHolds.T3.2 spec_CondHolds.B3 = true := by kernel_rfl
theorem spec_CondHolds.calls (k : Nat) (a0_0 : Int) (a0_1 : Int) (a0_2 : Int) (a0_3 : Int) (a0_4 : Int) (a0_5 : Int) (a1_0 : Int) (a1_1 : Int) (A1_2 : Option Addr) (c1_2 : Nat) (l1_2 : List (S98)) (r : Bool) (w : World) (hr1_2 : Kd.C k98 w A1_2 l1_2.length l1_2) (hc1_2 : l1_2.length ≤ c1_2) (h : spec_CondHolds.f k a0_0 a0_1 a0_2 a0_3 a0_4 a0_5 a1_0 a1_1 l1_2 = some r) :
 Calls Try.prog 111 #[.agg #[.int .i64 a0_0, .int .i64 a0_1, .int .i64 a0_2, .int .i64 a0_3, .int .i64 a0_4, .int .i64 a0_5], .agg #[.int .i64 a1_0, .int .i64 a1_1, .slice A1_2 l1_2.length c1_2]] w fun e w' => e = .returned (.bool r) ∧ Below w.heap.size w w' := by
 have hu100 := Try.underlying100
 have hu47 := Try.underlying47
 have hu98 := Try.underlying98
 have HR1_2 := Aside0.mk hr1_2
 have HC1_2 := Aside0.mk hc1_2
 clear hr1_2 hc1_2
 have HB := Aside0.mk (Below.refl w.heap.size w)
 have H := h
 unfold spec_CondHolds.f at H
 clear h
 have HC3 := Aside0.mk H
 clear H
 go_enter Try.func111, Try.ntmps111
 go_upto_region 1 with (first | ((with_reducible refine gate_dst (N := 2) rfl ?_); refine bx_ 2 100 #[.int .i64 a0_0, .int .i64 a0_1, .int .i64 a0_2, .int .i64 a0_3, .int .i64 a0_4, .int .i64 a0_5] ?_; intro gb566 hg w4 hbox hb; have BK566 := Aside0.mk (hbox); have GW566 := Aside0.mk ((hz_ : w.heap.size ≤ gb566)); have GE566 := Aside0.mk ((hz_ : w.heap.size ≤ gb566)); replace HB := Aside0.mk (below_step bl_ hb); clear hb hbox hg) | ((with_reducible refine gate_dst (N := 3) rfl ?_); refine bx_ 3 47 #[.int .i64 a1_0, .int .i64 a1_1, .slice A1_2 l1_2.length c1_2] ?_; intro gb567 hg w5 hbox hb; have BK567 := Aside0.mk (hbox); have GW567 := Aside0.mk ((hz_ : w.heap.size ≤ gb567)); have GE567 := Aside0.mk ((hz_ : w.heap.size ≤ gb567)); replace HB := Aside0.mk (below_step bl_ hb); have NB566_567 := Aside0.mk ((by rw [hg]; exact Nat.ne_of_lt (blk_lt (g := gb566) (o := .cells #[.int .i64 a0_0, .int .i64 a0_1, .int .i64 a0_2, .int .i64 a0_3, .int .i64 a0_4, .int .i64 a0_5] 100 (0, 0)) (bk_ BK566.out)) : gb566 ≠ gb567)); have NB567_566 := Aside0.mk ((by rw [hg]; exact Nat.ne_of_gt (blk_lt (g := gb566) (o := .cells #[.int .i64 a0_0, .int .i64 a0_1, .int .i64 a0_2, .int .i64 a0_3, .int .i64 a0_4, .int .i64 a0_5] 100 (0, 0)) (bk_ BK566.out)) : gb567 ≠ gb566)); replace BK566 := Aside0.mk (blk_below (bn0_ BK566.out) hb); clear hb hbox hg))
 (try simp only [Act.put, List.setIfInBounds_toArray, List.set_cons_zero, List.set_cons_succ])
 go_cut [13] (fun v13 wc => ∃ (kq : Nat) (x13_2 : Bool), v13 = .bool x13_2 ∧ Aside0 (spec_CondHolds.j0 kq x13_2 a0_0 a0_1 a0_2 a0_3 a0_4 a0_5 a1_0 a1_1 l1_2 = some r) ∧ Aside0 (kq ≤ k) ∧ Aside0 (wc.heap[gb566]? = some (.cells #[.int .i64 a0_0, .int .i64 a0_1, .int .i64 a0_2, .int .i64 a0_3, .int .i64 a0_4, .int .i64 a0_5] 100 (0, 0))) ∧ Aside0 (wc.heap[gb567]? = some (.cells #[.int .i64 a1_0, .int .i64 a1_1, (.slice A1_2 l1_2.length c1_2)] 47 (0, 0))) ∧ Aside0 (Below w.heap.size w wc))
 case first =>
  have H := HC3.out
  clear HC3
  replace H := bs_ H
  obtain ⟨t568, A6, H⟩ := H
  try dsimp only at H
  by_cases c7 : t568 = true
  rotate_left
  ·replace c7 := Bool.eq_false_iff.mpr c7
   subst c7
   rw [nf_] at H
   have H' := Aside0.mk H
   clear H
   have hnb14 := NB566_567.out
   have hnc14 := NB567_566.out
   obtain ⟨hcz15_0, hcz15_1, hcz15_2, hcz15_3, hcz15_4, hcz15_5, hfz15_0, hfz15_1, hfz15_2, hfz15_3, hfz15_4, hfz15_5⟩ := cf6_ BK566.out
   go_wp2_with (first | ((with_reducible refine gate_callee (f := 112) rfl ?_); refine gs_ (some 7) Try.func112 #[.agg #[.int .i64 a0_0, .int .i64 a0_1, .int .i64 a0_2, .int .i64 a0_3, .int .i64 a0_4, .int .i64 a0_5]] ?_; (with_reducible refine (spec_CondOk.calls a0_0 a0_1 a0_2 a0_3 a0_4 a0_5 false _ A6.out).mono ?_); rintro e w16 ⟨rfl, hb⟩; refine ⟨_, rfl, ?_⟩; replace BK566 := Aside0.mk (blk_below (bn0_ BK566.out) hb); replace BK567 := Aside0.mk (blk_below (bn0_ BK567.out) hb); replace HB := Aside0.mk (below_step bl_ hb); (try clear hb)))
   go_meet
   case rel => exact ⟨_, (true), (sr_), H', ⟨by first | omega | exact Nat.le_refl _⟩, ⟨bk_ BK566.out⟩, ⟨bk_ BK567.out⟩, ⟨bl_⟩⟩
  subst c7
  rw [if_pos rfl] at H
  replace H := bs_ H
  obtain ⟨t569, A8, H⟩ := H
  try dsimp only at H
  have H' := Aside0.mk H
  clear H
  have hnb9 := NB566_567.out
  have hnc9 := NB567_566.out
  obtain ⟨hcz10_0, hcz10_1, hcz10_2, hcz10_3, hcz10_4, hcz10_5, hfz10_0, hfz10_1, hfz10_2, hfz10_3, hfz10_4, hfz10_5⟩ := cf6_ BK566.out
  go_wp2_with (first | ((with_reducible refine gate_callee (f := 112) rfl ?_); refine gs_ (some 7) Try.func112 #[.agg #[.int .i64 a0_0, .int .i64 a0_1, .int .i64 a0_2, .int .i64 a0_3, .int .i64 a0_4, .int .i64 a0_5]] ?_; (with_reducible refine (spec_CondOk.calls a0_0 a0_1 a0_2 a0_3 a0_4 a0_5 true _ A6.out).mono ?_); rintro e w11 ⟨rfl, hb⟩; refine ⟨_, rfl, ?_⟩; replace BK566 := Aside0.mk (blk_below (bn0_ BK566.out) hb); replace BK567 := Aside0.mk (blk_below (bn0_ BK567.out) hb); replace HB := Aside0.mk (below_step bl_ hb); (try clear hb); have hcz12_0 : w11.cell? ⟨gb567, 0, none⟩ = some (.int .i64 a1_0) := (blk_cell BK567.out 0).trans rfl; have hcz12_1 : w11.cell? ⟨gb567, 1, none⟩ = some (.int .i64 a1_1) := (blk_cell BK567.out 1).trans rfl; have hcz12_2 : w11.cell? ⟨gb567, 2, none⟩ = some (.slice A1_2 l1_2.length c1_2) := (blk_cell BK567.out 2).trans rfl; have hfz12_0 := blk_frozen BK567.out 0; have hfz12_1 := blk_frozen BK567.out 1; have hfz12_2 := blk_frozen BK567.out 2) | (go_at_call 71; (with_reducible refine (spec_CallOk.calls k a1_0 a1_1 _ _ l1_2 t569 _ ?side1 ?side2 A8.out).mono ?_); (case side1 => exact cb_ HR1_2.out HB.out); (case side2 => exact HC1_2.out); rintro e w13 ⟨rfl, hb⟩; replace BK566 := Aside0.mk (blk_below (bn0_ BK566.out) hb); replace BK567 := Aside0.mk (blk_below (bn0_ BK567.out) hb); replace HB := Aside0.mk (below_step bl_ hb); (try clear hb)))
  go_meet
  case rel => exact ⟨_, (!t569), (sr_), H', ⟨by first | omega | exact Nat.le_refl _⟩, ⟨bk_ BK566.out⟩, ⟨bk_ BK567.out⟩, ⟨bl_⟩⟩
 clear HC3
 obtain ⟨kq, x13_2, rfl, HA, HJ2, BK566, BK567, HB⟩ := hcut
 cases kq with
 | zero => exact absurd HA.out (by simp [spec_CondHolds.j0])
 | succ kj2 => ?_
 have H := HA.out
 clear HA
 simp only [spec_CondHolds.j0] at H
 by_cases c17 : x13_2 = true
 ·subst c17
  rw [if_pos rfl] at H
  obtain rfl := Option.some.inj H
  go_wp2
  go_ret
  exact ⟨er_, bl_⟩
 replace c17 := Bool.eq_false_iff.mpr c17
 subst c17
 rw [nf_] at H
 by_cases c18 : 0 ≤ a0_0
 rotate_left
 ·exact nn_ c18 H
 rw [if_pos c18] at H
 have c18b0 := decide_eq_true c18
 clear c18
 by_cases c19 : a0_0 < (l1_2.length : Int)
 rotate_left
 ·exact nn_ c19 H
 rw [if_pos c19] at H
 have c19b0 := decide_eq_true c19
 clear c19
 replace H := bs_ H
 obtain ⟨⟨t571, t572⟩, A20, H⟩ := H
 try dsimp only at H
 replace H := bs_ H
 obtain ⟨t573, A21, H⟩ := H
 try dsimp only at H
 by_cases c22 : a0_3 = 1
 ·rw [if_pos c22] at H
  have c22b0 : (a0_3 == 1) = true := beq_iff_eq.mpr c22
  have c22b1 : (a0_3 != 1) = false := bne_eq_false_iff_eq.mpr c22
  clear c22
  obtain rfl := Option.some.inj H
  try go_wp2
  have n0_ := Aside0.mk (blk_drew BK566.out)
  have n1_ := Aside0.mk (blk_drew BK567.out)
  have n2_ := Aside0.mk (below_drew1 HB.out)
  clear BK566
  clear BK567
  clear HB
  have BK566 := n0_
  have BK567 := n1_
  have HB := n2_
  clear n0_ n1_ n2_
  have p570 : 0 ≤ (a0_0 : Int) := of_decide_eq_true as_
  have q570 : a0_0 < (l1_2.length : Int) := of_decide_eq_true as_
  obtain ⟨ad570, e570, hx570_0, hx570_1⟩ := at_T98 HR1_2.out a0_0 p570 q570
  have hw570_1 := hx570_1
  have hw570_0 := hx570_0
  cases e570
  replace hx570_0 := (HB.out.cell (World.block_lt_of_cell? w _ hx570_0)).trans hx570_0
  replace hx570_1 := (HB.out.cell (World.block_lt_of_cell? w _ hx570_1)).trans hx570_1
  replace p570 := eq_true p570
  replace q570 := eq_true q570
  refine start_ (n := 13) (S := fun w' => w'.cell? ⟨gb567, 0, none⟩ = some (.int .i64 a1_0) ∧ w'.cell? ⟨gb567, 1, none⟩ = some (.int .i64 a1_1) ∧ w'.cell? ⟨gb567, 2, none⟩ = some (.slice (some ad570) l1_2.length c1_2) ∧ w'.cell? ⟨gb566, 0, none⟩ = some (.int .i64 a0_0) ∧ w'.cell? ⟨gb566, 1, none⟩ = some (.int .i64 a0_1) ∧ w'.cell? ⟨gb566, 2, none⟩ = some (.int .i64 a0_2) ∧ w'.cell? ⟨gb566, 3, none⟩ = some (.int .i64 a0_3) ∧ w'.cell? ⟨gb566, 4, none⟩ = some (.int .i64 a0_4) ∧ w'.cell? ⟨gb566, 5, none⟩ = some (.int .i64 a0_5) ∧ w'.cell? (ad570.add ((a0_0).toNat * 2)) = some (.int .i64 ((rd_T98 l1_2 a0_0).f0)) ∧ w'.cell? ⟨(ad570.add ((a0_0).toNat * 2)).block, (ad570.add ((a0_0).toNat * 2)).off + 1, none⟩ = some (.int .i64 ((rd_T98 l1_2 a0_0).f1))) (ds := []) #[false, false, false, false, false, false, false, false, false, false, false, false, false] (by kernel_rfl) rfl rfl ⟨(blk_cell BK567.out 0).trans rfl, (blk_cell BK567.out 1).trans rfl, (blk_cell BK567.out 2).trans rfl, (blk_cell BK566.out 0).trans rfl, (blk_cell BK566.out 1).trans rfl, (blk_cell BK566.out 2).trans rfl, (blk_cell BK566.out 3).trans rfl, (blk_cell BK566.out 4).trans rfl, (blk_cell BK566.out 5).trans rfl, ((HB.out.cell (World.block_lt_of_cell? w _ hw570_0)).trans hw570_0), ((HB.out.cell (World.block_lt_of_cell? w _ hw570_1)).trans hw570_1)⟩ (fun hHeld => ?_); refine with_tabW spec_CondHolds.tab3 spec_CondHolds.bits3 (fun HT_ HW_ => ?_)
  generalize wc.drew = w23 at BK566 BK567 HB hx570_0 hx570_1 hHeld ⊢
  refine pu_ 0 14 HT_ ?_
  refine pu_ 2 16 HT_ ?_
  refine pu_ 6 20 HT_ ?_
  refine pu_ 9 23 HT_ ?_
  refine ta_ 1 15 HT_ HW_ hHeld ?_ (r := by rintro w' ⟨s0, s1, s2, s3, s4, s5, s6, s7, s8, s9, s10⟩; go_simp; with_reducible rfl)
  refine ta_ 3 17 HT_ HW_ hHeld ?_ (r := by rintro w' ⟨s0, s1, s2, s3, s4, s5, s6, s7, s8, s9, s10⟩; go_simp; with_reducible rfl)
  refine pu_ 4 18 HT_ ?_
  refine ta_ 5 19 HT_ HW_ hHeld ?_ (r := by rintro w' ⟨s0, s1, s2, s3, s4, s5, s6, s7, s8, s9, s10⟩; go_simp; with_reducible rfl)
  refine ta_ 7 21 HT_ HW_ hHeld ?_ (r := by rintro w' ⟨s0, s1, s2, s3, s4, s5, s6, s7, s8, s9, s10⟩; go_simp; with_reducible rfl)
  refine ta_ 10 24 HT_ HW_ hHeld ?_ (r := by rintro w' ⟨s0, s1, s2, s3, s4, s5, s6, s7, s8, s9, s10⟩; go_simp; with_reducible rfl)
  refine on_ 8 22 HT_ (fun K hK => ?_)
  refine goes_ Try.func131 (by kernel_rfl) rfl #[.agg #[.int .i64 ((rd_T98 l1_2 a0_0).f0), .int .i64 ((rd_T98 l1_2 a0_0).f1)], .agg #[.int .i64 a0_1, .int .i64 a0_2]] (by rfl) rfl rfl lm_ ?_
  with_reducible refine (spec_WideAnd.calls ((rd_T98 l1_2 a0_0).f0) ((rd_T98 l1_2 a0_0).f1) a0_1 a0_2 t571 t572 _ A20.out).mono ?_
  rintro e w24 ⟨rfl, hb⟩
  refine ⟨_, rfl, ?_⟩
  have n0_ := Aside0.mk (blk_below (bn0_ BK566.out) hb)
  have n1_ := Aside0.mk (blk_below (bn0_ BK567.out) hb)
  have n2_ := Aside0.mk (below_step bl_ hb)
  clear BK566
  clear BK567
  clear HB
  have BK566 := n0_
  have BK567 := n1_
  have HB := n2_
  clear n0_ n1_ n2_
  (try clear hb)
  (try clear hb2)
  (try clear hk)
  (try clear hi)
  refine hK.out _ _ ⟨(blk_cell BK567.out 0).trans rfl, (blk_cell BK567.out 1).trans rfl, (blk_cell BK567.out 2).trans rfl, (blk_cell BK566.out 0).trans rfl, (blk_cell BK566.out 1).trans rfl, (blk_cell BK566.out 2).trans rfl, (blk_cell BK566.out 3).trans rfl, (blk_cell BK566.out 4).trans rfl, (blk_cell BK566.out 5).trans rfl, ((HB.out.cell (World.block_lt_of_cell? w _ hw570_0)).trans hw570_0), ((HB.out.cell (World.block_lt_of_cell? w _ hw570_1)).trans hw570_1)⟩ (fun hHeld => ?_)
  clear hK K
  refine norm_ (a' := ?_) ?_ ?_
  rotate_left
  ·show Act.put _ (some 22) _ = _
   simp only [Act.put, List.setIfInBounds_toArray, List.set_cons_zero, List.set_cons_succ, i64_w, i32_w]
   rfl
  refine on_ 11 25 HT_ (fun K hK => ?_)
  refine goes_ Try.func130 (by kernel_rfl) rfl #[.agg #[.int .i64 t571, .int .i64 t572], .agg #[.int .i64 a0_4, .int .i64 a0_5]] (by rfl) rfl rfl lm_ ?_
  with_reducible refine (spec_WideCmp.calls t571 t572 a0_4 a0_5 t573 _ A21.out).mono ?_
  rintro e w25 ⟨rfl, hb⟩
  refine ⟨_, rfl, ?_⟩
  have n0_ := Aside0.mk (blk_below (bn0_ BK566.out) hb)
  have n1_ := Aside0.mk (blk_below (bn0_ BK567.out) hb)
  have n2_ := Aside0.mk (below_step bl_ hb)
  clear BK566
  clear BK567
  clear HB
  have BK566 := n0_
  have BK567 := n1_
  have HB := n2_
  clear n0_ n1_ n2_
  (try clear hb)
  (try clear hb2)
  (try clear hk)
  (try clear hi)
  refine hK.out _ _ ⟨(blk_cell BK567.out 0).trans rfl, (blk_cell BK567.out 1).trans rfl, (blk_cell BK567.out 2).trans rfl, (blk_cell BK566.out 0).trans rfl, (blk_cell BK566.out 1).trans rfl, (blk_cell BK566.out 2).trans rfl, (blk_cell BK566.out 3).trans rfl, (blk_cell BK566.out 4).trans rfl, (blk_cell BK566.out 5).trans rfl, ((HB.out.cell (World.block_lt_of_cell? w _ hw570_0)).trans hw570_0), ((HB.out.cell (World.block_lt_of_cell? w _ hw570_1)).trans hw570_1)⟩ (fun hHeld => ?_)
  clear hK K
  refine norm_ (a' := ?_) ?_ ?_
  rotate_left
  ·show Act.put _ (some 25) _ = _
   simp only [Act.put, List.setIfInBounds_toArray, List.set_cons_zero, List.set_cons_succ, i64_w, i32_w]
   rfl
  refine pu_ 12 5 HT_ ?_
  refine done_ (done_of HT_.out (by kernel_rfl)) ?_
  have hnb26 := NB566_567.out
  have hnc26 := NB567_566.out
  obtain ⟨hcz27_0, hcz27_1, hcz27_2, hcz27_3, hcz27_4, hcz27_5, hfz27_0, hfz27_1, hfz27_2, hfz27_3, hfz27_4, hfz27_5⟩ := cf6_ BK566.out
  try go_wp2
  go_ret
  exact ⟨er_, bl_⟩
 rw [if_neg c22] at H
 have c22b0 : (a0_3 == 1) = false := beq_eq_false_iff_ne.mpr c22
 have c22b1 : (a0_3 != 1) = true := bne_iff_ne.mpr c22
 by_cases c28 : a0_3 = 2
 ·rw [if_pos c28] at H
  have c28b0 : (a0_3 == 2) = true := beq_iff_eq.mpr c28
  have c28b1 : (a0_3 != 2) = false := bne_eq_false_iff_eq.mpr c28
  clear c28
  obtain rfl := Option.some.inj H
  try go_wp2
  have n0_ := Aside0.mk (blk_drew BK566.out)
  have n1_ := Aside0.mk (blk_drew BK567.out)
  have n2_ := Aside0.mk (below_drew1 HB.out)
  clear BK566
  clear BK567
  clear HB
  have BK566 := n0_
  have BK567 := n1_
  have HB := n2_
  clear n0_ n1_ n2_
  have p570 : 0 ≤ (a0_0 : Int) := of_decide_eq_true as_
  have q570 : a0_0 < (l1_2.length : Int) := of_decide_eq_true as_
  obtain ⟨ad570, e570, hx570_0, hx570_1⟩ := at_T98 HR1_2.out a0_0 p570 q570
  have hw570_1 := hx570_1
  have hw570_0 := hx570_0
  cases e570
  replace hx570_0 := (HB.out.cell (World.block_lt_of_cell? w _ hx570_0)).trans hx570_0
  replace hx570_1 := (HB.out.cell (World.block_lt_of_cell? w _ hx570_1)).trans hx570_1
  replace p570 := eq_true p570
  replace q570 := eq_true q570
  refine start_ (n := 13) (S := fun w' => w'.cell? ⟨gb567, 0, none⟩ = some (.int .i64 a1_0) ∧ w'.cell? ⟨gb567, 1, none⟩ = some (.int .i64 a1_1) ∧ w'.cell? ⟨gb567, 2, none⟩ = some (.slice (some ad570) l1_2.length c1_2) ∧ w'.cell? ⟨gb566, 0, none⟩ = some (.int .i64 a0_0) ∧ w'.cell? ⟨gb566, 1, none⟩ = some (.int .i64 a0_1) ∧ w'.cell? ⟨gb566, 2, none⟩ = some (.int .i64 a0_2) ∧ w'.cell? ⟨gb566, 3, none⟩ = some (.int .i64 a0_3) ∧ w'.cell? ⟨gb566, 4, none⟩ = some (.int .i64 a0_4) ∧ w'.cell? ⟨gb566, 5, none⟩ = some (.int .i64 a0_5) ∧ w'.cell? (ad570.add ((a0_0).toNat * 2)) = some (.int .i64 ((rd_T98 l1_2 a0_0).f0)) ∧ w'.cell? ⟨(ad570.add ((a0_0).toNat * 2)).block, (ad570.add ((a0_0).toNat * 2)).off + 1, none⟩ = some (.int .i64 ((rd_T98 l1_2 a0_0).f1))) (ds := []) #[false, false, false, false, false, false, false, false, false, false, false, false, false] (by kernel_rfl) rfl rfl ⟨(blk_cell BK567.out 0).trans rfl, (blk_cell BK567.out 1).trans rfl, (blk_cell BK567.out 2).trans rfl, (blk_cell BK566.out 0).trans rfl, (blk_cell BK566.out 1).trans rfl, (blk_cell BK566.out 2).trans rfl, (blk_cell BK566.out 3).trans rfl, (blk_cell BK566.out 4).trans rfl, (blk_cell BK566.out 5).trans rfl, ((HB.out.cell (World.block_lt_of_cell? w _ hw570_0)).trans hw570_0), ((HB.out.cell (World.block_lt_of_cell? w _ hw570_1)).trans hw570_1)⟩ (fun hHeld => ?_); refine with_tabW spec_CondHolds.tab3 spec_CondHolds.bits3 (fun HT_ HW_ => ?_)
  generalize wc.drew = w29 at BK566 BK567 HB hx570_0 hx570_1 hHeld ⊢
  refine pu_ 0 14 HT_ ?_
  refine pu_ 2 16 HT_ ?_
  refine pu_ 6 20 HT_ ?_
  refine pu_ 9 23 HT_ ?_
  refine ta_ 1 15 HT_ HW_ hHeld ?_ (r := by rintro w' ⟨s0, s1, s2, s3, s4, s5, s6, s7, s8, s9, s10⟩; go_simp; with_reducible rfl)
  refine ta_ 3 17 HT_ HW_ hHeld ?_ (r := by rintro w' ⟨s0, s1, s2, s3, s4, s5, s6, s7, s8, s9, s10⟩; go_simp; with_reducible rfl)
  refine pu_ 4 18 HT_ ?_
  refine ta_ 5 19 HT_ HW_ hHeld ?_ (r := by rintro w' ⟨s0, s1, s2, s3, s4, s5, s6, s7, s8, s9, s10⟩; go_simp; with_reducible rfl)
  refine ta_ 7 21 HT_ HW_ hHeld ?_ (r := by rintro w' ⟨s0, s1, s2, s3, s4, s5, s6, s7, s8, s9, s10⟩; go_simp; with_reducible rfl)
  refine ta_ 10 24 HT_ HW_ hHeld ?_ (r := by rintro w' ⟨s0, s1, s2, s3, s4, s5, s6, s7, s8, s9, s10⟩; go_simp; with_reducible rfl)
  refine on_ 8 22 HT_ (fun K hK => ?_)
  refine goes_ Try.func131 (by kernel_rfl) rfl #[.agg #[.int .i64 ((rd_T98 l1_2 a0_0).f0), .int .i64 ((rd_T98 l1_2 a0_0).f1)], .agg #[.int .i64 a0_1, .int .i64 a0_2]] (by rfl) rfl rfl lm_ ?_
  with_reducible refine (spec_WideAnd.calls ((rd_T98 l1_2 a0_0).f0) ((rd_T98 l1_2 a0_0).f1) a0_1 a0_2 t571 t572 _ A20.out).mono ?_
  rintro e w30 ⟨rfl, hb⟩
  refine ⟨_, rfl, ?_⟩
  have n0_ := Aside0.mk (blk_below (bn0_ BK566.out) hb)
  have n1_ := Aside0.mk (blk_below (bn0_ BK567.out) hb)
  have n2_ := Aside0.mk (below_step bl_ hb)
  clear BK566
  clear BK567
  clear HB
  have BK566 := n0_
  have BK567 := n1_
  have HB := n2_
  clear n0_ n1_ n2_
  (try clear hb)
  (try clear hb2)
  (try clear hk)
  (try clear hi)
  refine hK.out _ _ ⟨(blk_cell BK567.out 0).trans rfl, (blk_cell BK567.out 1).trans rfl, (blk_cell BK567.out 2).trans rfl, (blk_cell BK566.out 0).trans rfl, (blk_cell BK566.out 1).trans rfl, (blk_cell BK566.out 2).trans rfl, (blk_cell BK566.out 3).trans rfl, (blk_cell BK566.out 4).trans rfl, (blk_cell BK566.out 5).trans rfl, ((HB.out.cell (World.block_lt_of_cell? w _ hw570_0)).trans hw570_0), ((HB.out.cell (World.block_lt_of_cell? w _ hw570_1)).trans hw570_1)⟩ (fun hHeld => ?_)
  clear hK K
  refine norm_ (a' := ?_) ?_ ?_
  rotate_left
  ·show Act.put _ (some 22) _ = _
   simp only [Act.put, List.setIfInBounds_toArray, List.set_cons_zero, List.set_cons_succ, i64_w, i32_w]
   rfl
  refine on_ 11 25 HT_ (fun K hK => ?_)
  refine goes_ Try.func130 (by kernel_rfl) rfl #[.agg #[.int .i64 t571, .int .i64 t572], .agg #[.int .i64 a0_4, .int .i64 a0_5]] (by rfl) rfl rfl lm_ ?_
  with_reducible refine (spec_WideCmp.calls t571 t572 a0_4 a0_5 t573 _ A21.out).mono ?_
  rintro e w31 ⟨rfl, hb⟩
  refine ⟨_, rfl, ?_⟩
  have n0_ := Aside0.mk (blk_below (bn0_ BK566.out) hb)
  have n1_ := Aside0.mk (blk_below (bn0_ BK567.out) hb)
  have n2_ := Aside0.mk (below_step bl_ hb)
  clear BK566
  clear BK567
  clear HB
  have BK566 := n0_
  have BK567 := n1_
  have HB := n2_
  clear n0_ n1_ n2_
  (try clear hb)
  (try clear hb2)
  (try clear hk)
  (try clear hi)
  refine hK.out _ _ ⟨(blk_cell BK567.out 0).trans rfl, (blk_cell BK567.out 1).trans rfl, (blk_cell BK567.out 2).trans rfl, (blk_cell BK566.out 0).trans rfl, (blk_cell BK566.out 1).trans rfl, (blk_cell BK566.out 2).trans rfl, (blk_cell BK566.out 3).trans rfl, (blk_cell BK566.out 4).trans rfl, (blk_cell BK566.out 5).trans rfl, ((HB.out.cell (World.block_lt_of_cell? w _ hw570_0)).trans hw570_0), ((HB.out.cell (World.block_lt_of_cell? w _ hw570_1)).trans hw570_1)⟩ (fun hHeld => ?_)
  clear hK K
  refine norm_ (a' := ?_) ?_ ?_
  rotate_left
  ·show Act.put _ (some 25) _ = _
   simp only [Act.put, List.setIfInBounds_toArray, List.set_cons_zero, List.set_cons_succ, i64_w, i32_w]
   rfl
  refine pu_ 12 5 HT_ ?_
  refine done_ (done_of HT_.out (by kernel_rfl)) ?_
  have hnb32 := NB566_567.out
  have hnc32 := NB567_566.out
  obtain ⟨hcz33_0, hcz33_1, hcz33_2, hcz33_3, hcz33_4, hcz33_5, hfz33_0, hfz33_1, hfz33_2, hfz33_3, hfz33_4, hfz33_5⟩ := cf6_ BK566.out
  try go_wp2
  go_ret
  exact ⟨er_, bl_⟩
 rw [if_neg c28] at H
 have c28b0 : (a0_3 == 2) = false := beq_eq_false_iff_ne.mpr c28
 have c28b1 : (a0_3 != 2) = true := bne_iff_ne.mpr c28
 by_cases c34 : a0_3 = 3
 ·rw [if_pos c34] at H
  have c34b0 : (a0_3 == 3) = true := beq_iff_eq.mpr c34
  have c34b1 : (a0_3 != 3) = false := bne_eq_false_iff_eq.mpr c34
  clear c34
  obtain rfl := Option.some.inj H
  try go_wp2
  have n0_ := Aside0.mk (blk_drew BK566.out)
  have n1_ := Aside0.mk (blk_drew BK567.out)
  have n2_ := Aside0.mk (below_drew1 HB.out)
  clear BK566
  clear BK567
  clear HB
  have BK566 := n0_
  have BK567 := n1_
  have HB := n2_
  clear n0_ n1_ n2_
  have p570 : 0 ≤ (a0_0 : Int) := of_decide_eq_true as_
  have q570 : a0_0 < (l1_2.length : Int) := of_decide_eq_true as_
  obtain ⟨ad570, e570, hx570_0, hx570_1⟩ := at_T98 HR1_2.out a0_0 p570 q570
  have hw570_1 := hx570_1
  have hw570_0 := hx570_0
  cases e570
  replace hx570_0 := (HB.out.cell (World.block_lt_of_cell? w _ hx570_0)).trans hx570_0
  replace hx570_1 := (HB.out.cell (World.block_lt_of_cell? w _ hx570_1)).trans hx570_1
  replace p570 := eq_true p570
  replace q570 := eq_true q570
  refine start_ (n := 13) (S := fun w' => w'.cell? ⟨gb567, 0, none⟩ = some (.int .i64 a1_0) ∧ w'.cell? ⟨gb567, 1, none⟩ = some (.int .i64 a1_1) ∧ w'.cell? ⟨gb567, 2, none⟩ = some (.slice (some ad570) l1_2.length c1_2) ∧ w'.cell? ⟨gb566, 0, none⟩ = some (.int .i64 a0_0) ∧ w'.cell? ⟨gb566, 1, none⟩ = some (.int .i64 a0_1) ∧ w'.cell? ⟨gb566, 2, none⟩ = some (.int .i64 a0_2) ∧ w'.cell? ⟨gb566, 3, none⟩ = some (.int .i64 a0_3) ∧ w'.cell? ⟨gb566, 4, none⟩ = some (.int .i64 a0_4) ∧ w'.cell? ⟨gb566, 5, none⟩ = some (.int .i64 a0_5) ∧ w'.cell? (ad570.add ((a0_0).toNat * 2)) = some (.int .i64 ((rd_T98 l1_2 a0_0).f0)) ∧ w'.cell? ⟨(ad570.add ((a0_0).toNat * 2)).block, (ad570.add ((a0_0).toNat * 2)).off + 1, none⟩ = some (.int .i64 ((rd_T98 l1_2 a0_0).f1))) (ds := []) #[false, false, false, false, false, false, false, false, false, false, false, false, false] (by kernel_rfl) rfl rfl ⟨(blk_cell BK567.out 0).trans rfl, (blk_cell BK567.out 1).trans rfl, (blk_cell BK567.out 2).trans rfl, (blk_cell BK566.out 0).trans rfl, (blk_cell BK566.out 1).trans rfl, (blk_cell BK566.out 2).trans rfl, (blk_cell BK566.out 3).trans rfl, (blk_cell BK566.out 4).trans rfl, (blk_cell BK566.out 5).trans rfl, ((HB.out.cell (World.block_lt_of_cell? w _ hw570_0)).trans hw570_0), ((HB.out.cell (World.block_lt_of_cell? w _ hw570_1)).trans hw570_1)⟩ (fun hHeld => ?_); refine with_tabW spec_CondHolds.tab3 spec_CondHolds.bits3 (fun HT_ HW_ => ?_)
  generalize wc.drew = w35 at BK566 BK567 HB hx570_0 hx570_1 hHeld ⊢
  refine pu_ 0 14 HT_ ?_
  refine pu_ 2 16 HT_ ?_
  refine pu_ 6 20 HT_ ?_
  refine pu_ 9 23 HT_ ?_
  refine ta_ 1 15 HT_ HW_ hHeld ?_ (r := by rintro w' ⟨s0, s1, s2, s3, s4, s5, s6, s7, s8, s9, s10⟩; go_simp; with_reducible rfl)
  refine ta_ 3 17 HT_ HW_ hHeld ?_ (r := by rintro w' ⟨s0, s1, s2, s3, s4, s5, s6, s7, s8, s9, s10⟩; go_simp; with_reducible rfl)
  refine pu_ 4 18 HT_ ?_
  refine ta_ 5 19 HT_ HW_ hHeld ?_ (r := by rintro w' ⟨s0, s1, s2, s3, s4, s5, s6, s7, s8, s9, s10⟩; go_simp; with_reducible rfl)
  refine ta_ 7 21 HT_ HW_ hHeld ?_ (r := by rintro w' ⟨s0, s1, s2, s3, s4, s5, s6, s7, s8, s9, s10⟩; go_simp; with_reducible rfl)
  refine ta_ 10 24 HT_ HW_ hHeld ?_ (r := by rintro w' ⟨s0, s1, s2, s3, s4, s5, s6, s7, s8, s9, s10⟩; go_simp; with_reducible rfl)
  refine on_ 8 22 HT_ (fun K hK => ?_)
  refine goes_ Try.func131 (by kernel_rfl) rfl #[.agg #[.int .i64 ((rd_T98 l1_2 a0_0).f0), .int .i64 ((rd_T98 l1_2 a0_0).f1)], .agg #[.int .i64 a0_1, .int .i64 a0_2]] (by rfl) rfl rfl lm_ ?_
  with_reducible refine (spec_WideAnd.calls ((rd_T98 l1_2 a0_0).f0) ((rd_T98 l1_2 a0_0).f1) a0_1 a0_2 t571 t572 _ A20.out).mono ?_
  rintro e w36 ⟨rfl, hb⟩
  refine ⟨_, rfl, ?_⟩
  have n0_ := Aside0.mk (blk_below (bn0_ BK566.out) hb)
  have n1_ := Aside0.mk (blk_below (bn0_ BK567.out) hb)
  have n2_ := Aside0.mk (below_step bl_ hb)
  clear BK566
  clear BK567
  clear HB
  have BK566 := n0_
  have BK567 := n1_
  have HB := n2_
  clear n0_ n1_ n2_
  (try clear hb)
  (try clear hb2)
  (try clear hk)
  (try clear hi)
  refine hK.out _ _ ⟨(blk_cell BK567.out 0).trans rfl, (blk_cell BK567.out 1).trans rfl, (blk_cell BK567.out 2).trans rfl, (blk_cell BK566.out 0).trans rfl, (blk_cell BK566.out 1).trans rfl, (blk_cell BK566.out 2).trans rfl, (blk_cell BK566.out 3).trans rfl, (blk_cell BK566.out 4).trans rfl, (blk_cell BK566.out 5).trans rfl, ((HB.out.cell (World.block_lt_of_cell? w _ hw570_0)).trans hw570_0), ((HB.out.cell (World.block_lt_of_cell? w _ hw570_1)).trans hw570_1)⟩ (fun hHeld => ?_)
  clear hK K
  refine norm_ (a' := ?_) ?_ ?_
  rotate_left
  ·show Act.put _ (some 22) _ = _
   simp only [Act.put, List.setIfInBounds_toArray, List.set_cons_zero, List.set_cons_succ, i64_w, i32_w]
   rfl
  refine on_ 11 25 HT_ (fun K hK => ?_)
  refine goes_ Try.func130 (by kernel_rfl) rfl #[.agg #[.int .i64 t571, .int .i64 t572], .agg #[.int .i64 a0_4, .int .i64 a0_5]] (by rfl) rfl rfl lm_ ?_
  with_reducible refine (spec_WideCmp.calls t571 t572 a0_4 a0_5 t573 _ A21.out).mono ?_
  rintro e w37 ⟨rfl, hb⟩
  refine ⟨_, rfl, ?_⟩
  have n0_ := Aside0.mk (blk_below (bn0_ BK566.out) hb)
  have n1_ := Aside0.mk (blk_below (bn0_ BK567.out) hb)
  have n2_ := Aside0.mk (below_step bl_ hb)
  clear BK566
  clear BK567
  clear HB
  have BK566 := n0_
  have BK567 := n1_
  have HB := n2_
  clear n0_ n1_ n2_
  (try clear hb)
  (try clear hb2)
  (try clear hk)
  (try clear hi)
  refine hK.out _ _ ⟨(blk_cell BK567.out 0).trans rfl, (blk_cell BK567.out 1).trans rfl, (blk_cell BK567.out 2).trans rfl, (blk_cell BK566.out 0).trans rfl, (blk_cell BK566.out 1).trans rfl, (blk_cell BK566.out 2).trans rfl, (blk_cell BK566.out 3).trans rfl, (blk_cell BK566.out 4).trans rfl, (blk_cell BK566.out 5).trans rfl, ((HB.out.cell (World.block_lt_of_cell? w _ hw570_0)).trans hw570_0), ((HB.out.cell (World.block_lt_of_cell? w _ hw570_1)).trans hw570_1)⟩ (fun hHeld => ?_)
  clear hK K
  refine norm_ (a' := ?_) ?_ ?_
  rotate_left
  ·show Act.put _ (some 25) _ = _
   simp only [Act.put, List.setIfInBounds_toArray, List.set_cons_zero, List.set_cons_succ, i64_w, i32_w]
   rfl
  refine pu_ 12 5 HT_ ?_
  refine done_ (done_of HT_.out (by kernel_rfl)) ?_
  have hnb38 := NB566_567.out
  have hnc38 := NB567_566.out
  obtain ⟨hcz39_0, hcz39_1, hcz39_2, hcz39_3, hcz39_4, hcz39_5, hfz39_0, hfz39_1, hfz39_2, hfz39_3, hfz39_4, hfz39_5⟩ := cf6_ BK566.out
  try go_wp2
  go_ret
  exact ⟨er_, bl_⟩
 rw [if_neg c34] at H
 have c34b0 : (a0_3 == 3) = false := beq_eq_false_iff_ne.mpr c34
 have c34b1 : (a0_3 != 3) = true := bne_iff_ne.mpr c34
 by_cases c40 : a0_3 = 4
 ·rw [if_pos c40] at H
  have c40b0 : (a0_3 == 4) = true := beq_iff_eq.mpr c40
  have c40b1 : (a0_3 != 4) = false := bne_eq_false_iff_eq.mpr c40
  clear c40
  obtain rfl := Option.some.inj H
  try go_wp2
  have n0_ := Aside0.mk (blk_drew BK566.out)
  have n1_ := Aside0.mk (blk_drew BK567.out)
  have n2_ := Aside0.mk (below_drew1 HB.out)
  clear BK566
  clear BK567
  clear HB
  have BK566 := n0_
  have BK567 := n1_
  have HB := n2_
  clear n0_ n1_ n2_
  have p570 : 0 ≤ (a0_0 : Int) := of_decide_eq_true as_
  have q570 : a0_0 < (l1_2.length : Int) := of_decide_eq_true as_
  obtain ⟨ad570, e570, hx570_0, hx570_1⟩ := at_T98 HR1_2.out a0_0 p570 q570
  have hw570_1 := hx570_1
  have hw570_0 := hx570_0
  cases e570
  replace hx570_0 := (HB.out.cell (World.block_lt_of_cell? w _ hx570_0)).trans hx570_0
  replace hx570_1 := (HB.out.cell (World.block_lt_of_cell? w _ hx570_1)).trans hx570_1
  replace p570 := eq_true p570
  replace q570 := eq_true q570
  refine start_ (n := 13) (S := fun w' => w'.cell? ⟨gb567, 0, none⟩ = some (.int .i64 a1_0) ∧ w'.cell? ⟨gb567, 1, none⟩ = some (.int .i64 a1_1) ∧ w'.cell? ⟨gb567, 2, none⟩ = some (.slice (some ad570) l1_2.length c1_2) ∧ w'.cell? ⟨gb566, 0, none⟩ = some (.int .i64 a0_0) ∧ w'.cell? ⟨gb566, 1, none⟩ = some (.int .i64 a0_1) ∧ w'.cell? ⟨gb566, 2, none⟩ = some (.int .i64 a0_2) ∧ w'.cell? ⟨gb566, 3, none⟩ = some (.int .i64 a0_3) ∧ w'.cell? ⟨gb566, 4, none⟩ = some (.int .i64 a0_4) ∧ w'.cell? ⟨gb566, 5, none⟩ = some (.int .i64 a0_5) ∧ w'.cell? (ad570.add ((a0_0).toNat * 2)) = some (.int .i64 ((rd_T98 l1_2 a0_0).f0)) ∧ w'.cell? ⟨(ad570.add ((a0_0).toNat * 2)).block, (ad570.add ((a0_0).toNat * 2)).off + 1, none⟩ = some (.int .i64 ((rd_T98 l1_2 a0_0).f1))) (ds := []) #[false, false, false, false, false, false, false, false, false, false, false, false, false] (by kernel_rfl) rfl rfl ⟨(blk_cell BK567.out 0).trans rfl, (blk_cell BK567.out 1).trans rfl, (blk_cell BK567.out 2).trans rfl, (blk_cell BK566.out 0).trans rfl, (blk_cell BK566.out 1).trans rfl, (blk_cell BK566.out 2).trans rfl, (blk_cell BK566.out 3).trans rfl, (blk_cell BK566.out 4).trans rfl, (blk_cell BK566.out 5).trans rfl, ((HB.out.cell (World.block_lt_of_cell? w _ hw570_0)).trans hw570_0), ((HB.out.cell (World.block_lt_of_cell? w _ hw570_1)).trans hw570_1)⟩ (fun hHeld => ?_); refine with_tabW spec_CondHolds.tab3 spec_CondHolds.bits3 (fun HT_ HW_ => ?_)
  generalize wc.drew = w41 at BK566 BK567 HB hx570_0 hx570_1 hHeld ⊢
  refine pu_ 0 14 HT_ ?_
  refine pu_ 2 16 HT_ ?_
  refine pu_ 6 20 HT_ ?_
  refine pu_ 9 23 HT_ ?_
  refine ta_ 1 15 HT_ HW_ hHeld ?_ (r := by rintro w' ⟨s0, s1, s2, s3, s4, s5, s6, s7, s8, s9, s10⟩; go_simp; with_reducible rfl)
  refine ta_ 3 17 HT_ HW_ hHeld ?_ (r := by rintro w' ⟨s0, s1, s2, s3, s4, s5, s6, s7, s8, s9, s10⟩; go_simp; with_reducible rfl)
  refine pu_ 4 18 HT_ ?_
  refine ta_ 5 19 HT_ HW_ hHeld ?_ (r := by rintro w' ⟨s0, s1, s2, s3, s4, s5, s6, s7, s8, s9, s10⟩; go_simp; with_reducible rfl)
  refine ta_ 7 21 HT_ HW_ hHeld ?_ (r := by rintro w' ⟨s0, s1, s2, s3, s4, s5, s6, s7, s8, s9, s10⟩; go_simp; with_reducible rfl)
  refine ta_ 10 24 HT_ HW_ hHeld ?_ (r := by rintro w' ⟨s0, s1, s2, s3, s4, s5, s6, s7, s8, s9, s10⟩; go_simp; with_reducible rfl)
  refine on_ 8 22 HT_ (fun K hK => ?_)
  refine goes_ Try.func131 (by kernel_rfl) rfl #[.agg #[.int .i64 ((rd_T98 l1_2 a0_0).f0), .int .i64 ((rd_T98 l1_2 a0_0).f1)], .agg #[.int .i64 a0_1, .int .i64 a0_2]] (by rfl) rfl rfl lm_ ?_
  with_reducible refine (spec_WideAnd.calls ((rd_T98 l1_2 a0_0).f0) ((rd_T98 l1_2 a0_0).f1) a0_1 a0_2 t571 t572 _ A20.out).mono ?_
  rintro e w42 ⟨rfl, hb⟩
  refine ⟨_, rfl, ?_⟩
  have n0_ := Aside0.mk (blk_below (bn0_ BK566.out) hb)
  have n1_ := Aside0.mk (blk_below (bn0_ BK567.out) hb)
  have n2_ := Aside0.mk (below_step bl_ hb)
  clear BK566
  clear BK567
  clear HB
  have BK566 := n0_
  have BK567 := n1_
  have HB := n2_
  clear n0_ n1_ n2_
  (try clear hb)
  (try clear hb2)
  (try clear hk)
  (try clear hi)
  refine hK.out _ _ ⟨(blk_cell BK567.out 0).trans rfl, (blk_cell BK567.out 1).trans rfl, (blk_cell BK567.out 2).trans rfl, (blk_cell BK566.out 0).trans rfl, (blk_cell BK566.out 1).trans rfl, (blk_cell BK566.out 2).trans rfl, (blk_cell BK566.out 3).trans rfl, (blk_cell BK566.out 4).trans rfl, (blk_cell BK566.out 5).trans rfl, ((HB.out.cell (World.block_lt_of_cell? w _ hw570_0)).trans hw570_0), ((HB.out.cell (World.block_lt_of_cell? w _ hw570_1)).trans hw570_1)⟩ (fun hHeld => ?_)
  clear hK K
  refine norm_ (a' := ?_) ?_ ?_
  rotate_left
  ·show Act.put _ (some 22) _ = _
   simp only [Act.put, List.setIfInBounds_toArray, List.set_cons_zero, List.set_cons_succ, i64_w, i32_w]
   rfl
  refine on_ 11 25 HT_ (fun K hK => ?_)
  refine goes_ Try.func130 (by kernel_rfl) rfl #[.agg #[.int .i64 t571, .int .i64 t572], .agg #[.int .i64 a0_4, .int .i64 a0_5]] (by rfl) rfl rfl lm_ ?_
  with_reducible refine (spec_WideCmp.calls t571 t572 a0_4 a0_5 t573 _ A21.out).mono ?_
  rintro e w43 ⟨rfl, hb⟩
  refine ⟨_, rfl, ?_⟩
  have n0_ := Aside0.mk (blk_below (bn0_ BK566.out) hb)
  have n1_ := Aside0.mk (blk_below (bn0_ BK567.out) hb)
  have n2_ := Aside0.mk (below_step bl_ hb)
  clear BK566
  clear BK567
  clear HB
  have BK566 := n0_
  have BK567 := n1_
  have HB := n2_
  clear n0_ n1_ n2_
  (try clear hb)
  (try clear hb2)
  (try clear hk)
  (try clear hi)
  refine hK.out _ _ ⟨(blk_cell BK567.out 0).trans rfl, (blk_cell BK567.out 1).trans rfl, (blk_cell BK567.out 2).trans rfl, (blk_cell BK566.out 0).trans rfl, (blk_cell BK566.out 1).trans rfl, (blk_cell BK566.out 2).trans rfl, (blk_cell BK566.out 3).trans rfl, (blk_cell BK566.out 4).trans rfl, (blk_cell BK566.out 5).trans rfl, ((HB.out.cell (World.block_lt_of_cell? w _ hw570_0)).trans hw570_0), ((HB.out.cell (World.block_lt_of_cell? w _ hw570_1)).trans hw570_1)⟩ (fun hHeld => ?_)
  clear hK K
  refine norm_ (a' := ?_) ?_ ?_
  rotate_left
  ·show Act.put _ (some 25) _ = _
   simp only [Act.put, List.setIfInBounds_toArray, List.set_cons_zero, List.set_cons_succ, i64_w, i32_w]
   rfl
  refine pu_ 12 5 HT_ ?_
  refine done_ (done_of HT_.out (by kernel_rfl)) ?_
  have hnb44 := NB566_567.out
  have hnc44 := NB567_566.out
  obtain ⟨hcz45_0, hcz45_1, hcz45_2, hcz45_3, hcz45_4, hcz45_5, hfz45_0, hfz45_1, hfz45_2, hfz45_3, hfz45_4, hfz45_5⟩ := cf6_ BK566.out
  try go_wp2
  go_ret
  exact ⟨er_, bl_⟩
 rw [if_neg c40] at H
 have c40b0 : (a0_3 == 4) = false := beq_eq_false_iff_ne.mpr c40
 have c40b1 : (a0_3 != 4) = true := bne_iff_ne.mpr c40
 by_cases c46 : a0_3 = 5
 rotate_left
 ·rw [if_neg c46] at H
  have c46b0 : (a0_3 == 5) = false := beq_eq_false_iff_ne.mpr c46
  have c46b1 : (a0_3 != 5) = true := bne_iff_ne.mpr c46
  obtain rfl := Option.some.inj H
  try go_wp2
  have n0_ := Aside0.mk (blk_drew BK566.out)
  have n1_ := Aside0.mk (blk_drew BK567.out)
  have n2_ := Aside0.mk (below_drew1 HB.out)
  clear BK566
  clear BK567
  clear HB
  have BK566 := n0_
  have BK567 := n1_
  have HB := n2_
  clear n0_ n1_ n2_
  have p570 : 0 ≤ (a0_0 : Int) := of_decide_eq_true as_
  have q570 : a0_0 < (l1_2.length : Int) := of_decide_eq_true as_
  obtain ⟨ad570, e570, hx570_0, hx570_1⟩ := at_T98 HR1_2.out a0_0 p570 q570
  have hw570_1 := hx570_1
  have hw570_0 := hx570_0
  cases e570
  replace hx570_0 := (HB.out.cell (World.block_lt_of_cell? w _ hx570_0)).trans hx570_0
  replace hx570_1 := (HB.out.cell (World.block_lt_of_cell? w _ hx570_1)).trans hx570_1
  replace p570 := eq_true p570
  replace q570 := eq_true q570
  refine start_ (n := 13) (S := fun w' => w'.cell? ⟨gb567, 0, none⟩ = some (.int .i64 a1_0) ∧ w'.cell? ⟨gb567, 1, none⟩ = some (.int .i64 a1_1) ∧ w'.cell? ⟨gb567, 2, none⟩ = some (.slice (some ad570) l1_2.length c1_2) ∧ w'.cell? ⟨gb566, 0, none⟩ = some (.int .i64 a0_0) ∧ w'.cell? ⟨gb566, 1, none⟩ = some (.int .i64 a0_1) ∧ w'.cell? ⟨gb566, 2, none⟩ = some (.int .i64 a0_2) ∧ w'.cell? ⟨gb566, 3, none⟩ = some (.int .i64 a0_3) ∧ w'.cell? ⟨gb566, 4, none⟩ = some (.int .i64 a0_4) ∧ w'.cell? ⟨gb566, 5, none⟩ = some (.int .i64 a0_5) ∧ w'.cell? (ad570.add ((a0_0).toNat * 2)) = some (.int .i64 ((rd_T98 l1_2 a0_0).f0)) ∧ w'.cell? ⟨(ad570.add ((a0_0).toNat * 2)).block, (ad570.add ((a0_0).toNat * 2)).off + 1, none⟩ = some (.int .i64 ((rd_T98 l1_2 a0_0).f1))) (ds := []) #[false, false, false, false, false, false, false, false, false, false, false, false, false] (by kernel_rfl) rfl rfl ⟨(blk_cell BK567.out 0).trans rfl, (blk_cell BK567.out 1).trans rfl, (blk_cell BK567.out 2).trans rfl, (blk_cell BK566.out 0).trans rfl, (blk_cell BK566.out 1).trans rfl, (blk_cell BK566.out 2).trans rfl, (blk_cell BK566.out 3).trans rfl, (blk_cell BK566.out 4).trans rfl, (blk_cell BK566.out 5).trans rfl, ((HB.out.cell (World.block_lt_of_cell? w _ hw570_0)).trans hw570_0), ((HB.out.cell (World.block_lt_of_cell? w _ hw570_1)).trans hw570_1)⟩ (fun hHeld => ?_); refine with_tabW spec_CondHolds.tab3 spec_CondHolds.bits3 (fun HT_ HW_ => ?_)
  generalize wc.drew = w52 at BK566 BK567 HB hx570_0 hx570_1 hHeld ⊢
  refine pu_ 0 14 HT_ ?_
  refine pu_ 2 16 HT_ ?_
  refine pu_ 6 20 HT_ ?_
  refine pu_ 9 23 HT_ ?_
  refine ta_ 1 15 HT_ HW_ hHeld ?_ (r := by rintro w' ⟨s0, s1, s2, s3, s4, s5, s6, s7, s8, s9, s10⟩; go_simp; with_reducible rfl)
  refine ta_ 3 17 HT_ HW_ hHeld ?_ (r := by rintro w' ⟨s0, s1, s2, s3, s4, s5, s6, s7, s8, s9, s10⟩; go_simp; with_reducible rfl)
  refine pu_ 4 18 HT_ ?_
  refine ta_ 5 19 HT_ HW_ hHeld ?_ (r := by rintro w' ⟨s0, s1, s2, s3, s4, s5, s6, s7, s8, s9, s10⟩; go_simp; with_reducible rfl)
  refine ta_ 7 21 HT_ HW_ hHeld ?_ (r := by rintro w' ⟨s0, s1, s2, s3, s4, s5, s6, s7, s8, s9, s10⟩; go_simp; with_reducible rfl)
  refine ta_ 10 24 HT_ HW_ hHeld ?_ (r := by rintro w' ⟨s0, s1, s2, s3, s4, s5, s6, s7, s8, s9, s10⟩; go_simp; with_reducible rfl)
  refine on_ 8 22 HT_ (fun K hK => ?_)
  refine goes_ Try.func131 (by kernel_rfl) rfl #[.agg #[.int .i64 ((rd_T98 l1_2 a0_0).f0), .int .i64 ((rd_T98 l1_2 a0_0).f1)], .agg #[.int .i64 a0_1, .int .i64 a0_2]] (by rfl) rfl rfl lm_ ?_
  with_reducible refine (spec_WideAnd.calls ((rd_T98 l1_2 a0_0).f0) ((rd_T98 l1_2 a0_0).f1) a0_1 a0_2 t571 t572 _ A20.out).mono ?_
  rintro e w53 ⟨rfl, hb⟩
  refine ⟨_, rfl, ?_⟩
  have n0_ := Aside0.mk (blk_below (bn0_ BK566.out) hb)
  have n1_ := Aside0.mk (blk_below (bn0_ BK567.out) hb)
  have n2_ := Aside0.mk (below_step bl_ hb)
  clear BK566
  clear BK567
  clear HB
  have BK566 := n0_
  have BK567 := n1_
  have HB := n2_
  clear n0_ n1_ n2_
  (try clear hb)
  (try clear hb2)
  (try clear hk)
  (try clear hi)
  refine hK.out _ _ ⟨(blk_cell BK567.out 0).trans rfl, (blk_cell BK567.out 1).trans rfl, (blk_cell BK567.out 2).trans rfl, (blk_cell BK566.out 0).trans rfl, (blk_cell BK566.out 1).trans rfl, (blk_cell BK566.out 2).trans rfl, (blk_cell BK566.out 3).trans rfl, (blk_cell BK566.out 4).trans rfl, (blk_cell BK566.out 5).trans rfl, ((HB.out.cell (World.block_lt_of_cell? w _ hw570_0)).trans hw570_0), ((HB.out.cell (World.block_lt_of_cell? w _ hw570_1)).trans hw570_1)⟩ (fun hHeld => ?_)
  clear hK K
  refine norm_ (a' := ?_) ?_ ?_
  rotate_left
  ·show Act.put _ (some 22) _ = _
   simp only [Act.put, List.setIfInBounds_toArray, List.set_cons_zero, List.set_cons_succ, i64_w, i32_w]
   rfl
  refine on_ 11 25 HT_ (fun K hK => ?_)
  refine goes_ Try.func130 (by kernel_rfl) rfl #[.agg #[.int .i64 t571, .int .i64 t572], .agg #[.int .i64 a0_4, .int .i64 a0_5]] (by rfl) rfl rfl lm_ ?_
  with_reducible refine (spec_WideCmp.calls t571 t572 a0_4 a0_5 t573 _ A21.out).mono ?_
  rintro e w54 ⟨rfl, hb⟩
  refine ⟨_, rfl, ?_⟩
  have n0_ := Aside0.mk (blk_below (bn0_ BK566.out) hb)
  have n1_ := Aside0.mk (blk_below (bn0_ BK567.out) hb)
  have n2_ := Aside0.mk (below_step bl_ hb)
  clear BK566
  clear BK567
  clear HB
  have BK566 := n0_
  have BK567 := n1_
  have HB := n2_
  clear n0_ n1_ n2_
  (try clear hb)
  (try clear hb2)
  (try clear hk)
  (try clear hi)
  refine hK.out _ _ ⟨(blk_cell BK567.out 0).trans rfl, (blk_cell BK567.out 1).trans rfl, (blk_cell BK567.out 2).trans rfl, (blk_cell BK566.out 0).trans rfl, (blk_cell BK566.out 1).trans rfl, (blk_cell BK566.out 2).trans rfl, (blk_cell BK566.out 3).trans rfl, (blk_cell BK566.out 4).trans rfl, (blk_cell BK566.out 5).trans rfl, ((HB.out.cell (World.block_lt_of_cell? w _ hw570_0)).trans hw570_0), ((HB.out.cell (World.block_lt_of_cell? w _ hw570_1)).trans hw570_1)⟩ (fun hHeld => ?_)
  clear hK K
  refine norm_ (a' := ?_) ?_ ?_
  rotate_left
  ·show Act.put _ (some 25) _ = _
   simp only [Act.put, List.setIfInBounds_toArray, List.set_cons_zero, List.set_cons_succ, i64_w, i32_w]
   rfl
  refine pu_ 12 5 HT_ ?_
  refine done_ (done_of HT_.out (by kernel_rfl)) ?_
  have hnb55 := NB566_567.out
  have hnc55 := NB567_566.out
  obtain ⟨hcz56_0, hcz56_1, hcz56_2, hcz56_3, hcz56_4, hcz56_5, hfz56_0, hfz56_1, hfz56_2, hfz56_3, hfz56_4, hfz56_5⟩ := cf6_ BK566.out
  try go_wp2
  go_ret
  exact ⟨er_, bl_⟩
 rw [if_pos c46] at H
 have c46b0 : (a0_3 == 5) = true := beq_iff_eq.mpr c46
 have c46b1 : (a0_3 != 5) = false := bne_eq_false_iff_eq.mpr c46
 clear c46
 obtain rfl := Option.some.inj H
 try go_wp2
 have n0_ := Aside0.mk (blk_drew BK566.out)
 have n1_ := Aside0.mk (blk_drew BK567.out)
 have n2_ := Aside0.mk (below_drew1 HB.out)
 clear BK566
 clear BK567
 clear HB
 have BK566 := n0_
 have BK567 := n1_
 have HB := n2_
 clear n0_ n1_ n2_
 have p570 : 0 ≤ (a0_0 : Int) := of_decide_eq_true as_
 have q570 : a0_0 < (l1_2.length : Int) := of_decide_eq_true as_
 obtain ⟨ad570, e570, hx570_0, hx570_1⟩ := at_T98 HR1_2.out a0_0 p570 q570
 have hw570_1 := hx570_1
 have hw570_0 := hx570_0
 cases e570
 replace hx570_0 := (HB.out.cell (World.block_lt_of_cell? w _ hx570_0)).trans hx570_0
 replace hx570_1 := (HB.out.cell (World.block_lt_of_cell? w _ hx570_1)).trans hx570_1
 replace p570 := eq_true p570
 replace q570 := eq_true q570
 refine start_ (n := 13) (S := fun w' => w'.cell? ⟨gb567, 0, none⟩ = some (.int .i64 a1_0) ∧ w'.cell? ⟨gb567, 1, none⟩ = some (.int .i64 a1_1) ∧ w'.cell? ⟨gb567, 2, none⟩ = some (.slice (some ad570) l1_2.length c1_2) ∧ w'.cell? ⟨gb566, 0, none⟩ = some (.int .i64 a0_0) ∧ w'.cell? ⟨gb566, 1, none⟩ = some (.int .i64 a0_1) ∧ w'.cell? ⟨gb566, 2, none⟩ = some (.int .i64 a0_2) ∧ w'.cell? ⟨gb566, 3, none⟩ = some (.int .i64 a0_3) ∧ w'.cell? ⟨gb566, 4, none⟩ = some (.int .i64 a0_4) ∧ w'.cell? ⟨gb566, 5, none⟩ = some (.int .i64 a0_5) ∧ w'.cell? (ad570.add ((a0_0).toNat * 2)) = some (.int .i64 ((rd_T98 l1_2 a0_0).f0)) ∧ w'.cell? ⟨(ad570.add ((a0_0).toNat * 2)).block, (ad570.add ((a0_0).toNat * 2)).off + 1, none⟩ = some (.int .i64 ((rd_T98 l1_2 a0_0).f1))) (ds := []) #[false, false, false, false, false, false, false, false, false, false, false, false, false] (by kernel_rfl) rfl rfl ⟨(blk_cell BK567.out 0).trans rfl, (blk_cell BK567.out 1).trans rfl, (blk_cell BK567.out 2).trans rfl, (blk_cell BK566.out 0).trans rfl, (blk_cell BK566.out 1).trans rfl, (blk_cell BK566.out 2).trans rfl, (blk_cell BK566.out 3).trans rfl, (blk_cell BK566.out 4).trans rfl, (blk_cell BK566.out 5).trans rfl, ((HB.out.cell (World.block_lt_of_cell? w _ hw570_0)).trans hw570_0), ((HB.out.cell (World.block_lt_of_cell? w _ hw570_1)).trans hw570_1)⟩ (fun hHeld => ?_); refine with_tabW spec_CondHolds.tab3 spec_CondHolds.bits3 (fun HT_ HW_ => ?_)
 generalize wc.drew = w47 at BK566 BK567 HB hx570_0 hx570_1 hHeld ⊢
 refine pu_ 0 14 HT_ ?_
 refine pu_ 2 16 HT_ ?_
 refine pu_ 6 20 HT_ ?_
 refine pu_ 9 23 HT_ ?_
 refine ta_ 1 15 HT_ HW_ hHeld ?_ (r := by rintro w' ⟨s0, s1, s2, s3, s4, s5, s6, s7, s8, s9, s10⟩; go_simp; with_reducible rfl)
 refine ta_ 3 17 HT_ HW_ hHeld ?_ (r := by rintro w' ⟨s0, s1, s2, s3, s4, s5, s6, s7, s8, s9, s10⟩; go_simp; with_reducible rfl)
 refine pu_ 4 18 HT_ ?_
 refine ta_ 5 19 HT_ HW_ hHeld ?_ (r := by rintro w' ⟨s0, s1, s2, s3, s4, s5, s6, s7, s8, s9, s10⟩; go_simp; with_reducible rfl)
 refine ta_ 7 21 HT_ HW_ hHeld ?_ (r := by rintro w' ⟨s0, s1, s2, s3, s4, s5, s6, s7, s8, s9, s10⟩; go_simp; with_reducible rfl)
 refine ta_ 10 24 HT_ HW_ hHeld ?_ (r := by rintro w' ⟨s0, s1, s2, s3, s4, s5, s6, s7, s8, s9, s10⟩; go_simp; with_reducible rfl)
 refine on_ 8 22 HT_ (fun K hK => ?_)
 refine goes_ Try.func131 (by kernel_rfl) rfl #[.agg #[.int .i64 ((rd_T98 l1_2 a0_0).f0), .int .i64 ((rd_T98 l1_2 a0_0).f1)], .agg #[.int .i64 a0_1, .int .i64 a0_2]] (by rfl) rfl rfl lm_ ?_
 with_reducible refine (spec_WideAnd.calls ((rd_T98 l1_2 a0_0).f0) ((rd_T98 l1_2 a0_0).f1) a0_1 a0_2 t571 t572 _ A20.out).mono ?_
 rintro e w48 ⟨rfl, hb⟩
 refine ⟨_, rfl, ?_⟩
 have n0_ := Aside0.mk (blk_below (bn0_ BK566.out) hb)
 have n1_ := Aside0.mk (blk_below (bn0_ BK567.out) hb)
 have n2_ := Aside0.mk (below_step bl_ hb)
 clear BK566
 clear BK567
 clear HB
 have BK566 := n0_
 have BK567 := n1_
 have HB := n2_
 clear n0_ n1_ n2_
 (try clear hb)
 (try clear hb2)
 (try clear hk)
 (try clear hi)
 refine hK.out _ _ ⟨(blk_cell BK567.out 0).trans rfl, (blk_cell BK567.out 1).trans rfl, (blk_cell BK567.out 2).trans rfl, (blk_cell BK566.out 0).trans rfl, (blk_cell BK566.out 1).trans rfl, (blk_cell BK566.out 2).trans rfl, (blk_cell BK566.out 3).trans rfl, (blk_cell BK566.out 4).trans rfl, (blk_cell BK566.out 5).trans rfl, ((HB.out.cell (World.block_lt_of_cell? w _ hw570_0)).trans hw570_0), ((HB.out.cell (World.block_lt_of_cell? w _ hw570_1)).trans hw570_1)⟩ (fun hHeld => ?_)
 clear hK K
 refine norm_ (a' := ?_) ?_ ?_
 rotate_left
 ·show Act.put _ (some 22) _ = _
  simp only [Act.put, List.setIfInBounds_toArray, List.set_cons_zero, List.set_cons_succ, i64_w, i32_w]
  rfl
 refine on_ 11 25 HT_ (fun K hK => ?_)
 refine goes_ Try.func130 (by kernel_rfl) rfl #[.agg #[.int .i64 t571, .int .i64 t572], .agg #[.int .i64 a0_4, .int .i64 a0_5]] (by rfl) rfl rfl lm_ ?_
 with_reducible refine (spec_WideCmp.calls t571 t572 a0_4 a0_5 t573 _ A21.out).mono ?_
 rintro e w49 ⟨rfl, hb⟩
 refine ⟨_, rfl, ?_⟩
 have n0_ := Aside0.mk (blk_below (bn0_ BK566.out) hb)
 have n1_ := Aside0.mk (blk_below (bn0_ BK567.out) hb)
 have n2_ := Aside0.mk (below_step bl_ hb)
 clear BK566
 clear BK567
 clear HB
 have BK566 := n0_
 have BK567 := n1_
 have HB := n2_
 clear n0_ n1_ n2_
 (try clear hb)
 (try clear hb2)
 (try clear hk)
 (try clear hi)
 refine hK.out _ _ ⟨(blk_cell BK567.out 0).trans rfl, (blk_cell BK567.out 1).trans rfl, (blk_cell BK567.out 2).trans rfl, (blk_cell BK566.out 0).trans rfl, (blk_cell BK566.out 1).trans rfl, (blk_cell BK566.out 2).trans rfl, (blk_cell BK566.out 3).trans rfl, (blk_cell BK566.out 4).trans rfl, (blk_cell BK566.out 5).trans rfl, ((HB.out.cell (World.block_lt_of_cell? w _ hw570_0)).trans hw570_0), ((HB.out.cell (World.block_lt_of_cell? w _ hw570_1)).trans hw570_1)⟩ (fun hHeld => ?_)
 clear hK K
 refine norm_ (a' := ?_) ?_ ?_
 rotate_left
 ·show Act.put _ (some 25) _ = _
  simp only [Act.put, List.setIfInBounds_toArray, List.set_cons_zero, List.set_cons_succ, i64_w, i32_w]
  rfl
 refine pu_ 12 5 HT_ ?_
 refine done_ (done_of HT_.out (by kernel_rfl)) ?_
 have hnb50 := NB566_567.out
 have hnc50 := NB567_566.out
 obtain ⟨hcz51_0, hcz51_1, hcz51_2, hcz51_3, hcz51_4, hcz51_5, hfz51_0, hfz51_1, hfz51_2, hfz51_3, hfz51_4, hfz51_5⟩ := cf6_ BK566.out
 try go_wp2
 go_ret
 exact ⟨er_, bl_⟩

end Go.Proofs.Ytjfmpodeenidnaa.PC
