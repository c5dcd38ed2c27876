/- Contracts of functions of the program and of the reference, and plain lemmas on what they compute: a part of the proof of the law FnExactReadScript. No condition. -/
import Derived.Test.YtjfmpodeenidnaaJFnExactReadScript1
import Derived.Test.YtjfmpodeenidnaaJFnExactReadScript4
import Derived.Test.YtjfmpodeenidnaaShortV
set_option maxHeartbeats 8000000
set_option maxRecDepth 100000
namespace Go.Proofs.Ytjfmpodeenidnaa.PA
open Go.RowKit Go.Proofs.Ytjfmpodeenidnaa.Short Go.Proofs.YtjfmpodeenidnaaW.PrintWords Go.Proofs.YtjfmpodeenidnaaW.PrintLast Go.Proofs.YtjfmpodeenidnaaW.PrintMore
attribute [local go_sem] max2_int min2_int max_two min_two max_three min_three max_four min_four   -- for this text's walks alone
set_option linter.unusedVariables false
set_option linter.unusedSimpArgs false

mutual
def impl_PartsOf.l0 : Nat → ByteArray → List ByteArray → Int → Int → Option (List ByteArray × Bool)
 | 0, _, _, _, _ => none
 | k + 1, x0, x4, x5, x6 => if x6 ≤ (x0.size : Int) then (if x6 < (x0.size : Int) then (if 0 ≤ x6 then ((impl_within.f (wrap64 (bt x0 x6)) 32 126).bind fun t259 => (impl_PartsOf.j1 k x0 x4 x5 x6 (!t259))) else (none)) else (impl_PartsOf.j1 k x0 x4 x5 x6 false)) else (if (x4.length : Int) > 10 then (some ((([] : List ByteArray)), false)) else (some (x4, true)))
def impl_PartsOf.j1 : Nat → ByteArray → List ByteArray → Int → Int → Bool → Option (List ByteArray × Bool)
 | 0, _, _, _, _, _ => none
 | k + 1, x0, x4, x5, x6, x30 => if x30 = true then (some ((([] : List ByteArray)), false)) else (if x6 = (x0.size : Int) then (impl_PartsOf.j2 k x0 x4 x5 x6 true) else (if 0 ≤ x6 then (if x6 < (x0.size : Int) then (impl_PartsOf.j2 k x0 x4 x5 x6 ((bt x0 x6) == 32)) else (none)) else (none)))
def impl_PartsOf.j2 : Nat → ByteArray → List ByteArray → Int → Int → Bool → Option (List ByteArray × Bool)
 | 0, _, _, _, _, _ => none
 | k + 1, x0, x4, x5, x6, x7 => if x7 = true then (impl_PartsOf.j3 k x0 x4 x5 x6 x7 false) else (impl_PartsOf.j3 k x0 x4 x5 x6 x7 (decide (x5 < 0)))
def impl_PartsOf.j3 : Nat → ByteArray → List ByteArray → Int → Int → Bool → Bool → Option (List ByteArray × Bool)
 | 0, _, _, _, _, _, _ => none
 | k + 1, x0, x4, x5, x6, x7, x47 => if x47 = true then (if x7 = true then (if x6 ≥ 0 then (if 0 ≤ x6 then (if x6 ≤ x6 then (if x6 ≤ (x0.size : Int) then (if x4.length < 8796093022208 then (impl_PartsOf.l0 k x0 (x4 ++ [ByteArray.empty]) (-1) (wrap64 (x6 + 1))) else (none)) else (none)) else (none)) else (none)) else (impl_PartsOf.l0 k x0 x4 x6 (wrap64 (x6 + 1)))) else (impl_PartsOf.l0 k x0 x4 x6 (wrap64 (x6 + 1)))) else (if x7 = true then (if x5 ≥ 0 then (if 0 ≤ x5 then (if x5 ≤ x6 then (if x6 ≤ (x0.size : Int) then (if x4.length < 8796093022208 then (impl_PartsOf.l0 k x0 (x4 ++ [x0.extract (x5 : Int).toNat (x6 : Int).toNat]) (-1) (wrap64 (x6 + 1))) else (none)) else (none)) else (none)) else (none)) else (impl_PartsOf.l0 k x0 x4 x5 (wrap64 (x6 + 1)))) else (impl_PartsOf.l0 k x0 x4 x5 (wrap64 (x6 + 1))))
end
def impl_PartsOf.f (k : Nat) (a0 : ByteArray) : Option (List ByteArray × Bool) := if (a0.size : Int) > 600 then (some ((([] : List ByteArray)), false)) else (impl_PartsOf.l0 k a0 (([] : List ByteArray)) (-1) 0)
theorem impl_PartsOf.mono_l : ∀ k, (∀ y0 y1 y2 y3, LeO (impl_PartsOf.l0 k y0 y1 y2 y3) (impl_PartsOf.l0 (k + 1) y0 y1 y2 y3)) ∧ (∀ y0 y1 y2 y3 y4, LeO (impl_PartsOf.j1 k y0 y1 y2 y3 y4) (impl_PartsOf.j1 (k + 1) y0 y1 y2 y3 y4)) ∧ (∀ y0 y1 y2 y3 y4, LeO (impl_PartsOf.j2 k y0 y1 y2 y3 y4) (impl_PartsOf.j2 (k + 1) y0 y1 y2 y3 y4)) ∧ (∀ y0 y1 y2 y3 y4 y5, LeO (impl_PartsOf.j3 k y0 y1 y2 y3 y4 y5) (impl_PartsOf.j3 (k + 1) y0 y1 y2 y3 y4 y5))
 | 0 => ⟨fun _ _ _ _ r h => by simp [impl_PartsOf.l0] at h, fun _ _ _ _ _ r h => by simp [impl_PartsOf.j1] at h, fun _ _ _ _ _ r h => by simp [impl_PartsOf.j2] at h, fun _ _ _ _ _ _ r h => by simp [impl_PartsOf.j3] at h⟩
 | k + 1 => by
  obtain ⟨ih0, ih1, ih2, ih3⟩ := impl_PartsOf.mono_l k
  refine ⟨?_, ?_, ?_, ?_⟩
  ·intro y0 y1 y2 y3
   unfold impl_PartsOf.l0
   exact mo_
  ·intro y0 y1 y2 y3 y4
   unfold impl_PartsOf.j1
   exact mo_
  ·intro y0 y1 y2 y3 y4
   unfold impl_PartsOf.j2
   exact mo_
  ·intro y0 y1 y2 y3 y4 y5
   unfold impl_PartsOf.j3
   exact mo_
theorem impl_PartsOf.mono : ∀ a0 k, LeO (impl_PartsOf.f k a0) (impl_PartsOf.f (k + 1) a0) := by
 intro a0 k
 obtain ⟨ih0, ih1, ih2, ih3⟩ := impl_PartsOf.mono_l k
 unfold impl_PartsOf.f
 exact mo_
theorem impl_PartsOf.calls (k : Nat) (a0 : ByteArray) (r1 : List ByteArray) (r2 : Bool) (w : World) (h : impl_PartsOf.f k a0 = some (r1, r2)) :
 Calls Try.prog 45 #[.string a0] w fun e w' => ∃ v0_ : Value, e = .returned (.tuple #[v0_, .bool r2]) ∧ Kd.R Kd.string 9 w' w.heap.size (fun _ => True) v0_ r1 ∧ Below w.heap.size w w' := by
 have HB := Aside0.mk (Below.refl w.heap.size w)
 have H := h
 unfold impl_PartsOf.f at H
 clear h
 by_cases c2 : (a0.size : Int) > 600
 ·rw [if_pos c2] at H
  have c2b0 := decide_eq_true c2
  have c2b1 : decide (600 < a0.size) = true := decide_eq_true (by omega)
  clear c2
  obtain ⟨y250, hy250⟩ : ∃ y_ : List ByteArray, y_ = (([] : List ByteArray)) := ⟨_, rfl⟩
  replace H : (some (y250, false)) = some (r1, r2) := rp_ H hy250
  have Ny250 := Aside0.mk hy250
  clear hy250
  simp only [Option.some.injEq, Prod.mk.injEq] at H
  obtain ⟨rfl, rfl⟩ := H
  go_enter Try.func45, Try.ntmps45
  go_wp2_with (first | ((with_reducible refine gate_dst (N := 11) rfl ?_); refine Kd.R_lit Kd.string _ 9 ?hg (N := 11) ?hd (xs := ([] : List ByteArray)) (inner := []) (ok := fun _ => True) (okp := fun _ => True) ?hr ?hp (fun _ hk => hk) trivial (Below.refl _ _) (Nat.le_refl _) (by simp) ?_; (case hd => rfl); (case hg => rfl); (case hr => first | (go_simp; done) | (go_simp; rfl)); (case hp => exact (Reps.none _ _)); intro v251 w3 ho4 hb hg_ hnew_; clear hg_ hnew_; (first | rw [← Ny250.out] at ho4 | (simp only [Int.reduceToNat] at ho4; rw [← Ny250.out] at ho4)); have HO252 := Aside0.mk (Kd.R_lower ho4 (below_size bl_)); replace HB := Aside0.mk (below_step bl_ hb); clear hb ho4))
  go_ret2
  exact ⟨_, er_, ra_ HO252.out, bl_⟩
 rw [if_neg c2] at H
 have c2b0 := decide_eq_false c2
 have c2b1 : decide (600 < a0.size) = false := decide_eq_false (by omega)
 clear c2
 obtain ⟨y253, hy253⟩ : ∃ y_ : List ByteArray, y_ = (([] : List ByteArray)) := ⟨_, rfl⟩
 replace H : (impl_PartsOf.l0 k a0 y253 (-1) 0) = some (r1, r2) := rp_ H hy253
 have Ny253 := Aside0.mk hy253
 clear hy253
 have H' := Aside0.mk H
 clear H
 go_enter Try.func45, Try.ntmps45
 go_wp2_with (first | ((with_reducible refine gate_dst (N := 12) rfl ?_); refine Kd.R_lit Kd.string _ 9 ?hg (N := 12) ?hd (xs := ([] : List ByteArray)) (inner := []) (ok := fun _ => True) (okp := fun _ => True) ?hr ?hp (fun _ hk => hk) trivial (Below.refl _ _) (Nat.le_refl _) (by simp) ?_; (case hd => rfl); (case hg => rfl); (case hr => first | (go_simp; done) | (go_simp; rfl)); (case hp => exact (Reps.none _ _)); intro v254 w5 ho6 hb hg_ hnew_; clear hg_ hnew_; (first | rw [← Ny253.out] at ho6 | (simp only [Int.reduceToNat] at ho6; rw [← Ny253.out] at ho6)); have HO255 := Aside0.mk (Kd.R_lower ho6 (below_size bl_)); replace HB := Aside0.mk (below_step bl_ hb); clear hb ho6))
 go_loopg [4, 5, 6] k (fun kq v4 v5 v6 w' => ∃ (x4_1 : List ByteArray) (x5_1 : Int) (x6_1 : Int), v5 = .int .i64 x5_1 ∧ v6 = .int .i64 x6_1 ∧ Aside0 (impl_PartsOf.l0 kq a0 x4_1 x5_1 x6_1 = some (r1, r2)) ∧ Aside0 (kq ≤ k) ∧ Aside0 (Kd.R Kd.string 9 w' w.heap.size (fun _ => True) v4 x4_1) ∧ Aside0 (Below w.heap.size w w'))
 case atStart => exact ⟨(y253), ((-1)), (0), (sr_), (sr_), H', ⟨Nat.le_refl _⟩, ⟨ra_ HO255.out⟩, ⟨bl_⟩⟩
 clear H'
 try clear c2
 try clear c2b0
 try clear c2b1
 obtain ⟨x4_1, x5_1, x6_1, rfl, rfl, HA, HK1, HO_4, HB⟩ := hrel
 cases gk with
 | zero => exact absurd HA.out (by simp [impl_PartsOf.l0])
 | succ k1 => ?_
 have H := HA.out
 clear HA
 simp only [impl_PartsOf.l0] at H
 by_cases c7 : x6_1 ≤ (a0.size : Int)
 rotate_left
 ·rw [if_neg c7] at H
  have c7b0 := decide_eq_false c7
  clear c7
  by_cases c38 : (x4_1.length : Int) > 10
  rotate_left
  ·rw [if_neg c38] at H
   have c38b0 := decide_eq_false c38
   have c38b1 : decide (10 < x4_1.length) = false := decide_eq_false (by omega)
   clear c38
   simp only [Option.some.injEq, Prod.mk.injEq] at H
   obtain ⟨rfl, rfl⟩ := H
   obtain ⟨Ao42, co42, eo42⟩ := Kd.R_slice HO_4.out
   subst eo42
   go_wp2
   go_ret2
   exact ⟨_, er_, ra_ HO_4.out, bl_⟩
  rw [if_pos c38] at H
  have c38b0 := decide_eq_true c38
  have c38b1 : decide (10 < x4_1.length) = true := decide_eq_true (by omega)
  clear c38
  obtain ⟨y256, hy256⟩ : ∃ y_ : List ByteArray, y_ = (([] : List ByteArray)) := ⟨_, rfl⟩
  replace H : (some (y256, false)) = some (r1, r2) := rp_ H hy256
  have Ny256 := Aside0.mk hy256
  clear hy256
  simp only [Option.some.injEq, Prod.mk.injEq] at H
  obtain ⟨rfl, rfl⟩ := H
  obtain ⟨Ao39, co39, eo39⟩ := Kd.R_slice HO_4.out
  subst eo39
  go_wp2_with (first | ((with_reducible refine gate_dst (N := 64) rfl ?_); refine Kd.R_lit Kd.string _ 9 ?hg (N := 64) ?hd (xs := ([] : List ByteArray)) (inner := []) (ok := fun _ => True) (okp := fun _ => True) ?hr ?hp (fun _ hk => hk) trivial (Below.refl _ _) (Nat.le_refl _) (by simp) ?_; (case hd => rfl); (case hg => rfl); (case hr => first | (go_simp; done) | (go_simp; rfl)); (case hp => exact (Reps.none _ _)); intro v257 w40 ho41 hb hg_ hnew_; clear hg_ hnew_; (first | rw [← Ny256.out] at ho41 | (simp only [Int.reduceToNat] at ho41; rw [← Ny256.out] at ho41)); have HO258 := Aside0.mk (Kd.R_lower (Kd.R_new' ho41 (Kd.R_lt (ra_ HO_4.out))) (below_size bl_)); replace HO_4 := Aside0.mk (Kd.R_elder' (ra_ HO_4.out) (Kd.R_base ho41) hb); replace HB := Aside0.mk (below_step bl_ hb); clear hb ho41))
  go_ret2
  exact ⟨_, er_, by (with_reducible repeat (first | apply Kd.R_alloc | apply Kd.R_drewN | apply Kd.R_drew)); exact Kd.R_mono HO258.out (fun _ hk => trivial), bl_⟩
 rw [if_pos c7] at H
 have c7b0 := decide_eq_true c7
 clear c7
 have HC8 := Aside0.mk H
 clear H
 go_upto_region 8 with (fail)
 go_cut [30] (fun v30 wc => ∃ (kq : Nat) (x30_7 : Bool), v30 = .bool x30_7 ∧ Aside0 (impl_PartsOf.j1 kq a0 x4_1 x5_1 x6_1 x30_7 = some (r1, r2)) ∧ Aside0 (kq ≤ k1) ∧ Aside0 (Kd.R Kd.string 9 wc w.heap.size (fun _ => True) u4 x4_1) ∧ Aside0 (Below w.heap.size w wc))
 case first =>
  have H := HC8.out
  clear HC8
  by_cases c9 : x6_1 < (a0.size : Int)
  rotate_left
  ·rw [if_neg c9] at H
   have c9b0 := decide_eq_false c9
   clear c9
   (first | rw [c9b0] | (simp only [i64_w, i32_w]; rw [c9b0]) | skip)
   have H' := Aside0.mk H
   clear H
   go_wp2
   go_meet
   case rel => exact ⟨_, (false), (sr_), H', ⟨by have := HK1.out; first | omega | exact Nat.le_refl _⟩, ⟨ra_ HO_4.out⟩, ⟨bl_⟩⟩
  rw [if_pos c9] at H
  have c9b0 := decide_eq_true c9
  clear c9
  (first | rw [c9b0] | (simp only [i64_w, i32_w]; rw [c9b0]) | skip)
  by_cases c10 : 0 ≤ x6_1
  rotate_left
  ·exact nn_ c10 H
  rw [if_pos c10] at H
  have c10b0 := decide_eq_true c10
  clear c10
  replace H := bs_ H
  obtain ⟨t259, A12, H⟩ := H
  try dsimp only at H
  have H' := Aside0.mk H
  clear H
  have p11 : 0 ≤ (x6_1 : Int) := of_decide_eq_true as_
  have q11 : x6_1 < (a0.size : Int) := of_decide_eq_true as_
  have hx11 := bt_at a0 x6_1
  replace p11 := eq_true p11
  replace q11 := eq_true q11
  go_wp2_with (first | (go_at_call 89; (with_reducible refine (impl_within.calls (wrap64 (bt a0 x6_1)) 32 126 t259 _ A12.out).mono ?_); rintro e w' ⟨rfl, ⟨nd, rfl⟩⟩))
  go_meet
  case rel => exact ⟨_, (!t259), (sr_), H', ⟨by have := HK1.out; first | omega | exact Nat.le_refl _⟩, ⟨ra_ HO_4.out⟩, ⟨bl_⟩⟩
 clear HC8
 try clear c2
 try clear c2b0
 try clear c2b1
 try clear c7
 try clear c7b0
 obtain ⟨kq, x30_7, rfl, HA, HJ7, HO_4, HB⟩ := hcut
 cases kq with
 | zero => exact absurd HA.out (by simp [impl_PartsOf.j1])
 | succ kj7 => ?_
 have H := HA.out
 clear HA
 simp only [impl_PartsOf.j1] at H
 by_cases c13 : x30_7 = true
 ·subst c13
  rw [if_pos rfl] at H
  obtain ⟨y260, hy260⟩ : ∃ y_ : List ByteArray, y_ = (([] : List ByteArray)) := ⟨_, rfl⟩
  replace H : (some (y260, false)) = some (r1, r2) := rp_ H hy260
  have Ny260 := Aside0.mk hy260
  clear hy260
  simp only [Option.some.injEq, Prod.mk.injEq] at H
  obtain ⟨rfl, rfl⟩ := H
  go_wp2_with (first | ((with_reducible refine gate_dst (N := 31) rfl ?_); refine Kd.R_lit Kd.string _ 9 ?hg (N := 31) ?hd (xs := ([] : List ByteArray)) (inner := []) (ok := fun _ => True) (okp := fun _ => True) ?hr ?hp (fun _ hk => hk) trivial (Below.refl _ _) (Nat.le_refl _) (by simp) ?_; (case hd => rfl); (case hg => rfl); (case hr => first | (go_simp; done) | (go_simp; rfl)); (case hp => exact (Reps.none _ _)); intro v261 w14 ho15 hb hg_ hnew_; clear hg_ hnew_; (first | rw [← Ny260.out] at ho15 | (simp only [Int.reduceToNat] at ho15; rw [← Ny260.out] at ho15)); have HO262 := Aside0.mk (Kd.R_lower (Kd.R_new' ho15 (Kd.R_lt (ra_ HO_4.out))) (below_size bl_)); replace HO_4 := Aside0.mk (Kd.R_elder' (ra_ HO_4.out) (Kd.R_base ho15) hb); replace HB := Aside0.mk (below_step bl_ hb); clear hb ho15))
  go_ret2
  exact ⟨_, er_, by (with_reducible repeat (first | apply Kd.R_alloc | apply Kd.R_drewN | apply Kd.R_drew)); exact Kd.R_mono HO262.out (fun _ hk => trivial), bl_⟩
 replace c13 := Bool.eq_false_iff.mpr c13
 subst c13
 rw [nf_] at H
 have HC16 := Aside0.mk H
 clear H
 go_upto_region 10 with (fail)
 go_cut [7] (fun v7 wc => ∃ (kq : Nat) (x7_15 : Bool), v7 = .bool x7_15 ∧ Aside0 (impl_PartsOf.j2 kq a0 x4_1 x5_1 x6_1 x7_15 = some (r1, r2)) ∧ Aside0 (kq ≤ kj7) ∧ Aside0 (Kd.R Kd.string 9 wc w.heap.size (fun _ => True) u4 x4_1) ∧ Aside0 (Below w.heap.size w wc))
 case first =>
  have H := HC16.out
  clear HC16
  by_cases c17 : x6_1 = (a0.size : Int)
  ·rw [if_pos c17] at H
   have c17b0 : (x6_1 == (a0.size : Int)) = true := beq_iff_eq.mpr c17
   have c17b1 : (x6_1 != (a0.size : Int)) = false := bne_eq_false_iff_eq.mpr c17
   clear c17
   (first | rw [c17b0] | (simp only [i64_w, i32_w]; rw [c17b0]) | skip)
   have H' := Aside0.mk H
   clear H
   go_wp2
   go_meet
   case rel => exact ⟨_, (true), (sr_), H', ⟨by have := HK1.out; have := HJ7.out; first | omega | exact Nat.le_refl _⟩, ⟨ra_ HO_4.out⟩, ⟨bl_⟩⟩
  rw [if_neg c17] at H
  have c17b0 : (x6_1 == (a0.size : Int)) = false := beq_eq_false_iff_ne.mpr c17
  have c17b1 : (x6_1 != (a0.size : Int)) = true := bne_iff_ne.mpr c17
  (first | rw [c17b0] | (simp only [i64_w, i32_w]; rw [c17b0]) | skip)
  by_cases c18 : 0 ≤ x6_1
  rotate_left
  ·exact nn_ c18 H
  rw [if_pos c18] at H
  have c18b0 := decide_eq_true c18
  clear c18
  by_cases c19 : x6_1 < (a0.size : Int)
  rotate_left
  ·exact nn_ c19 H
  rw [if_pos c19] at H
  have c19b0 := decide_eq_true c19
  clear c19
  have H' := Aside0.mk H
  clear H
  have p20 : 0 ≤ (x6_1 : Int) := of_decide_eq_true as_
  have q20 : x6_1 < (a0.size : Int) := of_decide_eq_true as_
  have hx20 := bt_at a0 x6_1
  replace p20 := eq_true p20
  replace q20 := eq_true q20
  go_wp2
  go_meet
  case rel => exact ⟨_, (((bt a0 x6_1) == 32)), (sr_), H', ⟨by have := HK1.out; have := HJ7.out; first | omega | exact Nat.le_refl _⟩, ⟨ra_ HO_4.out⟩, ⟨bl_⟩⟩
 clear HC16
 try clear c2
 try clear c2b0
 try clear c2b1
 try clear c7
 try clear c7b0
 try clear c13
 obtain ⟨kq, x7_15, rfl, HA, HJ15, HO_4, HB⟩ := hcut
 cases kq with
 | zero => exact absurd HA.out (by simp [impl_PartsOf.j2])
 | succ kj15 => ?_
 have H := HA.out
 clear HA
 simp only [impl_PartsOf.j2] at H
 have HC21 := Aside0.mk H
 clear H
 go_upto_region 11 with (fail)
 go_cut [47] (fun v47 wc => ∃ (kq : Nat) (x47_20 : Bool), v47 = .bool x47_20 ∧ Aside0 (impl_PartsOf.j3 kq a0 x4_1 x5_1 x6_1 x7_15 x47_20 = some (r1, r2)) ∧ Aside0 (kq ≤ kj15) ∧ Aside0 (Kd.R Kd.string 9 wc w.heap.size (fun _ => True) u4 x4_1) ∧ Aside0 (Below w.heap.size w wc))
 case first =>
  have H := HC21.out
  clear HC21
  by_cases c22 : x7_15 = true
  ·subst c22
   rw [if_pos rfl] at H
   have H' := Aside0.mk H
   clear H
   go_wp2
   go_meet
   case rel => exact ⟨_, (false), (sr_), H', ⟨by have := HK1.out; have := HJ7.out; have := HJ15.out; first | omega | exact Nat.le_refl _⟩, ⟨ra_ HO_4.out⟩, ⟨bl_⟩⟩
  replace c22 := Bool.eq_false_iff.mpr c22
  subst c22
  rw [nf_] at H
  have H' := Aside0.mk H
  clear H
  go_wp2
  go_meet
  case rel => exact ⟨_, (decide (x5_1 < 0)), (sr_), H', ⟨by have := HK1.out; have := HJ7.out; have := HJ15.out; first | omega | exact Nat.le_refl _⟩, ⟨ra_ HO_4.out⟩, ⟨bl_⟩⟩
 clear HC21
 try clear c2
 try clear c2b0
 try clear c2b1
 try clear c7
 try clear c7b0
 try clear c13
 obtain ⟨kq, x47_20, rfl, HA, HJ20, HO_4, HB⟩ := hcut
 cases kq with
 | zero => exact absurd HA.out (by simp [impl_PartsOf.j3])
 | succ kj20 => ?_
 have H := HA.out
 clear HA
 simp only [impl_PartsOf.j3] at H
 by_cases c23 : x47_20 = true
 ·subst c23
  rw [if_pos rfl] at H
  by_cases c24 : x7_15 = true
  rotate_left
  ·replace c24 := Bool.eq_false_iff.mpr c24
   subst c24
   rw [nf_] at H
   have H' := Aside0.mk H
   clear H
   go_wp2
   go_roundg kj20
   case measure => have := HK1.out; have := HJ7.out; have := HJ15.out; have := HJ20.out; omega
   case rel => exact ⟨(x4_1), (x6_1), (wrap64 (x6_1 + 1)), (sr_), (sr_), H', ⟨by have := HK1.out; have := HJ7.out; have := HJ15.out; have := HJ20.out; omega⟩, ⟨ra_ HO_4.out⟩, ⟨bl_⟩⟩
  subst c24
  rw [if_pos rfl] at H
  by_cases c25 : x6_1 ≥ 0
  rotate_left
  ·rw [if_neg c25] at H
   have c25b0 := decide_eq_false c25
   clear c25
   have H' := Aside0.mk H
   clear H
   go_wp2
   go_roundg kj20
   case measure => have := HK1.out; have := HJ7.out; have := HJ15.out; have := HJ20.out; omega
   case rel => exact ⟨(x4_1), (x6_1), (wrap64 (x6_1 + 1)), (sr_), (sr_), H', ⟨by have := HK1.out; have := HJ7.out; have := HJ15.out; have := HJ20.out; omega⟩, ⟨ra_ HO_4.out⟩, ⟨bl_⟩⟩
  rw [if_pos c25] at H
  have c25b0 := decide_eq_true c25
  clear c25
  by_cases c26 : 0 ≤ x6_1
  rotate_left
  ·exact nn_ c26 H
  rw [if_pos c26] at H
  have c26b0 := eq_true c26
  have c26b1 : decide (0 ≤ x6_1) = true := decide_eq_true c26
  clear c26
  by_cases c27 : x6_1 ≤ x6_1
  rotate_left
  ·exact nn_ c27 H
  rw [if_pos c27] at H
  have c27b0 := eq_true c27
  have c27b1 : decide (x6_1 ≤ x6_1) = true := decide_eq_true c27
  clear c27
  by_cases c28 : x6_1 ≤ (a0.size : Int)
  rotate_left
  ·exact nn_ c28 H
  rw [if_pos c28] at H
  have c28b0 := eq_true c28
  have c28b1 : decide (x6_1 ≤ (a0.size : Int)) = true := decide_eq_true c28
  clear c28
  by_cases c29 : x4_1.length < 8796093022208
  rotate_left
  ·exact nn_ c29 H
  rw [if_pos c29] at H
  have LMc29 := Aside0.mk c29
  clear c29
  obtain ⟨y263, hy263⟩ : ∃ y_ : List ByteArray, y_ = (x4_1 ++ [ByteArray.empty]) := ⟨_, rfl⟩
  replace H : (impl_PartsOf.l0 kj20 a0 y263 (-1) (wrap64 (x6_1 + 1))) = some (r1, r2) := rp_ H hy263
  have Ny263 := Aside0.mk hy263
  clear hy263
  have H' := Aside0.mk H
  clear H
  go_wp2_with (first | ((with_reducible refine gate_builtin (b := .append) (xs := #[.tmp 54, .tmp 59]) rfl ?_); at_builtin; refine Kd.R_append Kd.string (w0 := w) w.heap.size rfl (.tmp 54) (.tmp 59) 62 9 (.string ⟨#[]⟩) 16 rfl Try.underlying62 info9 rfl (by decide) (by omega) u4 x4_1 ByteArray.empty [.string ByteArray.empty] (fun _ => True) (fun _ => False) rfl rfl ?aP (fun _ hk => hk.elim) ?aF ?aO ?aB ?aS ?aL ?_; (case aP => exact rfl); (case aB => exact bl_); (case aF => exact (fun _ _ => trivial)); (case aO => exact (ra_ HO_4.out)); (case aS => exact (below_size bl_)); (case aL => have := LMc29.out; omega); intro v264 w30 ho hb hg hat; rw [← Ny263.out] at ho; replace HB := Aside0.mk (hb); have HO265 := Aside0.mk (ho); clear HO_4; clear ho hb hg hat))
  go_roundg kj20
  case measure => have := HK1.out; have := HJ7.out; have := HJ15.out; have := HJ20.out; omega
  case rel => exact ⟨(y263), ((-1)), (wrap64 (x6_1 + 1)), (sr_), (sr_), H', ⟨by have := HK1.out; have := HJ7.out; have := HJ15.out; have := HJ20.out; omega⟩, ⟨ra_ HO265.out⟩, ⟨bl_⟩⟩
 replace c23 := Bool.eq_false_iff.mpr c23
 subst c23
 rw [nf_] at H
 by_cases c31 : x7_15 = true
 rotate_left
 ·replace c31 := Bool.eq_false_iff.mpr c31
  subst c31
  rw [nf_] at H
  have H' := Aside0.mk H
  clear H
  go_wp2
  go_roundg kj20
  case measure => have := HK1.out; have := HJ7.out; have := HJ15.out; have := HJ20.out; omega
  case rel => exact ⟨(x4_1), (x5_1), (wrap64 (x6_1 + 1)), (sr_), (sr_), H', ⟨by have := HK1.out; have := HJ7.out; have := HJ15.out; have := HJ20.out; omega⟩, ⟨ra_ HO_4.out⟩, ⟨bl_⟩⟩
 subst c31
 rw [if_pos rfl] at H
 by_cases c32 : x5_1 ≥ 0
 rotate_left
 ·rw [if_neg c32] at H
  have c32b0 := decide_eq_false c32
  clear c32
  have H' := Aside0.mk H
  clear H
  go_wp2
  go_roundg kj20
  case measure => have := HK1.out; have := HJ7.out; have := HJ15.out; have := HJ20.out; omega
  case rel => exact ⟨(x4_1), (x5_1), (wrap64 (x6_1 + 1)), (sr_), (sr_), H', ⟨by have := HK1.out; have := HJ7.out; have := HJ15.out; have := HJ20.out; omega⟩, ⟨ra_ HO_4.out⟩, ⟨bl_⟩⟩
 rw [if_pos c32] at H
 have c32b0 := decide_eq_true c32
 clear c32
 by_cases c33 : 0 ≤ x5_1
 rotate_left
 ·exact nn_ c33 H
 rw [if_pos c33] at H
 have c33b0 := eq_true c33
 have c33b1 : decide (0 ≤ x5_1) = true := decide_eq_true c33
 clear c33
 by_cases c34 : x5_1 ≤ x6_1
 rotate_left
 ·exact nn_ c34 H
 rw [if_pos c34] at H
 have c34b0 := eq_true c34
 have c34b1 : decide (x5_1 ≤ x6_1) = true := decide_eq_true c34
 clear c34
 by_cases c35 : x6_1 ≤ (a0.size : Int)
 rotate_left
 ·exact nn_ c35 H
 rw [if_pos c35] at H
 have c35b0 := eq_true c35
 have c35b1 : decide (x6_1 ≤ (a0.size : Int)) = true := decide_eq_true c35
 clear c35
 by_cases c36 : x4_1.length < 8796093022208
 rotate_left
 ·exact nn_ c36 H
 rw [if_pos c36] at H
 have LMc36 := Aside0.mk c36
 clear c36
 obtain ⟨y266, hy266⟩ : ∃ y_ : List ByteArray, y_ = (x4_1 ++ [a0.extract (x5_1 : Int).toNat (x6_1 : Int).toNat]) := ⟨_, rfl⟩
 replace H : (impl_PartsOf.l0 kj20 a0 y266 (-1) (wrap64 (x6_1 + 1))) = some (r1, r2) := rp_ H hy266
 have Ny266 := Aside0.mk hy266
 clear hy266
 have H' := Aside0.mk H
 clear H
 go_wp2_with (first | ((with_reducible refine gate_builtin (b := .append) (xs := #[.tmp 54, .tmp 59]) rfl ?_); at_builtin; refine Kd.R_append Kd.string (w0 := w) w.heap.size rfl (.tmp 54) (.tmp 59) 62 9 (.string ⟨#[]⟩) 16 rfl Try.underlying62 info9 rfl (by decide) (by omega) u4 x4_1 (a0.extract (x5_1 : Int).toNat (x6_1 : Int).toNat) [.string (a0.extract (x5_1 : Int).toNat (x6_1 : Int).toNat)] (fun _ => True) (fun _ => False) rfl rfl ?aP (fun _ hk => hk.elim) ?aF ?aO ?aB ?aS ?aL ?_; (case aP => exact rfl); (case aB => exact bl_); (case aF => exact (fun _ _ => trivial)); (case aO => exact (ra_ HO_4.out)); (case aS => exact (below_size bl_)); (case aL => have := LMc36.out; omega); intro v267 w37 ho hb hg hat; rw [← Ny266.out] at ho; replace HB := Aside0.mk (hb); have HO268 := Aside0.mk (ho); clear HO_4; clear ho hb hg hat))
 go_roundg kj20
 case measure => have := HK1.out; have := HJ7.out; have := HJ15.out; have := HJ20.out; omega
 case rel => exact ⟨(y266), ((-1)), (wrap64 (x6_1 + 1)), (sr_), (sr_), H', ⟨by have := HK1.out; have := HJ7.out; have := HJ15.out; have := HJ20.out; omega⟩, ⟨ra_ HO268.out⟩, ⟨bl_⟩⟩


def impl_Decimal.l0 : Nat → Int → ByteArray → Int → Option (ByteArray)
 | 0, _, _, _ => none
 | k + 1, x0, x3, x4 => if x4 = 0 then (if x0 < 0 then (if 1 + x3.size ≤ 9223372036854775807 then (some ((⟨#[45]⟩ : ByteArray) ++ x3)) else (none)) else (some x3)) else (if 0 ≤ (mx (Int.tmod x4 10) (wrap64 (-(Int.tmod x4 10)))) then (if (mx (Int.tmod x4 10) (wrap64 (-(Int.tmod x4 10)))) ≤ (wrap64 ((mx (Int.tmod x4 10) (wrap64 (-(Int.tmod x4 10)))) + 1)) then (if (wrap64 ((mx (Int.tmod x4 10) (wrap64 (-(Int.tmod x4 10)))) + 1)) ≤ 16 then (if ((⟨#[48, 49, 50, 51, 52, 53, 54, 55, 56, 57, 97, 98, 99, 100, 101, 102]⟩ : ByteArray).extract ((mx (Int.tmod x4 10) (wrap64 (-(Int.tmod x4 10)))) : Int).toNat ((wrap64 ((mx (Int.tmod x4 10) (wrap64 (-(Int.tmod x4 10)))) + 1)) : Int).toNat).size + x3.size ≤ 9223372036854775807 then (impl_Decimal.l0 k x0 (((⟨#[48, 49, 50, 51, 52, 53, 54, 55, 56, 57, 97, 98, 99, 100, 101, 102]⟩ : ByteArray).extract ((mx (Int.tmod x4 10) (wrap64 (-(Int.tmod x4 10)))) : Int).toNat ((wrap64 ((mx (Int.tmod x4 10) (wrap64 (-(Int.tmod x4 10)))) + 1)) : Int).toNat) ++ x3) (wrap64 (Int.tdiv x4 10))) else (none)) else (none)) else (none)) else (none))
def impl_Decimal.f (k : Nat) (a0 : Int) : Option (ByteArray) := if a0 = 0 then (some (⟨#[48]⟩ : ByteArray)) else (impl_Decimal.l0 k a0 (⟨#[]⟩ : ByteArray) a0)
theorem impl_Decimal.mono_l : ∀ k, (∀ y0 y1 y2, LeO (impl_Decimal.l0 k y0 y1 y2) (impl_Decimal.l0 (k + 1) y0 y1 y2))
 | 0 => fun _ _ _ r h => by simp [impl_Decimal.l0] at h
 | k + 1 => by
  have ih0 := impl_Decimal.mono_l k
  ·intro y0 y1 y2
   unfold impl_Decimal.l0
   exact mo_
theorem impl_Decimal.mono : ∀ a0 k, LeO (impl_Decimal.f k a0) (impl_Decimal.f (k + 1) a0) := by
 intro a0 k
 have ih0 := impl_Decimal.mono_l k
 unfold impl_Decimal.f
 exact mo_
theorem impl_Decimal.calls (k : Nat) (a0 : Int) (r : ByteArray) (w : World) (h : impl_Decimal.f k a0 = some r) :
 Calls Try.prog 117 #[.int .i64 a0] w fun e w' => e = .returned (.string r) ∧ Below w.heap.size w w' := by
 have HB := Aside0.mk (Below.refl w.heap.size w)
 have H := h
 unfold impl_Decimal.f at H
 clear h
 by_cases c2 : a0 = 0
 ·rw [if_pos c2] at H
  have c2b0 : (a0 == 0) = true := beq_iff_eq.mpr c2
  have c2b1 : (a0 != 0) = false := bne_eq_false_iff_eq.mpr c2
  clear c2
  obtain rfl := Option.some.inj H
  go_enter Try.func117, Try.ntmps117
  go_wp2
  go_ret
  exact ⟨er_, bl_⟩
 rw [if_neg c2] at H
 have c2b0 : (a0 == 0) = false := beq_eq_false_iff_ne.mpr c2
 have c2b1 : (a0 != 0) = true := bne_iff_ne.mpr c2
 have H' := Aside0.mk H
 clear H
 go_enter Try.func117, Try.ntmps117
 go_wp2
 go_loopg [3, 4] k (fun kq v3 v4 w' => ∃ (x3_1 : ByteArray) (x4_1 : Int), v3 = .string x3_1 ∧ v4 = .int .i64 x4_1 ∧ Aside0 (impl_Decimal.l0 kq a0 x3_1 x4_1 = some r) ∧ Aside0 (kq ≤ k) ∧ Aside0 (Below w.heap.size w w'))
 case atStart => exact ⟨((⟨#[]⟩ : ByteArray)), (a0), (sr_), (sr_), H', ⟨Nat.le_refl _⟩, ⟨bl_⟩⟩
 clear H'
 try clear c2
 try clear c2b0
 try clear c2b1
 obtain ⟨x3_1, x4_1, rfl, rfl, HA, HK1, HB⟩ := hrel
 cases gk with
 | zero => exact absurd HA.out (by simp [impl_Decimal.l0])
 | succ k1 => ?_
 have H := HA.out
 clear HA
 simp only [impl_Decimal.l0] at H
 by_cases c3 : x4_1 = 0
 ·rw [if_pos c3] at H
  have c3b0 : (x4_1 == 0) = true := beq_iff_eq.mpr c3
  have c3b1 : (x4_1 != 0) = false := bne_eq_false_iff_eq.mpr c3
  clear c3
  by_cases c4 : a0 < 0
  rotate_left
  ·rw [if_neg c4] at H
   have c4b0 := decide_eq_false c4
   clear c4
   obtain rfl := Option.some.inj H
   go_wp2
   go_ret
   exact ⟨er_, bl_⟩
  rw [if_pos c4] at H
  have c4b0 := decide_eq_true c4
  clear c4
  by_cases c5 : 1 + x3_1.size ≤ 9223372036854775807
  rotate_left
  ·exact nn_ c5 H
  rw [if_pos c5] at H
  have c5b0 := eq_true c5
  have c5b1 : decide (1 + x3_1.size ≤ 9223372036854775807) = true := decide_eq_true c5
  try have c5b2 : (9223372036854775807 < 1 + x3_1.size) = False := eq_false (Nat.not_lt.2 c5)
  obtain rfl := Option.some.inj H
  go_wp2
  go_ret
  exact ⟨er_, bl_⟩
 rw [if_neg c3] at H
 have c3b0 : (x4_1 == 0) = false := beq_eq_false_iff_ne.mpr c3
 have c3b1 : (x4_1 != 0) = true := bne_iff_ne.mpr c3
 obtain ⟨ji6, hji6⟩ : ∃ j_ : Int, (mx (Int.tmod x4_1 10) (wrap64 (-(Int.tmod x4_1 10)))) = j_ := ⟨_, rfl⟩
 replace H : (if 0 ≤ (ji6) then (if (ji6) ≤ (wrap64 ((ji6) + 1)) then (if (wrap64 ((ji6) + 1)) ≤ 16 then (if ((⟨#[48, 49, 50, 51, 52, 53, 54, 55, 56, 57, 97, 98, 99, 100, 101, 102]⟩ : ByteArray).extract ((ji6) : Int).toNat ((wrap64 ((ji6) + 1)) : Int).toNat).size + x3_1.size ≤ 9223372036854775807 then (impl_Decimal.l0 k1 a0 (((⟨#[48, 49, 50, 51, 52, 53, 54, 55, 56, 57, 97, 98, 99, 100, 101, 102]⟩ : ByteArray).extract ((ji6) : Int).toNat ((wrap64 ((ji6) + 1)) : Int).toNat) ++ x3_1) (wrap64 (Int.tdiv x4_1 10))) else (none)) else (none)) else (none)) else (none)) = some r := by first | (rw [hji6] at H; exact H) | (simp only [hji6] at H ⊢; exact H)
 have hji6_ : (if (Int.tmod x4_1 10) < (wrap64 (-(Int.tmod x4_1 10))) then (wrap64 (-(Int.tmod x4_1 10))) else (Int.tmod x4_1 10)) = ji6 := hji6
 by_cases c7 : 0 ≤ (ji6)
 rotate_left
 ·exact nn_ c7 H
 rw [if_pos c7] at H
 have c7b0 := eq_true c7
 have c7b1 : decide (0 ≤ (ji6)) = true := decide_eq_true c7
 clear c7
 by_cases c8 : (ji6) ≤ (wrap64 ((ji6) + 1))
 rotate_left
 ·exact nn_ c8 H
 rw [if_pos c8] at H
 have c8b0 := eq_true c8
 have c8b1 : decide ((ji6) ≤ (wrap64 ((ji6) + 1))) = true := decide_eq_true c8
 by_cases c9 : (wrap64 ((ji6) + 1)) ≤ 16
 rotate_left
 ·exact nn_ c9 H
 rw [if_pos c9] at H
 have c9b0 := eq_true c9
 have c9b1 : decide ((wrap64 ((ji6) + 1)) ≤ 16) = true := decide_eq_true c9
 by_cases c10 : ((⟨#[48, 49, 50, 51, 52, 53, 54, 55, 56, 57, 97, 98, 99, 100, 101, 102]⟩ : ByteArray).extract ((ji6) : Int).toNat ((wrap64 ((ji6) + 1)) : Int).toNat).size + x3_1.size ≤ 9223372036854775807
 rotate_left
 ·exact nn_ c10 H
 rw [if_pos c10] at H
 have c10b0 := eq_true c10
 have c10b1 : decide (((⟨#[48, 49, 50, 51, 52, 53, 54, 55, 56, 57, 97, 98, 99, 100, 101, 102]⟩ : ByteArray).extract ((ji6) : Int).toNat ((wrap64 ((ji6) + 1)) : Int).toNat).size + x3_1.size ≤ 9223372036854775807) = true := decide_eq_true c10
 try have c10b2 : (9223372036854775807 < ((⟨#[48, 49, 50, 51, 52, 53, 54, 55, 56, 57, 97, 98, 99, 100, 101, 102]⟩ : ByteArray).extract ((ji6) : Int).toNat ((wrap64 ((ji6) + 1)) : Int).toNat).size + x3_1.size) = False := eq_false (Nat.not_lt.2 c10)
 have H' := Aside0.mk H
 clear H
 go_wp2
 go_roundg k1
 case measure => have := HK1.out; omega
 case rel => exact ⟨(((⟨#[48, 49, 50, 51, 52, 53, 54, 55, 56, 57, 97, 98, 99, 100, 101, 102]⟩ : ByteArray).extract ((ji6) : Int).toNat ((wrap64 ((ji6) + 1)) : Int).toNat) ++ x3_1), (wrap64 (Int.tdiv x4_1 10)), (by first | rfl | (simp; done) | (simp only [← hji6] <;> (first | rfl | simp)) | (simp [*]; done)), (sr_), H', ⟨by have := HK1.out; omega⟩, ⟨bl_⟩⟩


def impl_ReadDecimal.l0 : Nat → ByteArray → Int → Int → Option (Int × Bool)
 | 0, _, _, _ => none
 | k + 1, x0, x4, x5 => if x5 < (x0.size : Int) then (if 0 ≤ x5 then (if (bt x0 x5) < 48 then (some (0, false)) else (if (bt x0 x5) > 57 then (some (0, false)) else (impl_ReadDecimal.l0 k x0 (wrap64 ((wrap64 (10 * x4)) + (((bt x0 x5) - 48) % 256))) (wrap64 (x5 + 1))))) else (none)) else (if x4 > 1000000000 then (some (0, false)) else ((impl_Decimal.f k x4).bind fun t270 => (if t270.toList = x0.toList then (some (x4, true)) else (some (0, false)))))
def impl_ReadDecimal.f (k : Nat) (a0 : ByteArray) : Option (Int × Bool) := (impl_within.f (a0.size : Int) 1 10).bind fun t269 => (if t269 = true then (impl_ReadDecimal.l0 k a0 0 0) else (some (0, false)))
theorem impl_ReadDecimal.mono_l : ∀ k, (∀ y0 y1 y2, LeO (impl_ReadDecimal.l0 k y0 y1 y2) (impl_ReadDecimal.l0 (k + 1) y0 y1 y2))
 | 0 => fun _ _ _ r h => by simp [impl_ReadDecimal.l0] at h
 | k + 1 => by
  have ih0 := impl_ReadDecimal.mono_l k
  ·intro y0 y1 y2
   unfold impl_ReadDecimal.l0
   have m0 := @impl_Decimal.mono
   exact mo_
theorem impl_ReadDecimal.mono : ∀ a0 k, LeO (impl_ReadDecimal.f k a0) (impl_ReadDecimal.f (k + 1) a0) := by
 intro a0 k
 have ih0 := impl_ReadDecimal.mono_l k
 unfold impl_ReadDecimal.f
 have m0 := @impl_Decimal.mono
 exact mo_
theorem impl_ReadDecimal.calls (k : Nat) (a0 : ByteArray) (r1 : Int) (r2 : Bool) (w : World) (h : impl_ReadDecimal.f k a0 = some (r1, r2)) :
 Calls Try.prog 90 #[.string a0] w fun e w' => e = .returned (.tuple #[.int .i64 r1, .bool r2]) ∧ Below w.heap.size w w' := by
 have HB := Aside0.mk (Below.refl w.heap.size w)
 have H := h
 unfold impl_ReadDecimal.f at H
 clear h
 replace H := bs_ H
 obtain ⟨t269, A2, H⟩ := H
 try dsimp only at H
 by_cases c3 : t269 = true
 rotate_left
 ·replace c3 := Bool.eq_false_iff.mpr c3
  subst c3
  rw [nf_] at H
  simp only [Option.some.injEq, Prod.mk.injEq] at H
  obtain ⟨rfl, rfl⟩ := H
  go_enter Try.func90, Try.ntmps90
  go_wp2_with (first | ((with_reducible refine gate_callee (f := 89) rfl ?_); refine gs_ (some 8) Try.func89 #[.int .i64 (a0.size : Int), .int .i64 1, .int .i64 10] ?_; (with_reducible refine (impl_within.calls (a0.size : Int) 1 10 false _ A2.out).mono ?_); rintro e w' ⟨rfl, ⟨nd, rfl⟩⟩; refine ⟨_, rfl, ?_⟩))
  go_ret2
  exact ⟨er_, bl_⟩
 subst c3
 rw [if_pos rfl] at H
 have H' := Aside0.mk H
 clear H
 go_enter Try.func90, Try.ntmps90
 go_wp2_with (first | ((with_reducible refine gate_callee (f := 89) rfl ?_); refine gs_ (some 8) Try.func89 #[.int .i64 (a0.size : Int), .int .i64 1, .int .i64 10] ?_; (with_reducible refine (impl_within.calls (a0.size : Int) 1 10 true _ A2.out).mono ?_); rintro e w' ⟨rfl, ⟨nd, rfl⟩⟩; refine ⟨_, rfl, ?_⟩))
 go_loopg [4, 5] k (fun kq v4 v5 w' => ∃ (x4_1 : Int) (x5_1 : Int), v4 = .int .i64 x4_1 ∧ v5 = .int .i64 x5_1 ∧ Aside0 (impl_ReadDecimal.l0 kq a0 x4_1 x5_1 = some (r1, r2)) ∧ Aside0 (kq ≤ k) ∧ Aside0 (Below w.heap.size w w'))
 case atStart => exact ⟨(0), (0), (sr_), (sr_), H', ⟨Nat.le_refl _⟩, ⟨bl_⟩⟩
 clear H'
 try clear c3
 obtain ⟨x4_1, x5_1, rfl, rfl, HA, HK1, HB⟩ := hrel
 cases gk with
 | zero => exact absurd HA.out (by simp [impl_ReadDecimal.l0])
 | succ k1 => ?_
 have H := HA.out
 clear HA
 simp only [impl_ReadDecimal.l0] at H
 by_cases c4 : x5_1 < (a0.size : Int)
 rotate_left
 ·rw [if_neg c4] at H
  have c4b0 := decide_eq_false c4
  clear c4
  by_cases c11 : x4_1 > 1000000000
  ·rw [if_pos c11] at H
   have c11b0 := decide_eq_true c11
   clear c11
   simp only [Option.some.injEq, Prod.mk.injEq] at H
   obtain ⟨rfl, rfl⟩ := H
   go_wp2
   go_ret2
   exact ⟨er_, bl_⟩
  rw [if_neg c11] at H
  have c11b0 := decide_eq_false c11
  clear c11
  replace H := bs_ H
  obtain ⟨t270, A12, H⟩ := H
  try dsimp only at H
  by_cases c13 : t270.toList = a0.toList
  rotate_left
  ·rw [if_neg c13] at H
   have c13b0 : (t270.toList == a0.toList) = false := beq_eq_false_iff_ne.mpr c13
   have c13b1 : (t270.toList != a0.toList) = true := bne_iff_ne.mpr c13
   simp only [Option.some.injEq, Prod.mk.injEq] at H
   obtain ⟨rfl, rfl⟩ := H
   go_wp2_with (first | (go_at_call 117; (with_reducible refine (impl_Decimal.calls k1 x4_1 t270 _ A12.out).mono ?_); rintro e w15 ⟨rfl, hb⟩; replace HB := Aside0.mk (below_step bl_ hb); (try clear hb)))
   go_ret2
   exact ⟨er_, bl_⟩
  rw [if_pos c13] at H
  have c13b0 : (t270.toList == a0.toList) = true := beq_iff_eq.mpr c13
  have c13b1 : (t270.toList != a0.toList) = false := bne_eq_false_iff_eq.mpr c13
  clear c13
  simp only [Option.some.injEq, Prod.mk.injEq] at H
  obtain ⟨rfl, rfl⟩ := H
  go_wp2_with (first | (go_at_call 117; (with_reducible refine (impl_Decimal.calls k1 x4_1 t270 _ A12.out).mono ?_); rintro e w14 ⟨rfl, hb⟩; replace HB := Aside0.mk (below_step bl_ hb); (try clear hb)))
  go_ret2
  exact ⟨er_, bl_⟩
 rw [if_pos c4] at H
 have c4b0 := decide_eq_true c4
 clear c4
 by_cases c5 : 0 ≤ x5_1
 rotate_left
 ·exact nn_ c5 H
 rw [if_pos c5] at H
 have c5b0 := decide_eq_true c5
 clear c5
 by_cases c7 : (bt a0 x5_1) < 48
 ·rw [if_pos c7] at H
  have c7b0 := decide_eq_true c7
  clear c7
  simp only [Option.some.injEq, Prod.mk.injEq] at H
  obtain ⟨rfl, rfl⟩ := H
  have p6 : 0 ≤ (x5_1 : Int) := of_decide_eq_true as_
  have q6 : x5_1 < (a0.size : Int) := of_decide_eq_true as_
  have hx6 := bt_at a0 x5_1
  replace p6 := eq_true p6
  replace q6 := eq_true q6
  go_wp2
  go_ret2
  exact ⟨er_, bl_⟩
 rw [if_neg c7] at H
 have c7b0 := decide_eq_false c7
 clear c7
 by_cases c9 : (bt a0 x5_1) > 57
 ·rw [if_pos c9] at H
  have c9b0 := decide_eq_true c9
  clear c9
  simp only [Option.some.injEq, Prod.mk.injEq] at H
  obtain ⟨rfl, rfl⟩ := H
  have p6 : 0 ≤ (x5_1 : Int) := of_decide_eq_true as_
  have q6 : x5_1 < (a0.size : Int) := of_decide_eq_true as_
  have hx6 := bt_at a0 x5_1
  replace p6 := eq_true p6
  replace q6 := eq_true q6
  have p8 : 0 ≤ (x5_1 : Int) := of_decide_eq_true as_
  have q8 : x5_1 < (a0.size : Int) := of_decide_eq_true as_
  have hx8 := bt_at a0 x5_1
  replace p8 := eq_true p8
  replace q8 := eq_true q8
  go_wp2
  go_ret2
  exact ⟨er_, bl_⟩
 rw [if_neg c9] at H
 have c9b0 := decide_eq_false c9
 clear c9
 have H' := Aside0.mk H
 clear H
 have p6 : 0 ≤ (x5_1 : Int) := of_decide_eq_true as_
 have q6 : x5_1 < (a0.size : Int) := of_decide_eq_true as_
 have hx6 := bt_at a0 x5_1
 replace p6 := eq_true p6
 replace q6 := eq_true q6
 have p8 : 0 ≤ (x5_1 : Int) := of_decide_eq_true as_
 have q8 : x5_1 < (a0.size : Int) := of_decide_eq_true as_
 have hx8 := bt_at a0 x5_1
 replace p8 := eq_true p8
 replace q8 := eq_true q8
 have p10 : 0 ≤ (x5_1 : Int) := of_decide_eq_true as_
 have q10 : x5_1 < (a0.size : Int) := of_decide_eq_true as_
 have hx10 := bt_at a0 x5_1
 replace p10 := eq_true p10
 replace q10 := eq_true q10
 go_wp2
 go_roundg k1
 case measure => have := HK1.out; omega
 case rel => exact ⟨(wrap64 ((wrap64 (10 * x4_1)) + (((bt a0 x5_1) - 48) % 256))), (wrap64 (x5_1 + 1)), (sr_), (sr_), H', ⟨by have := HK1.out; omega⟩, ⟨bl_⟩⟩


def impl_numbersOf.l0 : Nat → List Int → List ByteArray → Int → Int → Option (List Int × Bool)
 | 0, _, _, _, _ => none
 | k + 1, x4, x10, x11, x12 => if x12 < x11 then (if 0 ≤ x12 then (if x12 < (x10.length : Int) then ((impl_ReadDecimal.f k (rdOf ByteArray.empty x10 x12)).bind fun bt275 => (if bt275.2 = true then (if x4.length < 17592186044416 then (impl_numbersOf.l0 k (x4 ++ [bt275.1]) x10 x11 (wrap64 (x12 + 1))) else (none)) else (some (x4, false)))) else (none)) else (none)) else (some (x4, true))
def impl_numbersOf.f (k : Nat) (l0 : List ByteArray) : Option (List Int × Bool) := impl_numbersOf.l0 k (([] : List Int)) l0 (l0.length : Int) 0
theorem impl_numbersOf.mono_l : ∀ k, (∀ y0 y1 y2 y3, LeO (impl_numbersOf.l0 k y0 y1 y2 y3) (impl_numbersOf.l0 (k + 1) y0 y1 y2 y3))
 | 0 => fun _ _ _ _ r h => by simp [impl_numbersOf.l0] at h
 | k + 1 => by
  have ih0 := impl_numbersOf.mono_l k
  ·intro y0 y1 y2 y3
   unfold impl_numbersOf.l0
   have m0 := @impl_ReadDecimal.mono
   exact mo_
theorem impl_numbersOf.mono : ∀ a0 k, LeO (impl_numbersOf.f k a0) (impl_numbersOf.f (k + 1) a0) := by
 intro a0 k
 have ih0 := impl_numbersOf.mono_l k
 unfold impl_numbersOf.f
 have m0 := @impl_ReadDecimal.mono
 exact mo_
theorem impl_numbersOf.calls (k : Nat) (A0 : Option Addr) (c0 : Nat) (l0 : List ByteArray) (r1 : List Int) (r2 : Bool) (w : World) (hr0 : Kd.C Kd.string w A0 l0.length l0) (hc0 : l0.length ≤ c0) (h : impl_numbersOf.f k l0 = some (r1, r2)) :
 Calls Try.prog 46 #[.slice A0 l0.length c0] w fun e w' => ∃ v0_ : Value, e = .returned (.tuple #[v0_, .bool r2]) ∧ Kd.R (Kd.int .i64) 3 w' w.heap.size (fun _ => True) v0_ r1 ∧ Below w.heap.size w w' := by
 have HR0 := Aside0.mk hr0
 have HC0 := Aside0.mk hc0
 clear hr0 hc0
 have HB := Aside0.mk (Below.refl w.heap.size w)
 have H := h
 unfold impl_numbersOf.f at H
 clear h
 obtain ⟨y271, hy271⟩ : ∃ y_ : List Int, y_ = (([] : List Int)) := ⟨_, rfl⟩
 replace H : (impl_numbersOf.l0 k y271 l0 (l0.length : Int) 0) = some (r1, r2) := rp_ H hy271
 have Ny271 := Aside0.mk hy271
 clear hy271
 have H' := Aside0.mk H
 clear H
 go_enter Try.func46, Try.ntmps46
 go_wp2_with (first | ((with_reducible refine gate_dst (N := 9) rfl ?_); refine Kd.R_lit (Kd.int .i64) _ 3 ?hg (N := 9) ?hd (xs := ([] : List Int)) (inner := []) (ok := fun _ => True) (okp := fun _ => True) ?hr ?hp (fun _ hk => hk) trivial (Below.refl _ _) (Nat.le_refl _) (by simp) ?_; (case hd => rfl); (case hg => rfl); (case hr => first | (go_simp; done) | (go_simp; rfl)); (case hp => exact (Reps.none _ _)); intro v272 w2 ho3 hb hg_ hnew_; clear hg_ hnew_; (first | rw [← Ny271.out] at ho3 | (simp only [Int.reduceToNat] at ho3; rw [← Ny271.out] at ho3)); have HO273 := Aside0.mk (Kd.R_lower ho3 (below_size bl_)); replace HB := Aside0.mk (below_step bl_ hb); clear hb ho3))
 go_loopg [4, 12] k (fun kq v4 v12 w' => ∃ (x4_1 : List Int) (x12_1 : Int), v12 = .int .i64 x12_1 ∧ Aside0 (impl_numbersOf.l0 kq x4_1 l0 (l0.length : Int) x12_1 = some (r1, r2)) ∧ Aside0 (kq ≤ k) ∧ Aside0 (Kd.R (Kd.int .i64) 3 w' w.heap.size (fun _ => True) v4 x4_1) ∧ Aside0 (Below w.heap.size w w'))
 case atStart => exact ⟨(y271), (0), (sr_), H', ⟨Nat.le_refl _⟩, ⟨ra_ HO273.out⟩, ⟨bl_⟩⟩
 clear H'
 obtain ⟨x4_1, x12_1, rfl, HA, HK1, HO_4, HB⟩ := hrel
 cases gk with
 | zero => exact absurd HA.out (by simp [impl_numbersOf.l0])
 | succ k1 => ?_
 have H := HA.out
 clear HA
 simp only [impl_numbersOf.l0] at H
 by_cases c4 : x12_1 < (l0.length : Int)
 rotate_left
 ·rw [if_neg c4] at H
  have c4b0 := decide_eq_false c4
  clear c4
  simp only [Option.some.injEq, Prod.mk.injEq] at H
  obtain ⟨rfl, rfl⟩ := H
  go_wp2
  go_ret2
  exact ⟨_, er_, ra_ HO_4.out, bl_⟩
 rw [if_pos c4] at H
 have c4b0 := decide_eq_true c4
 clear c4
 by_cases c5 : 0 ≤ x12_1
 rotate_left
 ·exact nn_ c5 H
 rw [if_pos c5] at H
 have c5b0 := decide_eq_true c5
 clear c5
 by_cases c6 : x12_1 < (l0.length : Int)
 rotate_left
 ·exact nn_ c6 H
 rw [if_pos c6] at H
 have c6b0 := decide_eq_true c6
 clear c6
 replace H := bs_ H
 obtain ⟨⟨t275, t276⟩, A7, H⟩ := H
 try dsimp only at H
 by_cases c8 : t276 = true
 rotate_left
 ·replace c8 := Bool.eq_false_iff.mpr c8
  subst c8
  rw [nf_] at H
  simp only [Option.some.injEq, Prod.mk.injEq] at H
  obtain ⟨rfl, rfl⟩ := H
  have p274 : 0 ≤ (x12_1 : Int) := of_decide_eq_true as_
  have q274 : x12_1 < (l0.length : Int) := of_decide_eq_true as_
  obtain ⟨ad274, e274, hx274_0⟩ := Kd.at_string HR0.out x12_1 p274 q274
  cases e274
  replace hx274_0 := (HB.out.cell (World.block_lt_of_cell? w _ hx274_0)).trans hx274_0
  replace p274 := eq_true p274
  replace q274 := eq_true q274
  go_wp2_with (first | ((with_reducible refine gate_callee (f := 90) rfl ?_); refine gs_ (some 18) Try.func90 #[.string (rdOf ByteArray.empty l0 x12_1)] ?_; (with_reducible refine (impl_ReadDecimal.calls k1 (rdOf ByteArray.empty l0 x12_1) t275 false _ A7.out).mono ?_); rintro e w12 ⟨rfl, hb⟩; refine ⟨_, rfl, ?_⟩; replace HO_4 := Aside0.mk (Kd.R_below (ra_ HO_4.out) hb); replace HB := Aside0.mk (below_step bl_ hb); (try clear hb)))
  go_ret2
  exact ⟨_, er_, ra_ HO_4.out, bl_⟩
 subst c8
 rw [if_pos rfl] at H
 by_cases c9 : x4_1.length < 17592186044416
 rotate_left
 ·exact nn_ c9 H
 rw [if_pos c9] at H
 have LMc9 := Aside0.mk c9
 clear c9
 obtain ⟨y277, hy277⟩ : ∃ y_ : List Int, y_ = (x4_1 ++ [t275]) := ⟨_, rfl⟩
 replace H : (impl_numbersOf.l0 k1 y277 l0 (l0.length : Int) (wrap64 (x12_1 + 1))) = some (r1, r2) := rp_ H hy277
 have Ny277 := Aside0.mk hy277
 clear hy277
 have H' := Aside0.mk H
 clear H
 have p274 : 0 ≤ (x12_1 : Int) := of_decide_eq_true as_
 have q274 : x12_1 < (l0.length : Int) := of_decide_eq_true as_
 obtain ⟨ad274, e274, hx274_0⟩ := Kd.at_string HR0.out x12_1 p274 q274
 cases e274
 replace hx274_0 := (HB.out.cell (World.block_lt_of_cell? w _ hx274_0)).trans hx274_0
 replace p274 := eq_true p274
 replace q274 := eq_true q274
 go_wp2_with (first | ((with_reducible refine gate_callee (f := 90) rfl ?_); refine gs_ (some 18) Try.func90 #[.string (rdOf ByteArray.empty l0 x12_1)] ?_; (with_reducible refine (impl_ReadDecimal.calls k1 (rdOf ByteArray.empty l0 x12_1) t275 true _ A7.out).mono ?_); rintro e w10 ⟨rfl, hb⟩; refine ⟨_, rfl, ?_⟩; replace HO_4 := Aside0.mk (Kd.R_below (ra_ HO_4.out) hb); replace HB := Aside0.mk (below_step bl_ hb); (try clear hb)) | ((with_reducible refine gate_builtin (b := .append) (xs := #[.tmp 24, .tmp 26]) rfl ?_); at_builtin; refine Kd.R_append (Kd.int .i64) (w0 := w) w.heap.size rfl (.tmp 24) (.tmp 26) 32 3 (.int .i64 0) 8 rfl Try.underlying32 info3 rfl (by decide) (by omega) u4 x4_1 t275 [.int .i64 t275] (fun _ => True) (fun _ => False) rfl rfl ?aP (fun _ hk => hk.elim) ?aF ?aO ?aB ?aS ?aL ?_; (case aP => exact rfl); (case aB => exact bl_); (case aF => exact (fun _ _ => trivial)); (case aO => exact (ra_ HO_4.out)); (case aS => exact (below_size bl_)); (case aL => have := LMc9.out; omega); intro v278 w11 ho hb hg hat; rw [← Ny277.out] at ho; replace HB := Aside0.mk (hb); have HO279 := Aside0.mk (ho); clear HO_4; clear ho hb hg hat))
 go_roundg k1
 case measure => have := HK1.out; omega
 case rel => exact ⟨(y277), (wrap64 (x12_1 + 1)), (sr_), H', ⟨by have := HK1.out; omega⟩, ⟨ra_ HO279.out⟩, ⟨bl_⟩⟩


def impl_HalfOk.f (a0 : Int) : Option (Bool) := (impl_within.f a0 0 4294967295).bind fun t280 => (some t280)
theorem impl_HalfOk.calls (a0 : Int) (r : Bool) (w : World) (h : impl_HalfOk.f a0 = some r) :
 Calls Try.prog 98 #[.int .i64 a0] w fun e w' => e = .returned (.bool r) ∧ Drawn0 w w' := by
 have H := h
 unfold impl_HalfOk.f at H
 clear h
 replace H := bs_ H
 obtain ⟨t280, A2, H⟩ := H
 try dsimp only at H
 obtain rfl := Option.some.inj H
 go_enter Try.func98, Try.ntmps98
 go_wp2_with (first | ((with_reducible refine gate_callee (f := 89) rfl ?_); refine gs_ (some 4) Try.func89 #[.int .i64 a0, .int .i64 0, .int .i64 4294967295] ?_; (with_reducible refine (impl_within.calls a0 0 4294967295 t280 _ A2.out).mono ?_); rintro e w' ⟨rfl, ⟨nd, rfl⟩⟩; refine ⟨_, rfl, ?_⟩))
 go_ret
 exact ⟨sr_, by repeat (first | exact Drawn0.refl _ | apply Drawn0.step)⟩


def impl_WideOk.f (a0_0 : Int) (a0_1 : Int) : Option (Bool) := (impl_HalfOk.f a0_0).bind fun t282 => (if t282 = true then ((impl_HalfOk.f a0_1).bind fun t283 => (some t283)) else (some false))
theorem impl_WideOk.calls (a0_0 : Int) (a0_1 : Int) (r : Bool) (w : World) (h : impl_WideOk.f a0_0 a0_1 = some r) :
 Calls Try.prog 134 #[.agg #[.int .i64 a0_0, .int .i64 a0_1]] w fun e w' => e = .returned (.bool r) ∧ Below w.heap.size w w' := by
 have hu98 := Try.underlying98
 have HB := Aside0.mk (Below.refl w.heap.size w)
 have H := h
 unfold impl_WideOk.f at H
 clear h
 replace H := bs_ H
 obtain ⟨t282, A2, H⟩ := H
 try dsimp only at H
 by_cases c3 : t282 = true
 rotate_left
 ·replace c3 := Bool.eq_false_iff.mpr c3
  subst c3
  rw [nf_] at H
  obtain rfl := Option.some.inj H
  go_enter Try.func134, Try.ntmps134
  go_wp2_with (first | ((with_reducible refine gate_dst (N := 1) rfl ?_); refine bx_ 1 98 #[.int .i64 a0_0, .int .i64 a0_1] ?_; intro gb281 hg w7 hbox hb; have BK281 := Aside0.mk (hbox); have GW281 := Aside0.mk ((hz_ : w.heap.size ≤ gb281)); have GE281 := Aside0.mk ((hz_ : w.heap.size ≤ gb281)); replace HB := Aside0.mk (below_step bl_ hb); clear hb hbox hg; obtain ⟨hcz8_0, hcz8_1, hfz8_0, hfz8_1⟩ := cf2_ BK281.out) | ((with_reducible refine gate_callee (f := 98) rfl ?_); refine gs_ (some 5) Try.func98 #[.int .i64 a0_0] ?_; (with_reducible refine (impl_HalfOk.calls a0_0 false _ A2.out).mono ?_); rintro e w' ⟨rfl, ⟨nd, rfl⟩⟩; refine ⟨_, rfl, ?_⟩))
  go_ret
  exact ⟨er_, bl_⟩
 subst c3
 rw [if_pos rfl] at H
 replace H := bs_ H
 obtain ⟨t283, A4, H⟩ := H
 try dsimp only at H
 obtain rfl := Option.some.inj H
 go_enter Try.func134, Try.ntmps134
 go_wp2_with (first | ((with_reducible refine gate_dst (N := 1) rfl ?_); refine bx_ 1 98 #[.int .i64 a0_0, .int .i64 a0_1] ?_; intro gb281 hg w5 hbox hb; have BK281 := Aside0.mk (hbox); have GW281 := Aside0.mk ((hz_ : w.heap.size ≤ gb281)); have GE281 := Aside0.mk ((hz_ : w.heap.size ≤ gb281)); replace HB := Aside0.mk (below_step bl_ hb); clear hb hbox hg; obtain ⟨hcz6_0, hcz6_1, hfz6_0, hfz6_1⟩ := cf2_ BK281.out) | ((with_reducible refine gate_callee (f := 98) rfl ?_); refine gs_ (some 5) Try.func98 #[.int .i64 a0_0] ?_; (with_reducible refine (impl_HalfOk.calls a0_0 true _ A2.out).mono ?_); rintro e w' ⟨rfl, ⟨nd, rfl⟩⟩; refine ⟨_, rfl, ?_⟩) | (go_at_call 98; (with_reducible refine (impl_HalfOk.calls a0_1 t283 _ A4.out).mono ?_); rintro e w' ⟨rfl, ⟨nd, rfl⟩⟩))
 go_ret
 exact ⟨er_, bl_⟩


def impl_CallOk.l0 : Nat → List (S98) → Int → Int → Int → Int → List (S98) → Option (Bool)
 | 0, _, _, _, _, _, _ => none
 | k + 1, x6, x7, x8, x285000, x285001, x285002 => if x8 < x7 then (if 0 ≤ x8 then (if x8 < (x6.length : Int) then ((impl_WideOk.f ((rd_T98 x6 x8).f0) ((rd_T98 x6 x8).f1)).bind fun t287 => (if t287 = true then (impl_CallOk.l0 k x6 x7 (wrap64 (x8 + 1)) x285000 x285001 x285002) else (some false))) else (none)) else (none)) else ((impl_HalfOk.f x285000).bind fun t288 => (if t288 = true then ((impl_HalfOk.f x285001).bind fun t289 => (if t289 = true then (some ((x285002.length : Int) == 3)) else (some false))) else (some false)))
def impl_CallOk.f (k : Nat) (a0_0 : Int) (a0_1 : Int) (l0_2 : List (S98)) : Option (Bool) := impl_CallOk.l0 k l0_2 (l0_2.length : Int) 0 a0_0 a0_1 l0_2
theorem impl_CallOk.mono_l : ∀ k, (∀ y0 y1 y2 y3 y4 y5, LeO (impl_CallOk.l0 k y0 y1 y2 y3 y4 y5) (impl_CallOk.l0 (k + 1) y0 y1 y2 y3 y4 y5))
 | 0 => fun _ _ _ _ _ _ r h => by simp [impl_CallOk.l0] at h
 | k + 1 => by
  have ih0 := impl_CallOk.mono_l k
  ·intro y0 y1 y2 y3 y4 y5
   unfold impl_CallOk.l0
   exact mo_
theorem impl_CallOk.mono : ∀ a0 a1 a2 k, LeO (impl_CallOk.f k a0 a1 a2) (impl_CallOk.f (k + 1) a0 a1 a2) := by
 intro a0 a1 a2 k
 have ih0 := impl_CallOk.mono_l k
 unfold impl_CallOk.f
 exact mo_
theorem impl_CallOk.calls (k : Nat) (a0_0 : Int) (a0_1 : Int) (A0_2 : Option Addr) (c0_2 : Nat) (l0_2 : List (S98)) (r : Bool) (w : World) (hr0_2 : Kd.C k98 w A0_2 l0_2.length l0_2) (hc0_2 : l0_2.length ≤ c0_2) (h : impl_CallOk.f k a0_0 a0_1 l0_2 = some r) :
 Calls Try.prog 118 #[.agg #[.int .i64 a0_0, .int .i64 a0_1, .slice A0_2 l0_2.length c0_2]] w fun e w' => e = .returned (.bool r) ∧ Below w.heap.size w w' := by
 have hu47 := Try.underlying47
 have hu98 := Try.underlying98
 have HR0_2 := Aside0.mk hr0_2
 have HC0_2 := Aside0.mk hc0_2
 clear hr0_2 hc0_2
 have HB := Aside0.mk (Below.refl w.heap.size w)
 have H := h
 unfold impl_CallOk.f at H
 clear h
 have H' := Aside0.mk H
 clear H
 go_enter Try.func118, Try.ntmps118
 go_wp2_with (first | ((with_reducible refine gate_dst (N := 1) rfl ?_); (try (refine gate_guard (by rfl) ?_; dsimp only)); refine bx_ 1 47 #[.int .i64 a0_0, .int .i64 a0_1, .slice A0_2 l0_2.length c0_2] ?_; intro gb284 hg w2 hbox hb; have BK284 := Aside0.mk (hbox); have GW284 := Aside0.mk ((hz_ : w.heap.size ≤ gb284)); have GE284 := Aside0.mk ((hz_ : w.heap.size ≤ gb284)); replace HB := Aside0.mk (below_step bl_ hb); clear hb hbox hg; obtain ⟨hcz3_0, hcz3_1, hcz3_2, hfz3_0, hfz3_1, hfz3_2⟩ := cf3_ BK284.out))
 go_loopg [8] k (fun kq v8 w' => ∃ (x8_1 : Int), v8 = .int .i64 x8_1 ∧ Aside0 (impl_CallOk.l0 kq l0_2 (l0_2.length : Int) x8_1 a0_0 a0_1 l0_2 = some r) ∧ Aside0 (kq ≤ k) ∧ Aside0 (w'.heap[gb284]? = some (.cells #[.int .i64 a0_0, .int .i64 a0_1, (.slice A0_2 l0_2.length c0_2)] 47 (0, 0))) ∧ Aside0 (Below w.heap.size w w'))
 case atStart => exact ⟨(0), (sr_), H', ⟨Nat.le_refl _⟩, ⟨bk_ BK284.out⟩, ⟨bl_⟩⟩
 clear H'
 try clear hcz3_0
 try clear hcz3_1
 try clear hcz3_2
 try clear hfz3_0
 try clear hfz3_1
 try clear hfz3_2
 obtain ⟨x8_1, rfl, HA, HK1, BK284, HB⟩ := hrel
 cases gk with
 | zero => exact absurd HA.out (by simp [impl_CallOk.l0])
 | succ k1 => ?_
 have H := HA.out
 clear HA
 simp only [impl_CallOk.l0] at H
 by_cases c4 : x8_1 < (l0_2.length : Int)
 rotate_left
 ·rw [if_neg c4] at H
  have c4b0 := decide_eq_false c4
  clear c4
  replace H := bs_ H
  obtain ⟨t288, A17, H⟩ := H
  try dsimp only at H
  by_cases c18 : t288 = true
  rotate_left
  ·replace c18 := Bool.eq_false_iff.mpr c18
   subst c18
   rw [nf_] at H
   obtain rfl := Option.some.inj H
   obtain ⟨hcz23_0, hcz23_1, hcz23_2, hfz23_0, hfz23_1, hfz23_2⟩ := cf3_ BK284.out
   go_wp2_with (first | ((with_reducible refine gate_callee (f := 98) rfl ?_); refine gs_ (some 18) Try.func98 #[.int .i64 a0_0] ?_; (with_reducible refine (impl_HalfOk.calls a0_0 false _ A17.out).mono ?_); rintro e w' ⟨rfl, ⟨nd, rfl⟩⟩; refine ⟨_, rfl, ?_⟩))
   go_ret
   exact ⟨er_, bl_⟩
  subst c18
  rw [if_pos rfl] at H
  replace H := bs_ H
  obtain ⟨t289, A19, H⟩ := H
  try dsimp only at H
  by_cases c20 : t289 = true
  ·subst c20
   rw [if_pos rfl] at H
   obtain rfl := Option.some.inj H
   obtain ⟨hcz21_0, hcz21_1, hcz21_2, hfz21_0, hfz21_1, hfz21_2⟩ := cf3_ BK284.out
   go_wp2_with (first | ((with_reducible refine gate_callee (f := 98) rfl ?_); refine gs_ (some 18) Try.func98 #[.int .i64 a0_0] ?_; (with_reducible refine (impl_HalfOk.calls a0_0 true _ A17.out).mono ?_); rintro e w' ⟨rfl, ⟨nd, rfl⟩⟩; refine ⟨_, rfl, ?_⟩) | (go_at_call 98; (with_reducible refine (impl_HalfOk.calls a0_1 true _ A19.out).mono ?_); rintro e w' ⟨rfl, ⟨nd, rfl⟩⟩))
   go_ret
   exact ⟨er_, bl_⟩
  replace c20 := Bool.eq_false_iff.mpr c20
  subst c20
  rw [nf_] at H
  obtain rfl := Option.some.inj H
  obtain ⟨hcz22_0, hcz22_1, hcz22_2, hfz22_0, hfz22_1, hfz22_2⟩ := cf3_ BK284.out
  go_wp2_with (first | ((with_reducible refine gate_callee (f := 98) rfl ?_); refine gs_ (some 18) Try.func98 #[.int .i64 a0_0] ?_; (with_reducible refine (impl_HalfOk.calls a0_0 true _ A17.out).mono ?_); rintro e w' ⟨rfl, ⟨nd, rfl⟩⟩; refine ⟨_, rfl, ?_⟩) | (go_at_call 98; (with_reducible refine (impl_HalfOk.calls a0_1 false _ A19.out).mono ?_); rintro e w' ⟨rfl, ⟨nd, rfl⟩⟩))
  go_ret
  exact ⟨er_, bl_⟩
 rw [if_pos c4] at H
 have c4b0 := decide_eq_true c4
 clear c4
 by_cases c5 : 0 ≤ x8_1
 rotate_left
 ·exact nn_ c5 H
 rw [if_pos c5] at H
 have c5b0 := decide_eq_true c5
 clear c5
 by_cases c6 : x8_1 < (l0_2.length : Int)
 rotate_left
 ·exact nn_ c6 H
 rw [if_pos c6] at H
 have c6b0 := decide_eq_true c6
 clear c6
 replace H := bs_ H
 obtain ⟨t287, A7, H⟩ := H
 try dsimp only at H
 by_cases c8 : t287 = true
 rotate_left
 ·replace c8 := Bool.eq_false_iff.mpr c8
  subst c8
  rw [nf_] at H
  obtain rfl := Option.some.inj H
  have p285 : 0 ≤ (x8_1 : Int) := of_decide_eq_true as_
  have q285 : x8_1 < (l0_2.length : Int) := of_decide_eq_true as_
  obtain ⟨ad285, e285, hx285_0, hx285_1⟩ := at_T98 HR0_2.out x8_1 p285 q285
  cases e285
  replace hx285_0 := (HB.out.cell (World.block_lt_of_cell? w _ hx285_0)).trans hx285_0
  replace hx285_1 := (HB.out.cell (World.block_lt_of_cell? w _ hx285_1)).trans hx285_1
  replace p285 := eq_true p285
  replace q285 := eq_true q285
  go_wp2_with (first | ((with_reducible refine gate_dst (N := 4) rfl ?_); (try (refine gate_guard (by rfl) ?_; dsimp only)); refine bx_ 4 98 #[.int .i64 0, .int .i64 0] ?_; intro gb286 hg w13 hbox hb; have BK286 := Aside0.mk (hbox); have GW286 := Aside0.mk ((hz_ : w.heap.size ≤ gb286)); have GE286 := Aside0.mk ((hz_ : w.heap.size ≤ gb286)); replace HB := Aside0.mk (below_step bl_ hb); have NB284_286 := Aside0.mk ((by rw [hg]; exact Nat.ne_of_lt (blk_lt (g := gb284) (o := .cells #[.int .i64 a0_0, .int .i64 a0_1, .slice (some ad285) l0_2.length c0_2] 47 (0, 0)) (bk_ BK284.out)) : gb284 ≠ gb286)); have NB286_284 := Aside0.mk ((by rw [hg]; exact Nat.ne_of_gt (blk_lt (g := gb284) (o := .cells #[.int .i64 a0_0, .int .i64 a0_1, .slice (some ad285) l0_2.length c0_2] 47 (0, 0)) (bk_ BK284.out)) : gb286 ≠ gb284)); replace BK284 := Aside0.mk (blk_below (bn0_ BK284.out) hb); clear hb hbox hg; have hnb14 := NB286_284.out; have hnc14 := NB284_286.out; obtain ⟨hcz15_0, hcz15_1, hfz15_0, hfz15_1⟩ := cf2_ BK286.out) | ((with_reducible refine gate_callee (f := 134) rfl ?_); refine gs_ (some 13) Try.func134 #[.agg #[.int .i64 ((rd_T98 l0_2 x8_1).f0), .int .i64 ((rd_T98 l0_2 x8_1).f1)]] ?_; (with_reducible refine (impl_WideOk.calls ((rd_T98 l0_2 x8_1).f0) ((rd_T98 l0_2 x8_1).f1) false _ A7.out).mono ?_); rintro e w16 ⟨rfl, hb⟩; refine ⟨_, rfl, ?_⟩; replace BK284 := Aside0.mk (blk_below (bn1_ BK284.out NB284_286.out) hb); replace BK286 := Aside0.mk (blk_below (g := gb286) (o := .cells #[.int .i64 ((rd_T98 l0_2 x8_1).f0), .int .i64 ((rd_T98 l0_2 x8_1).f1)] 98 (0, 0)) (bp0_ BK286.out) hb); replace HB := Aside0.mk (below_step bl_ hb); (try clear hb)))
  go_ret
  exact ⟨er_, bl_⟩
 subst c8
 rw [if_pos rfl] at H
 have H' := Aside0.mk H
 clear H
 have p285 : 0 ≤ (x8_1 : Int) := of_decide_eq_true as_
 have q285 : x8_1 < (l0_2.length : Int) := of_decide_eq_true as_
 obtain ⟨ad285, e285, hx285_0, hx285_1⟩ := at_T98 HR0_2.out x8_1 p285 q285
 cases e285
 replace hx285_0 := (HB.out.cell (World.block_lt_of_cell? w _ hx285_0)).trans hx285_0
 replace hx285_1 := (HB.out.cell (World.block_lt_of_cell? w _ hx285_1)).trans hx285_1
 replace p285 := eq_true p285
 replace q285 := eq_true q285
 go_wp2_with (first | ((with_reducible refine gate_dst (N := 4) rfl ?_); (try (refine gate_guard (by rfl) ?_; dsimp only)); refine bx_ 4 98 #[.int .i64 0, .int .i64 0] ?_; intro gb286 hg w9 hbox hb; have BK286 := Aside0.mk (hbox); have GW286 := Aside0.mk ((hz_ : w.heap.size ≤ gb286)); have GE286 := Aside0.mk ((hz_ : w.heap.size ≤ gb286)); replace HB := Aside0.mk (below_step bl_ hb); have NB284_286 := Aside0.mk ((by rw [hg]; exact Nat.ne_of_lt (blk_lt (g := gb284) (o := .cells #[.int .i64 a0_0, .int .i64 a0_1, .slice (some ad285) l0_2.length c0_2] 47 (0, 0)) (bk_ BK284.out)) : gb284 ≠ gb286)); have NB286_284 := Aside0.mk ((by rw [hg]; exact Nat.ne_of_gt (blk_lt (g := gb284) (o := .cells #[.int .i64 a0_0, .int .i64 a0_1, .slice (some ad285) l0_2.length c0_2] 47 (0, 0)) (bk_ BK284.out)) : gb286 ≠ gb284)); replace BK284 := Aside0.mk (blk_below (bn0_ BK284.out) hb); clear hb hbox hg; have hnb10 := NB286_284.out; have hnc10 := NB284_286.out; obtain ⟨hcz11_0, hcz11_1, hfz11_0, hfz11_1⟩ := cf2_ BK286.out) | ((with_reducible refine gate_callee (f := 134) rfl ?_); refine gs_ (some 13) Try.func134 #[.agg #[.int .i64 ((rd_T98 l0_2 x8_1).f0), .int .i64 ((rd_T98 l0_2 x8_1).f1)]] ?_; (with_reducible refine (impl_WideOk.calls ((rd_T98 l0_2 x8_1).f0) ((rd_T98 l0_2 x8_1).f1) true _ A7.out).mono ?_); rintro e w12 ⟨rfl, hb⟩; refine ⟨_, rfl, ?_⟩; replace BK284 := Aside0.mk (blk_below (bn1_ BK284.out NB284_286.out) hb); replace BK286 := Aside0.mk (blk_below (g := gb286) (o := .cells #[.int .i64 ((rd_T98 l0_2 x8_1).f0), .int .i64 ((rd_T98 l0_2 x8_1).f1)] 98 (0, 0)) (bp0_ BK286.out) hb); replace HB := Aside0.mk (below_step bl_ hb); (try clear hb)))
 go_roundg k1
 case measure => have := HK1.out; omega
 case rel => exact ⟨(wrap64 (x8_1 + 1)), (sr_), H', ⟨by have := HK1.out; omega⟩, ⟨bk_ BK284.out⟩, ⟨bl_⟩⟩


def impl_EventOk.j0 : Nat → Bool → Int → Int → Int → Int → Int → List (S98) → ByteArray → Option (Bool)
 | 0, _, _, _, _, _, _, _, _ => none
 | k + 1, x16, x291000, x291001, x291002, x291003, x291004, x291005, x291006 => if x16 = true then (some false) else (if x291000 = 1 then ((impl_CallOk.f k x291003 x291004 x291005).bind fun t292 => (if t292 = true then (if x291006.toList = ([] : List UInt8) then (some true) else (if x291000 = 2 then (some (decide ((x291006.size : Int) ≤ 1200))) else (some false))) else (some false))) else (if x291003 = 0 then (if x291004 = 0 then (if (x291005.length : Int) > 0 then (some false) else (if x291006.toList = ([] : List UInt8) then (some true) else (if x291000 = 2 then (some (decide ((x291006.size : Int) ≤ 1200))) else (some false)))) else (some false)) else (some false)))
def impl_EventOk.f (k : Nat) (a0_0 : Int) (a0_1 : Int) (a0_2 : Int) (a0_3 : Int) (a0_4 : Int) (l0_5 : List (S98)) (a0_6 : ByteArray) : Option (Bool) := (impl_within.f a0_0 1 12).bind fun t291 => (if t291 = true then (if a0_1 < 0 then (impl_EventOk.j0 k true a0_0 a0_1 a0_2 a0_3 a0_4 l0_5 a0_6) else (impl_EventOk.j0 k (decide (a0_2 < 0)) a0_0 a0_1 a0_2 a0_3 a0_4 l0_5 a0_6)) else (impl_EventOk.j0 k true a0_0 a0_1 a0_2 a0_3 a0_4 l0_5 a0_6))
theorem impl_EventOk.mono_l : ∀ k, (∀ y0 y1 y2 y3 y4 y5 y6 y7, LeO (impl_EventOk.j0 k y0 y1 y2 y3 y4 y5 y6 y7) (impl_EventOk.j0 (k + 1) y0 y1 y2 y3 y4 y5 y6 y7))
 | 0 => fun _ _ _ _ _ _ _ _ r h => by simp [impl_EventOk.j0] at h
 | k + 1 => by
  have ih0 := impl_EventOk.mono_l k
  ·intro y0 y1 y2 y3 y4 y5 y6 y7
   unfold impl_EventOk.j0
   have m0 := @impl_CallOk.mono
   exact mo_
theorem impl_EventOk.mono : ∀ a0 a1 a2 a3 a4 a5 a6 k, LeO (impl_EventOk.f k a0 a1 a2 a3 a4 a5 a6) (impl_EventOk.f (k + 1) a0 a1 a2 a3 a4 a5 a6) := by
 intro a0 a1 a2 a3 a4 a5 a6 k
 have ih0 := impl_EventOk.mono_l k
 unfold impl_EventOk.f
 have m0 := @impl_CallOk.mono
 exact mo_
theorem impl_EventOk.calls (k : Nat) (a0_0 : Int) (a0_1 : Int) (a0_2 : Int) (a0_3 : Int) (a0_4 : Int) (A0_5 : Option Addr) (c0_5 : Nat) (l0_5 : List (S98)) (a0_6 : ByteArray) (r : Bool) (w : World) (hr0_5 : Kd.C k98 w A0_5 l0_5.length l0_5) (hc0_5 : l0_5.length ≤ c0_5) (h : impl_EventOk.f k a0_0 a0_1 a0_2 a0_3 a0_4 l0_5 a0_6 = some r) :
 Calls Try.prog 93 #[.agg #[.int .i64 a0_0, .int .i64 a0_1, .int .i64 a0_2, .int .i64 a0_3, .int .i64 a0_4, .slice A0_5 l0_5.length c0_5, .string a0_6]] w fun e w' => e = .returned (.bool r) ∧ Below w.heap.size w w' := by
 have hu69 := Try.underlying69
 have hu47 := Try.underlying47
 have HR0_5 := Aside0.mk hr0_5
 have HC0_5 := Aside0.mk hc0_5
 clear hr0_5 hc0_5
 have HB := Aside0.mk (Below.refl w.heap.size w)
 have H := h
 unfold impl_EventOk.f at H
 clear h
 have HC2 := Aside0.mk H
 clear H
 go_enter Try.func93, Try.ntmps93
 go_upto_region 1 with (first | ((with_reducible refine gate_dst (N := 1) rfl ?_); (try (refine gate_guard (by rfl) ?_; dsimp only)); refine bx_ 1 69 #[.int .i64 a0_0, .int .i64 a0_1, .int .i64 a0_2, .int .i64 a0_3, .int .i64 a0_4, .slice A0_5 l0_5.length c0_5, .string a0_6] ?_; intro gb290 hg w3 hbox hb; have BK290 := Aside0.mk (hbox); have GW290 := Aside0.mk ((hz_ : w.heap.size ≤ gb290)); have GE290 := Aside0.mk ((hz_ : w.heap.size ≤ gb290)); replace HB := Aside0.mk (below_step bl_ hb); clear hb hbox hg))
 (try simp only [Act.put, List.setIfInBounds_toArray, List.set_cons_zero, List.set_cons_succ])
 go_cut [16] (fun v16 wc => ∃ (kq : Nat) (x16_1 : Bool), v16 = .bool x16_1 ∧ Aside0 (impl_EventOk.j0 kq x16_1 a0_0 a0_1 a0_2 a0_3 a0_4 l0_5 a0_6 = some r) ∧ Aside0 (kq ≤ k) ∧ Aside0 (wc.heap[gb290]? = some (.cells #[.int .i64 a0_0, .int .i64 a0_1, .int .i64 a0_2, .int .i64 a0_3, .int .i64 a0_4, (.slice A0_5 l0_5.length c0_5), .string a0_6] 69 (0, 0))) ∧ Aside0 (Below w.heap.size w wc))
 case first =>
  have H := HC2.out
  clear HC2
  replace H := bs_ H
  obtain ⟨t291, A4, H⟩ := H
  try dsimp only at H
  by_cases c5 : t291 = true
  rotate_left
  ·replace c5 := Bool.eq_false_iff.mpr c5
   subst c5
   rw [nf_] at H
   have H' := Aside0.mk H
   clear H
   obtain ⟨hcz9_0, hcz9_1, hcz9_2, hcz9_3, hcz9_4, hcz9_5, hcz9_6, hfz9_0, hfz9_1, hfz9_2, hfz9_3, hfz9_4, hfz9_5, hfz9_6⟩ := cf7_ BK290.out
   go_wp2_with (first | ((with_reducible refine gate_callee (f := 89) rfl ?_); refine gs_ (some 5) Try.func89 #[.int .i64 a0_0, .int .i64 1, .int .i64 12] ?_; (with_reducible refine (impl_within.calls a0_0 1 12 false _ A4.out).mono ?_); rintro e w' ⟨rfl, ⟨nd, rfl⟩⟩; refine ⟨_, rfl, ?_⟩))
   go_meet
   case rel => exact ⟨_, (true), (sr_), H', ⟨by first | omega | exact Nat.le_refl _⟩, ⟨bk_ BK290.out⟩, ⟨bl_⟩⟩
  subst c5
  rw [if_pos rfl] at H
  by_cases c6 : a0_1 < 0
  rotate_left
  ·rw [if_neg c6] at H
   have c6b0 := decide_eq_false c6
   clear c6
   (first | rw [c6b0] | (simp only [i64_w, i32_w]; rw [c6b0]) | skip)
   have H' := Aside0.mk H
   clear H
   obtain ⟨hcz8_0, hcz8_1, hcz8_2, hcz8_3, hcz8_4, hcz8_5, hcz8_6, hfz8_0, hfz8_1, hfz8_2, hfz8_3, hfz8_4, hfz8_5, hfz8_6⟩ := cf7_ BK290.out
   go_wp2_with (first | ((with_reducible refine gate_callee (f := 89) rfl ?_); refine gs_ (some 5) Try.func89 #[.int .i64 a0_0, .int .i64 1, .int .i64 12] ?_; (with_reducible refine (impl_within.calls a0_0 1 12 true _ A4.out).mono ?_); rintro e w' ⟨rfl, ⟨nd, rfl⟩⟩; refine ⟨_, rfl, ?_⟩))
   go_meet
   case rel => exact ⟨_, (decide (a0_2 < 0)), (sr_), H', ⟨by first | omega | exact Nat.le_refl _⟩, ⟨bk_ BK290.out⟩, ⟨bl_⟩⟩
  rw [if_pos c6] at H
  have c6b0 := decide_eq_true c6
  clear c6
  (first | rw [c6b0] | (simp only [i64_w, i32_w]; rw [c6b0]) | skip)
  have H' := Aside0.mk H
  clear H
  obtain ⟨hcz7_0, hcz7_1, hcz7_2, hcz7_3, hcz7_4, hcz7_5, hcz7_6, hfz7_0, hfz7_1, hfz7_2, hfz7_3, hfz7_4, hfz7_5, hfz7_6⟩ := cf7_ BK290.out
  go_wp2_with (first | ((with_reducible refine gate_callee (f := 89) rfl ?_); refine gs_ (some 5) Try.func89 #[.int .i64 a0_0, .int .i64 1, .int .i64 12] ?_; (with_reducible refine (impl_within.calls a0_0 1 12 true _ A4.out).mono ?_); rintro e w' ⟨rfl, ⟨nd, rfl⟩⟩; refine ⟨_, rfl, ?_⟩))
  go_meet
  case rel => exact ⟨_, (true), (sr_), H', ⟨by first | omega | exact Nat.le_refl _⟩, ⟨bk_ BK290.out⟩, ⟨bl_⟩⟩
 clear HC2
 obtain ⟨kq, x16_1, rfl, HA, HJ1, BK290, HB⟩ := hcut
 cases kq with
 | zero => exact absurd HA.out (by simp [impl_EventOk.j0])
 | succ kj1 => ?_
 have H := HA.out
 clear HA
 simp only [impl_EventOk.j0] at H
 by_cases c10 : x16_1 = true
 ·subst c10
  rw [if_pos rfl] at H
  obtain rfl := Option.some.inj H
  go_wp2
  go_ret
  exact ⟨er_, bl_⟩
 replace c10 := Bool.eq_false_iff.mpr c10
 subst c10
 rw [nf_] at H
 by_cases c11 : a0_0 = 1
 ·rw [if_pos c11] at H
  have c11b0 : (a0_0 == 1) = true := beq_iff_eq.mpr c11
  have c11b1 : (a0_0 != 1) = false := bne_eq_false_iff_eq.mpr c11
  clear c11
  replace H := bs_ H
  obtain ⟨t292, A12, H⟩ := H
  try dsimp only at H
  by_cases c13 : t292 = true
  rotate_left
  ·replace c13 := Bool.eq_false_iff.mpr c13
   subst c13
   rw [nf_] at H
   obtain rfl := Option.some.inj H
   obtain ⟨hcz25_0, hcz25_1, hcz25_2, hcz25_3, hcz25_4, hcz25_5, hcz25_6, hfz25_0, hfz25_1, hfz25_2, hfz25_3, hfz25_4, hfz25_5, hfz25_6⟩ := cf7_ BK290.out
   go_wp2_with (first | (go_at_call 118; (with_reducible refine (impl_CallOk.calls kj1 a0_3 a0_4 _ _ l0_5 false _ ?side1 ?side2 A12.out).mono ?_); (case side1 => exact cb_ HR0_5.out HB.out); (case side2 => exact HC0_5.out); rintro e w26 ⟨rfl, hb⟩; replace BK290 := Aside0.mk (blk_below (bn0_ BK290.out) hb); replace HB := Aside0.mk (below_step bl_ hb); (try clear hb)))
   go_ret
   exact ⟨er_, bl_⟩
  subst c13
  rw [if_pos rfl] at H
  by_cases c14 : a0_6.toList = ([] : List UInt8)
  ·rw [if_pos c14] at H
   have c14b0 : (a0_6.toList == ([] : List UInt8)) = true := beq_iff_eq.mpr c14
   have c14b1 : (a0_6.toList != ([] : List UInt8)) = false := bne_eq_false_iff_eq.mpr c14
   clear c14
   obtain rfl := Option.some.inj H
   obtain ⟨hcz15_0, hcz15_1, hcz15_2, hcz15_3, hcz15_4, hcz15_5, hcz15_6, hfz15_0, hfz15_1, hfz15_2, hfz15_3, hfz15_4, hfz15_5, hfz15_6⟩ := cf7_ BK290.out
   go_wp2_with (first | (go_at_call 118; (with_reducible refine (impl_CallOk.calls kj1 a0_3 a0_4 _ _ l0_5 true _ ?side1 ?side2 A12.out).mono ?_); (case side1 => exact cb_ HR0_5.out HB.out); (case side2 => exact HC0_5.out); rintro e w16 ⟨rfl, hb⟩; replace BK290 := Aside0.mk (blk_below (bn0_ BK290.out) hb); replace HB := Aside0.mk (below_step bl_ hb); (try clear hb); obtain ⟨hcz17_0, hcz17_1, hcz17_2, hcz17_3, hcz17_4, hcz17_5, hcz17_6, hfz17_0, hfz17_1, hfz17_2, hfz17_3, hfz17_4, hfz17_5, hfz17_6⟩ := cf7_ BK290.out))
   go_ret
   exact ⟨er_, bl_⟩
  rw [if_neg c14] at H
  have c14b0 : (a0_6.toList == ([] : List UInt8)) = false := beq_eq_false_iff_ne.mpr c14
  have c14b1 : (a0_6.toList != ([] : List UInt8)) = true := bne_iff_ne.mpr c14
  by_cases c18 : a0_0 = 2
  rotate_left
  ·rw [if_neg c18] at H
   have c18b0 : (a0_0 == 2) = false := beq_eq_false_iff_ne.mpr c18
   have c18b1 : (a0_0 != 2) = true := bne_iff_ne.mpr c18
   obtain rfl := Option.some.inj H
   obtain ⟨hcz22_0, hcz22_1, hcz22_2, hcz22_3, hcz22_4, hcz22_5, hcz22_6, hfz22_0, hfz22_1, hfz22_2, hfz22_3, hfz22_4, hfz22_5, hfz22_6⟩ := cf7_ BK290.out
   go_wp2_with (first | (go_at_call 118; (with_reducible refine (impl_CallOk.calls kj1 a0_3 a0_4 _ _ l0_5 true _ ?side1 ?side2 A12.out).mono ?_); (case side1 => exact cb_ HR0_5.out HB.out); (case side2 => exact HC0_5.out); rintro e w23 ⟨rfl, hb⟩; replace BK290 := Aside0.mk (blk_below (bn0_ BK290.out) hb); replace HB := Aside0.mk (below_step bl_ hb); (try clear hb); obtain ⟨hcz24_0, hcz24_1, hcz24_2, hcz24_3, hcz24_4, hcz24_5, hcz24_6, hfz24_0, hfz24_1, hfz24_2, hfz24_3, hfz24_4, hfz24_5, hfz24_6⟩ := cf7_ BK290.out))
   go_ret
   exact ⟨er_, bl_⟩
  rw [if_pos c18] at H
  have c18b0 : (a0_0 == 2) = true := beq_iff_eq.mpr c18
  have c18b1 : (a0_0 != 2) = false := bne_eq_false_iff_eq.mpr c18
  clear c18
  obtain rfl := Option.some.inj H
  obtain ⟨hcz19_0, hcz19_1, hcz19_2, hcz19_3, hcz19_4, hcz19_5, hcz19_6, hfz19_0, hfz19_1, hfz19_2, hfz19_3, hfz19_4, hfz19_5, hfz19_6⟩ := cf7_ BK290.out
  go_wp2_with (first | (go_at_call 118; (with_reducible refine (impl_CallOk.calls kj1 a0_3 a0_4 _ _ l0_5 true _ ?side1 ?side2 A12.out).mono ?_); (case side1 => exact cb_ HR0_5.out HB.out); (case side2 => exact HC0_5.out); rintro e w20 ⟨rfl, hb⟩; replace BK290 := Aside0.mk (blk_below (bn0_ BK290.out) hb); replace HB := Aside0.mk (below_step bl_ hb); (try clear hb); obtain ⟨hcz21_0, hcz21_1, hcz21_2, hcz21_3, hcz21_4, hcz21_5, hcz21_6, hfz21_0, hfz21_1, hfz21_2, hfz21_3, hfz21_4, hfz21_5, hfz21_6⟩ := cf7_ BK290.out))
  go_ret
  exact ⟨er_, bl_⟩
 rw [if_neg c11] at H
 have c11b0 : (a0_0 == 1) = false := beq_eq_false_iff_ne.mpr c11
 have c11b1 : (a0_0 != 1) = true := bne_iff_ne.mpr c11
 by_cases c27 : a0_3 = 0
 rotate_left
 ·rw [if_neg c27] at H
  have c27b0 : (a0_3 == 0) = false := beq_eq_false_iff_ne.mpr c27
  have c27b1 : (a0_3 != 0) = true := bne_iff_ne.mpr c27
  obtain rfl := Option.some.inj H
  obtain ⟨hcz37_0, hcz37_1, hcz37_2, hcz37_3, hcz37_4, hcz37_5, hcz37_6, hfz37_0, hfz37_1, hfz37_2, hfz37_3, hfz37_4, hfz37_5, hfz37_6⟩ := cf7_ BK290.out
  go_wp2
  go_ret
  exact ⟨er_, bl_⟩
 rw [if_pos c27] at H
 have c27b0 : (a0_3 == 0) = true := beq_iff_eq.mpr c27
 have c27b1 : (a0_3 != 0) = false := bne_eq_false_iff_eq.mpr c27
 clear c27
 by_cases c28 : a0_4 = 0
 rotate_left
 ·rw [if_neg c28] at H
  have c28b0 : (a0_4 == 0) = false := beq_eq_false_iff_ne.mpr c28
  have c28b1 : (a0_4 != 0) = true := bne_iff_ne.mpr c28
  obtain rfl := Option.some.inj H
  obtain ⟨hcz36_0, hcz36_1, hcz36_2, hcz36_3, hcz36_4, hcz36_5, hcz36_6, hfz36_0, hfz36_1, hfz36_2, hfz36_3, hfz36_4, hfz36_5, hfz36_6⟩ := cf7_ BK290.out
  go_wp2
  go_ret
  exact ⟨er_, bl_⟩
 rw [if_pos c28] at H
 have c28b0 : (a0_4 == 0) = true := beq_iff_eq.mpr c28
 have c28b1 : (a0_4 != 0) = false := bne_eq_false_iff_eq.mpr c28
 clear c28
 by_cases c29 : (l0_5.length : Int) > 0
 ·rw [if_pos c29] at H
  have c29b0 := decide_eq_true c29
  have c29b1 : decide (0 < l0_5.length) = true := decide_eq_true (by omega)
  clear c29
  obtain rfl := Option.some.inj H
  obtain ⟨hcz30_0, hcz30_1, hcz30_2, hcz30_3, hcz30_4, hcz30_5, hcz30_6, hfz30_0, hfz30_1, hfz30_2, hfz30_3, hfz30_4, hfz30_5, hfz30_6⟩ := cf7_ BK290.out
  go_wp2
  go_ret
  exact ⟨er_, bl_⟩
 rw [if_neg c29] at H
 have c29b0 := decide_eq_false c29
 have c29b1 : decide (0 < l0_5.length) = false := decide_eq_false (by omega)
 clear c29
 by_cases c31 : a0_6.toList = ([] : List UInt8)
 ·rw [if_pos c31] at H
  have c31b0 : (a0_6.toList == ([] : List UInt8)) = true := beq_iff_eq.mpr c31
  have c31b1 : (a0_6.toList != ([] : List UInt8)) = false := bne_eq_false_iff_eq.mpr c31
  clear c31
  obtain rfl := Option.some.inj H
  obtain ⟨hcz32_0, hcz32_1, hcz32_2, hcz32_3, hcz32_4, hcz32_5, hcz32_6, hfz32_0, hfz32_1, hfz32_2, hfz32_3, hfz32_4, hfz32_5, hfz32_6⟩ := cf7_ BK290.out
  go_wp2
  go_ret
  exact ⟨er_, bl_⟩
 rw [if_neg c31] at H
 have c31b0 : (a0_6.toList == ([] : List UInt8)) = false := beq_eq_false_iff_ne.mpr c31
 have c31b1 : (a0_6.toList != ([] : List UInt8)) = true := bne_iff_ne.mpr c31
 by_cases c33 : a0_0 = 2
 rotate_left
 ·rw [if_neg c33] at H
  have c33b0 : (a0_0 == 2) = false := beq_eq_false_iff_ne.mpr c33
  have c33b1 : (a0_0 != 2) = true := bne_iff_ne.mpr c33
  obtain rfl := Option.some.inj H
  obtain ⟨hcz35_0, hcz35_1, hcz35_2, hcz35_3, hcz35_4, hcz35_5, hcz35_6, hfz35_0, hfz35_1, hfz35_2, hfz35_3, hfz35_4, hfz35_5, hfz35_6⟩ := cf7_ BK290.out
  go_wp2
  go_ret
  exact ⟨er_, bl_⟩
 rw [if_pos c33] at H
 have c33b0 : (a0_0 == 2) = true := beq_iff_eq.mpr c33
 have c33b1 : (a0_0 != 2) = false := bne_eq_false_iff_eq.mpr c33
 clear c33
 obtain rfl := Option.some.inj H
 obtain ⟨hcz34_0, hcz34_1, hcz34_2, hcz34_3, hcz34_4, hcz34_5, hcz34_6, hfz34_0, hfz34_1, hfz34_2, hfz34_3, hfz34_4, hfz34_5, hfz34_6⟩ := cf7_ BK290.out
 go_wp2
 go_ret
 exact ⟨er_, bl_⟩

end Go.Proofs.Ytjfmpodeenidnaa.PA
