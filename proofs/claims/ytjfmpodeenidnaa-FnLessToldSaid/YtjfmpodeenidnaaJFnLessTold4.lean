/- Contracts of functions of the program and of the reference, and plain lemmas on what they compute: a part of the proof of the law FnLessTold. No condition. -/
import Derived.Test.YtjfmpodeenidnaaG90508x0
import Derived.Test.YtjfmpodeenidnaaJFnLessTold2
import Derived.Test.YtjfmpodeenidnaaJFnLessTold3
import Derived.Test.YtjfmpodeenidnaaShortV
set_option maxHeartbeats 8000000
set_option maxRecDepth 100000
namespace Go.Proofs.Ytjfmpodeenidnaa.PC
open Go.RowKit Go.Proofs.Ytjfmpodeenidnaa.Short Go.Proofs.YtjfmpodeenidnaaW.PrintWords Go.Proofs.YtjfmpodeenidnaaW.PrintLast Go.Proofs.YtjfmpodeenidnaaW.PrintMore
attribute [local go_sem] max2_int min2_int max_two min_two max_three min_three max_four min_four   -- for this text's walks alone
set_option linter.unusedVariables false
set_option linter.unusedSimpArgs false

attribute [local go_sem high] eqA100
mutual
def spec_SamePolicy.j0 : Nat → Bool → Int → Int → Int → List (S53) → Int → Int → Int → List (S53) → Option (Bool)
 | 0, _, _, _, _, _, _, _, _, _ => none
 | k + 1, x36, x773000, x773001, x773002, x773003, x774000, x774001, x774002, x774003 => if x36 = true then (some false) else (spec_SamePolicy.l0 k 0 x773000 x773001 x773002 x773003 x774000 x774001 x774002 x774003)
def spec_SamePolicy.l0 : Nat → Int → Int → Int → Int → List (S53) → Int → Int → Int → List (S53) → Option (Bool)
 | 0, _, _, _, _, _, _, _, _, _ => none
 | k + 1, x5, x773000, x773001, x773002, x773003, x774000, x774001, x774002, x774003 => if x5 < (x773003.length : Int) then (if 0 ≤ x5 then (if x5 < (x774003.length : Int) then ((spec_l10Same.f k ((rd_T53 x773003 x5).f0) ((rd_T53 x774003 x5).f0)).bind fun t778 => (if t778 = true then (if ((rd_T53 x773003 x5).f2) = ((rd_T53 x774003 x5).f2) then (if ((rd_T53 x773003 x5).f3) = ((rd_T53 x774003 x5).f3) then (spec_SamePolicy.j2 k x5 ((((rd_T53 x773003 x5).f1).length : Int) != (((rd_T53 x774003 x5).f1).length : Int)) x773000 x773001 x773002 x773003 x774000 x774001 x774002 x774003 ((rd_T53 x773003 x5).f0) ((rd_T53 x773003 x5).f1) ((rd_T53 x773003 x5).f2) ((rd_T53 x773003 x5).f3) ((rd_T53 x774003 x5).f0) ((rd_T53 x774003 x5).f1) ((rd_T53 x774003 x5).f2) ((rd_T53 x774003 x5).f3)) else (spec_SamePolicy.j2 k x5 true x773000 x773001 x773002 x773003 x774000 x774001 x774002 x774003 ((rd_T53 x773003 x5).f0) ((rd_T53 x773003 x5).f1) ((rd_T53 x773003 x5).f2) ((rd_T53 x773003 x5).f3) ((rd_T53 x774003 x5).f0) ((rd_T53 x774003 x5).f1) ((rd_T53 x774003 x5).f2) ((rd_T53 x774003 x5).f3))) else (spec_SamePolicy.j2 k x5 true x773000 x773001 x773002 x773003 x774000 x774001 x774002 x774003 ((rd_T53 x773003 x5).f0) ((rd_T53 x773003 x5).f1) ((rd_T53 x773003 x5).f2) ((rd_T53 x773003 x5).f3) ((rd_T53 x774003 x5).f0) ((rd_T53 x774003 x5).f1) ((rd_T53 x774003 x5).f2) ((rd_T53 x774003 x5).f3))) else (spec_SamePolicy.j2 k x5 true x773000 x773001 x773002 x773003 x774000 x774001 x774002 x774003 ((rd_T53 x773003 x5).f0) ((rd_T53 x773003 x5).f1) ((rd_T53 x773003 x5).f2) ((rd_T53 x773003 x5).f3) ((rd_T53 x774003 x5).f0) ((rd_T53 x774003 x5).f1) ((rd_T53 x774003 x5).f2) ((rd_T53 x774003 x5).f3)))) else (none)) else (none)) else (some true)
def spec_SamePolicy.j2 : Nat → Int → Bool → Int → Int → Int → List (S53) → Int → Int → Int → List (S53) → List Int → List (S100) → Int → Int → List Int → List (S100) → Int → Int → Option (Bool)
 | 0, _, _, _, _, _, _, _, _, _, _, _, _, _, _, _, _, _, _ => none
 | k + 1, x5, x82, x773000, x773001, x773002, x773003, x774000, x774001, x774002, x774003, x776000, x776001, x776002, x776003, x778000, x778001, x778002, x778003 => if x82 = true then (some false) else (spec_SamePolicy.l1 k x5 0 x773000 x773001 x773002 x773003 x774000 x774001 x774002 x774003 x776000 x776001 x776002 x776003 x778000 x778001 x778002 x778003)
def spec_SamePolicy.l1 : Nat → Int → Int → Int → Int → Int → List (S53) → Int → Int → Int → List (S53) → List Int → List (S100) → Int → Int → List Int → List (S100) → Int → Int → Option (Bool)
 | 0, _, _, _, _, _, _, _, _, _, _, _, _, _, _, _, _, _, _ => none
 | k + 1, x5, x8, x773000, x773001, x773002, x773003, x774000, x774001, x774002, x774003, x776000, x776001, x776002, x776003, x778000, x778001, x778002, x778003 => if x8 < (x776001.length : Int) then (if 0 ≤ x8 then (if x8 < (x778001.length : Int) then (if (!(((rd_T100 x776001 x8).f0) == ((rd_T100 x778001 x8).f0)) || ((!(((rd_T100 x776001 x8).f1.f0) == ((rd_T100 x778001 x8).f1.f0)) || (!(((rd_T100 x776001 x8).f1.f1) == ((rd_T100 x778001 x8).f1.f1)))) || (!(((rd_T100 x776001 x8).f2) == ((rd_T100 x778001 x8).f2)) || ((!(((rd_T100 x776001 x8).f3.f0) == ((rd_T100 x778001 x8).f3.f0)) || (!(((rd_T100 x776001 x8).f3.f1) == ((rd_T100 x778001 x8).f3.f1)))))))) = true then (some false) else (spec_SamePolicy.l1 k x5 (wrap64 (x8 + 1)) x773000 x773001 x773002 x773003 x774000 x774001 x774002 x774003 x776000 x776001 x776002 x776003 x778000 x778001 x778002 x778003)) else (none)) else (none)) else (spec_SamePolicy.l0 k (wrap64 (x5 + 1)) x773000 x773001 x773002 x773003 x774000 x774001 x774002 x774003)
end
def spec_SamePolicy.f (k : Nat) (a0_0 : Int) (a0_1 : Int) (a0_2 : Int) (l0_3 : List (S53)) (a1_0 : Int) (a1_1 : Int) (a1_2 : Int) (l1_3 : List (S53)) : Option (Bool) := if a0_0 = a1_0 then (if a0_1 = a1_1 then (if a0_2 = a1_2 then (spec_SamePolicy.j0 k ((l0_3.length : Int) != (l1_3.length : Int)) a0_0 a0_1 a0_2 l0_3 a1_0 a1_1 a1_2 l1_3) else (spec_SamePolicy.j0 k true a0_0 a0_1 a0_2 l0_3 a1_0 a1_1 a1_2 l1_3)) else (spec_SamePolicy.j0 k true a0_0 a0_1 a0_2 l0_3 a1_0 a1_1 a1_2 l1_3)) else (spec_SamePolicy.j0 k true a0_0 a0_1 a0_2 l0_3 a1_0 a1_1 a1_2 l1_3)
theorem spec_SamePolicy.mono_l : ∀ k, (∀ y0 y1 y2 y3 y4 y5 y6 y7 y8, LeO (spec_SamePolicy.j0 k y0 y1 y2 y3 y4 y5 y6 y7 y8) (spec_SamePolicy.j0 (k + 1) y0 y1 y2 y3 y4 y5 y6 y7 y8)) ∧ (∀ y0 y1 y2 y3 y4 y5 y6 y7 y8, LeO (spec_SamePolicy.l0 k y0 y1 y2 y3 y4 y5 y6 y7 y8) (spec_SamePolicy.l0 (k + 1) y0 y1 y2 y3 y4 y5 y6 y7 y8)) ∧ (∀ y0 y1 y2 y3 y4 y5 y6 y7 y8 y9 y10 y11 y12 y13 y14 y15 y16 y17, LeO (spec_SamePolicy.j2 k y0 y1 y2 y3 y4 y5 y6 y7 y8 y9 y10 y11 y12 y13 y14 y15 y16 y17) (spec_SamePolicy.j2 (k + 1) y0 y1 y2 y3 y4 y5 y6 y7 y8 y9 y10 y11 y12 y13 y14 y15 y16 y17)) ∧ (∀ y0 y1 y2 y3 y4 y5 y6 y7 y8 y9 y10 y11 y12 y13 y14 y15 y16 y17, LeO (spec_SamePolicy.l1 k y0 y1 y2 y3 y4 y5 y6 y7 y8 y9 y10 y11 y12 y13 y14 y15 y16 y17) (spec_SamePolicy.l1 (k + 1) y0 y1 y2 y3 y4 y5 y6 y7 y8 y9 y10 y11 y12 y13 y14 y15 y16 y17))
 | 0 => ⟨fun _ _ _ _ _ _ _ _ _ r h => by simp [spec_SamePolicy.j0] at h, fun _ _ _ _ _ _ _ _ _ r h => by simp [spec_SamePolicy.l0] at h, fun _ _ _ _ _ _ _ _ _ _ _ _ _ _ _ _ _ _ r h => by simp [spec_SamePolicy.j2] at h, fun _ _ _ _ _ _ _ _ _ _ _ _ _ _ _ _ _ _ r h => by simp [spec_SamePolicy.l1] at h⟩
 | k + 1 => by
  obtain ⟨ih0, ih1, ih2, ih3⟩ := spec_SamePolicy.mono_l k
  refine ⟨?_, ?_, ?_, ?_⟩
  ·intro y0 y1 y2 y3 y4 y5 y6 y7 y8
   unfold spec_SamePolicy.j0
   have m0 := @spec_l10Same.mono
   exact mo_
  ·intro y0 y1 y2 y3 y4 y5 y6 y7 y8
   unfold spec_SamePolicy.l0
   have m0 := @spec_l10Same.mono
   exact mo_
  ·intro y0 y1 y2 y3 y4 y5 y6 y7 y8 y9 y10 y11 y12 y13 y14 y15 y16 y17
   unfold spec_SamePolicy.j2
   have m0 := @spec_l10Same.mono
   exact mo_
  ·intro y0 y1 y2 y3 y4 y5 y6 y7 y8 y9 y10 y11 y12 y13 y14 y15 y16 y17
   unfold spec_SamePolicy.l1
   have m0 := @spec_l10Same.mono
   exact mo_
theorem spec_SamePolicy.mono : ∀ a0 a1 a2 a3 a4 a5 a6 a7 k, LeO (spec_SamePolicy.f k a0 a1 a2 a3 a4 a5 a6 a7) (spec_SamePolicy.f (k + 1) a0 a1 a2 a3 a4 a5 a6 a7) := by
 intro a0 a1 a2 a3 a4 a5 a6 a7 k
 obtain ⟨ih0, ih1, ih2, ih3⟩ := spec_SamePolicy.mono_l k
 unfold spec_SamePolicy.f
 have m0 := @spec_l10Same.mono
 exact mo_
theorem spec_SamePolicy.calls (k : Nat) (a0_0 : Int) (a0_1 : Int) (a0_2 : Int) (A0_3 : Option Addr) (c0_3 : Nat) (l0_3 : List (S53)) (a1_0 : Int) (a1_1 : Int) (a1_2 : Int) (A1_3 : Option Addr) (c1_3 : Nat) (l1_3 : List (S53)) (r : Bool) (w : World) (hr0_3 : Kd.C k53 w A0_3 l0_3.length l0_3) (hc0_3 : l0_3.length ≤ c0_3) (hr1_3 : Kd.C k53 w A1_3 l1_3.length l1_3) (hc1_3 : l1_3.length ≤ c1_3) (h : spec_SamePolicy.f k a0_0 a0_1 a0_2 l0_3 a1_0 a1_1 a1_2 l1_3 = some r) :
 Calls Try.prog 33 #[.agg #[.int .i64 a0_0, .int .i64 a0_1, .int .i64 a0_2, .slice A0_3 l0_3.length c0_3], .agg #[.int .i64 a1_0, .int .i64 a1_1, .int .i64 a1_2, .slice A1_3 l1_3.length c1_3]] w fun e w' => e = .returned (.bool r) ∧ Below w.heap.size w w' := by
 have hu36 := Try.underlying36
 have hu53 := Try.underlying53
 have hu100 := Try.underlying100
 have HR0_3 := Aside0.mk hr0_3
 have HC0_3 := Aside0.mk hc0_3
 clear hr0_3 hc0_3
 have HR1_3 := Aside0.mk hr1_3
 have HC1_3 := Aside0.mk hc1_3
 clear hr1_3 hc1_3
 have HB := Aside0.mk (Below.refl w.heap.size w)
 have H := h
 unfold spec_SamePolicy.f at H
 clear h
 have HC3 := Aside0.mk H
 clear H
 go_enter Try.func33, Try.ntmps33
 go_upto_region 1 with (first | ((with_reducible refine gate_dst (N := 2) rfl ?_); (try (refine gate_guard (by rfl) ?_; dsimp only)); refine bx_ 2 36 #[.int .i64 a0_0, .int .i64 a0_1, .int .i64 a0_2, .slice A0_3 l0_3.length c0_3] ?_; intro gb772 hg w4 hbox hb; have BK772 := Aside0.mk (hbox); have GW772 := Aside0.mk ((hz_ : w.heap.size ≤ gb772)); have GE772 := GW772; replace HB := Aside0.mk (below_step bl_ hb); clear hb hbox hg) | ((with_reducible refine gate_dst (N := 3) rfl ?_); (try (refine gate_guard (by rfl) ?_; dsimp only)); refine bx_ 3 36 #[.int .i64 a1_0, .int .i64 a1_1, .int .i64 a1_2, .slice A1_3 l1_3.length c1_3] ?_; intro gb773 hg w5 hbox hb; have BK773 := Aside0.mk (hbox); have GW773 := Aside0.mk ((hz_ : w.heap.size ≤ gb773)); have GE773 := GW773; replace HB := Aside0.mk (below_step bl_ hb); have NB772_773 := Aside0.mk (nl_ BK772.out hg); have NB773_772 := Aside0.mk (ng_ BK772.out hg); replace BK772 := bb0_ BK772.out hb; clear hb hbox hg))
 (try simp only [Act.put, List.setIfInBounds_toArray, List.set_cons_zero, List.set_cons_succ])
 go_cut [36] (fun v36 wc => ∃ (kq : Nat) (x36_2 : Bool), v36 = .bool x36_2 ∧ Aside0 (spec_SamePolicy.j0 kq x36_2 a0_0 a0_1 a0_2 l0_3 a1_0 a1_1 a1_2 l1_3 = some r) ∧ Aside0 (kq ≤ k) ∧ Aside0 (wc.heap[gb772]? = some (.cells #[.int .i64 a0_0, .int .i64 a0_1, .int .i64 a0_2, (.slice A0_3 l0_3.length c0_3)] 36 (0, 0))) ∧ Aside0 (wc.heap[gb773]? = some (.cells #[.int .i64 a1_0, .int .i64 a1_1, .int .i64 a1_2, (.slice A1_3 l1_3.length c1_3)] 36 (0, 0))) ∧ Aside0 (Below w.heap.size w wc))
 case first =>
  have H := HC3.out
  clear HC3
  by_cases c6 : a0_0 = a1_0
  rotate_left
  ·rw [if_neg c6] at H
   have c6b0 : (a0_0 == a1_0) = false := beq_eq_false_iff_ne.mpr c6
   have c6b1 : (a0_0 != a1_0) = true := bne_iff_ne.mpr c6
   (first | rw [c6b0] | (simp only [i64_w, i32_w]; rw [c6b0]) | skip)
   have H' := Aside0.mk H
   clear H
   have hnb18 := NB772_773.out
   have hnc18 := NB773_772.out
   obtain ⟨hcz19_0, hcz19_1, hcz19_2, hcz19_3, hfz19_0, hfz19_1, hfz19_2, hfz19_3⟩ := cf4_ BK772.out
   obtain ⟨hcz20_0, hcz20_1, hcz20_2, hcz20_3, hfz20_0, hfz20_1, hfz20_2, hfz20_3⟩ := cf4_ BK773.out
   go_wp2
   repeat (go_quiet (fail); try go_wp2)
   go_meet
   case rel => exact ⟨_, (true), (sr_), H', ⟨by first | omega | exact Nat.le_refl _⟩, ⟨bk_ BK772.out⟩, ⟨bk_ BK773.out⟩, ⟨bl_⟩⟩
  rw [if_pos c6] at H
  have c6b0 : (a0_0 == a1_0) = true := beq_iff_eq.mpr c6
  have c6b1 : (a0_0 != a1_0) = false := bne_eq_false_iff_eq.mpr c6
  clear c6
  (first | rw [c6b0] | (simp only [i64_w, i32_w]; rw [c6b0]) | skip)
  by_cases c7 : a0_1 = a1_1
  rotate_left
  ·rw [if_neg c7] at H
   have c7b0 : (a0_1 == a1_1) = false := beq_eq_false_iff_ne.mpr c7
   have c7b1 : (a0_1 != a1_1) = true := bne_iff_ne.mpr c7
   have H' := Aside0.mk H
   clear H
   have hnb15 := NB772_773.out
   have hnc15 := NB773_772.out
   obtain ⟨hcz16_0, hcz16_1, hcz16_2, hcz16_3, hfz16_0, hfz16_1, hfz16_2, hfz16_3⟩ := cf4_ BK772.out
   obtain ⟨hcz17_0, hcz17_1, hcz17_2, hcz17_3, hfz17_0, hfz17_1, hfz17_2, hfz17_3⟩ := cf4_ BK773.out
   go_wp2
   repeat (go_quiet (fail); try go_wp2)
   go_meet
   case rel => exact ⟨_, (true), (sr_), H', ⟨by first | omega | exact Nat.le_refl _⟩, ⟨bk_ BK772.out⟩, ⟨bk_ BK773.out⟩, ⟨bl_⟩⟩
  rw [if_pos c7] at H
  have c7b0 : (a0_1 == a1_1) = true := beq_iff_eq.mpr c7
  have c7b1 : (a0_1 != a1_1) = false := bne_eq_false_iff_eq.mpr c7
  clear c7
  by_cases c8 : a0_2 = a1_2
  rotate_left
  ·rw [if_neg c8] at H
   have c8b0 : (a0_2 == a1_2) = false := beq_eq_false_iff_ne.mpr c8
   have c8b1 : (a0_2 != a1_2) = true := bne_iff_ne.mpr c8
   have H' := Aside0.mk H
   clear H
   have hnb12 := NB772_773.out
   have hnc12 := NB773_772.out
   obtain ⟨hcz13_0, hcz13_1, hcz13_2, hcz13_3, hfz13_0, hfz13_1, hfz13_2, hfz13_3⟩ := cf4_ BK772.out
   obtain ⟨hcz14_0, hcz14_1, hcz14_2, hcz14_3, hfz14_0, hfz14_1, hfz14_2, hfz14_3⟩ := cf4_ BK773.out
   go_wp2
   repeat (go_quiet (fail); try go_wp2)
   go_meet
   case rel => exact ⟨_, (true), (sr_), H', ⟨by first | omega | exact Nat.le_refl _⟩, ⟨bk_ BK772.out⟩, ⟨bk_ BK773.out⟩, ⟨bl_⟩⟩
  rw [if_pos c8] at H
  have c8b0 : (a0_2 == a1_2) = true := beq_iff_eq.mpr c8
  have c8b1 : (a0_2 != a1_2) = false := bne_eq_false_iff_eq.mpr c8
  clear c8
  have H' := Aside0.mk H
  clear H
  have hnb9 := NB772_773.out
  have hnc9 := NB773_772.out
  obtain ⟨hcz10_0, hcz10_1, hcz10_2, hcz10_3, hfz10_0, hfz10_1, hfz10_2, hfz10_3⟩ := cf4_ BK772.out
  obtain ⟨hcz11_0, hcz11_1, hcz11_2, hcz11_3, hfz11_0, hfz11_1, hfz11_2, hfz11_3⟩ := cf4_ BK773.out
  go_wp2
  repeat (go_quiet (fail); try go_wp2)
  go_meet
  case rel => exact ⟨_, (((l0_3.length : Int) != (l1_3.length : Int))), (sr_), H', ⟨by first | omega | exact Nat.le_refl _⟩, ⟨bk_ BK772.out⟩, ⟨bk_ BK773.out⟩, ⟨bl_⟩⟩
 clear HC3
 obtain ⟨kq, x36_2, rfl, HA, HJ2, BK772, BK773, HB⟩ := hcut
 cases kq with
 | zero => exact absurd HA.out (by simp [spec_SamePolicy.j0])
 | succ kj2 => ?_
 have H := HA.out
 clear HA
 simp only [spec_SamePolicy.j0] at H
 by_cases c21 : x36_2 = true
 ·subst c21
  rw [if_pos rfl] at H
  obtain rfl := Option.some.inj H
  go_wp2
  repeat (go_quiet (fail); try go_wp2)
  go_ret
  exact ⟨er_, bl_⟩
 replace c21 := Bool.eq_false_iff.mpr c21
 subst c21
 rw [nf_] at H
 have H' := Aside0.mk H
 clear H
 go_wp2
 repeat (go_quiet (fail); try go_wp2)
 go_loopg [5] kj2 (fun kq v5 w' => ∃ (x5_2 : Int), v5 = .int .i64 x5_2 ∧ Aside0 (spec_SamePolicy.l0 kq x5_2 a0_0 a0_1 a0_2 l0_3 a1_0 a1_1 a1_2 l1_3 = some r) ∧ Aside0 (kq ≤ kj2) ∧ Aside0 (w'.heap[gb772]? = some (.cells #[.int .i64 a0_0, .int .i64 a0_1, .int .i64 a0_2, (.slice A0_3 l0_3.length c0_3)] 36 (0, 0))) ∧ Aside0 (w'.heap[gb773]? = some (.cells #[.int .i64 a1_0, .int .i64 a1_1, .int .i64 a1_2, (.slice A1_3 l1_3.length c1_3)] 36 (0, 0))) ∧ Aside0 (Below w.heap.size w w'))
 case atStart => exact ⟨(0), (sr_), H', ⟨Nat.le_refl _⟩, ⟨bk_ BK772.out⟩, ⟨bk_ BK773.out⟩, ⟨bl_⟩⟩
 clear H'
 try clear c21
 obtain ⟨x5_2, rfl, HA, HK2, BK772, BK773, HB⟩ := hrel
 cases gk with
 | zero => exact absurd HA.out (by simp [spec_SamePolicy.l0])
 | succ k2 => ?_
 have H := HA.out
 clear HA
 simp only [spec_SamePolicy.l0] at H
 by_cases c22 : x5_2 < (l0_3.length : Int)
 rotate_left
 ·rw [if_neg c22] at H
  have c22b0 := decide_eq_false c22
  clear c22
  obtain rfl := Option.some.inj H
  have hnb93 := NB772_773.out
  have hnc93 := NB773_772.out
  obtain ⟨hcz94_0, hcz94_1, hcz94_2, hcz94_3, hfz94_0, hfz94_1, hfz94_2, hfz94_3⟩ := cf4_ BK772.out
  go_wp2
  repeat (go_quiet (fail); try go_wp2)
  go_ret
  exact ⟨er_, bl_⟩
 rw [if_pos c22] at H
 have c22b0 := decide_eq_true c22
 clear c22
 by_cases c23 : 0 ≤ x5_2
 rotate_left
 ·exact nn_ c23 H
 rw [if_pos c23] at H
 have c23b0 := decide_eq_true c23
 clear c23
 by_cases c24 : x5_2 < (l1_3.length : Int)
 rotate_left
 ·exact nn_ c24 H
 rw [if_pos c24] at H
 have c24b0 := decide_eq_true c24
 clear c24
 have HC25 := Aside0.mk H
 clear H
 have hnb26 := NB772_773.out
 have hnc26 := NB773_772.out
 obtain ⟨hcz27_0, hcz27_1, hcz27_2, hcz27_3, hfz27_0, hfz27_1, hfz27_2, hfz27_3⟩ := cf4_ BK772.out
 have p774 : 0 ≤ (x5_2 : Int) := of_decide_eq_true as_
 have q774 : x5_2 < (l0_3.length : Int) := of_decide_eq_true as_
 obtain ⟨ad774, A774_0, c774_0, A774_1, c774_1, e774, hx774_0, hx774_1, hx774_2, hx774_3, hl774_0, hi774_0, hl774_1, hi774_1⟩ := at_T53 HR0_3.out x5_2 p774 q774
 cases e774
 replace hx774_0 := (HB.out.cell (World.block_lt_of_cell? w _ hx774_0)).trans hx774_0
 replace hx774_1 := (HB.out.cell (World.block_lt_of_cell? w _ hx774_1)).trans hx774_1
 replace hx774_2 := (HB.out.cell (World.block_lt_of_cell? w _ hx774_2)).trans hx774_2
 replace hx774_3 := (HB.out.cell (World.block_lt_of_cell? w _ hx774_3)).trans hx774_3
 have HR774_0 := Aside0.mk hi774_0
 have HC774_0 := Aside0.mk hl774_0
 clear hi774_0 hl774_0
 have HR774_1 := Aside0.mk hi774_1
 have HC774_1 := Aside0.mk hl774_1
 clear hi774_1 hl774_1
 replace p774 := eq_true p774
 replace q774 := eq_true q774
 go_upto_region 8 with (first | ((with_reducible refine gate_dst (N := 6) rfl ?_); (try (refine gate_guard (by rfl) ?_; dsimp only)); refine bx_ 6 53 #[.slice none 0 0, .slice none 0 0, .int .i64 0, .int .i64 0] ?_; intro gb775 hg w28 hbox hb; have BK775 := Aside0.mk (hbox); have GW775 := Aside0.mk ((hz_ : w.heap.size ≤ gb775)); have GE775 := GW775; replace HB := Aside0.mk (below_step bl_ hb); have NB772_775 := Aside0.mk (nl_ BK772.out hg); have NB775_772 := Aside0.mk (ng_ BK772.out hg); replace BK772 := bb0_ BK772.out hb; have NB773_775 := Aside0.mk (nl_ BK773.out hg); have NB775_773 := Aside0.mk (ng_ BK773.out hg); replace BK773 := bb0_ BK773.out hb; clear hb hbox hg; have hnb29 := NB775_772.out; have hnc29 := NB772_775.out; have hnb30 := NB775_773.out; have hnc30 := NB773_775.out; obtain ⟨hcz31_0, hcz31_1, hcz31_2, hcz31_3, hfz31_0, hfz31_1, hfz31_2, hfz31_3⟩ := cf4_ BK775.out; obtain ⟨hcz32_0, hcz32_1, hcz32_2, hcz32_3, hfz32_0, hfz32_1, hfz32_2, hfz32_3⟩ := cf4_ BK773.out; have p776 : 0 ≤ (x5_2 : Int) := of_decide_eq_true as_; have q776 : x5_2 < (l1_3.length : Int) := of_decide_eq_true as_; obtain ⟨ad776, A776_0, c776_0, A776_1, c776_1, e776, hx776_0, hx776_1, hx776_2, hx776_3, hl776_0, hi776_0, hl776_1, hi776_1⟩ := at_T53 HR1_3.out x5_2 p776 q776; cases e776; have hn776_0 : ad776.block ≠ gb775 := Nat.ne_of_lt (Nat.lt_of_lt_of_le (by have := World.block_lt_of_cell? _ _ hx776_0; first | rwa [add_block] at this | exact this) GW775.out); have hn776_1 : ad776.block ≠ gb775 := Nat.ne_of_lt (Nat.lt_of_lt_of_le (by have := World.block_lt_of_cell? _ _ hx776_0; first | rwa [add_block] at this | exact this) GW775.out); have hn776_2 : ad776.block ≠ gb775 := Nat.ne_of_lt (Nat.lt_of_lt_of_le (by have := World.block_lt_of_cell? _ _ hx776_0; first | rwa [add_block] at this | exact this) GW775.out); have hn776_3 : ad776.block ≠ gb775 := Nat.ne_of_lt (Nat.lt_of_lt_of_le (by have := World.block_lt_of_cell? _ _ hx776_0; first | rwa [add_block] at this | exact this) GW775.out); replace hx776_0 := (HB.out.cell (World.block_lt_of_cell? w _ hx776_0)).trans hx776_0; replace hx776_1 := (HB.out.cell (World.block_lt_of_cell? w _ hx776_1)).trans hx776_1; replace hx776_2 := (HB.out.cell (World.block_lt_of_cell? w _ hx776_2)).trans hx776_2; replace hx776_3 := (HB.out.cell (World.block_lt_of_cell? w _ hx776_3)).trans hx776_3; have HR776_0 := Aside0.mk hi776_0; have HC776_0 := Aside0.mk hl776_0; clear hi776_0 hl776_0; have HR776_1 := Aside0.mk hi776_1; have HC776_1 := Aside0.mk hl776_1; clear hi776_1 hl776_1; replace hx776_0 := (cell_far (p := ⟨gb775, 0, none⟩) (by first | (rw [add_block]; exact hn776_0) | (show (Addr.add _ _).block ≠ _; rw [add_block]; exact hn776_0) | exact hn776_0) (.slice A774_0 ((rd_T53 l0_3 x5_2).f0).length c774_0)).trans hx776_0; replace hx776_1 := (cell_far (p := ⟨gb775, 0, none⟩) (by first | (rw [add_block]; exact hn776_0) | (show (Addr.add _ _).block ≠ _; rw [add_block]; exact hn776_0) | exact hn776_0) (.slice A774_0 ((rd_T53 l0_3 x5_2).f0).length c774_0)).trans hx776_1; replace hx776_2 := (cell_far (p := ⟨gb775, 0, none⟩) (by first | (rw [add_block]; exact hn776_0) | (show (Addr.add _ _).block ≠ _; rw [add_block]; exact hn776_0) | exact hn776_0) (.slice A774_0 ((rd_T53 l0_3 x5_2).f0).length c774_0)).trans hx776_2; replace hx776_3 := (cell_far (p := ⟨gb775, 0, none⟩) (by first | (rw [add_block]; exact hn776_0) | (show (Addr.add _ _).block ≠ _; rw [add_block]; exact hn776_0) | exact hn776_0) (.slice A774_0 ((rd_T53 l0_3 x5_2).f0).length c774_0)).trans hx776_3; replace hx776_0 := (cell_far (p := ⟨gb775, 1, none⟩) (by first | (rw [add_block]; exact hn776_1) | (show (Addr.add _ _).block ≠ _; rw [add_block]; exact hn776_1) | exact hn776_1) (.slice A774_1 ((rd_T53 l0_3 x5_2).f1).length c774_1)).trans hx776_0; replace hx776_1 := (cell_far (p := ⟨gb775, 1, none⟩) (by first | (rw [add_block]; exact hn776_1) | (show (Addr.add _ _).block ≠ _; rw [add_block]; exact hn776_1) | exact hn776_1) (.slice A774_1 ((rd_T53 l0_3 x5_2).f1).length c774_1)).trans hx776_1; replace hx776_2 := (cell_far (p := ⟨gb775, 1, none⟩) (by first | (rw [add_block]; exact hn776_1) | (show (Addr.add _ _).block ≠ _; rw [add_block]; exact hn776_1) | exact hn776_1) (.slice A774_1 ((rd_T53 l0_3 x5_2).f1).length c774_1)).trans hx776_2; replace hx776_3 := (cell_far (p := ⟨gb775, 1, none⟩) (by first | (rw [add_block]; exact hn776_1) | (show (Addr.add _ _).block ≠ _; rw [add_block]; exact hn776_1) | exact hn776_1) (.slice A774_1 ((rd_T53 l0_3 x5_2).f1).length c774_1)).trans hx776_3; replace hx776_0 := (cell_far (p := ⟨gb775, 2, none⟩) (by first | (rw [add_block]; exact hn776_2) | (show (Addr.add _ _).block ≠ _; rw [add_block]; exact hn776_2) | exact hn776_2) (.int .i64 ((rd_T53 l0_3 x5_2).f2))).trans hx776_0; replace hx776_1 := (cell_far (p := ⟨gb775, 2, none⟩) (by first | (rw [add_block]; exact hn776_2) | (show (Addr.add _ _).block ≠ _; rw [add_block]; exact hn776_2) | exact hn776_2) (.int .i64 ((rd_T53 l0_3 x5_2).f2))).trans hx776_1; replace hx776_2 := (cell_far (p := ⟨gb775, 2, none⟩) (by first | (rw [add_block]; exact hn776_2) | (show (Addr.add _ _).block ≠ _; rw [add_block]; exact hn776_2) | exact hn776_2) (.int .i64 ((rd_T53 l0_3 x5_2).f2))).trans hx776_2; replace hx776_3 := (cell_far (p := ⟨gb775, 2, none⟩) (by first | (rw [add_block]; exact hn776_2) | (show (Addr.add _ _).block ≠ _; rw [add_block]; exact hn776_2) | exact hn776_2) (.int .i64 ((rd_T53 l0_3 x5_2).f2))).trans hx776_3; replace hx776_0 := (cell_far (p := ⟨gb775, 3, none⟩) (by first | (rw [add_block]; exact hn776_3) | (show (Addr.add _ _).block ≠ _; rw [add_block]; exact hn776_3) | exact hn776_3) (.int .i64 ((rd_T53 l0_3 x5_2).f3))).trans hx776_0; replace hx776_1 := (cell_far (p := ⟨gb775, 3, none⟩) (by first | (rw [add_block]; exact hn776_3) | (show (Addr.add _ _).block ≠ _; rw [add_block]; exact hn776_3) | exact hn776_3) (.int .i64 ((rd_T53 l0_3 x5_2).f3))).trans hx776_1; replace hx776_2 := (cell_far (p := ⟨gb775, 3, none⟩) (by first | (rw [add_block]; exact hn776_3) | (show (Addr.add _ _).block ≠ _; rw [add_block]; exact hn776_3) | exact hn776_3) (.int .i64 ((rd_T53 l0_3 x5_2).f3))).trans hx776_2; replace hx776_3 := (cell_far (p := ⟨gb775, 3, none⟩) (by first | (rw [add_block]; exact hn776_3) | (show (Addr.add _ _).block ≠ _; rw [add_block]; exact hn776_3) | exact hn776_3) (.int .i64 ((rd_T53 l0_3 x5_2).f3))).trans hx776_3; (try have hy776_0 := fun (n_ : Nat) => (show ((((((w28.drewN n_).setCell ⟨gb775, 0, none⟩ (.slice A774_0 ((rd_T53 l0_3 x5_2).f0).length c774_0)).setCell ⟨gb775, 1, none⟩ (.slice A774_1 ((rd_T53 l0_3 x5_2).f1).length c774_1)).setCell ⟨gb775, 2, none⟩ (.int .i64 ((rd_T53 l0_3 x5_2).f2))).setCell ⟨gb775, 3, none⟩ (.int .i64 ((rd_T53 l0_3 x5_2).f3)))).cell? _ = some _ from hx776_0)); (try have hy776_1 := fun (n_ : Nat) => (show ((((((w28.drewN n_).setCell ⟨gb775, 0, none⟩ (.slice A774_0 ((rd_T53 l0_3 x5_2).f0).length c774_0)).setCell ⟨gb775, 1, none⟩ (.slice A774_1 ((rd_T53 l0_3 x5_2).f1).length c774_1)).setCell ⟨gb775, 2, none⟩ (.int .i64 ((rd_T53 l0_3 x5_2).f2))).setCell ⟨gb775, 3, none⟩ (.int .i64 ((rd_T53 l0_3 x5_2).f3)))).cell? _ = some _ from hx776_1)); (try have hy776_2 := fun (n_ : Nat) => (show ((((((w28.drewN n_).setCell ⟨gb775, 0, none⟩ (.slice A774_0 ((rd_T53 l0_3 x5_2).f0).length c774_0)).setCell ⟨gb775, 1, none⟩ (.slice A774_1 ((rd_T53 l0_3 x5_2).f1).length c774_1)).setCell ⟨gb775, 2, none⟩ (.int .i64 ((rd_T53 l0_3 x5_2).f2))).setCell ⟨gb775, 3, none⟩ (.int .i64 ((rd_T53 l0_3 x5_2).f3)))).cell? _ = some _ from hx776_2)); (try have hy776_3 := fun (n_ : Nat) => (show ((((((w28.drewN n_).setCell ⟨gb775, 0, none⟩ (.slice A774_0 ((rd_T53 l0_3 x5_2).f0).length c774_0)).setCell ⟨gb775, 1, none⟩ (.slice A774_1 ((rd_T53 l0_3 x5_2).f1).length c774_1)).setCell ⟨gb775, 2, none⟩ (.int .i64 ((rd_T53 l0_3 x5_2).f2))).setCell ⟨gb775, 3, none⟩ (.int .i64 ((rd_T53 l0_3 x5_2).f3)))).cell? _ = some _ from hx776_3)); clear hn776_0; clear hn776_1; clear hn776_2; clear hn776_3; replace p776 := eq_true p776; replace q776 := eq_true q776) | ((with_reducible refine gate_dst (N := 7) rfl ?_); (try (refine gate_guard (by rfl) ?_; dsimp only)); refine bx_ 7 53 #[.slice none 0 0, .slice none 0 0, .int .i64 0, .int .i64 0] ?_; intro gb777 hg w33 hbox hb; have BK777 := Aside0.mk (hbox); have GW777 := Aside0.mk ((hz_ : w.heap.size ≤ gb777)); have GE777 := GW777; replace HB := Aside0.mk (below_step bl_ hb); have NB772_777 := Aside0.mk ((by rw [hg]; exact Nat.ne_of_lt (blk_lt (g := gb772) (o := .cells #[.int .i64 a0_0, .int .i64 a0_1, .int .i64 a0_2, .slice (some ad774) l0_3.length c0_3] 36 (0, 0)) (bp1_ BK772.out NB772_775.out)) : gb772 ≠ gb777)); have NB777_772 := Aside0.mk ((by rw [hg]; exact Nat.ne_of_gt (blk_lt (g := gb772) (o := .cells #[.int .i64 a0_0, .int .i64 a0_1, .int .i64 a0_2, .slice (some ad774) l0_3.length c0_3] 36 (0, 0)) (bp1_ BK772.out NB772_775.out)) : gb777 ≠ gb772)); replace BK772 := bb1_ BK772.out NB772_775.out hb; have NB773_777 := Aside0.mk ((by rw [hg]; exact Nat.ne_of_lt (blk_lt (g := gb773) (o := .cells #[.int .i64 a1_0, .int .i64 a1_1, .int .i64 a1_2, .slice (some ad776) l1_3.length c1_3] 36 (0, 0)) (bp1_ BK773.out NB773_775.out)) : gb773 ≠ gb777)); have NB777_773 := Aside0.mk ((by rw [hg]; exact Nat.ne_of_gt (blk_lt (g := gb773) (o := .cells #[.int .i64 a1_0, .int .i64 a1_1, .int .i64 a1_2, .slice (some ad776) l1_3.length c1_3] 36 (0, 0)) (bp1_ BK773.out NB773_775.out)) : gb777 ≠ gb773)); replace BK773 := bb1_ BK773.out NB773_775.out hb; have NB775_777 := Aside0.mk ((by rw [hg]; exact Nat.ne_of_lt (blk_lt (g := gb775) (o := .cells #[.slice A774_0 ((rd_T53 l0_3 x5_2).f0).length c774_0, .slice A774_1 ((rd_T53 l0_3 x5_2).f1).length c774_1, .int .i64 ((rd_T53 l0_3 x5_2).f2), .int .i64 ((rd_T53 l0_3 x5_2).f3)] 53 (0, 0)) (bp0_ BK775.out)) : gb775 ≠ gb777)); have NB777_775 := Aside0.mk ((by rw [hg]; exact Nat.ne_of_gt (blk_lt (g := gb775) (o := .cells #[.slice A774_0 ((rd_T53 l0_3 x5_2).f0).length c774_0, .slice A774_1 ((rd_T53 l0_3 x5_2).f1).length c774_1, .int .i64 ((rd_T53 l0_3 x5_2).f2), .int .i64 ((rd_T53 l0_3 x5_2).f3)] 53 (0, 0)) (bp0_ BK775.out)) : gb777 ≠ gb775)); replace BK775 := Aside0.mk (blk_below (g := gb775) (o := .cells #[.slice A774_0 ((rd_T53 l0_3 x5_2).f0).length c774_0, .slice A774_1 ((rd_T53 l0_3 x5_2).f1).length c774_1, .int .i64 ((rd_T53 l0_3 x5_2).f2), .int .i64 ((rd_T53 l0_3 x5_2).f3)] 53 (0, 0)) (bp0_ BK775.out) hb); clear hb hbox hg; have hnb34 := NB777_772.out; have hnc34 := NB772_777.out; have hnb35 := NB777_773.out; have hnc35 := NB773_777.out; have hnb36 := NB777_775.out; have hnc36 := NB775_777.out; obtain ⟨hcz37_0, hcz37_1, hcz37_2, hcz37_3, hfz37_0, hfz37_1, hfz37_2, hfz37_3⟩ := cf4_ BK777.out))
 (try simp only [Act.put, List.setIfInBounds_toArray, List.set_cons_zero, List.set_cons_succ])
 go_cut [82] (fun v82 wc => ∃ (kq : Nat) (x82_24 : Bool), v82 = .bool x82_24 ∧ Aside0 (spec_SamePolicy.j2 kq x5_2 x82_24 a0_0 a0_1 a0_2 l0_3 a1_0 a1_1 a1_2 l1_3 ((rd_T53 l0_3 x5_2).f0) ((rd_T53 l0_3 x5_2).f1) ((rd_T53 l0_3 x5_2).f2) ((rd_T53 l0_3 x5_2).f3) ((rd_T53 l1_3 x5_2).f0) ((rd_T53 l1_3 x5_2).f1) ((rd_T53 l1_3 x5_2).f2) ((rd_T53 l1_3 x5_2).f3) = some r) ∧ Aside0 (kq ≤ k2) ∧ Aside0 (wc.heap[gb772]? = some (.cells #[.int .i64 a0_0, .int .i64 a0_1, .int .i64 a0_2, (.slice (some ad774) l0_3.length c0_3)] 36 (0, 0))) ∧ Aside0 (wc.heap[gb773]? = some (.cells #[.int .i64 a1_0, .int .i64 a1_1, .int .i64 a1_2, (.slice (some ad776) l1_3.length c1_3)] 36 (0, 0))) ∧ Aside0 (wc.heap[gb775]? = some (.cells #[(.slice A774_0 ((rd_T53 l0_3 x5_2).f0).length c774_0), (.slice A774_1 ((rd_T53 l0_3 x5_2).f1).length c774_1), .int .i64 ((rd_T53 l0_3 x5_2).f2), .int .i64 ((rd_T53 l0_3 x5_2).f3)] 53 (0, 0))) ∧ Aside0 (wc.heap[gb777]? = some (.cells #[(.slice A776_0 ((rd_T53 l1_3 x5_2).f0).length c776_0), (.slice A776_1 ((rd_T53 l1_3 x5_2).f1).length c776_1), .int .i64 ((rd_T53 l1_3 x5_2).f2), .int .i64 ((rd_T53 l1_3 x5_2).f3)] 53 (0, 0))) ∧ Aside0 (Below w.heap.size w wc))
 case first =>
  have H := HC25.out
  clear HC25
  replace H := bs_ H
  obtain ⟨t778, A38, H⟩ := H
  try dsimp only at H
  by_cases c39 : t778 = true
  rotate_left
  ·replace c39 := Bool.eq_false_iff.mpr c39
   subst c39
   rw [nf_] at H
   have H' := Aside0.mk H
   clear H
   have hnb63 := NB775_772.out
   have hnc63 := NB772_775.out
   have hnb64 := NB775_773.out
   have hnc64 := NB773_775.out
   have hnb65 := NB775_777.out
   have hnc65 := NB777_775.out
   obtain ⟨hcz66_0, hcz66_1, hcz66_2, hcz66_3, hfz66_0, hfz66_1, hfz66_2, hfz66_3⟩ := cf4_ BK775.out
   have hnb67 := NB777_772.out
   have hnc67 := NB772_777.out
   have hnb68 := NB777_773.out
   have hnc68 := NB773_777.out
   obtain ⟨hcz69_0, hcz69_1, hcz69_2, hcz69_3, hfz69_0, hfz69_1, hfz69_2, hfz69_3⟩ := cf4_ BK777.out
   go_wp2_with ((go_at_call 82; (with_reducible refine (spec_l10Same.calls k2 _ _ ((rd_T53 l0_3 x5_2).f0) _ _ ((rd_T53 l1_3 x5_2).f0) false _ ?side1 ?side2 ?side3 ?side4 A38.out).mono ?_); (case side1 => exact Kd.C_below HR774_0.out bl_); (case side2 => exact HC774_0.out); (case side3 => exact Kd.C_below HR776_0.out bl_); (case side4 => exact HC776_0.out); rintro e w' ⟨rfl, ⟨nd, rfl⟩⟩; (try first | exact ⟨rfl, _, World.drewN_drewN _ _ _⟩ | exact ⟨rfl, _, Eq.trans (World.drewN_drewN _ _ _) (congrArg (World.drewN _) (Nat.add_assoc _ _ _))⟩)))
   repeat (go_quiet (fail); try go_wp2_with (fail))
   go_meet
   case rel => exact ⟨_, (true), (sr_), H', ⟨by have := HJ2.out; have := HK2.out; first | omega | exact Nat.le_refl _⟩, ⟨bp1_ BK772.out NB772_777.out⟩, ⟨bp1_ BK773.out NB773_777.out⟩, ⟨bp1_ BK775.out NB775_777.out⟩, ⟨bp0_ BK777.out⟩, ⟨bl_⟩⟩
  subst c39
  rw [if_pos rfl] at H
  by_cases c40 : ((rd_T53 l0_3 x5_2).f2) = ((rd_T53 l1_3 x5_2).f2)
  rotate_left
  ·rw [if_neg c40] at H
   have c40b0 : (((rd_T53 l0_3 x5_2).f2) == ((rd_T53 l1_3 x5_2).f2)) = false := beq_eq_false_iff_ne.mpr c40
   have c40b1 : (((rd_T53 l0_3 x5_2).f2) != ((rd_T53 l1_3 x5_2).f2)) = true := bne_iff_ne.mpr c40
   (first | rw [c40b0] | (simp only [i64_w, i32_w]; rw [c40b0]) | skip)
   have H' := Aside0.mk H
   clear H
   have hnb56 := NB775_772.out
   have hnc56 := NB772_775.out
   have hnb57 := NB775_773.out
   have hnc57 := NB773_775.out
   have hnb58 := NB775_777.out
   have hnc58 := NB777_775.out
   obtain ⟨hcz59_0, hcz59_1, hcz59_2, hcz59_3, hfz59_0, hfz59_1, hfz59_2, hfz59_3⟩ := cf4_ BK775.out
   have hnb60 := NB777_772.out
   have hnc60 := NB772_777.out
   have hnb61 := NB777_773.out
   have hnc61 := NB773_777.out
   obtain ⟨hcz62_0, hcz62_1, hcz62_2, hcz62_3, hfz62_0, hfz62_1, hfz62_2, hfz62_3⟩ := cf4_ BK777.out
   go_wp2_with ((go_at_call 82; (with_reducible refine (spec_l10Same.calls k2 _ _ ((rd_T53 l0_3 x5_2).f0) _ _ ((rd_T53 l1_3 x5_2).f0) true _ ?side1 ?side2 ?side3 ?side4 A38.out).mono ?_); (case side1 => exact Kd.C_below HR774_0.out bl_); (case side2 => exact HC774_0.out); (case side3 => exact Kd.C_below HR776_0.out bl_); (case side4 => exact HC776_0.out); rintro e w' ⟨rfl, ⟨nd, rfl⟩⟩; (try first | exact ⟨rfl, _, World.drewN_drewN _ _ _⟩ | exact ⟨rfl, _, Eq.trans (World.drewN_drewN _ _ _) (congrArg (World.drewN _) (Nat.add_assoc _ _ _))⟩)))
   repeat (go_quiet (fail); try go_wp2_with (fail))
   go_meet
   case rel => exact ⟨_, (true), (sr_), H', ⟨by have := HJ2.out; have := HK2.out; first | omega | exact Nat.le_refl _⟩, ⟨bp1_ BK772.out NB772_777.out⟩, ⟨bp1_ BK773.out NB773_777.out⟩, ⟨bp1_ BK775.out NB775_777.out⟩, ⟨bp0_ BK777.out⟩, ⟨bl_⟩⟩
  rw [if_pos c40] at H
  have c40b0 : (((rd_T53 l0_3 x5_2).f2) == ((rd_T53 l1_3 x5_2).f2)) = true := beq_iff_eq.mpr c40
  have c40b1 : (((rd_T53 l0_3 x5_2).f2) != ((rd_T53 l1_3 x5_2).f2)) = false := bne_eq_false_iff_eq.mpr c40
  clear c40
  (first | rw [c40b0] | (simp only [i64_w, i32_w]; rw [c40b0]) | skip)
  by_cases c41 : ((rd_T53 l0_3 x5_2).f3) = ((rd_T53 l1_3 x5_2).f3)
  rotate_left
  ·rw [if_neg c41] at H
   have c41b0 : (((rd_T53 l0_3 x5_2).f3) == ((rd_T53 l1_3 x5_2).f3)) = false := beq_eq_false_iff_ne.mpr c41
   have c41b1 : (((rd_T53 l0_3 x5_2).f3) != ((rd_T53 l1_3 x5_2).f3)) = true := bne_iff_ne.mpr c41
   have H' := Aside0.mk H
   clear H
   have hnb49 := NB775_772.out
   have hnc49 := NB772_775.out
   have hnb50 := NB775_773.out
   have hnc50 := NB773_775.out
   have hnb51 := NB775_777.out
   have hnc51 := NB777_775.out
   obtain ⟨hcz52_0, hcz52_1, hcz52_2, hcz52_3, hfz52_0, hfz52_1, hfz52_2, hfz52_3⟩ := cf4_ BK775.out
   have hnb53 := NB777_772.out
   have hnc53 := NB772_777.out
   have hnb54 := NB777_773.out
   have hnc54 := NB773_777.out
   obtain ⟨hcz55_0, hcz55_1, hcz55_2, hcz55_3, hfz55_0, hfz55_1, hfz55_2, hfz55_3⟩ := cf4_ BK777.out
   go_wp2_with ((go_at_call 82; (with_reducible refine (spec_l10Same.calls k2 _ _ ((rd_T53 l0_3 x5_2).f0) _ _ ((rd_T53 l1_3 x5_2).f0) true _ ?side1 ?side2 ?side3 ?side4 A38.out).mono ?_); (case side1 => exact Kd.C_below HR774_0.out bl_); (case side2 => exact HC774_0.out); (case side3 => exact Kd.C_below HR776_0.out bl_); (case side4 => exact HC776_0.out); rintro e w' ⟨rfl, ⟨nd, rfl⟩⟩; (try first | exact ⟨rfl, _, World.drewN_drewN _ _ _⟩ | exact ⟨rfl, _, Eq.trans (World.drewN_drewN _ _ _) (congrArg (World.drewN _) (Nat.add_assoc _ _ _))⟩)))
   repeat (go_quiet (fail); try go_wp2_with (fail))
   go_meet
   case rel => exact ⟨_, (true), (sr_), H', ⟨by have := HJ2.out; have := HK2.out; first | omega | exact Nat.le_refl _⟩, ⟨bp1_ BK772.out NB772_777.out⟩, ⟨bp1_ BK773.out NB773_777.out⟩, ⟨bp1_ BK775.out NB775_777.out⟩, ⟨bp0_ BK777.out⟩, ⟨bl_⟩⟩
  rw [if_pos c41] at H
  have c41b0 : (((rd_T53 l0_3 x5_2).f3) == ((rd_T53 l1_3 x5_2).f3)) = true := beq_iff_eq.mpr c41
  have c41b1 : (((rd_T53 l0_3 x5_2).f3) != ((rd_T53 l1_3 x5_2).f3)) = false := bne_eq_false_iff_eq.mpr c41
  clear c41
  have H' := Aside0.mk H
  clear H
  have hnb42 := NB775_772.out
  have hnc42 := NB772_775.out
  have hnb43 := NB775_773.out
  have hnc43 := NB773_775.out
  have hnb44 := NB775_777.out
  have hnc44 := NB777_775.out
  obtain ⟨hcz45_0, hcz45_1, hcz45_2, hcz45_3, hfz45_0, hfz45_1, hfz45_2, hfz45_3⟩ := cf4_ BK775.out
  have hnb46 := NB777_772.out
  have hnc46 := NB772_777.out
  have hnb47 := NB777_773.out
  have hnc47 := NB773_777.out
  obtain ⟨hcz48_0, hcz48_1, hcz48_2, hcz48_3, hfz48_0, hfz48_1, hfz48_2, hfz48_3⟩ := cf4_ BK777.out
  go_wp2_with ((go_at_call 82; (with_reducible refine (spec_l10Same.calls k2 _ _ ((rd_T53 l0_3 x5_2).f0) _ _ ((rd_T53 l1_3 x5_2).f0) true _ ?side1 ?side2 ?side3 ?side4 A38.out).mono ?_); (case side1 => exact Kd.C_below HR774_0.out bl_); (case side2 => exact HC774_0.out); (case side3 => exact Kd.C_below HR776_0.out bl_); (case side4 => exact HC776_0.out); rintro e w' ⟨rfl, ⟨nd, rfl⟩⟩; (try first | exact ⟨rfl, _, World.drewN_drewN _ _ _⟩ | exact ⟨rfl, _, Eq.trans (World.drewN_drewN _ _ _) (congrArg (World.drewN _) (Nat.add_assoc _ _ _))⟩)))
  repeat (go_quiet (fail); try go_wp2_with (fail))
  go_meet
  case rel => exact ⟨_, (((((rd_T53 l0_3 x5_2).f1).length : Int) != (((rd_T53 l1_3 x5_2).f1).length : Int))), (sr_), H', ⟨by have := HJ2.out; have := HK2.out; first | omega | exact Nat.le_refl _⟩, ⟨bp1_ BK772.out NB772_777.out⟩, ⟨bp1_ BK773.out NB773_777.out⟩, ⟨bp1_ BK775.out NB775_777.out⟩, ⟨bp0_ BK777.out⟩, ⟨bl_⟩⟩
 clear HC25
 try clear c21
 try clear c22
 try clear c22b0
 try clear c23
 try clear c23b0
 try clear c24
 try clear c24b0
 try clear hcz27_0
 try clear hcz27_1
 try clear hcz27_2
 try clear hcz27_3
 try clear hcz31_0
 try clear hcz31_1
 try clear hcz31_2
 try clear hcz31_3
 try clear hcz32_0
 try clear hcz32_1
 try clear hcz32_2
 try clear hcz32_3
 try clear hcz37_0
 try clear hcz37_1
 try clear hcz37_2
 try clear hcz37_3
 try clear hfz27_0
 try clear hfz27_1
 try clear hfz27_2
 try clear hfz27_3
 try clear hfz31_0
 try clear hfz31_1
 try clear hfz31_2
 try clear hfz31_3
 try clear hfz32_0
 try clear hfz32_1
 try clear hfz32_2
 try clear hfz32_3
 try clear hfz37_0
 try clear hfz37_1
 try clear hfz37_2
 try clear hfz37_3
 try clear hx774_0
 try clear hx774_1
 try clear hx774_2
 try clear hx774_3
 try clear hx776_0
 try clear hx776_1
 try clear hx776_2
 try clear hx776_3
 try clear p774
 try clear p776
 try clear q774
 try clear q776
 obtain ⟨kq, x82_24, rfl, HA, HJ24, BK772, BK773, BK775, BK777, HB⟩ := hcut
 cases kq with
 | zero => exact absurd HA.out (by simp [spec_SamePolicy.j2])
 | succ kj24 => ?_
 have H := HA.out
 clear HA
 simp only [spec_SamePolicy.j2] at H
 by_cases c70 : x82_24 = true
 ·subst c70
  rw [if_pos rfl] at H
  obtain rfl := Option.some.inj H
  go_wp2
  repeat (go_quiet (fail); try go_wp2)
  go_ret
  exact ⟨er_, bl_⟩
 replace c70 := Bool.eq_false_iff.mpr c70
 subst c70
 rw [nf_] at H
 have H' := Aside0.mk H
 clear H
 go_wp2
 repeat (go_quiet (fail); try go_wp2)
 go_loopg [8] kj24 (fun kq v8 w' => ∃ (x8_4 : Int), v8 = .int .i64 x8_4 ∧ Aside0 (spec_SamePolicy.l1 kq x5_2 x8_4 a0_0 a0_1 a0_2 l0_3 a1_0 a1_1 a1_2 l1_3 ((rd_T53 l0_3 x5_2).f0) ((rd_T53 l0_3 x5_2).f1) ((rd_T53 l0_3 x5_2).f2) ((rd_T53 l0_3 x5_2).f3) ((rd_T53 l1_3 x5_2).f0) ((rd_T53 l1_3 x5_2).f1) ((rd_T53 l1_3 x5_2).f2) ((rd_T53 l1_3 x5_2).f3) = some r) ∧ Aside0 (kq ≤ kj24) ∧ Aside0 (w'.heap[gb772]? = some (.cells #[.int .i64 a0_0, .int .i64 a0_1, .int .i64 a0_2, (.slice (some ad774) l0_3.length c0_3)] 36 (0, 0))) ∧ Aside0 (w'.heap[gb773]? = some (.cells #[.int .i64 a1_0, .int .i64 a1_1, .int .i64 a1_2, (.slice (some ad776) l1_3.length c1_3)] 36 (0, 0))) ∧ Aside0 (w'.heap[gb775]? = some (.cells #[(.slice A774_0 ((rd_T53 l0_3 x5_2).f0).length c774_0), (.slice A774_1 ((rd_T53 l0_3 x5_2).f1).length c774_1), .int .i64 ((rd_T53 l0_3 x5_2).f2), .int .i64 ((rd_T53 l0_3 x5_2).f3)] 53 (0, 0))) ∧ Aside0 (w'.heap[gb777]? = some (.cells #[(.slice A776_0 ((rd_T53 l1_3 x5_2).f0).length c776_0), (.slice A776_1 ((rd_T53 l1_3 x5_2).f1).length c776_1), .int .i64 ((rd_T53 l1_3 x5_2).f2), .int .i64 ((rd_T53 l1_3 x5_2).f3)] 53 (0, 0))) ∧ Aside0 (Below w.heap.size w w'))
 case atStart => exact ⟨(0), (sr_), H', ⟨Nat.le_refl _⟩, ⟨bk_ BK772.out⟩, ⟨bk_ BK773.out⟩, ⟨bk_ BK775.out⟩, ⟨bk_ BK777.out⟩, ⟨bl_⟩⟩
 clear H'
 try clear c21
 try clear c22
 try clear c22b0
 try clear c23
 try clear c23b0
 try clear c24
 try clear c24b0
 try clear c70
 try clear hcz27_0
 try clear hcz27_1
 try clear hcz27_2
 try clear hcz27_3
 try clear hcz31_0
 try clear hcz31_1
 try clear hcz31_2
 try clear hcz31_3
 try clear hcz32_0
 try clear hcz32_1
 try clear hcz32_2
 try clear hcz32_3
 try clear hcz37_0
 try clear hcz37_1
 try clear hcz37_2
 try clear hcz37_3
 try clear hfz27_0
 try clear hfz27_1
 try clear hfz27_2
 try clear hfz27_3
 try clear hfz31_0
 try clear hfz31_1
 try clear hfz31_2
 try clear hfz31_3
 try clear hfz32_0
 try clear hfz32_1
 try clear hfz32_2
 try clear hfz32_3
 try clear hfz37_0
 try clear hfz37_1
 try clear hfz37_2
 try clear hfz37_3
 try clear hx774_0
 try clear hx774_1
 try clear hx774_2
 try clear hx774_3
 try clear hx776_0
 try clear hx776_1
 try clear hx776_2
 try clear hx776_3
 try clear p774
 try clear p776
 try clear q774
 try clear q776
 obtain ⟨x8_4, rfl, HA, HK4, BK772, BK773, BK775, BK777, HB⟩ := hrel
 cases gk with
 | zero => exact absurd HA.out (by simp [spec_SamePolicy.l1])
 | succ k4 => ?_
 have H := HA.out
 clear HA
 simp only [spec_SamePolicy.l1] at H
 by_cases c71 : x8_4 < (((rd_T53 l0_3 x5_2).f1).length : Int)
 rotate_left
 ·rw [if_neg c71] at H
  have c71b0 := decide_eq_false c71
  clear c71
  have H' := Aside0.mk H
  clear H
  have hnb89 := NB775_772.out
  have hnc89 := NB772_775.out
  have hnb90 := NB775_773.out
  have hnc90 := NB773_775.out
  have hnb91 := NB775_777.out
  have hnc91 := NB777_775.out
  obtain ⟨hcz92_0, hcz92_1, hcz92_2, hcz92_3, hfz92_0, hfz92_1, hfz92_2, hfz92_3⟩ := cf4_ BK775.out
  go_wp2
  repeat (go_quiet (fail); try go_wp2)
  go_roundg k4
  case measure => have := HJ2.out; have := HK2.out; have := HJ24.out; have := HK4.out; omega
  case rel => exact ⟨(wrap64 (x5_2 + 1)), (sr_), H', ⟨by have := HJ2.out; have := HK2.out; have := HJ24.out; have := HK4.out; omega⟩, ⟨bk_ BK772.out⟩, ⟨bk_ BK773.out⟩, ⟨bl_⟩⟩
 rw [if_pos c71] at H
 have c71b0 := decide_eq_true c71
 clear c71
 by_cases c72 : 0 ≤ x8_4
 rotate_left
 ·exact nn_ c72 H
 rw [if_pos c72] at H
 have c72b0 := decide_eq_true c72
 clear c72
 by_cases c73 : x8_4 < (((rd_T53 l1_3 x5_2).f1).length : Int)
 rotate_left
 ·exact nn_ c73 H
 rw [if_pos c73] at H
 have c73b0 := decide_eq_true c73
 clear c73
 by_cases c74 : (!(((rd_T100 ((rd_T53 l0_3 x5_2).f1) x8_4).f0) == ((rd_T100 ((rd_T53 l1_3 x5_2).f1) x8_4).f0)) || ((!(((rd_T100 ((rd_T53 l0_3 x5_2).f1) x8_4).f1.f0) == ((rd_T100 ((rd_T53 l1_3 x5_2).f1) x8_4).f1.f0)) || (!(((rd_T100 ((rd_T53 l0_3 x5_2).f1) x8_4).f1.f1) == ((rd_T100 ((rd_T53 l1_3 x5_2).f1) x8_4).f1.f1)))) || (!(((rd_T100 ((rd_T53 l0_3 x5_2).f1) x8_4).f2) == ((rd_T100 ((rd_T53 l1_3 x5_2).f1) x8_4).f2)) || ((!(((rd_T100 ((rd_T53 l0_3 x5_2).f1) x8_4).f3.f0) == ((rd_T100 ((rd_T53 l1_3 x5_2).f1) x8_4).f3.f0)) || (!(((rd_T100 ((rd_T53 l0_3 x5_2).f1) x8_4).f3.f1) == ((rd_T100 ((rd_T53 l1_3 x5_2).f1) x8_4).f3.f1)))))))) = true
 ·rw [if_pos c74] at H
  have c74b0 : (!(((rd_T100 ((rd_T53 l0_3 x5_2).f1) x8_4).f0) == ((rd_T100 ((rd_T53 l1_3 x5_2).f1) x8_4).f0)) || ((!(((rd_T100 ((rd_T53 l0_3 x5_2).f1) x8_4).f1.f0) == ((rd_T100 ((rd_T53 l1_3 x5_2).f1) x8_4).f1.f0)) || (!(((rd_T100 ((rd_T53 l0_3 x5_2).f1) x8_4).f1.f1) == ((rd_T100 ((rd_T53 l1_3 x5_2).f1) x8_4).f1.f1)))) || (!(((rd_T100 ((rd_T53 l0_3 x5_2).f1) x8_4).f2) == ((rd_T100 ((rd_T53 l1_3 x5_2).f1) x8_4).f2)) || ((!(((rd_T100 ((rd_T53 l0_3 x5_2).f1) x8_4).f3.f0) == ((rd_T100 ((rd_T53 l1_3 x5_2).f1) x8_4).f3.f0)) || (!(((rd_T100 ((rd_T53 l0_3 x5_2).f1) x8_4).f3.f1) == ((rd_T100 ((rd_T53 l1_3 x5_2).f1) x8_4).f3.f1)))))))) = true := c74
  clear c74
  obtain rfl := Option.some.inj H
  have hnb75 := NB775_772.out
  have hnc75 := NB772_775.out
  have hnb76 := NB775_773.out
  have hnc76 := NB773_775.out
  have hnb77 := NB775_777.out
  have hnc77 := NB777_775.out
  obtain ⟨hcz78_0, hcz78_1, hcz78_2, hcz78_3, hfz78_0, hfz78_1, hfz78_2, hfz78_3⟩ := cf4_ BK775.out
  have p779 : 0 ≤ (x8_4 : Int) := of_decide_eq_true as_
  have q779 : x8_4 < (((rd_T53 l0_3 x5_2).f1).length : Int) := of_decide_eq_true as_
  obtain ⟨ad779, e779, hx779_0, hx779_1, hx779_2, hx779_3, hx779_4, hx779_5⟩ := at_T100 HR774_1.out x8_4 p779 q779
  cases e779
  replace hx779_0 := (HB.out.cell (World.block_lt_of_cell? w _ hx779_0)).trans hx779_0
  replace hx779_1 := (HB.out.cell (World.block_lt_of_cell? w _ hx779_1)).trans hx779_1
  replace hx779_2 := (HB.out.cell (World.block_lt_of_cell? w _ hx779_2)).trans hx779_2
  replace hx779_3 := (HB.out.cell (World.block_lt_of_cell? w _ hx779_3)).trans hx779_3
  replace hx779_4 := (HB.out.cell (World.block_lt_of_cell? w _ hx779_4)).trans hx779_4
  replace hx779_5 := (HB.out.cell (World.block_lt_of_cell? w _ hx779_5)).trans hx779_5
  replace p779 := eq_true p779
  replace q779 := eq_true q779
  have hnb79 := NB777_772.out
  have hnc79 := NB772_777.out
  have hnb80 := NB777_773.out
  have hnc80 := NB773_777.out
  obtain ⟨hcz81_0, hcz81_1, hcz81_2, hcz81_3, hfz81_0, hfz81_1, hfz81_2, hfz81_3⟩ := cf4_ BK777.out
  have p780 : 0 ≤ (x8_4 : Int) := of_decide_eq_true as_
  have q780 : x8_4 < (((rd_T53 l1_3 x5_2).f1).length : Int) := of_decide_eq_true as_
  obtain ⟨ad780, e780, hx780_0, hx780_1, hx780_2, hx780_3, hx780_4, hx780_5⟩ := at_T100 HR776_1.out x8_4 p780 q780
  cases e780
  replace hx780_0 := (HB.out.cell (World.block_lt_of_cell? w _ hx780_0)).trans hx780_0
  replace hx780_1 := (HB.out.cell (World.block_lt_of_cell? w _ hx780_1)).trans hx780_1
  replace hx780_2 := (HB.out.cell (World.block_lt_of_cell? w _ hx780_2)).trans hx780_2
  replace hx780_3 := (HB.out.cell (World.block_lt_of_cell? w _ hx780_3)).trans hx780_3
  replace hx780_4 := (HB.out.cell (World.block_lt_of_cell? w _ hx780_4)).trans hx780_4
  replace hx780_5 := (HB.out.cell (World.block_lt_of_cell? w _ hx780_5)).trans hx780_5
  replace p780 := eq_true p780
  replace q780 := eq_true q780
  go_wp2
  repeat (go_quiet (fail); try go_wp2)
  go_ret
  exact ⟨er_, bl_⟩
 rw [if_neg c74] at H
 have c74b0 : (!(((rd_T100 ((rd_T53 l0_3 x5_2).f1) x8_4).f0) == ((rd_T100 ((rd_T53 l1_3 x5_2).f1) x8_4).f0)) || ((!(((rd_T100 ((rd_T53 l0_3 x5_2).f1) x8_4).f1.f0) == ((rd_T100 ((rd_T53 l1_3 x5_2).f1) x8_4).f1.f0)) || (!(((rd_T100 ((rd_T53 l0_3 x5_2).f1) x8_4).f1.f1) == ((rd_T100 ((rd_T53 l1_3 x5_2).f1) x8_4).f1.f1)))) || (!(((rd_T100 ((rd_T53 l0_3 x5_2).f1) x8_4).f2) == ((rd_T100 ((rd_T53 l1_3 x5_2).f1) x8_4).f2)) || ((!(((rd_T100 ((rd_T53 l0_3 x5_2).f1) x8_4).f3.f0) == ((rd_T100 ((rd_T53 l1_3 x5_2).f1) x8_4).f3.f0)) || (!(((rd_T100 ((rd_T53 l0_3 x5_2).f1) x8_4).f3.f1) == ((rd_T100 ((rd_T53 l1_3 x5_2).f1) x8_4).f3.f1)))))))) = false := by simpa using c74
 clear c74
 have H' := Aside0.mk H
 clear H
 have hnb82 := NB775_772.out
 have hnc82 := NB772_775.out
 have hnb83 := NB775_773.out
 have hnc83 := NB773_775.out
 have hnb84 := NB775_777.out
 have hnc84 := NB777_775.out
 obtain ⟨hcz85_0, hcz85_1, hcz85_2, hcz85_3, hfz85_0, hfz85_1, hfz85_2, hfz85_3⟩ := cf4_ BK775.out
 have p779 : 0 ≤ (x8_4 : Int) := of_decide_eq_true as_
 have q779 : x8_4 < (((rd_T53 l0_3 x5_2).f1).length : Int) := of_decide_eq_true as_
 obtain ⟨ad779, e779, hx779_0, hx779_1, hx779_2, hx779_3, hx779_4, hx779_5⟩ := at_T100 HR774_1.out x8_4 p779 q779
 cases e779
 replace hx779_0 := (HB.out.cell (World.block_lt_of_cell? w _ hx779_0)).trans hx779_0
 replace hx779_1 := (HB.out.cell (World.block_lt_of_cell? w _ hx779_1)).trans hx779_1
 replace hx779_2 := (HB.out.cell (World.block_lt_of_cell? w _ hx779_2)).trans hx779_2
 replace hx779_3 := (HB.out.cell (World.block_lt_of_cell? w _ hx779_3)).trans hx779_3
 replace hx779_4 := (HB.out.cell (World.block_lt_of_cell? w _ hx779_4)).trans hx779_4
 replace hx779_5 := (HB.out.cell (World.block_lt_of_cell? w _ hx779_5)).trans hx779_5
 replace p779 := eq_true p779
 replace q779 := eq_true q779
 have hnb86 := NB777_772.out
 have hnc86 := NB772_777.out
 have hnb87 := NB777_773.out
 have hnc87 := NB773_777.out
 obtain ⟨hcz88_0, hcz88_1, hcz88_2, hcz88_3, hfz88_0, hfz88_1, hfz88_2, hfz88_3⟩ := cf4_ BK777.out
 have p780 : 0 ≤ (x8_4 : Int) := of_decide_eq_true as_
 have q780 : x8_4 < (((rd_T53 l1_3 x5_2).f1).length : Int) := of_decide_eq_true as_
 obtain ⟨ad780, e780, hx780_0, hx780_1, hx780_2, hx780_3, hx780_4, hx780_5⟩ := at_T100 HR776_1.out x8_4 p780 q780
 cases e780
 replace hx780_0 := (HB.out.cell (World.block_lt_of_cell? w _ hx780_0)).trans hx780_0
 replace hx780_1 := (HB.out.cell (World.block_lt_of_cell? w _ hx780_1)).trans hx780_1
 replace hx780_2 := (HB.out.cell (World.block_lt_of_cell? w _ hx780_2)).trans hx780_2
 replace hx780_3 := (HB.out.cell (World.block_lt_of_cell? w _ hx780_3)).trans hx780_3
 replace hx780_4 := (HB.out.cell (World.block_lt_of_cell? w _ hx780_4)).trans hx780_4
 replace hx780_5 := (HB.out.cell (World.block_lt_of_cell? w _ hx780_5)).trans hx780_5
 replace p780 := eq_true p780
 replace q780 := eq_true q780
 go_wp2
 repeat (go_quiet (fail); try go_wp2)
 go_roundg k4
 case measure => have := HJ2.out; have := HK2.out; have := HJ24.out; have := HK4.out; omega
 case rel => exact ⟨(wrap64 (x8_4 + 1)), (sr_), H', ⟨by have := HJ2.out; have := HK2.out; have := HJ24.out; have := HK4.out; omega⟩, ⟨bk_ BK772.out⟩, ⟨bk_ BK773.out⟩, ⟨bk_ BK775.out⟩, ⟨bk_ BK777.out⟩, ⟨bl_⟩⟩

end Go.Proofs.Ytjfmpodeenidnaa.PC
