/- Contracts of functions of the program and of the reference, and plain lemmas on what they compute: a part of the proof of the law FnLessTold. No condition. -/
import Derived.Test.YtjfmpodeenidnaaG90508x0
import Derived.Test.YtjfmpodeenidnaaJFnLessTold2
import Derived.Test.YtjfmpodeenidnaaShortV
set_option maxHeartbeats 8000000
set_option maxRecDepth 100000
namespace Go.Proofs.Ytjfmpodeenidnaa.PC
open Go.RowKit Go.Proofs.Ytjfmpodeenidnaa.Short Go.Proofs.YtjfmpodeenidnaaW.PrintWords Go.Proofs.YtjfmpodeenidnaaW.PrintLast Go.Proofs.YtjfmpodeenidnaaW.PrintMore
attribute [local go_sem] max2_int min2_int max_two min_two max_three min_three max_four min_four   -- for this text's walks alone
set_option linter.unusedVariables false
set_option linter.unusedSimpArgs false

mutual
def spec_Shadowed.l0 : Nat → List Int → Int → Int → Int → Int → List (S53) → Option (List Int)
 | 0, _, _, _, _, _, _ => none
 | k + 1, x3, x4, x760000, x760001, x760002, x760003 => if x4 < (x760003.length : Int) then (spec_Shadowed.l1 k x3 x4 false 0 x760000 x760001 x760002 x760003) else (some x3)
def spec_Shadowed.l1 : Nat → List Int → Int → Bool → Int → Int → Int → Int → List (S53) → Option (List Int)
 | 0, _, _, _, _, _, _, _, _ => none
 | k + 1, x3, x4, x5, x6, x760000, x760001, x760002, x760003 => if x6 < x4 then (if x5 = true then (spec_Shadowed.l1 k x3 x4 true (wrap64 (x6 + 1)) x760000 x760001 x760002 x760003) else (if 0 ≤ x6 then (if x6 < (x760003.length : Int) then (if 0 ≤ x4 then (if x4 < (x760003.length : Int) then ((spec_l24Covers.f k ((rd_T53 x760003 x6).f0) ((rd_T53 x760003 x6).f1) ((rd_T53 x760003 x6).f2) ((rd_T53 x760003 x6).f3) ((rd_T53 x760003 x4).f0) ((rd_T53 x760003 x4).f1) ((rd_T53 x760003 x4).f2) ((rd_T53 x760003 x4).f3)).bind fun t766 => (spec_Shadowed.l1 k x3 x4 t766 (wrap64 (x6 + 1)) x760000 x760001 x760002 x760003)) else (none)) else (none)) else (none)) else (none))) else (if x5 = true then (if x3.length < 17592186044416 then (spec_Shadowed.l0 k (x3 ++ [x4]) (wrap64 (x4 + 1)) x760000 x760001 x760002 x760003) else (none)) else (spec_Shadowed.l0 k x3 (wrap64 (x4 + 1)) x760000 x760001 x760002 x760003))
end
def spec_Shadowed.f (k : Nat) (a0_0 : Int) (a0_1 : Int) (a0_2 : Int) (l0_3 : List (S53)) : Option (List Int) := (some (([] : List Int) : List Int)).bind fun y760 => ((spec_PolicyOk.f k a0_0 a0_1 a0_2 l0_3).bind fun t763 => (if t763 = true then (spec_Shadowed.l0 k y760 0 a0_0 a0_1 a0_2 l0_3) else (some y760)))
theorem spec_Shadowed.mono_l : ∀ k, (∀ y0 y1 y2 y3 y4 y5, LeO (spec_Shadowed.l0 k y0 y1 y2 y3 y4 y5) (spec_Shadowed.l0 (k + 1) y0 y1 y2 y3 y4 y5)) ∧ (∀ y0 y1 y2 y3 y4 y5 y6 y7, LeO (spec_Shadowed.l1 k y0 y1 y2 y3 y4 y5 y6 y7) (spec_Shadowed.l1 (k + 1) y0 y1 y2 y3 y4 y5 y6 y7))
 | 0 => ⟨fun _ _ _ _ _ _ r h => by simp [spec_Shadowed.l0] at h, fun _ _ _ _ _ _ _ _ r h => by simp [spec_Shadowed.l1] at h⟩
 | k + 1 => by
  obtain ⟨ih0, ih1⟩ := spec_Shadowed.mono_l k
  refine ⟨?_, ?_⟩
  ·intro y0 y1 y2 y3 y4 y5
   unfold spec_Shadowed.l0
   have m0 := @spec_PolicyOk.mono
   have m1 := @spec_l24Covers.mono
   exact mo_
  ·intro y0 y1 y2 y3 y4 y5 y6 y7
   unfold spec_Shadowed.l1
   have m0 := @spec_PolicyOk.mono
   have m1 := @spec_l24Covers.mono
   exact mo_
theorem spec_Shadowed.mono : ∀ a0 a1 a2 a3 k, LeO (spec_Shadowed.f k a0 a1 a2 a3) (spec_Shadowed.f (k + 1) a0 a1 a2 a3) := by
 intro a0 a1 a2 a3 k
 obtain ⟨ih0, ih1⟩ := spec_Shadowed.mono_l k
 unfold spec_Shadowed.f
 have m0 := @spec_PolicyOk.mono
 have m1 := @spec_l24Covers.mono
 exact mo_
def spec_Shadowed.T11 : Bool × List (List Nat × List Nat) := (true, [([], []), ([0], [0]), ([1], [1]), ([2, 1], [1, 2]), ([1], [1]), ([3, 4, 1], [1, 3, 4]), ([5, 1], [1, 5]), ([1], [1]), ([7, 1], [1, 7]), ([1], [1]), ([8, 9, 1], [1, 8, 9]), ([10, 1], [1, 10]), ([6, 11, 1, 1], [1, 6, 11]), ([1, 12], [1, 12]), ([13, 12, 0, 1, 2, 3, 4, 5, 6, 7, 8, 9, 10, 11, 12, 13], [0, 13])])
def spec_Shadowed.B11 : List Nat := [0, 1, 3, 7, 3, 31, 63, 3, 131, 3, 899, 1923, 4095, 8191, 16383]
theorem spec_Shadowed.tab11 : rtab .any (opsOf Try.f32 11) = spec_Shadowed.T11 := by kernel_rfl
theorem spec_Shadowed.bits11 : waitsOk spec_Shadowed.T11.2 spec_Shadowed.B11 = true := by kernel_rfl
theorem spec_Shadowed.calls (k : Nat) (a0_0 : Int) (a0_1 : Int) (a0_2 : Int) (A0_3 : Option Addr) (c0_3 : Nat) (l0_3 : List (S53)) (r : List Int) (w : World) (hr0_3 : Kd.C k53 w A0_3 l0_3.length l0_3) (hc0_3 : l0_3.length ≤ c0_3) (h : spec_Shadowed.f k a0_0 a0_1 a0_2 l0_3 = some r) :
 Calls Try.prog 32 #[.agg #[.int .i64 a0_0, .int .i64 a0_1, .int .i64 a0_2, .slice A0_3 l0_3.length c0_3]] w fun e w' => ∃ v0_ : Value, e = .returned (v0_) ∧ Kd.R (Kd.int .i64) 3 w' w.heap.size (fun _ => True) v0_ r ∧ Below w.heap.size w w' := by
 have hu36 := Try.underlying36
 have hu53 := Try.underlying53
 have HR0_3 := Aside0.mk hr0_3
 have HC0_3 := Aside0.mk hc0_3
 clear hr0_3 hc0_3
 have HB := Aside0.mk (Below.refl w.heap.size w)
 have H := h
 unfold spec_Shadowed.f at H
 clear h
 obtain ⟨y760, hy760⟩ : ∃ y_ : List Int, y_ = (([] : List Int)) := ⟨_, rfl⟩
 replace H : ((spec_PolicyOk.f k a0_0 a0_1 a0_2 l0_3).bind fun t763 => (if t763 = true then (spec_Shadowed.l0 k y760 0 a0_0 a0_1 a0_2 l0_3) else (some y760))) = some r := rp_ H hy760
 have Ny760 := Aside0.mk hy760
 clear hy760
 replace H := bs_ H
 obtain ⟨t763, A2, H⟩ := H
 try dsimp only at H
 by_cases c3 : t763 = true
 rotate_left
 ·replace c3 := Bool.eq_false_iff.mpr c3
  subst c3
  rw [nf_] at H
  obtain rfl := Option.some.inj H
  go_enter Try.func32, Try.ntmps32
  go_wp2_with (first | ((with_reducible refine gate_dst (N := 1) rfl ?_); refine bx_ 1 36 #[.int .i64 a0_0, .int .i64 a0_1, .int .i64 a0_2, .slice A0_3 l0_3.length c0_3] ?_; intro gb759 hg w25 hbox hb; have BK759 := Aside0.mk (hbox); have GW759 := Aside0.mk ((hz_ : w.heap.size ≤ gb759)); have GE759 := GW759; replace HB := Aside0.mk (below_step bl_ hb); clear hb hbox hg) | ((with_reducible refine gate_dst (N := 7) rfl ?_); refine Kd.R_lit (Kd.int .i64) _ 3 ?hg (N := 7) ?hd (xs := ([] : List Int)) (inner := []) (ok := fun _ => True) (okp := fun _ => True) ?hr ?hp (fun _ hk => hk) trivial (Below.refl _ _) (Nat.le_refl _) (by simp) ?_; (case hd => rfl); (case hg => rfl); (case hr => first | (go_simp; done) | (go_simp; rfl)); (case hp => exact (Reps.none _ _)); intro v761 w26 ho27 hb hg_ hnew_; clear hg_ hnew_; (first | rw [← Ny760.out] at ho27 | (simp only [Int.reduceToNat] at ho27; rw [← Ny760.out] at ho27)); have HO762 := Aside0.mk (Kd.R_lower ho27 (below_size bl_)); replace BK759 := bb0_ BK759.out hb; replace HB := Aside0.mk (below_step bl_ hb); clear hb ho27; obtain ⟨hcz28_0, hcz28_1, hcz28_2, hcz28_3, hfz28_0, hfz28_1, hfz28_2, hfz28_3⟩ := cf4_ BK759.out) | ((with_reducible refine gate_callee (f := 27) rfl ?_); refine gs_ (some 9) Try.func27 #[.agg #[.int .i64 a0_0, .int .i64 a0_1, .int .i64 a0_2, .slice A0_3 l0_3.length c0_3]] ?_; (with_reducible refine (spec_PolicyOk.calls k a0_0 a0_1 a0_2 _ _ l0_3 false _ ?side1 ?side2 A2.out).mono ?_); (case side1 => exact cb_ HR0_3.out HB.out); (case side2 => exact HC0_3.out); rintro e w29 ⟨rfl, hb⟩; refine ⟨_, rfl, ?_⟩; replace HO762 := Aside0.mk (Kd.R_below (ra_ HO762.out) hb); replace BK759 := bb0_ BK759.out hb; replace HB := Aside0.mk (below_step bl_ hb); (try clear hb)))
  go_ret
  exact ⟨_, er_, ra_ HO762.out, bl_⟩
 subst c3
 rw [if_pos rfl] at H
 have H' := Aside0.mk H
 clear H
 go_enter Try.func32, Try.ntmps32
 go_wp2_with (first | ((with_reducible refine gate_dst (N := 1) rfl ?_); refine bx_ 1 36 #[.int .i64 a0_0, .int .i64 a0_1, .int .i64 a0_2, .slice A0_3 l0_3.length c0_3] ?_; intro gb759 hg w4 hbox hb; have BK759 := Aside0.mk (hbox); have GW759 := Aside0.mk ((hz_ : w.heap.size ≤ gb759)); have GE759 := GW759; replace HB := Aside0.mk (below_step bl_ hb); clear hb hbox hg) | ((with_reducible refine gate_dst (N := 7) rfl ?_); refine Kd.R_lit (Kd.int .i64) _ 3 ?hg (N := 7) ?hd (xs := ([] : List Int)) (inner := []) (ok := fun _ => True) (okp := fun _ => True) ?hr ?hp (fun _ hk => hk) trivial (Below.refl _ _) (Nat.le_refl _) (by simp) ?_; (case hd => rfl); (case hg => rfl); (case hr => first | (go_simp; done) | (go_simp; rfl)); (case hp => exact (Reps.none _ _)); intro v761 w5 ho6 hb hg_ hnew_; clear hg_ hnew_; (first | rw [← Ny760.out] at ho6 | (simp only [Int.reduceToNat] at ho6; rw [← Ny760.out] at ho6)); have HO762 := Aside0.mk (Kd.R_lower ho6 (below_size bl_)); replace BK759 := bb0_ BK759.out hb; replace HB := Aside0.mk (below_step bl_ hb); clear hb ho6; obtain ⟨hcz7_0, hcz7_1, hcz7_2, hcz7_3, hfz7_0, hfz7_1, hfz7_2, hfz7_3⟩ := cf4_ BK759.out) | ((with_reducible refine gate_callee (f := 27) rfl ?_); refine gs_ (some 9) Try.func27 #[.agg #[.int .i64 a0_0, .int .i64 a0_1, .int .i64 a0_2, .slice A0_3 l0_3.length c0_3]] ?_; (with_reducible refine (spec_PolicyOk.calls k a0_0 a0_1 a0_2 _ _ l0_3 true _ ?side1 ?side2 A2.out).mono ?_); (case side1 => exact cb_ HR0_3.out HB.out); (case side2 => exact HC0_3.out); rintro e w8 ⟨rfl, hb⟩; refine ⟨_, rfl, ?_⟩; replace HO762 := Aside0.mk (Kd.R_below (ra_ HO762.out) hb); replace BK759 := bb0_ BK759.out hb; replace HB := Aside0.mk (below_step bl_ hb); (try clear hb)))
 go_loopg [3, 4] k (fun kq v3 v4 w' => ∃ (x3_1 : List Int) (x4_1 : Int), v4 = .int .i64 x4_1 ∧ Aside0 (spec_Shadowed.l0 kq x3_1 x4_1 a0_0 a0_1 a0_2 l0_3 = some r) ∧ Aside0 (kq ≤ k) ∧ Aside0 (Kd.R (Kd.int .i64) 3 w' w.heap.size (fun _ => True) v3 x3_1) ∧ Aside0 (w'.heap[gb759]? = some (.cells #[.int .i64 a0_0, .int .i64 a0_1, .int .i64 a0_2, (.slice A0_3 l0_3.length c0_3)] 36 (0, 0))) ∧ Aside0 (Below w.heap.size w w'))
 case atStart => exact ⟨(y760), (0), (sr_), H', ⟨Nat.le_refl _⟩, ⟨ra_ HO762.out⟩, ⟨bk_ BK759.out⟩, ⟨bl_⟩⟩
 clear H'
 try clear c3
 try clear hcz7_0
 try clear hcz7_1
 try clear hcz7_2
 try clear hcz7_3
 try clear hfz7_0
 try clear hfz7_1
 try clear hfz7_2
 try clear hfz7_3
 obtain ⟨x3_1, x4_1, rfl, HA, HK1, HO_3, BK759, HB⟩ := hrel
 cases gk with
 | zero => exact absurd HA.out (by simp [spec_Shadowed.l0])
 | succ k1 => ?_
 have H := HA.out
 clear HA
 simp only [spec_Shadowed.l0] at H
 by_cases c9 : x4_1 < (l0_3.length : Int)
 rotate_left
 ·rw [if_neg c9] at H
  have c9b0 := decide_eq_false c9
  clear c9
  obtain rfl := Option.some.inj H
  obtain ⟨hcz24_0, hcz24_1, hcz24_2, hcz24_3, hfz24_0, hfz24_1, hfz24_2, hfz24_3⟩ := cf4_ BK759.out
  go_wp2
  go_ret
  exact ⟨_, er_, ra_ HO_3.out, bl_⟩
 rw [if_pos c9] at H
 have c9b0 := decide_eq_true c9
 clear c9
 have H' := Aside0.mk H
 clear H
 obtain ⟨hcz10_0, hcz10_1, hcz10_2, hcz10_3, hfz10_0, hfz10_1, hfz10_2, hfz10_3⟩ := cf4_ BK759.out
 go_wp2
 go_loopg [5, 6] k1 (fun kq v5 v6 w' => ∃ (x5_2 : Bool) (x6_2 : Int), v5 = .bool x5_2 ∧ v6 = .int .i64 x6_2 ∧ Aside0 (spec_Shadowed.l1 kq x3_1 x4_1 x5_2 x6_2 a0_0 a0_1 a0_2 l0_3 = some r) ∧ Aside0 (kq ≤ k1) ∧ Aside0 (Kd.R (Kd.int .i64) 3 w' w.heap.size (fun _ => True) u3 x3_1) ∧ Aside0 (w'.heap[gb759]? = some (.cells #[.int .i64 a0_0, .int .i64 a0_1, .int .i64 a0_2, (.slice A0_3 l0_3.length c0_3)] 36 (0, 0))) ∧ Aside0 (Below w.heap.size w w'))
 case atStart => exact ⟨(false), (0), (sr_), (sr_), H', ⟨Nat.le_refl _⟩, ⟨ra_ HO_3.out⟩, ⟨bk_ BK759.out⟩, ⟨bl_⟩⟩
 clear H'
 try clear c3
 try clear c9
 try clear c9b0
 try clear hcz10_0
 try clear hcz10_1
 try clear hcz10_2
 try clear hcz10_3
 try clear hcz7_0
 try clear hcz7_1
 try clear hcz7_2
 try clear hcz7_3
 try clear hfz10_0
 try clear hfz10_1
 try clear hfz10_2
 try clear hfz10_3
 try clear hfz7_0
 try clear hfz7_1
 try clear hfz7_2
 try clear hfz7_3
 obtain ⟨x5_2, x6_2, rfl, rfl, HA, HK2, HO_3, BK759, HB⟩ := hrel
 cases gk with
 | zero => exact absurd HA.out (by simp [spec_Shadowed.l1])
 | succ k2 => ?_
 have H := HA.out
 clear HA
 simp only [spec_Shadowed.l1] at H
 by_cases c11 : x6_2 < x4_1
 rotate_left
 ·rw [if_neg c11] at H
  have c11b0 := decide_eq_false c11
  clear c11
  by_cases c21 : x5_2 = true
  rotate_left
  ·replace c21 := Bool.eq_false_iff.mpr c21
   subst c21
   rw [nf_] at H
   have H' := Aside0.mk H
   clear H
   go_wp2
   go_roundg k2
   case measure => have := HK1.out; have := HK2.out; omega
   case rel => exact ⟨(x3_1), (wrap64 (x4_1 + 1)), (sr_), H', ⟨by have := HK1.out; have := HK2.out; omega⟩, ⟨ra_ HO_3.out⟩, ⟨bk_ BK759.out⟩, ⟨bl_⟩⟩
  subst c21
  rw [if_pos rfl] at H
  by_cases c22 : x3_1.length < 17592186044416
  rotate_left
  ·exact nn_ c22 H
  rw [if_pos c22] at H
  have LMc22 := Aside0.mk c22
  clear c22
  obtain ⟨y767, hy767⟩ : ∃ y_ : List Int, y_ = (x3_1 ++ [x4_1]) := ⟨_, rfl⟩
  replace H : (spec_Shadowed.l0 k2 y767 (wrap64 (x4_1 + 1)) a0_0 a0_1 a0_2 l0_3) = some r := rp_ H hy767
  have Ny767 := Aside0.mk hy767
  clear hy767
  have H' := Aside0.mk H
  clear H
  go_wp2_with (first | ((with_reducible refine gate_builtin (b := .append) (xs := #[.tmp 39, .tmp 41]) rfl ?_); at_builtin; refine Kd.R_append (Kd.int .i64) (w0 := w) w.heap.size rfl (.tmp 39) (.tmp 41) 32 3 (.int .i64 0) 8 rfl Try.underlying32 info3 rfl (by decide) (by omega) u3 x3_1 x4_1 [.int .i64 x4_1] (fun _ => True) (fun _ => False) rfl rfl ?aP (fun _ hk => hk.elim) ?aF ?aO ?aB ?aS ?aL ?_; (case aP => exact rfl); (case aB => exact bl_); (case aF => exact (fun _ _ => trivial)); (case aO => exact (ra_ HO_3.out)); (case aS => exact (below_size bl_)); (case aL => have := LMc22.out; omega); intro v768 w23 ho hb hg hat; rw [← Ny767.out] at ho; replace BK759 := Aside0.mk (blk_grown (g := gb759) (o := .cells #[.int .i64 a0_0, .int .i64 a0_1, .int .i64 a0_2, .slice A0_3 l0_3.length c0_3] 36 (0, 0)) (bk_ BK759.out) hg (Kd.R_ne HO_3.out BK759.out (by decide))); replace HB := Aside0.mk (hb); have HO769 := Aside0.mk (ho); clear HO_3; clear ho hb hg hat))
  go_roundg k2
  case measure => have := HK1.out; have := HK2.out; omega
  case rel => exact ⟨(y767), (wrap64 (x4_1 + 1)), (sr_), H', ⟨by have := HK1.out; have := HK2.out; omega⟩, ⟨ra_ HO769.out⟩, ⟨bk_ BK759.out⟩, ⟨bl_⟩⟩
 rw [if_pos c11] at H
 have c11b0 := decide_eq_true c11
 clear c11
 by_cases c12 : x5_2 = true
 ·subst c12
  rw [if_pos rfl] at H
  have H' := Aside0.mk H
  clear H
  try go_wp2
  have n0_ := Aside0.mk (Kd.R_drew HO_3.out)
  have n1_ := Aside0.mk (blk_drew BK759.out)
  have n2_ := Aside0.mk (below_drew1 HB.out)
  clear HO_3
  clear BK759
  clear HB
  have HO_3 := n0_
  have BK759 := n1_
  have HB := n2_
  clear n0_ n1_ n2_
  refine start_ (n := 15) (S := fun w' => True) (ds := []) #[false, false, false, false, false, false, false, false, false, false, false, false, false, false, false] (by kernel_rfl) rfl rfl trivial (fun hHeld => ?_); refine with_tabW spec_Shadowed.tab11 spec_Shadowed.bits11 (fun HT_ HW_ => ?_)
  generalize wr.drew = w13 at HO_3 BK759 HB hHeld ⊢
  refine pu_ 0 24 HT_ ?_
  refine pu_ 1 25 HT_ ?_
  refine pn_ 2 26 HT_ ?_
  refine pn_ 3 27 HT_ ?_
  refine pn_ 4 28 HT_ ?_
  refine pn_ 5 29 HT_ ?_
  refine pn_ 6 30 HT_ ?_
  refine pn_ 7 31 HT_ ?_
  refine pn_ 8 32 HT_ ?_
  refine pn_ 9 33 HT_ ?_
  refine pn_ 10 34 HT_ ?_
  refine pn_ 11 35 HT_ ?_
  refine pn_ 12 36 HT_ ?_
  refine pu_ 13 37 HT_ ?_
  refine pu_ 14 5 HT_ ?_
  refine done_ (done_of HT_.out (by kernel_rfl)) ?_
  try go_wp2
  go_roundg k2
  case measure => have := HK1.out; have := HK2.out; omega
  case rel => exact ⟨(true), (wrap64 (x6_2 + 1)), (sr_), (sr_), H', ⟨by have := HK1.out; have := HK2.out; omega⟩, ⟨ra_ HO_3.out⟩, ⟨bk_ BK759.out⟩, ⟨bl_⟩⟩
 replace c12 := Bool.eq_false_iff.mpr c12
 subst c12
 rw [nf_] at H
 by_cases c14 : 0 ≤ x6_2
 rotate_left
 ·exact nn_ c14 H
 rw [if_pos c14] at H
 have c14b0 := decide_eq_true c14
 clear c14
 by_cases c15 : x6_2 < (l0_3.length : Int)
 rotate_left
 ·exact nn_ c15 H
 rw [if_pos c15] at H
 have c15b0 := decide_eq_true c15
 clear c15
 by_cases c16 : 0 ≤ x4_1
 rotate_left
 ·exact nn_ c16 H
 rw [if_pos c16] at H
 have c16b0 := decide_eq_true c16
 clear c16
 by_cases c17 : x4_1 < (l0_3.length : Int)
 rotate_left
 ·exact nn_ c17 H
 rw [if_pos c17] at H
 have c17b0 := decide_eq_true c17
 clear c17
 replace H := bs_ H
 obtain ⟨t766, A18, H⟩ := H
 try dsimp only at H
 have H' := Aside0.mk H
 clear H
 try go_wp2
 have n0_ := Aside0.mk (Kd.R_drew HO_3.out)
 have n1_ := Aside0.mk (blk_drew BK759.out)
 have n2_ := Aside0.mk (below_drew1 HB.out)
 clear HO_3
 clear BK759
 clear HB
 have HO_3 := n0_
 have BK759 := n1_
 have HB := n2_
 clear n0_ n1_ n2_
 have p764 : 0 ≤ (x6_2 : Int) := of_decide_eq_true as_
 have q764 : x6_2 < (l0_3.length : Int) := of_decide_eq_true as_
 obtain ⟨ad764, A764_0, c764_0, A764_1, c764_1, e764, hx764_0, hx764_1, hx764_2, hx764_3, hl764_0, hi764_0, hl764_1, hi764_1⟩ := at_T53 HR0_3.out x6_2 p764 q764
 have hw764_3 := hx764_3
 have hw764_2 := hx764_2
 have hw764_1 := hx764_1
 have hw764_0 := hx764_0
 cases e764
 replace hx764_0 := (HB.out.cell (World.block_lt_of_cell? w _ hx764_0)).trans hx764_0
 replace hx764_1 := (HB.out.cell (World.block_lt_of_cell? w _ hx764_1)).trans hx764_1
 replace hx764_2 := (HB.out.cell (World.block_lt_of_cell? w _ hx764_2)).trans hx764_2
 replace hx764_3 := (HB.out.cell (World.block_lt_of_cell? w _ hx764_3)).trans hx764_3
 have HR764_0 := Aside0.mk hi764_0
 have HC764_0 := Aside0.mk hl764_0
 clear hi764_0 hl764_0
 have HR764_1 := Aside0.mk hi764_1
 have HC764_1 := Aside0.mk hl764_1
 clear hi764_1 hl764_1
 replace p764 := eq_true p764
 replace q764 := eq_true q764
 have p765 : 0 ≤ (x4_1 : Int) := of_decide_eq_true as_
 have q765 : x4_1 < (l0_3.length : Int) := of_decide_eq_true as_
 obtain ⟨ad765, A765_0, c765_0, A765_1, c765_1, e765, hx765_0, hx765_1, hx765_2, hx765_3, hl765_0, hi765_0, hl765_1, hi765_1⟩ := at_T53 HR0_3.out x4_1 p765 q765
 have hw765_3 := hx765_3
 have hw765_2 := hx765_2
 have hw765_1 := hx765_1
 have hw765_0 := hx765_0
 obtain rfl : ad764 = ad765 := (by injection e765)
 replace hx765_0 := (HB.out.cell (World.block_lt_of_cell? w _ hx765_0)).trans hx765_0
 replace hx765_1 := (HB.out.cell (World.block_lt_of_cell? w _ hx765_1)).trans hx765_1
 replace hx765_2 := (HB.out.cell (World.block_lt_of_cell? w _ hx765_2)).trans hx765_2
 replace hx765_3 := (HB.out.cell (World.block_lt_of_cell? w _ hx765_3)).trans hx765_3
 have HR765_0 := Aside0.mk hi765_0
 have HC765_0 := Aside0.mk hl765_0
 clear hi765_0 hl765_0
 have HR765_1 := Aside0.mk hi765_1
 have HC765_1 := Aside0.mk hl765_1
 clear hi765_1 hl765_1
 replace p765 := eq_true p765
 replace q765 := eq_true q765
 refine start_ (n := 15) (S := fun w' => w'.cell? ⟨gb759, 0, none⟩ = some (.int .i64 a0_0) ∧ w'.cell? ⟨gb759, 1, none⟩ = some (.int .i64 a0_1) ∧ w'.cell? ⟨gb759, 2, none⟩ = some (.int .i64 a0_2) ∧ w'.cell? ⟨gb759, 3, none⟩ = some (.slice (some ad764) l0_3.length c0_3) ∧ w'.cell? (ad764.add ((x6_2).toNat * 4)) = some (.slice A764_0 ((rd_T53 l0_3 x6_2).f0).length c764_0) ∧ w'.cell? ⟨(ad764.add ((x6_2).toNat * 4)).block, (ad764.add ((x6_2).toNat * 4)).off + 1, none⟩ = some (.slice A764_1 ((rd_T53 l0_3 x6_2).f1).length c764_1) ∧ w'.cell? ⟨(ad764.add ((x6_2).toNat * 4)).block, (ad764.add ((x6_2).toNat * 4)).off + 2, none⟩ = some (.int .i64 ((rd_T53 l0_3 x6_2).f2)) ∧ w'.cell? ⟨(ad764.add ((x6_2).toNat * 4)).block, (ad764.add ((x6_2).toNat * 4)).off + 3, none⟩ = some (.int .i64 ((rd_T53 l0_3 x6_2).f3)) ∧ w'.cell? (ad764.add ((x4_1).toNat * 4)) = some (.slice A765_0 ((rd_T53 l0_3 x4_1).f0).length c765_0) ∧ w'.cell? ⟨(ad764.add ((x4_1).toNat * 4)).block, (ad764.add ((x4_1).toNat * 4)).off + 1, none⟩ = some (.slice A765_1 ((rd_T53 l0_3 x4_1).f1).length c765_1) ∧ w'.cell? ⟨(ad764.add ((x4_1).toNat * 4)).block, (ad764.add ((x4_1).toNat * 4)).off + 2, none⟩ = some (.int .i64 ((rd_T53 l0_3 x4_1).f2)) ∧ w'.cell? ⟨(ad764.add ((x4_1).toNat * 4)).block, (ad764.add ((x4_1).toNat * 4)).off + 3, none⟩ = some (.int .i64 ((rd_T53 l0_3 x4_1).f3))) (ds := []) #[false, false, false, false, false, false, false, false, false, false, false, false, false, false, false] (by kernel_rfl) rfl rfl ⟨(blk_cell BK759.out 0).trans rfl, (blk_cell BK759.out 1).trans rfl, (blk_cell BK759.out 2).trans rfl, (blk_cell BK759.out 3).trans rfl, ((HB.out.cell (World.block_lt_of_cell? w _ hw764_0)).trans hw764_0), ((HB.out.cell (World.block_lt_of_cell? w _ hw764_1)).trans hw764_1), ((HB.out.cell (World.block_lt_of_cell? w _ hw764_2)).trans hw764_2), ((HB.out.cell (World.block_lt_of_cell? w _ hw764_3)).trans hw764_3), ((HB.out.cell (World.block_lt_of_cell? w _ hw765_0)).trans hw765_0), ((HB.out.cell (World.block_lt_of_cell? w _ hw765_1)).trans hw765_1), ((HB.out.cell (World.block_lt_of_cell? w _ hw765_2)).trans hw765_2), ((HB.out.cell (World.block_lt_of_cell? w _ hw765_3)).trans hw765_3)⟩ (fun hHeld => ?_); refine with_tabW spec_Shadowed.tab11 spec_Shadowed.bits11 (fun HT_ HW_ => ?_)
 generalize wr.drew = w19 at HO_3 BK759 HB HR764_0 HR764_1 HR765_0 HR765_1 hx764_0 hx764_1 hx764_2 hx764_3 hx765_0 hx765_1 hx765_2 hx765_3 hHeld ⊢
 refine pu_ 0 24 HT_ ?_
 refine pu_ 1 25 HT_ ?_
 refine pu_ 2 26 HT_ ?_
 refine pu_ 4 28 HT_ ?_
 refine pu_ 7 31 HT_ ?_
 refine pu_ 9 33 HT_ ?_
 refine ta_ 3 27 HT_ HW_ hHeld ?_ (r := by rintro w' ⟨s0, s1, s2, s3, s4, s5, s6, s7, s8, s9, s10, s11⟩; go_simp; with_reducible rfl)
 refine pu_ 5 29 HT_ ?_
 refine ta_ 6 30 HT_ HW_ hHeld ?_ (r := by rintro w' ⟨s0, s1, s2, s3, s4, s5, s6, s7, s8, s9, s10, s11⟩; go_simp; with_reducible rfl)
 refine ta_ 8 32 HT_ HW_ hHeld ?_ (r := by rintro w' ⟨s0, s1, s2, s3, s4, s5, s6, s7, s8, s9, s10, s11⟩; go_simp; with_reducible rfl)
 refine pu_ 10 34 HT_ ?_
 refine ta_ 11 35 HT_ HW_ hHeld ?_ (r := by rintro w' ⟨s0, s1, s2, s3, s4, s5, s6, s7, s8, s9, s10, s11⟩; go_simp; with_reducible rfl)
 refine on_ 12 36 HT_ (fun K hK => ?_)
 refine goes_ Try.func81 (by kernel_rfl) rfl #[.agg #[.slice A764_0 ((rd_T53 l0_3 x6_2).f0).length c764_0, .slice A764_1 ((rd_T53 l0_3 x6_2).f1).length c764_1, .int .i64 ((rd_T53 l0_3 x6_2).f2), .int .i64 ((rd_T53 l0_3 x6_2).f3)], .agg #[.slice A765_0 ((rd_T53 l0_3 x4_1).f0).length c765_0, .slice A765_1 ((rd_T53 l0_3 x4_1).f1).length c765_1, .int .i64 ((rd_T53 l0_3 x4_1).f2), .int .i64 ((rd_T53 l0_3 x4_1).f3)]] (by rfl) rfl rfl lm_ ?_
 with_reducible refine (spec_l24Covers.calls k2 _ _ ((rd_T53 l0_3 x6_2).f0) _ _ ((rd_T53 l0_3 x6_2).f1) ((rd_T53 l0_3 x6_2).f2) ((rd_T53 l0_3 x6_2).f3) _ _ ((rd_T53 l0_3 x4_1).f0) _ _ ((rd_T53 l0_3 x4_1).f1) ((rd_T53 l0_3 x4_1).f2) ((rd_T53 l0_3 x4_1).f3) t766 _ ?side1 ?side2 ?side3 ?side4 ?side5 ?side6 ?side7 ?side8 A18.out).mono ?_
 (case side1 => exact cb_ HR764_0.out HB.out)
 (case side2 => exact HC764_0.out)
 (case side3 => exact cb_ HR764_1.out HB.out)
 (case side4 => exact HC764_1.out)
 (case side5 => exact cb_ HR765_0.out HB.out)
 (case side6 => exact HC765_0.out)
 (case side7 => exact cb_ HR765_1.out HB.out)
 (case side8 => exact HC765_1.out)
 rintro e w20 ⟨rfl, hb⟩
 refine ⟨_, rfl, ?_⟩
 have n0_ := Aside0.mk (Kd.R_below (ra_ HO_3.out) hb)
 have n1_ := bb0_ BK759.out hb
 have n2_ := Aside0.mk (below_step bl_ hb)
 clear HO_3
 clear BK759
 clear HB
 have HO_3 := n0_
 have BK759 := n1_
 have HB := n2_
 clear n0_ n1_ n2_
 (try clear hb)
 (try clear hb2)
 (try clear hk)
 (try clear hi)
 refine hK.out _ _ ⟨(blk_cell BK759.out 0).trans rfl, (blk_cell BK759.out 1).trans rfl, (blk_cell BK759.out 2).trans rfl, (blk_cell BK759.out 3).trans rfl, ((HB.out.cell (World.block_lt_of_cell? w _ hw764_0)).trans hw764_0), ((HB.out.cell (World.block_lt_of_cell? w _ hw764_1)).trans hw764_1), ((HB.out.cell (World.block_lt_of_cell? w _ hw764_2)).trans hw764_2), ((HB.out.cell (World.block_lt_of_cell? w _ hw764_3)).trans hw764_3), ((HB.out.cell (World.block_lt_of_cell? w _ hw765_0)).trans hw765_0), ((HB.out.cell (World.block_lt_of_cell? w _ hw765_1)).trans hw765_1), ((HB.out.cell (World.block_lt_of_cell? w _ hw765_2)).trans hw765_2), ((HB.out.cell (World.block_lt_of_cell? w _ hw765_3)).trans hw765_3)⟩ (fun hHeld => ?_)
 clear hK K
 refine norm_ (a' := ?_) ?_ ?_
 rotate_left
 ·show Act.put _ (some 36) _ = _
  simp only [Act.put, List.setIfInBounds_toArray, List.set_cons_zero, List.set_cons_succ, i64_w, i32_w]
  rfl
 refine pu_ 13 37 HT_ ?_
 refine pu_ 14 5 HT_ ?_
 refine done_ (done_of HT_.out (by kernel_rfl)) ?_
 try go_wp2
 go_roundg k2
 case measure => have := HK1.out; have := HK2.out; omega
 case rel => exact ⟨(t766), (wrap64 (x6_2 + 1)), (sr_), (sr_), H', ⟨by have := HK1.out; have := HK2.out; omega⟩, ⟨ra_ HO_3.out⟩, ⟨bk_ BK759.out⟩, ⟨bl_⟩⟩


def spec_l10Same.l0 : Nat → List Int → List Int → Int → Option (Bool)
 | 0, _, _, _ => none
 | k + 1, x0, x1, x5 => if x5 < (x0.length : Int) then (if 0 ≤ x5 then (if x5 < (x1.length : Int) then (if (rd x0 x5) = (rd x1 x5) then (spec_l10Same.l0 k x0 x1 (wrap64 (x5 + 1))) else (some false)) else (none)) else (none)) else (some true)
def spec_l10Same.f (k : Nat) (l0 : List Int) (l1 : List Int) : Option (Bool) := if (l0.length : Int) = (l1.length : Int) then (spec_l10Same.l0 k l0 l1 0) else (some false)
theorem spec_l10Same.mono_l : ∀ k, (∀ y0 y1 y2, LeO (spec_l10Same.l0 k y0 y1 y2) (spec_l10Same.l0 (k + 1) y0 y1 y2))
 | 0 => fun _ _ _ r h => by simp [spec_l10Same.l0] at h
 | k + 1 => by
  have ih0 := spec_l10Same.mono_l k
  ·intro y0 y1 y2
   unfold spec_l10Same.l0
   exact mo_
theorem spec_l10Same.mono : ∀ a0 a1 k, LeO (spec_l10Same.f k a0 a1) (spec_l10Same.f (k + 1) a0 a1) := by
 intro a0 a1 k
 have ih0 := spec_l10Same.mono_l k
 unfold spec_l10Same.f
 exact mo_
theorem spec_l10Same.calls (k : Nat) (A0 : Option Addr) (c0 : Nat) (l0 : List Int) (A1 : Option Addr) (c1 : Nat) (l1 : List Int) (r : Bool) (w : World) (hr0 : Kd.C (Kd.int .i64) w A0 l0.length l0) (hc0 : l0.length ≤ c0) (hr1 : Kd.C (Kd.int .i64) w A1 l1.length l1) (hc1 : l1.length ≤ c1) (h : spec_l10Same.f k l0 l1 = some r) :
 Calls Try.prog 82 #[.slice A0 l0.length c0, .slice A1 l1.length c1] w fun e w' => e = .returned (.bool r) ∧ Drawn0 w w' := by
 have HR0 := Aside0.mk hr0
 have HC0 := Aside0.mk hc0
 clear hr0 hc0
 have HR1 := Aside0.mk hr1
 have HC1 := Aside0.mk hc1
 clear hr1 hc1
 have H := h
 unfold spec_l10Same.f at H
 clear h
 by_cases c3 : (l0.length : Int) = (l1.length : Int)
 rotate_left
 ·rw [if_neg c3] at H
  have c3b0 : ((l0.length : Int) == (l1.length : Int)) = false := beq_eq_false_iff_ne.mpr c3
  have c3b1 : ((l0.length : Int) != (l1.length : Int)) = true := bne_iff_ne.mpr c3
  have c3b2 : (l0.length == l1.length) = false := by first | simpa using c3 | (simp at c3 ⊢; omega)
  obtain rfl := Option.some.inj H
  go_enter Try.func82, Try.ntmps82
  go_wp2
  repeat (go_quiet (fail); try go_wp2)
  go_ret
  exact ⟨sr_, by repeat (first | exact Drawn0.refl _ | apply Drawn0.step)⟩
 rw [if_pos c3] at H
 have c3b0 : ((l0.length : Int) == (l1.length : Int)) = true := beq_iff_eq.mpr c3
 have c3b1 : ((l0.length : Int) != (l1.length : Int)) = false := bne_eq_false_iff_eq.mpr c3
 have c3b2 : (l0.length == l1.length) = true := by first | simpa using c3 | (simp at c3 ⊢; omega)
 clear c3
 have H' := Aside0.mk H
 clear H
 go_enter Try.func82, Try.ntmps82
 go_wp2
 repeat (go_quiet (fail); try go_wp2)
 go_loopg [5] k (fun kq v5 w' => ∃ (x5_1 : Int), v5 = .int .i64 x5_1 ∧ Aside0 (spec_l10Same.l0 kq l0 l1 x5_1 = some r) ∧ Aside0 (kq ≤ k) ∧ Drawn0 w w')
 case atStart => exact ⟨(0), (sr_), H', ⟨Nat.le_refl _⟩, by repeat (first | exact Drawn0.refl _ | apply Drawn0.step)⟩
 clear H'
 try clear c1
 try clear c3
 try clear c3b0
 try clear c3b1
 try clear c3b2
 obtain ⟨x5_1, rfl, HA, HK1, ⟨m1, rfl⟩⟩ := hrel
 cases gk with
 | zero => exact absurd HA.out (by simp [spec_l10Same.l0])
 | succ k1 => ?_
 have H := HA.out
 clear HA
 simp only [spec_l10Same.l0] at H
 by_cases c4 : x5_1 < (l0.length : Int)
 rotate_left
 ·rw [if_neg c4] at H
  have c4b0 := decide_eq_false c4
  clear c4
  obtain rfl := Option.some.inj H
  go_wp2
  repeat (go_quiet (fail); try go_wp2)
  go_ret
  exact ⟨sr_, by repeat (first | exact Drawn0.refl _ | apply Drawn0.step)⟩
 rw [if_pos c4] at H
 have c4b0 := decide_eq_true c4
 clear c4
 by_cases c5 : 0 ≤ x5_1
 rotate_left
 ·exact nn_ c5 H
 rw [if_pos c5] at H
 have c5b0 := decide_eq_true c5
 clear c5
 by_cases c6 : x5_1 < (l1.length : Int)
 rotate_left
 ·exact nn_ c6 H
 rw [if_pos c6] at H
 have c6b0 := decide_eq_true c6
 clear c6
 by_cases c7 : (rd l0 x5_1) = (rd l1 x5_1)
 rotate_left
 ·rw [if_neg c7] at H
  have c7b0 : ((rd l0 x5_1) == (rd l1 x5_1)) = false := beq_eq_false_iff_ne.mpr c7
  have c7b1 : ((rd l0 x5_1) != (rd l1 x5_1)) = true := bne_iff_ne.mpr c7
  obtain rfl := Option.some.inj H
  have p770 : 0 ≤ (x5_1 : Int) := of_decide_eq_true as_
  have q770 : x5_1 < (l0.length : Int) := of_decide_eq_true as_
  obtain ⟨ad770, e770, hx770_0⟩ := Kd.at_int HR0.out x5_1 p770 q770
  cases e770
  replace p770 := eq_true p770
  replace q770 := eq_true q770
  have p771 : 0 ≤ (x5_1 : Int) := of_decide_eq_true as_
  have q771 : x5_1 < (l1.length : Int) := of_decide_eq_true as_
  obtain ⟨ad771, e771, hx771_0⟩ := Kd.at_int HR1.out x5_1 p771 q771
  cases e771
  replace p771 := eq_true p771
  replace q771 := eq_true q771
  go_wp2
  repeat (go_quiet (fail); try go_wp2)
  go_ret
  exact ⟨sr_, by repeat (first | exact Drawn0.refl _ | apply Drawn0.step)⟩
 rw [if_pos c7] at H
 have c7b0 : ((rd l0 x5_1) == (rd l1 x5_1)) = true := beq_iff_eq.mpr c7
 have c7b1 : ((rd l0 x5_1) != (rd l1 x5_1)) = false := bne_eq_false_iff_eq.mpr c7
 clear c7
 have H' := Aside0.mk H
 clear H
 have p770 : 0 ≤ (x5_1 : Int) := of_decide_eq_true as_
 have q770 : x5_1 < (l0.length : Int) := of_decide_eq_true as_
 obtain ⟨ad770, e770, hx770_0⟩ := Kd.at_int HR0.out x5_1 p770 q770
 cases e770
 replace p770 := eq_true p770
 replace q770 := eq_true q770
 have p771 : 0 ≤ (x5_1 : Int) := of_decide_eq_true as_
 have q771 : x5_1 < (l1.length : Int) := of_decide_eq_true as_
 obtain ⟨ad771, e771, hx771_0⟩ := Kd.at_int HR1.out x5_1 p771 q771
 cases e771
 replace p771 := eq_true p771
 replace q771 := eq_true q771
 go_wp2
 repeat (go_quiet (fail); try go_wp2)
 go_roundg k1
 case measure => have := HK1.out; omega
 case rel => exact ⟨(wrap64 (x5_1 + 1)), (sr_), H', ⟨by have := HK1.out; omega⟩, by repeat (first | exact Drawn0.refl _ | apply Drawn0.step)⟩

end Go.Proofs.Ytjfmpodeenidnaa.PC
