/- Contracts of functions of the program and of the reference, and plain lemmas on what they compute. No condition. -/
import Derived.Test.YtdhjolglbcoijaaDoorGe1c07x0
import Derived.Test.YtdhjolglbcoijaaDoorGd11e3x0
import Derived.Test.YtdhjolglbcoijaaDoorGf8aecx0
import Derived.Test.YtdhjolglbcoijaaDoorG5622ax0
import Derived.Test.YtdhjolglbcoijaaDoorG8b2f3x0
import Derived.Test.YtdhjolglbcoijaaDoorShortV
set_option maxHeartbeats 8000000
set_option maxRecDepth 100000
namespace Go.Proofs.YtdhjolglbcoijaaDoor.PA
open Go.RowKit Go.Proofs.YtdhjolglbcoijaaDoor.Short Go.Proofs.YtdhjolglbcoijaaDoorW.PrintWords Go.Proofs.YtdhjolglbcoijaaDoorW.PrintLast Go.Proofs.YtdhjolglbcoijaaDoorW.PrintMore
attribute [local go_sem] max2_int min2_int max_two min_two max_three min_three max_four min_four   -- for this text's walks alone
set_option linter.unusedVariables false
set_option linter.unusedSimpArgs false

mutual
def spec_SegmentOk.j0 : Nat → Bool → Int → ByteArray → List (S70) → ByteArray → Option (Bool)
 | 0, _, _, _, _, _ => none
 | k + 1, x20, x373000, x373001, x373002, x373003 => if x20 = true then (some false) else (spec_SegmentOk.l0 k 0 x373000 x373001 x373002 x373003)
def spec_SegmentOk.l0 : Nat → Int → Int → ByteArray → List (S70) → ByteArray → Option (Bool)
 | 0, _, _, _, _, _ => none
 | k + 1, x3, x373000, x373001, x373002, x373003 => if x3 < (x373002.length : Int) then (if 0 ≤ x3 then ((spec_EntryText.f k ((rd_T70 x373002 x3).f0) ((rd_T70 x373002 x3).f1) ((rd_T70 x373002 x3).f2.f0) ((rd_T70 x373002 x3).f2.f1) ((rd_T70 x373002 x3).f2.f2) ((rd_T70 x373002 x3).f2.f3)).bind fun t376 => (if t376.toList = ([] : List UInt8) then (some false) else (spec_SegmentOk.l0 k (wrap64 (x3 + 1)) x373000 x373001 x373002 x373003))) else (none)) else ((spec_HeadFrom.f k x373001 x373002).bind fun t377 => (some (x373003.toList == t377.toList)))
end
def spec_SegmentOk.f (k : Nat) (a0_0 : Int) (a0_1 : ByteArray) (l0_2 : List (S70)) (a0_3 : ByteArray) : Option (Bool) := (spec_l01In.f a0_0 0 200).bind fun t373 => (if t373 = true then (if (a0_1.size : Int) = 32 then ((spec_l01In.f (l0_2.length : Int) 1 200).bind fun t374 => (spec_SegmentOk.j0 k (!t374) a0_0 a0_1 l0_2 a0_3)) else (spec_SegmentOk.j0 k true a0_0 a0_1 l0_2 a0_3)) else (spec_SegmentOk.j0 k true a0_0 a0_1 l0_2 a0_3))
theorem spec_SegmentOk.mono_l : ∀ k, (∀ y0 y1 y2 y3 y4, LeO (spec_SegmentOk.j0 k y0 y1 y2 y3 y4) (spec_SegmentOk.j0 (k + 1) y0 y1 y2 y3 y4)) ∧ (∀ y0 y1 y2 y3 y4, LeO (spec_SegmentOk.l0 k y0 y1 y2 y3 y4) (spec_SegmentOk.l0 (k + 1) y0 y1 y2 y3 y4))
 | 0 => ⟨fun _ _ _ _ _ r h => by simp [spec_SegmentOk.j0] at h, fun _ _ _ _ _ r h => by simp [spec_SegmentOk.l0] at h⟩
 | k + 1 => by
  obtain ⟨ih0, ih1⟩ := spec_SegmentOk.mono_l k
  refine ⟨?_, ?_⟩
  ·intro y0 y1 y2 y3 y4
   unfold spec_SegmentOk.j0
   have m0 := @spec_EntryText.mono
   have m1 := @spec_HeadFrom.mono
   exact mo_
  ·intro y0 y1 y2 y3 y4
   unfold spec_SegmentOk.l0
   have m0 := @spec_EntryText.mono
   have m1 := @spec_HeadFrom.mono
   exact mo_
theorem spec_SegmentOk.mono : ∀ a0 a1 a2 a3 k, LeO (spec_SegmentOk.f k a0 a1 a2 a3) (spec_SegmentOk.f (k + 1) a0 a1 a2 a3) := by
 intro a0 a1 a2 a3 k
 obtain ⟨ih0, ih1⟩ := spec_SegmentOk.mono_l k
 unfold spec_SegmentOk.f
 have m0 := @spec_EntryText.mono
 have m1 := @spec_HeadFrom.mono
 exact mo_
def spec_SegmentOk.T8 : Bool × List (List Nat × List Nat) := (true, [([], []), ([0], [0]), ([], []), ([2], [2]), ([], []), ([4], [4]), ([3, 5], [3, 5]), ([1, 6], [1, 6]), ([7, 6, 0, 1, 2, 3, 4, 5, 6, 7], [7])])
def spec_SegmentOk.B8 : List Nat := [0, 1, 0, 4, 0, 16, 60, 127, 255]
theorem spec_SegmentOk.tab8 : rtab .any (opsOf Tryd.f18 8) = spec_SegmentOk.T8 := by kernel_rfl
theorem spec_SegmentOk.bits8 : waitsOk spec_SegmentOk.T8.2 spec_SegmentOk.B8 = true := by kernel_rfl
theorem spec_SegmentOk.calls (k : Nat) (a0_0 : Int) (a0_1 : ByteArray) (A0_2 : Option Addr) (c0_2 : Nat) (l0_2 : List (S70)) (a0_3 : ByteArray) (r : Bool) (w : World) (hr0_2 : Kd.C k70 w A0_2 l0_2.length l0_2) (hc0_2 : l0_2.length ≤ c0_2) (h : spec_SegmentOk.f k a0_0 a0_1 l0_2 a0_3 = some r) :
 Calls Tryd.prog 18 #[.agg #[.int .i64 a0_0, .string a0_1, .slice A0_2 l0_2.length c0_2, .string a0_3]] w fun e w' => e = .returned (.bool r) ∧ Below w.heap.size w w' := by
 have hu30 := Tryd.underlying30
 have hu70 := Tryd.underlying70
 have HR0_2 := Aside0.mk hr0_2
 have HC0_2 := Aside0.mk hc0_2
 clear hr0_2 hc0_2
 have HB := Aside0.mk (Below.refl w.heap.size w)
 have H := h
 unfold spec_SegmentOk.f at H
 clear h
 have HC2 := Aside0.mk H
 clear H
 go_enter Tryd.func18, Tryd.ntmps18
 go_upto_region 1 with (first | ((with_reducible refine gate_dst (N := 1) rfl ?_); (try (refine gate_guard (by rfl) ?_; dsimp only)); refine bx_ 1 30 #[.int .i64 a0_0, .string a0_1, .slice A0_2 l0_2.length c0_2, .string a0_3] ?_; intro gb372 hg w3 hbox hb; have BK372 := Aside0.mk (hbox); have GW372 := Aside0.mk ((hz_ : w.heap.size ≤ gb372)); have GE372 := Aside0.mk ((hz_ : w.heap.size ≤ gb372)); replace HB := Aside0.mk (below_step bl_ hb); clear hb hbox hg))
 (try simp only [Act.put, List.setIfInBounds_toArray, List.set_cons_zero, List.set_cons_succ])
 go_cut [20] (fun v20 wc => ∃ (kq : Nat) (x20_1 : Bool), v20 = .bool x20_1 ∧ Aside0 (spec_SegmentOk.j0 kq x20_1 a0_0 a0_1 l0_2 a0_3 = some r) ∧ Aside0 (kq ≤ k) ∧ Aside0 (wc.heap[gb372]? = some (.cells #[.int .i64 a0_0, .string a0_1, (.slice A0_2 l0_2.length c0_2), .string a0_3] 30 (0, 0))) ∧ Aside0 (Below w.heap.size w wc))
 case first =>
  have H := HC2.out
  clear HC2
  replace H := bs_ H
  obtain ⟨t373, A4, H⟩ := H
  try dsimp only at H
  by_cases c5 : t373 = true
  rotate_left
  ·replace c5 := Bool.eq_false_iff.mpr c5
   subst c5
   rw [nf_] at H
   have H' := Aside0.mk H
   clear H
   obtain ⟨hcz10_0, hcz10_1, hcz10_2, hcz10_3, hfz10_0, hfz10_1, hfz10_2, hfz10_3⟩ := cf4_ BK372.out
   go_wp2_with (first | ((with_reducible refine gate_callee (f := 70) rfl ?_); refine gs_ (some 6) Tryd.func70 #[.int .i64 a0_0, .int .i64 0, .int .i64 200] ?_; (with_reducible refine (spec_l01In.calls a0_0 0 200 false _ A4.out).mono ?_); rintro e w' ⟨rfl, ⟨nd, rfl⟩⟩; refine ⟨_, rfl, ?_⟩))
   go_meet
   case rel => exact ⟨_, (true), (sr_), H', ⟨by first | omega | exact Nat.le_refl _⟩, ⟨bk_ BK372.out⟩, ⟨bl_⟩⟩
  subst c5
  rw [if_pos rfl] at H
  by_cases c6 : (a0_1.size : Int) = 32
  rotate_left
  ·rw [if_neg c6] at H
   have c6b0 : ((a0_1.size : Int) == 32) = false := beq_eq_false_iff_ne.mpr c6
   have c6b1 : ((a0_1.size : Int) != 32) = true := bne_iff_ne.mpr c6
   (first | rw [c6b0] | (simp only [i64_w, i32_w]; rw [c6b0]) | skip)
   have H' := Aside0.mk H
   clear H
   obtain ⟨hcz9_0, hcz9_1, hcz9_2, hcz9_3, hfz9_0, hfz9_1, hfz9_2, hfz9_3⟩ := cf4_ BK372.out
   go_wp2_with (first | ((with_reducible refine gate_callee (f := 70) rfl ?_); refine gs_ (some 6) Tryd.func70 #[.int .i64 a0_0, .int .i64 0, .int .i64 200] ?_; (with_reducible refine (spec_l01In.calls a0_0 0 200 true _ A4.out).mono ?_); rintro e w' ⟨rfl, ⟨nd, rfl⟩⟩; refine ⟨_, rfl, ?_⟩))
   go_meet
   case rel => exact ⟨_, (true), (sr_), H', ⟨by first | omega | exact Nat.le_refl _⟩, ⟨bk_ BK372.out⟩, ⟨bl_⟩⟩
  rw [if_pos c6] at H
  have c6b0 : ((a0_1.size : Int) == 32) = true := beq_iff_eq.mpr c6
  have c6b1 : ((a0_1.size : Int) != 32) = false := bne_eq_false_iff_eq.mpr c6
  clear c6
  (first | rw [c6b0] | (simp only [i64_w, i32_w]; rw [c6b0]) | skip)
  replace H := bs_ H
  obtain ⟨t374, A7, H⟩ := H
  try dsimp only at H
  have H' := Aside0.mk H
  clear H
  obtain ⟨hcz8_0, hcz8_1, hcz8_2, hcz8_3, hfz8_0, hfz8_1, hfz8_2, hfz8_3⟩ := cf4_ BK372.out
  go_wp2_with (first | ((with_reducible refine gate_callee (f := 70) rfl ?_); refine gs_ (some 6) Tryd.func70 #[.int .i64 a0_0, .int .i64 0, .int .i64 200] ?_; (with_reducible refine (spec_l01In.calls a0_0 0 200 true _ A4.out).mono ?_); rintro e w' ⟨rfl, ⟨nd, rfl⟩⟩; refine ⟨_, rfl, ?_⟩) | (go_at_call 70; (with_reducible refine (spec_l01In.calls (l0_2.length : Int) 1 200 t374 _ A7.out).mono ?_); rintro e w' ⟨rfl, ⟨nd, rfl⟩⟩))
  go_meet
  case rel => exact ⟨_, (!t374), (sr_), H', ⟨by first | omega | exact Nat.le_refl _⟩, ⟨bk_ BK372.out⟩, ⟨bl_⟩⟩
 clear HC2
 obtain ⟨kq, x20_1, rfl, HA, HJ1, BK372, HB⟩ := hcut
 cases kq with
 | zero => exact absurd HA.out (by simp [spec_SegmentOk.j0])
 | succ kj1 => ?_
 have H := HA.out
 clear HA
 simp only [spec_SegmentOk.j0] at H
 by_cases c11 : x20_1 = true
 ·subst c11
  rw [if_pos rfl] at H
  obtain rfl := Option.some.inj H
  go_wp2
  go_ret
  exact ⟨er_, bl_⟩
 replace c11 := Bool.eq_false_iff.mpr c11
 subst c11
 rw [nf_] at H
 have H' := Aside0.mk H
 clear H
 go_wp2
 go_loopg [3] kj1 (fun kq v3 w' => ∃ (x3_2 : Int), v3 = .int .i64 x3_2 ∧ Aside0 (spec_SegmentOk.l0 kq x3_2 a0_0 a0_1 l0_2 a0_3 = some r) ∧ Aside0 (kq ≤ kj1) ∧ Aside0 (w'.heap[gb372]? = some (.cells #[.int .i64 a0_0, .string a0_1, (.slice A0_2 l0_2.length c0_2), .string a0_3] 30 (0, 0))) ∧ Aside0 (Below w.heap.size w w'))
 case atStart => exact ⟨(0), (sr_), H', ⟨Nat.le_refl _⟩, ⟨bk_ BK372.out⟩, ⟨bl_⟩⟩
 clear H'
 try clear c11
 obtain ⟨x3_2, rfl, HA, HK2, BK372, HB⟩ := hrel
 cases gk with
 | zero => exact absurd HA.out (by simp [spec_SegmentOk.l0])
 | succ k2 => ?_
 have H := HA.out
 clear HA
 simp only [spec_SegmentOk.l0] at H
 by_cases c12 : x3_2 < (l0_2.length : Int)
 rotate_left
 ·rw [if_neg c12] at H
  have c12b0 := decide_eq_false c12
  clear c12
  replace H := bs_ H
  obtain ⟨t377, A20, H⟩ := H
  try dsimp only at H
  obtain rfl := Option.some.inj H
  obtain ⟨hcz21_0, hcz21_1, hcz21_2, hcz21_3, hfz21_0, hfz21_1, hfz21_2, hfz21_3⟩ := cf4_ BK372.out
  try go_wp2
  have n0_ := Aside0.mk (blk_drew BK372.out)
  have n1_ := Aside0.mk (below_drew1 HB.out)
  clear BK372
  clear HB
  have BK372 := n0_
  have HB := n1_
  clear n0_ n1_
  refine start_ (n := 9) (S := fun w' => w'.cell? ⟨gb372, 0, none⟩ = some (.int .i64 a0_0) ∧ w'.cell? ⟨gb372, 1, none⟩ = some (.string a0_1) ∧ w'.cell? ⟨gb372, 2, none⟩ = some (.slice A0_2 l0_2.length c0_2) ∧ w'.cell? ⟨gb372, 3, none⟩ = some (.string a0_3)) (ds := []) #[false, false, false, false, false, false, false, false, false] (by kernel_rfl) rfl rfl ⟨(blk_cell BK372.out 0).trans rfl, (blk_cell BK372.out 1).trans rfl, (blk_cell BK372.out 2).trans rfl, (blk_cell BK372.out 3).trans rfl⟩ (fun hHeld => ?_); refine with_tabW spec_SegmentOk.tab8 spec_SegmentOk.bits8 (fun HT_ HW_ => ?_)
  generalize wr.drew = w22 at BK372 HB hHeld ⊢
  refine pu_ 0 35 HT_ ?_
  refine pu_ 2 37 HT_ ?_
  refine pu_ 4 39 HT_ ?_
  refine ta_ 1 36 HT_ HW_ hHeld ?_ (r := by rintro w' ⟨s0, s1, s2, s3⟩; go_simp; with_reducible rfl)
  refine ta_ 3 38 HT_ HW_ hHeld ?_ (r := by rintro w' ⟨s0, s1, s2, s3⟩; go_simp; with_reducible rfl)
  refine ta_ 5 40 HT_ HW_ hHeld ?_ (r := by rintro w' ⟨s0, s1, s2, s3⟩; go_simp; with_reducible rfl)
  refine on_ 6 41 HT_ (fun K hK => ?_)
  refine goes_ Tryd.func71 (by kernel_rfl) rfl #[.string a0_1, .slice A0_2 l0_2.length c0_2] (by rfl) rfl rfl lm_ ?_
  with_reducible refine (spec_HeadFrom.calls k2 a0_1 _ _ l0_2 t377 _ ?side1 ?side2 A20.out).mono ?_
  (case side1 => exact cb_ HR0_2.out HB.out)
  (case side2 => exact HC0_2.out)
  rintro e w23 ⟨rfl, hb⟩
  refine ⟨_, rfl, ?_⟩
  have n0_ := Aside0.mk (blk_below (bn0_ BK372.out) hb)
  have n1_ := Aside0.mk (below_step bl_ hb)
  clear BK372
  clear HB
  have BK372 := n0_
  have HB := n1_
  clear n0_ n1_
  (try clear hb)
  (try clear hb2)
  (try clear hk)
  (try clear hi)
  refine hK.out _ _ ⟨(blk_cell BK372.out 0).trans rfl, (blk_cell BK372.out 1).trans rfl, (blk_cell BK372.out 2).trans rfl, (blk_cell BK372.out 3).trans rfl⟩ (fun hHeld => ?_)
  clear hK K
  refine norm_ (a' := ?_) ?_ ?_
  rotate_left
  ·show Act.put _ (some 41) _ = _
   simp only [Act.put, List.setIfInBounds_toArray, List.set_cons_zero, List.set_cons_succ, i64_w, i32_w]
   rfl
  refine pu_ 7 42 HT_ ?_
  refine pu_ 8 2 HT_ ?_
  refine done_ (done_of HT_.out (by kernel_rfl)) ?_
  try go_wp2
  go_ret
  exact ⟨er_, bl_⟩
 rw [if_pos c12] at H
 have c12b0 := decide_eq_true c12
 clear c12
 by_cases c13 : 0 ≤ x3_2
 rotate_left
 ·exact nn_ c13 H
 rw [if_pos c13] at H
 have c13b0 := decide_eq_true c13
 clear c13
 replace H := bs_ H
 obtain ⟨t376, A14, H⟩ := H
 try dsimp only at H
 by_cases c15 : t376.toList = ([] : List UInt8)
 ·rw [if_pos c15] at H
  have c15b0 : (t376.toList == ([] : List UInt8)) = true := beq_iff_eq.mpr c15
  have c15b1 : (t376.toList != ([] : List UInt8)) = false := bne_eq_false_iff_eq.mpr c15
  clear c15
  obtain rfl := Option.some.inj H
  obtain ⟨hcz16_0, hcz16_1, hcz16_2, hcz16_3, hfz16_0, hfz16_1, hfz16_2, hfz16_3⟩ := cf4_ BK372.out
  have p375 : 0 ≤ (x3_2 : Int) := of_decide_eq_true as_
  have q375 : x3_2 < (l0_2.length : Int) := of_decide_eq_true as_
  obtain ⟨ad375, e375, hx375_0, hx375_1, hx375_2, hx375_3, hx375_4, hx375_5⟩ := at_T70 HR0_2.out x3_2 p375 q375
  cases e375
  replace hx375_0 := (HB.out.cell (World.block_lt_of_cell? w _ hx375_0)).trans hx375_0
  replace hx375_1 := (HB.out.cell (World.block_lt_of_cell? w _ hx375_1)).trans hx375_1
  replace hx375_2 := (HB.out.cell (World.block_lt_of_cell? w _ hx375_2)).trans hx375_2
  replace hx375_3 := (HB.out.cell (World.block_lt_of_cell? w _ hx375_3)).trans hx375_3
  replace hx375_4 := (HB.out.cell (World.block_lt_of_cell? w _ hx375_4)).trans hx375_4
  replace hx375_5 := (HB.out.cell (World.block_lt_of_cell? w _ hx375_5)).trans hx375_5
  replace p375 := eq_true p375
  replace q375 := eq_true q375
  go_wp2_with (first | ((with_reducible refine gate_callee (f := 64) rfl ?_); refine gs_ (some 33) Tryd.func64 #[.agg #[.int .i64 ((rd_T70 l0_2 x3_2).f0), .int .i64 ((rd_T70 l0_2 x3_2).f1), .int .i64 ((rd_T70 l0_2 x3_2).f2.f0), .int .i64 ((rd_T70 l0_2 x3_2).f2.f1), .int .i64 ((rd_T70 l0_2 x3_2).f2.f2), .int .i64 ((rd_T70 l0_2 x3_2).f2.f3)]] ?_; (with_reducible refine (spec_EntryText.calls k2 ((rd_T70 l0_2 x3_2).f0) ((rd_T70 l0_2 x3_2).f1) ((rd_T70 l0_2 x3_2).f2.f0) ((rd_T70 l0_2 x3_2).f2.f1) ((rd_T70 l0_2 x3_2).f2.f2) ((rd_T70 l0_2 x3_2).f2.f3) t376 _ A14.out).mono ?_); rintro e w17 ⟨rfl, hb⟩; refine ⟨_, rfl, ?_⟩; replace BK372 := Aside0.mk (blk_below (bn0_ BK372.out) hb); replace HB := Aside0.mk (below_step bl_ hb); (try clear hb)))
  go_ret
  exact ⟨er_, bl_⟩
 rw [if_neg c15] at H
 have c15b0 : (t376.toList == ([] : List UInt8)) = false := beq_eq_false_iff_ne.mpr c15
 have c15b1 : (t376.toList != ([] : List UInt8)) = true := bne_iff_ne.mpr c15
 have H' := Aside0.mk H
 clear H
 obtain ⟨hcz18_0, hcz18_1, hcz18_2, hcz18_3, hfz18_0, hfz18_1, hfz18_2, hfz18_3⟩ := cf4_ BK372.out
 have p375 : 0 ≤ (x3_2 : Int) := of_decide_eq_true as_
 have q375 : x3_2 < (l0_2.length : Int) := of_decide_eq_true as_
 obtain ⟨ad375, e375, hx375_0, hx375_1, hx375_2, hx375_3, hx375_4, hx375_5⟩ := at_T70 HR0_2.out x3_2 p375 q375
 cases e375
 replace hx375_0 := (HB.out.cell (World.block_lt_of_cell? w _ hx375_0)).trans hx375_0
 replace hx375_1 := (HB.out.cell (World.block_lt_of_cell? w _ hx375_1)).trans hx375_1
 replace hx375_2 := (HB.out.cell (World.block_lt_of_cell? w _ hx375_2)).trans hx375_2
 replace hx375_3 := (HB.out.cell (World.block_lt_of_cell? w _ hx375_3)).trans hx375_3
 replace hx375_4 := (HB.out.cell (World.block_lt_of_cell? w _ hx375_4)).trans hx375_4
 replace hx375_5 := (HB.out.cell (World.block_lt_of_cell? w _ hx375_5)).trans hx375_5
 replace p375 := eq_true p375
 replace q375 := eq_true q375
 go_wp2_with (first | ((with_reducible refine gate_callee (f := 64) rfl ?_); refine gs_ (some 33) Tryd.func64 #[.agg #[.int .i64 ((rd_T70 l0_2 x3_2).f0), .int .i64 ((rd_T70 l0_2 x3_2).f1), .int .i64 ((rd_T70 l0_2 x3_2).f2.f0), .int .i64 ((rd_T70 l0_2 x3_2).f2.f1), .int .i64 ((rd_T70 l0_2 x3_2).f2.f2), .int .i64 ((rd_T70 l0_2 x3_2).f2.f3)]] ?_; (with_reducible refine (spec_EntryText.calls k2 ((rd_T70 l0_2 x3_2).f0) ((rd_T70 l0_2 x3_2).f1) ((rd_T70 l0_2 x3_2).f2.f0) ((rd_T70 l0_2 x3_2).f2.f1) ((rd_T70 l0_2 x3_2).f2.f2) ((rd_T70 l0_2 x3_2).f2.f3) t376 _ A14.out).mono ?_); rintro e w19 ⟨rfl, hb⟩; refine ⟨_, rfl, ?_⟩; replace BK372 := Aside0.mk (blk_below (bn0_ BK372.out) hb); replace HB := Aside0.mk (below_step bl_ hb); (try clear hb)))
 go_roundg k2
 case measure => have := HJ1.out; have := HK2.out; omega
 case rel => exact ⟨(wrap64 (x3_2 + 1)), (sr_), H', ⟨by have := HJ1.out; have := HK2.out; omega⟩, ⟨bk_ BK372.out⟩, ⟨bl_⟩⟩


def spec_JoinSegments.l0 : Nat → List (S30) → List (S70) → ByteArray → Int → Option ((List (S70)) × Bool)
 | 0, _, _, _, _ => none
 | k + 1, x0, x4, x5, x6 => if x6 < (x0.length : Int) then (if 0 ≤ x6 then ((spec_SegmentOk.f k ((rd_T30 x0 x6).f0) ((rd_T30 x0 x6).f1) ((rd_T30 x0 x6).f2) ((rd_T30 x0 x6).f3)).bind fun t384 => (if t384 = true then (if ((rd_T30 x0 x6).f0) = (x4.length : Int) then (if ((rd_T30 x0 x6).f1).toList = x5.toList then (if x4.length + ((rd_T30 x0 x6).f2).length < 2932031007402 then (spec_JoinSegments.l0 k x0 (x4 ++ ((rd_T30 x0 x6).f2)) ((rd_T30 x0 x6).f3) (wrap64 (x6 + 1))) else (none)) else (some ((([] : List (S70))), false))) else (some ((([] : List (S70))), false))) else (some ((([] : List (S70))), false)))) else (none)) else (some (x4, true))
def spec_JoinSegments.f (k : Nat) (l0 : List (S30)) : Option ((List (S70)) × Bool) := (spec_Digest.f (⟨#[]⟩ : ByteArray)).bind fun t381 => (spec_JoinSegments.l0 k l0 (([] : List (S70))) t381 0)
theorem spec_JoinSegments.mono_l : ∀ k, (∀ y0 y1 y2 y3, LeO (spec_JoinSegments.l0 k y0 y1 y2 y3) (spec_JoinSegments.l0 (k + 1) y0 y1 y2 y3))
 | 0 => fun _ _ _ _ r h => by simp [spec_JoinSegments.l0] at h
 | k + 1 => by
  have ih0 := spec_JoinSegments.mono_l k
  ·intro y0 y1 y2 y3
   unfold spec_JoinSegments.l0
   have m0 := @spec_SegmentOk.mono
   exact mo_
theorem spec_JoinSegments.mono : ∀ a0 k, LeO (spec_JoinSegments.f k a0) (spec_JoinSegments.f (k + 1) a0) := by
 intro a0 k
 have ih0 := spec_JoinSegments.mono_l k
 unfold spec_JoinSegments.f
 have m0 := @spec_SegmentOk.mono
 exact mo_
theorem spec_JoinSegments.calls (k : Nat) (A0 : Option Addr) (c0 : Nat) (l0 : List (S30)) (r1 : List (S70)) (r2 : Bool) (w : World) (hr0 : Kd.C k30 w A0 l0.length l0) (hc0 : l0.length ≤ c0) (h : spec_JoinSegments.f k l0 = some (r1, r2)) :
 Calls Tryd.prog 39 #[.slice A0 l0.length c0] w fun e w' => ∃ v0_ : Value, e = .returned (.tuple #[v0_, .bool r2]) ∧ Kd.R k70 70 w' w.heap.size (fun _ => True) v0_ r1 ∧ Below w.heap.size w w' := by
 have hu30 := Tryd.underlying30
 have HR0 := Aside0.mk hr0
 have HC0 := Aside0.mk hc0
 clear hr0 hc0
 have HB := Aside0.mk (Below.refl w.heap.size w)
 have H := h
 unfold spec_JoinSegments.f at H
 clear h
 obtain ⟨y378, hy378⟩ : ∃ y_ : List (S70), y_ = (([] : List (S70))) := ⟨_, rfl⟩
 replace H : ((spec_Digest.f (⟨#[]⟩ : ByteArray)).bind fun t381 => (spec_JoinSegments.l0 k l0 y378 t381 0)) = some (r1, r2) := rp_ H hy378
 have Ny378 := Aside0.mk hy378
 clear hy378
 replace H := bs_ H
 obtain ⟨t381, A2, H⟩ := H
 try dsimp only at H
 have H' := Aside0.mk H
 clear H
 go_enter Tryd.func39, Tryd.ntmps39
 go_wp2_with (first | ((with_reducible refine gate_dst (N := 8) rfl ?_); (try (refine gate_guard (by rfl) ?_; dsimp only)); refine Kd.R_lit k70 _ 70 ?hg (N := 8) ?hd (xs := ([] : List (S70))) (inner := []) (ok := fun _ => True) (okp := fun _ => True) ?hr ?hp (fun _ hk => hk) trivial (Below.refl _ _) (Nat.le_refl _) (by simp) ?_; (case hd => rfl); (case hg => rfl); (case hr => first | (go_simp; done) | (go_simp; rfl)); (case hp => exact (Reps.none _ _)); intro v379 w3 ho4 hb hg_ hnew_; clear hg_ hnew_; (first | rw [← Ny378.out] at ho4 | (simp only [Int.reduceToNat] at ho4; rw [← Ny378.out] at ho4)); have HO380 := Aside0.mk (Kd.R_lower ho4 (below_size bl_)); replace HB := Aside0.mk (below_step bl_ hb); clear hb ho4) | ((with_reducible refine gate_callee (f := 56) rfl ?_); refine gs_ (some 9) Tryd.func56 #[.string (⟨#[]⟩ : ByteArray)] ?_; (with_reducible refine (spec_Digest.calls (⟨#[]⟩ : ByteArray) t381 _ A2.out).mono ?_); rintro e w5 ⟨rfl, hb⟩; refine ⟨_, rfl, ?_⟩; replace HO380 := Aside0.mk (Kd.R_below (ra_ HO380.out) hb); replace HB := Aside0.mk (below_step bl_ hb); (try clear hb)))
 go_loopg [4, 5, 6] k (fun kq v4 v5 v6 w' => ∃ (x4_1 : List (S70)) (x5_1 : ByteArray) (x6_1 : Int), v5 = .string x5_1 ∧ v6 = .int .i64 x6_1 ∧ Aside0 (spec_JoinSegments.l0 kq l0 x4_1 x5_1 x6_1 = some (r1, r2)) ∧ Aside0 (kq ≤ k) ∧ Aside0 (Kd.R k70 70 w' w.heap.size (fun _ => True) v4 x4_1) ∧ Aside0 (Below w.heap.size w w'))
 case atStart => exact ⟨(y378), (t381), (0), (sr_), (sr_), H', ⟨Nat.le_refl _⟩, ⟨ra_ HO380.out⟩, ⟨bl_⟩⟩
 clear H'
 obtain ⟨x4_1, x5_1, x6_1, rfl, rfl, HA, HK1, HO_4, HB⟩ := hrel
 cases gk with
 | zero => exact absurd HA.out (by simp [spec_JoinSegments.l0])
 | succ k1 => ?_
 have H := HA.out
 clear HA
 simp only [spec_JoinSegments.l0] at H
 by_cases c6 : x6_1 < (l0.length : Int)
 rotate_left
 ·rw [if_neg c6] at H
  have c6b0 := decide_eq_false c6
  clear c6
  simp only [Option.some.injEq, Prod.mk.injEq] at H
  obtain ⟨rfl, rfl⟩ := H
  go_wp2
  go_ret2
  exact ⟨_, er_, ra_ HO_4.out, bl_⟩
 rw [if_pos c6] at H
 have c6b0 := decide_eq_true c6
 clear c6
 by_cases c7 : 0 ≤ x6_1
 rotate_left
 ·exact nn_ c7 H
 rw [if_pos c7] at H
 have c7b0 := decide_eq_true c7
 clear c7
 replace H := bs_ H
 obtain ⟨t384, A8, H⟩ := H
 try dsimp only at H
 by_cases c9 : t384 = true
 rotate_left
 ·replace c9 := Bool.eq_false_iff.mpr c9
  subst c9
  rw [nf_] at H
  obtain ⟨y394, hy394⟩ : ∃ y_ : List (S70), y_ = (([] : List (S70))) := ⟨_, rfl⟩
  replace H : (some (y394, false)) = some (r1, r2) := rp_ H hy394
  have Ny394 := Aside0.mk hy394
  clear hy394
  simp only [Option.some.injEq, Prod.mk.injEq] at H
  obtain ⟨rfl, rfl⟩ := H
  have p382 : 0 ≤ (x6_1 : Int) := of_decide_eq_true as_
  have q382 : x6_1 < (l0.length : Int) := of_decide_eq_true as_
  obtain ⟨ad382, A382_2, c382_2, e382, hx382_0, hx382_1, hx382_2, hx382_3, hl382_2, hi382_2⟩ := at_T30 HR0.out x6_1 p382 q382
  cases e382
  replace hx382_0 := (HB.out.cell (World.block_lt_of_cell? w _ hx382_0)).trans hx382_0
  replace hx382_1 := (HB.out.cell (World.block_lt_of_cell? w _ hx382_1)).trans hx382_1
  replace hx382_2 := (HB.out.cell (World.block_lt_of_cell? w _ hx382_2)).trans hx382_2
  replace hx382_3 := (HB.out.cell (World.block_lt_of_cell? w _ hx382_3)).trans hx382_3
  have HR382_2 := Aside0.mk hi382_2
  have HC382_2 := Aside0.mk hl382_2
  clear hi382_2 hl382_2
  replace p382 := eq_true p382
  replace q382 := eq_true q382
  go_wp2_with (first | ((with_reducible refine gate_dst (N := 7) rfl ?_); (try (refine gate_guard (by rfl) ?_; dsimp only)); refine bx_ 7 30 #[.int .i64 0, .string (⟨#[]⟩ : ByteArray), .slice none 0 0, .string (⟨#[]⟩ : ByteArray)] ?_; intro gb383 hg w34 hbox hb; replace HO_4 := Aside0.mk (Kd.R_below (ra_ HO_4.out) hb); have BK383 := Aside0.mk (hbox); have GW383 := Aside0.mk ((hz_ : w.heap.size ≤ gb383)); have GE383 := Aside0.mk ((hz_ : w.heap.size ≤ gb383)); replace HB := Aside0.mk (below_step bl_ hb); clear hb hbox hg; obtain ⟨hcz35_0, hcz35_1, hcz35_2, hcz35_3, hfz35_0, hfz35_1, hfz35_2, hfz35_3⟩ := cf4_ BK383.out) | ((with_reducible refine gate_callee (f := 18) rfl ?_); refine gs_ (some 21) Tryd.func18 #[.agg #[.int .i64 ((rd_T30 l0 x6_1).f0), .string ((rd_T30 l0 x6_1).f1), .slice A382_2 ((rd_T30 l0 x6_1).f2).length c382_2, .string ((rd_T30 l0 x6_1).f3)]] ?_; (with_reducible refine (spec_SegmentOk.calls k1 ((rd_T30 l0 x6_1).f0) ((rd_T30 l0 x6_1).f1) _ _ ((rd_T30 l0 x6_1).f2) ((rd_T30 l0 x6_1).f3) false _ ?side1 ?side2 A8.out).mono ?_); (case side1 => exact Kd.C_below HR382_2.out bl_); (case side2 => exact HC382_2.out); rintro e w36 ⟨rfl, hb⟩; refine ⟨_, rfl, ?_⟩; replace HO_4 := Aside0.mk (Kd.R_below (rfa_ HO_4.out BK383.out) hb); replace BK383 := Aside0.mk (blk_below (g := gb383) (o := .cells #[.int .i64 ((rd_T30 l0 x6_1).f0), .string ((rd_T30 l0 x6_1).f1), .slice A382_2 ((rd_T30 l0 x6_1).f2).length c382_2, .string ((rd_T30 l0 x6_1).f3)] 30 (0, 0)) (bp0_ BK383.out) hb); replace HB := Aside0.mk (below_step bl_ hb); (try clear hb)) | ((with_reducible refine gate_dst (N := 36) rfl ?_); (try (refine gate_guard (by rfl) ?_; dsimp only)); refine Kd.R_lit k70 _ 70 ?hg (N := 36) ?hd (xs := ([] : List (S70))) (inner := []) (ok := fun _ => True) (okp := fun _ => True) ?hr ?hp (fun _ hk => hk) trivial (Below.refl _ _) (Nat.le_refl _) (by simp) ?_; (case hd => rfl); (case hg => rfl); (case hr => first | (go_simp; done) | (go_simp; rfl)); (case hp => exact (Reps.none _ _)); intro v395 w37 ho38 hb hg_ hnew_; clear hg_ hnew_; (first | rw [← Ny394.out] at ho38 | (simp only [Int.reduceToNat] at ho38; rw [← Ny394.out] at ho38)); have HO396 := Aside0.mk (Kd.R_lower (Kd.R_new' ho38 (Kd.R_lt (ra_ HO_4.out))) (below_size bl_)); replace HO_4 := Aside0.mk (Kd.R_elder' (ra_ HO_4.out) (Kd.R_base ho38) hb); replace BK383 := Aside0.mk (blk_below (bn0_ BK383.out) hb); replace HB := Aside0.mk (below_step bl_ hb); clear hb ho38))
  go_ret2
  exact ⟨_, er_, by (with_reducible repeat (first | apply Kd.R_alloc | apply Kd.R_drewN | apply Kd.R_drew)); exact Kd.R_mono HO396.out (fun _ hk => trivial), bl_⟩
 subst c9
 rw [if_pos rfl] at H
 by_cases c10 : ((rd_T30 l0 x6_1).f0) = (x4_1.length : Int)
 rotate_left
 ·rw [if_neg c10] at H
  have c10b0 : (((rd_T30 l0 x6_1).f0) == (x4_1.length : Int)) = false := beq_eq_false_iff_ne.mpr c10
  have c10b1 : (((rd_T30 l0 x6_1).f0) != (x4_1.length : Int)) = true := bne_iff_ne.mpr c10
  obtain ⟨y391, hy391⟩ : ∃ y_ : List (S70), y_ = (([] : List (S70))) := ⟨_, rfl⟩
  replace H : (some (y391, false)) = some (r1, r2) := rp_ H hy391
  have Ny391 := Aside0.mk hy391
  clear hy391
  simp only [Option.some.injEq, Prod.mk.injEq] at H
  obtain ⟨rfl, rfl⟩ := H
  have p382 : 0 ≤ (x6_1 : Int) := of_decide_eq_true as_
  have q382 : x6_1 < (l0.length : Int) := of_decide_eq_true as_
  obtain ⟨ad382, A382_2, c382_2, e382, hx382_0, hx382_1, hx382_2, hx382_3, hl382_2, hi382_2⟩ := at_T30 HR0.out x6_1 p382 q382
  cases e382
  replace hx382_0 := (HB.out.cell (World.block_lt_of_cell? w _ hx382_0)).trans hx382_0
  replace hx382_1 := (HB.out.cell (World.block_lt_of_cell? w _ hx382_1)).trans hx382_1
  replace hx382_2 := (HB.out.cell (World.block_lt_of_cell? w _ hx382_2)).trans hx382_2
  replace hx382_3 := (HB.out.cell (World.block_lt_of_cell? w _ hx382_3)).trans hx382_3
  have HR382_2 := Aside0.mk hi382_2
  have HC382_2 := Aside0.mk hl382_2
  clear hi382_2 hl382_2
  replace p382 := eq_true p382
  replace q382 := eq_true q382
  go_wp2_with (first | ((with_reducible refine gate_dst (N := 7) rfl ?_); (try (refine gate_guard (by rfl) ?_; dsimp only)); refine bx_ 7 30 #[.int .i64 0, .string (⟨#[]⟩ : ByteArray), .slice none 0 0, .string (⟨#[]⟩ : ByteArray)] ?_; intro gb383 hg w27 hbox hb; replace HO_4 := Aside0.mk (Kd.R_below (ra_ HO_4.out) hb); have BK383 := Aside0.mk (hbox); have GW383 := Aside0.mk ((hz_ : w.heap.size ≤ gb383)); have GE383 := Aside0.mk ((hz_ : w.heap.size ≤ gb383)); replace HB := Aside0.mk (below_step bl_ hb); clear hb hbox hg; obtain ⟨hcz28_0, hcz28_1, hcz28_2, hcz28_3, hfz28_0, hfz28_1, hfz28_2, hfz28_3⟩ := cf4_ BK383.out) | ((with_reducible refine gate_callee (f := 18) rfl ?_); refine gs_ (some 21) Tryd.func18 #[.agg #[.int .i64 ((rd_T30 l0 x6_1).f0), .string ((rd_T30 l0 x6_1).f1), .slice A382_2 ((rd_T30 l0 x6_1).f2).length c382_2, .string ((rd_T30 l0 x6_1).f3)]] ?_; (with_reducible refine (spec_SegmentOk.calls k1 ((rd_T30 l0 x6_1).f0) ((rd_T30 l0 x6_1).f1) _ _ ((rd_T30 l0 x6_1).f2) ((rd_T30 l0 x6_1).f3) true _ ?side1 ?side2 A8.out).mono ?_); (case side1 => exact Kd.C_below HR382_2.out bl_); (case side2 => exact HC382_2.out); rintro e w29 ⟨rfl, hb⟩; refine ⟨_, rfl, ?_⟩; replace HO_4 := Aside0.mk (Kd.R_below (rfa_ HO_4.out BK383.out) hb); replace BK383 := Aside0.mk (blk_below (g := gb383) (o := .cells #[.int .i64 ((rd_T30 l0 x6_1).f0), .string ((rd_T30 l0 x6_1).f1), .slice A382_2 ((rd_T30 l0 x6_1).f2).length c382_2, .string ((rd_T30 l0 x6_1).f3)] 30 (0, 0)) (bp0_ BK383.out) hb); replace HB := Aside0.mk (below_step bl_ hb); (try clear hb); obtain ⟨hcz30_0, hcz30_1, hcz30_2, hcz30_3, hfz30_0, hfz30_1, hfz30_2, hfz30_3⟩ := cf4_ BK383.out; obtain ⟨Ao31, co31, eo31⟩ := Kd.R_slice HO_4.out; subst eo31) | ((with_reducible refine gate_dst (N := 36) rfl ?_); (try (refine gate_guard (by rfl) ?_; dsimp only)); refine Kd.R_lit k70 _ 70 ?hg (N := 36) ?hd (xs := ([] : List (S70))) (inner := []) (ok := fun _ => True) (okp := fun _ => True) ?hr ?hp (fun _ hk => hk) trivial (Below.refl _ _) (Nat.le_refl _) (by simp) ?_; (case hd => rfl); (case hg => rfl); (case hr => first | (go_simp; done) | (go_simp; rfl)); (case hp => exact (Reps.none _ _)); intro v392 w32 ho33 hb hg_ hnew_; clear hg_ hnew_; (first | rw [← Ny391.out] at ho33 | (simp only [Int.reduceToNat] at ho33; rw [← Ny391.out] at ho33)); have HO393 := Aside0.mk (Kd.R_lower (Kd.R_new' ho33 (Kd.R_lt (ra_ HO_4.out))) (below_size bl_)); replace HO_4 := Aside0.mk (Kd.R_elder' (ra_ HO_4.out) (Kd.R_base ho33) hb); replace BK383 := Aside0.mk (blk_below (bn0_ BK383.out) hb); replace HB := Aside0.mk (below_step bl_ hb); clear hb ho33))
  go_ret2
  exact ⟨_, er_, by (with_reducible repeat (first | apply Kd.R_alloc | apply Kd.R_drewN | apply Kd.R_drew)); exact Kd.R_mono HO393.out (fun _ hk => trivial), bl_⟩
 rw [if_pos c10] at H
 have c10b0 : (((rd_T30 l0 x6_1).f0) == (x4_1.length : Int)) = true := beq_iff_eq.mpr c10
 have c10b1 : (((rd_T30 l0 x6_1).f0) != (x4_1.length : Int)) = false := bne_eq_false_iff_eq.mpr c10
 clear c10
 by_cases c11 : ((rd_T30 l0 x6_1).f1).toList = x5_1.toList
 rotate_left
 ·rw [if_neg c11] at H
  have c11b0 : (((rd_T30 l0 x6_1).f1).toList == x5_1.toList) = false := beq_eq_false_iff_ne.mpr c11
  have c11b1 : (((rd_T30 l0 x6_1).f1).toList != x5_1.toList) = true := bne_iff_ne.mpr c11
  obtain ⟨y388, hy388⟩ : ∃ y_ : List (S70), y_ = (([] : List (S70))) := ⟨_, rfl⟩
  replace H : (some (y388, false)) = some (r1, r2) := rp_ H hy388
  have Ny388 := Aside0.mk hy388
  clear hy388
  simp only [Option.some.injEq, Prod.mk.injEq] at H
  obtain ⟨rfl, rfl⟩ := H
  have p382 : 0 ≤ (x6_1 : Int) := of_decide_eq_true as_
  have q382 : x6_1 < (l0.length : Int) := of_decide_eq_true as_
  obtain ⟨ad382, A382_2, c382_2, e382, hx382_0, hx382_1, hx382_2, hx382_3, hl382_2, hi382_2⟩ := at_T30 HR0.out x6_1 p382 q382
  cases e382
  replace hx382_0 := (HB.out.cell (World.block_lt_of_cell? w _ hx382_0)).trans hx382_0
  replace hx382_1 := (HB.out.cell (World.block_lt_of_cell? w _ hx382_1)).trans hx382_1
  replace hx382_2 := (HB.out.cell (World.block_lt_of_cell? w _ hx382_2)).trans hx382_2
  replace hx382_3 := (HB.out.cell (World.block_lt_of_cell? w _ hx382_3)).trans hx382_3
  have HR382_2 := Aside0.mk hi382_2
  have HC382_2 := Aside0.mk hl382_2
  clear hi382_2 hl382_2
  replace p382 := eq_true p382
  replace q382 := eq_true q382
  go_wp2_with (first | ((with_reducible refine gate_dst (N := 7) rfl ?_); (try (refine gate_guard (by rfl) ?_; dsimp only)); refine bx_ 7 30 #[.int .i64 0, .string (⟨#[]⟩ : ByteArray), .slice none 0 0, .string (⟨#[]⟩ : ByteArray)] ?_; intro gb383 hg w20 hbox hb; replace HO_4 := Aside0.mk (Kd.R_below (ra_ HO_4.out) hb); have BK383 := Aside0.mk (hbox); have GW383 := Aside0.mk ((hz_ : w.heap.size ≤ gb383)); have GE383 := Aside0.mk ((hz_ : w.heap.size ≤ gb383)); replace HB := Aside0.mk (below_step bl_ hb); clear hb hbox hg; obtain ⟨hcz21_0, hcz21_1, hcz21_2, hcz21_3, hfz21_0, hfz21_1, hfz21_2, hfz21_3⟩ := cf4_ BK383.out) | ((with_reducible refine gate_callee (f := 18) rfl ?_); refine gs_ (some 21) Tryd.func18 #[.agg #[.int .i64 ((rd_T30 l0 x6_1).f0), .string ((rd_T30 l0 x6_1).f1), .slice A382_2 ((rd_T30 l0 x6_1).f2).length c382_2, .string ((rd_T30 l0 x6_1).f3)]] ?_; (with_reducible refine (spec_SegmentOk.calls k1 ((rd_T30 l0 x6_1).f0) ((rd_T30 l0 x6_1).f1) _ _ ((rd_T30 l0 x6_1).f2) ((rd_T30 l0 x6_1).f3) true _ ?side1 ?side2 A8.out).mono ?_); (case side1 => exact Kd.C_below HR382_2.out bl_); (case side2 => exact HC382_2.out); rintro e w22 ⟨rfl, hb⟩; refine ⟨_, rfl, ?_⟩; replace HO_4 := Aside0.mk (Kd.R_below (rfa_ HO_4.out BK383.out) hb); replace BK383 := Aside0.mk (blk_below (g := gb383) (o := .cells #[.int .i64 ((rd_T30 l0 x6_1).f0), .string ((rd_T30 l0 x6_1).f1), .slice A382_2 ((rd_T30 l0 x6_1).f2).length c382_2, .string ((rd_T30 l0 x6_1).f3)] 30 (0, 0)) (bp0_ BK383.out) hb); replace HB := Aside0.mk (below_step bl_ hb); (try clear hb); obtain ⟨hcz23_0, hcz23_1, hcz23_2, hcz23_3, hfz23_0, hfz23_1, hfz23_2, hfz23_3⟩ := cf4_ BK383.out; obtain ⟨Ao24, co24, eo24⟩ := Kd.R_slice HO_4.out; subst eo24) | ((with_reducible refine gate_dst (N := 36) rfl ?_); (try (refine gate_guard (by rfl) ?_; dsimp only)); refine Kd.R_lit k70 _ 70 ?hg (N := 36) ?hd (xs := ([] : List (S70))) (inner := []) (ok := fun _ => True) (okp := fun _ => True) ?hr ?hp (fun _ hk => hk) trivial (Below.refl _ _) (Nat.le_refl _) (by simp) ?_; (case hd => rfl); (case hg => rfl); (case hr => first | (go_simp; done) | (go_simp; rfl)); (case hp => exact (Reps.none _ _)); intro v389 w25 ho26 hb hg_ hnew_; clear hg_ hnew_; (first | rw [← Ny388.out] at ho26 | (simp only [Int.reduceToNat] at ho26; rw [← Ny388.out] at ho26)); have HO390 := Aside0.mk (Kd.R_lower (Kd.R_new' ho26 (Kd.R_lt (ra_ HO_4.out))) (below_size bl_)); replace HO_4 := Aside0.mk (Kd.R_elder' (ra_ HO_4.out) (Kd.R_base ho26) hb); replace BK383 := Aside0.mk (blk_below (bn0_ BK383.out) hb); replace HB := Aside0.mk (below_step bl_ hb); clear hb ho26))
  go_ret2
  exact ⟨_, er_, by (with_reducible repeat (first | apply Kd.R_alloc | apply Kd.R_drewN | apply Kd.R_drew)); exact Kd.R_mono HO390.out (fun _ hk => trivial), bl_⟩
 rw [if_pos c11] at H
 have c11b0 : (((rd_T30 l0 x6_1).f1).toList == x5_1.toList) = true := beq_iff_eq.mpr c11
 have c11b1 : (((rd_T30 l0 x6_1).f1).toList != x5_1.toList) = false := bne_eq_false_iff_eq.mpr c11
 clear c11
 by_cases c12 : x4_1.length + ((rd_T30 l0 x6_1).f2).length < 2932031007402
 rotate_left
 ·exact nn_ c12 H
 rw [if_pos c12] at H
 have LMc12 := Aside0.mk c12
 clear c12
 obtain ⟨y385, hy385⟩ : ∃ y_ : List (S70), y_ = (x4_1 ++ ((rd_T30 l0 x6_1).f2)) := ⟨_, rfl⟩
 replace H : (spec_JoinSegments.l0 k1 l0 y385 ((rd_T30 l0 x6_1).f3) (wrap64 (x6_1 + 1))) = some (r1, r2) := rp_ H hy385
 have Ny385 := Aside0.mk hy385
 clear hy385
 have H' := Aside0.mk H
 clear H
 have p382 : 0 ≤ (x6_1 : Int) := of_decide_eq_true as_
 have q382 : x6_1 < (l0.length : Int) := of_decide_eq_true as_
 obtain ⟨ad382, A382_2, c382_2, e382, hx382_0, hx382_1, hx382_2, hx382_3, hl382_2, hi382_2⟩ := at_T30 HR0.out x6_1 p382 q382
 cases e382
 replace hx382_0 := (HB.out.cell (World.block_lt_of_cell? w _ hx382_0)).trans hx382_0
 replace hx382_1 := (HB.out.cell (World.block_lt_of_cell? w _ hx382_1)).trans hx382_1
 replace hx382_2 := (HB.out.cell (World.block_lt_of_cell? w _ hx382_2)).trans hx382_2
 replace hx382_3 := (HB.out.cell (World.block_lt_of_cell? w _ hx382_3)).trans hx382_3
 have HR382_2 := Aside0.mk hi382_2
 have HC382_2 := Aside0.mk hl382_2
 clear hi382_2 hl382_2
 replace p382 := eq_true p382
 replace q382 := eq_true q382
 go_wp2_with (first | ((with_reducible refine gate_dst (N := 7) rfl ?_); (try (refine gate_guard (by rfl) ?_; dsimp only)); refine bx_ 7 30 #[.int .i64 0, .string (⟨#[]⟩ : ByteArray), .slice none 0 0, .string (⟨#[]⟩ : ByteArray)] ?_; intro gb383 hg w13 hbox hb; replace HO_4 := Aside0.mk (Kd.R_below (ra_ HO_4.out) hb); have BK383 := Aside0.mk (hbox); have GW383 := Aside0.mk ((hz_ : w.heap.size ≤ gb383)); have GE383 := Aside0.mk ((hz_ : w.heap.size ≤ gb383)); replace HB := Aside0.mk (below_step bl_ hb); clear hb hbox hg; obtain ⟨hcz14_0, hcz14_1, hcz14_2, hcz14_3, hfz14_0, hfz14_1, hfz14_2, hfz14_3⟩ := cf4_ BK383.out) | ((with_reducible refine gate_callee (f := 18) rfl ?_); refine gs_ (some 21) Tryd.func18 #[.agg #[.int .i64 ((rd_T30 l0 x6_1).f0), .string ((rd_T30 l0 x6_1).f1), .slice A382_2 ((rd_T30 l0 x6_1).f2).length c382_2, .string ((rd_T30 l0 x6_1).f3)]] ?_; (with_reducible refine (spec_SegmentOk.calls k1 ((rd_T30 l0 x6_1).f0) ((rd_T30 l0 x6_1).f1) _ _ ((rd_T30 l0 x6_1).f2) ((rd_T30 l0 x6_1).f3) true _ ?side1 ?side2 A8.out).mono ?_); (case side1 => exact Kd.C_below HR382_2.out bl_); (case side2 => exact HC382_2.out); rintro e w15 ⟨rfl, hb⟩; refine ⟨_, rfl, ?_⟩; replace HO_4 := Aside0.mk (Kd.R_below (rfa_ HO_4.out BK383.out) hb); replace BK383 := Aside0.mk (blk_below (g := gb383) (o := .cells #[.int .i64 ((rd_T30 l0 x6_1).f0), .string ((rd_T30 l0 x6_1).f1), .slice A382_2 ((rd_T30 l0 x6_1).f2).length c382_2, .string ((rd_T30 l0 x6_1).f3)] 30 (0, 0)) (bp0_ BK383.out) hb); replace HB := Aside0.mk (below_step bl_ hb); (try clear hb); obtain ⟨hcz16_0, hcz16_1, hcz16_2, hcz16_3, hfz16_0, hfz16_1, hfz16_2, hfz16_3⟩ := cf4_ BK383.out; obtain ⟨Ao17, co17, eo17⟩ := Kd.R_slice HO_4.out; subst eo17) | ((with_reducible refine gate_builtin (b := .append) (xs := #[.tmp 37, .tmp 39]) rfl ?_); (try (refine gate_guard (by rfl) ?_; dsimp only)); at_builtin; refine Kd.R_append_rows k70 (w0 := w) w.heap.size rfl (.tmp 37) (.tmp 39) 28 70 (.agg #[(.int .i64 0), (.int .i64 0), (.int .i64 0), (.int .i64 0), (.int .i64 0), (.int .i64 0)]) 48 rfl Tryd.underlying28 info70 rfl (by decide) (by omega) (.slice Ao17 x4_1.length co17) x4_1 ((rd_T30 l0 x6_1).f2) _ _ _ (fun _ => True) (fun _ => False) rfl rfl ?aO ?aR (fun _ _ h => h) (fun _ h => h.elim) ?aF ?aB ?aS ?aL ?_; (case aR => repeat (first | exact (Kd.C_below HR382_2.out HB.out) | exact HR382_2.out | (with_reducible refine Kd.C_alloc ?_ _) | (with_reducible refine Kd.C_drewN ?_ _) | (with_reducible refine Kd.C_drew ?_))); (case aB => exact bl_); (case aF => exact (fun _ _ => trivial)); (case aO => exact (ra_ HO_4.out)); (case aS => exact (below_size bl_)); (case aL => have := LMc12.out; omega); intro v386 w18 ho hb hg hat; rw [← Ny385.out] at ho; replace BK383 := Aside0.mk (blk_grown (g := gb383) (o := .cells #[.int .i64 ((rd_T30 l0 x6_1).f0), .string ((rd_T30 l0 x6_1).f1), .slice A382_2 ((rd_T30 l0 x6_1).f2).length c382_2, .string ((rd_T30 l0 x6_1).f3)] 30 (0, 0)) (bk_ BK383.out) hg (Kd.R_ne HO_4.out BK383.out (by decide))); replace HB := Aside0.mk (hb); have HO387 := Aside0.mk (ho); clear HO_4; clear ho hb hg hat; obtain ⟨hcz19_0, hcz19_1, hcz19_2, hcz19_3, hfz19_0, hfz19_1, hfz19_2, hfz19_3⟩ := cf4_ BK383.out))
 go_roundg k1
 case measure => have := HK1.out; omega
 case rel => exact ⟨(y385), ((rd_T30 l0 x6_1).f3), (wrap64 (x6_1 + 1)), (sr_), (sr_), H', ⟨by have := HK1.out; omega⟩, ⟨ra_ HO387.out⟩, ⟨bl_⟩⟩


def laws_szSegmentS.l0 : Nat → List (S25) → Int → Int → Option (Int)
 | 0, _, _, _ => none
 | k + 1, x0, x1, x5 => if x5 < (x0.length : Int) then (if 0 ≤ x5 then ((laws_szSegment.f ((rd_T25 x0 x5).f0) ((rd_T25 x0 x5).f1) ((rd_T25 x0 x5).f2) ((rd_T25 x0 x5).f3) x1).bind fun t371 => (if t371 < 0 then (some (-1)) else (laws_szSegmentS.l0 k x0 t371 (wrap64 (x5 + 1))))) else (none)) else (some x1)
def laws_szSegmentS.f (k : Nat) (l0 : List (S25)) (a1 : Int) : Option (Int) := if (wrap64 (a1 - (l0.length : Int))) < 0 then (some (-1)) else (laws_szSegmentS.l0 k l0 (wrap64 (a1 - (l0.length : Int))) 0)
theorem laws_szSegmentS.mono_l : ∀ k, (∀ y0 y1 y2, LeO (laws_szSegmentS.l0 k y0 y1 y2) (laws_szSegmentS.l0 (k + 1) y0 y1 y2))
 | 0 => fun _ _ _ r h => by simp [laws_szSegmentS.l0] at h
 | k + 1 => by
  have ih0 := laws_szSegmentS.mono_l k
  ·intro y0 y1 y2
   unfold laws_szSegmentS.l0
   exact mo_
theorem laws_szSegmentS.mono : ∀ a0 a1 k, LeO (laws_szSegmentS.f k a0 a1) (laws_szSegmentS.f (k + 1) a0 a1) := by
 intro a0 a1 k
 have ih0 := laws_szSegmentS.mono_l k
 unfold laws_szSegmentS.f
 exact mo_
theorem laws_szSegmentS.calls (k : Nat) (A0 : Option Addr) (c0 : Nat) (l0 : List (S25)) (a1 : Int) (r : Int) (w : World) (hr0 : Kd.C k25 w A0 l0.length l0) (hc0 : l0.length ≤ c0) (h : laws_szSegmentS.f k l0 a1 = some r) :
 Calls Tryd.prog 38 #[.slice A0 l0.length c0, .int .i64 a1] w fun e w' => e = .returned (.int .i64 r) ∧ Below w.heap.size w w' := by
 have hu25 := Tryd.underlying25
 have HR0 := Aside0.mk hr0
 have HC0 := Aside0.mk hc0
 clear hr0 hc0
 have HB := Aside0.mk (Below.refl w.heap.size w)
 have H := h
 unfold laws_szSegmentS.f at H
 clear h
 by_cases c3 : (wrap64 (a1 - (l0.length : Int))) < 0
 ·rw [if_pos c3] at H
  have c3b0 := decide_eq_true c3
  clear c3
  obtain rfl := Option.some.inj H
  go_enter Tryd.func38, Tryd.ntmps38
  go_wp2
  go_ret
  exact ⟨er_, bl_⟩
 rw [if_neg c3] at H
 have c3b0 := decide_eq_false c3
 clear c3
 have H' := Aside0.mk H
 clear H
 go_enter Tryd.func38, Tryd.ntmps38
 go_wp2
 go_loopg [1, 5] k (fun kq v1 v5 w' => ∃ (x1_1 : Int) (x5_1 : Int), v1 = .int .i64 x1_1 ∧ v5 = .int .i64 x5_1 ∧ Aside0 (laws_szSegmentS.l0 kq l0 x1_1 x5_1 = some r) ∧ Aside0 (kq ≤ k) ∧ Aside0 (Below w.heap.size w w'))
 case atStart => exact ⟨(wrap64 (a1 - (l0.length : Int))), (0), (sr_), (sr_), H', ⟨Nat.le_refl _⟩, ⟨bl_⟩⟩
 clear H'
 try clear c3
 try clear c3b0
 obtain ⟨x1_1, x5_1, rfl, rfl, HA, HK1, HB⟩ := hrel
 cases gk with
 | zero => exact absurd HA.out (by simp [laws_szSegmentS.l0])
 | succ k1 => ?_
 have H := HA.out
 clear HA
 simp only [laws_szSegmentS.l0] at H
 by_cases c4 : x5_1 < (l0.length : Int)
 rotate_left
 ·rw [if_neg c4] at H
  have c4b0 := decide_eq_false c4
  clear c4
  obtain rfl := Option.some.inj H
  go_wp2
  go_ret
  exact ⟨er_, bl_⟩
 rw [if_pos c4] at H
 have c4b0 := decide_eq_true c4
 clear c4
 by_cases c5 : 0 ≤ x5_1
 rotate_left
 ·exact nn_ c5 H
 rw [if_pos c5] at H
 have c5b0 := decide_eq_true c5
 clear c5
 replace H := bs_ H
 obtain ⟨t371, A6, H⟩ := H
 try dsimp only at H
 by_cases c7 : t371 < 0
 ·rw [if_pos c7] at H
  have c7b0 := decide_eq_true c7
  clear c7
  obtain rfl := Option.some.inj H
  have p370 : 0 ≤ (x5_1 : Int) := of_decide_eq_true as_
  have q370 : x5_1 < (l0.length : Int) := of_decide_eq_true as_
  obtain ⟨ad370, A370_2, c370_2, e370, hx370_0, hx370_1, hx370_2, hx370_3, hl370_2, hi370_2⟩ := at_T25 HR0.out x5_1 p370 q370
  cases e370
  replace hx370_0 := (HB.out.cell (World.block_lt_of_cell? w _ hx370_0)).trans hx370_0
  replace hx370_1 := (HB.out.cell (World.block_lt_of_cell? w _ hx370_1)).trans hx370_1
  replace hx370_2 := (HB.out.cell (World.block_lt_of_cell? w _ hx370_2)).trans hx370_2
  replace hx370_3 := (HB.out.cell (World.block_lt_of_cell? w _ hx370_3)).trans hx370_3
  have HR370_2 := Aside0.mk hi370_2
  have HC370_2 := Aside0.mk hl370_2
  clear hi370_2 hl370_2
  replace p370 := eq_true p370
  replace q370 := eq_true q370
  go_wp2_with (first | ((with_reducible refine gate_callee (f := 17) rfl ?_); refine gs_ (some 23) Tryd.func17 #[.agg #[.int .i64 ((rd_T25 l0 x5_1).f0), .string ((rd_T25 l0 x5_1).f1), .slice A370_2 ((rd_T25 l0 x5_1).f2).length c370_2, .string ((rd_T25 l0 x5_1).f3)], .int .i64 x1_1] ?_; (with_reducible refine (laws_szSegment.calls ((rd_T25 l0 x5_1).f0) ((rd_T25 l0 x5_1).f1) _ _ ((rd_T25 l0 x5_1).f2) ((rd_T25 l0 x5_1).f3) x1_1 t371 _ ?side1 ?side2 A6.out).mono ?_); (case side1 => exact cb_ HR370_2.out HB.out); (case side2 => exact HC370_2.out); rintro e w8 ⟨rfl, hb⟩; refine ⟨_, rfl, ?_⟩; replace HB := Aside0.mk (below_step bl_ hb); (try clear hb)))
  go_ret
  exact ⟨er_, bl_⟩
 rw [if_neg c7] at H
 have c7b0 := decide_eq_false c7
 clear c7
 have H' := Aside0.mk H
 clear H
 have p370 : 0 ≤ (x5_1 : Int) := of_decide_eq_true as_
 have q370 : x5_1 < (l0.length : Int) := of_decide_eq_true as_
 obtain ⟨ad370, A370_2, c370_2, e370, hx370_0, hx370_1, hx370_2, hx370_3, hl370_2, hi370_2⟩ := at_T25 HR0.out x5_1 p370 q370
 cases e370
 replace hx370_0 := (HB.out.cell (World.block_lt_of_cell? w _ hx370_0)).trans hx370_0
 replace hx370_1 := (HB.out.cell (World.block_lt_of_cell? w _ hx370_1)).trans hx370_1
 replace hx370_2 := (HB.out.cell (World.block_lt_of_cell? w _ hx370_2)).trans hx370_2
 replace hx370_3 := (HB.out.cell (World.block_lt_of_cell? w _ hx370_3)).trans hx370_3
 have HR370_2 := Aside0.mk hi370_2
 have HC370_2 := Aside0.mk hl370_2
 clear hi370_2 hl370_2
 replace p370 := eq_true p370
 replace q370 := eq_true q370
 go_wp2_with (first | ((with_reducible refine gate_callee (f := 17) rfl ?_); refine gs_ (some 23) Tryd.func17 #[.agg #[.int .i64 ((rd_T25 l0 x5_1).f0), .string ((rd_T25 l0 x5_1).f1), .slice A370_2 ((rd_T25 l0 x5_1).f2).length c370_2, .string ((rd_T25 l0 x5_1).f3)], .int .i64 x1_1] ?_; (with_reducible refine (laws_szSegment.calls ((rd_T25 l0 x5_1).f0) ((rd_T25 l0 x5_1).f1) _ _ ((rd_T25 l0 x5_1).f2) ((rd_T25 l0 x5_1).f3) x1_1 t371 _ ?side1 ?side2 A6.out).mono ?_); (case side1 => exact cb_ HR370_2.out HB.out); (case side2 => exact HC370_2.out); rintro e w9 ⟨rfl, hb⟩; refine ⟨_, rfl, ?_⟩; replace HB := Aside0.mk (below_step bl_ hb); (try clear hb)))
 go_roundg k1
 case measure => have := HK1.out; omega
 case rel => exact ⟨(t371), (wrap64 (x5_1 + 1)), (sr_), (sr_), H', ⟨by have := HK1.out; omega⟩, ⟨bl_⟩⟩


def laws_toSegment.f (k : Nat) (a0_0 : Int) (a0_1 : ByteArray) (l0_2 : List (S91)) (a0_3 : ByteArray) : Option (Int × ByteArray × (List (S70)) × ByteArray) := (laws_toEntryS.f k l0_2).bind fun t400 => (some (a0_0, a0_1, t400, a0_3))
theorem laws_toSegment.mono : ∀ a0 a1 a2 a3 k, LeO (laws_toSegment.f k a0 a1 a2 a3) (laws_toSegment.f (k + 1) a0 a1 a2 a3) := by
 intro a0 a1 a2 a3 k
 unfold laws_toSegment.f
 have m0 := @laws_toEntryS.mono
 exact mo_
theorem laws_toSegment.calls (k : Nat) (a0_0 : Int) (a0_1 : ByteArray) (A0_2 : Option Addr) (c0_2 : Nat) (l0_2 : List (S91)) (a0_3 : ByteArray) (r1 : Int) (r2 : ByteArray) (r3 : List (S70)) (r4 : ByteArray) (w : World) (hr0_2 : Kd.C k91 w A0_2 l0_2.length l0_2) (hc0_2 : l0_2.length ≤ c0_2) (h : laws_toSegment.f k a0_0 a0_1 l0_2 a0_3 = some (r1, r2, r3, r4)) :
 Calls Tryd.prog 19 #[.agg #[.int .i64 a0_0, .string a0_1, .slice A0_2 l0_2.length c0_2, .string a0_3]] w fun e w' => ∃ v2_ : Value, e = .returned (.agg #[.int .i64 r1, .string r2, v2_, .string r4]) ∧ Kd.R k70 70 w' w.heap.size (fun _ => True) v2_ r3 ∧ Below w.heap.size w w' := by
 have hu25 := Tryd.underlying25
 have hu30 := Tryd.underlying30
 have HR0_2 := Aside0.mk hr0_2
 have HC0_2 := Aside0.mk hc0_2
 clear hr0_2 hc0_2
 have HB := Aside0.mk (Below.refl w.heap.size w)
 have H := h
 unfold laws_toSegment.f at H
 clear h
 replace H := bs_ H
 obtain ⟨t400, A2, H⟩ := H
 try dsimp only at H
 simp only [Option.some.injEq, Prod.mk.injEq] at H
 obtain ⟨rfl, rfl, rfl, rfl⟩ := H
 go_enter Tryd.func19, Tryd.ntmps19
 go_wp2_with (first | ((with_reducible refine gate_dst (N := 1) rfl ?_); refine bx_ 1 25 #[.int .i64 a0_0, .string a0_1, .slice A0_2 l0_2.length c0_2, .string a0_3] ?_; intro gb397 hg w3 hbox hb; have BK397 := Aside0.mk (hbox); have GW397 := Aside0.mk ((hz_ : w.heap.size ≤ gb397)); have GE397 := Aside0.mk ((hz_ : w.heap.size ≤ gb397)); replace HB := Aside0.mk (below_step bl_ hb); clear hb hbox hg) | ((with_reducible refine gate_dst (N := 2) rfl ?_); refine bx_ 2 30 #[.int .i64 0, .string (⟨#[]⟩ : ByteArray), .slice none 0 0, .string (⟨#[]⟩ : ByteArray)] ?_; intro gb398 hg w4 hbox hb; have BK398 := Aside0.mk (hbox); have GW398 := Aside0.mk ((hz_ : w.heap.size ≤ gb398)); have GE398 := Aside0.mk ((hz_ : w.heap.size ≤ gb398)); replace HB := Aside0.mk (below_step bl_ hb); have NB397_398 := Aside0.mk ((by rw [hg]; exact Nat.ne_of_lt (blk_lt (g := gb397) (o := .cells #[.int .i64 a0_0, .string a0_1, .slice A0_2 l0_2.length c0_2, .string a0_3] 25 (0, 0)) (bk_ BK397.out)) : gb397 ≠ gb398)); have NB398_397 := Aside0.mk ((by rw [hg]; exact Nat.ne_of_gt (blk_lt (g := gb397) (o := .cells #[.int .i64 a0_0, .string a0_1, .slice A0_2 l0_2.length c0_2, .string a0_3] 25 (0, 0)) (bk_ BK397.out)) : gb398 ≠ gb397)); replace BK397 := Aside0.mk (blk_below (bn0_ BK397.out) hb); clear hb hbox hg) | ((with_reducible refine gate_dst (N := 3) rfl ?_); refine bx_ 3 30 #[.int .i64 0, .string (⟨#[]⟩ : ByteArray), .slice none 0 0, .string (⟨#[]⟩ : ByteArray)] ?_; intro gb399 hg w5 hbox hb; have BK399 := Aside0.mk (hbox); have GW399 := Aside0.mk ((hz_ : w.heap.size ≤ gb399)); have GE399 := Aside0.mk ((hz_ : w.heap.size ≤ gb399)); replace HB := Aside0.mk (below_step bl_ hb); have NB397_399 := Aside0.mk ((by rw [hg]; exact Nat.ne_of_lt (blk_lt (g := gb397) (o := .cells #[.int .i64 a0_0, .string a0_1, .slice A0_2 l0_2.length c0_2, .string a0_3] 25 (0, 0)) (bk_ BK397.out)) : gb397 ≠ gb399)); have NB399_397 := Aside0.mk ((by rw [hg]; exact Nat.ne_of_gt (blk_lt (g := gb397) (o := .cells #[.int .i64 a0_0, .string a0_1, .slice A0_2 l0_2.length c0_2, .string a0_3] 25 (0, 0)) (bk_ BK397.out)) : gb399 ≠ gb397)); replace BK397 := Aside0.mk (blk_below (bn0_ BK397.out) hb); have NB398_399 := Aside0.mk ((by rw [hg]; exact Nat.ne_of_lt (blk_lt (g := gb398) (o := .cells #[.int .i64 0, .string (⟨#[]⟩ : ByteArray), .slice none 0 0, .string (⟨#[]⟩ : ByteArray)] 30 (0, 0)) (bk_ BK398.out)) : gb398 ≠ gb399)); have NB399_398 := Aside0.mk ((by rw [hg]; exact Nat.ne_of_gt (blk_lt (g := gb398) (o := .cells #[.int .i64 0, .string (⟨#[]⟩ : ByteArray), .slice none 0 0, .string (⟨#[]⟩ : ByteArray)] 30 (0, 0)) (bk_ BK398.out)) : gb399 ≠ gb398)); replace BK398 := Aside0.mk (blk_below (bn0_ BK398.out) hb); clear hb hbox hg; have hnb6 := NB397_398.out; have hnc6 := NB398_397.out; have hnb7 := NB397_399.out; have hnc7 := NB399_397.out; obtain ⟨hcz8_0, hcz8_1, hcz8_2, hcz8_3, hfz8_0, hfz8_1, hfz8_2, hfz8_3⟩ := cf4_ BK397.out; have hnb9 := NB399_398.out; have hnc9 := NB398_399.out; obtain ⟨hcz10_0, hcz10_1, hcz10_2, hcz10_3, hfz10_0, hfz10_1, hfz10_2, hfz10_3⟩ := cf4_ BK399.out) | ((with_reducible refine gate_callee (f := 26) rfl ?_); refine gs_ (some 12) Tryd.func26 #[.slice A0_2 l0_2.length c0_2] ?_; (with_reducible refine (laws_toEntryS.calls k _ _ l0_2 t400 _ ?side1 ?side2 A2.out).mono ?_); (case side1 => exact Kd.C_below HR0_2.out bl_); (case side2 => exact HC0_2.out); rintro e w11 ⟨v401, rfl, ho0, hb⟩; refine ⟨_, rfl, ?_⟩; have HO402 := Aside0.mk (Kd.R_lower ho0 (below_size bl_)); replace BK397 := Aside0.mk (blk_below (bn1_ BK397.out NB397_399.out) hb); replace BK398 := Aside0.mk (blk_below (bn1_ BK398.out NB398_399.out) hb); replace BK399 := Aside0.mk (blk_below (g := gb399) (o := .cells #[.int .i64 a0_0, .string a0_1, .slice none 0 0, .string (⟨#[]⟩ : ByteArray)] 30 (0, 0)) (bp0_ BK399.out) hb); replace HB := Aside0.mk (below_step bl_ hb); (try clear hb); (try clear ho0); obtain ⟨Ao12, co12, eo12⟩ := Kd.R_slice HO402.out; subst eo12; obtain ⟨hcz13_0, hcz13_1, hcz13_2, hcz13_3, hfz13_0, hfz13_1, hfz13_2, hfz13_3⟩ := cf4_ BK399.out; obtain ⟨hcz14_0, hcz14_1, hcz14_2, hcz14_3, hfz14_0, hfz14_1, hfz14_2, hfz14_3⟩ := cf4_ BK397.out; obtain ⟨hcz15_0, hcz15_1, hcz15_2, hcz15_3, hfz15_0, hfz15_1, hfz15_2, hfz15_3⟩ := cf4_ BK398.out))
 refine bodyPost_ret (results_cell_row rfl _ _ gb398 30 #[.int .i64 a0_0, .string a0_1, .slice Ao12 t400.length co12, .string a0_3] (0, 0) _ rfl (bp1_ BK398.out NB398_399.out) Tryd.underlying30 rfl (by kernel_rfl)) rfl ?_
 exact ⟨_, er_, by (with_reducible repeat (first | apply Kd.R_alloc | apply Kd.R_drewN | apply Kd.R_drew)); exact Kd.R_mono (Kd.R_far (p := ⟨gb398, 3, none⟩) (Kd.R_far (p := ⟨gb398, 2, none⟩) (Kd.R_far (p := ⟨gb398, 1, none⟩) (Kd.R_far (p := ⟨gb398, 0, none⟩) (Kd.R_far (p := ⟨gb399, 3, none⟩) (Kd.R_far (p := ⟨gb399, 2, none⟩) (Kd.R_types (Kd.R_types HO402.out BK399.out (by decide)) BK398.out (by decide)) (fun _ hk => hk.1.2) (.slice Ao12 t400.length co12)) (fun _ hk => hk.1.2) (.string a0_3)) (fun _ hk => hk.2) (.int .i64 a0_0)) (fun _ hk => hk.2) (.string a0_1)) (fun _ hk => hk.2) (.slice Ao12 t400.length co12)) (fun _ hk => hk.2) (.string a0_3)) (fun _ hk => trivial), bl_⟩


def laws_toSegmentS.l0 : Nat → List (S25) → List (S30) → Int → Option ((List (S30)))
 | 0, _, _, _ => none
 | k + 1, x0, x3, x4 => if x4 < (x0.length : Int) then (if 0 ≤ x4 then ((laws_toSegment.f k ((rd_T25 x0 x4).f0) ((rd_T25 x0 x4).f1) ((rd_T25 x0 x4).f2) ((rd_T25 x0 x4).f3)).bind fun bt407 => (if x4 < (x3.length : Int) then (laws_toSegmentS.l0 k x0 (x3.set (x4 : Int).toNat (⟨bt407.1, bt407.2.1, bt407.2.2.1, bt407.2.2.2⟩ : S30)) (wrap64 (x4 + 1))) else (none))) else (none)) else (some x3)
def laws_toSegmentS.f (k : Nat) (l0 : List (S25)) : Option ((List (S30))) := if 0 ≤ (l0.length : Int) then (if ((l0.length : Int) : Int).toNat ≤ 4398046511104 then (laws_toSegmentS.l0 k l0 (List.replicate ((l0.length : Int) : Int).toNat z30) 0) else (none)) else (none)
theorem laws_toSegmentS.mono_l : ∀ k, (∀ y0 y1 y2, LeO (laws_toSegmentS.l0 k y0 y1 y2) (laws_toSegmentS.l0 (k + 1) y0 y1 y2))
 | 0 => fun _ _ _ r h => by simp [laws_toSegmentS.l0] at h
 | k + 1 => by
  have ih0 := laws_toSegmentS.mono_l k
  ·intro y0 y1 y2
   unfold laws_toSegmentS.l0
   have m0 := @laws_toSegment.mono
   exact mo_
theorem laws_toSegmentS.mono : ∀ a0 k, LeO (laws_toSegmentS.f k a0) (laws_toSegmentS.f (k + 1) a0) := by
 intro a0 k
 have ih0 := laws_toSegmentS.mono_l k
 unfold laws_toSegmentS.f
 have m0 := @laws_toSegment.mono
 exact mo_
theorem laws_toSegmentS.calls (k : Nat) (A0 : Option Addr) (c0 : Nat) (l0 : List (S25)) (r : List (S30)) (w : World) (hr0 : Kd.C k25 w A0 l0.length l0) (hc0 : l0.length ≤ c0) (h : laws_toSegmentS.f k l0 = some r) :
 Calls Tryd.prog 40 #[.slice A0 l0.length c0] w fun e w' => ∃ v0_ : Value, e = .returned (v0_) ∧ Kd.S k30 30 w' w.heap.size (fun _ => True) v0_ r ∧ Below w.heap.size w w' := by
 have hu25 := Tryd.underlying25
 have hu30 := Tryd.underlying30
 have HR0 := Aside0.mk hr0
 have HC0 := Aside0.mk hc0
 clear hr0 hc0
 have HB := Aside0.mk (Below.refl w.heap.size w)
 have H := h
 unfold laws_toSegmentS.f at H
 clear h
 by_cases c2 : 0 ≤ (l0.length : Int)
 rotate_left
 ·exact nn_ c2 H
 rw [if_pos c2] at H
 have c2b0 := eq_true c2
 have c2b1 : decide (0 ≤ (l0.length : Int)) = true := decide_eq_true c2
 clear c2
 by_cases c3 : ((l0.length : Int) : Int).toNat ≤ 4398046511104
 rotate_left
 ·exact nn_ c3 H
 rw [if_pos c3] at H
 have c3b0 := eq_true c3
 have c3b1 : decide (((l0.length : Int) : Int).toNat ≤ 4398046511104) = true := decide_eq_true c3
 clear c3
 obtain ⟨y403, hy403⟩ : ∃ y_ : List (S30), y_ = (List.replicate ((l0.length : Int) : Int).toNat z30) := ⟨_, rfl⟩
 replace H : (laws_toSegmentS.l0 k l0 y403 0) = some r := rp_ H hy403
 have Ny403 := Aside0.mk hy403
 clear hy403
 have H' := Aside0.mk H
 clear H
 go_enter Tryd.func40, Tryd.ntmps40
 go_wp2_with (first | ((with_reducible refine gate_dst (N := 7) rfl ?_); refine Kd.S_make k30 _ 30 rfl (N := 7) rfl 46 _ _ rfl (l0.length : Int) rfl rfl Tryd.underlying46 (.agg #[(.int .i64 0), (.string ⟨#[]⟩), (.slice none 0 0), (.string ⟨#[]⟩)]) 64 info30 rfl (by decide) (by omega) z30 (ok := fun _ => True) (okp := fun _ => True) (k30_mkM _ _ _ z30 (Kd.R_nil _ _ _ _ _)) (fun _ hk => hk) trivial (of_decide_eq_true as_) (Nat.le_trans (Nat.mul_le_mul_right _ (of_decide_eq_true as_ : (l0.length : Int).toNat ≤ 4398046511104)) (by omega)) (Below.refl _ _) (Nat.le_refl _) ?_; intro v404 w4 ho5 hb hg_ hnew_; clear hg_ hnew_; (first | rw [← Ny403.out] at ho5 | (simp only [Int.reduceToNat] at ho5; rw [← Ny403.out] at ho5)); have HO405 := Aside0.mk (Kd.S_lower ho5 (below_size bl_)); replace HB := Aside0.mk (below_step bl_ hb); clear hb ho5))
 go_loopg [4] k (fun kq v4 w' => ∃ (x3_1 : List (S30)) (x4_1 : Int), v4 = .int .i64 x4_1 ∧ Aside0 (laws_toSegmentS.l0 kq l0 x3_1 x4_1 = some r) ∧ Aside0 (kq ≤ k) ∧ Aside0 (Kd.S k30 30 w' w.heap.size (fun _ => True) v404 x3_1) ∧ Aside0 (Below w.heap.size w w'))
 case atStart => exact ⟨(y403), (0), (sr_), H', ⟨Nat.le_refl _⟩, ⟨by (with_reducible repeat (first | apply Kd.S_alloc | apply Kd.S_drewN | apply Kd.S_drew)); exact HO405.out⟩, ⟨bl_⟩⟩
 clear H'
 try clear c2
 try clear c2b0
 try clear c2b1
 try clear c3
 try clear c3b0
 try clear c3b1
 obtain ⟨x3_1, x4_1, rfl, HA, HK1, HO_3, HB⟩ := hrel
 cases gk with
 | zero => exact absurd HA.out (by simp [laws_toSegmentS.l0])
 | succ k1 => ?_
 have H := HA.out
 clear HA
 simp only [laws_toSegmentS.l0] at H
 by_cases c6 : x4_1 < (l0.length : Int)
 rotate_left
 ·rw [if_neg c6] at H
  have c6b0 := decide_eq_false c6
  clear c6
  obtain rfl := Option.some.inj H
  go_wp2
  go_ret
  exact ⟨_, er_, by (with_reducible repeat (first | apply Kd.S_alloc | apply Kd.S_drewN | apply Kd.S_drew)); exact HO_3.out, bl_⟩
 rw [if_pos c6] at H
 have c6b0 := decide_eq_true c6
 clear c6
 by_cases c7 : 0 ≤ x4_1
 rotate_left
 ·exact nn_ c7 H
 rw [if_pos c7] at H
 have c7b0 := decide_eq_true c7
 clear c7
 replace H := bs_ H
 obtain ⟨⟨t407, t408, t409, t412⟩, A8, H⟩ := H
 try dsimp only at H
 by_cases c9 : x4_1 < (x3_1.length : Int)
 rotate_left
 ·exact nn_ c9 H
 rw [if_pos c9] at H
 have c9b0 := decide_eq_true c9
 clear c9
 obtain ⟨y413, hy413⟩ : ∃ y_ : List (S30), y_ = (x3_1.set (x4_1 : Int).toNat (⟨t407, t408, t409, t412⟩ : S30)) := ⟨_, rfl⟩
 replace H : (laws_toSegmentS.l0 k1 l0 y413 (wrap64 (x4_1 + 1))) = some r := rp_ H hy413
 have Ny413 := Aside0.mk hy413
 clear hy413
 have H' := Aside0.mk H
 clear H
 have p406 : 0 ≤ (x4_1 : Int) := of_decide_eq_true as_
 have q406 : x4_1 < (l0.length : Int) := of_decide_eq_true as_
 obtain ⟨ad406, A406_2, c406_2, e406, hx406_0, hx406_1, hx406_2, hx406_3, hl406_2, hi406_2⟩ := at_T25 HR0.out x4_1 p406 q406
 cases e406
 replace hx406_0 := (HB.out.cell (World.block_lt_of_cell? w _ hx406_0)).trans hx406_0
 replace hx406_1 := (HB.out.cell (World.block_lt_of_cell? w _ hx406_1)).trans hx406_1
 replace hx406_2 := (HB.out.cell (World.block_lt_of_cell? w _ hx406_2)).trans hx406_2
 replace hx406_3 := (HB.out.cell (World.block_lt_of_cell? w _ hx406_3)).trans hx406_3
 have HR406_2 := Aside0.mk hi406_2
 have HC406_2 := Aside0.mk hl406_2
 clear hi406_2 hl406_2
 replace p406 := eq_true p406
 replace q406 := eq_true q406
 go_wp2_with (first | ((with_reducible refine gate_callee (f := 19) rfl ?_); refine gs_ (some 20) Tryd.func19 #[.agg #[.int .i64 ((rd_T25 l0 x4_1).f0), .string ((rd_T25 l0 x4_1).f1), .slice A406_2 ((rd_T25 l0 x4_1).f2).length c406_2, .string ((rd_T25 l0 x4_1).f3)]] ?_; (with_reducible refine (laws_toSegment.calls k1 ((rd_T25 l0 x4_1).f0) ((rd_T25 l0 x4_1).f1) _ _ ((rd_T25 l0 x4_1).f2) ((rd_T25 l0 x4_1).f3) t407 t408 t409 t412 _ ?side1 ?side2 A8.out).mono ?_); (case side1 => exact cb_ HR406_2.out HB.out); (case side2 => exact HC406_2.out); rintro e w11 ⟨v410, rfl, ho0, hb⟩; refine ⟨_, rfl, ?_⟩; replace HO_3 := Aside0.mk (Kd.S_elder' (by (with_reducible repeat (first | apply Kd.S_alloc | apply Kd.S_drewN | apply Kd.S_drew)); exact HO_3.out) (Kd.R_base ho0) hb); have HO411 := Aside0.mk (Kd.R_lower ho0 (below_size bl_)); replace HB := Aside0.mk (below_step bl_ hb); (try clear hb); (try clear ho0); have p10 : 0 ≤ (x4_1 : Int) := of_decide_eq_true as_; have q10 : (x4_1 : Int) < ((x3_1.length : Int) : Int) := of_decide_eq_true as_; obtain ⟨go10, co10, eo10, gb10, gl10, cl10, HG10⟩ := Kd.S_form HO_3.out (by omega); (first | cases eo10 | (injection eo10 with ea_ en_ ec_; (first | subst ea_ | (injection ea_ with ea_; subst ea_)); subst ec_; clear en_)); have GB10 := Aside0.mk gb10; have GG10 := Aside0.mk HG10; clear gb10 gl10 HG10; obtain ⟨_, ce10, hcl10, hM10, hcc10, hfr10, _, _⟩ := Kd.S_elem HO_3.out z30 (x4_1 : Int) p10 q10; obtain ⟨ve10_2, rfl, ge10_2⟩ := k30_openM hM10; have hx10_0 : w11.cell? ⟨go10, (x4_1 : Int).toNat * 4, none⟩ = some (.int .i64 ((rd_T30 x3_1 x4_1).f0)) := hcc10 0 _ rfl; have hx10_1 : w11.cell? ⟨go10, (x4_1 : Int).toNat * 4 + 1, none⟩ = some (.string ((rd_T30 x3_1 x4_1).f1)) := hcc10 1 _ rfl; have hx10_2 : w11.cell? ⟨go10, (x4_1 : Int).toNat * 4 + 2, none⟩ = some (ve10_2) := hcc10 2 _ rfl; have hx10_3 : w11.cell? ⟨go10, (x4_1 : Int).toNat * 4 + 3, none⟩ = some (.string ((rd_T30 x3_1 x4_1).f3)) := hcc10 3 _ rfl; have hf10_0 : w11.frozen? ⟨go10, (x4_1 : Int).toNat * 4, none⟩ = false := hfr10 0; have hf10_1 : w11.frozen? ⟨go10, (x4_1 : Int).toNat * 4 + 1, none⟩ = false := hfr10 1; have hf10_2 : w11.frozen? ⟨go10, (x4_1 : Int).toNat * 4 + 2, none⟩ = false := hfr10 2; have hf10_3 : w11.frozen? ⟨go10, (x4_1 : Int).toNat * 4 + 3, none⟩ = false := hfr10 3; clear hcl10 hcc10 hfr10 hM10; replace p10 := eq_true p10; replace q10 := eq_true q10; have n_ := Aside0.mk (Kd.S_mono (ok' := (fun k_ => some k_ ≠ (v410 : Value).ownBlock)) HO_3.out (fun k_ hk => hk.2)); clear HO_3; have HO_3 := n_; clear n_; have HX12 := Aside0.mk (show Kd.S k30 30 w11 w.heap.size (fun k_ => ((fun _ => True)) k_ ∧ ¬ ((fun k_ => some k_ = (v410 : Value).ownBlock)) k_) (.slice (some ⟨go10, 0, none⟩) x3_1.length co10) x3_1 from (by (with_reducible repeat (first | apply Kd.S_alloc | apply Kd.S_drewN | apply Kd.S_drew)); exact Kd.S_mono HO_3.out (fun k_ hk => ⟨trivial, fun e_ => hk e_⟩))); obtain ⟨oki12, ce12, hcl12, hM12, hcc12, hfr12, hoki12, hH12⟩ := Kd.S_elem HX12.out z30 (x4_1 : Int) (of_decide_eq_true as_) (by have h_ : (x4_1 : Int) < ((x3_1.length : Int) : Int) := of_decide_eq_true as_; first | exact h_ | (have e_ := (Kd.S_reads' HO_3.out).1; omega) | simpa using h_); obtain ⟨ve12_2, rfl, ge12_2⟩ := k30_openM hM12; have HP12 := Kd.S_seg hH12 (of_decide_eq_true as_) (by have h_ : (x4_1 : Int) < ((x3_1.length : Int) : Int) := of_decide_eq_true as_; first | exact h_ | (have e_ := (Kd.S_reads' HO_3.out).1; omega) | simpa using h_) (seg := [.int .i64 t407, .string t408, v410, .string t412]) (j := 0) (show 4 ≤ 4 from by decide) (x' := (⟨t407, t408, t409, t412⟩ : S30)) (k30_mkM _ _ _ (⟨t407, t408, t409, t412⟩ : S30) (Kd.R_mono (Kd.R_tight rfl (Kd.R_mono (ok' := fun k_ => ((fun _ => True)) k_ ∧ k_ ≠ go10) (Kd.R_apart' (HO411.out) (Kd.S_typed HO_3.out) (by decide)) (fun k_ hk => ⟨trivial, fun e_ => (hk.2) (by rw [e_]; rfl)⟩))) (fun _ h_ => Or.inr (h_)))) (fun _ hk => hk) (fun k_ hk_ => ((Kd.R_mono (ok' := fun k_ => ((fun _ => True)) k_ ∧ k_ ≠ go10) (Kd.R_apart' (HO411.out) (Kd.S_typed HO_3.out) (by decide)) (fun k_ hk => ⟨trivial, fun e_ => (hk.2) (by rw [e_]; rfl)⟩))).1 k_ hk_.symm); have hx12_0 := hcc12 0 _ rfl; (try simp only [show (k30).sz = 4 from rfl, Nat.mul_one, Nat.add_zero] at hx12_0); have hf12_0 := hfr12 0; (try simp only [show (k30).sz = 4 from rfl, Nat.mul_one, Nat.add_zero] at hf12_0); have hx12_1 := hcc12 1 _ rfl; (try simp only [show (k30).sz = 4 from rfl, Nat.mul_one, Nat.add_zero] at hx12_1); have hf12_1 := hfr12 1; (try simp only [show (k30).sz = 4 from rfl, Nat.mul_one, Nat.add_zero] at hf12_1); have hx12_2 := hcc12 2 _ rfl; (try simp only [show (k30).sz = 4 from rfl, Nat.mul_one, Nat.add_zero] at hx12_2); have hf12_2 := hfr12 2; (try simp only [show (k30).sz = 4 from rfl, Nat.mul_one, Nat.add_zero] at hf12_2); have hx12_3 := hcc12 3 _ rfl; (try simp only [show (k30).sz = 4 from rfl, Nat.mul_one, Nat.add_zero] at hx12_3); have hf12_3 := hfr12 3; (try simp only [show (k30).sz = 4 from rfl, Nat.mul_one, Nat.add_zero] at hf12_3); clear hcl12 hcc12 hfr12 hM12 hoki12 hH12) | ((with_reducible refine gate_store (t := 30) (p := 21) rfl ?_); refine store_event (t := 30) (p := 21) (v := ?vo_w13) (w1 := ((((w11.setCell ⟨go10, (x4_1 : Int).toNat * 4, none⟩ (.int .i64 t407)).setCell ⟨go10, (x4_1 : Int).toNat * 4 + 1, none⟩ (.string t408)).setCell ⟨go10, (x4_1 : Int).toNat * 4 + 2, none⟩ (v410)).setCell ⟨go10, (x4_1 : Int).toNat * 4 + 3, none⟩ (.string t412))) ?hg ?ho ?hn ?hr ?_; (case ho => rfl); (case hg => rfl); (case hn => rfl); (case hr => first | (go_simp; done) | (go_simp; rfl) | (obtain ⟨Av410_, cv410_, ev410_⟩ := Kd.R_slice (Aside0.out (by assumption) : Kd.R _ _ _ _ _ v410 _); rw [ev410_]; first | (go_simp; done) | (go_simp; rfl))); intro w13 hw; have hg : w11.grownBy w13 (some go10) := (by rw [hw]; exact HP12.2); have hp_ : Kd.S k30 30 w13 w.heap.size (fun _ => True) (.slice (some ⟨go10, 0, none⟩) x3_1.length co10) y413 := (by rw [hw, Ny413.out]; exact HP12.1); clear HP12; replace HO_3 := Aside0.mk (hp_); replace HB := Aside0.mk ((by rw [hw]; exact below_set (below_set (below_set (below_set (HB.out) GB10.out) GB10.out) GB10.out) GB10.out : Below w.heap.size w w13)); clear HO411; clear hg hw hp_))
 go_roundg k1
 case measure => have := HK1.out; omega
 case rel => exact ⟨(y413), (wrap64 (x4_1 + 1)), (sr_), H', ⟨by have := HK1.out; omega⟩, ⟨by (with_reducible repeat (first | apply Kd.S_alloc | apply Kd.S_drewN | apply Kd.S_drew)); exact HO_3.out⟩, ⟨bl_⟩⟩


def impl_JoinSegments.l0 : Nat → List (S70) → ByteArray → List (S30) → Int → Int → Option ((List (S70)) × Bool)
 | 0, _, _, _, _, _ => none
 | k + 1, x4, x5, x10, x11, x12 => if x12 < x11 then (if 0 ≤ x12 then (if x12 < (x10.length : Int) then ((impl_SegmentOk.f k ((rd_T30 x10 x12).f0) ((rd_T30 x10 x12).f1) ((rd_T30 x10 x12).f2) ((rd_T30 x10 x12).f3)).bind fun t427 => (if t427 = true then (if ((rd_T30 x10 x12).f0) = (x4.length : Int) then (if ((rd_T30 x10 x12).f1).toList = x5.toList then (if x4.length + ((rd_T30 x10 x12).f2).length < 2932031007402 then (impl_JoinSegments.l0 k (x4 ++ ((rd_T30 x10 x12).f2)) ((rd_T30 x10 x12).f3) x10 x11 (wrap64 (x12 + 1))) else (none)) else (some ((([] : List (S70))), false))) else (some ((([] : List (S70))), false))) else (some ((([] : List (S70))), false)))) else (none)) else (none)) else (some (x4, true))
def impl_JoinSegments.f (k : Nat) (l0 : List (S30)) : Option ((List (S70)) × Bool) := (impl_Digest.f k (⟨#[]⟩ : ByteArray)).bind fun t424 => (impl_JoinSegments.l0 k (([] : List (S70))) t424 l0 (l0.length : Int) 0)
theorem impl_JoinSegments.mono_l : ∀ k, (∀ y0 y1 y2 y3 y4, LeO (impl_JoinSegments.l0 k y0 y1 y2 y3 y4) (impl_JoinSegments.l0 (k + 1) y0 y1 y2 y3 y4))
 | 0 => fun _ _ _ _ _ r h => by simp [impl_JoinSegments.l0] at h
 | k + 1 => by
  have ih0 := impl_JoinSegments.mono_l k
  ·intro y0 y1 y2 y3 y4
   unfold impl_JoinSegments.l0
   have m0 := @impl_Digest.mono
   have m1 := @impl_SegmentOk.mono
   exact mo_
theorem impl_JoinSegments.mono : ∀ a0 k, LeO (impl_JoinSegments.f k a0) (impl_JoinSegments.f (k + 1) a0) := by
 intro a0 k
 have ih0 := impl_JoinSegments.mono_l k
 unfold impl_JoinSegments.f
 have m0 := @impl_Digest.mono
 have m1 := @impl_SegmentOk.mono
 exact mo_
theorem impl_JoinSegments.calls (k : Nat) (A0 : Option Addr) (c0 : Nat) (l0 : List (S30)) (r1 : List (S70)) (r2 : Bool) (w : World) (hr0 : Kd.C k30 w A0 l0.length l0) (hc0 : l0.length ≤ c0) (hT : Tab w) (h : impl_JoinSegments.f k l0 = some (r1, r2)) :
 Calls Tryd.prog 41 #[.slice A0 l0.length c0] w fun e w' => ∃ v0_ : Value, e = .returned (.tuple #[v0_, .bool r2]) ∧ Kd.R k70 70 w' w.heap.size (fun _ => True) v0_ r1 ∧ Below w.heap.size w w' := by
 have hu30 := Tryd.underlying30
 have HR0 := Aside0.mk hr0
 have HC0 := Aside0.mk hc0
 clear hr0 hc0
 have HT := Aside0.mk hT
 clear hT
 have HB := Aside0.mk (Below.refl w.heap.size w)
 have H := h
 unfold impl_JoinSegments.f at H
 clear h
 obtain ⟨y421, hy421⟩ : ∃ y_ : List (S70), y_ = (([] : List (S70))) := ⟨_, rfl⟩
 replace H : ((impl_Digest.f k (⟨#[]⟩ : ByteArray)).bind fun t424 => (impl_JoinSegments.l0 k y421 t424 l0 (l0.length : Int) 0)) = some (r1, r2) := rp_ H hy421
 have Ny421 := Aside0.mk hy421
 clear hy421
 replace H := bs_ H
 obtain ⟨t424, A2, H⟩ := H
 try dsimp only at H
 have H' := Aside0.mk H
 clear H
 go_enter Tryd.func41, Tryd.ntmps41
 go_wp2_with (first | ((with_reducible refine gate_dst (N := 8) rfl ?_); (try (refine gate_guard (by rfl) ?_; dsimp only)); refine Kd.R_lit k70 _ 70 ?hg (N := 8) ?hd (xs := ([] : List (S70))) (inner := []) (ok := fun _ => True) (okp := fun _ => True) ?hr ?hp (fun _ hk => hk) trivial (Below.refl _ _) (Nat.le_refl _) (by simp) ?_; (case hd => rfl); (case hg => rfl); (case hr => first | (go_simp; done) | (go_simp; rfl)); (case hp => exact (Reps.none _ _)); intro v422 w3 ho4 hb hg_ hnew_; clear hg_ hnew_; (first | rw [← Ny421.out] at ho4 | (simp only [Int.reduceToNat] at ho4; rw [← Ny421.out] at ho4)); have HO423 := Aside0.mk (Kd.R_lower ho4 (below_size bl_)); replace HB := Aside0.mk (below_step bl_ hb); clear hb ho4) | ((with_reducible refine gate_callee (f := 86) rfl ?_); refine gs_ (some 9) Tryd.func86 #[.string (⟨#[]⟩ : ByteArray)] ?_; (with_reducible refine (impl_Digest.calls k (⟨#[]⟩ : ByteArray) t424 _ ?side1 A2.out).mono ?_); (case side1 => exact tab_of HT.out bl_); rintro e w5 ⟨rfl, hb⟩; refine ⟨_, rfl, ?_⟩; replace HO423 := Aside0.mk (Kd.R_below (ra_ HO423.out) hb); replace HB := Aside0.mk (below_step bl_ hb); (try clear hb)))
 go_loopg [4, 5, 12] k (fun kq v4 v5 v12 w' => ∃ (x4_1 : List (S70)) (x5_1 : ByteArray) (x12_1 : Int), v5 = .string x5_1 ∧ v12 = .int .i64 x12_1 ∧ Aside0 (impl_JoinSegments.l0 kq x4_1 x5_1 l0 (l0.length : Int) x12_1 = some (r1, r2)) ∧ Aside0 (kq ≤ k) ∧ Aside0 (Kd.R k70 70 w' w.heap.size (fun _ => True) v4 x4_1) ∧ Aside0 (Below w.heap.size w w'))
 case atStart => exact ⟨(y421), (t424), (0), (sr_), (sr_), H', ⟨Nat.le_refl _⟩, ⟨ra_ HO423.out⟩, ⟨bl_⟩⟩
 clear H'
 obtain ⟨x4_1, x5_1, x12_1, rfl, rfl, HA, HK1, HO_4, HB⟩ := hrel
 cases gk with
 | zero => exact absurd HA.out (by simp [impl_JoinSegments.l0])
 | succ k1 => ?_
 have H := HA.out
 clear HA
 simp only [impl_JoinSegments.l0] at H
 by_cases c6 : x12_1 < (l0.length : Int)
 rotate_left
 ·rw [if_neg c6] at H
  have c6b0 := decide_eq_false c6
  clear c6
  simp only [Option.some.injEq, Prod.mk.injEq] at H
  obtain ⟨rfl, rfl⟩ := H
  go_wp2
  go_ret2
  exact ⟨_, er_, ra_ HO_4.out, bl_⟩
 rw [if_pos c6] at H
 have c6b0 := decide_eq_true c6
 clear c6
 by_cases c7 : 0 ≤ x12_1
 rotate_left
 ·exact nn_ c7 H
 rw [if_pos c7] at H
 have c7b0 := decide_eq_true c7
 clear c7
 by_cases c8 : x12_1 < (l0.length : Int)
 rotate_left
 ·exact nn_ c8 H
 rw [if_pos c8] at H
 have c8b0 := decide_eq_true c8
 clear c8
 replace H := bs_ H
 obtain ⟨t427, A9, H⟩ := H
 try dsimp only at H
 by_cases c10 : t427 = true
 rotate_left
 ·replace c10 := Bool.eq_false_iff.mpr c10
  subst c10
  rw [nf_] at H
  obtain ⟨y437, hy437⟩ : ∃ y_ : List (S70), y_ = (([] : List (S70))) := ⟨_, rfl⟩
  replace H : (some (y437, false)) = some (r1, r2) := rp_ H hy437
  have Ny437 := Aside0.mk hy437
  clear hy437
  simp only [Option.some.injEq, Prod.mk.injEq] at H
  obtain ⟨rfl, rfl⟩ := H
  have p425 : 0 ≤ (x12_1 : Int) := of_decide_eq_true as_
  have q425 : x12_1 < (l0.length : Int) := of_decide_eq_true as_
  obtain ⟨ad425, A425_2, c425_2, e425, hx425_0, hx425_1, hx425_2, hx425_3, hl425_2, hi425_2⟩ := at_T30 HR0.out x12_1 p425 q425
  cases e425
  replace hx425_0 := (HB.out.cell (World.block_lt_of_cell? w _ hx425_0)).trans hx425_0
  replace hx425_1 := (HB.out.cell (World.block_lt_of_cell? w _ hx425_1)).trans hx425_1
  replace hx425_2 := (HB.out.cell (World.block_lt_of_cell? w _ hx425_2)).trans hx425_2
  replace hx425_3 := (HB.out.cell (World.block_lt_of_cell? w _ hx425_3)).trans hx425_3
  have HR425_2 := Aside0.mk hi425_2
  have HC425_2 := Aside0.mk hl425_2
  clear hi425_2 hl425_2
  replace p425 := eq_true p425
  replace q425 := eq_true q425
  go_wp2_with (first | ((with_reducible refine gate_dst (N := 7) rfl ?_); (try (refine gate_guard (by rfl) ?_; dsimp only)); refine bx_ 7 30 #[.int .i64 0, .string (⟨#[]⟩ : ByteArray), .slice none 0 0, .string (⟨#[]⟩ : ByteArray)] ?_; intro gb426 hg w35 hbox hb; replace HO_4 := Aside0.mk (Kd.R_below (ra_ HO_4.out) hb); have BK426 := Aside0.mk (hbox); have GW426 := Aside0.mk ((hz_ : w.heap.size ≤ gb426)); have GE426 := Aside0.mk ((hz_ : w.heap.size ≤ gb426)); replace HB := Aside0.mk (below_step bl_ hb); clear hb hbox hg; obtain ⟨hcz36_0, hcz36_1, hcz36_2, hcz36_3, hfz36_0, hfz36_1, hfz36_2, hfz36_3⟩ := cf4_ BK426.out) | ((with_reducible refine gate_callee (f := 20) rfl ?_); refine gs_ (some 17) Tryd.func20 #[.agg #[.int .i64 ((rd_T30 l0 x12_1).f0), .string ((rd_T30 l0 x12_1).f1), .slice A425_2 ((rd_T30 l0 x12_1).f2).length c425_2, .string ((rd_T30 l0 x12_1).f3)]] ?_; (with_reducible refine (impl_SegmentOk.calls k1 ((rd_T30 l0 x12_1).f0) ((rd_T30 l0 x12_1).f1) _ _ ((rd_T30 l0 x12_1).f2) ((rd_T30 l0 x12_1).f3) false _ ?side1 ?side2 ?side3 A9.out).mono ?_); (case side1 => exact Kd.C_below HR425_2.out bl_); (case side2 => exact HC425_2.out); (case side3 => exact tab_of HT.out bl_); rintro e w37 ⟨rfl, hb⟩; refine ⟨_, rfl, ?_⟩; replace HO_4 := Aside0.mk (Kd.R_below (rfa_ HO_4.out BK426.out) hb); replace BK426 := Aside0.mk (blk_below (g := gb426) (o := .cells #[.int .i64 ((rd_T30 l0 x12_1).f0), .string ((rd_T30 l0 x12_1).f1), .slice A425_2 ((rd_T30 l0 x12_1).f2).length c425_2, .string ((rd_T30 l0 x12_1).f3)] 30 (0, 0)) (bp0_ BK426.out) hb); replace HB := Aside0.mk (below_step bl_ hb); (try clear hb)) | ((with_reducible refine gate_dst (N := 32) rfl ?_); (try (refine gate_guard (by rfl) ?_; dsimp only)); refine Kd.R_lit k70 _ 70 ?hg (N := 32) ?hd (xs := ([] : List (S70))) (inner := []) (ok := fun _ => True) (okp := fun _ => True) ?hr ?hp (fun _ hk => hk) trivial (Below.refl _ _) (Nat.le_refl _) (by simp) ?_; (case hd => rfl); (case hg => rfl); (case hr => first | (go_simp; done) | (go_simp; rfl)); (case hp => exact (Reps.none _ _)); intro v438 w38 ho39 hb hg_ hnew_; clear hg_ hnew_; (first | rw [← Ny437.out] at ho39 | (simp only [Int.reduceToNat] at ho39; rw [← Ny437.out] at ho39)); have HO439 := Aside0.mk (Kd.R_lower (Kd.R_new' ho39 (Kd.R_lt (ra_ HO_4.out))) (below_size bl_)); replace HO_4 := Aside0.mk (Kd.R_elder' (ra_ HO_4.out) (Kd.R_base ho39) hb); replace BK426 := Aside0.mk (blk_below (bn0_ BK426.out) hb); replace HB := Aside0.mk (below_step bl_ hb); clear hb ho39))
  go_ret2
  exact ⟨_, er_, by (with_reducible repeat (first | apply Kd.R_alloc | apply Kd.R_drewN | apply Kd.R_drew)); exact Kd.R_mono HO439.out (fun _ hk => trivial), bl_⟩
 subst c10
 rw [if_pos rfl] at H
 by_cases c11 : ((rd_T30 l0 x12_1).f0) = (x4_1.length : Int)
 rotate_left
 ·rw [if_neg c11] at H
  have c11b0 : (((rd_T30 l0 x12_1).f0) == (x4_1.length : Int)) = false := beq_eq_false_iff_ne.mpr c11
  have c11b1 : (((rd_T30 l0 x12_1).f0) != (x4_1.length : Int)) = true := bne_iff_ne.mpr c11
  obtain ⟨y434, hy434⟩ : ∃ y_ : List (S70), y_ = (([] : List (S70))) := ⟨_, rfl⟩
  replace H : (some (y434, false)) = some (r1, r2) := rp_ H hy434
  have Ny434 := Aside0.mk hy434
  clear hy434
  simp only [Option.some.injEq, Prod.mk.injEq] at H
  obtain ⟨rfl, rfl⟩ := H
  have p425 : 0 ≤ (x12_1 : Int) := of_decide_eq_true as_
  have q425 : x12_1 < (l0.length : Int) := of_decide_eq_true as_
  obtain ⟨ad425, A425_2, c425_2, e425, hx425_0, hx425_1, hx425_2, hx425_3, hl425_2, hi425_2⟩ := at_T30 HR0.out x12_1 p425 q425
  cases e425
  replace hx425_0 := (HB.out.cell (World.block_lt_of_cell? w _ hx425_0)).trans hx425_0
  replace hx425_1 := (HB.out.cell (World.block_lt_of_cell? w _ hx425_1)).trans hx425_1
  replace hx425_2 := (HB.out.cell (World.block_lt_of_cell? w _ hx425_2)).trans hx425_2
  replace hx425_3 := (HB.out.cell (World.block_lt_of_cell? w _ hx425_3)).trans hx425_3
  have HR425_2 := Aside0.mk hi425_2
  have HC425_2 := Aside0.mk hl425_2
  clear hi425_2 hl425_2
  replace p425 := eq_true p425
  replace q425 := eq_true q425
  go_wp2_with (first | ((with_reducible refine gate_dst (N := 7) rfl ?_); (try (refine gate_guard (by rfl) ?_; dsimp only)); refine bx_ 7 30 #[.int .i64 0, .string (⟨#[]⟩ : ByteArray), .slice none 0 0, .string (⟨#[]⟩ : ByteArray)] ?_; intro gb426 hg w28 hbox hb; replace HO_4 := Aside0.mk (Kd.R_below (ra_ HO_4.out) hb); have BK426 := Aside0.mk (hbox); have GW426 := Aside0.mk ((hz_ : w.heap.size ≤ gb426)); have GE426 := Aside0.mk ((hz_ : w.heap.size ≤ gb426)); replace HB := Aside0.mk (below_step bl_ hb); clear hb hbox hg; obtain ⟨hcz29_0, hcz29_1, hcz29_2, hcz29_3, hfz29_0, hfz29_1, hfz29_2, hfz29_3⟩ := cf4_ BK426.out) | ((with_reducible refine gate_callee (f := 20) rfl ?_); refine gs_ (some 17) Tryd.func20 #[.agg #[.int .i64 ((rd_T30 l0 x12_1).f0), .string ((rd_T30 l0 x12_1).f1), .slice A425_2 ((rd_T30 l0 x12_1).f2).length c425_2, .string ((rd_T30 l0 x12_1).f3)]] ?_; (with_reducible refine (impl_SegmentOk.calls k1 ((rd_T30 l0 x12_1).f0) ((rd_T30 l0 x12_1).f1) _ _ ((rd_T30 l0 x12_1).f2) ((rd_T30 l0 x12_1).f3) true _ ?side1 ?side2 ?side3 A9.out).mono ?_); (case side1 => exact Kd.C_below HR425_2.out bl_); (case side2 => exact HC425_2.out); (case side3 => exact tab_of HT.out bl_); rintro e w30 ⟨rfl, hb⟩; refine ⟨_, rfl, ?_⟩; replace HO_4 := Aside0.mk (Kd.R_below (rfa_ HO_4.out BK426.out) hb); replace BK426 := Aside0.mk (blk_below (g := gb426) (o := .cells #[.int .i64 ((rd_T30 l0 x12_1).f0), .string ((rd_T30 l0 x12_1).f1), .slice A425_2 ((rd_T30 l0 x12_1).f2).length c425_2, .string ((rd_T30 l0 x12_1).f3)] 30 (0, 0)) (bp0_ BK426.out) hb); replace HB := Aside0.mk (below_step bl_ hb); (try clear hb); obtain ⟨hcz31_0, hcz31_1, hcz31_2, hcz31_3, hfz31_0, hfz31_1, hfz31_2, hfz31_3⟩ := cf4_ BK426.out; obtain ⟨Ao32, co32, eo32⟩ := Kd.R_slice HO_4.out; subst eo32) | ((with_reducible refine gate_dst (N := 32) rfl ?_); (try (refine gate_guard (by rfl) ?_; dsimp only)); refine Kd.R_lit k70 _ 70 ?hg (N := 32) ?hd (xs := ([] : List (S70))) (inner := []) (ok := fun _ => True) (okp := fun _ => True) ?hr ?hp (fun _ hk => hk) trivial (Below.refl _ _) (Nat.le_refl _) (by simp) ?_; (case hd => rfl); (case hg => rfl); (case hr => first | (go_simp; done) | (go_simp; rfl)); (case hp => exact (Reps.none _ _)); intro v435 w33 ho34 hb hg_ hnew_; clear hg_ hnew_; (first | rw [← Ny434.out] at ho34 | (simp only [Int.reduceToNat] at ho34; rw [← Ny434.out] at ho34)); have HO436 := Aside0.mk (Kd.R_lower (Kd.R_new' ho34 (Kd.R_lt (ra_ HO_4.out))) (below_size bl_)); replace HO_4 := Aside0.mk (Kd.R_elder' (ra_ HO_4.out) (Kd.R_base ho34) hb); replace BK426 := Aside0.mk (blk_below (bn0_ BK426.out) hb); replace HB := Aside0.mk (below_step bl_ hb); clear hb ho34))
  go_ret2
  exact ⟨_, er_, by (with_reducible repeat (first | apply Kd.R_alloc | apply Kd.R_drewN | apply Kd.R_drew)); exact Kd.R_mono HO436.out (fun _ hk => trivial), bl_⟩
 rw [if_pos c11] at H
 have c11b0 : (((rd_T30 l0 x12_1).f0) == (x4_1.length : Int)) = true := beq_iff_eq.mpr c11
 have c11b1 : (((rd_T30 l0 x12_1).f0) != (x4_1.length : Int)) = false := bne_eq_false_iff_eq.mpr c11
 clear c11
 by_cases c12 : ((rd_T30 l0 x12_1).f1).toList = x5_1.toList
 rotate_left
 ·rw [if_neg c12] at H
  have c12b0 : (((rd_T30 l0 x12_1).f1).toList == x5_1.toList) = false := beq_eq_false_iff_ne.mpr c12
  have c12b1 : (((rd_T30 l0 x12_1).f1).toList != x5_1.toList) = true := bne_iff_ne.mpr c12
  obtain ⟨y431, hy431⟩ : ∃ y_ : List (S70), y_ = (([] : List (S70))) := ⟨_, rfl⟩
  replace H : (some (y431, false)) = some (r1, r2) := rp_ H hy431
  have Ny431 := Aside0.mk hy431
  clear hy431
  simp only [Option.some.injEq, Prod.mk.injEq] at H
  obtain ⟨rfl, rfl⟩ := H
  have p425 : 0 ≤ (x12_1 : Int) := of_decide_eq_true as_
  have q425 : x12_1 < (l0.length : Int) := of_decide_eq_true as_
  obtain ⟨ad425, A425_2, c425_2, e425, hx425_0, hx425_1, hx425_2, hx425_3, hl425_2, hi425_2⟩ := at_T30 HR0.out x12_1 p425 q425
  cases e425
  replace hx425_0 := (HB.out.cell (World.block_lt_of_cell? w _ hx425_0)).trans hx425_0
  replace hx425_1 := (HB.out.cell (World.block_lt_of_cell? w _ hx425_1)).trans hx425_1
  replace hx425_2 := (HB.out.cell (World.block_lt_of_cell? w _ hx425_2)).trans hx425_2
  replace hx425_3 := (HB.out.cell (World.block_lt_of_cell? w _ hx425_3)).trans hx425_3
  have HR425_2 := Aside0.mk hi425_2
  have HC425_2 := Aside0.mk hl425_2
  clear hi425_2 hl425_2
  replace p425 := eq_true p425
  replace q425 := eq_true q425
  go_wp2_with (first | ((with_reducible refine gate_dst (N := 7) rfl ?_); (try (refine gate_guard (by rfl) ?_; dsimp only)); refine bx_ 7 30 #[.int .i64 0, .string (⟨#[]⟩ : ByteArray), .slice none 0 0, .string (⟨#[]⟩ : ByteArray)] ?_; intro gb426 hg w21 hbox hb; replace HO_4 := Aside0.mk (Kd.R_below (ra_ HO_4.out) hb); have BK426 := Aside0.mk (hbox); have GW426 := Aside0.mk ((hz_ : w.heap.size ≤ gb426)); have GE426 := Aside0.mk ((hz_ : w.heap.size ≤ gb426)); replace HB := Aside0.mk (below_step bl_ hb); clear hb hbox hg; obtain ⟨hcz22_0, hcz22_1, hcz22_2, hcz22_3, hfz22_0, hfz22_1, hfz22_2, hfz22_3⟩ := cf4_ BK426.out) | ((with_reducible refine gate_callee (f := 20) rfl ?_); refine gs_ (some 17) Tryd.func20 #[.agg #[.int .i64 ((rd_T30 l0 x12_1).f0), .string ((rd_T30 l0 x12_1).f1), .slice A425_2 ((rd_T30 l0 x12_1).f2).length c425_2, .string ((rd_T30 l0 x12_1).f3)]] ?_; (with_reducible refine (impl_SegmentOk.calls k1 ((rd_T30 l0 x12_1).f0) ((rd_T30 l0 x12_1).f1) _ _ ((rd_T30 l0 x12_1).f2) ((rd_T30 l0 x12_1).f3) true _ ?side1 ?side2 ?side3 A9.out).mono ?_); (case side1 => exact Kd.C_below HR425_2.out bl_); (case side2 => exact HC425_2.out); (case side3 => exact tab_of HT.out bl_); rintro e w23 ⟨rfl, hb⟩; refine ⟨_, rfl, ?_⟩; replace HO_4 := Aside0.mk (Kd.R_below (rfa_ HO_4.out BK426.out) hb); replace BK426 := Aside0.mk (blk_below (g := gb426) (o := .cells #[.int .i64 ((rd_T30 l0 x12_1).f0), .string ((rd_T30 l0 x12_1).f1), .slice A425_2 ((rd_T30 l0 x12_1).f2).length c425_2, .string ((rd_T30 l0 x12_1).f3)] 30 (0, 0)) (bp0_ BK426.out) hb); replace HB := Aside0.mk (below_step bl_ hb); (try clear hb); obtain ⟨hcz24_0, hcz24_1, hcz24_2, hcz24_3, hfz24_0, hfz24_1, hfz24_2, hfz24_3⟩ := cf4_ BK426.out; obtain ⟨Ao25, co25, eo25⟩ := Kd.R_slice HO_4.out; subst eo25) | ((with_reducible refine gate_dst (N := 32) rfl ?_); (try (refine gate_guard (by rfl) ?_; dsimp only)); refine Kd.R_lit k70 _ 70 ?hg (N := 32) ?hd (xs := ([] : List (S70))) (inner := []) (ok := fun _ => True) (okp := fun _ => True) ?hr ?hp (fun _ hk => hk) trivial (Below.refl _ _) (Nat.le_refl _) (by simp) ?_; (case hd => rfl); (case hg => rfl); (case hr => first | (go_simp; done) | (go_simp; rfl)); (case hp => exact (Reps.none _ _)); intro v432 w26 ho27 hb hg_ hnew_; clear hg_ hnew_; (first | rw [← Ny431.out] at ho27 | (simp only [Int.reduceToNat] at ho27; rw [← Ny431.out] at ho27)); have HO433 := Aside0.mk (Kd.R_lower (Kd.R_new' ho27 (Kd.R_lt (ra_ HO_4.out))) (below_size bl_)); replace HO_4 := Aside0.mk (Kd.R_elder' (ra_ HO_4.out) (Kd.R_base ho27) hb); replace BK426 := Aside0.mk (blk_below (bn0_ BK426.out) hb); replace HB := Aside0.mk (below_step bl_ hb); clear hb ho27))
  go_ret2
  exact ⟨_, er_, by (with_reducible repeat (first | apply Kd.R_alloc | apply Kd.R_drewN | apply Kd.R_drew)); exact Kd.R_mono HO433.out (fun _ hk => trivial), bl_⟩
 rw [if_pos c12] at H
 have c12b0 : (((rd_T30 l0 x12_1).f1).toList == x5_1.toList) = true := beq_iff_eq.mpr c12
 have c12b1 : (((rd_T30 l0 x12_1).f1).toList != x5_1.toList) = false := bne_eq_false_iff_eq.mpr c12
 clear c12
 by_cases c13 : x4_1.length + ((rd_T30 l0 x12_1).f2).length < 2932031007402
 rotate_left
 ·exact nn_ c13 H
 rw [if_pos c13] at H
 have LMc13 := Aside0.mk c13
 clear c13
 obtain ⟨y428, hy428⟩ : ∃ y_ : List (S70), y_ = (x4_1 ++ ((rd_T30 l0 x12_1).f2)) := ⟨_, rfl⟩
 replace H : (impl_JoinSegments.l0 k1 y428 ((rd_T30 l0 x12_1).f3) l0 (l0.length : Int) (wrap64 (x12_1 + 1))) = some (r1, r2) := rp_ H hy428
 have Ny428 := Aside0.mk hy428
 clear hy428
 have H' := Aside0.mk H
 clear H
 have p425 : 0 ≤ (x12_1 : Int) := of_decide_eq_true as_
 have q425 : x12_1 < (l0.length : Int) := of_decide_eq_true as_
 obtain ⟨ad425, A425_2, c425_2, e425, hx425_0, hx425_1, hx425_2, hx425_3, hl425_2, hi425_2⟩ := at_T30 HR0.out x12_1 p425 q425
 cases e425
 replace hx425_0 := (HB.out.cell (World.block_lt_of_cell? w _ hx425_0)).trans hx425_0
 replace hx425_1 := (HB.out.cell (World.block_lt_of_cell? w _ hx425_1)).trans hx425_1
 replace hx425_2 := (HB.out.cell (World.block_lt_of_cell? w _ hx425_2)).trans hx425_2
 replace hx425_3 := (HB.out.cell (World.block_lt_of_cell? w _ hx425_3)).trans hx425_3
 have HR425_2 := Aside0.mk hi425_2
 have HC425_2 := Aside0.mk hl425_2
 clear hi425_2 hl425_2
 replace p425 := eq_true p425
 replace q425 := eq_true q425
 go_wp2_with (first | ((with_reducible refine gate_dst (N := 7) rfl ?_); (try (refine gate_guard (by rfl) ?_; dsimp only)); refine bx_ 7 30 #[.int .i64 0, .string (⟨#[]⟩ : ByteArray), .slice none 0 0, .string (⟨#[]⟩ : ByteArray)] ?_; intro gb426 hg w14 hbox hb; replace HO_4 := Aside0.mk (Kd.R_below (ra_ HO_4.out) hb); have BK426 := Aside0.mk (hbox); have GW426 := Aside0.mk ((hz_ : w.heap.size ≤ gb426)); have GE426 := Aside0.mk ((hz_ : w.heap.size ≤ gb426)); replace HB := Aside0.mk (below_step bl_ hb); clear hb hbox hg; obtain ⟨hcz15_0, hcz15_1, hcz15_2, hcz15_3, hfz15_0, hfz15_1, hfz15_2, hfz15_3⟩ := cf4_ BK426.out) | ((with_reducible refine gate_callee (f := 20) rfl ?_); refine gs_ (some 17) Tryd.func20 #[.agg #[.int .i64 ((rd_T30 l0 x12_1).f0), .string ((rd_T30 l0 x12_1).f1), .slice A425_2 ((rd_T30 l0 x12_1).f2).length c425_2, .string ((rd_T30 l0 x12_1).f3)]] ?_; (with_reducible refine (impl_SegmentOk.calls k1 ((rd_T30 l0 x12_1).f0) ((rd_T30 l0 x12_1).f1) _ _ ((rd_T30 l0 x12_1).f2) ((rd_T30 l0 x12_1).f3) true _ ?side1 ?side2 ?side3 A9.out).mono ?_); (case side1 => exact Kd.C_below HR425_2.out bl_); (case side2 => exact HC425_2.out); (case side3 => exact tab_of HT.out bl_); rintro e w16 ⟨rfl, hb⟩; refine ⟨_, rfl, ?_⟩; replace HO_4 := Aside0.mk (Kd.R_below (rfa_ HO_4.out BK426.out) hb); replace BK426 := Aside0.mk (blk_below (g := gb426) (o := .cells #[.int .i64 ((rd_T30 l0 x12_1).f0), .string ((rd_T30 l0 x12_1).f1), .slice A425_2 ((rd_T30 l0 x12_1).f2).length c425_2, .string ((rd_T30 l0 x12_1).f3)] 30 (0, 0)) (bp0_ BK426.out) hb); replace HB := Aside0.mk (below_step bl_ hb); (try clear hb); obtain ⟨hcz17_0, hcz17_1, hcz17_2, hcz17_3, hfz17_0, hfz17_1, hfz17_2, hfz17_3⟩ := cf4_ BK426.out; obtain ⟨Ao18, co18, eo18⟩ := Kd.R_slice HO_4.out; subst eo18) | ((with_reducible refine gate_builtin (b := .append) (xs := #[.tmp 33, .tmp 35]) rfl ?_); (try (refine gate_guard (by rfl) ?_; dsimp only)); at_builtin; refine Kd.R_append_rows k70 (w0 := w) w.heap.size rfl (.tmp 33) (.tmp 35) 28 70 (.agg #[(.int .i64 0), (.int .i64 0), (.int .i64 0), (.int .i64 0), (.int .i64 0), (.int .i64 0)]) 48 rfl Tryd.underlying28 info70 rfl (by decide) (by omega) (.slice Ao18 x4_1.length co18) x4_1 ((rd_T30 l0 x12_1).f2) _ _ _ (fun _ => True) (fun _ => False) rfl rfl ?aO ?aR (fun _ _ h => h) (fun _ h => h.elim) ?aF ?aB ?aS ?aL ?_; (case aR => repeat (first | exact (Kd.C_below HR425_2.out HB.out) | exact HR425_2.out | (with_reducible refine Kd.C_alloc ?_ _) | (with_reducible refine Kd.C_drewN ?_ _) | (with_reducible refine Kd.C_drew ?_))); (case aB => exact bl_); (case aF => exact (fun _ _ => trivial)); (case aO => exact (ra_ HO_4.out)); (case aS => exact (below_size bl_)); (case aL => have := LMc13.out; omega); intro v429 w19 ho hb hg hat; rw [← Ny428.out] at ho; replace BK426 := Aside0.mk (blk_grown (g := gb426) (o := .cells #[.int .i64 ((rd_T30 l0 x12_1).f0), .string ((rd_T30 l0 x12_1).f1), .slice A425_2 ((rd_T30 l0 x12_1).f2).length c425_2, .string ((rd_T30 l0 x12_1).f3)] 30 (0, 0)) (bk_ BK426.out) hg (Kd.R_ne HO_4.out BK426.out (by decide))); replace HB := Aside0.mk (hb); have HO430 := Aside0.mk (ho); clear HO_4; clear ho hb hg hat; obtain ⟨hcz20_0, hcz20_1, hcz20_2, hcz20_3, hfz20_0, hfz20_1, hfz20_2, hfz20_3⟩ := cf4_ BK426.out))
 go_roundg k1
 case measure => have := HK1.out; omega
 case rel => exact ⟨(y428), ((rd_T30 l0 x12_1).f3), (wrap64 (x12_1 + 1)), (sr_), (sr_), H', ⟨by have := HK1.out; omega⟩, ⟨ra_ HO430.out⟩, ⟨bl_⟩⟩

end Go.Proofs.YtdhjolglbcoijaaDoor.PA
