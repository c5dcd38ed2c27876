/- Contracts of functions of the program and of the reference, and plain lemmas on what they compute. No condition. -/
import Derived.Test.YtdhjolglbcoijaaDoorGe1c07x0
import Derived.Test.YtdhjolglbcoijaaDoorGd11e3x1
import Derived.Test.YtdhjolglbcoijaaDoorGd11e3x0
import Derived.Test.YtdhjolglbcoijaaDoorShortV
set_option maxHeartbeats 8000000
set_option maxRecDepth 100000
namespace Go.Proofs.YtdhjolglbcoijaaDoor.PA
open Go.RowKit Go.Proofs.YtdhjolglbcoijaaDoor.Short Go.Proofs.YtdhjolglbcoijaaDoorW.PrintWords Go.Proofs.YtdhjolglbcoijaaDoorW.PrintLast Go.Proofs.YtdhjolglbcoijaaDoorW.PrintMore
attribute [local go_sem] max2_int min2_int max_two min_two max_three min_three max_four min_four   -- for this text's walks alone
set_option linter.unusedVariables false
set_option linter.unusedSimpArgs false

def laws_heldSegmentS.l0 : Nat → List (S30) → Int → Int → Option (Int)
 | 0, _, _, _ => none
 | k + 1, x0, x1, x5 => if x5 < (x0.length : Int) then (if 0 ≤ x5 then (if ((rd_T30 x0 x5).f0) = x1 then ((laws_markText.f k (wrap64 (x1 + 1))).bind fun t328 => (if ((rd_T30 x0 x5).f1).toList = t328.toList then ((laws_heldEntryS.f k ((rd_T30 x0 x5).f2) (wrap64 ((wrap64 (x1 + 1)) + 1))).bind fun t330 => (if t330 < 0 then (some (-1)) else ((laws_markText.f k t330).bind fun t332 => (if ((rd_T30 x0 x5).f3).toList = t332.toList then (laws_heldSegmentS.l0 k x0 (wrap64 (t330 + 1)) (wrap64 (x5 + 1))) else (some (-1)))))) else (some (-1)))) else (some (-1))) else (none)) else (some x1)
def laws_heldSegmentS.f (k : Nat) (l0 : List (S30)) (a1 : Int) : Option (Int) := laws_heldSegmentS.l0 k l0 a1 0
theorem laws_heldSegmentS.mono_l : ∀ k, (∀ y0 y1 y2, LeO (laws_heldSegmentS.l0 k y0 y1 y2) (laws_heldSegmentS.l0 (k + 1) y0 y1 y2))
 | 0 => fun _ _ _ r h => by simp [laws_heldSegmentS.l0] at h
 | k + 1 => by
  have ih0 := laws_heldSegmentS.mono_l k
  ·intro y0 y1 y2
   unfold laws_heldSegmentS.l0
   have m0 := @laws_heldEntryS.mono
   have m1 := @laws_markText.mono
   exact mo_
theorem laws_heldSegmentS.mono : ∀ a0 a1 k, LeO (laws_heldSegmentS.f k a0 a1) (laws_heldSegmentS.f (k + 1) a0 a1) := by
 intro a0 a1 k
 have ih0 := laws_heldSegmentS.mono_l k
 unfold laws_heldSegmentS.f
 have m0 := @laws_heldEntryS.mono
 have m1 := @laws_markText.mono
 exact mo_
def laws_heldSegmentS.T7 : Bool × List (List Nat × List Nat) := (true, [([], []), ([], []), ([0, 1], [0, 1]), ([2], [2]), ([3], [3]), ([], []), ([5], [5]), ([4, 6], [4, 6])])
def laws_heldSegmentS.B7 : List Nat := [0, 0, 3, 7, 15, 0, 32, 127]
theorem laws_heldSegmentS.tab7 : rtab .any (opsOf Tryd.f37 7) = laws_heldSegmentS.T7 := by kernel_rfl
theorem laws_heldSegmentS.bits7 : waitsOk laws_heldSegmentS.T7.2 laws_heldSegmentS.B7 = true := by kernel_rfl
def laws_heldSegmentS.T13 : Bool × List (List Nat × List Nat) := (true, [([], []), ([], []), ([0, 1], [0, 1]), ([2], [2]), ([3], [3]), ([], []), ([5], [5]), ([4, 6], [4, 6])])
def laws_heldSegmentS.B13 : List Nat := [0, 0, 3, 7, 15, 0, 32, 127]
theorem laws_heldSegmentS.tab13 : rtab .any (opsOf Tryd.f37 13) = laws_heldSegmentS.T13 := by kernel_rfl
theorem laws_heldSegmentS.bits13 : waitsOk laws_heldSegmentS.T13.2 laws_heldSegmentS.B13 = true := by kernel_rfl
theorem laws_heldSegmentS.calls (k : Nat) (A0 : Option Addr) (c0 : Nat) (l0 : List (S30)) (a1 : Int) (r : Int) (w : World) (hr0 : Kd.C k30 w A0 l0.length l0) (hc0 : l0.length ≤ c0) (h : laws_heldSegmentS.f k l0 a1 = some r) :
 Calls Tryd.prog 37 #[.slice A0 l0.length c0, .int .i64 a1] w fun e w' => e = .returned (.int .i64 r) ∧ Below w.heap.size w w' := by
 have HR0 := Aside0.mk hr0
 have HC0 := Aside0.mk hc0
 clear hr0 hc0
 have HB := Aside0.mk (Below.refl w.heap.size w)
 have H := h
 unfold laws_heldSegmentS.f at H
 clear h
 have H' := Aside0.mk H
 clear H
 go_enter Tryd.func37, Tryd.ntmps37
 go_wp2
 go_loopg [1, 5] k (fun kq v1 v5 w' => ∃ (x1_1 : Int) (x5_1 : Int), v1 = .int .i64 x1_1 ∧ v5 = .int .i64 x5_1 ∧ Aside0 (laws_heldSegmentS.l0 kq l0 x1_1 x5_1 = some r) ∧ Aside0 (kq ≤ k) ∧ Aside0 (Below w.heap.size w w'))
 case atStart => exact ⟨(a1), (0), (sr_), (sr_), H', ⟨Nat.le_refl _⟩, ⟨bl_⟩⟩
 clear H'
 obtain ⟨x1_1, x5_1, rfl, rfl, HA, HK1, HB⟩ := hrel
 cases gk with
 | zero => exact absurd HA.out (by simp [laws_heldSegmentS.l0])
 | succ k1 => ?_
 have H := HA.out
 clear HA
 simp only [laws_heldSegmentS.l0] at H
 by_cases c3 : x5_1 < (l0.length : Int)
 rotate_left
 ·rw [if_neg c3] at H
  have c3b0 := decide_eq_false c3
  clear c3
  obtain rfl := Option.some.inj H
  go_wp2
  go_ret
  exact ⟨er_, bl_⟩
 rw [if_pos c3] at H
 have c3b0 := decide_eq_true c3
 clear c3
 by_cases c4 : 0 ≤ x5_1
 rotate_left
 ·exact nn_ c4 H
 rw [if_pos c4] at H
 have c4b0 := decide_eq_true c4
 clear c4
 by_cases c5 : ((rd_T30 l0 x5_1).f0) = x1_1
 rotate_left
 ·rw [if_neg c5] at H
  have c5b0 : (((rd_T30 l0 x5_1).f0) == x1_1) = false := beq_eq_false_iff_ne.mpr c5
  have c5b1 : (((rd_T30 l0 x5_1).f0) != x1_1) = true := bne_iff_ne.mpr c5
  obtain rfl := Option.some.inj H
  have p326 : 0 ≤ (x5_1 : Int) := of_decide_eq_true as_
  have q326 : x5_1 < (l0.length : Int) := of_decide_eq_true as_
  (try clear hx327_0)
  (try clear hx327_1)
  (try clear hx327_2)
  (try clear hx327_3)
  (try clear hx331_0)
  (try clear hx331_1)
  (try clear hx331_2)
  (try clear hx331_3)
  (try clear hx329_0)
  (try clear hx329_1)
  (try clear hx329_2)
  (try clear hx329_3)
  (try clear hHeld)
  obtain ⟨ad326, A326_2, c326_2, e326, hx326_0, hx326_1, hx326_2, hx326_3, hl326_2, hi326_2⟩ := at_T30 HR0.out x5_1 p326 q326
  cases e326
  replace hx326_0 := (HB.out.cell (World.block_lt_of_cell? w _ hx326_0)).trans hx326_0
  replace hx326_1 := (HB.out.cell (World.block_lt_of_cell? w _ hx326_1)).trans hx326_1
  replace hx326_2 := (HB.out.cell (World.block_lt_of_cell? w _ hx326_2)).trans hx326_2
  replace hx326_3 := (HB.out.cell (World.block_lt_of_cell? w _ hx326_3)).trans hx326_3
  have HR326_2 := Aside0.mk hi326_2
  have HC326_2 := Aside0.mk hl326_2
  clear hi326_2 hl326_2
  replace p326 := eq_true p326
  replace q326 := eq_true q326
  go_wp2
  go_ret
  exact ⟨er_, bl_⟩
 rw [if_pos c5] at H
 have c5b0 : (((rd_T30 l0 x5_1).f0) == x1_1) = true := beq_iff_eq.mpr c5
 have c5b1 : (((rd_T30 l0 x5_1).f0) != x1_1) = false := bne_eq_false_iff_eq.mpr c5
 clear c5
 replace H := bs_ H
 obtain ⟨t328, A6, H⟩ := H
 try dsimp only at H
 by_cases c7 : ((rd_T30 l0 x5_1).f1).toList = t328.toList
 rotate_left
 ·rw [if_neg c7] at H
  have c7b0 : (((rd_T30 l0 x5_1).f1).toList == t328.toList) = false := beq_eq_false_iff_ne.mpr c7
  have c7b1 : (((rd_T30 l0 x5_1).f1).toList != t328.toList) = true := bne_iff_ne.mpr c7
  obtain rfl := Option.some.inj H
  have p326 : 0 ≤ (x5_1 : Int) := of_decide_eq_true as_
  have q326 : x5_1 < (l0.length : Int) := of_decide_eq_true as_
  (try clear hx329_0)
  (try clear hx329_1)
  (try clear hx329_2)
  (try clear hx329_3)
  (try clear hx331_0)
  (try clear hx331_1)
  (try clear hx331_2)
  (try clear hx331_3)
  (try clear hx327_0)
  (try clear hx327_1)
  (try clear hx327_2)
  (try clear hx327_3)
  (try clear hHeld)
  obtain ⟨ad326, A326_2, c326_2, e326, hx326_0, hx326_1, hx326_2, hx326_3, hl326_2, hi326_2⟩ := at_T30 HR0.out x5_1 p326 q326
  cases e326
  replace hx326_0 := (HB.out.cell (World.block_lt_of_cell? w _ hx326_0)).trans hx326_0
  replace hx326_1 := (HB.out.cell (World.block_lt_of_cell? w _ hx326_1)).trans hx326_1
  replace hx326_2 := (HB.out.cell (World.block_lt_of_cell? w _ hx326_2)).trans hx326_2
  replace hx326_3 := (HB.out.cell (World.block_lt_of_cell? w _ hx326_3)).trans hx326_3
  have HR326_2 := Aside0.mk hi326_2
  have HC326_2 := Aside0.mk hl326_2
  clear hi326_2 hl326_2
  replace p326 := eq_true p326
  replace q326 := eq_true q326
  try go_wp2
  have n0_ := Aside0.mk (below_drew1 HB.out)
  clear HB
  have HB := n0_
  clear n0_
  have p327 : 0 ≤ (x5_1 : Int) := of_decide_eq_true as_
  have q327 : x5_1 < (l0.length : Int) := of_decide_eq_true as_
  (try clear hx326_0)
  (try clear hx326_1)
  (try clear hx326_2)
  (try clear hx326_3)
  (try clear hx331_0)
  (try clear hx331_1)
  (try clear hx331_2)
  (try clear hx331_3)
  (try clear hx329_0)
  (try clear hx329_1)
  (try clear hx329_2)
  (try clear hx329_3)
  (try clear hHeld)
  obtain ⟨ad327, A327_2, c327_2, e327, hx327_0, hx327_1, hx327_2, hx327_3, hl327_2, hi327_2⟩ := at_T30 HR0.out x5_1 p327 q327
  have hw327_3 := hx327_3
  have hw327_2 := hx327_2
  have hw327_1 := hx327_1
  have hw327_0 := hx327_0
  obtain rfl : ad326 = ad327 := (by injection e327)
  replace hx327_0 := (HB.out.cell (World.block_lt_of_cell? w _ hx327_0)).trans hx327_0
  replace hx327_1 := (HB.out.cell (World.block_lt_of_cell? w _ hx327_1)).trans hx327_1
  replace hx327_2 := (HB.out.cell (World.block_lt_of_cell? w _ hx327_2)).trans hx327_2
  replace hx327_3 := (HB.out.cell (World.block_lt_of_cell? w _ hx327_3)).trans hx327_3
  have HR327_2 := Aside0.mk hi327_2
  have HC327_2 := Aside0.mk hl327_2
  clear hi327_2 hl327_2
  replace p327 := eq_true p327
  replace q327 := eq_true q327
  refine start_ (n := 8) (S := fun w' => w'.cell? (ad326.add ((x5_1).toNat * 4)) = some (.int .i64 ((rd_T30 l0 x5_1).f0)) ∧ w'.cell? ⟨(ad326.add ((x5_1).toNat * 4)).block, (ad326.add ((x5_1).toNat * 4)).off + 1, none⟩ = some (.string ((rd_T30 l0 x5_1).f1)) ∧ w'.cell? ⟨(ad326.add ((x5_1).toNat * 4)).block, (ad326.add ((x5_1).toNat * 4)).off + 2, none⟩ = some (.slice A327_2 ((rd_T30 l0 x5_1).f2).length c327_2) ∧ w'.cell? ⟨(ad326.add ((x5_1).toNat * 4)).block, (ad326.add ((x5_1).toNat * 4)).off + 3, none⟩ = some (.string ((rd_T30 l0 x5_1).f3))) (ds := []) #[false, false, false, false, false, false, false, false] (by kernel_rfl) rfl rfl ⟨((HB.out.cell (World.block_lt_of_cell? w _ hw327_0)).trans hw327_0), ((HB.out.cell (World.block_lt_of_cell? w _ hw327_1)).trans hw327_1), ((HB.out.cell (World.block_lt_of_cell? w _ hw327_2)).trans hw327_2), ((HB.out.cell (World.block_lt_of_cell? w _ hw327_3)).trans hw327_3)⟩ (fun hHeld => ?_); refine with_tabW laws_heldSegmentS.tab7 laws_heldSegmentS.bits7 (fun HT_ HW_ => ?_)
  generalize wr.drew = w22 at HB HR327_2 hx327_0 hx327_1 hx327_2 hx327_3 hHeld ⊢
  refine pu_ 0 21 HT_ ?_
  refine pu_ 1 22 HT_ ?_
  refine pu_ 2 23 HT_ ?_
  refine pu_ 3 24 HT_ ?_
  refine pu_ 5 26 HT_ ?_
  refine ta_ 4 25 HT_ HW_ hHeld ?_ (r := by rintro w' ⟨s0, s1, s2, s3⟩; go_simp; with_reducible rfl)
  refine on_ 6 27 HT_ (fun K hK => ?_)
  refine goes_ Tryd.func84 (by kernel_rfl) rfl #[.int .i64 (wrap64 (x1_1 + 1))] (by rfl) rfl rfl lm_ ?_
  with_reducible refine (laws_markText.calls k1 (wrap64 (x1_1 + 1)) t328 _ A6.out).mono ?_
  rintro e w23 ⟨rfl, hb⟩
  refine ⟨_, rfl, ?_⟩
  have n0_ := Aside0.mk (below_step bl_ hb)
  clear HB
  have HB := n0_
  clear n0_
  (try clear hb)
  (try clear hb2)
  (try clear hk)
  (try clear hi)
  refine hK.out _ _ ⟨((HB.out.cell (World.block_lt_of_cell? w _ hw327_0)).trans hw327_0), ((HB.out.cell (World.block_lt_of_cell? w _ hw327_1)).trans hw327_1), ((HB.out.cell (World.block_lt_of_cell? w _ hw327_2)).trans hw327_2), ((HB.out.cell (World.block_lt_of_cell? w _ hw327_3)).trans hw327_3)⟩ (fun hHeld => ?_)
  clear hK K
  refine norm_ (a' := ?_) ?_ ?_
  rotate_left
  ·show Act.put _ (some 27) _ = _
   simp only [Act.put, List.setIfInBounds_toArray, List.set_cons_zero, List.set_cons_succ, i64_w, i32_w]
   rfl
  refine pu_ 7 28 HT_ ?_
  refine done_ (done_of HT_.out (by kernel_rfl)) ?_
  try go_wp2
  go_ret
  exact ⟨er_, bl_⟩
 rw [if_pos c7] at H
 have c7b0 : (((rd_T30 l0 x5_1).f1).toList == t328.toList) = true := beq_iff_eq.mpr c7
 have c7b1 : (((rd_T30 l0 x5_1).f1).toList != t328.toList) = false := bne_eq_false_iff_eq.mpr c7
 clear c7
 replace H := bs_ H
 obtain ⟨t330, A8, H⟩ := H
 try dsimp only at H
 by_cases c9 : t330 < 0
 ·rw [if_pos c9] at H
  have c9b0 := decide_eq_true c9
  clear c9
  obtain rfl := Option.some.inj H
  have p326 : 0 ≤ (x5_1 : Int) := of_decide_eq_true as_
  have q326 : x5_1 < (l0.length : Int) := of_decide_eq_true as_
  (try clear hHeld)
  obtain ⟨ad326, A326_2, c326_2, e326, hx326_0, hx326_1, hx326_2, hx326_3, hl326_2, hi326_2⟩ := at_T30 HR0.out x5_1 p326 q326
  cases e326
  replace hx326_0 := (HB.out.cell (World.block_lt_of_cell? w _ hx326_0)).trans hx326_0
  replace hx326_1 := (HB.out.cell (World.block_lt_of_cell? w _ hx326_1)).trans hx326_1
  replace hx326_2 := (HB.out.cell (World.block_lt_of_cell? w _ hx326_2)).trans hx326_2
  replace hx326_3 := (HB.out.cell (World.block_lt_of_cell? w _ hx326_3)).trans hx326_3
  have HR326_2 := Aside0.mk hi326_2
  have HC326_2 := Aside0.mk hl326_2
  clear hi326_2 hl326_2
  replace p326 := eq_true p326
  replace q326 := eq_true q326
  try go_wp2
  have n0_ := Aside0.mk (below_drew1 HB.out)
  clear HB
  have HB := n0_
  clear n0_
  have p327 : 0 ≤ (x5_1 : Int) := of_decide_eq_true as_
  have q327 : x5_1 < (l0.length : Int) := of_decide_eq_true as_
  (try clear hx326_0)
  (try clear hx326_1)
  (try clear hx326_2)
  (try clear hx326_3)
  (try clear hHeld)
  obtain ⟨ad327, A327_2, c327_2, e327, hx327_0, hx327_1, hx327_2, hx327_3, hl327_2, hi327_2⟩ := at_T30 HR0.out x5_1 p327 q327
  have hw327_3 := hx327_3
  have hw327_2 := hx327_2
  have hw327_1 := hx327_1
  have hw327_0 := hx327_0
  obtain rfl : ad326 = ad327 := (by injection e327)
  replace hx327_0 := (HB.out.cell (World.block_lt_of_cell? w _ hx327_0)).trans hx327_0
  replace hx327_1 := (HB.out.cell (World.block_lt_of_cell? w _ hx327_1)).trans hx327_1
  replace hx327_2 := (HB.out.cell (World.block_lt_of_cell? w _ hx327_2)).trans hx327_2
  replace hx327_3 := (HB.out.cell (World.block_lt_of_cell? w _ hx327_3)).trans hx327_3
  have HR327_2 := Aside0.mk hi327_2
  have HC327_2 := Aside0.mk hl327_2
  clear hi327_2 hl327_2
  replace p327 := eq_true p327
  replace q327 := eq_true q327
  refine start_ (n := 8) (S := fun w' => w'.cell? (ad326.add ((x5_1).toNat * 4)) = some (.int .i64 ((rd_T30 l0 x5_1).f0)) ∧ w'.cell? ⟨(ad326.add ((x5_1).toNat * 4)).block, (ad326.add ((x5_1).toNat * 4)).off + 1, none⟩ = some (.string ((rd_T30 l0 x5_1).f1)) ∧ w'.cell? ⟨(ad326.add ((x5_1).toNat * 4)).block, (ad326.add ((x5_1).toNat * 4)).off + 2, none⟩ = some (.slice A327_2 ((rd_T30 l0 x5_1).f2).length c327_2) ∧ w'.cell? ⟨(ad326.add ((x5_1).toNat * 4)).block, (ad326.add ((x5_1).toNat * 4)).off + 3, none⟩ = some (.string ((rd_T30 l0 x5_1).f3))) (ds := []) #[false, false, false, false, false, false, false, false] (by kernel_rfl) rfl rfl ⟨((HB.out.cell (World.block_lt_of_cell? w _ hw327_0)).trans hw327_0), ((HB.out.cell (World.block_lt_of_cell? w _ hw327_1)).trans hw327_1), ((HB.out.cell (World.block_lt_of_cell? w _ hw327_2)).trans hw327_2), ((HB.out.cell (World.block_lt_of_cell? w _ hw327_3)).trans hw327_3)⟩ (fun hHeld => ?_); refine with_tabW laws_heldSegmentS.tab7 laws_heldSegmentS.bits7 (fun HT_ HW_ => ?_)
  generalize wr.drew = w10 at HB HR327_2 hx327_0 hx327_1 hx327_2 hx327_3 hHeld ⊢
  refine pu_ 0 21 HT_ ?_
  refine pu_ 1 22 HT_ ?_
  refine pu_ 2 23 HT_ ?_
  refine pu_ 3 24 HT_ ?_
  refine pu_ 5 26 HT_ ?_
  refine ta_ 4 25 HT_ HW_ hHeld ?_ (r := by rintro w' ⟨s0, s1, s2, s3⟩; go_simp; with_reducible rfl)
  refine on_ 6 27 HT_ (fun K hK => ?_)
  refine goes_ Tryd.func84 (by kernel_rfl) rfl #[.int .i64 (wrap64 (x1_1 + 1))] (by rfl) rfl rfl lm_ ?_
  with_reducible refine (laws_markText.calls k1 (wrap64 (x1_1 + 1)) t328 _ A6.out).mono ?_
  rintro e w11 ⟨rfl, hb⟩
  refine ⟨_, rfl, ?_⟩
  have n0_ := Aside0.mk (below_step bl_ hb)
  clear HB
  have HB := n0_
  clear n0_
  (try clear hb)
  (try clear hb2)
  (try clear hk)
  (try clear hi)
  refine hK.out _ _ ⟨((HB.out.cell (World.block_lt_of_cell? w _ hw327_0)).trans hw327_0), ((HB.out.cell (World.block_lt_of_cell? w _ hw327_1)).trans hw327_1), ((HB.out.cell (World.block_lt_of_cell? w _ hw327_2)).trans hw327_2), ((HB.out.cell (World.block_lt_of_cell? w _ hw327_3)).trans hw327_3)⟩ (fun hHeld => ?_)
  clear hK K
  refine norm_ (a' := ?_) ?_ ?_
  rotate_left
  ·show Act.put _ (some 27) _ = _
   simp only [Act.put, List.setIfInBounds_toArray, List.set_cons_zero, List.set_cons_succ, i64_w, i32_w]
   rfl
  refine pu_ 7 28 HT_ ?_
  refine done_ (done_of HT_.out (by kernel_rfl)) ?_
  have p329 : 0 ≤ (x5_1 : Int) := of_decide_eq_true as_
  have q329 : x5_1 < (l0.length : Int) := of_decide_eq_true as_
  (try clear hx326_0)
  (try clear hx326_1)
  (try clear hx326_2)
  (try clear hx326_3)
  (try clear hx327_0)
  (try clear hx327_1)
  (try clear hx327_2)
  (try clear hx327_3)
  (try clear hHeld)
  obtain ⟨ad329, A329_2, c329_2, e329, hx329_0, hx329_1, hx329_2, hx329_3, hl329_2, hi329_2⟩ := at_T30 HR0.out x5_1 p329 q329
  obtain rfl : ad326 = ad329 := (by injection e329)
  replace hx329_0 := (HB.out.cell (World.block_lt_of_cell? w _ hx329_0)).trans hx329_0
  replace hx329_1 := (HB.out.cell (World.block_lt_of_cell? w _ hx329_1)).trans hx329_1
  replace hx329_2 := (HB.out.cell (World.block_lt_of_cell? w _ hx329_2)).trans hx329_2
  replace hx329_3 := (HB.out.cell (World.block_lt_of_cell? w _ hx329_3)).trans hx329_3
  have HR329_2 := Aside0.mk hi329_2
  have HC329_2 := Aside0.mk hl329_2
  clear hi329_2 hl329_2
  replace p329 := eq_true p329
  replace q329 := eq_true q329
  try go_wp2_with (first | ((with_reducible refine gate_callee (f := 42) rfl ?_); refine gs_ (some 37) Tryd.func42 #[.slice A329_2 ((rd_T30 l0 x5_1).f2).length c329_2, .int .i64 (wrap64 ((wrap64 (x1_1 + 1)) + 1))] ?_; (with_reducible refine (laws_heldEntryS.calls k1 _ _ ((rd_T30 l0 x5_1).f2) (wrap64 ((wrap64 (x1_1 + 1)) + 1)) t330 _ ?side1 ?side2 A8.out).mono ?_); (case side1 => exact cb_ HR329_2.out HB.out); (case side2 => exact HC329_2.out); rintro e w' ⟨rfl, ⟨nd, rfl⟩⟩; refine ⟨_, rfl, ?_⟩))
  go_ret
  exact ⟨er_, bl_⟩
 rw [if_neg c9] at H
 have c9b0 := decide_eq_false c9
 clear c9
 replace H := bs_ H
 obtain ⟨t332, A12, H⟩ := H
 try dsimp only at H
 by_cases c13 : ((rd_T30 l0 x5_1).f3).toList = t332.toList
 ·rw [if_pos c13] at H
  have c13b0 : (((rd_T30 l0 x5_1).f3).toList == t332.toList) = true := beq_iff_eq.mpr c13
  have c13b1 : (((rd_T30 l0 x5_1).f3).toList != t332.toList) = false := bne_eq_false_iff_eq.mpr c13
  clear c13
  have H' := Aside0.mk H
  clear H
  have p326 : 0 ≤ (x5_1 : Int) := of_decide_eq_true as_
  have q326 : x5_1 < (l0.length : Int) := of_decide_eq_true as_
  (try clear hx327_0)
  (try clear hx327_1)
  (try clear hx327_2)
  (try clear hx327_3)
  (try clear hx329_0)
  (try clear hx329_1)
  (try clear hx329_2)
  (try clear hx329_3)
  (try clear hHeld)
  obtain ⟨ad326, A326_2, c326_2, e326, hx326_0, hx326_1, hx326_2, hx326_3, hl326_2, hi326_2⟩ := at_T30 HR0.out x5_1 p326 q326
  cases e326
  replace hx326_0 := (HB.out.cell (World.block_lt_of_cell? w _ hx326_0)).trans hx326_0
  replace hx326_1 := (HB.out.cell (World.block_lt_of_cell? w _ hx326_1)).trans hx326_1
  replace hx326_2 := (HB.out.cell (World.block_lt_of_cell? w _ hx326_2)).trans hx326_2
  replace hx326_3 := (HB.out.cell (World.block_lt_of_cell? w _ hx326_3)).trans hx326_3
  have HR326_2 := Aside0.mk hi326_2
  have HC326_2 := Aside0.mk hl326_2
  clear hi326_2 hl326_2
  replace p326 := eq_true p326
  replace q326 := eq_true q326
  try go_wp2
  have n0_ := Aside0.mk (below_drew1 HB.out)
  clear HB
  have HB := n0_
  clear n0_
  have p327 : 0 ≤ (x5_1 : Int) := of_decide_eq_true as_
  have q327 : x5_1 < (l0.length : Int) := of_decide_eq_true as_
  (try clear hx326_0)
  (try clear hx326_1)
  (try clear hx326_2)
  (try clear hx326_3)
  (try clear hx329_0)
  (try clear hx329_1)
  (try clear hx329_2)
  (try clear hx329_3)
  (try clear hHeld)
  obtain ⟨ad327, A327_2, c327_2, e327, hx327_0, hx327_1, hx327_2, hx327_3, hl327_2, hi327_2⟩ := at_T30 HR0.out x5_1 p327 q327
  have hw327_3 := hx327_3
  have hw327_2 := hx327_2
  have hw327_1 := hx327_1
  have hw327_0 := hx327_0
  obtain rfl : ad326 = ad327 := (by injection e327)
  replace hx327_0 := (HB.out.cell (World.block_lt_of_cell? w _ hx327_0)).trans hx327_0
  replace hx327_1 := (HB.out.cell (World.block_lt_of_cell? w _ hx327_1)).trans hx327_1
  replace hx327_2 := (HB.out.cell (World.block_lt_of_cell? w _ hx327_2)).trans hx327_2
  replace hx327_3 := (HB.out.cell (World.block_lt_of_cell? w _ hx327_3)).trans hx327_3
  have HR327_2 := Aside0.mk hi327_2
  have HC327_2 := Aside0.mk hl327_2
  clear hi327_2 hl327_2
  replace p327 := eq_true p327
  replace q327 := eq_true q327
  refine start_ (n := 8) (S := fun w' => w'.cell? (ad326.add ((x5_1).toNat * 4)) = some (.int .i64 ((rd_T30 l0 x5_1).f0)) ∧ w'.cell? ⟨(ad326.add ((x5_1).toNat * 4)).block, (ad326.add ((x5_1).toNat * 4)).off + 1, none⟩ = some (.string ((rd_T30 l0 x5_1).f1)) ∧ w'.cell? ⟨(ad326.add ((x5_1).toNat * 4)).block, (ad326.add ((x5_1).toNat * 4)).off + 2, none⟩ = some (.slice A327_2 ((rd_T30 l0 x5_1).f2).length c327_2) ∧ w'.cell? ⟨(ad326.add ((x5_1).toNat * 4)).block, (ad326.add ((x5_1).toNat * 4)).off + 3, none⟩ = some (.string ((rd_T30 l0 x5_1).f3))) (ds := []) #[false, false, false, false, false, false, false, false] (by kernel_rfl) rfl rfl ⟨((HB.out.cell (World.block_lt_of_cell? w _ hw327_0)).trans hw327_0), ((HB.out.cell (World.block_lt_of_cell? w _ hw327_1)).trans hw327_1), ((HB.out.cell (World.block_lt_of_cell? w _ hw327_2)).trans hw327_2), ((HB.out.cell (World.block_lt_of_cell? w _ hw327_3)).trans hw327_3)⟩ (fun hHeld => ?_); refine with_tabW laws_heldSegmentS.tab7 laws_heldSegmentS.bits7 (fun HT_ HW_ => ?_)
  generalize wr.drew = w14 at HB HR327_2 hx327_0 hx327_1 hx327_2 hx327_3 hHeld ⊢
  refine pu_ 0 21 HT_ ?_
  refine pu_ 1 22 HT_ ?_
  refine pu_ 2 23 HT_ ?_
  refine pu_ 3 24 HT_ ?_
  refine pu_ 5 26 HT_ ?_
  refine ta_ 4 25 HT_ HW_ hHeld ?_ (r := by rintro w' ⟨s0, s1, s2, s3⟩; go_simp; with_reducible rfl)
  refine on_ 6 27 HT_ (fun K hK => ?_)
  refine goes_ Tryd.func84 (by kernel_rfl) rfl #[.int .i64 (wrap64 (x1_1 + 1))] (by rfl) rfl rfl lm_ ?_
  with_reducible refine (laws_markText.calls k1 (wrap64 (x1_1 + 1)) t328 _ A6.out).mono ?_
  rintro e w15 ⟨rfl, hb⟩
  refine ⟨_, rfl, ?_⟩
  have n0_ := Aside0.mk (below_step bl_ hb)
  clear HB
  have HB := n0_
  clear n0_
  (try clear hb)
  (try clear hb2)
  (try clear hk)
  (try clear hi)
  refine hK.out _ _ ⟨((HB.out.cell (World.block_lt_of_cell? w _ hw327_0)).trans hw327_0), ((HB.out.cell (World.block_lt_of_cell? w _ hw327_1)).trans hw327_1), ((HB.out.cell (World.block_lt_of_cell? w _ hw327_2)).trans hw327_2), ((HB.out.cell (World.block_lt_of_cell? w _ hw327_3)).trans hw327_3)⟩ (fun hHeld => ?_)
  clear hK K
  refine norm_ (a' := ?_) ?_ ?_
  rotate_left
  ·show Act.put _ (some 27) _ = _
   simp only [Act.put, List.setIfInBounds_toArray, List.set_cons_zero, List.set_cons_succ, i64_w, i32_w]
   rfl
  refine pu_ 7 28 HT_ ?_
  refine done_ (done_of HT_.out (by kernel_rfl)) ?_
  have p329 : 0 ≤ (x5_1 : Int) := of_decide_eq_true as_
  have q329 : x5_1 < (l0.length : Int) := of_decide_eq_true as_
  (try clear hx327_0)
  (try clear hx327_1)
  (try clear hx327_2)
  (try clear hx327_3)
  (try clear hx326_0)
  (try clear hx326_1)
  (try clear hx326_2)
  (try clear hx326_3)
  (try clear hHeld)
  obtain ⟨ad329, A329_2, c329_2, e329, hx329_0, hx329_1, hx329_2, hx329_3, hl329_2, hi329_2⟩ := at_T30 HR0.out x5_1 p329 q329
  obtain rfl : ad326 = ad329 := (by injection e329)
  replace hx329_0 := (HB.out.cell (World.block_lt_of_cell? w _ hx329_0)).trans hx329_0
  replace hx329_1 := (HB.out.cell (World.block_lt_of_cell? w _ hx329_1)).trans hx329_1
  replace hx329_2 := (HB.out.cell (World.block_lt_of_cell? w _ hx329_2)).trans hx329_2
  replace hx329_3 := (HB.out.cell (World.block_lt_of_cell? w _ hx329_3)).trans hx329_3
  have HR329_2 := Aside0.mk hi329_2
  have HC329_2 := Aside0.mk hl329_2
  clear hi329_2 hl329_2
  replace p329 := eq_true p329
  replace q329 := eq_true q329
  try go_wp2_with (first | ((with_reducible refine gate_callee (f := 42) rfl ?_); refine gs_ (some 37) Tryd.func42 #[.slice A329_2 ((rd_T30 l0 x5_1).f2).length c329_2, .int .i64 (wrap64 ((wrap64 (x1_1 + 1)) + 1))] ?_; (with_reducible refine (laws_heldEntryS.calls k1 _ _ ((rd_T30 l0 x5_1).f2) (wrap64 ((wrap64 (x1_1 + 1)) + 1)) t330 _ ?side1 ?side2 A8.out).mono ?_); (case side1 => exact cb_ HR329_2.out HB.out); (case side2 => exact HC329_2.out); rintro e w' ⟨rfl, ⟨nd, rfl⟩⟩; refine ⟨_, rfl, ?_⟩))
  (try (rw [drewN_self w15]; generalize hq_ : World.drewN w15 _ = w15; have n0_ : Aside0 (Below w.heap.size w w15) := ⟨by rw [← hq_]; exact bl_⟩; clear HB hq_; have HB := n0_; clear n0_))
  have n0_ := Aside0.mk (below_drew1 HB.out)
  clear HB
  have HB := n0_
  clear n0_
  have p331 : 0 ≤ (x5_1 : Int) := of_decide_eq_true as_
  have q331 : x5_1 < (l0.length : Int) := of_decide_eq_true as_
  (try clear hx326_0)
  (try clear hx326_1)
  (try clear hx326_2)
  (try clear hx326_3)
  (try clear hx327_0)
  (try clear hx327_1)
  (try clear hx327_2)
  (try clear hx327_3)
  (try clear hx329_0)
  (try clear hx329_1)
  (try clear hx329_2)
  (try clear hx329_3)
  (try clear hHeld)
  obtain ⟨ad331, A331_2, c331_2, e331, hx331_0, hx331_1, hx331_2, hx331_3, hl331_2, hi331_2⟩ := at_T30 HR0.out x5_1 p331 q331
  have hw331_3 := hx331_3
  have hw331_2 := hx331_2
  have hw331_1 := hx331_1
  have hw331_0 := hx331_0
  obtain rfl : ad326 = ad331 := (by injection e331)
  replace hx331_0 := (HB.out.cell (World.block_lt_of_cell? w _ hx331_0)).trans hx331_0
  replace hx331_1 := (HB.out.cell (World.block_lt_of_cell? w _ hx331_1)).trans hx331_1
  replace hx331_2 := (HB.out.cell (World.block_lt_of_cell? w _ hx331_2)).trans hx331_2
  replace hx331_3 := (HB.out.cell (World.block_lt_of_cell? w _ hx331_3)).trans hx331_3
  have HR331_2 := Aside0.mk hi331_2
  have HC331_2 := Aside0.mk hl331_2
  clear hi331_2 hl331_2
  replace p331 := eq_true p331
  replace q331 := eq_true q331
  refine start_ (n := 8) (S := fun w' => w'.cell? (ad326.add ((x5_1).toNat * 4)) = some (.int .i64 ((rd_T30 l0 x5_1).f0)) ∧ w'.cell? ⟨(ad326.add ((x5_1).toNat * 4)).block, (ad326.add ((x5_1).toNat * 4)).off + 1, none⟩ = some (.string ((rd_T30 l0 x5_1).f1)) ∧ w'.cell? ⟨(ad326.add ((x5_1).toNat * 4)).block, (ad326.add ((x5_1).toNat * 4)).off + 2, none⟩ = some (.slice A331_2 ((rd_T30 l0 x5_1).f2).length c331_2) ∧ w'.cell? ⟨(ad326.add ((x5_1).toNat * 4)).block, (ad326.add ((x5_1).toNat * 4)).off + 3, none⟩ = some (.string ((rd_T30 l0 x5_1).f3))) (ds := []) #[false, false, false, false, false, false, false, false] (by kernel_rfl) rfl rfl ⟨((HB.out.cell (World.block_lt_of_cell? w _ hw331_0)).trans hw331_0), ((HB.out.cell (World.block_lt_of_cell? w _ hw331_1)).trans hw331_1), ((HB.out.cell (World.block_lt_of_cell? w _ hw331_2)).trans hw331_2), ((HB.out.cell (World.block_lt_of_cell? w _ hw331_3)).trans hw331_3)⟩ (fun hHeld => ?_); refine with_tabW laws_heldSegmentS.tab13 laws_heldSegmentS.bits13 (fun HT_ HW_ => ?_)
  generalize w15.drew = w16 at HB HR331_2 hx331_0 hx331_1 hx331_2 hx331_3 hHeld ⊢
  refine pu_ 0 40 HT_ ?_
  refine pu_ 1 41 HT_ ?_
  refine pu_ 2 42 HT_ ?_
  refine pu_ 3 43 HT_ ?_
  refine pu_ 5 45 HT_ ?_
  refine ta_ 4 44 HT_ HW_ hHeld ?_ (r := by rintro w' ⟨s0, s1, s2, s3⟩; go_simp; with_reducible rfl)
  refine on_ 6 46 HT_ (fun K hK => ?_)
  refine goes_ Tryd.func84 (by kernel_rfl) rfl #[.int .i64 t330] (by rfl) rfl rfl lm_ ?_
  with_reducible refine (laws_markText.calls k1 t330 t332 _ A12.out).mono ?_
  rintro e w17 ⟨rfl, hb⟩
  refine ⟨_, rfl, ?_⟩
  have n0_ := Aside0.mk (below_step bl_ hb)
  first | replace HR331_2 := Aside0.mk (Kd.C_below (by repeat (first | (with_reducible exact HR331_2.out) | (with_reducible refine Kd.C_alloc ?_ _) | (with_reducible refine Kd.C_drewN ?_ _) | (with_reducible refine Kd.C_drew ?_) | exact HR331_2.out)) hb) | skip
  clear HB
  have HB := n0_
  clear n0_
  (try clear hb)
  (try clear hb2)
  (try clear hk)
  (try clear hi)
  refine hK.out _ _ ⟨((HB.out.cell (World.block_lt_of_cell? w _ hw331_0)).trans hw331_0), ((HB.out.cell (World.block_lt_of_cell? w _ hw331_1)).trans hw331_1), ((HB.out.cell (World.block_lt_of_cell? w _ hw331_2)).trans hw331_2), ((HB.out.cell (World.block_lt_of_cell? w _ hw331_3)).trans hw331_3)⟩ (fun hHeld => ?_)
  clear hK K
  refine norm_ (a' := ?_) ?_ ?_
  rotate_left
  ·show Act.put _ (some 46) _ = _
   simp only [Act.put, List.setIfInBounds_toArray, List.set_cons_zero, List.set_cons_succ, i64_w, i32_w]
   rfl
  refine pu_ 7 47 HT_ ?_
  refine done_ (done_of HT_.out (by kernel_rfl)) ?_
  try go_wp2
  go_roundg k1
  case measure => have := HK1.out; omega
  case rel => exact ⟨(wrap64 (t330 + 1)), (wrap64 (x5_1 + 1)), (sr_), (sr_), H', ⟨by have := HK1.out; omega⟩, ⟨bl_⟩⟩
 rw [if_neg c13] at H
 have c13b0 : (((rd_T30 l0 x5_1).f3).toList == t332.toList) = false := beq_eq_false_iff_ne.mpr c13
 have c13b1 : (((rd_T30 l0 x5_1).f3).toList != t332.toList) = true := bne_iff_ne.mpr c13
 obtain rfl := Option.some.inj H
 have p326 : 0 ≤ (x5_1 : Int) := of_decide_eq_true as_
 have q326 : x5_1 < (l0.length : Int) := of_decide_eq_true as_
 (try clear hx329_0)
 (try clear hx329_1)
 (try clear hx329_2)
 (try clear hx329_3)
 (try clear hx327_0)
 (try clear hx327_1)
 (try clear hx327_2)
 (try clear hx327_3)
 (try clear hx331_0)
 (try clear hx331_1)
 (try clear hx331_2)
 (try clear hx331_3)
 (try clear hHeld)
 obtain ⟨ad326, A326_2, c326_2, e326, hx326_0, hx326_1, hx326_2, hx326_3, hl326_2, hi326_2⟩ := at_T30 HR0.out x5_1 p326 q326
 cases e326
 replace hx326_0 := (HB.out.cell (World.block_lt_of_cell? w _ hx326_0)).trans hx326_0
 replace hx326_1 := (HB.out.cell (World.block_lt_of_cell? w _ hx326_1)).trans hx326_1
 replace hx326_2 := (HB.out.cell (World.block_lt_of_cell? w _ hx326_2)).trans hx326_2
 replace hx326_3 := (HB.out.cell (World.block_lt_of_cell? w _ hx326_3)).trans hx326_3
 have HR326_2 := Aside0.mk hi326_2
 have HC326_2 := Aside0.mk hl326_2
 clear hi326_2 hl326_2
 replace p326 := eq_true p326
 replace q326 := eq_true q326
 try go_wp2
 have n0_ := Aside0.mk (below_drew1 HB.out)
 clear HB
 have HB := n0_
 clear n0_
 have p327 : 0 ≤ (x5_1 : Int) := of_decide_eq_true as_
 have q327 : x5_1 < (l0.length : Int) := of_decide_eq_true as_
 (try clear hx326_0)
 (try clear hx326_1)
 (try clear hx326_2)
 (try clear hx326_3)
 (try clear hx329_0)
 (try clear hx329_1)
 (try clear hx329_2)
 (try clear hx329_3)
 (try clear hx331_0)
 (try clear hx331_1)
 (try clear hx331_2)
 (try clear hx331_3)
 (try clear hHeld)
 obtain ⟨ad327, A327_2, c327_2, e327, hx327_0, hx327_1, hx327_2, hx327_3, hl327_2, hi327_2⟩ := at_T30 HR0.out x5_1 p327 q327
 have hw327_3 := hx327_3
 have hw327_2 := hx327_2
 have hw327_1 := hx327_1
 have hw327_0 := hx327_0
 obtain rfl : ad326 = ad327 := (by injection e327)
 replace hx327_0 := (HB.out.cell (World.block_lt_of_cell? w _ hx327_0)).trans hx327_0
 replace hx327_1 := (HB.out.cell (World.block_lt_of_cell? w _ hx327_1)).trans hx327_1
 replace hx327_2 := (HB.out.cell (World.block_lt_of_cell? w _ hx327_2)).trans hx327_2
 replace hx327_3 := (HB.out.cell (World.block_lt_of_cell? w _ hx327_3)).trans hx327_3
 have HR327_2 := Aside0.mk hi327_2
 have HC327_2 := Aside0.mk hl327_2
 clear hi327_2 hl327_2
 replace p327 := eq_true p327
 replace q327 := eq_true q327
 refine start_ (n := 8) (S := fun w' => w'.cell? (ad326.add ((x5_1).toNat * 4)) = some (.int .i64 ((rd_T30 l0 x5_1).f0)) ∧ w'.cell? ⟨(ad326.add ((x5_1).toNat * 4)).block, (ad326.add ((x5_1).toNat * 4)).off + 1, none⟩ = some (.string ((rd_T30 l0 x5_1).f1)) ∧ w'.cell? ⟨(ad326.add ((x5_1).toNat * 4)).block, (ad326.add ((x5_1).toNat * 4)).off + 2, none⟩ = some (.slice A327_2 ((rd_T30 l0 x5_1).f2).length c327_2) ∧ w'.cell? ⟨(ad326.add ((x5_1).toNat * 4)).block, (ad326.add ((x5_1).toNat * 4)).off + 3, none⟩ = some (.string ((rd_T30 l0 x5_1).f3))) (ds := []) #[false, false, false, false, false, false, false, false] (by kernel_rfl) rfl rfl ⟨((HB.out.cell (World.block_lt_of_cell? w _ hw327_0)).trans hw327_0), ((HB.out.cell (World.block_lt_of_cell? w _ hw327_1)).trans hw327_1), ((HB.out.cell (World.block_lt_of_cell? w _ hw327_2)).trans hw327_2), ((HB.out.cell (World.block_lt_of_cell? w _ hw327_3)).trans hw327_3)⟩ (fun hHeld => ?_); refine with_tabW laws_heldSegmentS.tab7 laws_heldSegmentS.bits7 (fun HT_ HW_ => ?_)
 generalize wr.drew = w18 at HB HR327_2 hx327_0 hx327_1 hx327_2 hx327_3 hHeld ⊢
 refine pu_ 0 21 HT_ ?_
 refine pu_ 1 22 HT_ ?_
 refine pu_ 2 23 HT_ ?_
 refine pu_ 3 24 HT_ ?_
 refine pu_ 5 26 HT_ ?_
 refine ta_ 4 25 HT_ HW_ hHeld ?_ (r := by rintro w' ⟨s0, s1, s2, s3⟩; go_simp; with_reducible rfl)
 refine on_ 6 27 HT_ (fun K hK => ?_)
 refine goes_ Tryd.func84 (by kernel_rfl) rfl #[.int .i64 (wrap64 (x1_1 + 1))] (by rfl) rfl rfl lm_ ?_
 with_reducible refine (laws_markText.calls k1 (wrap64 (x1_1 + 1)) t328 _ A6.out).mono ?_
 rintro e w19 ⟨rfl, hb⟩
 refine ⟨_, rfl, ?_⟩
 have n0_ := Aside0.mk (below_step bl_ hb)
 clear HB
 have HB := n0_
 clear n0_
 (try clear hb)
 (try clear hb2)
 (try clear hk)
 (try clear hi)
 refine hK.out _ _ ⟨((HB.out.cell (World.block_lt_of_cell? w _ hw327_0)).trans hw327_0), ((HB.out.cell (World.block_lt_of_cell? w _ hw327_1)).trans hw327_1), ((HB.out.cell (World.block_lt_of_cell? w _ hw327_2)).trans hw327_2), ((HB.out.cell (World.block_lt_of_cell? w _ hw327_3)).trans hw327_3)⟩ (fun hHeld => ?_)
 clear hK K
 refine norm_ (a' := ?_) ?_ ?_
 rotate_left
 ·show Act.put _ (some 27) _ = _
  simp only [Act.put, List.setIfInBounds_toArray, List.set_cons_zero, List.set_cons_succ, i64_w, i32_w]
  rfl
 refine pu_ 7 28 HT_ ?_
 refine done_ (done_of HT_.out (by kernel_rfl)) ?_
 have p329 : 0 ≤ (x5_1 : Int) := of_decide_eq_true as_
 have q329 : x5_1 < (l0.length : Int) := of_decide_eq_true as_
 (try clear hx326_0)
 (try clear hx326_1)
 (try clear hx326_2)
 (try clear hx326_3)
 (try clear hx327_0)
 (try clear hx327_1)
 (try clear hx327_2)
 (try clear hx327_3)
 (try clear hx331_0)
 (try clear hx331_1)
 (try clear hx331_2)
 (try clear hx331_3)
 (try clear hHeld)
 obtain ⟨ad329, A329_2, c329_2, e329, hx329_0, hx329_1, hx329_2, hx329_3, hl329_2, hi329_2⟩ := at_T30 HR0.out x5_1 p329 q329
 obtain rfl : ad326 = ad329 := (by injection e329)
 replace hx329_0 := (HB.out.cell (World.block_lt_of_cell? w _ hx329_0)).trans hx329_0
 replace hx329_1 := (HB.out.cell (World.block_lt_of_cell? w _ hx329_1)).trans hx329_1
 replace hx329_2 := (HB.out.cell (World.block_lt_of_cell? w _ hx329_2)).trans hx329_2
 replace hx329_3 := (HB.out.cell (World.block_lt_of_cell? w _ hx329_3)).trans hx329_3
 have HR329_2 := Aside0.mk hi329_2
 have HC329_2 := Aside0.mk hl329_2
 clear hi329_2 hl329_2
 replace p329 := eq_true p329
 replace q329 := eq_true q329
 try go_wp2_with (first | ((with_reducible refine gate_callee (f := 42) rfl ?_); refine gs_ (some 37) Tryd.func42 #[.slice A329_2 ((rd_T30 l0 x5_1).f2).length c329_2, .int .i64 (wrap64 ((wrap64 (x1_1 + 1)) + 1))] ?_; (with_reducible refine (laws_heldEntryS.calls k1 _ _ ((rd_T30 l0 x5_1).f2) (wrap64 ((wrap64 (x1_1 + 1)) + 1)) t330 _ ?side1 ?side2 A8.out).mono ?_); (case side1 => exact cb_ HR329_2.out HB.out); (case side2 => exact HC329_2.out); rintro e w' ⟨rfl, ⟨nd, rfl⟩⟩; refine ⟨_, rfl, ?_⟩))
 (try (rw [drewN_self w19]; generalize hq_ : World.drewN w19 _ = w19; have n0_ : Aside0 (Below w.heap.size w w19) := ⟨by rw [← hq_]; exact bl_⟩; clear HB hq_; have HB := n0_; clear n0_))
 have n0_ := Aside0.mk (below_drew1 HB.out)
 clear HB
 have HB := n0_
 clear n0_
 have p331 : 0 ≤ (x5_1 : Int) := of_decide_eq_true as_
 have q331 : x5_1 < (l0.length : Int) := of_decide_eq_true as_
 (try clear hx329_0)
 (try clear hx329_1)
 (try clear hx329_2)
 (try clear hx329_3)
 (try clear hx327_0)
 (try clear hx327_1)
 (try clear hx327_2)
 (try clear hx327_3)
 (try clear hx326_0)
 (try clear hx326_1)
 (try clear hx326_2)
 (try clear hx326_3)
 (try clear hHeld)
 obtain ⟨ad331, A331_2, c331_2, e331, hx331_0, hx331_1, hx331_2, hx331_3, hl331_2, hi331_2⟩ := at_T30 HR0.out x5_1 p331 q331
 have hw331_3 := hx331_3
 have hw331_2 := hx331_2
 have hw331_1 := hx331_1
 have hw331_0 := hx331_0
 obtain rfl : ad326 = ad331 := (by injection e331)
 replace hx331_0 := (HB.out.cell (World.block_lt_of_cell? w _ hx331_0)).trans hx331_0
 replace hx331_1 := (HB.out.cell (World.block_lt_of_cell? w _ hx331_1)).trans hx331_1
 replace hx331_2 := (HB.out.cell (World.block_lt_of_cell? w _ hx331_2)).trans hx331_2
 replace hx331_3 := (HB.out.cell (World.block_lt_of_cell? w _ hx331_3)).trans hx331_3
 have HR331_2 := Aside0.mk hi331_2
 have HC331_2 := Aside0.mk hl331_2
 clear hi331_2 hl331_2
 replace p331 := eq_true p331
 replace q331 := eq_true q331
 refine start_ (n := 8) (S := fun w' => w'.cell? (ad326.add ((x5_1).toNat * 4)) = some (.int .i64 ((rd_T30 l0 x5_1).f0)) ∧ w'.cell? ⟨(ad326.add ((x5_1).toNat * 4)).block, (ad326.add ((x5_1).toNat * 4)).off + 1, none⟩ = some (.string ((rd_T30 l0 x5_1).f1)) ∧ w'.cell? ⟨(ad326.add ((x5_1).toNat * 4)).block, (ad326.add ((x5_1).toNat * 4)).off + 2, none⟩ = some (.slice A331_2 ((rd_T30 l0 x5_1).f2).length c331_2) ∧ w'.cell? ⟨(ad326.add ((x5_1).toNat * 4)).block, (ad326.add ((x5_1).toNat * 4)).off + 3, none⟩ = some (.string ((rd_T30 l0 x5_1).f3))) (ds := []) #[false, false, false, false, false, false, false, false] (by kernel_rfl) rfl rfl ⟨((HB.out.cell (World.block_lt_of_cell? w _ hw331_0)).trans hw331_0), ((HB.out.cell (World.block_lt_of_cell? w _ hw331_1)).trans hw331_1), ((HB.out.cell (World.block_lt_of_cell? w _ hw331_2)).trans hw331_2), ((HB.out.cell (World.block_lt_of_cell? w _ hw331_3)).trans hw331_3)⟩ (fun hHeld => ?_); refine with_tabW laws_heldSegmentS.tab13 laws_heldSegmentS.bits13 (fun HT_ HW_ => ?_)
 generalize w19.drew = w20 at HB HR331_2 hx331_0 hx331_1 hx331_2 hx331_3 hHeld ⊢
 refine pu_ 0 40 HT_ ?_
 refine pu_ 1 41 HT_ ?_
 refine pu_ 2 42 HT_ ?_
 refine pu_ 3 43 HT_ ?_
 refine pu_ 5 45 HT_ ?_
 refine ta_ 4 44 HT_ HW_ hHeld ?_ (r := by rintro w' ⟨s0, s1, s2, s3⟩; go_simp; with_reducible rfl)
 refine on_ 6 46 HT_ (fun K hK => ?_)
 refine goes_ Tryd.func84 (by kernel_rfl) rfl #[.int .i64 t330] (by rfl) rfl rfl lm_ ?_
 with_reducible refine (laws_markText.calls k1 t330 t332 _ A12.out).mono ?_
 rintro e w21 ⟨rfl, hb⟩
 refine ⟨_, rfl, ?_⟩
 have n0_ := Aside0.mk (below_step bl_ hb)
 first | replace HR331_2 := Aside0.mk (Kd.C_below (by repeat (first | (with_reducible exact HR331_2.out) | (with_reducible refine Kd.C_alloc ?_ _) | (with_reducible refine Kd.C_drewN ?_ _) | (with_reducible refine Kd.C_drew ?_) | exact HR331_2.out)) hb) | skip
 clear HB
 have HB := n0_
 clear n0_
 (try clear hb)
 (try clear hb2)
 (try clear hk)
 (try clear hi)
 refine hK.out _ _ ⟨((HB.out.cell (World.block_lt_of_cell? w _ hw331_0)).trans hw331_0), ((HB.out.cell (World.block_lt_of_cell? w _ hw331_1)).trans hw331_1), ((HB.out.cell (World.block_lt_of_cell? w _ hw331_2)).trans hw331_2), ((HB.out.cell (World.block_lt_of_cell? w _ hw331_3)).trans hw331_3)⟩ (fun hHeld => ?_)
 clear hK K
 refine norm_ (a' := ?_) ?_ ?_
 rotate_left
 ·show Act.put _ (some 46) _ = _
  simp only [Act.put, List.setIfInBounds_toArray, List.set_cons_zero, List.set_cons_succ, i64_w, i32_w]
  rfl
 refine pu_ 7 47 HT_ ?_
 refine done_ (done_of HT_.out (by kernel_rfl)) ?_
 try go_wp2
 go_ret
 exact ⟨er_, bl_⟩

end Go.Proofs.YtdhjolglbcoijaaDoor.PA
