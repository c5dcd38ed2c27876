/- Contracts of functions of the program and of the reference, and plain lemmas on what they compute: a part of the proof of the law FnExactShowWorld. No condition. -/
import Derived.Test.YtcbjlcgfhbfneaaGreatDoorJFnExactShowWorld1
import Derived.Test.YtcbjlcgfhbfneaaGreatDoorShortV
set_option maxHeartbeats 8000000
set_option maxRecDepth 100000
namespace Go.Proofs.YtcbjlcgfhbfneaaGreatDoor.PA
open Go.RowKit Go.Proofs.YtcbjlcgfhbfneaaGreatDoor.Short Go.Proofs.YtcbjlcgfhbfneaaGreatDoorW.PrintWords Go.Proofs.YtcbjlcgfhbfneaaGreatDoorW.PrintLast Go.Proofs.YtcbjlcgfhbfneaaGreatDoorW.PrintMore
attribute [local go_sem] max2_int min2_int max_two min_two max_three min_three max_four min_four   -- for this text's walks alone
set_option linter.unusedVariables false
set_option linter.unusedSimpArgs false

def laws_eqItem.f (a0_0 : Int) (a0_1 : Int) (a0_2 : Int) (a0_3 : Int) (a1_0 : Int) (a1_1 : Int) (a1_2 : Int) (a1_3 : Int) : Option (Bool) := if a0_0 = a1_0 then (if a0_1 = a1_1 then (if a0_2 = a1_2 then (if a0_3 = a1_3 then (some true) else (some false)) else (some false)) else (some false)) else (some false)
theorem laws_eqItem.calls (a0_0 : Int) (a0_1 : Int) (a0_2 : Int) (a0_3 : Int) (a1_0 : Int) (a1_1 : Int) (a1_2 : Int) (a1_3 : Int) (r : Bool) (w : World) (hrt : r = true) (h : laws_eqItem.f a0_0 a0_1 a0_2 a0_3 a1_0 a1_1 a1_2 a1_3 = some r) :
 Calls Tryz.prog 97 #[.agg #[.int .i64 a0_0, .int .i64 a0_1, .int .i64 a0_2, .int .i64 a0_3], .agg #[.int .i64 a1_0, .int .i64 a1_1, .int .i64 a1_2, .int .i64 a1_3]] w fun e w' => e = .returned (.bool r) ∧ Below w.heap.size w w' := by
 have hu59 := Tryz.underlying59
 have HRt := Aside0.mk hrt
 clear hrt
 have HB := Aside0.mk (Below.refl w.heap.size w)
 have H := h
 unfold laws_eqItem.f at H
 clear h
 by_cases c3 : a0_0 = a1_0
 rotate_left
 ·rw [if_neg c3] at H
  have c3b0 : (a0_0 == a1_0) = false := beq_eq_false_iff_ne.mpr c3
  have c3b1 : (a0_0 != a1_0) = true := bne_iff_ne.mpr c3
  exact absurd ((Option.some.inj H).trans HRt.out) (by decide)
 rw [if_pos c3] at H
 have c3b0 : (a0_0 == a1_0) = true := beq_iff_eq.mpr c3
 have c3b1 : (a0_0 != a1_0) = false := bne_eq_false_iff_eq.mpr c3
 clear c3
 by_cases c4 : a0_1 = a1_1
 rotate_left
 ·rw [if_neg c4] at H
  have c4b0 : (a0_1 == a1_1) = false := beq_eq_false_iff_ne.mpr c4
  have c4b1 : (a0_1 != a1_1) = true := bne_iff_ne.mpr c4
  exact absurd ((Option.some.inj H).trans HRt.out) (by decide)
 rw [if_pos c4] at H
 have c4b0 : (a0_1 == a1_1) = true := beq_iff_eq.mpr c4
 have c4b1 : (a0_1 != a1_1) = false := bne_eq_false_iff_eq.mpr c4
 clear c4
 by_cases c5 : a0_2 = a1_2
 rotate_left
 ·rw [if_neg c5] at H
  have c5b0 : (a0_2 == a1_2) = false := beq_eq_false_iff_ne.mpr c5
  have c5b1 : (a0_2 != a1_2) = true := bne_iff_ne.mpr c5
  exact absurd ((Option.some.inj H).trans HRt.out) (by decide)
 rw [if_pos c5] at H
 have c5b0 : (a0_2 == a1_2) = true := beq_iff_eq.mpr c5
 have c5b1 : (a0_2 != a1_2) = false := bne_eq_false_iff_eq.mpr c5
 clear c5
 by_cases c6 : a0_3 = a1_3
 rotate_left
 ·rw [if_neg c6] at H
  have c6b0 : (a0_3 == a1_3) = false := beq_eq_false_iff_ne.mpr c6
  have c6b1 : (a0_3 != a1_3) = true := bne_iff_ne.mpr c6
  exact absurd ((Option.some.inj H).trans HRt.out) (by decide)
 rw [if_pos c6] at H
 have c6b0 : (a0_3 == a1_3) = true := beq_iff_eq.mpr c6
 have c6b1 : (a0_3 != a1_3) = false := bne_eq_false_iff_eq.mpr c6
 clear c6
 obtain rfl := Option.some.inj H
 go_enter Tryz.func97, Tryz.ntmps97
 go_wp2_with (first | ((with_reducible refine gate_dst (N := 2) rfl ?_); refine bx_ 2 59 #[.int .i64 a0_0, .int .i64 a0_1, .int .i64 a0_2, .int .i64 a0_3] ?_; intro gb500 hg w7 hbox hb; have BK500 := Aside0.mk (hbox); have GW500 := Aside0.mk ((hz_ : w.heap.size ≤ gb500)); have GE500 := Aside0.mk ((hz_ : w.heap.size ≤ gb500)); replace HB := Aside0.mk (below_step bl_ hb); clear hb hbox hg) | ((with_reducible refine gate_dst (N := 3) rfl ?_); refine bx_ 3 59 #[.int .i64 a1_0, .int .i64 a1_1, .int .i64 a1_2, .int .i64 a1_3] ?_; intro gb501 hg w8 hbox hb; have BK501 := Aside0.mk (hbox); have GW501 := Aside0.mk ((hz_ : w.heap.size ≤ gb501)); have GE501 := Aside0.mk ((hz_ : w.heap.size ≤ gb501)); replace HB := Aside0.mk (below_step bl_ hb); have NB500_501 := Aside0.mk ((by rw [hg]; exact Nat.ne_of_lt (blk_lt (g := gb500) (o := .cells #[.int .i64 a0_0, .int .i64 a0_1, .int .i64 a0_2, .int .i64 a0_3] 59 (0, 0)) (bk_ BK500.out)) : gb500 ≠ gb501)); have NB501_500 := Aside0.mk ((by rw [hg]; exact Nat.ne_of_gt (blk_lt (g := gb500) (o := .cells #[.int .i64 a0_0, .int .i64 a0_1, .int .i64 a0_2, .int .i64 a0_3] 59 (0, 0)) (bk_ BK500.out)) : gb501 ≠ gb500)); replace BK500 := Aside0.mk (blk_below (bn0_ BK500.out) hb); clear hb hbox hg; have hnb9 := NB500_501.out; have hnc9 := NB501_500.out; obtain ⟨hcz10_0, hcz10_1, hcz10_2, hcz10_3, hfz10_0, hfz10_1, hfz10_2, hfz10_3⟩ := cf4_ BK500.out; obtain ⟨hcz11_0, hcz11_1, hcz11_2, hcz11_3, hfz11_0, hfz11_1, hfz11_2, hfz11_3⟩ := cf4_ BK501.out))
 go_ret
 exact ⟨er_, bl_⟩


def laws_eqItemS.l0 : Nat → List (S59) → List (S59) → Int → Option (Bool)
 | 0, _, _, _ => none
 | k + 1, x0, x1, x5 => if x5 < (x0.length : Int) then (if 0 ≤ x5 then (if x5 < (x1.length : Int) then ((laws_eqItem.f ((rd_T59 x0 x5).f0) ((rd_T59 x0 x5).f1) ((rd_T59 x0 x5).f2) ((rd_T59 x0 x5).f3) ((rd_T59 x1 x5).f0) ((rd_T59 x1 x5).f1) ((rd_T59 x1 x5).f2) ((rd_T59 x1 x5).f3)).bind fun t504 => (if t504 = true then (laws_eqItemS.l0 k x0 x1 (wrap64 (x5 + 1))) else (some false))) else (none)) else (none)) else (some true)
def laws_eqItemS.f (k : Nat) (l0 : List (S59)) (l1 : List (S59)) : Option (Bool) := if (l0.length : Int) = (l1.length : Int) then (laws_eqItemS.l0 k l0 l1 0) else (some false)
theorem laws_eqItemS.mono_l : ∀ k, (∀ y0 y1 y2, LeO (laws_eqItemS.l0 k y0 y1 y2) (laws_eqItemS.l0 (k + 1) y0 y1 y2))
 | 0 => fun _ _ _ r h => by simp [laws_eqItemS.l0] at h
 | k + 1 => by
  have ih0 := laws_eqItemS.mono_l k
  ·intro y0 y1 y2
   unfold laws_eqItemS.l0
   exact mo_
theorem laws_eqItemS.mono : ∀ a0 a1 k, LeO (laws_eqItemS.f k a0 a1) (laws_eqItemS.f (k + 1) a0 a1) := by
 intro a0 a1 k
 have ih0 := laws_eqItemS.mono_l k
 unfold laws_eqItemS.f
 exact mo_
def laws_eqItemS.T6 : Bool × List (List Nat × List Nat) := (true, [([], []), ([], []), ([0, 1], [0, 1]), ([2], [2]), ([], []), ([], []), ([4, 5], [4, 5]), ([6], [6]), ([3, 7], [3, 7]), ([8], [8])])
def laws_eqItemS.B6 : List Nat := [0, 0, 3, 7, 0, 0, 48, 112, 255, 511]
theorem laws_eqItemS.tab6 : rtab .any (opsOf Tryz.f82 6) = laws_eqItemS.T6 := by kernel_rfl
theorem laws_eqItemS.bits6 : waitsOk laws_eqItemS.T6.2 laws_eqItemS.B6 = true := by kernel_rfl
theorem laws_eqItemS.calls (k : Nat) (A0 : Option Addr) (c0 : Nat) (l0 : List (S59)) (A1 : Option Addr) (c1 : Nat) (l1 : List (S59)) (r : Bool) (w : World) (hr0 : Kd.C k59 w A0 l0.length l0) (hc0 : l0.length ≤ c0) (hr1 : Kd.C k59 w A1 l1.length l1) (hc1 : l1.length ≤ c1) (hrt : r = true) (h : laws_eqItemS.f k l0 l1 = some r) :
 Calls Tryz.prog 82 #[.slice A0 l0.length c0, .slice A1 l1.length c1] w fun e w' => e = .returned (.bool r) ∧ Below w.heap.size w w' := by
 have hu59 := Tryz.underlying59
 have HR0 := Aside0.mk hr0
 have HC0 := Aside0.mk hc0
 clear hr0 hc0
 have HR1 := Aside0.mk hr1
 have HC1 := Aside0.mk hc1
 clear hr1 hc1
 have HRt := Aside0.mk hrt
 clear hrt
 have HB := Aside0.mk (Below.refl w.heap.size w)
 have H := h
 unfold laws_eqItemS.f at H
 clear h
 by_cases c3 : (l0.length : Int) = (l1.length : Int)
 rotate_left
 ·rw [if_neg c3] at H
  have c3b0 : ((l0.length : Int) == (l1.length : Int)) = false := beq_eq_false_iff_ne.mpr c3
  have c3b1 : ((l0.length : Int) != (l1.length : Int)) = true := bne_iff_ne.mpr c3
  have c3b2 : (l0.length == l1.length) = false := by first | simpa using c3 | (simp at c3 ⊢; omega)
  exact absurd ((Option.some.inj H).trans HRt.out) (by decide)
 rw [if_pos c3] at H
 have c3b0 : ((l0.length : Int) == (l1.length : Int)) = true := beq_iff_eq.mpr c3
 have c3b1 : ((l0.length : Int) != (l1.length : Int)) = false := bne_eq_false_iff_eq.mpr c3
 have c3b2 : (l0.length == l1.length) = true := by first | simpa using c3 | (simp at c3 ⊢; omega)
 clear c3
 have H' := Aside0.mk H
 clear H
 go_enter Tryz.func82, Tryz.ntmps82
 go_wp2
 go_loopg [5] k (fun kq v5 w' => ∃ (x5_1 : Int), v5 = .int .i64 x5_1 ∧ Aside0 (laws_eqItemS.l0 kq l0 l1 x5_1 = some r) ∧ Aside0 (kq ≤ k) ∧ Aside0 (Below w.heap.size w w'))
 case atStart => exact ⟨(0), (sr_), H', ⟨Nat.le_refl _⟩, ⟨bl_⟩⟩
 clear H'
 try clear c1
 try clear c3
 try clear c3b0
 try clear c3b1
 try clear c3b2
 obtain ⟨x5_1, rfl, HA, HK1, HB⟩ := hrel
 cases gk with
 | zero => exact absurd HA.out (by simp [laws_eqItemS.l0])
 | succ k1 => ?_
 have H := HA.out
 clear HA
 simp only [laws_eqItemS.l0] at H
 by_cases c4 : x5_1 < (l0.length : Int)
 rotate_left
 ·rw [if_neg c4] at H
  have c4b0 := decide_eq_false c4
  clear c4
  obtain rfl := Option.some.inj H
  go_wp2
  go_ret
  exact ⟨er_, bl_⟩
 rw [if_pos c4] at H
 have c4b0 := decide_eq_true c4
 clear c4
 by_cases c5 : 0 ≤ x5_1
 rotate_left
 ·exact nn_ c5 H
 rw [if_pos c5] at H
 have c5b0 := decide_eq_true c5
 clear c5
 by_cases c6 : x5_1 < (l1.length : Int)
 rotate_left
 ·exact nn_ c6 H
 rw [if_pos c6] at H
 have c6b0 := decide_eq_true c6
 clear c6
 replace H := bs_ H
 obtain ⟨t504, A7, H⟩ := H
 try dsimp only at H
 by_cases c8 : t504 = true
 rotate_left
 ·replace c8 := Bool.eq_false_iff.mpr c8
  subst c8
  rw [nf_] at H
  exact absurd ((Option.some.inj H).trans HRt.out) (by decide)
 subst c8
 rw [if_pos rfl] at H
 have H' := Aside0.mk H
 clear H
 try go_wp2
 have n0_ := Aside0.mk (below_drew1 HB.out)
 clear HB
 have HB := n0_
 clear n0_
 have p502 : 0 ≤ (x5_1 : Int) := of_decide_eq_true as_
 have q502 : x5_1 < (l0.length : Int) := of_decide_eq_true as_
 obtain ⟨ad502, e502, hx502_0, hx502_1, hx502_2, hx502_3⟩ := at_T59 HR0.out x5_1 p502 q502
 have hw502_3 := hx502_3
 have hw502_2 := hx502_2
 have hw502_1 := hx502_1
 have hw502_0 := hx502_0
 cases e502
 replace hx502_0 := (HB.out.cell (World.block_lt_of_cell? w _ hx502_0)).trans hx502_0
 replace hx502_1 := (HB.out.cell (World.block_lt_of_cell? w _ hx502_1)).trans hx502_1
 replace hx502_2 := (HB.out.cell (World.block_lt_of_cell? w _ hx502_2)).trans hx502_2
 replace hx502_3 := (HB.out.cell (World.block_lt_of_cell? w _ hx502_3)).trans hx502_3
 replace p502 := eq_true p502
 replace q502 := eq_true q502
 have p503 : 0 ≤ (x5_1 : Int) := of_decide_eq_true as_
 have q503 : x5_1 < (l1.length : Int) := of_decide_eq_true as_
 obtain ⟨ad503, e503, hx503_0, hx503_1, hx503_2, hx503_3⟩ := at_T59 HR1.out x5_1 p503 q503
 have hw503_3 := hx503_3
 have hw503_2 := hx503_2
 have hw503_1 := hx503_1
 have hw503_0 := hx503_0
 cases e503
 replace hx503_0 := (HB.out.cell (World.block_lt_of_cell? w _ hx503_0)).trans hx503_0
 replace hx503_1 := (HB.out.cell (World.block_lt_of_cell? w _ hx503_1)).trans hx503_1
 replace hx503_2 := (HB.out.cell (World.block_lt_of_cell? w _ hx503_2)).trans hx503_2
 replace hx503_3 := (HB.out.cell (World.block_lt_of_cell? w _ hx503_3)).trans hx503_3
 replace p503 := eq_true p503
 replace q503 := eq_true q503
 refine start_ (n := 10) (S := fun w' => w'.cell? (ad502.add ((x5_1).toNat * 4)) = some (.int .i64 ((rd_T59 l0 x5_1).f0)) ∧ w'.cell? ⟨(ad502.add ((x5_1).toNat * 4)).block, (ad502.add ((x5_1).toNat * 4)).off + 1, none⟩ = some (.int .i64 ((rd_T59 l0 x5_1).f1)) ∧ w'.cell? ⟨(ad502.add ((x5_1).toNat * 4)).block, (ad502.add ((x5_1).toNat * 4)).off + 2, none⟩ = some (.int .i64 ((rd_T59 l0 x5_1).f2)) ∧ w'.cell? ⟨(ad502.add ((x5_1).toNat * 4)).block, (ad502.add ((x5_1).toNat * 4)).off + 3, none⟩ = some (.int .i64 ((rd_T59 l0 x5_1).f3)) ∧ w'.cell? (ad503.add ((x5_1).toNat * 4)) = some (.int .i64 ((rd_T59 l1 x5_1).f0)) ∧ w'.cell? ⟨(ad503.add ((x5_1).toNat * 4)).block, (ad503.add ((x5_1).toNat * 4)).off + 1, none⟩ = some (.int .i64 ((rd_T59 l1 x5_1).f1)) ∧ w'.cell? ⟨(ad503.add ((x5_1).toNat * 4)).block, (ad503.add ((x5_1).toNat * 4)).off + 2, none⟩ = some (.int .i64 ((rd_T59 l1 x5_1).f2)) ∧ w'.cell? ⟨(ad503.add ((x5_1).toNat * 4)).block, (ad503.add ((x5_1).toNat * 4)).off + 3, none⟩ = some (.int .i64 ((rd_T59 l1 x5_1).f3))) (ds := []) #[false, false, false, false, false, false, false, false, false, false] (by kernel_rfl) rfl rfl ⟨((HB.out.cell (World.block_lt_of_cell? w _ hw502_0)).trans hw502_0), ((HB.out.cell (World.block_lt_of_cell? w _ hw502_1)).trans hw502_1), ((HB.out.cell (World.block_lt_of_cell? w _ hw502_2)).trans hw502_2), ((HB.out.cell (World.block_lt_of_cell? w _ hw502_3)).trans hw502_3), ((HB.out.cell (World.block_lt_of_cell? w _ hw503_0)).trans hw503_0), ((HB.out.cell (World.block_lt_of_cell? w _ hw503_1)).trans hw503_1), ((HB.out.cell (World.block_lt_of_cell? w _ hw503_2)).trans hw503_2), ((HB.out.cell (World.block_lt_of_cell? w _ hw503_3)).trans hw503_3)⟩ (fun hHeld => ?_); refine with_tabW laws_eqItemS.tab6 laws_eqItemS.bits6 (fun HT_ HW_ => ?_)
 generalize wr.drew = w9 at HB hx502_0 hx502_1 hx502_2 hx502_3 hx503_0 hx503_1 hx503_2 hx503_3 hHeld ⊢
 refine pu_ 0 17 HT_ ?_
 refine pu_ 1 18 HT_ ?_
 refine pu_ 2 19 HT_ ?_
 refine pu_ 4 21 HT_ ?_
 refine pu_ 5 22 HT_ ?_
 refine pu_ 6 23 HT_ ?_
 refine ta_ 3 20 HT_ HW_ hHeld ?_ (r := by rintro w' ⟨s0, s1, s2, s3, s4, s5, s6, s7⟩; go_simp; with_reducible rfl)
 refine ta_ 7 24 HT_ HW_ hHeld ?_ (r := by rintro w' ⟨s0, s1, s2, s3, s4, s5, s6, s7⟩; go_simp; with_reducible rfl)
 refine on_ 8 25 HT_ (fun K hK => ?_)
 refine goes_ Tryz.func97 (by kernel_rfl) rfl #[.agg #[.int .i64 ((rd_T59 l0 x5_1).f0), .int .i64 ((rd_T59 l0 x5_1).f1), .int .i64 ((rd_T59 l0 x5_1).f2), .int .i64 ((rd_T59 l0 x5_1).f3)], .agg #[.int .i64 ((rd_T59 l1 x5_1).f0), .int .i64 ((rd_T59 l1 x5_1).f1), .int .i64 ((rd_T59 l1 x5_1).f2), .int .i64 ((rd_T59 l1 x5_1).f3)]] (by rfl) rfl rfl lm_ ?_
 with_reducible refine (laws_eqItem.calls ((rd_T59 l0 x5_1).f0) ((rd_T59 l0 x5_1).f1) ((rd_T59 l0 x5_1).f2) ((rd_T59 l0 x5_1).f3) ((rd_T59 l1 x5_1).f0) ((rd_T59 l1 x5_1).f1) ((rd_T59 l1 x5_1).f2) ((rd_T59 l1 x5_1).f3) true _ ?side1 A7.out).mono ?_
 (case side1 => first | rfl | assumption)
 rintro e w10 ⟨rfl, hb⟩
 refine ⟨_, rfl, ?_⟩
 have n0_ := Aside0.mk (below_step bl_ hb)
 clear HB
 have HB := n0_
 clear n0_
 (try clear hb)
 (try clear hb2)
 (try clear hk)
 (try clear hi)
 refine hK.out _ _ ⟨((HB.out.cell (World.block_lt_of_cell? w _ hw502_0)).trans hw502_0), ((HB.out.cell (World.block_lt_of_cell? w _ hw502_1)).trans hw502_1), ((HB.out.cell (World.block_lt_of_cell? w _ hw502_2)).trans hw502_2), ((HB.out.cell (World.block_lt_of_cell? w _ hw502_3)).trans hw502_3), ((HB.out.cell (World.block_lt_of_cell? w _ hw503_0)).trans hw503_0), ((HB.out.cell (World.block_lt_of_cell? w _ hw503_1)).trans hw503_1), ((HB.out.cell (World.block_lt_of_cell? w _ hw503_2)).trans hw503_2), ((HB.out.cell (World.block_lt_of_cell? w _ hw503_3)).trans hw503_3)⟩ (fun hHeld => ?_)
 clear hK K
 refine norm_ (a' := ?_) ?_ ?_
 rotate_left
 ·show Act.put _ (some 25) _ = _
  simp only [Act.put, List.setIfInBounds_toArray, List.set_cons_zero, List.set_cons_succ, i64_w, i32_w]
  rfl
 refine pu_ 9 26 HT_ ?_
 refine done_ (done_of HT_.out (by kernel_rfl)) ?_
 try go_wp2
 go_roundg k1
 case measure => have := HK1.out; omega
 case rel => exact ⟨(wrap64 (x5_1 + 1)), (sr_), H', ⟨by have := HK1.out; omega⟩, ⟨bl_⟩⟩


def laws_eqRing.f (k : Nat) (l0_0 : List (S59)) (a0_1 : Int) (a0_2 : Int) (a0_3 : Int) (l1_0 : List (S59)) (a1_1 : Int) (a1_2 : Int) (a1_3 : Int) : Option (Bool) := (laws_eqItemS.f k l0_0 l1_0).bind fun t507 => (if t507 = true then (if a0_1 = a1_1 then (if a0_2 = a1_2 then (if a0_3 = a1_3 then (some true) else (some false)) else (some false)) else (some false)) else (some false))
theorem laws_eqRing.mono : ∀ a0 a1 a2 a3 a4 a5 a6 a7 k, LeO (laws_eqRing.f k a0 a1 a2 a3 a4 a5 a6 a7) (laws_eqRing.f (k + 1) a0 a1 a2 a3 a4 a5 a6 a7) := by
 intro a0 a1 a2 a3 a4 a5 a6 a7 k
 unfold laws_eqRing.f
 have m0 := @laws_eqItemS.mono
 exact mo_
theorem laws_eqRing.calls (k : Nat) (A0_0 : Option Addr) (c0_0 : Nat) (l0_0 : List (S59)) (a0_1 : Int) (a0_2 : Int) (a0_3 : Int) (A1_0 : Option Addr) (c1_0 : Nat) (l1_0 : List (S59)) (a1_1 : Int) (a1_2 : Int) (a1_3 : Int) (r : Bool) (w : World) (hr0_0 : Kd.C k59 w A0_0 l0_0.length l0_0) (hc0_0 : l0_0.length ≤ c0_0) (hr1_0 : Kd.C k59 w A1_0 l1_0.length l1_0) (hc1_0 : l1_0.length ≤ c1_0) (hrt : r = true) (h : laws_eqRing.f k l0_0 a0_1 a0_2 a0_3 l1_0 a1_1 a1_2 a1_3 = some r) :
 Calls Tryz.prog 59 #[.agg #[.slice A0_0 l0_0.length c0_0, .int .i64 a0_1, .int .i64 a0_2, .int .i64 a0_3], .agg #[.slice A1_0 l1_0.length c1_0, .int .i64 a1_1, .int .i64 a1_2, .int .i64 a1_3]] w fun e w' => e = .returned (.bool r) ∧ Below w.heap.size w w' := by
 have hu101 := Tryz.underlying101
 have HR0_0 := Aside0.mk hr0_0
 have HC0_0 := Aside0.mk hc0_0
 clear hr0_0 hc0_0
 have HR1_0 := Aside0.mk hr1_0
 have HC1_0 := Aside0.mk hc1_0
 clear hr1_0 hc1_0
 have HRt := Aside0.mk hrt
 clear hrt
 have HB := Aside0.mk (Below.refl w.heap.size w)
 have H := h
 unfold laws_eqRing.f at H
 clear h
 replace H := bs_ H
 obtain ⟨t507, A3, H⟩ := H
 try dsimp only at H
 by_cases c4 : t507 = true
 rotate_left
 ·replace c4 := Bool.eq_false_iff.mpr c4
  subst c4
  rw [nf_] at H
  exact absurd ((Option.some.inj H).trans HRt.out) (by decide)
 subst c4
 rw [if_pos rfl] at H
 by_cases c5 : a0_1 = a1_1
 rotate_left
 ·rw [if_neg c5] at H
  have c5b0 : (a0_1 == a1_1) = false := beq_eq_false_iff_ne.mpr c5
  have c5b1 : (a0_1 != a1_1) = true := bne_iff_ne.mpr c5
  exact absurd ((Option.some.inj H).trans HRt.out) (by decide)
 rw [if_pos c5] at H
 have c5b0 : (a0_1 == a1_1) = true := beq_iff_eq.mpr c5
 have c5b1 : (a0_1 != a1_1) = false := bne_eq_false_iff_eq.mpr c5
 clear c5
 by_cases c6 : a0_2 = a1_2
 rotate_left
 ·rw [if_neg c6] at H
  have c6b0 : (a0_2 == a1_2) = false := beq_eq_false_iff_ne.mpr c6
  have c6b1 : (a0_2 != a1_2) = true := bne_iff_ne.mpr c6
  exact absurd ((Option.some.inj H).trans HRt.out) (by decide)
 rw [if_pos c6] at H
 have c6b0 : (a0_2 == a1_2) = true := beq_iff_eq.mpr c6
 have c6b1 : (a0_2 != a1_2) = false := bne_eq_false_iff_eq.mpr c6
 clear c6
 by_cases c7 : a0_3 = a1_3
 rotate_left
 ·rw [if_neg c7] at H
  have c7b0 : (a0_3 == a1_3) = false := beq_eq_false_iff_ne.mpr c7
  have c7b1 : (a0_3 != a1_3) = true := bne_iff_ne.mpr c7
  exact absurd ((Option.some.inj H).trans HRt.out) (by decide)
 rw [if_pos c7] at H
 have c7b0 : (a0_3 == a1_3) = true := beq_iff_eq.mpr c7
 have c7b1 : (a0_3 != a1_3) = false := bne_eq_false_iff_eq.mpr c7
 clear c7
 obtain rfl := Option.some.inj H
 go_enter Tryz.func59, Tryz.ntmps59
 go_wp2_with (first | ((with_reducible refine gate_dst (N := 2) rfl ?_); refine bx_ 2 101 #[.slice A0_0 l0_0.length c0_0, .int .i64 a0_1, .int .i64 a0_2, .int .i64 a0_3] ?_; intro gb505 hg w8 hbox hb; have BK505 := Aside0.mk (hbox); have GW505 := Aside0.mk ((hz_ : w.heap.size ≤ gb505)); have GE505 := Aside0.mk ((hz_ : w.heap.size ≤ gb505)); replace HB := Aside0.mk (below_step bl_ hb); clear hb hbox hg) | ((with_reducible refine gate_dst (N := 3) rfl ?_); refine bx_ 3 101 #[.slice A1_0 l1_0.length c1_0, .int .i64 a1_1, .int .i64 a1_2, .int .i64 a1_3] ?_; intro gb506 hg w9 hbox hb; have BK506 := Aside0.mk (hbox); have GW506 := Aside0.mk ((hz_ : w.heap.size ≤ gb506)); have GE506 := Aside0.mk ((hz_ : w.heap.size ≤ gb506)); replace HB := Aside0.mk (below_step bl_ hb); have NB505_506 := Aside0.mk ((by rw [hg]; exact Nat.ne_of_lt (blk_lt (g := gb505) (o := .cells #[.slice A0_0 l0_0.length c0_0, .int .i64 a0_1, .int .i64 a0_2, .int .i64 a0_3] 101 (0, 0)) (bk_ BK505.out)) : gb505 ≠ gb506)); have NB506_505 := Aside0.mk ((by rw [hg]; exact Nat.ne_of_gt (blk_lt (g := gb505) (o := .cells #[.slice A0_0 l0_0.length c0_0, .int .i64 a0_1, .int .i64 a0_2, .int .i64 a0_3] 101 (0, 0)) (bk_ BK505.out)) : gb506 ≠ gb505)); replace BK505 := Aside0.mk (blk_below (bn0_ BK505.out) hb); clear hb hbox hg; have hnb10 := NB505_506.out; have hnc10 := NB506_505.out; obtain ⟨hcz11_0, hcz11_1, hcz11_2, hcz11_3, hfz11_0, hfz11_1, hfz11_2, hfz11_3⟩ := cf4_ BK505.out; obtain ⟨hcz12_0, hcz12_1, hcz12_2, hcz12_3, hfz12_0, hfz12_1, hfz12_2, hfz12_3⟩ := cf4_ BK506.out) | ((with_reducible refine gate_callee (f := 82) rfl ?_); refine gs_ (some 9) Tryz.func82 #[.slice A0_0 l0_0.length c0_0, .slice A1_0 l1_0.length c1_0] ?_; (with_reducible refine (laws_eqItemS.calls k _ _ l0_0 _ _ l1_0 true _ ?side1 ?side2 ?side3 ?side4 ?side5 A3.out).mono ?_); (case side1 => exact cb_ HR0_0.out HB.out); (case side2 => exact HC0_0.out); (case side3 => exact cb_ HR1_0.out HB.out); (case side4 => exact HC1_0.out); (case side5 => first | rfl | assumption); rintro e w13 ⟨rfl, hb⟩; refine ⟨_, rfl, ?_⟩; replace BK505 := Aside0.mk (blk_below (bn0_ BK505.out) hb); replace BK506 := Aside0.mk (blk_below (bn0_ BK506.out) hb); replace HB := Aside0.mk (below_step bl_ hb); (try clear hb); obtain ⟨hcz14_0, hcz14_1, hcz14_2, hcz14_3, hfz14_0, hfz14_1, hfz14_2, hfz14_3⟩ := cf4_ BK505.out; obtain ⟨hcz15_0, hcz15_1, hcz15_2, hcz15_3, hfz15_0, hfz15_1, hfz15_2, hfz15_3⟩ := cf4_ BK506.out))
 go_ret
 exact ⟨er_, bl_⟩


def laws_eqRingS.l0 : Nat → List (S101) → List (S101) → Int → Option (Bool)
 | 0, _, _, _ => none
 | k + 1, x0, x1, x5 => if x5 < (x0.length : Int) then (if 0 ≤ x5 then (if x5 < (x1.length : Int) then ((laws_eqRing.f k ((rd_T101 x0 x5).f0) ((rd_T101 x0 x5).f1) ((rd_T101 x0 x5).f2) ((rd_T101 x0 x5).f3) ((rd_T101 x1 x5).f0) ((rd_T101 x1 x5).f1) ((rd_T101 x1 x5).f2) ((rd_T101 x1 x5).f3)).bind fun t510 => (if t510 = true then (laws_eqRingS.l0 k x0 x1 (wrap64 (x5 + 1))) else (some false))) else (none)) else (none)) else (some true)
def laws_eqRingS.f (k : Nat) (l0 : List (S101)) (l1 : List (S101)) : Option (Bool) := if (l0.length : Int) = (l1.length : Int) then (laws_eqRingS.l0 k l0 l1 0) else (some false)
theorem laws_eqRingS.mono_l : ∀ k, (∀ y0 y1 y2, LeO (laws_eqRingS.l0 k y0 y1 y2) (laws_eqRingS.l0 (k + 1) y0 y1 y2))
 | 0 => fun _ _ _ r h => by simp [laws_eqRingS.l0] at h
 | k + 1 => by
  have ih0 := laws_eqRingS.mono_l k
  ·intro y0 y1 y2
   unfold laws_eqRingS.l0
   have m0 := @laws_eqRing.mono
   exact mo_
theorem laws_eqRingS.mono : ∀ a0 a1 k, LeO (laws_eqRingS.f k a0 a1) (laws_eqRingS.f (k + 1) a0 a1) := by
 intro a0 a1 k
 have ih0 := laws_eqRingS.mono_l k
 unfold laws_eqRingS.f
 have m0 := @laws_eqRing.mono
 exact mo_
def laws_eqRingS.T6 : Bool × List (List Nat × List Nat) := (true, [([], []), ([], []), ([0, 1], [0, 1]), ([2], [2]), ([], []), ([], []), ([4, 5], [4, 5]), ([6], [6]), ([3, 7], [3, 7]), ([8], [8])])
def laws_eqRingS.B6 : List Nat := [0, 0, 3, 7, 0, 0, 48, 112, 255, 511]
theorem laws_eqRingS.tab6 : rtab .any (opsOf Tryz.f32 6) = laws_eqRingS.T6 := by kernel_rfl
theorem laws_eqRingS.bits6 : waitsOk laws_eqRingS.T6.2 laws_eqRingS.B6 = true := by kernel_rfl
theorem laws_eqRingS.calls (k : Nat) (A0 : Option Addr) (c0 : Nat) (l0 : List (S101)) (A1 : Option Addr) (c1 : Nat) (l1 : List (S101)) (r : Bool) (w : World) (hr0 : Kd.C k101 w A0 l0.length l0) (hc0 : l0.length ≤ c0) (hr1 : Kd.C k101 w A1 l1.length l1) (hc1 : l1.length ≤ c1) (hrt : r = true) (h : laws_eqRingS.f k l0 l1 = some r) :
 Calls Tryz.prog 32 #[.slice A0 l0.length c0, .slice A1 l1.length c1] w fun e w' => e = .returned (.bool r) ∧ Below w.heap.size w w' := by
 have hu101 := Tryz.underlying101
 have HR0 := Aside0.mk hr0
 have HC0 := Aside0.mk hc0
 clear hr0 hc0
 have HR1 := Aside0.mk hr1
 have HC1 := Aside0.mk hc1
 clear hr1 hc1
 have HRt := Aside0.mk hrt
 clear hrt
 have HB := Aside0.mk (Below.refl w.heap.size w)
 have H := h
 unfold laws_eqRingS.f at H
 clear h
 by_cases c3 : (l0.length : Int) = (l1.length : Int)
 rotate_left
 ·rw [if_neg c3] at H
  have c3b0 : ((l0.length : Int) == (l1.length : Int)) = false := beq_eq_false_iff_ne.mpr c3
  have c3b1 : ((l0.length : Int) != (l1.length : Int)) = true := bne_iff_ne.mpr c3
  have c3b2 : (l0.length == l1.length) = false := by first | simpa using c3 | (simp at c3 ⊢; omega)
  exact absurd ((Option.some.inj H).trans HRt.out) (by decide)
 rw [if_pos c3] at H
 have c3b0 : ((l0.length : Int) == (l1.length : Int)) = true := beq_iff_eq.mpr c3
 have c3b1 : ((l0.length : Int) != (l1.length : Int)) = false := bne_eq_false_iff_eq.mpr c3
 have c3b2 : (l0.length == l1.length) = true := by first | simpa using c3 | (simp at c3 ⊢; omega)
 clear c3
 have H' := Aside0.mk H
 clear H
 go_enter Tryz.func32, Tryz.ntmps32
 go_wp2
 go_loopg [5] k (fun kq v5 w' => ∃ (x5_1 : Int), v5 = .int .i64 x5_1 ∧ Aside0 (laws_eqRingS.l0 kq l0 l1 x5_1 = some r) ∧ Aside0 (kq ≤ k) ∧ Aside0 (Below w.heap.size w w'))
 case atStart => exact ⟨(0), (sr_), H', ⟨Nat.le_refl _⟩, ⟨bl_⟩⟩
 clear H'
 try clear c1
 try clear c3
 try clear c3b0
 try clear c3b1
 try clear c3b2
 obtain ⟨x5_1, rfl, HA, HK1, HB⟩ := hrel
 cases gk with
 | zero => exact absurd HA.out (by simp [laws_eqRingS.l0])
 | succ k1 => ?_
 have H := HA.out
 clear HA
 simp only [laws_eqRingS.l0] at H
 by_cases c4 : x5_1 < (l0.length : Int)
 rotate_left
 ·rw [if_neg c4] at H
  have c4b0 := decide_eq_false c4
  clear c4
  obtain rfl := Option.some.inj H
  go_wp2
  go_ret
  exact ⟨er_, bl_⟩
 rw [if_pos c4] at H
 have c4b0 := decide_eq_true c4
 clear c4
 by_cases c5 : 0 ≤ x5_1
 rotate_left
 ·exact nn_ c5 H
 rw [if_pos c5] at H
 have c5b0 := decide_eq_true c5
 clear c5
 by_cases c6 : x5_1 < (l1.length : Int)
 rotate_left
 ·exact nn_ c6 H
 rw [if_pos c6] at H
 have c6b0 := decide_eq_true c6
 clear c6
 replace H := bs_ H
 obtain ⟨t510, A7, H⟩ := H
 try dsimp only at H
 by_cases c8 : t510 = true
 rotate_left
 ·replace c8 := Bool.eq_false_iff.mpr c8
  subst c8
  rw [nf_] at H
  exact absurd ((Option.some.inj H).trans HRt.out) (by decide)
 subst c8
 rw [if_pos rfl] at H
 have H' := Aside0.mk H
 clear H
 try go_wp2
 have n0_ := Aside0.mk (below_drew1 HB.out)
 clear HB
 have HB := n0_
 clear n0_
 have p508 : 0 ≤ (x5_1 : Int) := of_decide_eq_true as_
 have q508 : x5_1 < (l0.length : Int) := of_decide_eq_true as_
 obtain ⟨ad508, A508_0, c508_0, e508, hx508_0, hx508_1, hx508_2, hx508_3, hl508_0, hi508_0⟩ := at_T101 HR0.out x5_1 p508 q508
 have hw508_3 := hx508_3
 have hw508_2 := hx508_2
 have hw508_1 := hx508_1
 have hw508_0 := hx508_0
 cases e508
 replace hx508_0 := (HB.out.cell (World.block_lt_of_cell? w _ hx508_0)).trans hx508_0
 replace hx508_1 := (HB.out.cell (World.block_lt_of_cell? w _ hx508_1)).trans hx508_1
 replace hx508_2 := (HB.out.cell (World.block_lt_of_cell? w _ hx508_2)).trans hx508_2
 replace hx508_3 := (HB.out.cell (World.block_lt_of_cell? w _ hx508_3)).trans hx508_3
 have HR508_0 := Aside0.mk hi508_0
 have HC508_0 := Aside0.mk hl508_0
 clear hi508_0 hl508_0
 replace p508 := eq_true p508
 replace q508 := eq_true q508
 have p509 : 0 ≤ (x5_1 : Int) := of_decide_eq_true as_
 have q509 : x5_1 < (l1.length : Int) := of_decide_eq_true as_
 obtain ⟨ad509, A509_0, c509_0, e509, hx509_0, hx509_1, hx509_2, hx509_3, hl509_0, hi509_0⟩ := at_T101 HR1.out x5_1 p509 q509
 have hw509_3 := hx509_3
 have hw509_2 := hx509_2
 have hw509_1 := hx509_1
 have hw509_0 := hx509_0
 cases e509
 replace hx509_0 := (HB.out.cell (World.block_lt_of_cell? w _ hx509_0)).trans hx509_0
 replace hx509_1 := (HB.out.cell (World.block_lt_of_cell? w _ hx509_1)).trans hx509_1
 replace hx509_2 := (HB.out.cell (World.block_lt_of_cell? w _ hx509_2)).trans hx509_2
 replace hx509_3 := (HB.out.cell (World.block_lt_of_cell? w _ hx509_3)).trans hx509_3
 have HR509_0 := Aside0.mk hi509_0
 have HC509_0 := Aside0.mk hl509_0
 clear hi509_0 hl509_0
 replace p509 := eq_true p509
 replace q509 := eq_true q509
 refine start_ (n := 10) (S := fun w' => w'.cell? (ad508.add ((x5_1).toNat * 4)) = some (.slice A508_0 ((rd_T101 l0 x5_1).f0).length c508_0) ∧ w'.cell? ⟨(ad508.add ((x5_1).toNat * 4)).block, (ad508.add ((x5_1).toNat * 4)).off + 1, none⟩ = some (.int .i64 ((rd_T101 l0 x5_1).f1)) ∧ w'.cell? ⟨(ad508.add ((x5_1).toNat * 4)).block, (ad508.add ((x5_1).toNat * 4)).off + 2, none⟩ = some (.int .i64 ((rd_T101 l0 x5_1).f2)) ∧ w'.cell? ⟨(ad508.add ((x5_1).toNat * 4)).block, (ad508.add ((x5_1).toNat * 4)).off + 3, none⟩ = some (.int .i64 ((rd_T101 l0 x5_1).f3)) ∧ w'.cell? (ad509.add ((x5_1).toNat * 4)) = some (.slice A509_0 ((rd_T101 l1 x5_1).f0).length c509_0) ∧ w'.cell? ⟨(ad509.add ((x5_1).toNat * 4)).block, (ad509.add ((x5_1).toNat * 4)).off + 1, none⟩ = some (.int .i64 ((rd_T101 l1 x5_1).f1)) ∧ w'.cell? ⟨(ad509.add ((x5_1).toNat * 4)).block, (ad509.add ((x5_1).toNat * 4)).off + 2, none⟩ = some (.int .i64 ((rd_T101 l1 x5_1).f2)) ∧ w'.cell? ⟨(ad509.add ((x5_1).toNat * 4)).block, (ad509.add ((x5_1).toNat * 4)).off + 3, none⟩ = some (.int .i64 ((rd_T101 l1 x5_1).f3))) (ds := []) #[false, false, false, false, false, false, false, false, false, false] (by kernel_rfl) rfl rfl ⟨((HB.out.cell (World.block_lt_of_cell? w _ hw508_0)).trans hw508_0), ((HB.out.cell (World.block_lt_of_cell? w _ hw508_1)).trans hw508_1), ((HB.out.cell (World.block_lt_of_cell? w _ hw508_2)).trans hw508_2), ((HB.out.cell (World.block_lt_of_cell? w _ hw508_3)).trans hw508_3), ((HB.out.cell (World.block_lt_of_cell? w _ hw509_0)).trans hw509_0), ((HB.out.cell (World.block_lt_of_cell? w _ hw509_1)).trans hw509_1), ((HB.out.cell (World.block_lt_of_cell? w _ hw509_2)).trans hw509_2), ((HB.out.cell (World.block_lt_of_cell? w _ hw509_3)).trans hw509_3)⟩ (fun hHeld => ?_); refine with_tabW laws_eqRingS.tab6 laws_eqRingS.bits6 (fun HT_ HW_ => ?_)
 generalize wr.drew = w9 at HB HR508_0 HR509_0 hx508_0 hx508_1 hx508_2 hx508_3 hx509_0 hx509_1 hx509_2 hx509_3 hHeld ⊢
 refine pu_ 0 17 HT_ ?_
 refine pu_ 1 18 HT_ ?_
 refine pu_ 2 19 HT_ ?_
 refine pu_ 4 21 HT_ ?_
 refine pu_ 5 22 HT_ ?_
 refine pu_ 6 23 HT_ ?_
 refine ta_ 3 20 HT_ HW_ hHeld ?_ (r := by rintro w' ⟨s0, s1, s2, s3, s4, s5, s6, s7⟩; go_simp; with_reducible rfl)
 refine ta_ 7 24 HT_ HW_ hHeld ?_ (r := by rintro w' ⟨s0, s1, s2, s3, s4, s5, s6, s7⟩; go_simp; with_reducible rfl)
 refine on_ 8 25 HT_ (fun K hK => ?_)
 refine goes_ Tryz.func59 (by kernel_rfl) rfl #[.agg #[.slice A508_0 ((rd_T101 l0 x5_1).f0).length c508_0, .int .i64 ((rd_T101 l0 x5_1).f1), .int .i64 ((rd_T101 l0 x5_1).f2), .int .i64 ((rd_T101 l0 x5_1).f3)], .agg #[.slice A509_0 ((rd_T101 l1 x5_1).f0).length c509_0, .int .i64 ((rd_T101 l1 x5_1).f1), .int .i64 ((rd_T101 l1 x5_1).f2), .int .i64 ((rd_T101 l1 x5_1).f3)]] (by rfl) rfl rfl lm_ ?_
 with_reducible refine (laws_eqRing.calls k1 _ _ ((rd_T101 l0 x5_1).f0) ((rd_T101 l0 x5_1).f1) ((rd_T101 l0 x5_1).f2) ((rd_T101 l0 x5_1).f3) _ _ ((rd_T101 l1 x5_1).f0) ((rd_T101 l1 x5_1).f1) ((rd_T101 l1 x5_1).f2) ((rd_T101 l1 x5_1).f3) true _ ?side1 ?side2 ?side3 ?side4 ?side5 A7.out).mono ?_
 (case side1 => exact cb_ HR508_0.out HB.out)
 (case side2 => exact HC508_0.out)
 (case side3 => exact cb_ HR509_0.out HB.out)
 (case side4 => exact HC509_0.out)
 (case side5 => first | rfl | assumption)
 rintro e w10 ⟨rfl, hb⟩
 refine ⟨_, rfl, ?_⟩
 have n0_ := Aside0.mk (below_step bl_ hb)
 clear HB
 have HB := n0_
 clear n0_
 (try clear hb)
 (try clear hb2)
 (try clear hk)
 (try clear hi)
 refine hK.out _ _ ⟨((HB.out.cell (World.block_lt_of_cell? w _ hw508_0)).trans hw508_0), ((HB.out.cell (World.block_lt_of_cell? w _ hw508_1)).trans hw508_1), ((HB.out.cell (World.block_lt_of_cell? w _ hw508_2)).trans hw508_2), ((HB.out.cell (World.block_lt_of_cell? w _ hw508_3)).trans hw508_3), ((HB.out.cell (World.block_lt_of_cell? w _ hw509_0)).trans hw509_0), ((HB.out.cell (World.block_lt_of_cell? w _ hw509_1)).trans hw509_1), ((HB.out.cell (World.block_lt_of_cell? w _ hw509_2)).trans hw509_2), ((HB.out.cell (World.block_lt_of_cell? w _ hw509_3)).trans hw509_3)⟩ (fun hHeld => ?_)
 clear hK K
 refine norm_ (a' := ?_) ?_ ?_
 rotate_left
 ·show Act.put _ (some 25) _ = _
  simp only [Act.put, List.setIfInBounds_toArray, List.set_cons_zero, List.set_cons_succ, i64_w, i32_w]
  rfl
 refine pu_ 9 26 HT_ ?_
 refine done_ (done_of HT_.out (by kernel_rfl)) ?_
 try go_wp2
 go_roundg k1
 case measure => have := HK1.out; omega
 case rel => exact ⟨(wrap64 (x5_1 + 1)), (sr_), H', ⟨by have := HK1.out; omega⟩, ⟨bl_⟩⟩


def laws_eqSender.f (k : Nat) (a0_0 : Int) (a0_1 : Int) (l0_2 : List (S59)) (a0_3 : Int) (a0_4 : Int) (a1_0 : Int) (a1_1 : Int) (l1_2 : List (S59)) (a1_3 : Int) (a1_4 : Int) : Option (Bool) := if a0_0 = a1_0 then (if a0_1 = a1_1 then ((laws_eqItemS.f k l0_2 l1_2).bind fun t513 => (if t513 = true then (if a0_3 = a1_3 then (if a0_4 = a1_4 then (some true) else (some false)) else (some false)) else (some false))) else (some false)) else (some false)
theorem laws_eqSender.mono : ∀ a0 a1 a2 a3 a4 a5 a6 a7 a8 a9 k, LeO (laws_eqSender.f k a0 a1 a2 a3 a4 a5 a6 a7 a8 a9) (laws_eqSender.f (k + 1) a0 a1 a2 a3 a4 a5 a6 a7 a8 a9) := by
 intro a0 a1 a2 a3 a4 a5 a6 a7 a8 a9 k
 unfold laws_eqSender.f
 have m0 := @laws_eqItemS.mono
 exact mo_
theorem laws_eqSender.calls (k : Nat) (a0_0 : Int) (a0_1 : Int) (A0_2 : Option Addr) (c0_2 : Nat) (l0_2 : List (S59)) (a0_3 : Int) (a0_4 : Int) (a1_0 : Int) (a1_1 : Int) (A1_2 : Option Addr) (c1_2 : Nat) (l1_2 : List (S59)) (a1_3 : Int) (a1_4 : Int) (r : Bool) (w : World) (hr0_2 : Kd.C k59 w A0_2 l0_2.length l0_2) (hc0_2 : l0_2.length ≤ c0_2) (hr1_2 : Kd.C k59 w A1_2 l1_2.length l1_2) (hc1_2 : l1_2.length ≤ c1_2) (hrt : r = true) (h : laws_eqSender.f k a0_0 a0_1 l0_2 a0_3 a0_4 a1_0 a1_1 l1_2 a1_3 a1_4 = some r) :
 Calls Tryz.prog 60 #[.agg #[.int .i64 a0_0, .int .i64 a0_1, .slice A0_2 l0_2.length c0_2, .int .i64 a0_3, .int .i64 a0_4], .agg #[.int .i64 a1_0, .int .i64 a1_1, .slice A1_2 l1_2.length c1_2, .int .i64 a1_3, .int .i64 a1_4]] w fun e w' => e = .returned (.bool r) ∧ Below w.heap.size w w' := by
 have hu104 := Tryz.underlying104
 have HR0_2 := Aside0.mk hr0_2
 have HC0_2 := Aside0.mk hc0_2
 clear hr0_2 hc0_2
 have HR1_2 := Aside0.mk hr1_2
 have HC1_2 := Aside0.mk hc1_2
 clear hr1_2 hc1_2
 have HRt := Aside0.mk hrt
 clear hrt
 have HB := Aside0.mk (Below.refl w.heap.size w)
 have H := h
 unfold laws_eqSender.f at H
 clear h
 by_cases c3 : a0_0 = a1_0
 rotate_left
 ·rw [if_neg c3] at H
  have c3b0 : (a0_0 == a1_0) = false := beq_eq_false_iff_ne.mpr c3
  have c3b1 : (a0_0 != a1_0) = true := bne_iff_ne.mpr c3
  exact absurd ((Option.some.inj H).trans HRt.out) (by decide)
 rw [if_pos c3] at H
 have c3b0 : (a0_0 == a1_0) = true := beq_iff_eq.mpr c3
 have c3b1 : (a0_0 != a1_0) = false := bne_eq_false_iff_eq.mpr c3
 clear c3
 by_cases c4 : a0_1 = a1_1
 rotate_left
 ·rw [if_neg c4] at H
  have c4b0 : (a0_1 == a1_1) = false := beq_eq_false_iff_ne.mpr c4
  have c4b1 : (a0_1 != a1_1) = true := bne_iff_ne.mpr c4
  exact absurd ((Option.some.inj H).trans HRt.out) (by decide)
 rw [if_pos c4] at H
 have c4b0 : (a0_1 == a1_1) = true := beq_iff_eq.mpr c4
 have c4b1 : (a0_1 != a1_1) = false := bne_eq_false_iff_eq.mpr c4
 clear c4
 replace H := bs_ H
 obtain ⟨t513, A5, H⟩ := H
 try dsimp only at H
 by_cases c6 : t513 = true
 rotate_left
 ·replace c6 := Bool.eq_false_iff.mpr c6
  subst c6
  rw [nf_] at H
  exact absurd ((Option.some.inj H).trans HRt.out) (by decide)
 subst c6
 rw [if_pos rfl] at H
 by_cases c7 : a0_3 = a1_3
 rotate_left
 ·rw [if_neg c7] at H
  have c7b0 : (a0_3 == a1_3) = false := beq_eq_false_iff_ne.mpr c7
  have c7b1 : (a0_3 != a1_3) = true := bne_iff_ne.mpr c7
  exact absurd ((Option.some.inj H).trans HRt.out) (by decide)
 rw [if_pos c7] at H
 have c7b0 : (a0_3 == a1_3) = true := beq_iff_eq.mpr c7
 have c7b1 : (a0_3 != a1_3) = false := bne_eq_false_iff_eq.mpr c7
 clear c7
 by_cases c8 : a0_4 = a1_4
 rotate_left
 ·rw [if_neg c8] at H
  have c8b0 : (a0_4 == a1_4) = false := beq_eq_false_iff_ne.mpr c8
  have c8b1 : (a0_4 != a1_4) = true := bne_iff_ne.mpr c8
  exact absurd ((Option.some.inj H).trans HRt.out) (by decide)
 rw [if_pos c8] at H
 have c8b0 : (a0_4 == a1_4) = true := beq_iff_eq.mpr c8
 have c8b1 : (a0_4 != a1_4) = false := bne_eq_false_iff_eq.mpr c8
 clear c8
 obtain rfl := Option.some.inj H
 go_enter Tryz.func60, Tryz.ntmps60
 go_wp2_with (first | ((with_reducible refine gate_dst (N := 2) rfl ?_); refine bx_ 2 104 #[.int .i64 a0_0, .int .i64 a0_1, .slice A0_2 l0_2.length c0_2, .int .i64 a0_3, .int .i64 a0_4] ?_; intro gb511 hg w9 hbox hb; have BK511 := Aside0.mk (hbox); have GW511 := Aside0.mk ((hz_ : w.heap.size ≤ gb511)); have GE511 := Aside0.mk ((hz_ : w.heap.size ≤ gb511)); replace HB := Aside0.mk (below_step bl_ hb); clear hb hbox hg) | ((with_reducible refine gate_dst (N := 3) rfl ?_); refine bx_ 3 104 #[.int .i64 a1_0, .int .i64 a1_1, .slice A1_2 l1_2.length c1_2, .int .i64 a1_3, .int .i64 a1_4] ?_; intro gb512 hg w10 hbox hb; have BK512 := Aside0.mk (hbox); have GW512 := Aside0.mk ((hz_ : w.heap.size ≤ gb512)); have GE512 := Aside0.mk ((hz_ : w.heap.size ≤ gb512)); replace HB := Aside0.mk (below_step bl_ hb); have NB511_512 := Aside0.mk ((by rw [hg]; exact Nat.ne_of_lt (blk_lt (g := gb511) (o := .cells #[.int .i64 a0_0, .int .i64 a0_1, .slice A0_2 l0_2.length c0_2, .int .i64 a0_3, .int .i64 a0_4] 104 (0, 0)) (bk_ BK511.out)) : gb511 ≠ gb512)); have NB512_511 := Aside0.mk ((by rw [hg]; exact Nat.ne_of_gt (blk_lt (g := gb511) (o := .cells #[.int .i64 a0_0, .int .i64 a0_1, .slice A0_2 l0_2.length c0_2, .int .i64 a0_3, .int .i64 a0_4] 104 (0, 0)) (bk_ BK511.out)) : gb512 ≠ gb511)); replace BK511 := Aside0.mk (blk_below (bn0_ BK511.out) hb); clear hb hbox hg; have hnb11 := NB511_512.out; have hnc11 := NB512_511.out; obtain ⟨hcz12_0, hcz12_1, hcz12_2, hcz12_3, hcz12_4, hfz12_0, hfz12_1, hfz12_2, hfz12_3, hfz12_4⟩ := cf5_ BK511.out; obtain ⟨hcz13_0, hcz13_1, hcz13_2, hcz13_3, hcz13_4, hfz13_0, hfz13_1, hfz13_2, hfz13_3, hfz13_4⟩ := cf5_ BK512.out) | ((with_reducible refine gate_callee (f := 82) rfl ?_); refine gs_ (some 19) Tryz.func82 #[.slice A0_2 l0_2.length c0_2, .slice A1_2 l1_2.length c1_2] ?_; (with_reducible refine (laws_eqItemS.calls k _ _ l0_2 _ _ l1_2 true _ ?side1 ?side2 ?side3 ?side4 ?side5 A5.out).mono ?_); (case side1 => exact cb_ HR0_2.out HB.out); (case side2 => exact HC0_2.out); (case side3 => exact cb_ HR1_2.out HB.out); (case side4 => exact HC1_2.out); (case side5 => first | rfl | assumption); rintro e w14 ⟨rfl, hb⟩; refine ⟨_, rfl, ?_⟩; replace BK511 := Aside0.mk (blk_below (bn0_ BK511.out) hb); replace BK512 := Aside0.mk (blk_below (bn0_ BK512.out) hb); replace HB := Aside0.mk (below_step bl_ hb); (try clear hb); obtain ⟨hcz15_0, hcz15_1, hcz15_2, hcz15_3, hcz15_4, hfz15_0, hfz15_1, hfz15_2, hfz15_3, hfz15_4⟩ := cf5_ BK511.out; obtain ⟨hcz16_0, hcz16_1, hcz16_2, hcz16_3, hcz16_4, hfz16_0, hfz16_1, hfz16_2, hfz16_3, hfz16_4⟩ := cf5_ BK512.out))
 go_ret
 exact ⟨er_, bl_⟩


def laws_eqSenderS.l0 : Nat → List (S104) → List (S104) → Int → Option (Bool)
 | 0, _, _, _ => none
 | k + 1, x0, x1, x5 => if x5 < (x0.length : Int) then (if 0 ≤ x5 then (if x5 < (x1.length : Int) then ((laws_eqSender.f k ((rd_T104 x0 x5).f0) ((rd_T104 x0 x5).f1) ((rd_T104 x0 x5).f2) ((rd_T104 x0 x5).f3) ((rd_T104 x0 x5).f4) ((rd_T104 x1 x5).f0) ((rd_T104 x1 x5).f1) ((rd_T104 x1 x5).f2) ((rd_T104 x1 x5).f3) ((rd_T104 x1 x5).f4)).bind fun t516 => (if t516 = true then (laws_eqSenderS.l0 k x0 x1 (wrap64 (x5 + 1))) else (some false))) else (none)) else (none)) else (some true)
def laws_eqSenderS.f (k : Nat) (l0 : List (S104)) (l1 : List (S104)) : Option (Bool) := if (l0.length : Int) = (l1.length : Int) then (laws_eqSenderS.l0 k l0 l1 0) else (some false)
theorem laws_eqSenderS.mono_l : ∀ k, (∀ y0 y1 y2, LeO (laws_eqSenderS.l0 k y0 y1 y2) (laws_eqSenderS.l0 (k + 1) y0 y1 y2))
 | 0 => fun _ _ _ r h => by simp [laws_eqSenderS.l0] at h
 | k + 1 => by
  have ih0 := laws_eqSenderS.mono_l k
  ·intro y0 y1 y2
   unfold laws_eqSenderS.l0
   have m0 := @laws_eqSender.mono
   exact mo_
theorem laws_eqSenderS.mono : ∀ a0 a1 k, LeO (laws_eqSenderS.f k a0 a1) (laws_eqSenderS.f (k + 1) a0 a1) := by
 intro a0 a1 k
 have ih0 := laws_eqSenderS.mono_l k
 unfold laws_eqSenderS.f
 have m0 := @laws_eqSender.mono
 exact mo_
def laws_eqSenderS.T6 : Bool × List (List Nat × List Nat) := (true, [([], []), ([], []), ([0, 1], [0, 1]), ([2], [2]), ([], []), ([], []), ([4, 5], [4, 5]), ([6], [6]), ([3, 7], [3, 7]), ([8], [8])])
def laws_eqSenderS.B6 : List Nat := [0, 0, 3, 7, 0, 0, 48, 112, 255, 511]
theorem laws_eqSenderS.tab6 : rtab .any (opsOf Tryz.f33 6) = laws_eqSenderS.T6 := by kernel_rfl
theorem laws_eqSenderS.bits6 : waitsOk laws_eqSenderS.T6.2 laws_eqSenderS.B6 = true := by kernel_rfl
theorem laws_eqSenderS.calls (k : Nat) (A0 : Option Addr) (c0 : Nat) (l0 : List (S104)) (A1 : Option Addr) (c1 : Nat) (l1 : List (S104)) (r : Bool) (w : World) (hr0 : Kd.C k104 w A0 l0.length l0) (hc0 : l0.length ≤ c0) (hr1 : Kd.C k104 w A1 l1.length l1) (hc1 : l1.length ≤ c1) (hrt : r = true) (h : laws_eqSenderS.f k l0 l1 = some r) :
 Calls Tryz.prog 33 #[.slice A0 l0.length c0, .slice A1 l1.length c1] w fun e w' => e = .returned (.bool r) ∧ Below w.heap.size w w' := by
 have hu104 := Tryz.underlying104
 have HR0 := Aside0.mk hr0
 have HC0 := Aside0.mk hc0
 clear hr0 hc0
 have HR1 := Aside0.mk hr1
 have HC1 := Aside0.mk hc1
 clear hr1 hc1
 have HRt := Aside0.mk hrt
 clear hrt
 have HB := Aside0.mk (Below.refl w.heap.size w)
 have H := h
 unfold laws_eqSenderS.f at H
 clear h
 by_cases c3 : (l0.length : Int) = (l1.length : Int)
 rotate_left
 ·rw [if_neg c3] at H
  have c3b0 : ((l0.length : Int) == (l1.length : Int)) = false := beq_eq_false_iff_ne.mpr c3
  have c3b1 : ((l0.length : Int) != (l1.length : Int)) = true := bne_iff_ne.mpr c3
  have c3b2 : (l0.length == l1.length) = false := by first | simpa using c3 | (simp at c3 ⊢; omega)
  exact absurd ((Option.some.inj H).trans HRt.out) (by decide)
 rw [if_pos c3] at H
 have c3b0 : ((l0.length : Int) == (l1.length : Int)) = true := beq_iff_eq.mpr c3
 have c3b1 : ((l0.length : Int) != (l1.length : Int)) = false := bne_eq_false_iff_eq.mpr c3
 have c3b2 : (l0.length == l1.length) = true := by first | simpa using c3 | (simp at c3 ⊢; omega)
 clear c3
 have H' := Aside0.mk H
 clear H
 go_enter Tryz.func33, Tryz.ntmps33
 go_wp2
 go_loopg [5] k (fun kq v5 w' => ∃ (x5_1 : Int), v5 = .int .i64 x5_1 ∧ Aside0 (laws_eqSenderS.l0 kq l0 l1 x5_1 = some r) ∧ Aside0 (kq ≤ k) ∧ Aside0 (Below w.heap.size w w'))
 case atStart => exact ⟨(0), (sr_), H', ⟨Nat.le_refl _⟩, ⟨bl_⟩⟩
 clear H'
 try clear c1
 try clear c3
 try clear c3b0
 try clear c3b1
 try clear c3b2
 obtain ⟨x5_1, rfl, HA, HK1, HB⟩ := hrel
 cases gk with
 | zero => exact absurd HA.out (by simp [laws_eqSenderS.l0])
 | succ k1 => ?_
 have H := HA.out
 clear HA
 simp only [laws_eqSenderS.l0] at H
 by_cases c4 : x5_1 < (l0.length : Int)
 rotate_left
 ·rw [if_neg c4] at H
  have c4b0 := decide_eq_false c4
  clear c4
  obtain rfl := Option.some.inj H
  go_wp2
  go_ret
  exact ⟨er_, bl_⟩
 rw [if_pos c4] at H
 have c4b0 := decide_eq_true c4
 clear c4
 by_cases c5 : 0 ≤ x5_1
 rotate_left
 ·exact nn_ c5 H
 rw [if_pos c5] at H
 have c5b0 := decide_eq_true c5
 clear c5
 by_cases c6 : x5_1 < (l1.length : Int)
 rotate_left
 ·exact nn_ c6 H
 rw [if_pos c6] at H
 have c6b0 := decide_eq_true c6
 clear c6
 replace H := bs_ H
 obtain ⟨t516, A7, H⟩ := H
 try dsimp only at H
 by_cases c8 : t516 = true
 rotate_left
 ·replace c8 := Bool.eq_false_iff.mpr c8
  subst c8
  rw [nf_] at H
  exact absurd ((Option.some.inj H).trans HRt.out) (by decide)
 subst c8
 rw [if_pos rfl] at H
 have H' := Aside0.mk H
 clear H
 try go_wp2
 have n0_ := Aside0.mk (below_drew1 HB.out)
 clear HB
 have HB := n0_
 clear n0_
 have p514 : 0 ≤ (x5_1 : Int) := of_decide_eq_true as_
 have q514 : x5_1 < (l0.length : Int) := of_decide_eq_true as_
 obtain ⟨ad514, A514_2, c514_2, e514, hx514_0, hx514_1, hx514_2, hx514_3, hx514_4, hl514_2, hi514_2⟩ := at_T104 HR0.out x5_1 p514 q514
 have hw514_4 := hx514_4
 have hw514_3 := hx514_3
 have hw514_2 := hx514_2
 have hw514_1 := hx514_1
 have hw514_0 := hx514_0
 cases e514
 replace hx514_0 := (HB.out.cell (World.block_lt_of_cell? w _ hx514_0)).trans hx514_0
 replace hx514_1 := (HB.out.cell (World.block_lt_of_cell? w _ hx514_1)).trans hx514_1
 replace hx514_2 := (HB.out.cell (World.block_lt_of_cell? w _ hx514_2)).trans hx514_2
 replace hx514_3 := (HB.out.cell (World.block_lt_of_cell? w _ hx514_3)).trans hx514_3
 replace hx514_4 := (HB.out.cell (World.block_lt_of_cell? w _ hx514_4)).trans hx514_4
 have HR514_2 := Aside0.mk hi514_2
 have HC514_2 := Aside0.mk hl514_2
 clear hi514_2 hl514_2
 replace p514 := eq_true p514
 replace q514 := eq_true q514
 have p515 : 0 ≤ (x5_1 : Int) := of_decide_eq_true as_
 have q515 : x5_1 < (l1.length : Int) := of_decide_eq_true as_
 obtain ⟨ad515, A515_2, c515_2, e515, hx515_0, hx515_1, hx515_2, hx515_3, hx515_4, hl515_2, hi515_2⟩ := at_T104 HR1.out x5_1 p515 q515
 have hw515_4 := hx515_4
 have hw515_3 := hx515_3
 have hw515_2 := hx515_2
 have hw515_1 := hx515_1
 have hw515_0 := hx515_0
 cases e515
 replace hx515_0 := (HB.out.cell (World.block_lt_of_cell? w _ hx515_0)).trans hx515_0
 replace hx515_1 := (HB.out.cell (World.block_lt_of_cell? w _ hx515_1)).trans hx515_1
 replace hx515_2 := (HB.out.cell (World.block_lt_of_cell? w _ hx515_2)).trans hx515_2
 replace hx515_3 := (HB.out.cell (World.block_lt_of_cell? w _ hx515_3)).trans hx515_3
 replace hx515_4 := (HB.out.cell (World.block_lt_of_cell? w _ hx515_4)).trans hx515_4
 have HR515_2 := Aside0.mk hi515_2
 have HC515_2 := Aside0.mk hl515_2
 clear hi515_2 hl515_2
 replace p515 := eq_true p515
 replace q515 := eq_true q515
 refine start_ (n := 10) (S := fun w' => w'.cell? (ad514.add ((x5_1).toNat * 5)) = some (.int .i64 ((rd_T104 l0 x5_1).f0)) ∧ w'.cell? ⟨(ad514.add ((x5_1).toNat * 5)).block, (ad514.add ((x5_1).toNat * 5)).off + 1, none⟩ = some (.int .i64 ((rd_T104 l0 x5_1).f1)) ∧ w'.cell? ⟨(ad514.add ((x5_1).toNat * 5)).block, (ad514.add ((x5_1).toNat * 5)).off + 2, none⟩ = some (.slice A514_2 ((rd_T104 l0 x5_1).f2).length c514_2) ∧ w'.cell? ⟨(ad514.add ((x5_1).toNat * 5)).block, (ad514.add ((x5_1).toNat * 5)).off + 3, none⟩ = some (.int .i64 ((rd_T104 l0 x5_1).f3)) ∧ w'.cell? ⟨(ad514.add ((x5_1).toNat * 5)).block, (ad514.add ((x5_1).toNat * 5)).off + 4, none⟩ = some (.int .i64 ((rd_T104 l0 x5_1).f4)) ∧ w'.cell? (ad515.add ((x5_1).toNat * 5)) = some (.int .i64 ((rd_T104 l1 x5_1).f0)) ∧ w'.cell? ⟨(ad515.add ((x5_1).toNat * 5)).block, (ad515.add ((x5_1).toNat * 5)).off + 1, none⟩ = some (.int .i64 ((rd_T104 l1 x5_1).f1)) ∧ w'.cell? ⟨(ad515.add ((x5_1).toNat * 5)).block, (ad515.add ((x5_1).toNat * 5)).off + 2, none⟩ = some (.slice A515_2 ((rd_T104 l1 x5_1).f2).length c515_2) ∧ w'.cell? ⟨(ad515.add ((x5_1).toNat * 5)).block, (ad515.add ((x5_1).toNat * 5)).off + 3, none⟩ = some (.int .i64 ((rd_T104 l1 x5_1).f3)) ∧ w'.cell? ⟨(ad515.add ((x5_1).toNat * 5)).block, (ad515.add ((x5_1).toNat * 5)).off + 4, none⟩ = some (.int .i64 ((rd_T104 l1 x5_1).f4))) (ds := []) #[false, false, false, false, false, false, false, false, false, false] (by kernel_rfl) rfl rfl ⟨((HB.out.cell (World.block_lt_of_cell? w _ hw514_0)).trans hw514_0), ((HB.out.cell (World.block_lt_of_cell? w _ hw514_1)).trans hw514_1), ((HB.out.cell (World.block_lt_of_cell? w _ hw514_2)).trans hw514_2), ((HB.out.cell (World.block_lt_of_cell? w _ hw514_3)).trans hw514_3), ((HB.out.cell (World.block_lt_of_cell? w _ hw514_4)).trans hw514_4), ((HB.out.cell (World.block_lt_of_cell? w _ hw515_0)).trans hw515_0), ((HB.out.cell (World.block_lt_of_cell? w _ hw515_1)).trans hw515_1), ((HB.out.cell (World.block_lt_of_cell? w _ hw515_2)).trans hw515_2), ((HB.out.cell (World.block_lt_of_cell? w _ hw515_3)).trans hw515_3), ((HB.out.cell (World.block_lt_of_cell? w _ hw515_4)).trans hw515_4)⟩ (fun hHeld => ?_); refine with_tabW laws_eqSenderS.tab6 laws_eqSenderS.bits6 (fun HT_ HW_ => ?_)
 generalize wr.drew = w9 at HB HR514_2 HR515_2 hx514_0 hx514_1 hx514_2 hx514_3 hx514_4 hx515_0 hx515_1 hx515_2 hx515_3 hx515_4 hHeld ⊢
 refine pu_ 0 17 HT_ ?_
 refine pu_ 1 18 HT_ ?_
 refine pu_ 2 19 HT_ ?_
 refine pu_ 4 21 HT_ ?_
 refine pu_ 5 22 HT_ ?_
 refine pu_ 6 23 HT_ ?_
 refine ta_ 3 20 HT_ HW_ hHeld ?_ (r := by rintro w' ⟨s0, s1, s2, s3, s4, s5, s6, s7, s8, s9⟩; go_simp; with_reducible rfl)
 refine ta_ 7 24 HT_ HW_ hHeld ?_ (r := by rintro w' ⟨s0, s1, s2, s3, s4, s5, s6, s7, s8, s9⟩; go_simp; with_reducible rfl)
 refine on_ 8 25 HT_ (fun K hK => ?_)
 refine goes_ Tryz.func60 (by kernel_rfl) rfl #[.agg #[.int .i64 ((rd_T104 l0 x5_1).f0), .int .i64 ((rd_T104 l0 x5_1).f1), .slice A514_2 ((rd_T104 l0 x5_1).f2).length c514_2, .int .i64 ((rd_T104 l0 x5_1).f3), .int .i64 ((rd_T104 l0 x5_1).f4)], .agg #[.int .i64 ((rd_T104 l1 x5_1).f0), .int .i64 ((rd_T104 l1 x5_1).f1), .slice A515_2 ((rd_T104 l1 x5_1).f2).length c515_2, .int .i64 ((rd_T104 l1 x5_1).f3), .int .i64 ((rd_T104 l1 x5_1).f4)]] (by rfl) rfl rfl lm_ ?_
 with_reducible refine (laws_eqSender.calls k1 ((rd_T104 l0 x5_1).f0) ((rd_T104 l0 x5_1).f1) _ _ ((rd_T104 l0 x5_1).f2) ((rd_T104 l0 x5_1).f3) ((rd_T104 l0 x5_1).f4) ((rd_T104 l1 x5_1).f0) ((rd_T104 l1 x5_1).f1) _ _ ((rd_T104 l1 x5_1).f2) ((rd_T104 l1 x5_1).f3) ((rd_T104 l1 x5_1).f4) true _ ?side1 ?side2 ?side3 ?side4 ?side5 A7.out).mono ?_
 (case side1 => exact cb_ HR514_2.out HB.out)
 (case side2 => exact HC514_2.out)
 (case side3 => exact cb_ HR515_2.out HB.out)
 (case side4 => exact HC515_2.out)
 (case side5 => first | rfl | assumption)
 rintro e w10 ⟨rfl, hb⟩
 refine ⟨_, rfl, ?_⟩
 have n0_ := Aside0.mk (below_step bl_ hb)
 clear HB
 have HB := n0_
 clear n0_
 (try clear hb)
 (try clear hb2)
 (try clear hk)
 (try clear hi)
 refine hK.out _ _ ⟨((HB.out.cell (World.block_lt_of_cell? w _ hw514_0)).trans hw514_0), ((HB.out.cell (World.block_lt_of_cell? w _ hw514_1)).trans hw514_1), ((HB.out.cell (World.block_lt_of_cell? w _ hw514_2)).trans hw514_2), ((HB.out.cell (World.block_lt_of_cell? w _ hw514_3)).trans hw514_3), ((HB.out.cell (World.block_lt_of_cell? w _ hw514_4)).trans hw514_4), ((HB.out.cell (World.block_lt_of_cell? w _ hw515_0)).trans hw515_0), ((HB.out.cell (World.block_lt_of_cell? w _ hw515_1)).trans hw515_1), ((HB.out.cell (World.block_lt_of_cell? w _ hw515_2)).trans hw515_2), ((HB.out.cell (World.block_lt_of_cell? w _ hw515_3)).trans hw515_3), ((HB.out.cell (World.block_lt_of_cell? w _ hw515_4)).trans hw515_4)⟩ (fun hHeld => ?_)
 clear hK K
 refine norm_ (a' := ?_) ?_ ?_
 rotate_left
 ·show Act.put _ (some 25) _ = _
  simp only [Act.put, List.setIfInBounds_toArray, List.set_cons_zero, List.set_cons_succ, i64_w, i32_w]
  rfl
 refine pu_ 9 26 HT_ ?_
 refine done_ (done_of HT_.out (by kernel_rfl)) ?_
 try go_wp2
 go_roundg k1
 case measure => have := HK1.out; omega
 case rel => exact ⟨(wrap64 (x5_1 + 1)), (sr_), H', ⟨by have := HK1.out; omega⟩, ⟨bl_⟩⟩


def laws_eqIntS.l0 : Nat → List Int → List Int → Int → Option (Bool)
 | 0, _, _, _ => none
 | k + 1, x0, x1, x5 => if x5 < (x0.length : Int) then (if 0 ≤ x5 then (if x5 < (x1.length : Int) then (if (rd x0 x5) = (rd x1 x5) then (laws_eqIntS.l0 k x0 x1 (wrap64 (x5 + 1))) else (some false)) else (none)) else (none)) else (some true)
def laws_eqIntS.f (k : Nat) (l0 : List Int) (l1 : List Int) : Option (Bool) := if (l0.length : Int) = (l1.length : Int) then (laws_eqIntS.l0 k l0 l1 0) else (some false)
theorem laws_eqIntS.mono_l : ∀ k, (∀ y0 y1 y2, LeO (laws_eqIntS.l0 k y0 y1 y2) (laws_eqIntS.l0 (k + 1) y0 y1 y2))
 | 0 => fun _ _ _ r h => by simp [laws_eqIntS.l0] at h
 | k + 1 => by
  have ih0 := laws_eqIntS.mono_l k
  ·intro y0 y1 y2
   unfold laws_eqIntS.l0
   exact mo_
theorem laws_eqIntS.mono : ∀ a0 a1 k, LeO (laws_eqIntS.f k a0 a1) (laws_eqIntS.f (k + 1) a0 a1) := by
 intro a0 a1 k
 have ih0 := laws_eqIntS.mono_l k
 unfold laws_eqIntS.f
 exact mo_
theorem laws_eqIntS.calls (k : Nat) (A0 : Option Addr) (c0 : Nat) (l0 : List Int) (A1 : Option Addr) (c1 : Nat) (l1 : List Int) (r : Bool) (w : World) (hr0 : Kd.C (Kd.int .i64) w A0 l0.length l0) (hc0 : l0.length ≤ c0) (hr1 : Kd.C (Kd.int .i64) w A1 l1.length l1) (hc1 : l1.length ≤ c1) (hrt : r = true) (h : laws_eqIntS.f k l0 l1 = some r) :
 Calls Tryz.prog 36 #[.slice A0 l0.length c0, .slice A1 l1.length c1] w fun e w' => e = .returned (.bool r) ∧ Drawn0 w w' := by
 have HR0 := Aside0.mk hr0
 have HC0 := Aside0.mk hc0
 clear hr0 hc0
 have HR1 := Aside0.mk hr1
 have HC1 := Aside0.mk hc1
 clear hr1 hc1
 have HRt := Aside0.mk hrt
 clear hrt
 have H := h
 unfold laws_eqIntS.f at H
 clear h
 by_cases c3 : (l0.length : Int) = (l1.length : Int)
 rotate_left
 ·rw [if_neg c3] at H
  have c3b0 : ((l0.length : Int) == (l1.length : Int)) = false := beq_eq_false_iff_ne.mpr c3
  have c3b1 : ((l0.length : Int) != (l1.length : Int)) = true := bne_iff_ne.mpr c3
  have c3b2 : (l0.length == l1.length) = false := by first | simpa using c3 | (simp at c3 ⊢; omega)
  exact absurd ((Option.some.inj H).trans HRt.out) (by decide)
 rw [if_pos c3] at H
 have c3b0 : ((l0.length : Int) == (l1.length : Int)) = true := beq_iff_eq.mpr c3
 have c3b1 : ((l0.length : Int) != (l1.length : Int)) = false := bne_eq_false_iff_eq.mpr c3
 have c3b2 : (l0.length == l1.length) = true := by first | simpa using c3 | (simp at c3 ⊢; omega)
 clear c3
 have H' := Aside0.mk H
 clear H
 go_enter Tryz.func36, Tryz.ntmps36
 go_wp2
 repeat (go_quiet (fail); try go_wp2)
 go_loopg [5] k (fun kq v5 w' => ∃ (x5_1 : Int), v5 = .int .i64 x5_1 ∧ Aside0 (laws_eqIntS.l0 kq l0 l1 x5_1 = some r) ∧ Aside0 (kq ≤ k) ∧ Drawn0 w w')
 case atStart => exact ⟨(0), (sr_), H', ⟨Nat.le_refl _⟩, by repeat (first | exact Drawn0.refl _ | apply Drawn0.step)⟩
 clear H'
 try clear c1
 try clear c3
 try clear c3b0
 try clear c3b1
 try clear c3b2
 obtain ⟨x5_1, rfl, HA, HK1, ⟨m1, rfl⟩⟩ := hrel
 cases gk with
 | zero => exact absurd HA.out (by simp [laws_eqIntS.l0])
 | succ k1 => ?_
 have H := HA.out
 clear HA
 simp only [laws_eqIntS.l0] at H
 by_cases c4 : x5_1 < (l0.length : Int)
 rotate_left
 ·rw [if_neg c4] at H
  have c4b0 := decide_eq_false c4
  clear c4
  obtain rfl := Option.some.inj H
  go_wp2
  repeat (go_quiet (fail); try go_wp2)
  go_ret
  exact ⟨sr_, by repeat (first | exact Drawn0.refl _ | apply Drawn0.step)⟩
 rw [if_pos c4] at H
 have c4b0 := decide_eq_true c4
 clear c4
 by_cases c5 : 0 ≤ x5_1
 rotate_left
 ·exact nn_ c5 H
 rw [if_pos c5] at H
 have c5b0 := decide_eq_true c5
 clear c5
 by_cases c6 : x5_1 < (l1.length : Int)
 rotate_left
 ·exact nn_ c6 H
 rw [if_pos c6] at H
 have c6b0 := decide_eq_true c6
 clear c6
 by_cases c7 : (rd l0 x5_1) = (rd l1 x5_1)
 rotate_left
 ·rw [if_neg c7] at H
  have c7b0 : ((rd l0 x5_1) == (rd l1 x5_1)) = false := beq_eq_false_iff_ne.mpr c7
  have c7b1 : ((rd l0 x5_1) != (rd l1 x5_1)) = true := bne_iff_ne.mpr c7
  exact absurd ((Option.some.inj H).trans HRt.out) (by decide)
 rw [if_pos c7] at H
 have c7b0 : ((rd l0 x5_1) == (rd l1 x5_1)) = true := beq_iff_eq.mpr c7
 have c7b1 : ((rd l0 x5_1) != (rd l1 x5_1)) = false := bne_eq_false_iff_eq.mpr c7
 clear c7
 have H' := Aside0.mk H
 clear H
 have p517 : 0 ≤ (x5_1 : Int) := of_decide_eq_true as_
 have q517 : x5_1 < (l0.length : Int) := of_decide_eq_true as_
 obtain ⟨ad517, e517, hx517_0⟩ := Kd.at_int HR0.out x5_1 p517 q517
 cases e517
 replace p517 := eq_true p517
 replace q517 := eq_true q517
 have p518 : 0 ≤ (x5_1 : Int) := of_decide_eq_true as_
 have q518 : x5_1 < (l1.length : Int) := of_decide_eq_true as_
 obtain ⟨ad518, e518, hx518_0⟩ := Kd.at_int HR1.out x5_1 p518 q518
 cases e518
 replace p518 := eq_true p518
 replace q518 := eq_true q518
 go_wp2
 repeat (go_quiet (fail); try go_wp2)
 go_roundg k1
 case measure => have := HK1.out; omega
 case rel => exact ⟨(wrap64 (x5_1 + 1)), (sr_), H', ⟨by have := HK1.out; omega⟩, by repeat (first | exact Drawn0.refl _ | apply Drawn0.step)⟩


def laws_eqEntry.f (a0_0 : Int) (a0_1 : Int) (a0_2 : Int) (a0_3 : Int) (a0_4 : Int) (a0_5 : Int) (a1_0 : Int) (a1_1 : Int) (a1_2 : Int) (a1_3 : Int) (a1_4 : Int) (a1_5 : Int) : Option (Bool) := if a0_0 = a1_0 then (if a0_1 = a1_1 then ((laws_eqItem.f a0_2 a0_3 a0_4 a0_5 a1_2 a1_3 a1_4 a1_5).bind fun t521 => (if t521 = true then (some true) else (some false))) else (some false)) else (some false)
theorem laws_eqEntry.calls (a0_0 : Int) (a0_1 : Int) (a0_2 : Int) (a0_3 : Int) (a0_4 : Int) (a0_5 : Int) (a1_0 : Int) (a1_1 : Int) (a1_2 : Int) (a1_3 : Int) (a1_4 : Int) (a1_5 : Int) (r : Bool) (w : World) (hrt : r = true) (h : laws_eqEntry.f a0_0 a0_1 a0_2 a0_3 a0_4 a0_5 a1_0 a1_1 a1_2 a1_3 a1_4 a1_5 = some r) :
 Calls Tryz.prog 83 #[.agg #[.int .i64 a0_0, .int .i64 a0_1, .int .i64 a0_2, .int .i64 a0_3, .int .i64 a0_4, .int .i64 a0_5], .agg #[.int .i64 a1_0, .int .i64 a1_1, .int .i64 a1_2, .int .i64 a1_3, .int .i64 a1_4, .int .i64 a1_5]] w fun e w' => e = .returned (.bool r) ∧ Below w.heap.size w w' := by
 have hu61 := Tryz.underlying61
 have hu59 := Tryz.underlying59
 have HRt := Aside0.mk hrt
 clear hrt
 have HB := Aside0.mk (Below.refl w.heap.size w)
 have H := h
 unfold laws_eqEntry.f at H
 clear h
 by_cases c3 : a0_0 = a1_0
 rotate_left
 ·rw [if_neg c3] at H
  have c3b0 : (a0_0 == a1_0) = false := beq_eq_false_iff_ne.mpr c3
  have c3b1 : (a0_0 != a1_0) = true := bne_iff_ne.mpr c3
  exact absurd ((Option.some.inj H).trans HRt.out) (by decide)
 rw [if_pos c3] at H
 have c3b0 : (a0_0 == a1_0) = true := beq_iff_eq.mpr c3
 have c3b1 : (a0_0 != a1_0) = false := bne_eq_false_iff_eq.mpr c3
 clear c3
 by_cases c4 : a0_1 = a1_1
 rotate_left
 ·rw [if_neg c4] at H
  have c4b0 : (a0_1 == a1_1) = false := beq_eq_false_iff_ne.mpr c4
  have c4b1 : (a0_1 != a1_1) = true := bne_iff_ne.mpr c4
  exact absurd ((Option.some.inj H).trans HRt.out) (by decide)
 rw [if_pos c4] at H
 have c4b0 : (a0_1 == a1_1) = true := beq_iff_eq.mpr c4
 have c4b1 : (a0_1 != a1_1) = false := bne_eq_false_iff_eq.mpr c4
 clear c4
 replace H := bs_ H
 obtain ⟨t521, A5, H⟩ := H
 try dsimp only at H
 by_cases c6 : t521 = true
 rotate_left
 ·replace c6 := Bool.eq_false_iff.mpr c6
  subst c6
  rw [nf_] at H
  exact absurd ((Option.some.inj H).trans HRt.out) (by decide)
 subst c6
 rw [if_pos rfl] at H
 obtain rfl := Option.some.inj H
 go_enter Tryz.func83, Tryz.ntmps83
 go_wp2_with (first | ((with_reducible refine gate_dst (N := 2) rfl ?_); refine bx_ 2 61 #[.int .i64 a0_0, .int .i64 a0_1, .int .i64 a0_2, .int .i64 a0_3, .int .i64 a0_4, .int .i64 a0_5] ?_; intro gb519 hg w7 hbox hb; have BK519 := Aside0.mk (hbox); have GW519 := Aside0.mk ((hz_ : w.heap.size ≤ gb519)); have GE519 := Aside0.mk ((hz_ : w.heap.size ≤ gb519)); replace HB := Aside0.mk (below_step bl_ hb); clear hb hbox hg) | ((with_reducible refine gate_dst (N := 3) rfl ?_); refine bx_ 3 61 #[.int .i64 a1_0, .int .i64 a1_1, .int .i64 a1_2, .int .i64 a1_3, .int .i64 a1_4, .int .i64 a1_5] ?_; intro gb520 hg w8 hbox hb; have BK520 := Aside0.mk (hbox); have GW520 := Aside0.mk ((hz_ : w.heap.size ≤ gb520)); have GE520 := Aside0.mk ((hz_ : w.heap.size ≤ gb520)); replace HB := Aside0.mk (below_step bl_ hb); have NB519_520 := Aside0.mk ((by rw [hg]; exact Nat.ne_of_lt (blk_lt (g := gb519) (o := .cells #[.int .i64 a0_0, .int .i64 a0_1, .int .i64 a0_2, .int .i64 a0_3, .int .i64 a0_4, .int .i64 a0_5] 61 (0, 0)) (bk_ BK519.out)) : gb519 ≠ gb520)); have NB520_519 := Aside0.mk ((by rw [hg]; exact Nat.ne_of_gt (blk_lt (g := gb519) (o := .cells #[.int .i64 a0_0, .int .i64 a0_1, .int .i64 a0_2, .int .i64 a0_3, .int .i64 a0_4, .int .i64 a0_5] 61 (0, 0)) (bk_ BK519.out)) : gb520 ≠ gb519)); replace BK519 := Aside0.mk (blk_below (bn0_ BK519.out) hb); clear hb hbox hg; have hnb9 := NB519_520.out; have hnc9 := NB520_519.out; obtain ⟨hcz10_0, hcz10_1, hcz10_2, hcz10_3, hcz10_4, hcz10_5, hfz10_0, hfz10_1, hfz10_2, hfz10_3, hfz10_4, hfz10_5⟩ := cf6_ BK519.out; obtain ⟨hcz11_0, hcz11_1, hcz11_2, hcz11_3, hcz11_4, hcz11_5, hfz11_0, hfz11_1, hfz11_2, hfz11_3, hfz11_4, hfz11_5⟩ := cf6_ BK520.out) | ((with_reducible refine gate_callee (f := 97) rfl ?_); refine gs_ (some 19) Tryz.func97 #[.agg #[.int .i64 a0_2, .int .i64 a0_3, .int .i64 a0_4, .int .i64 a0_5], .agg #[.int .i64 a1_2, .int .i64 a1_3, .int .i64 a1_4, .int .i64 a1_5]] ?_; (with_reducible refine (laws_eqItem.calls a0_2 a0_3 a0_4 a0_5 a1_2 a1_3 a1_4 a1_5 true _ ?side1 A5.out).mono ?_); (case side1 => first | rfl | assumption); rintro e w12 ⟨rfl, hb⟩; refine ⟨_, rfl, ?_⟩; replace BK519 := Aside0.mk (blk_below (bn0_ BK519.out) hb); replace BK520 := Aside0.mk (blk_below (bn0_ BK520.out) hb); replace HB := Aside0.mk (below_step bl_ hb); (try clear hb)))
 go_ret
 exact ⟨er_, bl_⟩


def laws_eqEntryS.l0 : Nat → List (S61) → List (S61) → Int → Option (Bool)
 | 0, _, _, _ => none
 | k + 1, x0, x1, x5 => if x5 < (x0.length : Int) then (if 0 ≤ x5 then (if x5 < (x1.length : Int) then ((laws_eqEntry.f ((rd_T61 x0 x5).f0) ((rd_T61 x0 x5).f1) ((rd_T61 x0 x5).f2.f0) ((rd_T61 x0 x5).f2.f1) ((rd_T61 x0 x5).f2.f2) ((rd_T61 x0 x5).f2.f3) ((rd_T61 x1 x5).f0) ((rd_T61 x1 x5).f1) ((rd_T61 x1 x5).f2.f0) ((rd_T61 x1 x5).f2.f1) ((rd_T61 x1 x5).f2.f2) ((rd_T61 x1 x5).f2.f3)).bind fun t524 => (if t524 = true then (laws_eqEntryS.l0 k x0 x1 (wrap64 (x5 + 1))) else (some false))) else (none)) else (none)) else (some true)
def laws_eqEntryS.f (k : Nat) (l0 : List (S61)) (l1 : List (S61)) : Option (Bool) := if (l0.length : Int) = (l1.length : Int) then (laws_eqEntryS.l0 k l0 l1 0) else (some false)
theorem laws_eqEntryS.mono_l : ∀ k, (∀ y0 y1 y2, LeO (laws_eqEntryS.l0 k y0 y1 y2) (laws_eqEntryS.l0 (k + 1) y0 y1 y2))
 | 0 => fun _ _ _ r h => by simp [laws_eqEntryS.l0] at h
 | k + 1 => by
  have ih0 := laws_eqEntryS.mono_l k
  ·intro y0 y1 y2
   unfold laws_eqEntryS.l0
   exact mo_
theorem laws_eqEntryS.mono : ∀ a0 a1 k, LeO (laws_eqEntryS.f k a0 a1) (laws_eqEntryS.f (k + 1) a0 a1) := by
 intro a0 a1 k
 have ih0 := laws_eqEntryS.mono_l k
 unfold laws_eqEntryS.f
 exact mo_
def laws_eqEntryS.T6 : Bool × List (List Nat × List Nat) := (true, [([], []), ([], []), ([0, 1], [0, 1]), ([2], [2]), ([], []), ([], []), ([4, 5], [4, 5]), ([6], [6]), ([3, 7], [3, 7]), ([8], [8])])
def laws_eqEntryS.B6 : List Nat := [0, 0, 3, 7, 0, 0, 48, 112, 255, 511]
theorem laws_eqEntryS.tab6 : rtab .any (opsOf Tryz.f61 6) = laws_eqEntryS.T6 := by kernel_rfl
theorem laws_eqEntryS.bits6 : waitsOk laws_eqEntryS.T6.2 laws_eqEntryS.B6 = true := by kernel_rfl
theorem laws_eqEntryS.calls (k : Nat) (A0 : Option Addr) (c0 : Nat) (l0 : List (S61)) (A1 : Option Addr) (c1 : Nat) (l1 : List (S61)) (r : Bool) (w : World) (hr0 : Kd.C k61 w A0 l0.length l0) (hc0 : l0.length ≤ c0) (hr1 : Kd.C k61 w A1 l1.length l1) (hc1 : l1.length ≤ c1) (hrt : r = true) (h : laws_eqEntryS.f k l0 l1 = some r) :
 Calls Tryz.prog 61 #[.slice A0 l0.length c0, .slice A1 l1.length c1] w fun e w' => e = .returned (.bool r) ∧ Below w.heap.size w w' := by
 have hu61 := Tryz.underlying61
 have HR0 := Aside0.mk hr0
 have HC0 := Aside0.mk hc0
 clear hr0 hc0
 have HR1 := Aside0.mk hr1
 have HC1 := Aside0.mk hc1
 clear hr1 hc1
 have HRt := Aside0.mk hrt
 clear hrt
 have HB := Aside0.mk (Below.refl w.heap.size w)
 have H := h
 unfold laws_eqEntryS.f at H
 clear h
 by_cases c3 : (l0.length : Int) = (l1.length : Int)
 rotate_left
 ·rw [if_neg c3] at H
  have c3b0 : ((l0.length : Int) == (l1.length : Int)) = false := beq_eq_false_iff_ne.mpr c3
  have c3b1 : ((l0.length : Int) != (l1.length : Int)) = true := bne_iff_ne.mpr c3
  have c3b2 : (l0.length == l1.length) = false := by first | simpa using c3 | (simp at c3 ⊢; omega)
  exact absurd ((Option.some.inj H).trans HRt.out) (by decide)
 rw [if_pos c3] at H
 have c3b0 : ((l0.length : Int) == (l1.length : Int)) = true := beq_iff_eq.mpr c3
 have c3b1 : ((l0.length : Int) != (l1.length : Int)) = false := bne_eq_false_iff_eq.mpr c3
 have c3b2 : (l0.length == l1.length) = true := by first | simpa using c3 | (simp at c3 ⊢; omega)
 clear c3
 have H' := Aside0.mk H
 clear H
 go_enter Tryz.func61, Tryz.ntmps61
 go_wp2
 go_loopg [5] k (fun kq v5 w' => ∃ (x5_1 : Int), v5 = .int .i64 x5_1 ∧ Aside0 (laws_eqEntryS.l0 kq l0 l1 x5_1 = some r) ∧ Aside0 (kq ≤ k) ∧ Aside0 (Below w.heap.size w w'))
 case atStart => exact ⟨(0), (sr_), H', ⟨Nat.le_refl _⟩, ⟨bl_⟩⟩
 clear H'
 try clear c1
 try clear c3
 try clear c3b0
 try clear c3b1
 try clear c3b2
 obtain ⟨x5_1, rfl, HA, HK1, HB⟩ := hrel
 cases gk with
 | zero => exact absurd HA.out (by simp [laws_eqEntryS.l0])
 | succ k1 => ?_
 have H := HA.out
 clear HA
 simp only [laws_eqEntryS.l0] at H
 by_cases c4 : x5_1 < (l0.length : Int)
 rotate_left
 ·rw [if_neg c4] at H
  have c4b0 := decide_eq_false c4
  clear c4
  obtain rfl := Option.some.inj H
  go_wp2
  go_ret
  exact ⟨er_, bl_⟩
 rw [if_pos c4] at H
 have c4b0 := decide_eq_true c4
 clear c4
 by_cases c5 : 0 ≤ x5_1
 rotate_left
 ·exact nn_ c5 H
 rw [if_pos c5] at H
 have c5b0 := decide_eq_true c5
 clear c5
 by_cases c6 : x5_1 < (l1.length : Int)
 rotate_left
 ·exact nn_ c6 H
 rw [if_pos c6] at H
 have c6b0 := decide_eq_true c6
 clear c6
 replace H := bs_ H
 obtain ⟨t524, A7, H⟩ := H
 try dsimp only at H
 by_cases c8 : t524 = true
 rotate_left
 ·replace c8 := Bool.eq_false_iff.mpr c8
  subst c8
  rw [nf_] at H
  exact absurd ((Option.some.inj H).trans HRt.out) (by decide)
 subst c8
 rw [if_pos rfl] at H
 have H' := Aside0.mk H
 clear H
 try go_wp2
 have n0_ := Aside0.mk (below_drew1 HB.out)
 clear HB
 have HB := n0_
 clear n0_
 have p522 : 0 ≤ (x5_1 : Int) := of_decide_eq_true as_
 have q522 : x5_1 < (l0.length : Int) := of_decide_eq_true as_
 obtain ⟨ad522, e522, hx522_0, hx522_1, hx522_2, hx522_3, hx522_4, hx522_5⟩ := at_T61 HR0.out x5_1 p522 q522
 have hw522_5 := hx522_5
 have hw522_4 := hx522_4
 have hw522_3 := hx522_3
 have hw522_2 := hx522_2
 have hw522_1 := hx522_1
 have hw522_0 := hx522_0
 cases e522
 replace hx522_0 := (HB.out.cell (World.block_lt_of_cell? w _ hx522_0)).trans hx522_0
 replace hx522_1 := (HB.out.cell (World.block_lt_of_cell? w _ hx522_1)).trans hx522_1
 replace hx522_2 := (HB.out.cell (World.block_lt_of_cell? w _ hx522_2)).trans hx522_2
 replace hx522_3 := (HB.out.cell (World.block_lt_of_cell? w _ hx522_3)).trans hx522_3
 replace hx522_4 := (HB.out.cell (World.block_lt_of_cell? w _ hx522_4)).trans hx522_4
 replace hx522_5 := (HB.out.cell (World.block_lt_of_cell? w _ hx522_5)).trans hx522_5
 replace p522 := eq_true p522
 replace q522 := eq_true q522
 have p523 : 0 ≤ (x5_1 : Int) := of_decide_eq_true as_
 have q523 : x5_1 < (l1.length : Int) := of_decide_eq_true as_
 obtain ⟨ad523, e523, hx523_0, hx523_1, hx523_2, hx523_3, hx523_4, hx523_5⟩ := at_T61 HR1.out x5_1 p523 q523
 have hw523_5 := hx523_5
 have hw523_4 := hx523_4
 have hw523_3 := hx523_3
 have hw523_2 := hx523_2
 have hw523_1 := hx523_1
 have hw523_0 := hx523_0
 cases e523
 replace hx523_0 := (HB.out.cell (World.block_lt_of_cell? w _ hx523_0)).trans hx523_0
 replace hx523_1 := (HB.out.cell (World.block_lt_of_cell? w _ hx523_1)).trans hx523_1
 replace hx523_2 := (HB.out.cell (World.block_lt_of_cell? w _ hx523_2)).trans hx523_2
 replace hx523_3 := (HB.out.cell (World.block_lt_of_cell? w _ hx523_3)).trans hx523_3
 replace hx523_4 := (HB.out.cell (World.block_lt_of_cell? w _ hx523_4)).trans hx523_4
 replace hx523_5 := (HB.out.cell (World.block_lt_of_cell? w _ hx523_5)).trans hx523_5
 replace p523 := eq_true p523
 replace q523 := eq_true q523
 refine start_ (n := 10) (S := fun w' => w'.cell? (ad522.add ((x5_1).toNat * 6)) = some (.int .i64 ((rd_T61 l0 x5_1).f0)) ∧ w'.cell? ⟨(ad522.add ((x5_1).toNat * 6)).block, (ad522.add ((x5_1).toNat * 6)).off + 1, none⟩ = some (.int .i64 ((rd_T61 l0 x5_1).f1)) ∧ w'.cell? ⟨(ad522.add ((x5_1).toNat * 6)).block, (ad522.add ((x5_1).toNat * 6)).off + 2, none⟩ = some (.int .i64 ((rd_T61 l0 x5_1).f2.f0)) ∧ w'.cell? ⟨(ad522.add ((x5_1).toNat * 6)).block, (ad522.add ((x5_1).toNat * 6)).off + 3, none⟩ = some (.int .i64 ((rd_T61 l0 x5_1).f2.f1)) ∧ w'.cell? ⟨(ad522.add ((x5_1).toNat * 6)).block, (ad522.add ((x5_1).toNat * 6)).off + 4, none⟩ = some (.int .i64 ((rd_T61 l0 x5_1).f2.f2)) ∧ w'.cell? ⟨(ad522.add ((x5_1).toNat * 6)).block, (ad522.add ((x5_1).toNat * 6)).off + 5, none⟩ = some (.int .i64 ((rd_T61 l0 x5_1).f2.f3)) ∧ w'.cell? (ad523.add ((x5_1).toNat * 6)) = some (.int .i64 ((rd_T61 l1 x5_1).f0)) ∧ w'.cell? ⟨(ad523.add ((x5_1).toNat * 6)).block, (ad523.add ((x5_1).toNat * 6)).off + 1, none⟩ = some (.int .i64 ((rd_T61 l1 x5_1).f1)) ∧ w'.cell? ⟨(ad523.add ((x5_1).toNat * 6)).block, (ad523.add ((x5_1).toNat * 6)).off + 2, none⟩ = some (.int .i64 ((rd_T61 l1 x5_1).f2.f0)) ∧ w'.cell? ⟨(ad523.add ((x5_1).toNat * 6)).block, (ad523.add ((x5_1).toNat * 6)).off + 3, none⟩ = some (.int .i64 ((rd_T61 l1 x5_1).f2.f1)) ∧ w'.cell? ⟨(ad523.add ((x5_1).toNat * 6)).block, (ad523.add ((x5_1).toNat * 6)).off + 4, none⟩ = some (.int .i64 ((rd_T61 l1 x5_1).f2.f2)) ∧ w'.cell? ⟨(ad523.add ((x5_1).toNat * 6)).block, (ad523.add ((x5_1).toNat * 6)).off + 5, none⟩ = some (.int .i64 ((rd_T61 l1 x5_1).f2.f3))) (ds := []) #[false, false, false, false, false, false, false, false, false, false] (by kernel_rfl) rfl rfl ⟨((HB.out.cell (World.block_lt_of_cell? w _ hw522_0)).trans hw522_0), ((HB.out.cell (World.block_lt_of_cell? w _ hw522_1)).trans hw522_1), ((HB.out.cell (World.block_lt_of_cell? w _ hw522_2)).trans hw522_2), ((HB.out.cell (World.block_lt_of_cell? w _ hw522_3)).trans hw522_3), ((HB.out.cell (World.block_lt_of_cell? w _ hw522_4)).trans hw522_4), ((HB.out.cell (World.block_lt_of_cell? w _ hw522_5)).trans hw522_5), ((HB.out.cell (World.block_lt_of_cell? w _ hw523_0)).trans hw523_0), ((HB.out.cell (World.block_lt_of_cell? w _ hw523_1)).trans hw523_1), ((HB.out.cell (World.block_lt_of_cell? w _ hw523_2)).trans hw523_2), ((HB.out.cell (World.block_lt_of_cell? w _ hw523_3)).trans hw523_3), ((HB.out.cell (World.block_lt_of_cell? w _ hw523_4)).trans hw523_4), ((HB.out.cell (World.block_lt_of_cell? w _ hw523_5)).trans hw523_5)⟩ (fun hHeld => ?_); refine with_tabW laws_eqEntryS.tab6 laws_eqEntryS.bits6 (fun HT_ HW_ => ?_)
 generalize wr.drew = w9 at HB hx522_0 hx522_1 hx522_2 hx522_3 hx522_4 hx522_5 hx523_0 hx523_1 hx523_2 hx523_3 hx523_4 hx523_5 hHeld ⊢
 refine pu_ 0 17 HT_ ?_
 refine pu_ 1 18 HT_ ?_
 refine pu_ 2 19 HT_ ?_
 refine pu_ 4 21 HT_ ?_
 refine pu_ 5 22 HT_ ?_
 refine pu_ 6 23 HT_ ?_
 refine ta_ 3 20 HT_ HW_ hHeld ?_ (r := by rintro w' ⟨s0, s1, s2, s3, s4, s5, s6, s7, s8, s9, s10, s11⟩; go_simp; with_reducible rfl)
 refine ta_ 7 24 HT_ HW_ hHeld ?_ (r := by rintro w' ⟨s0, s1, s2, s3, s4, s5, s6, s7, s8, s9, s10, s11⟩; go_simp; with_reducible rfl)
 refine on_ 8 25 HT_ (fun K hK => ?_)
 refine goes_ Tryz.func83 (by kernel_rfl) rfl #[.agg #[.int .i64 ((rd_T61 l0 x5_1).f0), .int .i64 ((rd_T61 l0 x5_1).f1), .int .i64 ((rd_T61 l0 x5_1).f2.f0), .int .i64 ((rd_T61 l0 x5_1).f2.f1), .int .i64 ((rd_T61 l0 x5_1).f2.f2), .int .i64 ((rd_T61 l0 x5_1).f2.f3)], .agg #[.int .i64 ((rd_T61 l1 x5_1).f0), .int .i64 ((rd_T61 l1 x5_1).f1), .int .i64 ((rd_T61 l1 x5_1).f2.f0), .int .i64 ((rd_T61 l1 x5_1).f2.f1), .int .i64 ((rd_T61 l1 x5_1).f2.f2), .int .i64 ((rd_T61 l1 x5_1).f2.f3)]] (by rfl) rfl rfl lm_ ?_
 with_reducible refine (laws_eqEntry.calls ((rd_T61 l0 x5_1).f0) ((rd_T61 l0 x5_1).f1) ((rd_T61 l0 x5_1).f2.f0) ((rd_T61 l0 x5_1).f2.f1) ((rd_T61 l0 x5_1).f2.f2) ((rd_T61 l0 x5_1).f2.f3) ((rd_T61 l1 x5_1).f0) ((rd_T61 l1 x5_1).f1) ((rd_T61 l1 x5_1).f2.f0) ((rd_T61 l1 x5_1).f2.f1) ((rd_T61 l1 x5_1).f2.f2) ((rd_T61 l1 x5_1).f2.f3) true _ ?side1 A7.out).mono ?_
 (case side1 => first | rfl | assumption)
 rintro e w10 ⟨rfl, hb⟩
 refine ⟨_, rfl, ?_⟩
 have n0_ := Aside0.mk (below_step bl_ hb)
 clear HB
 have HB := n0_
 clear n0_
 (try clear hb)
 (try clear hb2)
 (try clear hk)
 (try clear hi)
 refine hK.out _ _ ⟨((HB.out.cell (World.block_lt_of_cell? w _ hw522_0)).trans hw522_0), ((HB.out.cell (World.block_lt_of_cell? w _ hw522_1)).trans hw522_1), ((HB.out.cell (World.block_lt_of_cell? w _ hw522_2)).trans hw522_2), ((HB.out.cell (World.block_lt_of_cell? w _ hw522_3)).trans hw522_3), ((HB.out.cell (World.block_lt_of_cell? w _ hw522_4)).trans hw522_4), ((HB.out.cell (World.block_lt_of_cell? w _ hw522_5)).trans hw522_5), ((HB.out.cell (World.block_lt_of_cell? w _ hw523_0)).trans hw523_0), ((HB.out.cell (World.block_lt_of_cell? w _ hw523_1)).trans hw523_1), ((HB.out.cell (World.block_lt_of_cell? w _ hw523_2)).trans hw523_2), ((HB.out.cell (World.block_lt_of_cell? w _ hw523_3)).trans hw523_3), ((HB.out.cell (World.block_lt_of_cell? w _ hw523_4)).trans hw523_4), ((HB.out.cell (World.block_lt_of_cell? w _ hw523_5)).trans hw523_5)⟩ (fun hHeld => ?_)
 clear hK K
 refine norm_ (a' := ?_) ?_ ?_
 rotate_left
 ·show Act.put _ (some 25) _ = _
  simp only [Act.put, List.setIfInBounds_toArray, List.set_cons_zero, List.set_cons_succ, i64_w, i32_w]
  rfl
 refine pu_ 9 26 HT_ ?_
 refine done_ (done_of HT_.out (by kernel_rfl)) ?_
 try go_wp2
 go_roundg k1
 case measure => have := HK1.out; omega
 case rel => exact ⟨(wrap64 (x5_1 + 1)), (sr_), H', ⟨by have := HK1.out; omega⟩, ⟨bl_⟩⟩


def laws_eqEarly.f (a0_0 : Int) (a0_1 : Int) (a0_2 : Int) (a0_3 : Int) (a0_4 : Int) (a0_5 : Int) (a1_0 : Int) (a1_1 : Int) (a1_2 : Int) (a1_3 : Int) (a1_4 : Int) (a1_5 : Int) : Option (Bool) := if a0_0 = a1_0 then (if a0_1 = a1_1 then ((laws_eqItem.f a0_2 a0_3 a0_4 a0_5 a1_2 a1_3 a1_4 a1_5).bind fun t527 => (if t527 = true then (some true) else (some false))) else (some false)) else (some false)
theorem laws_eqEarly.calls (a0_0 : Int) (a0_1 : Int) (a0_2 : Int) (a0_3 : Int) (a0_4 : Int) (a0_5 : Int) (a1_0 : Int) (a1_1 : Int) (a1_2 : Int) (a1_3 : Int) (a1_4 : Int) (a1_5 : Int) (r : Bool) (w : World) (hrt : r = true) (h : laws_eqEarly.f a0_0 a0_1 a0_2 a0_3 a0_4 a0_5 a1_0 a1_1 a1_2 a1_3 a1_4 a1_5 = some r) :
 Calls Tryz.prog 84 #[.agg #[.int .i64 a0_0, .int .i64 a0_1, .int .i64 a0_2, .int .i64 a0_3, .int .i64 a0_4, .int .i64 a0_5], .agg #[.int .i64 a1_0, .int .i64 a1_1, .int .i64 a1_2, .int .i64 a1_3, .int .i64 a1_4, .int .i64 a1_5]] w fun e w' => e = .returned (.bool r) ∧ Below w.heap.size w w' := by
 have hu142 := Tryz.underlying142
 have hu59 := Tryz.underlying59
 have HRt := Aside0.mk hrt
 clear hrt
 have HB := Aside0.mk (Below.refl w.heap.size w)
 have H := h
 unfold laws_eqEarly.f at H
 clear h
 by_cases c3 : a0_0 = a1_0
 rotate_left
 ·rw [if_neg c3] at H
  have c3b0 : (a0_0 == a1_0) = false := beq_eq_false_iff_ne.mpr c3
  have c3b1 : (a0_0 != a1_0) = true := bne_iff_ne.mpr c3
  exact absurd ((Option.some.inj H).trans HRt.out) (by decide)
 rw [if_pos c3] at H
 have c3b0 : (a0_0 == a1_0) = true := beq_iff_eq.mpr c3
 have c3b1 : (a0_0 != a1_0) = false := bne_eq_false_iff_eq.mpr c3
 clear c3
 by_cases c4 : a0_1 = a1_1
 rotate_left
 ·rw [if_neg c4] at H
  have c4b0 : (a0_1 == a1_1) = false := beq_eq_false_iff_ne.mpr c4
  have c4b1 : (a0_1 != a1_1) = true := bne_iff_ne.mpr c4
  exact absurd ((Option.some.inj H).trans HRt.out) (by decide)
 rw [if_pos c4] at H
 have c4b0 : (a0_1 == a1_1) = true := beq_iff_eq.mpr c4
 have c4b1 : (a0_1 != a1_1) = false := bne_eq_false_iff_eq.mpr c4
 clear c4
 replace H := bs_ H
 obtain ⟨t527, A5, H⟩ := H
 try dsimp only at H
 by_cases c6 : t527 = true
 rotate_left
 ·replace c6 := Bool.eq_false_iff.mpr c6
  subst c6
  rw [nf_] at H
  exact absurd ((Option.some.inj H).trans HRt.out) (by decide)
 subst c6
 rw [if_pos rfl] at H
 obtain rfl := Option.some.inj H
 go_enter Tryz.func84, Tryz.ntmps84
 go_wp2_with (first | ((with_reducible refine gate_dst (N := 2) rfl ?_); refine bx_ 2 142 #[.int .i64 a0_0, .int .i64 a0_1, .int .i64 a0_2, .int .i64 a0_3, .int .i64 a0_4, .int .i64 a0_5] ?_; intro gb525 hg w7 hbox hb; have BK525 := Aside0.mk (hbox); have GW525 := Aside0.mk ((hz_ : w.heap.size ≤ gb525)); have GE525 := Aside0.mk ((hz_ : w.heap.size ≤ gb525)); replace HB := Aside0.mk (below_step bl_ hb); clear hb hbox hg) | ((with_reducible refine gate_dst (N := 3) rfl ?_); refine bx_ 3 142 #[.int .i64 a1_0, .int .i64 a1_1, .int .i64 a1_2, .int .i64 a1_3, .int .i64 a1_4, .int .i64 a1_5] ?_; intro gb526 hg w8 hbox hb; have BK526 := Aside0.mk (hbox); have GW526 := Aside0.mk ((hz_ : w.heap.size ≤ gb526)); have GE526 := Aside0.mk ((hz_ : w.heap.size ≤ gb526)); replace HB := Aside0.mk (below_step bl_ hb); have NB525_526 := Aside0.mk ((by rw [hg]; exact Nat.ne_of_lt (blk_lt (g := gb525) (o := .cells #[.int .i64 a0_0, .int .i64 a0_1, .int .i64 a0_2, .int .i64 a0_3, .int .i64 a0_4, .int .i64 a0_5] 142 (0, 0)) (bk_ BK525.out)) : gb525 ≠ gb526)); have NB526_525 := Aside0.mk ((by rw [hg]; exact Nat.ne_of_gt (blk_lt (g := gb525) (o := .cells #[.int .i64 a0_0, .int .i64 a0_1, .int .i64 a0_2, .int .i64 a0_3, .int .i64 a0_4, .int .i64 a0_5] 142 (0, 0)) (bk_ BK525.out)) : gb526 ≠ gb525)); replace BK525 := Aside0.mk (blk_below (bn0_ BK525.out) hb); clear hb hbox hg; have hnb9 := NB525_526.out; have hnc9 := NB526_525.out; obtain ⟨hcz10_0, hcz10_1, hcz10_2, hcz10_3, hcz10_4, hcz10_5, hfz10_0, hfz10_1, hfz10_2, hfz10_3, hfz10_4, hfz10_5⟩ := cf6_ BK525.out; obtain ⟨hcz11_0, hcz11_1, hcz11_2, hcz11_3, hcz11_4, hcz11_5, hfz11_0, hfz11_1, hfz11_2, hfz11_3, hfz11_4, hfz11_5⟩ := cf6_ BK526.out) | ((with_reducible refine gate_callee (f := 97) rfl ?_); refine gs_ (some 19) Tryz.func97 #[.agg #[.int .i64 a0_2, .int .i64 a0_3, .int .i64 a0_4, .int .i64 a0_5], .agg #[.int .i64 a1_2, .int .i64 a1_3, .int .i64 a1_4, .int .i64 a1_5]] ?_; (with_reducible refine (laws_eqItem.calls a0_2 a0_3 a0_4 a0_5 a1_2 a1_3 a1_4 a1_5 true _ ?side1 A5.out).mono ?_); (case side1 => first | rfl | assumption); rintro e w12 ⟨rfl, hb⟩; refine ⟨_, rfl, ?_⟩; replace BK525 := Aside0.mk (blk_below (bn0_ BK525.out) hb); replace BK526 := Aside0.mk (blk_below (bn0_ BK526.out) hb); replace HB := Aside0.mk (below_step bl_ hb); (try clear hb)))
 go_ret
 exact ⟨er_, bl_⟩


def laws_eqEarlyS.l0 : Nat → List (S142) → List (S142) → Int → Option (Bool)
 | 0, _, _, _ => none
 | k + 1, x0, x1, x5 => if x5 < (x0.length : Int) then (if 0 ≤ x5 then (if x5 < (x1.length : Int) then ((laws_eqEarly.f ((rd_T142 x0 x5).f0) ((rd_T142 x0 x5).f1) ((rd_T142 x0 x5).f2.f0) ((rd_T142 x0 x5).f2.f1) ((rd_T142 x0 x5).f2.f2) ((rd_T142 x0 x5).f2.f3) ((rd_T142 x1 x5).f0) ((rd_T142 x1 x5).f1) ((rd_T142 x1 x5).f2.f0) ((rd_T142 x1 x5).f2.f1) ((rd_T142 x1 x5).f2.f2) ((rd_T142 x1 x5).f2.f3)).bind fun t530 => (if t530 = true then (laws_eqEarlyS.l0 k x0 x1 (wrap64 (x5 + 1))) else (some false))) else (none)) else (none)) else (some true)
def laws_eqEarlyS.f (k : Nat) (l0 : List (S142)) (l1 : List (S142)) : Option (Bool) := if (l0.length : Int) = (l1.length : Int) then (laws_eqEarlyS.l0 k l0 l1 0) else (some false)
theorem laws_eqEarlyS.mono_l : ∀ k, (∀ y0 y1 y2, LeO (laws_eqEarlyS.l0 k y0 y1 y2) (laws_eqEarlyS.l0 (k + 1) y0 y1 y2))
 | 0 => fun _ _ _ r h => by simp [laws_eqEarlyS.l0] at h
 | k + 1 => by
  have ih0 := laws_eqEarlyS.mono_l k
  ·intro y0 y1 y2
   unfold laws_eqEarlyS.l0
   exact mo_
theorem laws_eqEarlyS.mono : ∀ a0 a1 k, LeO (laws_eqEarlyS.f k a0 a1) (laws_eqEarlyS.f (k + 1) a0 a1) := by
 intro a0 a1 k
 have ih0 := laws_eqEarlyS.mono_l k
 unfold laws_eqEarlyS.f
 exact mo_
def laws_eqEarlyS.T6 : Bool × List (List Nat × List Nat) := (true, [([], []), ([], []), ([0, 1], [0, 1]), ([2], [2]), ([], []), ([], []), ([4, 5], [4, 5]), ([6], [6]), ([3, 7], [3, 7]), ([8], [8])])
def laws_eqEarlyS.B6 : List Nat := [0, 0, 3, 7, 0, 0, 48, 112, 255, 511]
theorem laws_eqEarlyS.tab6 : rtab .any (opsOf Tryz.f62 6) = laws_eqEarlyS.T6 := by kernel_rfl
theorem laws_eqEarlyS.bits6 : waitsOk laws_eqEarlyS.T6.2 laws_eqEarlyS.B6 = true := by kernel_rfl
theorem laws_eqEarlyS.calls (k : Nat) (A0 : Option Addr) (c0 : Nat) (l0 : List (S142)) (A1 : Option Addr) (c1 : Nat) (l1 : List (S142)) (r : Bool) (w : World) (hr0 : Kd.C k142 w A0 l0.length l0) (hc0 : l0.length ≤ c0) (hr1 : Kd.C k142 w A1 l1.length l1) (hc1 : l1.length ≤ c1) (hrt : r = true) (h : laws_eqEarlyS.f k l0 l1 = some r) :
 Calls Tryz.prog 62 #[.slice A0 l0.length c0, .slice A1 l1.length c1] w fun e w' => e = .returned (.bool r) ∧ Below w.heap.size w w' := by
 have hu142 := Tryz.underlying142
 have HR0 := Aside0.mk hr0
 have HC0 := Aside0.mk hc0
 clear hr0 hc0
 have HR1 := Aside0.mk hr1
 have HC1 := Aside0.mk hc1
 clear hr1 hc1
 have HRt := Aside0.mk hrt
 clear hrt
 have HB := Aside0.mk (Below.refl w.heap.size w)
 have H := h
 unfold laws_eqEarlyS.f at H
 clear h
 by_cases c3 : (l0.length : Int) = (l1.length : Int)
 rotate_left
 ·rw [if_neg c3] at H
  have c3b0 : ((l0.length : Int) == (l1.length : Int)) = false := beq_eq_false_iff_ne.mpr c3
  have c3b1 : ((l0.length : Int) != (l1.length : Int)) = true := bne_iff_ne.mpr c3
  have c3b2 : (l0.length == l1.length) = false := by first | simpa using c3 | (simp at c3 ⊢; omega)
  exact absurd ((Option.some.inj H).trans HRt.out) (by decide)
 rw [if_pos c3] at H
 have c3b0 : ((l0.length : Int) == (l1.length : Int)) = true := beq_iff_eq.mpr c3
 have c3b1 : ((l0.length : Int) != (l1.length : Int)) = false := bne_eq_false_iff_eq.mpr c3
 have c3b2 : (l0.length == l1.length) = true := by first | simpa using c3 | (simp at c3 ⊢; omega)
 clear c3
 have H' := Aside0.mk H
 clear H
 go_enter Tryz.func62, Tryz.ntmps62
 go_wp2
 go_loopg [5] k (fun kq v5 w' => ∃ (x5_1 : Int), v5 = .int .i64 x5_1 ∧ Aside0 (laws_eqEarlyS.l0 kq l0 l1 x5_1 = some r) ∧ Aside0 (kq ≤ k) ∧ Aside0 (Below w.heap.size w w'))
 case atStart => exact ⟨(0), (sr_), H', ⟨Nat.le_refl _⟩, ⟨bl_⟩⟩
 clear H'
 try clear c1
 try clear c3
 try clear c3b0
 try clear c3b1
 try clear c3b2
 obtain ⟨x5_1, rfl, HA, HK1, HB⟩ := hrel
 cases gk with
 | zero => exact absurd HA.out (by simp [laws_eqEarlyS.l0])
 | succ k1 => ?_
 have H := HA.out
 clear HA
 simp only [laws_eqEarlyS.l0] at H
 by_cases c4 : x5_1 < (l0.length : Int)
 rotate_left
 ·rw [if_neg c4] at H
  have c4b0 := decide_eq_false c4
  clear c4
  obtain rfl := Option.some.inj H
  go_wp2
  go_ret
  exact ⟨er_, bl_⟩
 rw [if_pos c4] at H
 have c4b0 := decide_eq_true c4
 clear c4
 by_cases c5 : 0 ≤ x5_1
 rotate_left
 ·exact nn_ c5 H
 rw [if_pos c5] at H
 have c5b0 := decide_eq_true c5
 clear c5
 by_cases c6 : x5_1 < (l1.length : Int)
 rotate_left
 ·exact nn_ c6 H
 rw [if_pos c6] at H
 have c6b0 := decide_eq_true c6
 clear c6
 replace H := bs_ H
 obtain ⟨t530, A7, H⟩ := H
 try dsimp only at H
 by_cases c8 : t530 = true
 rotate_left
 ·replace c8 := Bool.eq_false_iff.mpr c8
  subst c8
  rw [nf_] at H
  exact absurd ((Option.some.inj H).trans HRt.out) (by decide)
 subst c8
 rw [if_pos rfl] at H
 have H' := Aside0.mk H
 clear H
 try go_wp2
 have n0_ := Aside0.mk (below_drew1 HB.out)
 clear HB
 have HB := n0_
 clear n0_
 have p528 : 0 ≤ (x5_1 : Int) := of_decide_eq_true as_
 have q528 : x5_1 < (l0.length : Int) := of_decide_eq_true as_
 obtain ⟨ad528, e528, hx528_0, hx528_1, hx528_2, hx528_3, hx528_4, hx528_5⟩ := at_T142 HR0.out x5_1 p528 q528
 have hw528_5 := hx528_5
 have hw528_4 := hx528_4
 have hw528_3 := hx528_3
 have hw528_2 := hx528_2
 have hw528_1 := hx528_1
 have hw528_0 := hx528_0
 cases e528
 replace hx528_0 := (HB.out.cell (World.block_lt_of_cell? w _ hx528_0)).trans hx528_0
 replace hx528_1 := (HB.out.cell (World.block_lt_of_cell? w _ hx528_1)).trans hx528_1
 replace hx528_2 := (HB.out.cell (World.block_lt_of_cell? w _ hx528_2)).trans hx528_2
 replace hx528_3 := (HB.out.cell (World.block_lt_of_cell? w _ hx528_3)).trans hx528_3
 replace hx528_4 := (HB.out.cell (World.block_lt_of_cell? w _ hx528_4)).trans hx528_4
 replace hx528_5 := (HB.out.cell (World.block_lt_of_cell? w _ hx528_5)).trans hx528_5
 replace p528 := eq_true p528
 replace q528 := eq_true q528
 have p529 : 0 ≤ (x5_1 : Int) := of_decide_eq_true as_
 have q529 : x5_1 < (l1.length : Int) := of_decide_eq_true as_
 obtain ⟨ad529, e529, hx529_0, hx529_1, hx529_2, hx529_3, hx529_4, hx529_5⟩ := at_T142 HR1.out x5_1 p529 q529
 have hw529_5 := hx529_5
 have hw529_4 := hx529_4
 have hw529_3 := hx529_3
 have hw529_2 := hx529_2
 have hw529_1 := hx529_1
 have hw529_0 := hx529_0
 cases e529
 replace hx529_0 := (HB.out.cell (World.block_lt_of_cell? w _ hx529_0)).trans hx529_0
 replace hx529_1 := (HB.out.cell (World.block_lt_of_cell? w _ hx529_1)).trans hx529_1
 replace hx529_2 := (HB.out.cell (World.block_lt_of_cell? w _ hx529_2)).trans hx529_2
 replace hx529_3 := (HB.out.cell (World.block_lt_of_cell? w _ hx529_3)).trans hx529_3
 replace hx529_4 := (HB.out.cell (World.block_lt_of_cell? w _ hx529_4)).trans hx529_4
 replace hx529_5 := (HB.out.cell (World.block_lt_of_cell? w _ hx529_5)).trans hx529_5
 replace p529 := eq_true p529
 replace q529 := eq_true q529
 refine start_ (n := 10) (S := fun w' => w'.cell? (ad528.add ((x5_1).toNat * 6)) = some (.int .i64 ((rd_T142 l0 x5_1).f0)) ∧ w'.cell? ⟨(ad528.add ((x5_1).toNat * 6)).block, (ad528.add ((x5_1).toNat * 6)).off + 1, none⟩ = some (.int .i64 ((rd_T142 l0 x5_1).f1)) ∧ w'.cell? ⟨(ad528.add ((x5_1).toNat * 6)).block, (ad528.add ((x5_1).toNat * 6)).off + 2, none⟩ = some (.int .i64 ((rd_T142 l0 x5_1).f2.f0)) ∧ w'.cell? ⟨(ad528.add ((x5_1).toNat * 6)).block, (ad528.add ((x5_1).toNat * 6)).off + 3, none⟩ = some (.int .i64 ((rd_T142 l0 x5_1).f2.f1)) ∧ w'.cell? ⟨(ad528.add ((x5_1).toNat * 6)).block, (ad528.add ((x5_1).toNat * 6)).off + 4, none⟩ = some (.int .i64 ((rd_T142 l0 x5_1).f2.f2)) ∧ w'.cell? ⟨(ad528.add ((x5_1).toNat * 6)).block, (ad528.add ((x5_1).toNat * 6)).off + 5, none⟩ = some (.int .i64 ((rd_T142 l0 x5_1).f2.f3)) ∧ w'.cell? (ad529.add ((x5_1).toNat * 6)) = some (.int .i64 ((rd_T142 l1 x5_1).f0)) ∧ w'.cell? ⟨(ad529.add ((x5_1).toNat * 6)).block, (ad529.add ((x5_1).toNat * 6)).off + 1, none⟩ = some (.int .i64 ((rd_T142 l1 x5_1).f1)) ∧ w'.cell? ⟨(ad529.add ((x5_1).toNat * 6)).block, (ad529.add ((x5_1).toNat * 6)).off + 2, none⟩ = some (.int .i64 ((rd_T142 l1 x5_1).f2.f0)) ∧ w'.cell? ⟨(ad529.add ((x5_1).toNat * 6)).block, (ad529.add ((x5_1).toNat * 6)).off + 3, none⟩ = some (.int .i64 ((rd_T142 l1 x5_1).f2.f1)) ∧ w'.cell? ⟨(ad529.add ((x5_1).toNat * 6)).block, (ad529.add ((x5_1).toNat * 6)).off + 4, none⟩ = some (.int .i64 ((rd_T142 l1 x5_1).f2.f2)) ∧ w'.cell? ⟨(ad529.add ((x5_1).toNat * 6)).block, (ad529.add ((x5_1).toNat * 6)).off + 5, none⟩ = some (.int .i64 ((rd_T142 l1 x5_1).f2.f3))) (ds := []) #[false, false, false, false, false, false, false, false, false, false] (by kernel_rfl) rfl rfl ⟨((HB.out.cell (World.block_lt_of_cell? w _ hw528_0)).trans hw528_0), ((HB.out.cell (World.block_lt_of_cell? w _ hw528_1)).trans hw528_1), ((HB.out.cell (World.block_lt_of_cell? w _ hw528_2)).trans hw528_2), ((HB.out.cell (World.block_lt_of_cell? w _ hw528_3)).trans hw528_3), ((HB.out.cell (World.block_lt_of_cell? w _ hw528_4)).trans hw528_4), ((HB.out.cell (World.block_lt_of_cell? w _ hw528_5)).trans hw528_5), ((HB.out.cell (World.block_lt_of_cell? w _ hw529_0)).trans hw529_0), ((HB.out.cell (World.block_lt_of_cell? w _ hw529_1)).trans hw529_1), ((HB.out.cell (World.block_lt_of_cell? w _ hw529_2)).trans hw529_2), ((HB.out.cell (World.block_lt_of_cell? w _ hw529_3)).trans hw529_3), ((HB.out.cell (World.block_lt_of_cell? w _ hw529_4)).trans hw529_4), ((HB.out.cell (World.block_lt_of_cell? w _ hw529_5)).trans hw529_5)⟩ (fun hHeld => ?_); refine with_tabW laws_eqEarlyS.tab6 laws_eqEarlyS.bits6 (fun HT_ HW_ => ?_)
 generalize wr.drew = w9 at HB hx528_0 hx528_1 hx528_2 hx528_3 hx528_4 hx528_5 hx529_0 hx529_1 hx529_2 hx529_3 hx529_4 hx529_5 hHeld ⊢
 refine pu_ 0 17 HT_ ?_
 refine pu_ 1 18 HT_ ?_
 refine pu_ 2 19 HT_ ?_
 refine pu_ 4 21 HT_ ?_
 refine pu_ 5 22 HT_ ?_
 refine pu_ 6 23 HT_ ?_
 refine ta_ 3 20 HT_ HW_ hHeld ?_ (r := by rintro w' ⟨s0, s1, s2, s3, s4, s5, s6, s7, s8, s9, s10, s11⟩; go_simp; with_reducible rfl)
 refine ta_ 7 24 HT_ HW_ hHeld ?_ (r := by rintro w' ⟨s0, s1, s2, s3, s4, s5, s6, s7, s8, s9, s10, s11⟩; go_simp; with_reducible rfl)
 refine on_ 8 25 HT_ (fun K hK => ?_)
 refine goes_ Tryz.func84 (by kernel_rfl) rfl #[.agg #[.int .i64 ((rd_T142 l0 x5_1).f0), .int .i64 ((rd_T142 l0 x5_1).f1), .int .i64 ((rd_T142 l0 x5_1).f2.f0), .int .i64 ((rd_T142 l0 x5_1).f2.f1), .int .i64 ((rd_T142 l0 x5_1).f2.f2), .int .i64 ((rd_T142 l0 x5_1).f2.f3)], .agg #[.int .i64 ((rd_T142 l1 x5_1).f0), .int .i64 ((rd_T142 l1 x5_1).f1), .int .i64 ((rd_T142 l1 x5_1).f2.f0), .int .i64 ((rd_T142 l1 x5_1).f2.f1), .int .i64 ((rd_T142 l1 x5_1).f2.f2), .int .i64 ((rd_T142 l1 x5_1).f2.f3)]] (by rfl) rfl rfl lm_ ?_
 with_reducible refine (laws_eqEarly.calls ((rd_T142 l0 x5_1).f0) ((rd_T142 l0 x5_1).f1) ((rd_T142 l0 x5_1).f2.f0) ((rd_T142 l0 x5_1).f2.f1) ((rd_T142 l0 x5_1).f2.f2) ((rd_T142 l0 x5_1).f2.f3) ((rd_T142 l1 x5_1).f0) ((rd_T142 l1 x5_1).f1) ((rd_T142 l1 x5_1).f2.f0) ((rd_T142 l1 x5_1).f2.f1) ((rd_T142 l1 x5_1).f2.f2) ((rd_T142 l1 x5_1).f2.f3) true _ ?side1 A7.out).mono ?_
 (case side1 => first | rfl | assumption)
 rintro e w10 ⟨rfl, hb⟩
 refine ⟨_, rfl, ?_⟩
 have n0_ := Aside0.mk (below_step bl_ hb)
 clear HB
 have HB := n0_
 clear n0_
 (try clear hb)
 (try clear hb2)
 (try clear hk)
 (try clear hi)
 refine hK.out _ _ ⟨((HB.out.cell (World.block_lt_of_cell? w _ hw528_0)).trans hw528_0), ((HB.out.cell (World.block_lt_of_cell? w _ hw528_1)).trans hw528_1), ((HB.out.cell (World.block_lt_of_cell? w _ hw528_2)).trans hw528_2), ((HB.out.cell (World.block_lt_of_cell? w _ hw528_3)).trans hw528_3), ((HB.out.cell (World.block_lt_of_cell? w _ hw528_4)).trans hw528_4), ((HB.out.cell (World.block_lt_of_cell? w _ hw528_5)).trans hw528_5), ((HB.out.cell (World.block_lt_of_cell? w _ hw529_0)).trans hw529_0), ((HB.out.cell (World.block_lt_of_cell? w _ hw529_1)).trans hw529_1), ((HB.out.cell (World.block_lt_of_cell? w _ hw529_2)).trans hw529_2), ((HB.out.cell (World.block_lt_of_cell? w _ hw529_3)).trans hw529_3), ((HB.out.cell (World.block_lt_of_cell? w _ hw529_4)).trans hw529_4), ((HB.out.cell (World.block_lt_of_cell? w _ hw529_5)).trans hw529_5)⟩ (fun hHeld => ?_)
 clear hK K
 refine norm_ (a' := ?_) ?_ ?_
 rotate_left
 ·show Act.put _ (some 25) _ = _
  simp only [Act.put, List.setIfInBounds_toArray, List.set_cons_zero, List.set_cons_succ, i64_w, i32_w]
  rfl
 refine pu_ 9 26 HT_ ?_
 refine done_ (done_of HT_.out (by kernel_rfl)) ?_
 try go_wp2
 go_roundg k1
 case measure => have := HK1.out; omega
 case rel => exact ⟨(wrap64 (x5_1 + 1)), (sr_), H', ⟨by have := HK1.out; omega⟩, ⟨bl_⟩⟩


def laws_eqKeeper.f (k : Nat) (l0_0 : List (S61)) (l0_1 : List Int) (l0_2 : List (S142)) (a0_3 : Int) (l0_4 : List Int) (l1_0 : List (S61)) (l1_1 : List Int) (l1_2 : List (S142)) (a1_3 : Int) (l1_4 : List Int) : Option (Bool) := (laws_eqEntryS.f k l0_0 l1_0).bind fun t533 => (if t533 = true then ((laws_eqIntS.f k l0_1 l1_1).bind fun t534 => (if t534 = true then ((laws_eqEarlyS.f k l0_2 l1_2).bind fun t535 => (if t535 = true then (if a0_3 = a1_3 then ((laws_eqIntS.f k l0_4 l1_4).bind fun t536 => (if t536 = true then (some true) else (some false))) else (some false)) else (some false))) else (some false))) else (some false))
theorem laws_eqKeeper.mono : ∀ a0 a1 a2 a3 a4 a5 a6 a7 a8 a9 k, LeO (laws_eqKeeper.f k a0 a1 a2 a3 a4 a5 a6 a7 a8 a9) (laws_eqKeeper.f (k + 1) a0 a1 a2 a3 a4 a5 a6 a7 a8 a9) := by
 intro a0 a1 a2 a3 a4 a5 a6 a7 a8 a9 k
 unfold laws_eqKeeper.f
 have m0 := @laws_eqEarlyS.mono
 have m1 := @laws_eqEntryS.mono
 have m2 := @laws_eqIntS.mono
 exact mo_
theorem laws_eqKeeper.calls (k : Nat) (A0_0 : Option Addr) (c0_0 : Nat) (l0_0 : List (S61)) (A0_1 : Option Addr) (c0_1 : Nat) (l0_1 : List Int) (A0_2 : Option Addr) (c0_2 : Nat) (l0_2 : List (S142)) (a0_3 : Int) (A0_4 : Option Addr) (c0_4 : Nat) (l0_4 : List Int) (A1_0 : Option Addr) (c1_0 : Nat) (l1_0 : List (S61)) (A1_1 : Option Addr) (c1_1 : Nat) (l1_1 : List Int) (A1_2 : Option Addr) (c1_2 : Nat) (l1_2 : List (S142)) (a1_3 : Int) (A1_4 : Option Addr) (c1_4 : Nat) (l1_4 : List Int) (r : Bool) (w : World) (hr0_0 : Kd.C k61 w A0_0 l0_0.length l0_0) (hc0_0 : l0_0.length ≤ c0_0) (hr0_1 : Kd.C (Kd.int .i64) w A0_1 l0_1.length l0_1) (hc0_1 : l0_1.length ≤ c0_1) (hr0_2 : Kd.C k142 w A0_2 l0_2.length l0_2) (hc0_2 : l0_2.length ≤ c0_2) (hr0_4 : Kd.C (Kd.int .i64) w A0_4 l0_4.length l0_4) (hc0_4 : l0_4.length ≤ c0_4) (hr1_0 : Kd.C k61 w A1_0 l1_0.length l1_0) (hc1_0 : l1_0.length ≤ c1_0) (hr1_1 : Kd.C (Kd.int .i64) w A1_1 l1_1.length l1_1) (hc1_1 : l1_1.length ≤ c1_1) (hr1_2 : Kd.C k142 w A1_2 l1_2.length l1_2) (hc1_2 : l1_2.length ≤ c1_2) (hr1_4 : Kd.C (Kd.int .i64) w A1_4 l1_4.length l1_4) (hc1_4 : l1_4.length ≤ c1_4) (hrt : r = true) (h : laws_eqKeeper.f k l0_0 l0_1 l0_2 a0_3 l0_4 l1_0 l1_1 l1_2 a1_3 l1_4 = some r) :
 Calls Tryz.prog 34 #[.agg #[.slice A0_0 l0_0.length c0_0, .slice A0_1 l0_1.length c0_1, .slice A0_2 l0_2.length c0_2, .int .i64 a0_3, .slice A0_4 l0_4.length c0_4], .agg #[.slice A1_0 l1_0.length c1_0, .slice A1_1 l1_1.length c1_1, .slice A1_2 l1_2.length c1_2, .int .i64 a1_3, .slice A1_4 l1_4.length c1_4]] w fun e w' => e = .returned (.bool r) ∧ Below w.heap.size w w' := by
 have hu42 := Tryz.underlying42
 have HR0_0 := Aside0.mk hr0_0
 have HC0_0 := Aside0.mk hc0_0
 clear hr0_0 hc0_0
 have HR0_1 := Aside0.mk hr0_1
 have HC0_1 := Aside0.mk hc0_1
 clear hr0_1 hc0_1
 have HR0_2 := Aside0.mk hr0_2
 have HC0_2 := Aside0.mk hc0_2
 clear hr0_2 hc0_2
 have HR0_4 := Aside0.mk hr0_4
 have HC0_4 := Aside0.mk hc0_4
 clear hr0_4 hc0_4
 have HR1_0 := Aside0.mk hr1_0
 have HC1_0 := Aside0.mk hc1_0
 clear hr1_0 hc1_0
 have HR1_1 := Aside0.mk hr1_1
 have HC1_1 := Aside0.mk hc1_1
 clear hr1_1 hc1_1
 have HR1_2 := Aside0.mk hr1_2
 have HC1_2 := Aside0.mk hc1_2
 clear hr1_2 hc1_2
 have HR1_4 := Aside0.mk hr1_4
 have HC1_4 := Aside0.mk hc1_4
 clear hr1_4 hc1_4
 have HRt := Aside0.mk hrt
 clear hrt
 have HB := Aside0.mk (Below.refl w.heap.size w)
 have H := h
 unfold laws_eqKeeper.f at H
 clear h
 replace H := bs_ H
 obtain ⟨t533, A3, H⟩ := H
 try dsimp only at H
 by_cases c4 : t533 = true
 rotate_left
 ·replace c4 := Bool.eq_false_iff.mpr c4
  subst c4
  rw [nf_] at H
  exact absurd ((Option.some.inj H).trans HRt.out) (by decide)
 subst c4
 rw [if_pos rfl] at H
 replace H := bs_ H
 obtain ⟨t534, A5, H⟩ := H
 try dsimp only at H
 by_cases c6 : t534 = true
 rotate_left
 ·replace c6 := Bool.eq_false_iff.mpr c6
  subst c6
  rw [nf_] at H
  exact absurd ((Option.some.inj H).trans HRt.out) (by decide)
 subst c6
 rw [if_pos rfl] at H
 replace H := bs_ H
 obtain ⟨t535, A7, H⟩ := H
 try dsimp only at H
 by_cases c8 : t535 = true
 rotate_left
 ·replace c8 := Bool.eq_false_iff.mpr c8
  subst c8
  rw [nf_] at H
  exact absurd ((Option.some.inj H).trans HRt.out) (by decide)
 subst c8
 rw [if_pos rfl] at H
 by_cases c9 : a0_3 = a1_3
 rotate_left
 ·rw [if_neg c9] at H
  have c9b0 : (a0_3 == a1_3) = false := beq_eq_false_iff_ne.mpr c9
  have c9b1 : (a0_3 != a1_3) = true := bne_iff_ne.mpr c9
  exact absurd ((Option.some.inj H).trans HRt.out) (by decide)
 rw [if_pos c9] at H
 have c9b0 : (a0_3 == a1_3) = true := beq_iff_eq.mpr c9
 have c9b1 : (a0_3 != a1_3) = false := bne_eq_false_iff_eq.mpr c9
 clear c9
 replace H := bs_ H
 obtain ⟨t536, A10, H⟩ := H
 try dsimp only at H
 by_cases c11 : t536 = true
 rotate_left
 ·replace c11 := Bool.eq_false_iff.mpr c11
  subst c11
  rw [nf_] at H
  exact absurd ((Option.some.inj H).trans HRt.out) (by decide)
 subst c11
 rw [if_pos rfl] at H
 obtain rfl := Option.some.inj H
 go_enter Tryz.func34, Tryz.ntmps34
 go_wp2_with (first | ((with_reducible refine gate_dst (N := 2) rfl ?_); refine bx_ 2 42 #[.slice A0_0 l0_0.length c0_0, .slice A0_1 l0_1.length c0_1, .slice A0_2 l0_2.length c0_2, .int .i64 a0_3, .slice A0_4 l0_4.length c0_4] ?_; intro gb531 hg w12 hbox hb; have BK531 := Aside0.mk (hbox); have GW531 := Aside0.mk ((hz_ : w.heap.size ≤ gb531)); have GE531 := Aside0.mk ((hz_ : w.heap.size ≤ gb531)); replace HB := Aside0.mk (below_step bl_ hb); clear hb hbox hg) | ((with_reducible refine gate_dst (N := 3) rfl ?_); refine bx_ 3 42 #[.slice A1_0 l1_0.length c1_0, .slice A1_1 l1_1.length c1_1, .slice A1_2 l1_2.length c1_2, .int .i64 a1_3, .slice A1_4 l1_4.length c1_4] ?_; intro gb532 hg w13 hbox hb; have BK532 := Aside0.mk (hbox); have GW532 := Aside0.mk ((hz_ : w.heap.size ≤ gb532)); have GE532 := Aside0.mk ((hz_ : w.heap.size ≤ gb532)); replace HB := Aside0.mk (below_step bl_ hb); have NB531_532 := Aside0.mk ((by rw [hg]; exact Nat.ne_of_lt (blk_lt (g := gb531) (o := .cells #[.slice A0_0 l0_0.length c0_0, .slice A0_1 l0_1.length c0_1, .slice A0_2 l0_2.length c0_2, .int .i64 a0_3, .slice A0_4 l0_4.length c0_4] 42 (0, 0)) (bk_ BK531.out)) : gb531 ≠ gb532)); have NB532_531 := Aside0.mk ((by rw [hg]; exact Nat.ne_of_gt (blk_lt (g := gb531) (o := .cells #[.slice A0_0 l0_0.length c0_0, .slice A0_1 l0_1.length c0_1, .slice A0_2 l0_2.length c0_2, .int .i64 a0_3, .slice A0_4 l0_4.length c0_4] 42 (0, 0)) (bk_ BK531.out)) : gb532 ≠ gb531)); replace BK531 := Aside0.mk (blk_below (bn0_ BK531.out) hb); clear hb hbox hg; have hnb14 := NB531_532.out; have hnc14 := NB532_531.out; obtain ⟨hcz15_0, hcz15_1, hcz15_2, hcz15_3, hcz15_4, hfz15_0, hfz15_1, hfz15_2, hfz15_3, hfz15_4⟩ := cf5_ BK531.out; obtain ⟨hcz16_0, hcz16_1, hcz16_2, hcz16_3, hcz16_4, hfz16_0, hfz16_1, hfz16_2, hfz16_3, hfz16_4⟩ := cf5_ BK532.out) | ((with_reducible refine gate_callee (f := 61) rfl ?_); refine gs_ (some 9) Tryz.func61 #[.slice A0_0 l0_0.length c0_0, .slice A1_0 l1_0.length c1_0] ?_; (with_reducible refine (laws_eqEntryS.calls k _ _ l0_0 _ _ l1_0 true _ ?side1 ?side2 ?side3 ?side4 ?side5 A3.out).mono ?_); (case side1 => exact cb_ HR0_0.out HB.out); (case side2 => exact HC0_0.out); (case side3 => exact cb_ HR1_0.out HB.out); (case side4 => exact HC1_0.out); (case side5 => first | rfl | assumption); rintro e w17 ⟨rfl, hb⟩; refine ⟨_, rfl, ?_⟩; replace BK531 := Aside0.mk (blk_below (bn0_ BK531.out) hb); replace BK532 := Aside0.mk (blk_below (bn0_ BK532.out) hb); replace HB := Aside0.mk (below_step bl_ hb); (try clear hb); obtain ⟨hcz18_0, hcz18_1, hcz18_2, hcz18_3, hcz18_4, hfz18_0, hfz18_1, hfz18_2, hfz18_3, hfz18_4⟩ := cf5_ BK531.out; obtain ⟨hcz19_0, hcz19_1, hcz19_2, hcz19_3, hcz19_4, hfz19_0, hfz19_1, hfz19_2, hfz19_3, hfz19_4⟩ := cf5_ BK532.out) | ((with_reducible refine gate_callee (f := 36) rfl ?_); refine gs_ (some 15) Tryz.func36 #[.slice A0_1 l0_1.length c0_1, .slice A1_1 l1_1.length c1_1] ?_; (with_reducible refine (laws_eqIntS.calls k _ _ l0_1 _ _ l1_1 true _ ?side1 ?side2 ?side3 ?side4 ?side5 A5.out).mono ?_); (case side1 => exact cb_ HR0_1.out HB.out); (case side2 => exact HC0_1.out); (case side3 => exact cb_ HR1_1.out HB.out); (case side4 => exact HC1_1.out); (case side5 => first | rfl | assumption); rintro e w' ⟨rfl, ⟨nd, rfl⟩⟩; refine ⟨_, rfl, ?_⟩) | ((with_reducible refine gate_callee (f := 62) rfl ?_); refine gs_ (some 21) Tryz.func62 #[.slice A0_2 l0_2.length c0_2, .slice A1_2 l1_2.length c1_2] ?_; (with_reducible refine (laws_eqEarlyS.calls k _ _ l0_2 _ _ l1_2 true _ ?side1 ?side2 ?side3 ?side4 ?side5 A7.out).mono ?_); (case side1 => repeat (first | exact (Kd.C_below HR0_2.out bl_) | exact HR0_2.out | (with_reducible refine Kd.C_alloc ?_ _) | (with_reducible refine Kd.C_drewN ?_ _) | (with_reducible refine Kd.C_drew ?_))); (case side2 => exact HC0_2.out); (case side3 => repeat (first | exact (Kd.C_below HR1_2.out bl_) | exact HR1_2.out | (with_reducible refine Kd.C_alloc ?_ _) | (with_reducible refine Kd.C_drewN ?_ _) | (with_reducible refine Kd.C_drew ?_))); (case side4 => exact HC1_2.out); (case side5 => first | rfl | assumption); rintro e w20 ⟨rfl, hb⟩; refine ⟨_, rfl, ?_⟩; replace BK531 := Aside0.mk (blk_below (bn0_ BK531.out) hb); replace BK532 := Aside0.mk (blk_below (bn0_ BK532.out) hb); replace HB := Aside0.mk (below_step bl_ hb); (try clear hb); obtain ⟨hcz21_0, hcz21_1, hcz21_2, hcz21_3, hcz21_4, hfz21_0, hfz21_1, hfz21_2, hfz21_3, hfz21_4⟩ := cf5_ BK531.out; obtain ⟨hcz22_0, hcz22_1, hcz22_2, hcz22_3, hcz22_4, hfz22_0, hfz22_1, hfz22_2, hfz22_3, hfz22_4⟩ := cf5_ BK532.out) | ((with_reducible refine gate_callee (f := 36) rfl ?_); refine gs_ (some 32) Tryz.func36 #[.slice A0_4 l0_4.length c0_4, .slice A1_4 l1_4.length c1_4] ?_; (with_reducible refine (laws_eqIntS.calls k _ _ l0_4 _ _ l1_4 true _ ?side1 ?side2 ?side3 ?side4 ?side5 A10.out).mono ?_); (case side1 => exact cb_ HR0_4.out HB.out); (case side2 => exact HC0_4.out); (case side3 => exact cb_ HR1_4.out HB.out); (case side4 => exact HC1_4.out); (case side5 => first | rfl | assumption); rintro e w' ⟨rfl, ⟨nd, rfl⟩⟩; refine ⟨_, rfl, ?_⟩))
 go_ret
 exact ⟨er_, bl_⟩


def laws_eqLetter.f (a0_0 : Bool) (a0_1 : ByteArray) (a0_2 : Bool) (a1_0 : Bool) (a1_1 : ByteArray) (a1_2 : Bool) : Option (Bool) := if (a0_0 != a1_0) = true then (some false) else (if a0_1.toList = a1_1.toList then (if (a0_2 != a1_2) = true then (some false) else (some true)) else (some false))
theorem laws_eqLetter.calls (a0_0 : Bool) (a0_1 : ByteArray) (a0_2 : Bool) (a1_0 : Bool) (a1_1 : ByteArray) (a1_2 : Bool) (r : Bool) (w : World) (hrt : r = true) (h : laws_eqLetter.f a0_0 a0_1 a0_2 a1_0 a1_1 a1_2 = some r) :
 Calls Tryz.prog 63 #[.agg #[.bool a0_0, .string a0_1, .bool a0_2], .agg #[.bool a1_0, .string a1_1, .bool a1_2]] w fun e w' => e = .returned (.bool r) ∧ Below w.heap.size w w' := by
 have hu108 := Tryz.underlying108
 have HRt := Aside0.mk hrt
 clear hrt
 have HB := Aside0.mk (Below.refl w.heap.size w)
 have H := h
 unfold laws_eqLetter.f at H
 clear h
 by_cases c3 : (a0_0 != a1_0) = true
 ·rw [if_pos c3] at H
  have c3b0 : (a0_0 != a1_0) = true := c3
  (try (have c3b8 : (a0_0 == a1_0) = false := by have h_ := c3b0; revert h_; generalize a0_0 = a_; generalize a1_0 = b_; cases a_ <;> cases b_ <;> simp))
  (try (have c3b1 : decide (a0_0 = a1_0) = false := by simpa using c3))
  (try (have c3b2 : (a0_0 == a1_0) = false := by simpa using c3))
  (try (have c3b3 : ¬ (a0_0 = a1_0) := by simpa using c3))
  clear c3
  exact absurd ((Option.some.inj H).trans HRt.out) (by decide)
 rw [if_neg c3] at H
 have c3b0 : (a0_0 != a1_0) = false := by simpa using c3
 (try (have c3b8 : (a0_0 == a1_0) = true := by have h_ := c3b0; revert h_; generalize a0_0 = a_; generalize a1_0 = b_; cases a_ <;> cases b_ <;> simp))
 (try (have c3b1 : decide (a0_0 = a1_0) = true := by simpa using c3))
 (try (have c3b2 : (a0_0 == a1_0) = true := by simpa using c3))
 clear c3
 by_cases c4 : a0_1.toList = a1_1.toList
 rotate_left
 ·rw [if_neg c4] at H
  have c4b0 : (a0_1.toList == a1_1.toList) = false := beq_eq_false_iff_ne.mpr c4
  have c4b1 : (a0_1.toList != a1_1.toList) = true := bne_iff_ne.mpr c4
  exact absurd ((Option.some.inj H).trans HRt.out) (by decide)
 rw [if_pos c4] at H
 have c4b0 : (a0_1.toList == a1_1.toList) = true := beq_iff_eq.mpr c4
 have c4b1 : (a0_1.toList != a1_1.toList) = false := bne_eq_false_iff_eq.mpr c4
 clear c4
 by_cases c5 : (a0_2 != a1_2) = true
 ·rw [if_pos c5] at H
  have c5b0 : (a0_2 != a1_2) = true := c5
  (try (have c5b8 : (a0_2 == a1_2) = false := by have h_ := c5b0; revert h_; generalize a0_2 = a_; generalize a1_2 = b_; cases a_ <;> cases b_ <;> simp))
  (try (have c5b1 : decide (a0_2 = a1_2) = false := by simpa using c5))
  (try (have c5b2 : (a0_2 == a1_2) = false := by simpa using c5))
  (try (have c5b3 : ¬ (a0_2 = a1_2) := by simpa using c5))
  clear c5
  exact absurd ((Option.some.inj H).trans HRt.out) (by decide)
 rw [if_neg c5] at H
 have c5b0 : (a0_2 != a1_2) = false := by simpa using c5
 (try (have c5b8 : (a0_2 == a1_2) = true := by have h_ := c5b0; revert h_; generalize a0_2 = a_; generalize a1_2 = b_; cases a_ <;> cases b_ <;> simp))
 (try (have c5b1 : decide (a0_2 = a1_2) = true := by simpa using c5))
 (try (have c5b2 : (a0_2 == a1_2) = true := by simpa using c5))
 clear c5
 obtain rfl := Option.some.inj H
 go_enter Tryz.func63, Tryz.ntmps63
 go_wp2_with (first | ((with_reducible refine gate_dst (N := 2) rfl ?_); refine bx_ 2 108 #[.bool a0_0, .string a0_1, .bool a0_2] ?_; intro gb537 hg w6 hbox hb; have BK537 := Aside0.mk (hbox); have GW537 := Aside0.mk ((hz_ : w.heap.size ≤ gb537)); have GE537 := Aside0.mk ((hz_ : w.heap.size ≤ gb537)); replace HB := Aside0.mk (below_step bl_ hb); clear hb hbox hg) | ((with_reducible refine gate_dst (N := 3) rfl ?_); refine bx_ 3 108 #[.bool a1_0, .string a1_1, .bool a1_2] ?_; intro gb538 hg w7 hbox hb; have BK538 := Aside0.mk (hbox); have GW538 := Aside0.mk ((hz_ : w.heap.size ≤ gb538)); have GE538 := Aside0.mk ((hz_ : w.heap.size ≤ gb538)); replace HB := Aside0.mk (below_step bl_ hb); have NB537_538 := Aside0.mk ((by rw [hg]; exact Nat.ne_of_lt (blk_lt (g := gb537) (o := .cells #[.bool a0_0, .string a0_1, .bool a0_2] 108 (0, 0)) (bk_ BK537.out)) : gb537 ≠ gb538)); have NB538_537 := Aside0.mk ((by rw [hg]; exact Nat.ne_of_gt (blk_lt (g := gb537) (o := .cells #[.bool a0_0, .string a0_1, .bool a0_2] 108 (0, 0)) (bk_ BK537.out)) : gb538 ≠ gb537)); replace BK537 := Aside0.mk (blk_below (bn0_ BK537.out) hb); clear hb hbox hg; have hnb8 := NB537_538.out; have hnc8 := NB538_537.out; obtain ⟨hcz9_0, hcz9_1, hcz9_2, hfz9_0, hfz9_1, hfz9_2⟩ := cf3_ BK537.out; obtain ⟨hcz10_0, hcz10_1, hcz10_2, hfz10_0, hfz10_1, hfz10_2⟩ := cf3_ BK538.out))
 go_ret
 exact ⟨er_, bl_⟩


def laws_eqLetterS.l0 : Nat → List (S108) → List (S108) → Int → Option (Bool)
 | 0, _, _, _ => none
 | k + 1, x0, x1, x5 => if x5 < (x0.length : Int) then (if 0 ≤ x5 then (if x5 < (x1.length : Int) then ((laws_eqLetter.f ((rd_T108 x0 x5).f0) ((rd_T108 x0 x5).f1) ((rd_T108 x0 x5).f2) ((rd_T108 x1 x5).f0) ((rd_T108 x1 x5).f1) ((rd_T108 x1 x5).f2)).bind fun t541 => (if t541 = true then (laws_eqLetterS.l0 k x0 x1 (wrap64 (x5 + 1))) else (some false))) else (none)) else (none)) else (some true)
def laws_eqLetterS.f (k : Nat) (l0 : List (S108)) (l1 : List (S108)) : Option (Bool) := if (l0.length : Int) = (l1.length : Int) then (laws_eqLetterS.l0 k l0 l1 0) else (some false)
theorem laws_eqLetterS.mono_l : ∀ k, (∀ y0 y1 y2, LeO (laws_eqLetterS.l0 k y0 y1 y2) (laws_eqLetterS.l0 (k + 1) y0 y1 y2))
 | 0 => fun _ _ _ r h => by simp [laws_eqLetterS.l0] at h
 | k + 1 => by
  have ih0 := laws_eqLetterS.mono_l k
  ·intro y0 y1 y2
   unfold laws_eqLetterS.l0
   exact mo_
theorem laws_eqLetterS.mono : ∀ a0 a1 k, LeO (laws_eqLetterS.f k a0 a1) (laws_eqLetterS.f (k + 1) a0 a1) := by
 intro a0 a1 k
 have ih0 := laws_eqLetterS.mono_l k
 unfold laws_eqLetterS.f
 exact mo_
def laws_eqLetterS.T6 : Bool × List (List Nat × List Nat) := (true, [([], []), ([], []), ([0, 1], [0, 1]), ([2], [2]), ([], []), ([], []), ([4, 5], [4, 5]), ([6], [6]), ([3, 7], [3, 7]), ([8], [8])])
def laws_eqLetterS.B6 : List Nat := [0, 0, 3, 7, 0, 0, 48, 112, 255, 511]
theorem laws_eqLetterS.tab6 : rtab .any (opsOf Tryz.f35 6) = laws_eqLetterS.T6 := by kernel_rfl
theorem laws_eqLetterS.bits6 : waitsOk laws_eqLetterS.T6.2 laws_eqLetterS.B6 = true := by kernel_rfl
theorem laws_eqLetterS.calls (k : Nat) (A0 : Option Addr) (c0 : Nat) (l0 : List (S108)) (A1 : Option Addr) (c1 : Nat) (l1 : List (S108)) (r : Bool) (w : World) (hr0 : Kd.C k108 w A0 l0.length l0) (hc0 : l0.length ≤ c0) (hr1 : Kd.C k108 w A1 l1.length l1) (hc1 : l1.length ≤ c1) (hrt : r = true) (h : laws_eqLetterS.f k l0 l1 = some r) :
 Calls Tryz.prog 35 #[.slice A0 l0.length c0, .slice A1 l1.length c1] w fun e w' => e = .returned (.bool r) ∧ Below w.heap.size w w' := by
 have hu108 := Tryz.underlying108
 have HR0 := Aside0.mk hr0
 have HC0 := Aside0.mk hc0
 clear hr0 hc0
 have HR1 := Aside0.mk hr1
 have HC1 := Aside0.mk hc1
 clear hr1 hc1
 have HRt := Aside0.mk hrt
 clear hrt
 have HB := Aside0.mk (Below.refl w.heap.size w)
 have H := h
 unfold laws_eqLetterS.f at H
 clear h
 by_cases c3 : (l0.length : Int) = (l1.length : Int)
 rotate_left
 ·rw [if_neg c3] at H
  have c3b0 : ((l0.length : Int) == (l1.length : Int)) = false := beq_eq_false_iff_ne.mpr c3
  have c3b1 : ((l0.length : Int) != (l1.length : Int)) = true := bne_iff_ne.mpr c3
  have c3b2 : (l0.length == l1.length) = false := by first | simpa using c3 | (simp at c3 ⊢; omega)
  exact absurd ((Option.some.inj H).trans HRt.out) (by decide)
 rw [if_pos c3] at H
 have c3b0 : ((l0.length : Int) == (l1.length : Int)) = true := beq_iff_eq.mpr c3
 have c3b1 : ((l0.length : Int) != (l1.length : Int)) = false := bne_eq_false_iff_eq.mpr c3
 have c3b2 : (l0.length == l1.length) = true := by first | simpa using c3 | (simp at c3 ⊢; omega)
 clear c3
 have H' := Aside0.mk H
 clear H
 go_enter Tryz.func35, Tryz.ntmps35
 go_wp2
 go_loopg [5] k (fun kq v5 w' => ∃ (x5_1 : Int), v5 = .int .i64 x5_1 ∧ Aside0 (laws_eqLetterS.l0 kq l0 l1 x5_1 = some r) ∧ Aside0 (kq ≤ k) ∧ Aside0 (Below w.heap.size w w'))
 case atStart => exact ⟨(0), (sr_), H', ⟨Nat.le_refl _⟩, ⟨bl_⟩⟩
 clear H'
 try clear c1
 try clear c3
 try clear c3b0
 try clear c3b1
 try clear c3b2
 obtain ⟨x5_1, rfl, HA, HK1, HB⟩ := hrel
 cases gk with
 | zero => exact absurd HA.out (by simp [laws_eqLetterS.l0])
 | succ k1 => ?_
 have H := HA.out
 clear HA
 simp only [laws_eqLetterS.l0] at H
 by_cases c4 : x5_1 < (l0.length : Int)
 rotate_left
 ·rw [if_neg c4] at H
  have c4b0 := decide_eq_false c4
  clear c4
  obtain rfl := Option.some.inj H
  go_wp2
  go_ret
  exact ⟨er_, bl_⟩
 rw [if_pos c4] at H
 have c4b0 := decide_eq_true c4
 clear c4
 by_cases c5 : 0 ≤ x5_1
 rotate_left
 ·exact nn_ c5 H
 rw [if_pos c5] at H
 have c5b0 := decide_eq_true c5
 clear c5
 by_cases c6 : x5_1 < (l1.length : Int)
 rotate_left
 ·exact nn_ c6 H
 rw [if_pos c6] at H
 have c6b0 := decide_eq_true c6
 clear c6
 replace H := bs_ H
 obtain ⟨t541, A7, H⟩ := H
 try dsimp only at H
 by_cases c8 : t541 = true
 rotate_left
 ·replace c8 := Bool.eq_false_iff.mpr c8
  subst c8
  rw [nf_] at H
  exact absurd ((Option.some.inj H).trans HRt.out) (by decide)
 subst c8
 rw [if_pos rfl] at H
 have H' := Aside0.mk H
 clear H
 try go_wp2
 have n0_ := Aside0.mk (below_drew1 HB.out)
 clear HB
 have HB := n0_
 clear n0_
 have p539 : 0 ≤ (x5_1 : Int) := of_decide_eq_true as_
 have q539 : x5_1 < (l0.length : Int) := of_decide_eq_true as_
 obtain ⟨ad539, e539, hx539_0, hx539_1, hx539_2⟩ := at_T108 HR0.out x5_1 p539 q539
 have hw539_2 := hx539_2
 have hw539_1 := hx539_1
 have hw539_0 := hx539_0
 cases e539
 replace hx539_0 := (HB.out.cell (World.block_lt_of_cell? w _ hx539_0)).trans hx539_0
 replace hx539_1 := (HB.out.cell (World.block_lt_of_cell? w _ hx539_1)).trans hx539_1
 replace hx539_2 := (HB.out.cell (World.block_lt_of_cell? w _ hx539_2)).trans hx539_2
 replace p539 := eq_true p539
 replace q539 := eq_true q539
 have p540 : 0 ≤ (x5_1 : Int) := of_decide_eq_true as_
 have q540 : x5_1 < (l1.length : Int) := of_decide_eq_true as_
 obtain ⟨ad540, e540, hx540_0, hx540_1, hx540_2⟩ := at_T108 HR1.out x5_1 p540 q540
 have hw540_2 := hx540_2
 have hw540_1 := hx540_1
 have hw540_0 := hx540_0
 cases e540
 replace hx540_0 := (HB.out.cell (World.block_lt_of_cell? w _ hx540_0)).trans hx540_0
 replace hx540_1 := (HB.out.cell (World.block_lt_of_cell? w _ hx540_1)).trans hx540_1
 replace hx540_2 := (HB.out.cell (World.block_lt_of_cell? w _ hx540_2)).trans hx540_2
 replace p540 := eq_true p540
 replace q540 := eq_true q540
 refine start_ (n := 10) (S := fun w' => w'.cell? (ad539.add ((x5_1).toNat * 3)) = some (.bool ((rd_T108 l0 x5_1).f0)) ∧ w'.cell? ⟨(ad539.add ((x5_1).toNat * 3)).block, (ad539.add ((x5_1).toNat * 3)).off + 1, none⟩ = some (.string ((rd_T108 l0 x5_1).f1)) ∧ w'.cell? ⟨(ad539.add ((x5_1).toNat * 3)).block, (ad539.add ((x5_1).toNat * 3)).off + 2, none⟩ = some (.bool ((rd_T108 l0 x5_1).f2)) ∧ w'.cell? (ad540.add ((x5_1).toNat * 3)) = some (.bool ((rd_T108 l1 x5_1).f0)) ∧ w'.cell? ⟨(ad540.add ((x5_1).toNat * 3)).block, (ad540.add ((x5_1).toNat * 3)).off + 1, none⟩ = some (.string ((rd_T108 l1 x5_1).f1)) ∧ w'.cell? ⟨(ad540.add ((x5_1).toNat * 3)).block, (ad540.add ((x5_1).toNat * 3)).off + 2, none⟩ = some (.bool ((rd_T108 l1 x5_1).f2))) (ds := []) #[false, false, false, false, false, false, false, false, false, false] (by kernel_rfl) rfl rfl ⟨((HB.out.cell (World.block_lt_of_cell? w _ hw539_0)).trans hw539_0), ((HB.out.cell (World.block_lt_of_cell? w _ hw539_1)).trans hw539_1), ((HB.out.cell (World.block_lt_of_cell? w _ hw539_2)).trans hw539_2), ((HB.out.cell (World.block_lt_of_cell? w _ hw540_0)).trans hw540_0), ((HB.out.cell (World.block_lt_of_cell? w _ hw540_1)).trans hw540_1), ((HB.out.cell (World.block_lt_of_cell? w _ hw540_2)).trans hw540_2)⟩ (fun hHeld => ?_); refine with_tabW laws_eqLetterS.tab6 laws_eqLetterS.bits6 (fun HT_ HW_ => ?_)
 generalize wr.drew = w9 at HB hx539_0 hx539_1 hx539_2 hx540_0 hx540_1 hx540_2 hHeld ⊢
 refine pu_ 0 17 HT_ ?_
 refine pu_ 1 18 HT_ ?_
 refine pu_ 2 19 HT_ ?_
 refine pu_ 4 21 HT_ ?_
 refine pu_ 5 22 HT_ ?_
 refine pu_ 6 23 HT_ ?_
 refine ta_ 3 20 HT_ HW_ hHeld ?_ (r := by rintro w' ⟨s0, s1, s2, s3, s4, s5⟩; go_simp; with_reducible rfl)
 refine ta_ 7 24 HT_ HW_ hHeld ?_ (r := by rintro w' ⟨s0, s1, s2, s3, s4, s5⟩; go_simp; with_reducible rfl)
 refine on_ 8 25 HT_ (fun K hK => ?_)
 refine goes_ Tryz.func63 (by kernel_rfl) rfl #[.agg #[.bool ((rd_T108 l0 x5_1).f0), .string ((rd_T108 l0 x5_1).f1), .bool ((rd_T108 l0 x5_1).f2)], .agg #[.bool ((rd_T108 l1 x5_1).f0), .string ((rd_T108 l1 x5_1).f1), .bool ((rd_T108 l1 x5_1).f2)]] (by rfl) rfl rfl lm_ ?_
 with_reducible refine (laws_eqLetter.calls ((rd_T108 l0 x5_1).f0) ((rd_T108 l0 x5_1).f1) ((rd_T108 l0 x5_1).f2) ((rd_T108 l1 x5_1).f0) ((rd_T108 l1 x5_1).f1) ((rd_T108 l1 x5_1).f2) true _ ?side1 A7.out).mono ?_
 (case side1 => first | rfl | assumption)
 rintro e w10 ⟨rfl, hb⟩
 refine ⟨_, rfl, ?_⟩
 have n0_ := Aside0.mk (below_step bl_ hb)
 clear HB
 have HB := n0_
 clear n0_
 (try clear hb)
 (try clear hb2)
 (try clear hk)
 (try clear hi)
 refine hK.out _ _ ⟨((HB.out.cell (World.block_lt_of_cell? w _ hw539_0)).trans hw539_0), ((HB.out.cell (World.block_lt_of_cell? w _ hw539_1)).trans hw539_1), ((HB.out.cell (World.block_lt_of_cell? w _ hw539_2)).trans hw539_2), ((HB.out.cell (World.block_lt_of_cell? w _ hw540_0)).trans hw540_0), ((HB.out.cell (World.block_lt_of_cell? w _ hw540_1)).trans hw540_1), ((HB.out.cell (World.block_lt_of_cell? w _ hw540_2)).trans hw540_2)⟩ (fun hHeld => ?_)
 clear hK K
 refine norm_ (a' := ?_) ?_ ?_
 rotate_left
 ·show Act.put _ (some 25) _ = _
  simp only [Act.put, List.setIfInBounds_toArray, List.set_cons_zero, List.set_cons_succ, i64_w, i32_w]
  rfl
 refine pu_ 9 26 HT_ ?_
 refine done_ (done_of HT_.out (by kernel_rfl)) ?_
 try go_wp2
 go_roundg k1
 case measure => have := HK1.out; omega
 case rel => exact ⟨(wrap64 (x5_1 + 1)), (sr_), H', ⟨by have := HK1.out; omega⟩, ⟨bl_⟩⟩

end Go.Proofs.YtcbjlcgfhbfneaaGreatDoor.PA
