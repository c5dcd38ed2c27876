/- Contracts of functions of the program and of the reference, and plain lemmas on what they compute: a part of the proof of the law FnExactShowWorld. No condition. -/
import Derived.Test.YtcbjlcgfhbfneaaGreatDoorJFnExactShowWorld1
import Derived.Test.YtcbjlcgfhbfneaaGreatDoorJFnExactShowWorld7
import Derived.Test.YtcbjlcgfhbfneaaGreatDoorJFnExactShowWorld8
import Derived.Test.YtcbjlcgfhbfneaaGreatDoorShortV
set_option maxHeartbeats 8000000
set_option maxRecDepth 100000
namespace Go.Proofs.YtcbjlcgfhbfneaaGreatDoor.PA
open Go.RowKit Go.Proofs.YtcbjlcgfhbfneaaGreatDoor.Short Go.Proofs.YtcbjlcgfhbfneaaGreatDoorW.PrintWords Go.Proofs.YtcbjlcgfhbfneaaGreatDoorW.PrintLast Go.Proofs.YtcbjlcgfhbfneaaGreatDoorW.PrintMore
attribute [local go_sem] max2_int min2_int max_two min_two max_three min_three max_four min_four   -- for this text's walks alone
set_option linter.unusedVariables false
set_option linter.unusedSimpArgs false

def laws_eqSeen.f (a0_0 : Int) (a0_1 : Int) (a0_2 : Int) (a0_3 : Bool) (a1_0 : Int) (a1_1 : Int) (a1_2 : Int) (a1_3 : Bool) : Option (Bool) := if a0_0 = a1_0 then (if a0_1 = a1_1 then (if a0_2 = a1_2 then (if (a0_3 != a1_3) = true then (some false) else (some true)) else (some false)) else (some false)) else (some false)
theorem laws_eqSeen.calls (a0_0 : Int) (a0_1 : Int) (a0_2 : Int) (a0_3 : Bool) (a1_0 : Int) (a1_1 : Int) (a1_2 : Int) (a1_3 : Bool) (r : Bool) (w : World) (hrt : r = true) (h : laws_eqSeen.f a0_0 a0_1 a0_2 a0_3 a1_0 a1_1 a1_2 a1_3 = some r) :
 Calls Tryz.prog 64 #[.agg #[.int .i64 a0_0, .int .i64 a0_1, .int .i64 a0_2, .bool a0_3], .agg #[.int .i64 a1_0, .int .i64 a1_1, .int .i64 a1_2, .bool a1_3]] w fun e w' => e = .returned (.bool r) ∧ Below w.heap.size w w' := by
 have hu111 := Tryz.underlying111
 have HRt := Aside0.mk hrt
 clear hrt
 have HB := Aside0.mk (Below.refl w.heap.size w)
 have H := h
 unfold laws_eqSeen.f at H
 clear h
 by_cases c3 : a0_0 = a1_0
 rotate_left
 ·rw [if_neg c3] at H
  have c3b0 : (a0_0 == a1_0) = false := beq_eq_false_iff_ne.mpr c3
  have c3b1 : (a0_0 != a1_0) = true := bne_iff_ne.mpr c3
  exact absurd ((Option.some.inj H).trans HRt.out) (by decide)
 rw [if_pos c3] at H
 have c3b0 : (a0_0 == a1_0) = true := beq_iff_eq.mpr c3
 have c3b1 : (a0_0 != a1_0) = false := bne_eq_false_iff_eq.mpr c3
 clear c3
 by_cases c4 : a0_1 = a1_1
 rotate_left
 ·rw [if_neg c4] at H
  have c4b0 : (a0_1 == a1_1) = false := beq_eq_false_iff_ne.mpr c4
  have c4b1 : (a0_1 != a1_1) = true := bne_iff_ne.mpr c4
  exact absurd ((Option.some.inj H).trans HRt.out) (by decide)
 rw [if_pos c4] at H
 have c4b0 : (a0_1 == a1_1) = true := beq_iff_eq.mpr c4
 have c4b1 : (a0_1 != a1_1) = false := bne_eq_false_iff_eq.mpr c4
 clear c4
 by_cases c5 : a0_2 = a1_2
 rotate_left
 ·rw [if_neg c5] at H
  have c5b0 : (a0_2 == a1_2) = false := beq_eq_false_iff_ne.mpr c5
  have c5b1 : (a0_2 != a1_2) = true := bne_iff_ne.mpr c5
  exact absurd ((Option.some.inj H).trans HRt.out) (by decide)
 rw [if_pos c5] at H
 have c5b0 : (a0_2 == a1_2) = true := beq_iff_eq.mpr c5
 have c5b1 : (a0_2 != a1_2) = false := bne_eq_false_iff_eq.mpr c5
 clear c5
 by_cases c6 : (a0_3 != a1_3) = true
 ·rw [if_pos c6] at H
  have c6b0 : (a0_3 != a1_3) = true := c6
  (try (have c6b8 : (a0_3 == a1_3) = false := by have h_ := c6b0; revert h_; generalize a0_3 = a_; generalize a1_3 = b_; cases a_ <;> cases b_ <;> simp))
  (try (have c6b1 : decide (a0_3 = a1_3) = false := by simpa using c6))
  (try (have c6b2 : (a0_3 == a1_3) = false := by simpa using c6))
  (try (have c6b3 : ¬ (a0_3 = a1_3) := by simpa using c6))
  clear c6
  exact absurd ((Option.some.inj H).trans HRt.out) (by decide)
 rw [if_neg c6] at H
 have c6b0 : (a0_3 != a1_3) = false := by simpa using c6
 (try (have c6b8 : (a0_3 == a1_3) = true := by have h_ := c6b0; revert h_; generalize a0_3 = a_; generalize a1_3 = b_; cases a_ <;> cases b_ <;> simp))
 (try (have c6b1 : decide (a0_3 = a1_3) = true := by simpa using c6))
 (try (have c6b2 : (a0_3 == a1_3) = true := by simpa using c6))
 clear c6
 obtain rfl := Option.some.inj H
 go_enter Tryz.func64, Tryz.ntmps64
 go_wp2_with (first | ((with_reducible refine gate_dst (N := 2) rfl ?_); refine bx_ 2 111 #[.int .i64 a0_0, .int .i64 a0_1, .int .i64 a0_2, .bool a0_3] ?_; intro gb542 hg w7 hbox hb; have BK542 := Aside0.mk (hbox); have GW542 := Aside0.mk ((hz_ : w.heap.size ≤ gb542)); have GE542 := Aside0.mk ((hz_ : w.heap.size ≤ gb542)); replace HB := Aside0.mk (below_step bl_ hb); clear hb hbox hg) | ((with_reducible refine gate_dst (N := 3) rfl ?_); refine bx_ 3 111 #[.int .i64 a1_0, .int .i64 a1_1, .int .i64 a1_2, .bool a1_3] ?_; intro gb543 hg w8 hbox hb; have BK543 := Aside0.mk (hbox); have GW543 := Aside0.mk ((hz_ : w.heap.size ≤ gb543)); have GE543 := Aside0.mk ((hz_ : w.heap.size ≤ gb543)); replace HB := Aside0.mk (below_step bl_ hb); have NB542_543 := Aside0.mk ((by rw [hg]; exact Nat.ne_of_lt (blk_lt (g := gb542) (o := .cells #[.int .i64 a0_0, .int .i64 a0_1, .int .i64 a0_2, .bool a0_3] 111 (0, 0)) (bk_ BK542.out)) : gb542 ≠ gb543)); have NB543_542 := Aside0.mk ((by rw [hg]; exact Nat.ne_of_gt (blk_lt (g := gb542) (o := .cells #[.int .i64 a0_0, .int .i64 a0_1, .int .i64 a0_2, .bool a0_3] 111 (0, 0)) (bk_ BK542.out)) : gb543 ≠ gb542)); replace BK542 := Aside0.mk (blk_below (bn0_ BK542.out) hb); clear hb hbox hg; have hnb9 := NB542_543.out; have hnc9 := NB543_542.out; obtain ⟨hcz10_0, hcz10_1, hcz10_2, hcz10_3, hfz10_0, hfz10_1, hfz10_2, hfz10_3⟩ := cf4_ BK542.out; obtain ⟨hcz11_0, hcz11_1, hcz11_2, hcz11_3, hfz11_0, hfz11_1, hfz11_2, hfz11_3⟩ := cf4_ BK543.out))
 go_ret
 exact ⟨er_, bl_⟩


def laws_eqSeenS.l0 : Nat → List (S111) → List (S111) → Int → Option (Bool)
 | 0, _, _, _ => none
 | k + 1, x0, x1, x5 => if x5 < (x0.length : Int) then (if 0 ≤ x5 then (if x5 < (x1.length : Int) then ((laws_eqSeen.f ((rd_T111 x0 x5).f0) ((rd_T111 x0 x5).f1) ((rd_T111 x0 x5).f2) ((rd_T111 x0 x5).f3) ((rd_T111 x1 x5).f0) ((rd_T111 x1 x5).f1) ((rd_T111 x1 x5).f2) ((rd_T111 x1 x5).f3)).bind fun t546 => (if t546 = true then (laws_eqSeenS.l0 k x0 x1 (wrap64 (x5 + 1))) else (some false))) else (none)) else (none)) else (some true)
def laws_eqSeenS.f (k : Nat) (l0 : List (S111)) (l1 : List (S111)) : Option (Bool) := if (l0.length : Int) = (l1.length : Int) then (laws_eqSeenS.l0 k l0 l1 0) else (some false)
theorem laws_eqSeenS.mono_l : ∀ k, (∀ y0 y1 y2, LeO (laws_eqSeenS.l0 k y0 y1 y2) (laws_eqSeenS.l0 (k + 1) y0 y1 y2))
 | 0 => fun _ _ _ r h => by simp [laws_eqSeenS.l0] at h
 | k + 1 => by
  have ih0 := laws_eqSeenS.mono_l k
  ·intro y0 y1 y2
   unfold laws_eqSeenS.l0
   exact mo_
theorem laws_eqSeenS.mono : ∀ a0 a1 k, LeO (laws_eqSeenS.f k a0 a1) (laws_eqSeenS.f (k + 1) a0 a1) := by
 intro a0 a1 k
 have ih0 := laws_eqSeenS.mono_l k
 unfold laws_eqSeenS.f
 exact mo_
def laws_eqSeenS.T6 : Bool × List (List Nat × List Nat) := (true, [([], []), ([], []), ([0, 1], [0, 1]), ([2], [2]), ([], []), ([], []), ([4, 5], [4, 5]), ([6], [6]), ([3, 7], [3, 7]), ([8], [8])])
def laws_eqSeenS.B6 : List Nat := [0, 0, 3, 7, 0, 0, 48, 112, 255, 511]
theorem laws_eqSeenS.tab6 : rtab .any (opsOf Tryz.f37 6) = laws_eqSeenS.T6 := by kernel_rfl
theorem laws_eqSeenS.bits6 : waitsOk laws_eqSeenS.T6.2 laws_eqSeenS.B6 = true := by kernel_rfl
theorem laws_eqSeenS.calls (k : Nat) (A0 : Option Addr) (c0 : Nat) (l0 : List (S111)) (A1 : Option Addr) (c1 : Nat) (l1 : List (S111)) (r : Bool) (w : World) (hr0 : Kd.C k111 w A0 l0.length l0) (hc0 : l0.length ≤ c0) (hr1 : Kd.C k111 w A1 l1.length l1) (hc1 : l1.length ≤ c1) (hrt : r = true) (h : laws_eqSeenS.f k l0 l1 = some r) :
 Calls Tryz.prog 37 #[.slice A0 l0.length c0, .slice A1 l1.length c1] w fun e w' => e = .returned (.bool r) ∧ Below w.heap.size w w' := by
 have hu111 := Tryz.underlying111
 have HR0 := Aside0.mk hr0
 have HC0 := Aside0.mk hc0
 clear hr0 hc0
 have HR1 := Aside0.mk hr1
 have HC1 := Aside0.mk hc1
 clear hr1 hc1
 have HRt := Aside0.mk hrt
 clear hrt
 have HB := Aside0.mk (Below.refl w.heap.size w)
 have H := h
 unfold laws_eqSeenS.f at H
 clear h
 by_cases c3 : (l0.length : Int) = (l1.length : Int)
 rotate_left
 ·rw [if_neg c3] at H
  have c3b0 : ((l0.length : Int) == (l1.length : Int)) = false := beq_eq_false_iff_ne.mpr c3
  have c3b1 : ((l0.length : Int) != (l1.length : Int)) = true := bne_iff_ne.mpr c3
  have c3b2 : (l0.length == l1.length) = false := by first | simpa using c3 | (simp at c3 ⊢; omega)
  exact absurd ((Option.some.inj H).trans HRt.out) (by decide)
 rw [if_pos c3] at H
 have c3b0 : ((l0.length : Int) == (l1.length : Int)) = true := beq_iff_eq.mpr c3
 have c3b1 : ((l0.length : Int) != (l1.length : Int)) = false := bne_eq_false_iff_eq.mpr c3
 have c3b2 : (l0.length == l1.length) = true := by first | simpa using c3 | (simp at c3 ⊢; omega)
 clear c3
 have H' := Aside0.mk H
 clear H
 go_enter Tryz.func37, Tryz.ntmps37
 go_wp2
 go_loopg [5] k (fun kq v5 w' => ∃ (x5_1 : Int), v5 = .int .i64 x5_1 ∧ Aside0 (laws_eqSeenS.l0 kq l0 l1 x5_1 = some r) ∧ Aside0 (kq ≤ k) ∧ Aside0 (Below w.heap.size w w'))
 case atStart => exact ⟨(0), (sr_), H', ⟨Nat.le_refl _⟩, ⟨bl_⟩⟩
 clear H'
 try clear c1
 try clear c3
 try clear c3b0
 try clear c3b1
 try clear c3b2
 obtain ⟨x5_1, rfl, HA, HK1, HB⟩ := hrel
 cases gk with
 | zero => exact absurd HA.out (by simp [laws_eqSeenS.l0])
 | succ k1 => ?_
 have H := HA.out
 clear HA
 simp only [laws_eqSeenS.l0] at H
 by_cases c4 : x5_1 < (l0.length : Int)
 rotate_left
 ·rw [if_neg c4] at H
  have c4b0 := decide_eq_false c4
  clear c4
  obtain rfl := Option.some.inj H
  go_wp2
  go_ret
  exact ⟨er_, bl_⟩
 rw [if_pos c4] at H
 have c4b0 := decide_eq_true c4
 clear c4
 by_cases c5 : 0 ≤ x5_1
 rotate_left
 ·exact nn_ c5 H
 rw [if_pos c5] at H
 have c5b0 := decide_eq_true c5
 clear c5
 by_cases c6 : x5_1 < (l1.length : Int)
 rotate_left
 ·exact nn_ c6 H
 rw [if_pos c6] at H
 have c6b0 := decide_eq_true c6
 clear c6
 replace H := bs_ H
 obtain ⟨t546, A7, H⟩ := H
 try dsimp only at H
 by_cases c8 : t546 = true
 rotate_left
 ·replace c8 := Bool.eq_false_iff.mpr c8
  subst c8
  rw [nf_] at H
  exact absurd ((Option.some.inj H).trans HRt.out) (by decide)
 subst c8
 rw [if_pos rfl] at H
 have H' := Aside0.mk H
 clear H
 try go_wp2
 have n0_ := Aside0.mk (below_drew1 HB.out)
 clear HB
 have HB := n0_
 clear n0_
 have p544 : 0 ≤ (x5_1 : Int) := of_decide_eq_true as_
 have q544 : x5_1 < (l0.length : Int) := of_decide_eq_true as_
 obtain ⟨ad544, e544, hx544_0, hx544_1, hx544_2, hx544_3⟩ := at_T111 HR0.out x5_1 p544 q544
 have hw544_3 := hx544_3
 have hw544_2 := hx544_2
 have hw544_1 := hx544_1
 have hw544_0 := hx544_0
 cases e544
 replace hx544_0 := (HB.out.cell (World.block_lt_of_cell? w _ hx544_0)).trans hx544_0
 replace hx544_1 := (HB.out.cell (World.block_lt_of_cell? w _ hx544_1)).trans hx544_1
 replace hx544_2 := (HB.out.cell (World.block_lt_of_cell? w _ hx544_2)).trans hx544_2
 replace hx544_3 := (HB.out.cell (World.block_lt_of_cell? w _ hx544_3)).trans hx544_3
 replace p544 := eq_true p544
 replace q544 := eq_true q544
 have p545 : 0 ≤ (x5_1 : Int) := of_decide_eq_true as_
 have q545 : x5_1 < (l1.length : Int) := of_decide_eq_true as_
 obtain ⟨ad545, e545, hx545_0, hx545_1, hx545_2, hx545_3⟩ := at_T111 HR1.out x5_1 p545 q545
 have hw545_3 := hx545_3
 have hw545_2 := hx545_2
 have hw545_1 := hx545_1
 have hw545_0 := hx545_0
 cases e545
 replace hx545_0 := (HB.out.cell (World.block_lt_of_cell? w _ hx545_0)).trans hx545_0
 replace hx545_1 := (HB.out.cell (World.block_lt_of_cell? w _ hx545_1)).trans hx545_1
 replace hx545_2 := (HB.out.cell (World.block_lt_of_cell? w _ hx545_2)).trans hx545_2
 replace hx545_3 := (HB.out.cell (World.block_lt_of_cell? w _ hx545_3)).trans hx545_3
 replace p545 := eq_true p545
 replace q545 := eq_true q545
 refine start_ (n := 10) (S := fun w' => w'.cell? (ad544.add ((x5_1).toNat * 4)) = some (.int .i64 ((rd_T111 l0 x5_1).f0)) ∧ w'.cell? ⟨(ad544.add ((x5_1).toNat * 4)).block, (ad544.add ((x5_1).toNat * 4)).off + 1, none⟩ = some (.int .i64 ((rd_T111 l0 x5_1).f1)) ∧ w'.cell? ⟨(ad544.add ((x5_1).toNat * 4)).block, (ad544.add ((x5_1).toNat * 4)).off + 2, none⟩ = some (.int .i64 ((rd_T111 l0 x5_1).f2)) ∧ w'.cell? ⟨(ad544.add ((x5_1).toNat * 4)).block, (ad544.add ((x5_1).toNat * 4)).off + 3, none⟩ = some (.bool ((rd_T111 l0 x5_1).f3)) ∧ w'.cell? (ad545.add ((x5_1).toNat * 4)) = some (.int .i64 ((rd_T111 l1 x5_1).f0)) ∧ w'.cell? ⟨(ad545.add ((x5_1).toNat * 4)).block, (ad545.add ((x5_1).toNat * 4)).off + 1, none⟩ = some (.int .i64 ((rd_T111 l1 x5_1).f1)) ∧ w'.cell? ⟨(ad545.add ((x5_1).toNat * 4)).block, (ad545.add ((x5_1).toNat * 4)).off + 2, none⟩ = some (.int .i64 ((rd_T111 l1 x5_1).f2)) ∧ w'.cell? ⟨(ad545.add ((x5_1).toNat * 4)).block, (ad545.add ((x5_1).toNat * 4)).off + 3, none⟩ = some (.bool ((rd_T111 l1 x5_1).f3))) (ds := []) #[false, false, false, false, false, false, false, false, false, false] (by kernel_rfl) rfl rfl ⟨((HB.out.cell (World.block_lt_of_cell? w _ hw544_0)).trans hw544_0), ((HB.out.cell (World.block_lt_of_cell? w _ hw544_1)).trans hw544_1), ((HB.out.cell (World.block_lt_of_cell? w _ hw544_2)).trans hw544_2), ((HB.out.cell (World.block_lt_of_cell? w _ hw544_3)).trans hw544_3), ((HB.out.cell (World.block_lt_of_cell? w _ hw545_0)).trans hw545_0), ((HB.out.cell (World.block_lt_of_cell? w _ hw545_1)).trans hw545_1), ((HB.out.cell (World.block_lt_of_cell? w _ hw545_2)).trans hw545_2), ((HB.out.cell (World.block_lt_of_cell? w _ hw545_3)).trans hw545_3)⟩ (fun hHeld => ?_); refine with_tabW laws_eqSeenS.tab6 laws_eqSeenS.bits6 (fun HT_ HW_ => ?_)
 generalize wr.drew = w9 at HB hx544_0 hx544_1 hx544_2 hx544_3 hx545_0 hx545_1 hx545_2 hx545_3 hHeld ⊢
 refine pu_ 0 17 HT_ ?_
 refine pu_ 1 18 HT_ ?_
 refine pu_ 2 19 HT_ ?_
 refine pu_ 4 21 HT_ ?_
 refine pu_ 5 22 HT_ ?_
 refine pu_ 6 23 HT_ ?_
 refine ta_ 3 20 HT_ HW_ hHeld ?_ (r := by rintro w' ⟨s0, s1, s2, s3, s4, s5, s6, s7⟩; go_simp; with_reducible rfl)
 refine ta_ 7 24 HT_ HW_ hHeld ?_ (r := by rintro w' ⟨s0, s1, s2, s3, s4, s5, s6, s7⟩; go_simp; with_reducible rfl)
 refine on_ 8 25 HT_ (fun K hK => ?_)
 refine goes_ Tryz.func64 (by kernel_rfl) rfl #[.agg #[.int .i64 ((rd_T111 l0 x5_1).f0), .int .i64 ((rd_T111 l0 x5_1).f1), .int .i64 ((rd_T111 l0 x5_1).f2), .bool ((rd_T111 l0 x5_1).f3)], .agg #[.int .i64 ((rd_T111 l1 x5_1).f0), .int .i64 ((rd_T111 l1 x5_1).f1), .int .i64 ((rd_T111 l1 x5_1).f2), .bool ((rd_T111 l1 x5_1).f3)]] (by rfl) rfl rfl lm_ ?_
 with_reducible refine (laws_eqSeen.calls ((rd_T111 l0 x5_1).f0) ((rd_T111 l0 x5_1).f1) ((rd_T111 l0 x5_1).f2) ((rd_T111 l0 x5_1).f3) ((rd_T111 l1 x5_1).f0) ((rd_T111 l1 x5_1).f1) ((rd_T111 l1 x5_1).f2) ((rd_T111 l1 x5_1).f3) true _ ?side1 A7.out).mono ?_
 (case side1 => first | rfl | assumption)
 rintro e w10 ⟨rfl, hb⟩
 refine ⟨_, rfl, ?_⟩
 have n0_ := Aside0.mk (below_step bl_ hb)
 clear HB
 have HB := n0_
 clear n0_
 (try clear hb)
 (try clear hb2)
 (try clear hk)
 (try clear hi)
 refine hK.out _ _ ⟨((HB.out.cell (World.block_lt_of_cell? w _ hw544_0)).trans hw544_0), ((HB.out.cell (World.block_lt_of_cell? w _ hw544_1)).trans hw544_1), ((HB.out.cell (World.block_lt_of_cell? w _ hw544_2)).trans hw544_2), ((HB.out.cell (World.block_lt_of_cell? w _ hw544_3)).trans hw544_3), ((HB.out.cell (World.block_lt_of_cell? w _ hw545_0)).trans hw545_0), ((HB.out.cell (World.block_lt_of_cell? w _ hw545_1)).trans hw545_1), ((HB.out.cell (World.block_lt_of_cell? w _ hw545_2)).trans hw545_2), ((HB.out.cell (World.block_lt_of_cell? w _ hw545_3)).trans hw545_3)⟩ (fun hHeld => ?_)
 clear hK K
 refine norm_ (a' := ?_) ?_ ?_
 rotate_left
 ·show Act.put _ (some 25) _ = _
  simp only [Act.put, List.setIfInBounds_toArray, List.set_cons_zero, List.set_cons_succ, i64_w, i32_w]
  rfl
 refine pu_ 9 26 HT_ ?_
 refine done_ (done_of HT_.out (by kernel_rfl)) ?_
 try go_wp2
 go_roundg k1
 case measure => have := HK1.out; omega
 case rel => exact ⟨(wrap64 (x5_1 + 1)), (sr_), H', ⟨by have := HK1.out; omega⟩, ⟨bl_⟩⟩


def laws_eqWorld.f (k : Nat) (l0_0 : List (List (List (S154)))) (l0_1 : List (S101)) (l0_2 : List (S104)) (l0_3 : List (S61)) (l0_4 : List Int) (l0_5 : List (S142)) (a0_6 : Int) (l0_7 : List Int) (l0_8 : List (S108)) (a0_9 : Int) (l0_10 : List Int) (l0_11 : List (S111)) (l1_0 : List (List (List (S154)))) (l1_1 : List (S101)) (l1_2 : List (S104)) (l1_3 : List (S61)) (l1_4 : List Int) (l1_5 : List (S142)) (a1_6 : Int) (l1_7 : List Int) (l1_8 : List (S108)) (a1_9 : Int) (l1_10 : List Int) (l1_11 : List (S111)) : Option (Bool) := (laws_eqInsSSS.f k l0_0 l1_0).bind fun t549 => (if t549 = true then ((laws_eqRingS.f k l0_1 l1_1).bind fun t550 => (if t550 = true then ((laws_eqSenderS.f k l0_2 l1_2).bind fun t551 => (if t551 = true then ((laws_eqKeeper.f k l0_3 l0_4 l0_5 a0_6 l0_7 l1_3 l1_4 l1_5 a1_6 l1_7).bind fun t552 => (if t552 = true then ((laws_eqLetterS.f k l0_8 l1_8).bind fun t553 => (if t553 = true then (if a0_9 = a1_9 then ((laws_eqIntS.f k l0_10 l1_10).bind fun t554 => (if t554 = true then ((laws_eqSeenS.f k l0_11 l1_11).bind fun t555 => (if t555 = true then (some true) else (some false))) else (some false))) else (some false)) else (some false))) else (some false))) else (some false))) else (some false))) else (some false))
theorem laws_eqWorld.mono : ∀ a0 a1 a2 a3 a4 a5 a6 a7 a8 a9 a10 a11 a12 a13 a14 a15 a16 a17 a18 a19 a20 a21 a22 a23 k, LeO (laws_eqWorld.f k a0 a1 a2 a3 a4 a5 a6 a7 a8 a9 a10 a11 a12 a13 a14 a15 a16 a17 a18 a19 a20 a21 a22 a23) (laws_eqWorld.f (k + 1) a0 a1 a2 a3 a4 a5 a6 a7 a8 a9 a10 a11 a12 a13 a14 a15 a16 a17 a18 a19 a20 a21 a22 a23) := by
 intro a0 a1 a2 a3 a4 a5 a6 a7 a8 a9 a10 a11 a12 a13 a14 a15 a16 a17 a18 a19 a20 a21 a22 a23 k
 unfold laws_eqWorld.f
 have m0 := @laws_eqInsSSS.mono
 have m1 := @laws_eqIntS.mono
 have m2 := @laws_eqKeeper.mono
 have m3 := @laws_eqLetterS.mono
 have m4 := @laws_eqRingS.mono
 have m5 := @laws_eqSeenS.mono
 have m6 := @laws_eqSenderS.mono
 exact mo_
theorem laws_eqWorld.calls (k : Nat) (A0_0 : Option Addr) (c0_0 : Nat) (l0_0 : List (List (List (S154)))) (A0_1 : Option Addr) (c0_1 : Nat) (l0_1 : List (S101)) (A0_2 : Option Addr) (c0_2 : Nat) (l0_2 : List (S104)) (A0_3 : Option Addr) (c0_3 : Nat) (l0_3 : List (S61)) (A0_4 : Option Addr) (c0_4 : Nat) (l0_4 : List Int) (A0_5 : Option Addr) (c0_5 : Nat) (l0_5 : List (S142)) (a0_6 : Int) (A0_7 : Option Addr) (c0_7 : Nat) (l0_7 : List Int) (A0_8 : Option Addr) (c0_8 : Nat) (l0_8 : List (S108)) (a0_9 : Int) (A0_10 : Option Addr) (c0_10 : Nat) (l0_10 : List Int) (A0_11 : Option Addr) (c0_11 : Nat) (l0_11 : List (S111)) (A1_0 : Option Addr) (c1_0 : Nat) (l1_0 : List (List (List (S154)))) (A1_1 : Option Addr) (c1_1 : Nat) (l1_1 : List (S101)) (A1_2 : Option Addr) (c1_2 : Nat) (l1_2 : List (S104)) (A1_3 : Option Addr) (c1_3 : Nat) (l1_3 : List (S61)) (A1_4 : Option Addr) (c1_4 : Nat) (l1_4 : List Int) (A1_5 : Option Addr) (c1_5 : Nat) (l1_5 : List (S142)) (a1_6 : Int) (A1_7 : Option Addr) (c1_7 : Nat) (l1_7 : List Int) (A1_8 : Option Addr) (c1_8 : Nat) (l1_8 : List (S108)) (a1_9 : Int) (A1_10 : Option Addr) (c1_10 : Nat) (l1_10 : List Int) (A1_11 : Option Addr) (c1_11 : Nat) (l1_11 : List (S111)) (r : Bool) (w : World) (hr0_0 : Kd.C (Kd.slice 135 (Kd.slice 154 k154)) w A0_0 l0_0.length l0_0) (hc0_0 : l0_0.length ≤ c0_0) (hr0_1 : Kd.C k101 w A0_1 l0_1.length l0_1) (hc0_1 : l0_1.length ≤ c0_1) (hr0_2 : Kd.C k104 w A0_2 l0_2.length l0_2) (hc0_2 : l0_2.length ≤ c0_2) (hr0_3 : Kd.C k61 w A0_3 l0_3.length l0_3) (hc0_3 : l0_3.length ≤ c0_3) (hr0_4 : Kd.C (Kd.int .i64) w A0_4 l0_4.length l0_4) (hc0_4 : l0_4.length ≤ c0_4) (hr0_5 : Kd.C k142 w A0_5 l0_5.length l0_5) (hc0_5 : l0_5.length ≤ c0_5) (hr0_7 : Kd.C (Kd.int .i64) w A0_7 l0_7.length l0_7) (hc0_7 : l0_7.length ≤ c0_7) (hr0_8 : Kd.C k108 w A0_8 l0_8.length l0_8) (hc0_8 : l0_8.length ≤ c0_8) (hr0_10 : Kd.C (Kd.int .i64) w A0_10 l0_10.length l0_10) (hc0_10 : l0_10.length ≤ c0_10) (hr0_11 : Kd.C k111 w A0_11 l0_11.length l0_11) (hc0_11 : l0_11.length ≤ c0_11) (hr1_0 : Kd.C (Kd.slice 135 (Kd.slice 154 k154)) w A1_0 l1_0.length l1_0) (hc1_0 : l1_0.length ≤ c1_0) (hr1_1 : Kd.C k101 w A1_1 l1_1.length l1_1) (hc1_1 : l1_1.length ≤ c1_1) (hr1_2 : Kd.C k104 w A1_2 l1_2.length l1_2) (hc1_2 : l1_2.length ≤ c1_2) (hr1_3 : Kd.C k61 w A1_3 l1_3.length l1_3) (hc1_3 : l1_3.length ≤ c1_3) (hr1_4 : Kd.C (Kd.int .i64) w A1_4 l1_4.length l1_4) (hc1_4 : l1_4.length ≤ c1_4) (hr1_5 : Kd.C k142 w A1_5 l1_5.length l1_5) (hc1_5 : l1_5.length ≤ c1_5) (hr1_7 : Kd.C (Kd.int .i64) w A1_7 l1_7.length l1_7) (hc1_7 : l1_7.length ≤ c1_7) (hr1_8 : Kd.C k108 w A1_8 l1_8.length l1_8) (hc1_8 : l1_8.length ≤ c1_8) (hr1_10 : Kd.C (Kd.int .i64) w A1_10 l1_10.length l1_10) (hc1_10 : l1_10.length ≤ c1_10) (hr1_11 : Kd.C k111 w A1_11 l1_11.length l1_11) (hc1_11 : l1_11.length ≤ c1_11) (hrt : r = true) (h : laws_eqWorld.f k l0_0 l0_1 l0_2 l0_3 l0_4 l0_5 a0_6 l0_7 l0_8 a0_9 l0_10 l0_11 l1_0 l1_1 l1_2 l1_3 l1_4 l1_5 a1_6 l1_7 l1_8 a1_9 l1_10 l1_11 = some r) :
 Calls Tryz.prog 8 #[.agg #[.slice A0_0 l0_0.length c0_0, .slice A0_1 l0_1.length c0_1, .slice A0_2 l0_2.length c0_2, .slice A0_3 l0_3.length c0_3, .slice A0_4 l0_4.length c0_4, .slice A0_5 l0_5.length c0_5, .int .i64 a0_6, .slice A0_7 l0_7.length c0_7, .slice A0_8 l0_8.length c0_8, .int .i64 a0_9, .slice A0_10 l0_10.length c0_10, .slice A0_11 l0_11.length c0_11], .agg #[.slice A1_0 l1_0.length c1_0, .slice A1_1 l1_1.length c1_1, .slice A1_2 l1_2.length c1_2, .slice A1_3 l1_3.length c1_3, .slice A1_4 l1_4.length c1_4, .slice A1_5 l1_5.length c1_5, .int .i64 a1_6, .slice A1_7 l1_7.length c1_7, .slice A1_8 l1_8.length c1_8, .int .i64 a1_9, .slice A1_10 l1_10.length c1_10, .slice A1_11 l1_11.length c1_11]] w fun e w' => e = .returned (.bool r) ∧ Below w.heap.size w w' := by
 have hu46 := Tryz.underlying46
 have hu42 := Tryz.underlying42
 have HR0_0 := Aside0.mk hr0_0
 have HC0_0 := Aside0.mk hc0_0
 clear hr0_0 hc0_0
 have HR0_1 := Aside0.mk hr0_1
 have HC0_1 := Aside0.mk hc0_1
 clear hr0_1 hc0_1
 have HR0_2 := Aside0.mk hr0_2
 have HC0_2 := Aside0.mk hc0_2
 clear hr0_2 hc0_2
 have HR0_3 := Aside0.mk hr0_3
 have HC0_3 := Aside0.mk hc0_3
 clear hr0_3 hc0_3
 have HR0_4 := Aside0.mk hr0_4
 have HC0_4 := Aside0.mk hc0_4
 clear hr0_4 hc0_4
 have HR0_5 := Aside0.mk hr0_5
 have HC0_5 := Aside0.mk hc0_5
 clear hr0_5 hc0_5
 have HR0_7 := Aside0.mk hr0_7
 have HC0_7 := Aside0.mk hc0_7
 clear hr0_7 hc0_7
 have HR0_8 := Aside0.mk hr0_8
 have HC0_8 := Aside0.mk hc0_8
 clear hr0_8 hc0_8
 have HR0_10 := Aside0.mk hr0_10
 have HC0_10 := Aside0.mk hc0_10
 clear hr0_10 hc0_10
 have HR0_11 := Aside0.mk hr0_11
 have HC0_11 := Aside0.mk hc0_11
 clear hr0_11 hc0_11
 have HR1_0 := Aside0.mk hr1_0
 have HC1_0 := Aside0.mk hc1_0
 clear hr1_0 hc1_0
 have HR1_1 := Aside0.mk hr1_1
 have HC1_1 := Aside0.mk hc1_1
 clear hr1_1 hc1_1
 have HR1_2 := Aside0.mk hr1_2
 have HC1_2 := Aside0.mk hc1_2
 clear hr1_2 hc1_2
 have HR1_3 := Aside0.mk hr1_3
 have HC1_3 := Aside0.mk hc1_3
 clear hr1_3 hc1_3
 have HR1_4 := Aside0.mk hr1_4
 have HC1_4 := Aside0.mk hc1_4
 clear hr1_4 hc1_4
 have HR1_5 := Aside0.mk hr1_5
 have HC1_5 := Aside0.mk hc1_5
 clear hr1_5 hc1_5
 have HR1_7 := Aside0.mk hr1_7
 have HC1_7 := Aside0.mk hc1_7
 clear hr1_7 hc1_7
 have HR1_8 := Aside0.mk hr1_8
 have HC1_8 := Aside0.mk hc1_8
 clear hr1_8 hc1_8
 have HR1_10 := Aside0.mk hr1_10
 have HC1_10 := Aside0.mk hc1_10
 clear hr1_10 hc1_10
 have HR1_11 := Aside0.mk hr1_11
 have HC1_11 := Aside0.mk hc1_11
 clear hr1_11 hc1_11
 have HRt := Aside0.mk hrt
 clear hrt
 have HB := Aside0.mk (Below.refl w.heap.size w)
 have H := h
 unfold laws_eqWorld.f at H
 clear h
 replace H := bs_ H
 obtain ⟨t549, A3, H⟩ := H
 try dsimp only at H
 by_cases c4 : t549 = true
 rotate_left
 ·replace c4 := Bool.eq_false_iff.mpr c4
  subst c4
  rw [nf_] at H
  exact absurd ((Option.some.inj H).trans HRt.out) (by decide)
 subst c4
 rw [if_pos rfl] at H
 replace H := bs_ H
 obtain ⟨t550, A5, H⟩ := H
 try dsimp only at H
 by_cases c6 : t550 = true
 rotate_left
 ·replace c6 := Bool.eq_false_iff.mpr c6
  subst c6
  rw [nf_] at H
  exact absurd ((Option.some.inj H).trans HRt.out) (by decide)
 subst c6
 rw [if_pos rfl] at H
 replace H := bs_ H
 obtain ⟨t551, A7, H⟩ := H
 try dsimp only at H
 by_cases c8 : t551 = true
 rotate_left
 ·replace c8 := Bool.eq_false_iff.mpr c8
  subst c8
  rw [nf_] at H
  exact absurd ((Option.some.inj H).trans HRt.out) (by decide)
 subst c8
 rw [if_pos rfl] at H
 replace H := bs_ H
 obtain ⟨t552, A9, H⟩ := H
 try dsimp only at H
 by_cases c10 : t552 = true
 rotate_left
 ·replace c10 := Bool.eq_false_iff.mpr c10
  subst c10
  rw [nf_] at H
  exact absurd ((Option.some.inj H).trans HRt.out) (by decide)
 subst c10
 rw [if_pos rfl] at H
 replace H := bs_ H
 obtain ⟨t553, A11, H⟩ := H
 try dsimp only at H
 by_cases c12 : t553 = true
 rotate_left
 ·replace c12 := Bool.eq_false_iff.mpr c12
  subst c12
  rw [nf_] at H
  exact absurd ((Option.some.inj H).trans HRt.out) (by decide)
 subst c12
 rw [if_pos rfl] at H
 by_cases c13 : a0_9 = a1_9
 rotate_left
 ·rw [if_neg c13] at H
  have c13b0 : (a0_9 == a1_9) = false := beq_eq_false_iff_ne.mpr c13
  have c13b1 : (a0_9 != a1_9) = true := bne_iff_ne.mpr c13
  exact absurd ((Option.some.inj H).trans HRt.out) (by decide)
 rw [if_pos c13] at H
 have c13b0 : (a0_9 == a1_9) = true := beq_iff_eq.mpr c13
 have c13b1 : (a0_9 != a1_9) = false := bne_eq_false_iff_eq.mpr c13
 clear c13
 replace H := bs_ H
 obtain ⟨t554, A14, H⟩ := H
 try dsimp only at H
 by_cases c15 : t554 = true
 rotate_left
 ·replace c15 := Bool.eq_false_iff.mpr c15
  subst c15
  rw [nf_] at H
  exact absurd ((Option.some.inj H).trans HRt.out) (by decide)
 subst c15
 rw [if_pos rfl] at H
 replace H := bs_ H
 obtain ⟨t555, A16, H⟩ := H
 try dsimp only at H
 by_cases c17 : t555 = true
 rotate_left
 ·replace c17 := Bool.eq_false_iff.mpr c17
  subst c17
  rw [nf_] at H
  exact absurd ((Option.some.inj H).trans HRt.out) (by decide)
 subst c17
 rw [if_pos rfl] at H
 obtain rfl := Option.some.inj H
 go_enter Tryz.func8, Tryz.ntmps8
 go_wp2_with (first | ((with_reducible refine gate_dst (N := 2) rfl ?_); refine bx_ 2 46 #[.slice A0_0 l0_0.length c0_0, .slice A0_1 l0_1.length c0_1, .slice A0_2 l0_2.length c0_2, .slice A0_3 l0_3.length c0_3, .slice A0_4 l0_4.length c0_4, .slice A0_5 l0_5.length c0_5, .int .i64 a0_6, .slice A0_7 l0_7.length c0_7, .slice A0_8 l0_8.length c0_8, .int .i64 a0_9, .slice A0_10 l0_10.length c0_10, .slice A0_11 l0_11.length c0_11] ?_; intro gb547 hg w18 hbox hb; have BK547 := Aside0.mk (hbox); have GW547 := Aside0.mk ((hz_ : w.heap.size ≤ gb547)); have GE547 := Aside0.mk ((hz_ : w.heap.size ≤ gb547)); replace HB := Aside0.mk (below_step bl_ hb); clear hb hbox hg) | ((with_reducible refine gate_dst (N := 3) rfl ?_); refine bx_ 3 46 #[.slice A1_0 l1_0.length c1_0, .slice A1_1 l1_1.length c1_1, .slice A1_2 l1_2.length c1_2, .slice A1_3 l1_3.length c1_3, .slice A1_4 l1_4.length c1_4, .slice A1_5 l1_5.length c1_5, .int .i64 a1_6, .slice A1_7 l1_7.length c1_7, .slice A1_8 l1_8.length c1_8, .int .i64 a1_9, .slice A1_10 l1_10.length c1_10, .slice A1_11 l1_11.length c1_11] ?_; intro gb548 hg w19 hbox hb; have BK548 := Aside0.mk (hbox); have GW548 := Aside0.mk ((hz_ : w.heap.size ≤ gb548)); have GE548 := Aside0.mk ((hz_ : w.heap.size ≤ gb548)); replace HB := Aside0.mk (below_step bl_ hb); have NB547_548 := Aside0.mk ((by rw [hg]; exact Nat.ne_of_lt (blk_lt (g := gb547) (o := .cells #[.slice A0_0 l0_0.length c0_0, .slice A0_1 l0_1.length c0_1, .slice A0_2 l0_2.length c0_2, .slice A0_3 l0_3.length c0_3, .slice A0_4 l0_4.length c0_4, .slice A0_5 l0_5.length c0_5, .int .i64 a0_6, .slice A0_7 l0_7.length c0_7, .slice A0_8 l0_8.length c0_8, .int .i64 a0_9, .slice A0_10 l0_10.length c0_10, .slice A0_11 l0_11.length c0_11] 46 (0, 0)) (bk_ BK547.out)) : gb547 ≠ gb548)); have NB548_547 := Aside0.mk ((by rw [hg]; exact Nat.ne_of_gt (blk_lt (g := gb547) (o := .cells #[.slice A0_0 l0_0.length c0_0, .slice A0_1 l0_1.length c0_1, .slice A0_2 l0_2.length c0_2, .slice A0_3 l0_3.length c0_3, .slice A0_4 l0_4.length c0_4, .slice A0_5 l0_5.length c0_5, .int .i64 a0_6, .slice A0_7 l0_7.length c0_7, .slice A0_8 l0_8.length c0_8, .int .i64 a0_9, .slice A0_10 l0_10.length c0_10, .slice A0_11 l0_11.length c0_11] 46 (0, 0)) (bk_ BK547.out)) : gb548 ≠ gb547)); replace BK547 := Aside0.mk (blk_below (bn0_ BK547.out) hb); clear hb hbox hg; have hnb20 := NB547_548.out; have hnc20 := NB548_547.out; have hcz21_0 : w19.cell? ⟨gb547, 0, none⟩ = some (.slice A0_0 l0_0.length c0_0) := (blk_cell BK547.out 0).trans rfl; have hcz21_1 : w19.cell? ⟨gb547, 1, none⟩ = some (.slice A0_1 l0_1.length c0_1) := (blk_cell BK547.out 1).trans rfl; have hcz21_2 : w19.cell? ⟨gb547, 2, none⟩ = some (.slice A0_2 l0_2.length c0_2) := (blk_cell BK547.out 2).trans rfl; have hcz21_3 : w19.cell? ⟨gb547, 3, none⟩ = some (.slice A0_3 l0_3.length c0_3) := (blk_cell BK547.out 3).trans rfl; have hcz21_4 : w19.cell? ⟨gb547, 4, none⟩ = some (.slice A0_4 l0_4.length c0_4) := (blk_cell BK547.out 4).trans rfl; have hcz21_5 : w19.cell? ⟨gb547, 5, none⟩ = some (.slice A0_5 l0_5.length c0_5) := (blk_cell BK547.out 5).trans rfl; have hcz21_6 : w19.cell? ⟨gb547, 6, none⟩ = some (.int .i64 a0_6) := (blk_cell BK547.out 6).trans rfl; have hcz21_7 : w19.cell? ⟨gb547, 7, none⟩ = some (.slice A0_7 l0_7.length c0_7) := (blk_cell BK547.out 7).trans rfl; have hcz21_8 : w19.cell? ⟨gb547, 8, none⟩ = some (.slice A0_8 l0_8.length c0_8) := (blk_cell BK547.out 8).trans rfl; have hcz21_9 : w19.cell? ⟨gb547, 9, none⟩ = some (.int .i64 a0_9) := (blk_cell BK547.out 9).trans rfl; have hcz21_10 : w19.cell? ⟨gb547, 10, none⟩ = some (.slice A0_10 l0_10.length c0_10) := (blk_cell BK547.out 10).trans rfl; have hcz21_11 : w19.cell? ⟨gb547, 11, none⟩ = some (.slice A0_11 l0_11.length c0_11) := (blk_cell BK547.out 11).trans rfl; have hfz21_0 := blk_frozen BK547.out 0; have hfz21_1 := blk_frozen BK547.out 1; have hfz21_2 := blk_frozen BK547.out 2; have hfz21_3 := blk_frozen BK547.out 3; have hfz21_4 := blk_frozen BK547.out 4; have hfz21_5 := blk_frozen BK547.out 5; have hfz21_6 := blk_frozen BK547.out 6; have hfz21_7 := blk_frozen BK547.out 7; have hfz21_8 := blk_frozen BK547.out 8; have hfz21_9 := blk_frozen BK547.out 9; have hfz21_10 := blk_frozen BK547.out 10; have hfz21_11 := blk_frozen BK547.out 11; have hcz22_0 : w19.cell? ⟨gb548, 0, none⟩ = some (.slice A1_0 l1_0.length c1_0) := (blk_cell BK548.out 0).trans rfl; have hcz22_1 : w19.cell? ⟨gb548, 1, none⟩ = some (.slice A1_1 l1_1.length c1_1) := (blk_cell BK548.out 1).trans rfl; have hcz22_2 : w19.cell? ⟨gb548, 2, none⟩ = some (.slice A1_2 l1_2.length c1_2) := (blk_cell BK548.out 2).trans rfl; have hcz22_3 : w19.cell? ⟨gb548, 3, none⟩ = some (.slice A1_3 l1_3.length c1_3) := (blk_cell BK548.out 3).trans rfl; have hcz22_4 : w19.cell? ⟨gb548, 4, none⟩ = some (.slice A1_4 l1_4.length c1_4) := (blk_cell BK548.out 4).trans rfl; have hcz22_5 : w19.cell? ⟨gb548, 5, none⟩ = some (.slice A1_5 l1_5.length c1_5) := (blk_cell BK548.out 5).trans rfl; have hcz22_6 : w19.cell? ⟨gb548, 6, none⟩ = some (.int .i64 a1_6) := (blk_cell BK548.out 6).trans rfl; have hcz22_7 : w19.cell? ⟨gb548, 7, none⟩ = some (.slice A1_7 l1_7.length c1_7) := (blk_cell BK548.out 7).trans rfl; have hcz22_8 : w19.cell? ⟨gb548, 8, none⟩ = some (.slice A1_8 l1_8.length c1_8) := (blk_cell BK548.out 8).trans rfl; have hcz22_9 : w19.cell? ⟨gb548, 9, none⟩ = some (.int .i64 a1_9) := (blk_cell BK548.out 9).trans rfl; have hcz22_10 : w19.cell? ⟨gb548, 10, none⟩ = some (.slice A1_10 l1_10.length c1_10) := (blk_cell BK548.out 10).trans rfl; have hcz22_11 : w19.cell? ⟨gb548, 11, none⟩ = some (.slice A1_11 l1_11.length c1_11) := (blk_cell BK548.out 11).trans rfl; have hfz22_0 := blk_frozen BK548.out 0; have hfz22_1 := blk_frozen BK548.out 1; have hfz22_2 := blk_frozen BK548.out 2; have hfz22_3 := blk_frozen BK548.out 3; have hfz22_4 := blk_frozen BK548.out 4; have hfz22_5 := blk_frozen BK548.out 5; have hfz22_6 := blk_frozen BK548.out 6; have hfz22_7 := blk_frozen BK548.out 7; have hfz22_8 := blk_frozen BK548.out 8; have hfz22_9 := blk_frozen BK548.out 9; have hfz22_10 := blk_frozen BK548.out 10; have hfz22_11 := blk_frozen BK548.out 11) | ((with_reducible refine gate_callee (f := 31) rfl ?_); refine gs_ (some 9) Tryz.func31 #[.slice A0_0 l0_0.length c0_0, .slice A1_0 l1_0.length c1_0] ?_; (with_reducible refine (laws_eqInsSSS.calls k _ _ l0_0 _ _ l1_0 true _ ?side1 ?side2 ?side3 ?side4 ?side5 A3.out).mono ?_); (case side1 => exact cb_ HR0_0.out HB.out); (case side2 => exact HC0_0.out); (case side3 => exact cb_ HR1_0.out HB.out); (case side4 => exact HC1_0.out); (case side5 => first | rfl | assumption); rintro e w23 ⟨rfl, hb⟩; refine ⟨_, rfl, ?_⟩; replace BK547 := Aside0.mk (blk_below (bn0_ BK547.out) hb); replace BK548 := Aside0.mk (blk_below (bn0_ BK548.out) hb); replace HB := Aside0.mk (below_step bl_ hb); (try clear hb); have hcz24_0 : w23.cell? ⟨gb547, 0, none⟩ = some (.slice A0_0 l0_0.length c0_0) := (blk_cell BK547.out 0).trans rfl; have hcz24_1 : w23.cell? ⟨gb547, 1, none⟩ = some (.slice A0_1 l0_1.length c0_1) := (blk_cell BK547.out 1).trans rfl; have hcz24_2 : w23.cell? ⟨gb547, 2, none⟩ = some (.slice A0_2 l0_2.length c0_2) := (blk_cell BK547.out 2).trans rfl; have hcz24_3 : w23.cell? ⟨gb547, 3, none⟩ = some (.slice A0_3 l0_3.length c0_3) := (blk_cell BK547.out 3).trans rfl; have hcz24_4 : w23.cell? ⟨gb547, 4, none⟩ = some (.slice A0_4 l0_4.length c0_4) := (blk_cell BK547.out 4).trans rfl; have hcz24_5 : w23.cell? ⟨gb547, 5, none⟩ = some (.slice A0_5 l0_5.length c0_5) := (blk_cell BK547.out 5).trans rfl; have hcz24_6 : w23.cell? ⟨gb547, 6, none⟩ = some (.int .i64 a0_6) := (blk_cell BK547.out 6).trans rfl; have hcz24_7 : w23.cell? ⟨gb547, 7, none⟩ = some (.slice A0_7 l0_7.length c0_7) := (blk_cell BK547.out 7).trans rfl; have hcz24_8 : w23.cell? ⟨gb547, 8, none⟩ = some (.slice A0_8 l0_8.length c0_8) := (blk_cell BK547.out 8).trans rfl; have hcz24_9 : w23.cell? ⟨gb547, 9, none⟩ = some (.int .i64 a0_9) := (blk_cell BK547.out 9).trans rfl; have hcz24_10 : w23.cell? ⟨gb547, 10, none⟩ = some (.slice A0_10 l0_10.length c0_10) := (blk_cell BK547.out 10).trans rfl; have hcz24_11 : w23.cell? ⟨gb547, 11, none⟩ = some (.slice A0_11 l0_11.length c0_11) := (blk_cell BK547.out 11).trans rfl; have hfz24_0 := blk_frozen BK547.out 0; have hfz24_1 := blk_frozen BK547.out 1; have hfz24_2 := blk_frozen BK547.out 2; have hfz24_3 := blk_frozen BK547.out 3; have hfz24_4 := blk_frozen BK547.out 4; have hfz24_5 := blk_frozen BK547.out 5; have hfz24_6 := blk_frozen BK547.out 6; have hfz24_7 := blk_frozen BK547.out 7; have hfz24_8 := blk_frozen BK547.out 8; have hfz24_9 := blk_frozen BK547.out 9; have hfz24_10 := blk_frozen BK547.out 10; have hfz24_11 := blk_frozen BK547.out 11; have hcz25_0 : w23.cell? ⟨gb548, 0, none⟩ = some (.slice A1_0 l1_0.length c1_0) := (blk_cell BK548.out 0).trans rfl; have hcz25_1 : w23.cell? ⟨gb548, 1, none⟩ = some (.slice A1_1 l1_1.length c1_1) := (blk_cell BK548.out 1).trans rfl; have hcz25_2 : w23.cell? ⟨gb548, 2, none⟩ = some (.slice A1_2 l1_2.length c1_2) := (blk_cell BK548.out 2).trans rfl; have hcz25_3 : w23.cell? ⟨gb548, 3, none⟩ = some (.slice A1_3 l1_3.length c1_3) := (blk_cell BK548.out 3).trans rfl; have hcz25_4 : w23.cell? ⟨gb548, 4, none⟩ = some (.slice A1_4 l1_4.length c1_4) := (blk_cell BK548.out 4).trans rfl; have hcz25_5 : w23.cell? ⟨gb548, 5, none⟩ = some (.slice A1_5 l1_5.length c1_5) := (blk_cell BK548.out 5).trans rfl; have hcz25_6 : w23.cell? ⟨gb548, 6, none⟩ = some (.int .i64 a1_6) := (blk_cell BK548.out 6).trans rfl; have hcz25_7 : w23.cell? ⟨gb548, 7, none⟩ = some (.slice A1_7 l1_7.length c1_7) := (blk_cell BK548.out 7).trans rfl; have hcz25_8 : w23.cell? ⟨gb548, 8, none⟩ = some (.slice A1_8 l1_8.length c1_8) := (blk_cell BK548.out 8).trans rfl; have hcz25_9 : w23.cell? ⟨gb548, 9, none⟩ = some (.int .i64 a1_9) := (blk_cell BK548.out 9).trans rfl; have hcz25_10 : w23.cell? ⟨gb548, 10, none⟩ = some (.slice A1_10 l1_10.length c1_10) := (blk_cell BK548.out 10).trans rfl; have hcz25_11 : w23.cell? ⟨gb548, 11, none⟩ = some (.slice A1_11 l1_11.length c1_11) := (blk_cell BK548.out 11).trans rfl; have hfz25_0 := blk_frozen BK548.out 0; have hfz25_1 := blk_frozen BK548.out 1; have hfz25_2 := blk_frozen BK548.out 2; have hfz25_3 := blk_frozen BK548.out 3; have hfz25_4 := blk_frozen BK548.out 4; have hfz25_5 := blk_frozen BK548.out 5; have hfz25_6 := blk_frozen BK548.out 6; have hfz25_7 := blk_frozen BK548.out 7; have hfz25_8 := blk_frozen BK548.out 8; have hfz25_9 := blk_frozen BK548.out 9; have hfz25_10 := blk_frozen BK548.out 10; have hfz25_11 := blk_frozen BK548.out 11) | ((with_reducible refine gate_callee (f := 32) rfl ?_); refine gs_ (some 15) Tryz.func32 #[.slice A0_1 l0_1.length c0_1, .slice A1_1 l1_1.length c1_1] ?_; (with_reducible refine (laws_eqRingS.calls k _ _ l0_1 _ _ l1_1 true _ ?side1 ?side2 ?side3 ?side4 ?side5 A5.out).mono ?_); (case side1 => exact cb_ HR0_1.out HB.out); (case side2 => exact HC0_1.out); (case side3 => exact cb_ HR1_1.out HB.out); (case side4 => exact HC1_1.out); (case side5 => first | rfl | assumption); rintro e w26 ⟨rfl, hb⟩; refine ⟨_, rfl, ?_⟩; replace BK547 := Aside0.mk (blk_below (bn0_ BK547.out) hb); replace BK548 := Aside0.mk (blk_below (bn0_ BK548.out) hb); replace HB := Aside0.mk (below_step bl_ hb); (try clear hb); have hcz27_0 : w26.cell? ⟨gb547, 0, none⟩ = some (.slice A0_0 l0_0.length c0_0) := (blk_cell BK547.out 0).trans rfl; have hcz27_1 : w26.cell? ⟨gb547, 1, none⟩ = some (.slice A0_1 l0_1.length c0_1) := (blk_cell BK547.out 1).trans rfl; have hcz27_2 : w26.cell? ⟨gb547, 2, none⟩ = some (.slice A0_2 l0_2.length c0_2) := (blk_cell BK547.out 2).trans rfl; have hcz27_3 : w26.cell? ⟨gb547, 3, none⟩ = some (.slice A0_3 l0_3.length c0_3) := (blk_cell BK547.out 3).trans rfl; have hcz27_4 : w26.cell? ⟨gb547, 4, none⟩ = some (.slice A0_4 l0_4.length c0_4) := (blk_cell BK547.out 4).trans rfl; have hcz27_5 : w26.cell? ⟨gb547, 5, none⟩ = some (.slice A0_5 l0_5.length c0_5) := (blk_cell BK547.out 5).trans rfl; have hcz27_6 : w26.cell? ⟨gb547, 6, none⟩ = some (.int .i64 a0_6) := (blk_cell BK547.out 6).trans rfl; have hcz27_7 : w26.cell? ⟨gb547, 7, none⟩ = some (.slice A0_7 l0_7.length c0_7) := (blk_cell BK547.out 7).trans rfl; have hcz27_8 : w26.cell? ⟨gb547, 8, none⟩ = some (.slice A0_8 l0_8.length c0_8) := (blk_cell BK547.out 8).trans rfl; have hcz27_9 : w26.cell? ⟨gb547, 9, none⟩ = some (.int .i64 a0_9) := (blk_cell BK547.out 9).trans rfl; have hcz27_10 : w26.cell? ⟨gb547, 10, none⟩ = some (.slice A0_10 l0_10.length c0_10) := (blk_cell BK547.out 10).trans rfl; have hcz27_11 : w26.cell? ⟨gb547, 11, none⟩ = some (.slice A0_11 l0_11.length c0_11) := (blk_cell BK547.out 11).trans rfl; have hfz27_0 := blk_frozen BK547.out 0; have hfz27_1 := blk_frozen BK547.out 1; have hfz27_2 := blk_frozen BK547.out 2; have hfz27_3 := blk_frozen BK547.out 3; have hfz27_4 := blk_frozen BK547.out 4; have hfz27_5 := blk_frozen BK547.out 5; have hfz27_6 := blk_frozen BK547.out 6; have hfz27_7 := blk_frozen BK547.out 7; have hfz27_8 := blk_frozen BK547.out 8; have hfz27_9 := blk_frozen BK547.out 9; have hfz27_10 := blk_frozen BK547.out 10; have hfz27_11 := blk_frozen BK547.out 11; have hcz28_0 : w26.cell? ⟨gb548, 0, none⟩ = some (.slice A1_0 l1_0.length c1_0) := (blk_cell BK548.out 0).trans rfl; have hcz28_1 : w26.cell? ⟨gb548, 1, none⟩ = some (.slice A1_1 l1_1.length c1_1) := (blk_cell BK548.out 1).trans rfl; have hcz28_2 : w26.cell? ⟨gb548, 2, none⟩ = some (.slice A1_2 l1_2.length c1_2) := (blk_cell BK548.out 2).trans rfl; have hcz28_3 : w26.cell? ⟨gb548, 3, none⟩ = some (.slice A1_3 l1_3.length c1_3) := (blk_cell BK548.out 3).trans rfl; have hcz28_4 : w26.cell? ⟨gb548, 4, none⟩ = some (.slice A1_4 l1_4.length c1_4) := (blk_cell BK548.out 4).trans rfl; have hcz28_5 : w26.cell? ⟨gb548, 5, none⟩ = some (.slice A1_5 l1_5.length c1_5) := (blk_cell BK548.out 5).trans rfl; have hcz28_6 : w26.cell? ⟨gb548, 6, none⟩ = some (.int .i64 a1_6) := (blk_cell BK548.out 6).trans rfl; have hcz28_7 : w26.cell? ⟨gb548, 7, none⟩ = some (.slice A1_7 l1_7.length c1_7) := (blk_cell BK548.out 7).trans rfl; have hcz28_8 : w26.cell? ⟨gb548, 8, none⟩ = some (.slice A1_8 l1_8.length c1_8) := (blk_cell BK548.out 8).trans rfl; have hcz28_9 : w26.cell? ⟨gb548, 9, none⟩ = some (.int .i64 a1_9) := (blk_cell BK548.out 9).trans rfl; have hcz28_10 : w26.cell? ⟨gb548, 10, none⟩ = some (.slice A1_10 l1_10.length c1_10) := (blk_cell BK548.out 10).trans rfl; have hcz28_11 : w26.cell? ⟨gb548, 11, none⟩ = some (.slice A1_11 l1_11.length c1_11) := (blk_cell BK548.out 11).trans rfl; have hfz28_0 := blk_frozen BK548.out 0; have hfz28_1 := blk_frozen BK548.out 1; have hfz28_2 := blk_frozen BK548.out 2; have hfz28_3 := blk_frozen BK548.out 3; have hfz28_4 := blk_frozen BK548.out 4; have hfz28_5 := blk_frozen BK548.out 5; have hfz28_6 := blk_frozen BK548.out 6; have hfz28_7 := blk_frozen BK548.out 7; have hfz28_8 := blk_frozen BK548.out 8; have hfz28_9 := blk_frozen BK548.out 9; have hfz28_10 := blk_frozen BK548.out 10; have hfz28_11 := blk_frozen BK548.out 11) | ((with_reducible refine gate_callee (f := 33) rfl ?_); refine gs_ (some 21) Tryz.func33 #[.slice A0_2 l0_2.length c0_2, .slice A1_2 l1_2.length c1_2] ?_; (with_reducible refine (laws_eqSenderS.calls k _ _ l0_2 _ _ l1_2 true _ ?side1 ?side2 ?side3 ?side4 ?side5 A7.out).mono ?_); (case side1 => exact cb_ HR0_2.out HB.out); (case side2 => exact HC0_2.out); (case side3 => exact cb_ HR1_2.out HB.out); (case side4 => exact HC1_2.out); (case side5 => first | rfl | assumption); rintro e w29 ⟨rfl, hb⟩; refine ⟨_, rfl, ?_⟩; replace BK547 := Aside0.mk (blk_below (bn0_ BK547.out) hb); replace BK548 := Aside0.mk (blk_below (bn0_ BK548.out) hb); replace HB := Aside0.mk (below_step bl_ hb); (try clear hb); have hcz30_0 : w29.cell? ⟨gb547, 0, none⟩ = some (.slice A0_0 l0_0.length c0_0) := (blk_cell BK547.out 0).trans rfl; have hcz30_1 : w29.cell? ⟨gb547, 1, none⟩ = some (.slice A0_1 l0_1.length c0_1) := (blk_cell BK547.out 1).trans rfl; have hcz30_2 : w29.cell? ⟨gb547, 2, none⟩ = some (.slice A0_2 l0_2.length c0_2) := (blk_cell BK547.out 2).trans rfl; have hcz30_3 : w29.cell? ⟨gb547, 3, none⟩ = some (.slice A0_3 l0_3.length c0_3) := (blk_cell BK547.out 3).trans rfl; have hcz30_4 : w29.cell? ⟨gb547, 4, none⟩ = some (.slice A0_4 l0_4.length c0_4) := (blk_cell BK547.out 4).trans rfl; have hcz30_5 : w29.cell? ⟨gb547, 5, none⟩ = some (.slice A0_5 l0_5.length c0_5) := (blk_cell BK547.out 5).trans rfl; have hcz30_6 : w29.cell? ⟨gb547, 6, none⟩ = some (.int .i64 a0_6) := (blk_cell BK547.out 6).trans rfl; have hcz30_7 : w29.cell? ⟨gb547, 7, none⟩ = some (.slice A0_7 l0_7.length c0_7) := (blk_cell BK547.out 7).trans rfl; have hcz30_8 : w29.cell? ⟨gb547, 8, none⟩ = some (.slice A0_8 l0_8.length c0_8) := (blk_cell BK547.out 8).trans rfl; have hcz30_9 : w29.cell? ⟨gb547, 9, none⟩ = some (.int .i64 a0_9) := (blk_cell BK547.out 9).trans rfl; have hcz30_10 : w29.cell? ⟨gb547, 10, none⟩ = some (.slice A0_10 l0_10.length c0_10) := (blk_cell BK547.out 10).trans rfl; have hcz30_11 : w29.cell? ⟨gb547, 11, none⟩ = some (.slice A0_11 l0_11.length c0_11) := (blk_cell BK547.out 11).trans rfl; have hfz30_0 := blk_frozen BK547.out 0; have hfz30_1 := blk_frozen BK547.out 1; have hfz30_2 := blk_frozen BK547.out 2; have hfz30_3 := blk_frozen BK547.out 3; have hfz30_4 := blk_frozen BK547.out 4; have hfz30_5 := blk_frozen BK547.out 5; have hfz30_6 := blk_frozen BK547.out 6; have hfz30_7 := blk_frozen BK547.out 7; have hfz30_8 := blk_frozen BK547.out 8; have hfz30_9 := blk_frozen BK547.out 9; have hfz30_10 := blk_frozen BK547.out 10; have hfz30_11 := blk_frozen BK547.out 11; have hcz31_0 : w29.cell? ⟨gb548, 0, none⟩ = some (.slice A1_0 l1_0.length c1_0) := (blk_cell BK548.out 0).trans rfl; have hcz31_1 : w29.cell? ⟨gb548, 1, none⟩ = some (.slice A1_1 l1_1.length c1_1) := (blk_cell BK548.out 1).trans rfl; have hcz31_2 : w29.cell? ⟨gb548, 2, none⟩ = some (.slice A1_2 l1_2.length c1_2) := (blk_cell BK548.out 2).trans rfl; have hcz31_3 : w29.cell? ⟨gb548, 3, none⟩ = some (.slice A1_3 l1_3.length c1_3) := (blk_cell BK548.out 3).trans rfl; have hcz31_4 : w29.cell? ⟨gb548, 4, none⟩ = some (.slice A1_4 l1_4.length c1_4) := (blk_cell BK548.out 4).trans rfl; have hcz31_5 : w29.cell? ⟨gb548, 5, none⟩ = some (.slice A1_5 l1_5.length c1_5) := (blk_cell BK548.out 5).trans rfl; have hcz31_6 : w29.cell? ⟨gb548, 6, none⟩ = some (.int .i64 a1_6) := (blk_cell BK548.out 6).trans rfl; have hcz31_7 : w29.cell? ⟨gb548, 7, none⟩ = some (.slice A1_7 l1_7.length c1_7) := (blk_cell BK548.out 7).trans rfl; have hcz31_8 : w29.cell? ⟨gb548, 8, none⟩ = some (.slice A1_8 l1_8.length c1_8) := (blk_cell BK548.out 8).trans rfl; have hcz31_9 : w29.cell? ⟨gb548, 9, none⟩ = some (.int .i64 a1_9) := (blk_cell BK548.out 9).trans rfl; have hcz31_10 : w29.cell? ⟨gb548, 10, none⟩ = some (.slice A1_10 l1_10.length c1_10) := (blk_cell BK548.out 10).trans rfl; have hcz31_11 : w29.cell? ⟨gb548, 11, none⟩ = some (.slice A1_11 l1_11.length c1_11) := (blk_cell BK548.out 11).trans rfl; have hfz31_0 := blk_frozen BK548.out 0; have hfz31_1 := blk_frozen BK548.out 1; have hfz31_2 := blk_frozen BK548.out 2; have hfz31_3 := blk_frozen BK548.out 3; have hfz31_4 := blk_frozen BK548.out 4; have hfz31_5 := blk_frozen BK548.out 5; have hfz31_6 := blk_frozen BK548.out 6; have hfz31_7 := blk_frozen BK548.out 7; have hfz31_8 := blk_frozen BK548.out 8; have hfz31_9 := blk_frozen BK548.out 9; have hfz31_10 := blk_frozen BK548.out 10; have hfz31_11 := blk_frozen BK548.out 11) | ((with_reducible refine gate_callee (f := 34) rfl ?_); refine gs_ (some 27) Tryz.func34 #[.agg #[.slice A0_3 l0_3.length c0_3, .slice A0_4 l0_4.length c0_4, .slice A0_5 l0_5.length c0_5, .int .i64 a0_6, .slice A0_7 l0_7.length c0_7], .agg #[.slice A1_3 l1_3.length c1_3, .slice A1_4 l1_4.length c1_4, .slice A1_5 l1_5.length c1_5, .int .i64 a1_6, .slice A1_7 l1_7.length c1_7]] ?_; (with_reducible refine (laws_eqKeeper.calls k _ _ l0_3 _ _ l0_4 _ _ l0_5 a0_6 _ _ l0_7 _ _ l1_3 _ _ l1_4 _ _ l1_5 a1_6 _ _ l1_7 true _ ?side1 ?side2 ?side3 ?side4 ?side5 ?side6 ?side7 ?side8 ?side9 ?side10 ?side11 ?side12 ?side13 ?side14 ?side15 ?side16 ?side17 A9.out).mono ?_); (case side1 => exact cb_ HR0_3.out HB.out); (case side2 => exact HC0_3.out); (case side3 => exact cb_ HR0_4.out HB.out); (case side4 => exact HC0_4.out); (case side5 => exact cb_ HR0_5.out HB.out); (case side6 => exact HC0_5.out); (case side7 => exact cb_ HR0_7.out HB.out); (case side8 => exact HC0_7.out); (case side9 => exact cb_ HR1_3.out HB.out); (case side10 => exact HC1_3.out); (case side11 => exact cb_ HR1_4.out HB.out); (case side12 => exact HC1_4.out); (case side13 => exact cb_ HR1_5.out HB.out); (case side14 => exact HC1_5.out); (case side15 => exact cb_ HR1_7.out HB.out); (case side16 => exact HC1_7.out); (case side17 => first | rfl | assumption); rintro e w32 ⟨rfl, hb⟩; refine ⟨_, rfl, ?_⟩; replace BK547 := Aside0.mk (blk_below (bn0_ BK547.out) hb); replace BK548 := Aside0.mk (blk_below (bn0_ BK548.out) hb); replace HB := Aside0.mk (below_step bl_ hb); (try clear hb); have hcz33_0 : w32.cell? ⟨gb547, 0, none⟩ = some (.slice A0_0 l0_0.length c0_0) := (blk_cell BK547.out 0).trans rfl; have hcz33_1 : w32.cell? ⟨gb547, 1, none⟩ = some (.slice A0_1 l0_1.length c0_1) := (blk_cell BK547.out 1).trans rfl; have hcz33_2 : w32.cell? ⟨gb547, 2, none⟩ = some (.slice A0_2 l0_2.length c0_2) := (blk_cell BK547.out 2).trans rfl; have hcz33_3 : w32.cell? ⟨gb547, 3, none⟩ = some (.slice A0_3 l0_3.length c0_3) := (blk_cell BK547.out 3).trans rfl; have hcz33_4 : w32.cell? ⟨gb547, 4, none⟩ = some (.slice A0_4 l0_4.length c0_4) := (blk_cell BK547.out 4).trans rfl; have hcz33_5 : w32.cell? ⟨gb547, 5, none⟩ = some (.slice A0_5 l0_5.length c0_5) := (blk_cell BK547.out 5).trans rfl; have hcz33_6 : w32.cell? ⟨gb547, 6, none⟩ = some (.int .i64 a0_6) := (blk_cell BK547.out 6).trans rfl; have hcz33_7 : w32.cell? ⟨gb547, 7, none⟩ = some (.slice A0_7 l0_7.length c0_7) := (blk_cell BK547.out 7).trans rfl; have hcz33_8 : w32.cell? ⟨gb547, 8, none⟩ = some (.slice A0_8 l0_8.length c0_8) := (blk_cell BK547.out 8).trans rfl; have hcz33_9 : w32.cell? ⟨gb547, 9, none⟩ = some (.int .i64 a0_9) := (blk_cell BK547.out 9).trans rfl; have hcz33_10 : w32.cell? ⟨gb547, 10, none⟩ = some (.slice A0_10 l0_10.length c0_10) := (blk_cell BK547.out 10).trans rfl; have hcz33_11 : w32.cell? ⟨gb547, 11, none⟩ = some (.slice A0_11 l0_11.length c0_11) := (blk_cell BK547.out 11).trans rfl; have hfz33_0 := blk_frozen BK547.out 0; have hfz33_1 := blk_frozen BK547.out 1; have hfz33_2 := blk_frozen BK547.out 2; have hfz33_3 := blk_frozen BK547.out 3; have hfz33_4 := blk_frozen BK547.out 4; have hfz33_5 := blk_frozen BK547.out 5; have hfz33_6 := blk_frozen BK547.out 6; have hfz33_7 := blk_frozen BK547.out 7; have hfz33_8 := blk_frozen BK547.out 8; have hfz33_9 := blk_frozen BK547.out 9; have hfz33_10 := blk_frozen BK547.out 10; have hfz33_11 := blk_frozen BK547.out 11; have hcz34_0 : w32.cell? ⟨gb548, 0, none⟩ = some (.slice A1_0 l1_0.length c1_0) := (blk_cell BK548.out 0).trans rfl; have hcz34_1 : w32.cell? ⟨gb548, 1, none⟩ = some (.slice A1_1 l1_1.length c1_1) := (blk_cell BK548.out 1).trans rfl; have hcz34_2 : w32.cell? ⟨gb548, 2, none⟩ = some (.slice A1_2 l1_2.length c1_2) := (blk_cell BK548.out 2).trans rfl; have hcz34_3 : w32.cell? ⟨gb548, 3, none⟩ = some (.slice A1_3 l1_3.length c1_3) := (blk_cell BK548.out 3).trans rfl; have hcz34_4 : w32.cell? ⟨gb548, 4, none⟩ = some (.slice A1_4 l1_4.length c1_4) := (blk_cell BK548.out 4).trans rfl; have hcz34_5 : w32.cell? ⟨gb548, 5, none⟩ = some (.slice A1_5 l1_5.length c1_5) := (blk_cell BK548.out 5).trans rfl; have hcz34_6 : w32.cell? ⟨gb548, 6, none⟩ = some (.int .i64 a1_6) := (blk_cell BK548.out 6).trans rfl; have hcz34_7 : w32.cell? ⟨gb548, 7, none⟩ = some (.slice A1_7 l1_7.length c1_7) := (blk_cell BK548.out 7).trans rfl; have hcz34_8 : w32.cell? ⟨gb548, 8, none⟩ = some (.slice A1_8 l1_8.length c1_8) := (blk_cell BK548.out 8).trans rfl; have hcz34_9 : w32.cell? ⟨gb548, 9, none⟩ = some (.int .i64 a1_9) := (blk_cell BK548.out 9).trans rfl; have hcz34_10 : w32.cell? ⟨gb548, 10, none⟩ = some (.slice A1_10 l1_10.length c1_10) := (blk_cell BK548.out 10).trans rfl; have hcz34_11 : w32.cell? ⟨gb548, 11, none⟩ = some (.slice A1_11 l1_11.length c1_11) := (blk_cell BK548.out 11).trans rfl; have hfz34_0 := blk_frozen BK548.out 0; have hfz34_1 := blk_frozen BK548.out 1; have hfz34_2 := blk_frozen BK548.out 2; have hfz34_3 := blk_frozen BK548.out 3; have hfz34_4 := blk_frozen BK548.out 4; have hfz34_5 := blk_frozen BK548.out 5; have hfz34_6 := blk_frozen BK548.out 6; have hfz34_7 := blk_frozen BK548.out 7; have hfz34_8 := blk_frozen BK548.out 8; have hfz34_9 := blk_frozen BK548.out 9; have hfz34_10 := blk_frozen BK548.out 10; have hfz34_11 := blk_frozen BK548.out 11) | ((with_reducible refine gate_callee (f := 35) rfl ?_); refine gs_ (some 33) Tryz.func35 #[.slice A0_8 l0_8.length c0_8, .slice A1_8 l1_8.length c1_8] ?_; (with_reducible refine (laws_eqLetterS.calls k _ _ l0_8 _ _ l1_8 true _ ?side1 ?side2 ?side3 ?side4 ?side5 A11.out).mono ?_); (case side1 => exact cb_ HR0_8.out HB.out); (case side2 => exact HC0_8.out); (case side3 => exact cb_ HR1_8.out HB.out); (case side4 => exact HC1_8.out); (case side5 => first | rfl | assumption); rintro e w35 ⟨rfl, hb⟩; refine ⟨_, rfl, ?_⟩; replace BK547 := Aside0.mk (blk_below (bn0_ BK547.out) hb); replace BK548 := Aside0.mk (blk_below (bn0_ BK548.out) hb); replace HB := Aside0.mk (below_step bl_ hb); (try clear hb); have hcz36_0 : w35.cell? ⟨gb547, 0, none⟩ = some (.slice A0_0 l0_0.length c0_0) := (blk_cell BK547.out 0).trans rfl; have hcz36_1 : w35.cell? ⟨gb547, 1, none⟩ = some (.slice A0_1 l0_1.length c0_1) := (blk_cell BK547.out 1).trans rfl; have hcz36_2 : w35.cell? ⟨gb547, 2, none⟩ = some (.slice A0_2 l0_2.length c0_2) := (blk_cell BK547.out 2).trans rfl; have hcz36_3 : w35.cell? ⟨gb547, 3, none⟩ = some (.slice A0_3 l0_3.length c0_3) := (blk_cell BK547.out 3).trans rfl; have hcz36_4 : w35.cell? ⟨gb547, 4, none⟩ = some (.slice A0_4 l0_4.length c0_4) := (blk_cell BK547.out 4).trans rfl; have hcz36_5 : w35.cell? ⟨gb547, 5, none⟩ = some (.slice A0_5 l0_5.length c0_5) := (blk_cell BK547.out 5).trans rfl; have hcz36_6 : w35.cell? ⟨gb547, 6, none⟩ = some (.int .i64 a0_6) := (blk_cell BK547.out 6).trans rfl; have hcz36_7 : w35.cell? ⟨gb547, 7, none⟩ = some (.slice A0_7 l0_7.length c0_7) := (blk_cell BK547.out 7).trans rfl; have hcz36_8 : w35.cell? ⟨gb547, 8, none⟩ = some (.slice A0_8 l0_8.length c0_8) := (blk_cell BK547.out 8).trans rfl; have hcz36_9 : w35.cell? ⟨gb547, 9, none⟩ = some (.int .i64 a0_9) := (blk_cell BK547.out 9).trans rfl; have hcz36_10 : w35.cell? ⟨gb547, 10, none⟩ = some (.slice A0_10 l0_10.length c0_10) := (blk_cell BK547.out 10).trans rfl; have hcz36_11 : w35.cell? ⟨gb547, 11, none⟩ = some (.slice A0_11 l0_11.length c0_11) := (blk_cell BK547.out 11).trans rfl; have hfz36_0 := blk_frozen BK547.out 0; have hfz36_1 := blk_frozen BK547.out 1; have hfz36_2 := blk_frozen BK547.out 2; have hfz36_3 := blk_frozen BK547.out 3; have hfz36_4 := blk_frozen BK547.out 4; have hfz36_5 := blk_frozen BK547.out 5; have hfz36_6 := blk_frozen BK547.out 6; have hfz36_7 := blk_frozen BK547.out 7; have hfz36_8 := blk_frozen BK547.out 8; have hfz36_9 := blk_frozen BK547.out 9; have hfz36_10 := blk_frozen BK547.out 10; have hfz36_11 := blk_frozen BK547.out 11; have hcz37_0 : w35.cell? ⟨gb548, 0, none⟩ = some (.slice A1_0 l1_0.length c1_0) := (blk_cell BK548.out 0).trans rfl; have hcz37_1 : w35.cell? ⟨gb548, 1, none⟩ = some (.slice A1_1 l1_1.length c1_1) := (blk_cell BK548.out 1).trans rfl; have hcz37_2 : w35.cell? ⟨gb548, 2, none⟩ = some (.slice A1_2 l1_2.length c1_2) := (blk_cell BK548.out 2).trans rfl; have hcz37_3 : w35.cell? ⟨gb548, 3, none⟩ = some (.slice A1_3 l1_3.length c1_3) := (blk_cell BK548.out 3).trans rfl; have hcz37_4 : w35.cell? ⟨gb548, 4, none⟩ = some (.slice A1_4 l1_4.length c1_4) := (blk_cell BK548.out 4).trans rfl; have hcz37_5 : w35.cell? ⟨gb548, 5, none⟩ = some (.slice A1_5 l1_5.length c1_5) := (blk_cell BK548.out 5).trans rfl; have hcz37_6 : w35.cell? ⟨gb548, 6, none⟩ = some (.int .i64 a1_6) := (blk_cell BK548.out 6).trans rfl; have hcz37_7 : w35.cell? ⟨gb548, 7, none⟩ = some (.slice A1_7 l1_7.length c1_7) := (blk_cell BK548.out 7).trans rfl; have hcz37_8 : w35.cell? ⟨gb548, 8, none⟩ = some (.slice A1_8 l1_8.length c1_8) := (blk_cell BK548.out 8).trans rfl; have hcz37_9 : w35.cell? ⟨gb548, 9, none⟩ = some (.int .i64 a1_9) := (blk_cell BK548.out 9).trans rfl; have hcz37_10 : w35.cell? ⟨gb548, 10, none⟩ = some (.slice A1_10 l1_10.length c1_10) := (blk_cell BK548.out 10).trans rfl; have hcz37_11 : w35.cell? ⟨gb548, 11, none⟩ = some (.slice A1_11 l1_11.length c1_11) := (blk_cell BK548.out 11).trans rfl; have hfz37_0 := blk_frozen BK548.out 0; have hfz37_1 := blk_frozen BK548.out 1; have hfz37_2 := blk_frozen BK548.out 2; have hfz37_3 := blk_frozen BK548.out 3; have hfz37_4 := blk_frozen BK548.out 4; have hfz37_5 := blk_frozen BK548.out 5; have hfz37_6 := blk_frozen BK548.out 6; have hfz37_7 := blk_frozen BK548.out 7; have hfz37_8 := blk_frozen BK548.out 8; have hfz37_9 := blk_frozen BK548.out 9; have hfz37_10 := blk_frozen BK548.out 10; have hfz37_11 := blk_frozen BK548.out 11) | ((with_reducible refine gate_callee (f := 36) rfl ?_); refine gs_ (some 44) Tryz.func36 #[.slice A0_10 l0_10.length c0_10, .slice A1_10 l1_10.length c1_10] ?_; (with_reducible refine (laws_eqIntS.calls k _ _ l0_10 _ _ l1_10 true _ ?side1 ?side2 ?side3 ?side4 ?side5 A14.out).mono ?_); (case side1 => exact cb_ HR0_10.out HB.out); (case side2 => exact HC0_10.out); (case side3 => exact cb_ HR1_10.out HB.out); (case side4 => exact HC1_10.out); (case side5 => first | rfl | assumption); rintro e w' ⟨rfl, ⟨nd, rfl⟩⟩; refine ⟨_, rfl, ?_⟩) | ((with_reducible refine gate_callee (f := 37) rfl ?_); refine gs_ (some 50) Tryz.func37 #[.slice A0_11 l0_11.length c0_11, .slice A1_11 l1_11.length c1_11] ?_; (with_reducible refine (laws_eqSeenS.calls k _ _ l0_11 _ _ l1_11 true _ ?side1 ?side2 ?side3 ?side4 ?side5 A16.out).mono ?_); (case side1 => repeat (first | exact (Kd.C_below HR0_11.out bl_) | exact HR0_11.out | (with_reducible refine Kd.C_alloc ?_ _) | (with_reducible refine Kd.C_drewN ?_ _) | (with_reducible refine Kd.C_drew ?_))); (case side2 => exact HC0_11.out); (case side3 => repeat (first | exact (Kd.C_below HR1_11.out bl_) | exact HR1_11.out | (with_reducible refine Kd.C_alloc ?_ _) | (with_reducible refine Kd.C_drewN ?_ _) | (with_reducible refine Kd.C_drew ?_))); (case side4 => exact HC1_11.out); (case side5 => first | rfl | assumption); rintro e w38 ⟨rfl, hb⟩; refine ⟨_, rfl, ?_⟩; replace BK547 := Aside0.mk (blk_below (bn0_ BK547.out) hb); replace BK548 := Aside0.mk (blk_below (bn0_ BK548.out) hb); replace HB := Aside0.mk (below_step bl_ hb); (try clear hb)))
 go_ret
 exact ⟨er_, bl_⟩

end Go.Proofs.YtcbjlcgfhbfneaaGreatDoor.PA
