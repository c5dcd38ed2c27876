/- Contracts of functions of the program and of the reference, and plain lemmas on what they compute: a part of the proof of the law FnLessNums. No condition. -/
import Derived.Test.YtjfmpodeenidnaaG90508x0
import Derived.Test.YtjfmpodeenidnaaJFnLessNums3
import Derived.Test.YtjfmpodeenidnaaShortV
set_option maxHeartbeats 8000000
set_option maxRecDepth 100000
namespace Go.Proofs.Ytjfmpodeenidnaa.PC
open Go.RowKit Go.Proofs.Ytjfmpodeenidnaa.Short Go.Proofs.YtjfmpodeenidnaaW.PrintWords Go.Proofs.YtjfmpodeenidnaaW.PrintLast Go.Proofs.YtjfmpodeenidnaaW.PrintMore
attribute [local go_sem] max2_int min2_int max_two min_two max_three min_three max_four min_four   -- for this text's walks alone
set_option linter.unusedVariables false
set_option linter.unusedSimpArgs false

mutual
def spec_RuleHolds.j0 : Nat → Bool → List Int → List (S100) → Int → Int → Int → Int → List (S98) → Option (Bool)
 | 0, _, _, _, _, _, _, _, _ => none
 | k + 1, x17, x575000, x575001, x575002, x575003, x576000, x576001, x576002 => if x17 = true then (some false) else (spec_RuleHolds.l0 k 0 x575000 x575001 x575002 x575003 x576000 x576001 x576002)
def spec_RuleHolds.l0 : Nat → Int → List Int → List (S100) → Int → Int → Int → Int → List (S98) → Option (Bool)
 | 0, _, _, _, _, _, _, _, _ => none
 | k + 1, x5, x575000, x575001, x575002, x575003, x576000, x576001, x576002 => if x5 < (x575001.length : Int) then (if 0 ≤ x5 then ((spec_CondHolds.f k ((rd_T100 x575001 x5).f0) ((rd_T100 x575001 x5).f1.f0) ((rd_T100 x575001 x5).f1.f1) ((rd_T100 x575001 x5).f2) ((rd_T100 x575001 x5).f3.f0) ((rd_T100 x575001 x5).f3.f1) x576000 x576001 x576002).bind fun t578 => (if t578 = true then (spec_RuleHolds.l0 k (wrap64 (x5 + 1)) x575000 x575001 x575002 x575003 x576000 x576001 x576002) else (some false))) else (none)) else (some true)
end
def spec_RuleHolds.f (k : Nat) (l0_0 : List Int) (l0_1 : List (S100)) (a0_2 : Int) (a0_3 : Int) (a1_0 : Int) (a1_1 : Int) (l1_2 : List (S98)) : Option (Bool) := if (l0_0.length : Int) > 0 then ((spec_l09In.f k l0_0 a1_1).bind fun t576 => (spec_RuleHolds.j0 k (!t576) l0_0 l0_1 a0_2 a0_3 a1_0 a1_1 l1_2)) else (spec_RuleHolds.j0 k false l0_0 l0_1 a0_2 a0_3 a1_0 a1_1 l1_2)
theorem spec_RuleHolds.mono_l : ∀ k, (∀ y0 y1 y2 y3 y4 y5 y6 y7, LeO (spec_RuleHolds.j0 k y0 y1 y2 y3 y4 y5 y6 y7) (spec_RuleHolds.j0 (k + 1) y0 y1 y2 y3 y4 y5 y6 y7)) ∧ (∀ y0 y1 y2 y3 y4 y5 y6 y7, LeO (spec_RuleHolds.l0 k y0 y1 y2 y3 y4 y5 y6 y7) (spec_RuleHolds.l0 (k + 1) y0 y1 y2 y3 y4 y5 y6 y7))
 | 0 => ⟨fun _ _ _ _ _ _ _ _ r h => by simp [spec_RuleHolds.j0] at h, fun _ _ _ _ _ _ _ _ r h => by simp [spec_RuleHolds.l0] at h⟩
 | k + 1 => by
  obtain ⟨ih0, ih1⟩ := spec_RuleHolds.mono_l k
  refine ⟨?_, ?_⟩
  ·intro y0 y1 y2 y3 y4 y5 y6 y7
   unfold spec_RuleHolds.j0
   have m0 := @spec_CondHolds.mono
   have m1 := @spec_l09In.mono
   exact mo_
  ·intro y0 y1 y2 y3 y4 y5 y6 y7
   unfold spec_RuleHolds.l0
   have m0 := @spec_CondHolds.mono
   have m1 := @spec_l09In.mono
   exact mo_
theorem spec_RuleHolds.mono : ∀ a0 a1 a2 a3 a4 a5 a6 k, LeO (spec_RuleHolds.f k a0 a1 a2 a3 a4 a5 a6) (spec_RuleHolds.f (k + 1) a0 a1 a2 a3 a4 a5 a6) := by
 intro a0 a1 a2 a3 a4 a5 a6 k
 obtain ⟨ih0, ih1⟩ := spec_RuleHolds.mono_l k
 unfold spec_RuleHolds.f
 have m0 := @spec_CondHolds.mono
 have m1 := @spec_l09In.mono
 exact mo_
def spec_RuleHolds.T6 : Bool × List (List Nat × List Nat) := (true, [([], []), ([0], [0]), ([], []), ([1, 2], [1, 2]), ([3], [3]), ([], []), ([4, 5], [4, 5]), ([6], [6])])
def spec_RuleHolds.B6 : List Nat := [0, 1, 0, 7, 15, 0, 63, 127]
theorem spec_RuleHolds.tab6 : rtab .any (opsOf Try.f72 6) = spec_RuleHolds.T6 := by kernel_rfl
theorem spec_RuleHolds.bits6 : waitsOk spec_RuleHolds.T6.2 spec_RuleHolds.B6 = true := by kernel_rfl
theorem spec_RuleHolds.calls (k : Nat) (A0_0 : Option Addr) (c0_0 : Nat) (l0_0 : List Int) (A0_1 : Option Addr) (c0_1 : Nat) (l0_1 : List (S100)) (a0_2 : Int) (a0_3 : Int) (a1_0 : Int) (a1_1 : Int) (A1_2 : Option Addr) (c1_2 : Nat) (l1_2 : List (S98)) (r : Bool) (w : World) (hr0_0 : Kd.C (Kd.int .i64) w A0_0 l0_0.length l0_0) (hc0_0 : l0_0.length ≤ c0_0) (hr0_1 : Kd.C k100 w A0_1 l0_1.length l0_1) (hc0_1 : l0_1.length ≤ c0_1) (hr1_2 : Kd.C k98 w A1_2 l1_2.length l1_2) (hc1_2 : l1_2.length ≤ c1_2) (h : spec_RuleHolds.f k l0_0 l0_1 a0_2 a0_3 a1_0 a1_1 l1_2 = some r) :
 Calls Try.prog 72 #[.agg #[.slice A0_0 l0_0.length c0_0, .slice A0_1 l0_1.length c0_1, .int .i64 a0_2, .int .i64 a0_3], .agg #[.int .i64 a1_0, .int .i64 a1_1, .slice A1_2 l1_2.length c1_2]] w fun e w' => e = .returned (.bool r) ∧ Below w.heap.size w w' := by
 have hu53 := Try.underlying53
 have hu47 := Try.underlying47
 have hu100 := Try.underlying100
 have HR0_0 := Aside0.mk hr0_0
 have HC0_0 := Aside0.mk hc0_0
 clear hr0_0 hc0_0
 have HR0_1 := Aside0.mk hr0_1
 have HC0_1 := Aside0.mk hc0_1
 clear hr0_1 hc0_1
 have HR1_2 := Aside0.mk hr1_2
 have HC1_2 := Aside0.mk hc1_2
 clear hr1_2 hc1_2
 have HB := Aside0.mk (Below.refl w.heap.size w)
 have H := h
 unfold spec_RuleHolds.f at H
 clear h
 have HC3 := Aside0.mk H
 clear H
 go_enter Try.func72, Try.ntmps72
 go_upto_region 1 with (first | ((with_reducible refine gate_dst (N := 2) rfl ?_); refine bx_ 2 53 #[.slice A0_0 l0_0.length c0_0, .slice A0_1 l0_1.length c0_1, .int .i64 a0_2, .int .i64 a0_3] ?_; intro gb574 hg w4 hbox hb; have BK574 := Aside0.mk (hbox); have GW574 := Aside0.mk ((hz_ : w.heap.size ≤ gb574)); have GE574 := Aside0.mk ((hz_ : w.heap.size ≤ gb574)); replace HB := Aside0.mk (below_step bl_ hb); clear hb hbox hg) | ((with_reducible refine gate_dst (N := 3) rfl ?_); refine bx_ 3 47 #[.int .i64 a1_0, .int .i64 a1_1, .slice A1_2 l1_2.length c1_2] ?_; intro gb575 hg w5 hbox hb; have BK575 := Aside0.mk (hbox); have GW575 := Aside0.mk ((hz_ : w.heap.size ≤ gb575)); have GE575 := Aside0.mk ((hz_ : w.heap.size ≤ gb575)); replace HB := Aside0.mk (below_step bl_ hb); have NB574_575 := Aside0.mk ((by rw [hg]; exact Nat.ne_of_lt (blk_lt (g := gb574) (o := .cells #[.slice A0_0 l0_0.length c0_0, .slice A0_1 l0_1.length c0_1, .int .i64 a0_2, .int .i64 a0_3] 53 (0, 0)) (bk_ BK574.out)) : gb574 ≠ gb575)); have NB575_574 := Aside0.mk ((by rw [hg]; exact Nat.ne_of_gt (blk_lt (g := gb574) (o := .cells #[.slice A0_0 l0_0.length c0_0, .slice A0_1 l0_1.length c0_1, .int .i64 a0_2, .int .i64 a0_3] 53 (0, 0)) (bk_ BK574.out)) : gb575 ≠ gb574)); replace BK574 := Aside0.mk (blk_below (bn0_ BK574.out) hb); clear hb hbox hg))
 (try simp only [Act.put, List.setIfInBounds_toArray, List.set_cons_zero, List.set_cons_succ])
 go_cut [17] (fun v17 wc => ∃ (kq : Nat) (x17_2 : Bool), v17 = .bool x17_2 ∧ Aside0 (spec_RuleHolds.j0 kq x17_2 l0_0 l0_1 a0_2 a0_3 a1_0 a1_1 l1_2 = some r) ∧ Aside0 (kq ≤ k) ∧ Aside0 (wc.heap[gb574]? = some (.cells #[(.slice A0_0 l0_0.length c0_0), (.slice A0_1 l0_1.length c0_1), .int .i64 a0_2, .int .i64 a0_3] 53 (0, 0))) ∧ Aside0 (wc.heap[gb575]? = some (.cells #[.int .i64 a1_0, .int .i64 a1_1, (.slice A1_2 l1_2.length c1_2)] 47 (0, 0))) ∧ Aside0 (Below w.heap.size w wc))
 case first =>
  have H := HC3.out
  clear HC3
  by_cases c6 : (l0_0.length : Int) > 0
  rotate_left
  ·rw [if_neg c6] at H
   have c6b0 := decide_eq_false c6
   have c6b1 : decide (0 < l0_0.length) = false := decide_eq_false (by omega)
   clear c6
   (first | rw [c6b0] | (simp only [i64_w, i32_w]; rw [c6b0]) | skip)
   have H' := Aside0.mk H
   clear H
   have hnb11 := NB574_575.out
   have hnc11 := NB575_574.out
   obtain ⟨hcz12_0, hcz12_1, hcz12_2, hcz12_3, hfz12_0, hfz12_1, hfz12_2, hfz12_3⟩ := cf4_ BK574.out
   go_wp2
   go_meet
   case rel => exact ⟨_, (false), (sr_), H', ⟨by first | omega | exact Nat.le_refl _⟩, ⟨bk_ BK574.out⟩, ⟨bk_ BK575.out⟩, ⟨bl_⟩⟩
  rw [if_pos c6] at H
  have c6b0 := decide_eq_true c6
  have c6b1 : decide (0 < l0_0.length) = true := decide_eq_true (by omega)
  clear c6
  (first | rw [c6b0] | (simp only [i64_w, i32_w]; rw [c6b0]) | skip)
  replace H := bs_ H
  obtain ⟨t576, A7, H⟩ := H
  try dsimp only at H
  have H' := Aside0.mk H
  clear H
  have hnb8 := NB574_575.out
  have hnc8 := NB575_574.out
  obtain ⟨hcz9_0, hcz9_1, hcz9_2, hcz9_3, hfz9_0, hfz9_1, hfz9_2, hfz9_3⟩ := cf4_ BK574.out
  obtain ⟨hcz10_0, hcz10_1, hcz10_2, hfz10_0, hfz10_1, hfz10_2⟩ := cf3_ BK575.out
  go_wp2_with (first | (go_at_call 53; (with_reducible refine (spec_l09In.calls k _ _ l0_0 a1_1 t576 _ ?side1 ?side2 A7.out).mono ?_); (case side1 => exact cb_ HR0_0.out HB.out); (case side2 => exact HC0_0.out); rintro e w' ⟨rfl, ⟨nd, rfl⟩⟩))
  go_meet
  case rel => exact ⟨_, (!t576), (sr_), H', ⟨by first | omega | exact Nat.le_refl _⟩, ⟨bk_ BK574.out⟩, ⟨bk_ BK575.out⟩, ⟨bl_⟩⟩
 clear HC3
 obtain ⟨kq, x17_2, rfl, HA, HJ2, BK574, BK575, HB⟩ := hcut
 cases kq with
 | zero => exact absurd HA.out (by simp [spec_RuleHolds.j0])
 | succ kj2 => ?_
 have H := HA.out
 clear HA
 simp only [spec_RuleHolds.j0] at H
 by_cases c13 : x17_2 = true
 ·subst c13
  rw [if_pos rfl] at H
  obtain rfl := Option.some.inj H
  go_wp2
  go_ret
  exact ⟨er_, bl_⟩
 replace c13 := Bool.eq_false_iff.mpr c13
 subst c13
 rw [nf_] at H
 have H' := Aside0.mk H
 clear H
 go_wp2
 go_loopg [5] kj2 (fun kq v5 w' => ∃ (x5_2 : Int), v5 = .int .i64 x5_2 ∧ Aside0 (spec_RuleHolds.l0 kq x5_2 l0_0 l0_1 a0_2 a0_3 a1_0 a1_1 l1_2 = some r) ∧ Aside0 (kq ≤ kj2) ∧ Aside0 (w'.heap[gb574]? = some (.cells #[(.slice A0_0 l0_0.length c0_0), (.slice A0_1 l0_1.length c0_1), .int .i64 a0_2, .int .i64 a0_3] 53 (0, 0))) ∧ Aside0 (w'.heap[gb575]? = some (.cells #[.int .i64 a1_0, .int .i64 a1_1, (.slice A1_2 l1_2.length c1_2)] 47 (0, 0))) ∧ Aside0 (Below w.heap.size w w'))
 case atStart => exact ⟨(0), (sr_), H', ⟨Nat.le_refl _⟩, ⟨bk_ BK574.out⟩, ⟨bk_ BK575.out⟩, ⟨bl_⟩⟩
 clear H'
 try clear c13
 obtain ⟨x5_2, rfl, HA, HK2, BK574, BK575, HB⟩ := hrel
 cases gk with
 | zero => exact absurd HA.out (by simp [spec_RuleHolds.l0])
 | succ k2 => ?_
 have H := HA.out
 clear HA
 simp only [spec_RuleHolds.l0] at H
 by_cases c14 : x5_2 < (l0_1.length : Int)
 rotate_left
 ·rw [if_neg c14] at H
  have c14b0 := decide_eq_false c14
  clear c14
  obtain rfl := Option.some.inj H
  have hnb26 := NB574_575.out
  have hnc26 := NB575_574.out
  obtain ⟨hcz27_0, hcz27_1, hcz27_2, hcz27_3, hfz27_0, hfz27_1, hfz27_2, hfz27_3⟩ := cf4_ BK574.out
  go_wp2
  go_ret
  exact ⟨er_, bl_⟩
 rw [if_pos c14] at H
 have c14b0 := decide_eq_true c14
 clear c14
 by_cases c15 : 0 ≤ x5_2
 rotate_left
 ·exact nn_ c15 H
 rw [if_pos c15] at H
 have c15b0 := decide_eq_true c15
 clear c15
 replace H := bs_ H
 obtain ⟨t578, A16, H⟩ := H
 try dsimp only at H
 by_cases c17 : t578 = true
 rotate_left
 ·replace c17 := Bool.eq_false_iff.mpr c17
  subst c17
  rw [nf_] at H
  obtain rfl := Option.some.inj H
  have hnb22 := NB574_575.out
  have hnc22 := NB575_574.out
  obtain ⟨hcz23_0, hcz23_1, hcz23_2, hcz23_3, hfz23_0, hfz23_1, hfz23_2, hfz23_3⟩ := cf4_ BK574.out
  try go_wp2
  have n0_ := Aside0.mk (blk_drew BK574.out)
  have n1_ := Aside0.mk (blk_drew BK575.out)
  have n2_ := Aside0.mk (below_drew1 HB.out)
  clear BK574
  clear BK575
  clear HB
  have BK574 := n0_
  have BK575 := n1_
  have HB := n2_
  clear n0_ n1_ n2_
  have p577 : 0 ≤ (x5_2 : Int) := of_decide_eq_true as_
  have q577 : x5_2 < (l0_1.length : Int) := of_decide_eq_true as_
  obtain ⟨ad577, e577, hx577_0, hx577_1, hx577_2, hx577_3, hx577_4, hx577_5⟩ := at_T100 HR0_1.out x5_2 p577 q577
  have hw577_5 := hx577_5
  have hw577_4 := hx577_4
  have hw577_3 := hx577_3
  have hw577_2 := hx577_2
  have hw577_1 := hx577_1
  have hw577_0 := hx577_0
  cases e577
  replace hx577_0 := (HB.out.cell (World.block_lt_of_cell? w _ hx577_0)).trans hx577_0
  replace hx577_1 := (HB.out.cell (World.block_lt_of_cell? w _ hx577_1)).trans hx577_1
  replace hx577_2 := (HB.out.cell (World.block_lt_of_cell? w _ hx577_2)).trans hx577_2
  replace hx577_3 := (HB.out.cell (World.block_lt_of_cell? w _ hx577_3)).trans hx577_3
  replace hx577_4 := (HB.out.cell (World.block_lt_of_cell? w _ hx577_4)).trans hx577_4
  replace hx577_5 := (HB.out.cell (World.block_lt_of_cell? w _ hx577_5)).trans hx577_5
  replace p577 := eq_true p577
  replace q577 := eq_true q577
  refine start_ (n := 8) (S := fun w' => w'.cell? ⟨gb574, 0, none⟩ = some (.slice A0_0 l0_0.length c0_0) ∧ w'.cell? ⟨gb574, 1, none⟩ = some (.slice (some ad577) l0_1.length c0_1) ∧ w'.cell? ⟨gb574, 2, none⟩ = some (.int .i64 a0_2) ∧ w'.cell? ⟨gb574, 3, none⟩ = some (.int .i64 a0_3) ∧ w'.cell? ⟨gb575, 0, none⟩ = some (.int .i64 a1_0) ∧ w'.cell? ⟨gb575, 1, none⟩ = some (.int .i64 a1_1) ∧ w'.cell? ⟨gb575, 2, none⟩ = some (.slice A1_2 l1_2.length c1_2) ∧ w'.cell? (ad577.add ((x5_2).toNat * 6)) = some (.int .i64 ((rd_T100 l0_1 x5_2).f0)) ∧ w'.cell? ⟨(ad577.add ((x5_2).toNat * 6)).block, (ad577.add ((x5_2).toNat * 6)).off + 1, none⟩ = some (.int .i64 ((rd_T100 l0_1 x5_2).f1.f0)) ∧ w'.cell? ⟨(ad577.add ((x5_2).toNat * 6)).block, (ad577.add ((x5_2).toNat * 6)).off + 2, none⟩ = some (.int .i64 ((rd_T100 l0_1 x5_2).f1.f1)) ∧ w'.cell? ⟨(ad577.add ((x5_2).toNat * 6)).block, (ad577.add ((x5_2).toNat * 6)).off + 3, none⟩ = some (.int .i64 ((rd_T100 l0_1 x5_2).f2)) ∧ w'.cell? ⟨(ad577.add ((x5_2).toNat * 6)).block, (ad577.add ((x5_2).toNat * 6)).off + 4, none⟩ = some (.int .i64 ((rd_T100 l0_1 x5_2).f3.f0)) ∧ w'.cell? ⟨(ad577.add ((x5_2).toNat * 6)).block, (ad577.add ((x5_2).toNat * 6)).off + 5, none⟩ = some (.int .i64 ((rd_T100 l0_1 x5_2).f3.f1))) (ds := []) #[false, false, false, false, false, false, false, false] (by kernel_rfl) rfl rfl ⟨(blk_cell BK574.out 0).trans rfl, (blk_cell BK574.out 1).trans rfl, (blk_cell BK574.out 2).trans rfl, (blk_cell BK574.out 3).trans rfl, (blk_cell BK575.out 0).trans rfl, (blk_cell BK575.out 1).trans rfl, (blk_cell BK575.out 2).trans rfl, ((HB.out.cell (World.block_lt_of_cell? w _ hw577_0)).trans hw577_0), ((HB.out.cell (World.block_lt_of_cell? w _ hw577_1)).trans hw577_1), ((HB.out.cell (World.block_lt_of_cell? w _ hw577_2)).trans hw577_2), ((HB.out.cell (World.block_lt_of_cell? w _ hw577_3)).trans hw577_3), ((HB.out.cell (World.block_lt_of_cell? w _ hw577_4)).trans hw577_4), ((HB.out.cell (World.block_lt_of_cell? w _ hw577_5)).trans hw577_5)⟩ (fun hHeld => ?_); refine with_tabW spec_RuleHolds.tab6 spec_RuleHolds.bits6 (fun HT_ HW_ => ?_)
  generalize wr.drew = w24 at BK574 BK575 HB hx577_0 hx577_1 hx577_2 hx577_3 hx577_4 hx577_5 hHeld ⊢
  refine pu_ 0 25 HT_ ?_
  refine pu_ 2 27 HT_ ?_
  refine ta_ 1 26 HT_ HW_ hHeld ?_ (r := by rintro w' ⟨s0, s1, s2, s3, s4, s5, s6, s7, s8, s9, s10, s11, s12⟩; go_simp; with_reducible rfl)
  refine pu_ 3 28 HT_ ?_
  refine ta_ 4 29 HT_ HW_ hHeld ?_ (r := by rintro w' ⟨s0, s1, s2, s3, s4, s5, s6, s7, s8, s9, s10, s11, s12⟩; go_simp; with_reducible rfl)
  refine ta_ 5 30 HT_ HW_ hHeld ?_ (r := by rintro w' ⟨s0, s1, s2, s3, s4, s5, s6, s7, s8, s9, s10, s11, s12⟩; go_simp; with_reducible rfl)
  refine on_ 6 31 HT_ (fun K hK => ?_)
  refine goes_ Try.func111 (by kernel_rfl) rfl #[.agg #[.int .i64 ((rd_T100 l0_1 x5_2).f0), .int .i64 ((rd_T100 l0_1 x5_2).f1.f0), .int .i64 ((rd_T100 l0_1 x5_2).f1.f1), .int .i64 ((rd_T100 l0_1 x5_2).f2), .int .i64 ((rd_T100 l0_1 x5_2).f3.f0), .int .i64 ((rd_T100 l0_1 x5_2).f3.f1)], .agg #[.int .i64 a1_0, .int .i64 a1_1, .slice A1_2 l1_2.length c1_2]] (by rfl) rfl rfl lm_ ?_
  with_reducible refine (spec_CondHolds.calls k2 ((rd_T100 l0_1 x5_2).f0) ((rd_T100 l0_1 x5_2).f1.f0) ((rd_T100 l0_1 x5_2).f1.f1) ((rd_T100 l0_1 x5_2).f2) ((rd_T100 l0_1 x5_2).f3.f0) ((rd_T100 l0_1 x5_2).f3.f1) a1_0 a1_1 _ _ l1_2 false _ ?side1 ?side2 A16.out).mono ?_
  (case side1 => exact cb_ HR1_2.out HB.out)
  (case side2 => exact HC1_2.out)
  rintro e w25 ⟨rfl, hb⟩
  refine ⟨_, rfl, ?_⟩
  have n0_ := Aside0.mk (blk_below (bn0_ BK574.out) hb)
  have n1_ := Aside0.mk (blk_below (bn0_ BK575.out) hb)
  have n2_ := Aside0.mk (below_step bl_ hb)
  clear BK574
  clear BK575
  clear HB
  have BK574 := n0_
  have BK575 := n1_
  have HB := n2_
  clear n0_ n1_ n2_
  (try clear hb)
  (try clear hb2)
  (try clear hk)
  (try clear hi)
  refine hK.out _ _ ⟨(blk_cell BK574.out 0).trans rfl, (blk_cell BK574.out 1).trans rfl, (blk_cell BK574.out 2).trans rfl, (blk_cell BK574.out 3).trans rfl, (blk_cell BK575.out 0).trans rfl, (blk_cell BK575.out 1).trans rfl, (blk_cell BK575.out 2).trans rfl, ((HB.out.cell (World.block_lt_of_cell? w _ hw577_0)).trans hw577_0), ((HB.out.cell (World.block_lt_of_cell? w _ hw577_1)).trans hw577_1), ((HB.out.cell (World.block_lt_of_cell? w _ hw577_2)).trans hw577_2), ((HB.out.cell (World.block_lt_of_cell? w _ hw577_3)).trans hw577_3), ((HB.out.cell (World.block_lt_of_cell? w _ hw577_4)).trans hw577_4), ((HB.out.cell (World.block_lt_of_cell? w _ hw577_5)).trans hw577_5)⟩ (fun hHeld => ?_)
  clear hK K
  refine norm_ (a' := ?_) ?_ ?_
  rotate_left
  ·show Act.put _ (some 31) _ = _
   simp only [Act.put, List.setIfInBounds_toArray, List.set_cons_zero, List.set_cons_succ, i64_w, i32_w]
   rfl
  refine pu_ 7 32 HT_ ?_
  refine done_ (done_of HT_.out (by kernel_rfl)) ?_
  try go_wp2
  go_ret
  exact ⟨er_, bl_⟩
 subst c17
 rw [if_pos rfl] at H
 have H' := Aside0.mk H
 clear H
 have hnb18 := NB574_575.out
 have hnc18 := NB575_574.out
 obtain ⟨hcz19_0, hcz19_1, hcz19_2, hcz19_3, hfz19_0, hfz19_1, hfz19_2, hfz19_3⟩ := cf4_ BK574.out
 try go_wp2
 have n0_ := Aside0.mk (blk_drew BK574.out)
 have n1_ := Aside0.mk (blk_drew BK575.out)
 have n2_ := Aside0.mk (below_drew1 HB.out)
 clear BK574
 clear BK575
 clear HB
 have BK574 := n0_
 have BK575 := n1_
 have HB := n2_
 clear n0_ n1_ n2_
 have p577 : 0 ≤ (x5_2 : Int) := of_decide_eq_true as_
 have q577 : x5_2 < (l0_1.length : Int) := of_decide_eq_true as_
 obtain ⟨ad577, e577, hx577_0, hx577_1, hx577_2, hx577_3, hx577_4, hx577_5⟩ := at_T100 HR0_1.out x5_2 p577 q577
 have hw577_5 := hx577_5
 have hw577_4 := hx577_4
 have hw577_3 := hx577_3
 have hw577_2 := hx577_2
 have hw577_1 := hx577_1
 have hw577_0 := hx577_0
 cases e577
 replace hx577_0 := (HB.out.cell (World.block_lt_of_cell? w _ hx577_0)).trans hx577_0
 replace hx577_1 := (HB.out.cell (World.block_lt_of_cell? w _ hx577_1)).trans hx577_1
 replace hx577_2 := (HB.out.cell (World.block_lt_of_cell? w _ hx577_2)).trans hx577_2
 replace hx577_3 := (HB.out.cell (World.block_lt_of_cell? w _ hx577_3)).trans hx577_3
 replace hx577_4 := (HB.out.cell (World.block_lt_of_cell? w _ hx577_4)).trans hx577_4
 replace hx577_5 := (HB.out.cell (World.block_lt_of_cell? w _ hx577_5)).trans hx577_5
 replace p577 := eq_true p577
 replace q577 := eq_true q577
 refine start_ (n := 8) (S := fun w' => w'.cell? ⟨gb574, 0, none⟩ = some (.slice A0_0 l0_0.length c0_0) ∧ w'.cell? ⟨gb574, 1, none⟩ = some (.slice (some ad577) l0_1.length c0_1) ∧ w'.cell? ⟨gb574, 2, none⟩ = some (.int .i64 a0_2) ∧ w'.cell? ⟨gb574, 3, none⟩ = some (.int .i64 a0_3) ∧ w'.cell? ⟨gb575, 0, none⟩ = some (.int .i64 a1_0) ∧ w'.cell? ⟨gb575, 1, none⟩ = some (.int .i64 a1_1) ∧ w'.cell? ⟨gb575, 2, none⟩ = some (.slice A1_2 l1_2.length c1_2) ∧ w'.cell? (ad577.add ((x5_2).toNat * 6)) = some (.int .i64 ((rd_T100 l0_1 x5_2).f0)) ∧ w'.cell? ⟨(ad577.add ((x5_2).toNat * 6)).block, (ad577.add ((x5_2).toNat * 6)).off + 1, none⟩ = some (.int .i64 ((rd_T100 l0_1 x5_2).f1.f0)) ∧ w'.cell? ⟨(ad577.add ((x5_2).toNat * 6)).block, (ad577.add ((x5_2).toNat * 6)).off + 2, none⟩ = some (.int .i64 ((rd_T100 l0_1 x5_2).f1.f1)) ∧ w'.cell? ⟨(ad577.add ((x5_2).toNat * 6)).block, (ad577.add ((x5_2).toNat * 6)).off + 3, none⟩ = some (.int .i64 ((rd_T100 l0_1 x5_2).f2)) ∧ w'.cell? ⟨(ad577.add ((x5_2).toNat * 6)).block, (ad577.add ((x5_2).toNat * 6)).off + 4, none⟩ = some (.int .i64 ((rd_T100 l0_1 x5_2).f3.f0)) ∧ w'.cell? ⟨(ad577.add ((x5_2).toNat * 6)).block, (ad577.add ((x5_2).toNat * 6)).off + 5, none⟩ = some (.int .i64 ((rd_T100 l0_1 x5_2).f3.f1))) (ds := []) #[false, false, false, false, false, false, false, false] (by kernel_rfl) rfl rfl ⟨(blk_cell BK574.out 0).trans rfl, (blk_cell BK574.out 1).trans rfl, (blk_cell BK574.out 2).trans rfl, (blk_cell BK574.out 3).trans rfl, (blk_cell BK575.out 0).trans rfl, (blk_cell BK575.out 1).trans rfl, (blk_cell BK575.out 2).trans rfl, ((HB.out.cell (World.block_lt_of_cell? w _ hw577_0)).trans hw577_0), ((HB.out.cell (World.block_lt_of_cell? w _ hw577_1)).trans hw577_1), ((HB.out.cell (World.block_lt_of_cell? w _ hw577_2)).trans hw577_2), ((HB.out.cell (World.block_lt_of_cell? w _ hw577_3)).trans hw577_3), ((HB.out.cell (World.block_lt_of_cell? w _ hw577_4)).trans hw577_4), ((HB.out.cell (World.block_lt_of_cell? w _ hw577_5)).trans hw577_5)⟩ (fun hHeld => ?_); refine with_tabW spec_RuleHolds.tab6 spec_RuleHolds.bits6 (fun HT_ HW_ => ?_)
 generalize wr.drew = w20 at BK574 BK575 HB hx577_0 hx577_1 hx577_2 hx577_3 hx577_4 hx577_5 hHeld ⊢
 refine pu_ 0 25 HT_ ?_
 refine pu_ 2 27 HT_ ?_
 refine ta_ 1 26 HT_ HW_ hHeld ?_ (r := by rintro w' ⟨s0, s1, s2, s3, s4, s5, s6, s7, s8, s9, s10, s11, s12⟩; go_simp; with_reducible rfl)
 refine pu_ 3 28 HT_ ?_
 refine ta_ 4 29 HT_ HW_ hHeld ?_ (r := by rintro w' ⟨s0, s1, s2, s3, s4, s5, s6, s7, s8, s9, s10, s11, s12⟩; go_simp; with_reducible rfl)
 refine ta_ 5 30 HT_ HW_ hHeld ?_ (r := by rintro w' ⟨s0, s1, s2, s3, s4, s5, s6, s7, s8, s9, s10, s11, s12⟩; go_simp; with_reducible rfl)
 refine on_ 6 31 HT_ (fun K hK => ?_)
 refine goes_ Try.func111 (by kernel_rfl) rfl #[.agg #[.int .i64 ((rd_T100 l0_1 x5_2).f0), .int .i64 ((rd_T100 l0_1 x5_2).f1.f0), .int .i64 ((rd_T100 l0_1 x5_2).f1.f1), .int .i64 ((rd_T100 l0_1 x5_2).f2), .int .i64 ((rd_T100 l0_1 x5_2).f3.f0), .int .i64 ((rd_T100 l0_1 x5_2).f3.f1)], .agg #[.int .i64 a1_0, .int .i64 a1_1, .slice A1_2 l1_2.length c1_2]] (by rfl) rfl rfl lm_ ?_
 with_reducible refine (spec_CondHolds.calls k2 ((rd_T100 l0_1 x5_2).f0) ((rd_T100 l0_1 x5_2).f1.f0) ((rd_T100 l0_1 x5_2).f1.f1) ((rd_T100 l0_1 x5_2).f2) ((rd_T100 l0_1 x5_2).f3.f0) ((rd_T100 l0_1 x5_2).f3.f1) a1_0 a1_1 _ _ l1_2 true _ ?side1 ?side2 A16.out).mono ?_
 (case side1 => exact cb_ HR1_2.out HB.out)
 (case side2 => exact HC1_2.out)
 rintro e w21 ⟨rfl, hb⟩
 refine ⟨_, rfl, ?_⟩
 have n0_ := Aside0.mk (blk_below (bn0_ BK574.out) hb)
 have n1_ := Aside0.mk (blk_below (bn0_ BK575.out) hb)
 have n2_ := Aside0.mk (below_step bl_ hb)
 clear BK574
 clear BK575
 clear HB
 have BK574 := n0_
 have BK575 := n1_
 have HB := n2_
 clear n0_ n1_ n2_
 (try clear hb)
 (try clear hb2)
 (try clear hk)
 (try clear hi)
 refine hK.out _ _ ⟨(blk_cell BK574.out 0).trans rfl, (blk_cell BK574.out 1).trans rfl, (blk_cell BK574.out 2).trans rfl, (blk_cell BK574.out 3).trans rfl, (blk_cell BK575.out 0).trans rfl, (blk_cell BK575.out 1).trans rfl, (blk_cell BK575.out 2).trans rfl, ((HB.out.cell (World.block_lt_of_cell? w _ hw577_0)).trans hw577_0), ((HB.out.cell (World.block_lt_of_cell? w _ hw577_1)).trans hw577_1), ((HB.out.cell (World.block_lt_of_cell? w _ hw577_2)).trans hw577_2), ((HB.out.cell (World.block_lt_of_cell? w _ hw577_3)).trans hw577_3), ((HB.out.cell (World.block_lt_of_cell? w _ hw577_4)).trans hw577_4), ((HB.out.cell (World.block_lt_of_cell? w _ hw577_5)).trans hw577_5)⟩ (fun hHeld => ?_)
 clear hK K
 refine norm_ (a' := ?_) ?_ ?_
 rotate_left
 ·show Act.put _ (some 31) _ = _
  simp only [Act.put, List.setIfInBounds_toArray, List.set_cons_zero, List.set_cons_succ, i64_w, i32_w]
  rfl
 refine pu_ 7 32 HT_ ?_
 refine done_ (done_of HT_.out (by kernel_rfl)) ?_
 try go_wp2
 go_roundg k2
 case measure => have := HJ2.out; have := HK2.out; omega
 case rel => exact ⟨(wrap64 (x5_2 + 1)), (sr_), H', ⟨by have := HJ2.out; have := HK2.out; omega⟩, ⟨bk_ BK574.out⟩, ⟨bk_ BK575.out⟩, ⟨bl_⟩⟩


def spec_ResultOf.f (a0 : Int) (a1 : Int) : Option (Int) := (spec_l01In.f a0 0 5).bind fun t579 => (if t579 = true then ((spec_l01In.f a1 0 65535).bind fun t580 => (if t580 = true then (some (wrap64 ((wrap64 (65536 * a0)) + a1))) else (some 0))) else (some 0))
theorem spec_ResultOf.calls (a0 : Int) (a1 : Int) (r : Int) (w : World) (h : spec_ResultOf.f a0 a1 = some r) :
 Calls Try.prog 73 #[.int .i64 a0, .int .i64 a1] w fun e w' => e = .returned (.int .i64 r) ∧ Drawn0 w w' := by
 have H := h
 unfold spec_ResultOf.f at H
 clear h
 replace H := bs_ H
 obtain ⟨t579, A3, H⟩ := H
 try dsimp only at H
 by_cases c4 : t579 = true
 rotate_left
 ·replace c4 := Bool.eq_false_iff.mpr c4
  subst c4
  rw [nf_] at H
  obtain rfl := Option.some.inj H
  go_enter Try.func73, Try.ntmps73
  go_wp2_with (first | ((with_reducible refine gate_callee (f := 87) rfl ?_); refine gs_ (some 6) Try.func87 #[.int .i64 a0, .int .i64 0, .int .i64 5] ?_; (with_reducible refine (spec_l01In.calls a0 0 5 false _ A3.out).mono ?_); rintro e w' ⟨rfl, ⟨nd, rfl⟩⟩; refine ⟨_, rfl, ?_⟩))
  go_ret
  exact ⟨sr_, by repeat (first | exact Drawn0.refl _ | apply Drawn0.step)⟩
 subst c4
 rw [if_pos rfl] at H
 replace H := bs_ H
 obtain ⟨t580, A5, H⟩ := H
 try dsimp only at H
 by_cases c6 : t580 = true
 ·subst c6
  rw [if_pos rfl] at H
  obtain rfl := Option.some.inj H
  go_enter Try.func73, Try.ntmps73
  go_wp2_with (first | ((with_reducible refine gate_callee (f := 87) rfl ?_); refine gs_ (some 6) Try.func87 #[.int .i64 a0, .int .i64 0, .int .i64 5] ?_; (with_reducible refine (spec_l01In.calls a0 0 5 true _ A3.out).mono ?_); rintro e w' ⟨rfl, ⟨nd, rfl⟩⟩; refine ⟨_, rfl, ?_⟩) | (go_at_call 87; (with_reducible refine (spec_l01In.calls a1 0 65535 true _ A5.out).mono ?_); rintro e w' ⟨rfl, ⟨nd, rfl⟩⟩))
  go_ret
  exact ⟨sr_, by repeat (first | exact Drawn0.refl _ | apply Drawn0.step)⟩
 replace c6 := Bool.eq_false_iff.mpr c6
 subst c6
 rw [nf_] at H
 obtain rfl := Option.some.inj H
 go_enter Try.func73, Try.ntmps73
 go_wp2_with (first | ((with_reducible refine gate_callee (f := 87) rfl ?_); refine gs_ (some 6) Try.func87 #[.int .i64 a0, .int .i64 0, .int .i64 5] ?_; (with_reducible refine (spec_l01In.calls a0 0 5 true _ A3.out).mono ?_); rintro e w' ⟨rfl, ⟨nd, rfl⟩⟩; refine ⟨_, rfl, ?_⟩) | (go_at_call 87; (with_reducible refine (spec_l01In.calls a1 0 65535 false _ A5.out).mono ?_); rintro e w' ⟨rfl, ⟨nd, rfl⟩⟩))
 go_ret
 exact ⟨sr_, by repeat (first | exact Drawn0.refl _ | apply Drawn0.step)⟩


mutual
def spec_Decide.j0 : Nat → Bool → Int → Int → Int → List (S53) → Int → Int → List (S98) → Option (Int)
 | 0, _, _, _, _, _, _, _, _ => none
 | k + 1, x20, x582000, x582001, x582002, x582003, x583000, x583001, x583002 => if x20 = true then (some 0) else (spec_Decide.l0 k 0 x582000 x582001 x582002 x582003 x583000 x583001 x583002)
def spec_Decide.l0 : Nat → Int → Int → Int → Int → List (S53) → Int → Int → List (S98) → Option (Int)
 | 0, _, _, _, _, _, _, _, _ => none
 | k + 1, x5, x582000, x582001, x582002, x582003, x583000, x583001, x583002 => if x5 < (x582003.length : Int) then (if 0 ≤ x5 then ((spec_RuleHolds.f k ((rd_T53 x582003 x5).f0) ((rd_T53 x582003 x5).f1) ((rd_T53 x582003 x5).f2) ((rd_T53 x582003 x5).f3) x583000 x583001 x583002).bind fun t587 => (if t587 = true then ((spec_ResultOf.f ((rd_T53 x582003 x5).f2) ((rd_T53 x582003 x5).f3)).bind fun t590 => (some t590)) else (spec_Decide.l0 k (wrap64 (x5 + 1)) x582000 x582001 x582002 x582003 x583000 x583001 x583002))) else (none)) else ((spec_ResultOf.f x582001 x582002).bind fun t585 => (some t585))
end
def spec_Decide.f (k : Nat) (a0_0 : Int) (a0_1 : Int) (a0_2 : Int) (l0_3 : List (S53)) (a1_0 : Int) (a1_1 : Int) (l1_2 : List (S98)) : Option (Int) := (spec_PolicyOk.f k a0_0 a0_1 a0_2 l0_3).bind fun t583 => (if t583 = true then ((spec_CallOk.f k a1_0 a1_1 l1_2).bind fun t584 => (if t584 = true then (spec_Decide.j0 k (a1_0 != a0_0) a0_0 a0_1 a0_2 l0_3 a1_0 a1_1 l1_2) else (spec_Decide.j0 k true a0_0 a0_1 a0_2 l0_3 a1_0 a1_1 l1_2))) else (spec_Decide.j0 k true a0_0 a0_1 a0_2 l0_3 a1_0 a1_1 l1_2))
theorem spec_Decide.mono_l : ∀ k, (∀ y0 y1 y2 y3 y4 y5 y6 y7, LeO (spec_Decide.j0 k y0 y1 y2 y3 y4 y5 y6 y7) (spec_Decide.j0 (k + 1) y0 y1 y2 y3 y4 y5 y6 y7)) ∧ (∀ y0 y1 y2 y3 y4 y5 y6 y7, LeO (spec_Decide.l0 k y0 y1 y2 y3 y4 y5 y6 y7) (spec_Decide.l0 (k + 1) y0 y1 y2 y3 y4 y5 y6 y7))
 | 0 => ⟨fun _ _ _ _ _ _ _ _ r h => by simp [spec_Decide.j0] at h, fun _ _ _ _ _ _ _ _ r h => by simp [spec_Decide.l0] at h⟩
 | k + 1 => by
  obtain ⟨ih0, ih1⟩ := spec_Decide.mono_l k
  refine ⟨?_, ?_⟩
  ·intro y0 y1 y2 y3 y4 y5 y6 y7
   unfold spec_Decide.j0
   have m0 := @spec_CallOk.mono
   have m1 := @spec_PolicyOk.mono
   have m2 := @spec_RuleHolds.mono
   exact mo_
  ·intro y0 y1 y2 y3 y4 y5 y6 y7
   unfold spec_Decide.l0
   have m0 := @spec_CallOk.mono
   have m1 := @spec_PolicyOk.mono
   have m2 := @spec_RuleHolds.mono
   exact mo_
theorem spec_Decide.mono : ∀ a0 a1 a2 a3 a4 a5 a6 k, LeO (spec_Decide.f k a0 a1 a2 a3 a4 a5 a6) (spec_Decide.f (k + 1) a0 a1 a2 a3 a4 a5 a6) := by
 intro a0 a1 a2 a3 a4 a5 a6 k
 obtain ⟨ih0, ih1⟩ := spec_Decide.mono_l k
 unfold spec_Decide.f
 have m0 := @spec_CallOk.mono
 have m1 := @spec_PolicyOk.mono
 have m2 := @spec_RuleHolds.mono
 exact mo_
def spec_Decide.T7 : Bool × List (List Nat × List Nat) := (true, [([], []), ([0], [0]), ([], []), ([1, 2], [1, 2]), ([3], [3]), ([4], [4]), ([], []), ([6], [6]), ([], []), ([7, 8], [7, 8]), ([9], [9]), ([10], [10]), ([5, 11], [5, 11]), ([12, 12, 0, 1, 2, 3, 4, 5, 6, 7, 8, 9, 10, 11, 12], [12])])
def spec_Decide.B7 : List Nat := [0, 1, 0, 7, 15, 31, 0, 64, 0, 448, 960, 1984, 4095, 8191]
theorem spec_Decide.tab7 : rtab .any (opsOf Try.f26 7) = spec_Decide.T7 := by kernel_rfl
theorem spec_Decide.bits7 : waitsOk spec_Decide.T7.2 spec_Decide.B7 = true := by kernel_rfl
theorem spec_Decide.calls (k : Nat) (a0_0 : Int) (a0_1 : Int) (a0_2 : Int) (A0_3 : Option Addr) (c0_3 : Nat) (l0_3 : List (S53)) (a1_0 : Int) (a1_1 : Int) (A1_2 : Option Addr) (c1_2 : Nat) (l1_2 : List (S98)) (r : Int) (w : World) (hr0_3 : Kd.C k53 w A0_3 l0_3.length l0_3) (hc0_3 : l0_3.length ≤ c0_3) (hr1_2 : Kd.C k98 w A1_2 l1_2.length l1_2) (hc1_2 : l1_2.length ≤ c1_2) (h : spec_Decide.f k a0_0 a0_1 a0_2 l0_3 a1_0 a1_1 l1_2 = some r) :
 Calls Try.prog 26 #[.agg #[.int .i64 a0_0, .int .i64 a0_1, .int .i64 a0_2, .slice A0_3 l0_3.length c0_3], .agg #[.int .i64 a1_0, .int .i64 a1_1, .slice A1_2 l1_2.length c1_2]] w fun e w' => e = .returned (.int .i64 r) ∧ Below w.heap.size w w' := by
 have hu36 := Try.underlying36
 have hu47 := Try.underlying47
 have hu53 := Try.underlying53
 have HR0_3 := Aside0.mk hr0_3
 have HC0_3 := Aside0.mk hc0_3
 clear hr0_3 hc0_3
 have HR1_2 := Aside0.mk hr1_2
 have HC1_2 := Aside0.mk hc1_2
 clear hr1_2 hc1_2
 have HB := Aside0.mk (Below.refl w.heap.size w)
 have H := h
 unfold spec_Decide.f at H
 clear h
 have HC3 := Aside0.mk H
 clear H
 go_enter Try.func26, Try.ntmps26
 go_upto_region 1 with (first | ((with_reducible refine gate_dst (N := 2) rfl ?_); refine bx_ 2 36 #[.int .i64 a0_0, .int .i64 a0_1, .int .i64 a0_2, .slice A0_3 l0_3.length c0_3] ?_; intro gb581 hg w4 hbox hb; have BK581 := Aside0.mk (hbox); have GW581 := Aside0.mk ((hz_ : w.heap.size ≤ gb581)); have GE581 := Aside0.mk ((hz_ : w.heap.size ≤ gb581)); replace HB := Aside0.mk (below_step bl_ hb); clear hb hbox hg) | ((with_reducible refine gate_dst (N := 3) rfl ?_); refine bx_ 3 47 #[.int .i64 a1_0, .int .i64 a1_1, .slice A1_2 l1_2.length c1_2] ?_; intro gb582 hg w5 hbox hb; have BK582 := Aside0.mk (hbox); have GW582 := Aside0.mk ((hz_ : w.heap.size ≤ gb582)); have GE582 := Aside0.mk ((hz_ : w.heap.size ≤ gb582)); replace HB := Aside0.mk (below_step bl_ hb); have NB581_582 := Aside0.mk ((by rw [hg]; exact Nat.ne_of_lt (blk_lt (g := gb581) (o := .cells #[.int .i64 a0_0, .int .i64 a0_1, .int .i64 a0_2, .slice A0_3 l0_3.length c0_3] 36 (0, 0)) (bk_ BK581.out)) : gb581 ≠ gb582)); have NB582_581 := Aside0.mk ((by rw [hg]; exact Nat.ne_of_gt (blk_lt (g := gb581) (o := .cells #[.int .i64 a0_0, .int .i64 a0_1, .int .i64 a0_2, .slice A0_3 l0_3.length c0_3] 36 (0, 0)) (bk_ BK581.out)) : gb582 ≠ gb581)); replace BK581 := Aside0.mk (blk_below (bn0_ BK581.out) hb); clear hb hbox hg))
 (try simp only [Act.put, List.setIfInBounds_toArray, List.set_cons_zero, List.set_cons_succ])
 go_cut [20] (fun v20 wc => ∃ (kq : Nat) (x20_2 : Bool), v20 = .bool x20_2 ∧ Aside0 (spec_Decide.j0 kq x20_2 a0_0 a0_1 a0_2 l0_3 a1_0 a1_1 l1_2 = some r) ∧ Aside0 (kq ≤ k) ∧ Aside0 (wc.heap[gb581]? = some (.cells #[.int .i64 a0_0, .int .i64 a0_1, .int .i64 a0_2, (.slice A0_3 l0_3.length c0_3)] 36 (0, 0))) ∧ Aside0 (wc.heap[gb582]? = some (.cells #[.int .i64 a1_0, .int .i64 a1_1, (.slice A1_2 l1_2.length c1_2)] 47 (0, 0))) ∧ Aside0 (Below w.heap.size w wc))
 case first =>
  have H := HC3.out
  clear HC3
  replace H := bs_ H
  obtain ⟨t583, A6, H⟩ := H
  try dsimp only at H
  by_cases c7 : t583 = true
  rotate_left
  ·replace c7 := Bool.eq_false_iff.mpr c7
   subst c7
   rw [nf_] at H
   have H' := Aside0.mk H
   clear H
   have hnb22 := NB581_582.out
   have hnc22 := NB582_581.out
   obtain ⟨hcz23_0, hcz23_1, hcz23_2, hcz23_3, hfz23_0, hfz23_1, hfz23_2, hfz23_3⟩ := cf4_ BK581.out
   go_wp2_with (first | ((with_reducible refine gate_callee (f := 27) rfl ?_); refine gs_ (some 7) Try.func27 #[.agg #[.int .i64 a0_0, .int .i64 a0_1, .int .i64 a0_2, .slice A0_3 l0_3.length c0_3]] ?_; (with_reducible refine (spec_PolicyOk.calls k a0_0 a0_1 a0_2 _ _ l0_3 false _ ?side1 ?side2 A6.out).mono ?_); (case side1 => exact cb_ HR0_3.out HB.out); (case side2 => exact HC0_3.out); rintro e w24 ⟨rfl, hb⟩; refine ⟨_, rfl, ?_⟩; replace BK581 := Aside0.mk (blk_below (bn0_ BK581.out) hb); replace BK582 := Aside0.mk (blk_below (bn0_ BK582.out) hb); replace HB := Aside0.mk (below_step bl_ hb); (try clear hb)))
   go_meet
   case rel => exact ⟨_, (true), (sr_), H', ⟨by first | omega | exact Nat.le_refl _⟩, ⟨bk_ BK581.out⟩, ⟨bk_ BK582.out⟩, ⟨bl_⟩⟩
  subst c7
  rw [if_pos rfl] at H
  replace H := bs_ H
  obtain ⟨t584, A8, H⟩ := H
  try dsimp only at H
  by_cases c9 : t584 = true
  ·subst c9
   rw [if_pos rfl] at H
   have H' := Aside0.mk H
   clear H
   have hnb10 := NB581_582.out
   have hnc10 := NB582_581.out
   obtain ⟨hcz11_0, hcz11_1, hcz11_2, hcz11_3, hfz11_0, hfz11_1, hfz11_2, hfz11_3⟩ := cf4_ BK581.out
   go_wp2_with (first | ((with_reducible refine gate_callee (f := 27) rfl ?_); refine gs_ (some 7) Try.func27 #[.agg #[.int .i64 a0_0, .int .i64 a0_1, .int .i64 a0_2, .slice A0_3 l0_3.length c0_3]] ?_; (with_reducible refine (spec_PolicyOk.calls k a0_0 a0_1 a0_2 _ _ l0_3 true _ ?side1 ?side2 A6.out).mono ?_); (case side1 => exact cb_ HR0_3.out HB.out); (case side2 => exact HC0_3.out); rintro e w12 ⟨rfl, hb⟩; refine ⟨_, rfl, ?_⟩; replace BK581 := Aside0.mk (blk_below (bn0_ BK581.out) hb); replace BK582 := Aside0.mk (blk_below (bn0_ BK582.out) hb); replace HB := Aside0.mk (below_step bl_ hb); (try clear hb); have hcz13_0 : w12.cell? ⟨gb582, 0, none⟩ = some (.int .i64 a1_0) := (blk_cell BK582.out 0).trans rfl; have hcz13_1 : w12.cell? ⟨gb582, 1, none⟩ = some (.int .i64 a1_1) := (blk_cell BK582.out 1).trans rfl; have hcz13_2 : w12.cell? ⟨gb582, 2, none⟩ = some (.slice A1_2 l1_2.length c1_2) := (blk_cell BK582.out 2).trans rfl; have hfz13_0 := blk_frozen BK582.out 0; have hfz13_1 := blk_frozen BK582.out 1; have hfz13_2 := blk_frozen BK582.out 2) | (go_at_call 71; (with_reducible refine (spec_CallOk.calls k a1_0 a1_1 _ _ l1_2 true _ ?side1 ?side2 A8.out).mono ?_); (case side1 => exact cb_ HR1_2.out HB.out); (case side2 => exact HC1_2.out); rintro e w14 ⟨rfl, hb⟩; replace BK581 := Aside0.mk (blk_below (bn0_ BK581.out) hb); replace BK582 := Aside0.mk (blk_below (bn0_ BK582.out) hb); replace HB := Aside0.mk (below_step bl_ hb); (try clear hb); obtain ⟨hcz15_0, hcz15_1, hcz15_2, hfz15_0, hfz15_1, hfz15_2⟩ := cf3_ BK582.out; obtain ⟨hcz16_0, hcz16_1, hcz16_2, hcz16_3, hfz16_0, hfz16_1, hfz16_2, hfz16_3⟩ := cf4_ BK581.out))
   go_meet
   case rel => exact ⟨_, ((a1_0 != a0_0)), (sr_), H', ⟨by first | omega | exact Nat.le_refl _⟩, ⟨bk_ BK581.out⟩, ⟨bk_ BK582.out⟩, ⟨bl_⟩⟩
  replace c9 := Bool.eq_false_iff.mpr c9
  subst c9
  rw [nf_] at H
  have H' := Aside0.mk H
  clear H
  have hnb17 := NB581_582.out
  have hnc17 := NB582_581.out
  obtain ⟨hcz18_0, hcz18_1, hcz18_2, hcz18_3, hfz18_0, hfz18_1, hfz18_2, hfz18_3⟩ := cf4_ BK581.out
  go_wp2_with (first | ((with_reducible refine gate_callee (f := 27) rfl ?_); refine gs_ (some 7) Try.func27 #[.agg #[.int .i64 a0_0, .int .i64 a0_1, .int .i64 a0_2, .slice A0_3 l0_3.length c0_3]] ?_; (with_reducible refine (spec_PolicyOk.calls k a0_0 a0_1 a0_2 _ _ l0_3 true _ ?side1 ?side2 A6.out).mono ?_); (case side1 => exact cb_ HR0_3.out HB.out); (case side2 => exact HC0_3.out); rintro e w19 ⟨rfl, hb⟩; refine ⟨_, rfl, ?_⟩; replace BK581 := Aside0.mk (blk_below (bn0_ BK581.out) hb); replace BK582 := Aside0.mk (blk_below (bn0_ BK582.out) hb); replace HB := Aside0.mk (below_step bl_ hb); (try clear hb); have hcz20_0 : w19.cell? ⟨gb582, 0, none⟩ = some (.int .i64 a1_0) := (blk_cell BK582.out 0).trans rfl; have hcz20_1 : w19.cell? ⟨gb582, 1, none⟩ = some (.int .i64 a1_1) := (blk_cell BK582.out 1).trans rfl; have hcz20_2 : w19.cell? ⟨gb582, 2, none⟩ = some (.slice A1_2 l1_2.length c1_2) := (blk_cell BK582.out 2).trans rfl; have hfz20_0 := blk_frozen BK582.out 0; have hfz20_1 := blk_frozen BK582.out 1; have hfz20_2 := blk_frozen BK582.out 2) | (go_at_call 71; (with_reducible refine (spec_CallOk.calls k a1_0 a1_1 _ _ l1_2 false _ ?side1 ?side2 A8.out).mono ?_); (case side1 => exact cb_ HR1_2.out HB.out); (case side2 => exact HC1_2.out); rintro e w21 ⟨rfl, hb⟩; replace BK581 := Aside0.mk (blk_below (bn0_ BK581.out) hb); replace BK582 := Aside0.mk (blk_below (bn0_ BK582.out) hb); replace HB := Aside0.mk (below_step bl_ hb); (try clear hb)))
  go_meet
  case rel => exact ⟨_, (true), (sr_), H', ⟨by first | omega | exact Nat.le_refl _⟩, ⟨bk_ BK581.out⟩, ⟨bk_ BK582.out⟩, ⟨bl_⟩⟩
 clear HC3
 obtain ⟨kq, x20_2, rfl, HA, HJ2, BK581, BK582, HB⟩ := hcut
 cases kq with
 | zero => exact absurd HA.out (by simp [spec_Decide.j0])
 | succ kj2 => ?_
 have H := HA.out
 clear HA
 simp only [spec_Decide.j0] at H
 by_cases c25 : x20_2 = true
 ·subst c25
  rw [if_pos rfl] at H
  obtain rfl := Option.some.inj H
  go_wp2
  go_ret
  exact ⟨er_, bl_⟩
 replace c25 := Bool.eq_false_iff.mpr c25
 subst c25
 rw [nf_] at H
 have H' := Aside0.mk H
 clear H
 go_wp2
 go_loopg [5] kj2 (fun kq v5 w' => ∃ (x5_2 : Int), v5 = .int .i64 x5_2 ∧ Aside0 (spec_Decide.l0 kq x5_2 a0_0 a0_1 a0_2 l0_3 a1_0 a1_1 l1_2 = some r) ∧ Aside0 (kq ≤ kj2) ∧ Aside0 (w'.heap[gb581]? = some (.cells #[.int .i64 a0_0, .int .i64 a0_1, .int .i64 a0_2, (.slice A0_3 l0_3.length c0_3)] 36 (0, 0))) ∧ Aside0 (w'.heap[gb582]? = some (.cells #[.int .i64 a1_0, .int .i64 a1_1, (.slice A1_2 l1_2.length c1_2)] 47 (0, 0))) ∧ Aside0 (Below w.heap.size w w'))
 case atStart => exact ⟨(0), (sr_), H', ⟨Nat.le_refl _⟩, ⟨bk_ BK581.out⟩, ⟨bk_ BK582.out⟩, ⟨bl_⟩⟩
 clear H'
 try clear c25
 obtain ⟨x5_2, rfl, HA, HK2, BK581, BK582, HB⟩ := hrel
 cases gk with
 | zero => exact absurd HA.out (by simp [spec_Decide.l0])
 | succ k2 => ?_
 have H := HA.out
 clear HA
 simp only [spec_Decide.l0] at H
 by_cases c26 : x5_2 < (l0_3.length : Int)
 rotate_left
 ·rw [if_neg c26] at H
  have c26b0 := decide_eq_false c26
  clear c26
  replace H := bs_ H
  obtain ⟨t585, A40, H⟩ := H
  try dsimp only at H
  obtain rfl := Option.some.inj H
  have hnb41 := NB581_582.out
  have hnc41 := NB582_581.out
  obtain ⟨hcz42_0, hcz42_1, hcz42_2, hcz42_3, hfz42_0, hfz42_1, hfz42_2, hfz42_3⟩ := cf4_ BK581.out
  go_wp2_with (first | ((with_reducible refine gate_callee (f := 73) rfl ?_); refine gs_ (some 52) Try.func73 #[.int .i64 a0_1, .int .i64 a0_2] ?_; (with_reducible refine (spec_ResultOf.calls a0_1 a0_2 t585 _ A40.out).mono ?_); rintro e w' ⟨rfl, ⟨nd, rfl⟩⟩; refine ⟨_, rfl, ?_⟩))
  go_ret
  exact ⟨er_, bl_⟩
 rw [if_pos c26] at H
 have c26b0 := decide_eq_true c26
 clear c26
 by_cases c27 : 0 ≤ x5_2
 rotate_left
 ·exact nn_ c27 H
 rw [if_pos c27] at H
 have c27b0 := decide_eq_true c27
 clear c27
 replace H := bs_ H
 obtain ⟨t587, A28, H⟩ := H
 try dsimp only at H
 by_cases c29 : t587 = true
 rotate_left
 ·replace c29 := Bool.eq_false_iff.mpr c29
  subst c29
  rw [nf_] at H
  have H' := Aside0.mk H
  clear H
  have hnb36 := NB581_582.out
  have hnc36 := NB582_581.out
  obtain ⟨hcz37_0, hcz37_1, hcz37_2, hcz37_3, hfz37_0, hfz37_1, hfz37_2, hfz37_3⟩ := cf4_ BK581.out
  try go_wp2
  have n0_ := Aside0.mk (blk_drew BK581.out)
  have n1_ := Aside0.mk (blk_drew BK582.out)
  have n2_ := Aside0.mk (below_drew1 HB.out)
  clear BK581
  clear BK582
  clear HB
  have BK581 := n0_
  have BK582 := n1_
  have HB := n2_
  clear n0_ n1_ n2_
  have p586 : 0 ≤ (x5_2 : Int) := of_decide_eq_true as_
  have q586 : x5_2 < (l0_3.length : Int) := of_decide_eq_true as_
  obtain ⟨ad586, A586_0, c586_0, A586_1, c586_1, e586, hx586_0, hx586_1, hx586_2, hx586_3, hl586_0, hi586_0, hl586_1, hi586_1⟩ := at_T53 HR0_3.out x5_2 p586 q586
  have hw586_3 := hx586_3
  have hw586_2 := hx586_2
  have hw586_1 := hx586_1
  have hw586_0 := hx586_0
  cases e586
  replace hx586_0 := (HB.out.cell (World.block_lt_of_cell? w _ hx586_0)).trans hx586_0
  replace hx586_1 := (HB.out.cell (World.block_lt_of_cell? w _ hx586_1)).trans hx586_1
  replace hx586_2 := (HB.out.cell (World.block_lt_of_cell? w _ hx586_2)).trans hx586_2
  replace hx586_3 := (HB.out.cell (World.block_lt_of_cell? w _ hx586_3)).trans hx586_3
  have HR586_0 := Aside0.mk hi586_0
  have HC586_0 := Aside0.mk hl586_0
  clear hi586_0 hl586_0
  have HR586_1 := Aside0.mk hi586_1
  have HC586_1 := Aside0.mk hl586_1
  clear hi586_1 hl586_1
  replace p586 := eq_true p586
  replace q586 := eq_true q586
  refine start_ (n := 7) (S := fun w' => w'.cell? ⟨gb581, 0, none⟩ = some (.int .i64 a0_0) ∧ w'.cell? ⟨gb581, 1, none⟩ = some (.int .i64 a0_1) ∧ w'.cell? ⟨gb581, 2, none⟩ = some (.int .i64 a0_2) ∧ w'.cell? ⟨gb581, 3, none⟩ = some (.slice (some ad586) l0_3.length c0_3) ∧ w'.cell? ⟨gb582, 0, none⟩ = some (.int .i64 a1_0) ∧ w'.cell? ⟨gb582, 1, none⟩ = some (.int .i64 a1_1) ∧ w'.cell? ⟨gb582, 2, none⟩ = some (.slice A1_2 l1_2.length c1_2) ∧ w'.cell? (ad586.add ((x5_2).toNat * 4)) = some (.slice A586_0 ((rd_T53 l0_3 x5_2).f0).length c586_0) ∧ w'.cell? ⟨(ad586.add ((x5_2).toNat * 4)).block, (ad586.add ((x5_2).toNat * 4)).off + 1, none⟩ = some (.slice A586_1 ((rd_T53 l0_3 x5_2).f1).length c586_1) ∧ w'.cell? ⟨(ad586.add ((x5_2).toNat * 4)).block, (ad586.add ((x5_2).toNat * 4)).off + 2, none⟩ = some (.int .i64 ((rd_T53 l0_3 x5_2).f2)) ∧ w'.cell? ⟨(ad586.add ((x5_2).toNat * 4)).block, (ad586.add ((x5_2).toNat * 4)).off + 3, none⟩ = some (.int .i64 ((rd_T53 l0_3 x5_2).f3))) (ds := []) #[false, false, false, false, false, false, false] (by kernel_rfl) rfl rfl ⟨(blk_cell BK581.out 0).trans rfl, (blk_cell BK581.out 1).trans rfl, (blk_cell BK581.out 2).trans rfl, (blk_cell BK581.out 3).trans rfl, (blk_cell BK582.out 0).trans rfl, (blk_cell BK582.out 1).trans rfl, (blk_cell BK582.out 2).trans rfl, ((HB.out.cell (World.block_lt_of_cell? w _ hw586_0)).trans hw586_0), ((HB.out.cell (World.block_lt_of_cell? w _ hw586_1)).trans hw586_1), ((HB.out.cell (World.block_lt_of_cell? w _ hw586_2)).trans hw586_2), ((HB.out.cell (World.block_lt_of_cell? w _ hw586_3)).trans hw586_3)⟩ (fun hHeld => ?_)
  generalize wr.drew = w38 at BK581 BK582 HB HR586_0 HR586_1 hx586_0 hx586_1 hx586_2 hx586_3 hHeld ⊢
  refine pure_ (i := 0) (N := some 28) (v := ?_) (a' := ?_) #[true, false, false, false, false, false, false] rfl rfl (by kernel_rfl) (fun _ _ _ h => h) (Or.inl ⟨by rfl, ?_⟩) ?_ ?_
  rotate_left
  ·intro w'
   go_simp
   with_reducible rfl
  rotate_left
  ·simp only [Act.put, List.setIfInBounds_toArray, List.set_cons_zero, List.set_cons_succ, i64_w, i32_w]
   rfl
  refine pure_ (i := 2) (N := some 30) (v := ?_) (a' := ?_) #[true, false, true, false, false, false, false] rfl rfl (by kernel_rfl) (fun _ _ _ h => h) (Or.inl ⟨by rfl, ?_⟩) ?_ ?_
  rotate_left
  ·intro w'
   go_simp
   with_reducible rfl
  rotate_left
  ·simp only [Act.put, List.setIfInBounds_toArray, List.set_cons_zero, List.set_cons_succ, i64_w, i32_w]
   rfl
  refine take_ (i := 1) (N := some 29) (v := ?_) (a' := ?_) #[true, true, true, false, false, false, false] rfl rfl (by kernel_rfl) (fun _ _ _ h => h) (Or.inl ⟨by rfl, ?_⟩) hHeld ?_ ?_
  rotate_left
  ·rintro w' ⟨s0, s1, s2, s3, s4, s5, s6, s7, s8, s9, s10⟩
   go_simp
   with_reducible rfl
  rotate_left
  ·simp only [Act.put, List.setIfInBounds_toArray, List.set_cons_zero, List.set_cons_succ, i64_w, i32_w]
   rfl
  refine pure_ (i := 3) (N := some 31) (v := ?_) (a' := ?_) #[true, true, true, true, false, false, false] rfl rfl (by kernel_rfl) (fun _ _ _ h => h) (Or.inl ⟨by rfl, ?_⟩) ?_ ?_
  rotate_left
  ·intro w'
   go_simp
   with_reducible rfl
  rotate_left
  ·simp only [Act.put, List.setIfInBounds_toArray, List.set_cons_zero, List.set_cons_succ, i64_w, i32_w]
   rfl
  refine take_ (i := 4) (N := some 32) (v := ?_) (a' := ?_) #[true, true, true, true, true, false, false] rfl rfl (by kernel_rfl) (fun _ _ _ h => h) (Or.inl ⟨by rfl, ?_⟩) hHeld ?_ ?_
  rotate_left
  ·rintro w' ⟨s0, s1, s2, s3, s4, s5, s6, s7, s8, s9, s10⟩
   go_simp
   with_reducible rfl
  rotate_left
  ·simp only [Act.put, List.setIfInBounds_toArray, List.set_cons_zero, List.set_cons_succ, i64_w, i32_w]
   rfl
  refine take_ (i := 5) (N := some 33) (v := ?_) (a' := ?_) #[true, true, true, true, true, true, false] rfl rfl (by kernel_rfl) (fun _ _ _ h => h) (Or.inl ⟨by rfl, ?_⟩) hHeld ?_ ?_
  rotate_left
  ·rintro w' ⟨s0, s1, s2, s3, s4, s5, s6, s7, s8, s9, s10⟩
   go_simp
   with_reducible rfl
  rotate_left
  ·simp only [Act.put, List.setIfInBounds_toArray, List.set_cons_zero, List.set_cons_succ, i64_w, i32_w]
   rfl
  refine one_ (i := 6) (N := some 34) #[true, true, true, true, true, true, true] rfl rfl (by kernel_rfl) (by decide) (fun K hK => ?_)
  refine goes_ Try.func72 (by kernel_rfl) rfl #[.agg #[.slice A586_0 ((rd_T53 l0_3 x5_2).f0).length c586_0, .slice A586_1 ((rd_T53 l0_3 x5_2).f1).length c586_1, .int .i64 ((rd_T53 l0_3 x5_2).f2), .int .i64 ((rd_T53 l0_3 x5_2).f3)], .agg #[.int .i64 a1_0, .int .i64 a1_1, .slice A1_2 l1_2.length c1_2]] (by rfl) rfl rfl lm_ ?_
  with_reducible refine (spec_RuleHolds.calls k2 _ _ ((rd_T53 l0_3 x5_2).f0) _ _ ((rd_T53 l0_3 x5_2).f1) ((rd_T53 l0_3 x5_2).f2) ((rd_T53 l0_3 x5_2).f3) a1_0 a1_1 _ _ l1_2 false _ ?side1 ?side2 ?side3 ?side4 ?side5 ?side6 A28.out).mono ?_
  (case side1 => exact cb_ HR586_0.out HB.out)
  (case side2 => exact HC586_0.out)
  (case side3 => exact cb_ HR586_1.out HB.out)
  (case side4 => exact HC586_1.out)
  (case side5 => exact cb_ HR1_2.out HB.out)
  (case side6 => exact HC1_2.out)
  rintro e w39 ⟨rfl, hb⟩
  refine ⟨_, rfl, ?_⟩
  have n0_ := Aside0.mk (blk_below (bn0_ BK581.out) hb)
  have n1_ := Aside0.mk (blk_below (bn0_ BK582.out) hb)
  have n2_ := Aside0.mk (below_step bl_ hb)
  clear BK581
  clear BK582
  clear HB
  have BK581 := n0_
  have BK582 := n1_
  have HB := n2_
  clear n0_ n1_ n2_
  (try clear hb)
  (try clear hb2)
  (try clear hk)
  (try clear hi)
  refine hK.out _ _ ⟨(blk_cell BK581.out 0).trans rfl, (blk_cell BK581.out 1).trans rfl, (blk_cell BK581.out 2).trans rfl, (blk_cell BK581.out 3).trans rfl, (blk_cell BK582.out 0).trans rfl, (blk_cell BK582.out 1).trans rfl, (blk_cell BK582.out 2).trans rfl, ((HB.out.cell (World.block_lt_of_cell? w _ hw586_0)).trans hw586_0), ((HB.out.cell (World.block_lt_of_cell? w _ hw586_1)).trans hw586_1), ((HB.out.cell (World.block_lt_of_cell? w _ hw586_2)).trans hw586_2), ((HB.out.cell (World.block_lt_of_cell? w _ hw586_3)).trans hw586_3)⟩ (fun hHeld => ?_)
  clear hK K
  refine norm_ (a' := ?_) ?_ ?_
  rotate_left
  ·show Act.put _ (some 34) _ = _
   simp only [Act.put, List.setIfInBounds_toArray, List.set_cons_zero, List.set_cons_succ, i64_w, i32_w]
   rfl
  refine done_ (by kernel_rfl) ?_
  try go_wp2
  go_roundg k2
  case measure => have := HJ2.out; have := HK2.out; omega
  case rel => exact ⟨(wrap64 (x5_2 + 1)), (sr_), H', ⟨by have := HJ2.out; have := HK2.out; omega⟩, ⟨bk_ BK581.out⟩, ⟨bk_ BK582.out⟩, ⟨bl_⟩⟩
 subst c29
 rw [if_pos rfl] at H
 replace H := bs_ H
 obtain ⟨t590, A30, H⟩ := H
 try dsimp only at H
 obtain rfl := Option.some.inj H
 have hnb31 := NB581_582.out
 have hnc31 := NB582_581.out
 obtain ⟨hcz32_0, hcz32_1, hcz32_2, hcz32_3, hfz32_0, hfz32_1, hfz32_2, hfz32_3⟩ := cf4_ BK581.out
 try go_wp2
 have n0_ := Aside0.mk (blk_drew BK581.out)
 have n1_ := Aside0.mk (blk_drew BK582.out)
 have n2_ := Aside0.mk (below_drew1 HB.out)
 clear BK581
 clear BK582
 clear HB
 have BK581 := n0_
 have BK582 := n1_
 have HB := n2_
 clear n0_ n1_ n2_
 have p586 : 0 ≤ (x5_2 : Int) := of_decide_eq_true as_
 have q586 : x5_2 < (l0_3.length : Int) := of_decide_eq_true as_
 obtain ⟨ad586, A586_0, c586_0, A586_1, c586_1, e586, hx586_0, hx586_1, hx586_2, hx586_3, hl586_0, hi586_0, hl586_1, hi586_1⟩ := at_T53 HR0_3.out x5_2 p586 q586
 have hw586_3 := hx586_3
 have hw586_2 := hx586_2
 have hw586_1 := hx586_1
 have hw586_0 := hx586_0
 cases e586
 replace hx586_0 := (HB.out.cell (World.block_lt_of_cell? w _ hx586_0)).trans hx586_0
 replace hx586_1 := (HB.out.cell (World.block_lt_of_cell? w _ hx586_1)).trans hx586_1
 replace hx586_2 := (HB.out.cell (World.block_lt_of_cell? w _ hx586_2)).trans hx586_2
 replace hx586_3 := (HB.out.cell (World.block_lt_of_cell? w _ hx586_3)).trans hx586_3
 have HR586_0 := Aside0.mk hi586_0
 have HC586_0 := Aside0.mk hl586_0
 clear hi586_0 hl586_0
 have HR586_1 := Aside0.mk hi586_1
 have HC586_1 := Aside0.mk hl586_1
 clear hi586_1 hl586_1
 replace p586 := eq_true p586
 replace q586 := eq_true q586
 refine start_ (n := 7) (S := fun w' => w'.cell? ⟨gb581, 0, none⟩ = some (.int .i64 a0_0) ∧ w'.cell? ⟨gb581, 1, none⟩ = some (.int .i64 a0_1) ∧ w'.cell? ⟨gb581, 2, none⟩ = some (.int .i64 a0_2) ∧ w'.cell? ⟨gb581, 3, none⟩ = some (.slice (some ad586) l0_3.length c0_3) ∧ w'.cell? ⟨gb582, 0, none⟩ = some (.int .i64 a1_0) ∧ w'.cell? ⟨gb582, 1, none⟩ = some (.int .i64 a1_1) ∧ w'.cell? ⟨gb582, 2, none⟩ = some (.slice A1_2 l1_2.length c1_2) ∧ w'.cell? (ad586.add ((x5_2).toNat * 4)) = some (.slice A586_0 ((rd_T53 l0_3 x5_2).f0).length c586_0) ∧ w'.cell? ⟨(ad586.add ((x5_2).toNat * 4)).block, (ad586.add ((x5_2).toNat * 4)).off + 1, none⟩ = some (.slice A586_1 ((rd_T53 l0_3 x5_2).f1).length c586_1) ∧ w'.cell? ⟨(ad586.add ((x5_2).toNat * 4)).block, (ad586.add ((x5_2).toNat * 4)).off + 2, none⟩ = some (.int .i64 ((rd_T53 l0_3 x5_2).f2)) ∧ w'.cell? ⟨(ad586.add ((x5_2).toNat * 4)).block, (ad586.add ((x5_2).toNat * 4)).off + 3, none⟩ = some (.int .i64 ((rd_T53 l0_3 x5_2).f3))) (ds := []) #[false, false, false, false, false, false, false] (by kernel_rfl) rfl rfl ⟨(blk_cell BK581.out 0).trans rfl, (blk_cell BK581.out 1).trans rfl, (blk_cell BK581.out 2).trans rfl, (blk_cell BK581.out 3).trans rfl, (blk_cell BK582.out 0).trans rfl, (blk_cell BK582.out 1).trans rfl, (blk_cell BK582.out 2).trans rfl, ((HB.out.cell (World.block_lt_of_cell? w _ hw586_0)).trans hw586_0), ((HB.out.cell (World.block_lt_of_cell? w _ hw586_1)).trans hw586_1), ((HB.out.cell (World.block_lt_of_cell? w _ hw586_2)).trans hw586_2), ((HB.out.cell (World.block_lt_of_cell? w _ hw586_3)).trans hw586_3)⟩ (fun hHeld => ?_)
 generalize wr.drew = w33 at BK581 BK582 HB HR586_0 HR586_1 hx586_0 hx586_1 hx586_2 hx586_3 hHeld ⊢
 refine pure_ (i := 0) (N := some 28) (v := ?_) (a' := ?_) #[true, false, false, false, false, false, false] rfl rfl (by kernel_rfl) (fun _ _ _ h => h) (Or.inl ⟨by rfl, ?_⟩) ?_ ?_
 rotate_left
 ·intro w'
  go_simp
  with_reducible rfl
 rotate_left
 ·simp only [Act.put, List.setIfInBounds_toArray, List.set_cons_zero, List.set_cons_succ, i64_w, i32_w]
  rfl
 refine pure_ (i := 2) (N := some 30) (v := ?_) (a' := ?_) #[true, false, true, false, false, false, false] rfl rfl (by kernel_rfl) (fun _ _ _ h => h) (Or.inl ⟨by rfl, ?_⟩) ?_ ?_
 rotate_left
 ·intro w'
  go_simp
  with_reducible rfl
 rotate_left
 ·simp only [Act.put, List.setIfInBounds_toArray, List.set_cons_zero, List.set_cons_succ, i64_w, i32_w]
  rfl
 refine take_ (i := 1) (N := some 29) (v := ?_) (a' := ?_) #[true, true, true, false, false, false, false] rfl rfl (by kernel_rfl) (fun _ _ _ h => h) (Or.inl ⟨by rfl, ?_⟩) hHeld ?_ ?_
 rotate_left
 ·rintro w' ⟨s0, s1, s2, s3, s4, s5, s6, s7, s8, s9, s10⟩
  go_simp
  with_reducible rfl
 rotate_left
 ·simp only [Act.put, List.setIfInBounds_toArray, List.set_cons_zero, List.set_cons_succ, i64_w, i32_w]
  rfl
 refine pure_ (i := 3) (N := some 31) (v := ?_) (a' := ?_) #[true, true, true, true, false, false, false] rfl rfl (by kernel_rfl) (fun _ _ _ h => h) (Or.inl ⟨by rfl, ?_⟩) ?_ ?_
 rotate_left
 ·intro w'
  go_simp
  with_reducible rfl
 rotate_left
 ·simp only [Act.put, List.setIfInBounds_toArray, List.set_cons_zero, List.set_cons_succ, i64_w, i32_w]
  rfl
 refine take_ (i := 4) (N := some 32) (v := ?_) (a' := ?_) #[true, true, true, true, true, false, false] rfl rfl (by kernel_rfl) (fun _ _ _ h => h) (Or.inl ⟨by rfl, ?_⟩) hHeld ?_ ?_
 rotate_left
 ·rintro w' ⟨s0, s1, s2, s3, s4, s5, s6, s7, s8, s9, s10⟩
  go_simp
  with_reducible rfl
 rotate_left
 ·simp only [Act.put, List.setIfInBounds_toArray, List.set_cons_zero, List.set_cons_succ, i64_w, i32_w]
  rfl
 refine take_ (i := 5) (N := some 33) (v := ?_) (a' := ?_) #[true, true, true, true, true, true, false] rfl rfl (by kernel_rfl) (fun _ _ _ h => h) (Or.inl ⟨by rfl, ?_⟩) hHeld ?_ ?_
 rotate_left
 ·rintro w' ⟨s0, s1, s2, s3, s4, s5, s6, s7, s8, s9, s10⟩
  go_simp
  with_reducible rfl
 rotate_left
 ·simp only [Act.put, List.setIfInBounds_toArray, List.set_cons_zero, List.set_cons_succ, i64_w, i32_w]
  rfl
 refine one_ (i := 6) (N := some 34) #[true, true, true, true, true, true, true] rfl rfl (by kernel_rfl) (by decide) (fun K hK => ?_)
 refine goes_ Try.func72 (by kernel_rfl) rfl #[.agg #[.slice A586_0 ((rd_T53 l0_3 x5_2).f0).length c586_0, .slice A586_1 ((rd_T53 l0_3 x5_2).f1).length c586_1, .int .i64 ((rd_T53 l0_3 x5_2).f2), .int .i64 ((rd_T53 l0_3 x5_2).f3)], .agg #[.int .i64 a1_0, .int .i64 a1_1, .slice A1_2 l1_2.length c1_2]] (by rfl) rfl rfl lm_ ?_
 with_reducible refine (spec_RuleHolds.calls k2 _ _ ((rd_T53 l0_3 x5_2).f0) _ _ ((rd_T53 l0_3 x5_2).f1) ((rd_T53 l0_3 x5_2).f2) ((rd_T53 l0_3 x5_2).f3) a1_0 a1_1 _ _ l1_2 true _ ?side1 ?side2 ?side3 ?side4 ?side5 ?side6 A28.out).mono ?_
 (case side1 => exact cb_ HR586_0.out HB.out)
 (case side2 => exact HC586_0.out)
 (case side3 => exact cb_ HR586_1.out HB.out)
 (case side4 => exact HC586_1.out)
 (case side5 => exact cb_ HR1_2.out HB.out)
 (case side6 => exact HC1_2.out)
 rintro e w34 ⟨rfl, hb⟩
 refine ⟨_, rfl, ?_⟩
 have n0_ := Aside0.mk (blk_below (bn0_ BK581.out) hb)
 have n1_ := Aside0.mk (blk_below (bn0_ BK582.out) hb)
 have n2_ := Aside0.mk (below_step bl_ hb)
 clear BK581
 clear BK582
 clear HB
 have BK581 := n0_
 have BK582 := n1_
 have HB := n2_
 clear n0_ n1_ n2_
 (try clear hb)
 (try clear hb2)
 (try clear hk)
 (try clear hi)
 refine hK.out _ _ ⟨(blk_cell BK581.out 0).trans rfl, (blk_cell BK581.out 1).trans rfl, (blk_cell BK581.out 2).trans rfl, (blk_cell BK581.out 3).trans rfl, (blk_cell BK582.out 0).trans rfl, (blk_cell BK582.out 1).trans rfl, (blk_cell BK582.out 2).trans rfl, ((HB.out.cell (World.block_lt_of_cell? w _ hw586_0)).trans hw586_0), ((HB.out.cell (World.block_lt_of_cell? w _ hw586_1)).trans hw586_1), ((HB.out.cell (World.block_lt_of_cell? w _ hw586_2)).trans hw586_2), ((HB.out.cell (World.block_lt_of_cell? w _ hw586_3)).trans hw586_3)⟩ (fun hHeld => ?_)
 clear hK K
 refine norm_ (a' := ?_) ?_ ?_
 rotate_left
 ·show Act.put _ (some 34) _ = _
  simp only [Act.put, List.setIfInBounds_toArray, List.set_cons_zero, List.set_cons_succ, i64_w, i32_w]
  rfl
 refine done_ (by kernel_rfl) ?_
 try go_wp2
 have n0_ := Aside0.mk (blk_drew BK581.out)
 have n1_ := Aside0.mk (blk_drew BK582.out)
 have n2_ := Aside0.mk (below_drew1 HB.out)
 clear BK581
 clear BK582
 clear HB
 have BK581 := n0_
 have BK582 := n1_
 have HB := n2_
 clear n0_ n1_ n2_
 have p588 : 0 ≤ (x5_2 : Int) := of_decide_eq_true as_
 have q588 : x5_2 < (l0_3.length : Int) := of_decide_eq_true as_
 obtain ⟨ad588, A588_0, c588_0, A588_1, c588_1, e588, hx588_0, hx588_1, hx588_2, hx588_3, hl588_0, hi588_0, hl588_1, hi588_1⟩ := at_T53 HR0_3.out x5_2 p588 q588
 have hw588_3 := hx588_3
 have hw588_2 := hx588_2
 have hw588_1 := hx588_1
 have hw588_0 := hx588_0
 obtain rfl : ad586 = ad588 := (by injection e588)
 replace hx588_0 := (HB.out.cell (World.block_lt_of_cell? w _ hx588_0)).trans hx588_0
 replace hx588_1 := (HB.out.cell (World.block_lt_of_cell? w _ hx588_1)).trans hx588_1
 replace hx588_2 := (HB.out.cell (World.block_lt_of_cell? w _ hx588_2)).trans hx588_2
 replace hx588_3 := (HB.out.cell (World.block_lt_of_cell? w _ hx588_3)).trans hx588_3
 have HR588_0 := Aside0.mk hi588_0
 have HC588_0 := Aside0.mk hl588_0
 clear hi588_0 hl588_0
 have HR588_1 := Aside0.mk hi588_1
 have HC588_1 := Aside0.mk hl588_1
 clear hi588_1 hl588_1
 replace p588 := eq_true p588
 replace q588 := eq_true q588
 have p589 : 0 ≤ (x5_2 : Int) := of_decide_eq_true as_
 have q589 : x5_2 < (l0_3.length : Int) := of_decide_eq_true as_
 obtain ⟨ad589, A589_0, c589_0, A589_1, c589_1, e589, hx589_0, hx589_1, hx589_2, hx589_3, hl589_0, hi589_0, hl589_1, hi589_1⟩ := at_T53 HR0_3.out x5_2 p589 q589
 have hw589_3 := hx589_3
 have hw589_2 := hx589_2
 have hw589_1 := hx589_1
 have hw589_0 := hx589_0
 obtain rfl : ad586 = ad589 := (by injection e589)
 replace hx589_0 := (HB.out.cell (World.block_lt_of_cell? w _ hx589_0)).trans hx589_0
 replace hx589_1 := (HB.out.cell (World.block_lt_of_cell? w _ hx589_1)).trans hx589_1
 replace hx589_2 := (HB.out.cell (World.block_lt_of_cell? w _ hx589_2)).trans hx589_2
 replace hx589_3 := (HB.out.cell (World.block_lt_of_cell? w _ hx589_3)).trans hx589_3
 have HR589_0 := Aside0.mk hi589_0
 have HC589_0 := Aside0.mk hl589_0
 clear hi589_0 hl589_0
 have HR589_1 := Aside0.mk hi589_1
 have HC589_1 := Aside0.mk hl589_1
 clear hi589_1 hl589_1
 replace p589 := eq_true p589
 replace q589 := eq_true q589
 have ea_ := Option.some.inj (hx588_0.symm.trans hx589_0)
 injection ea_ with ea_ en_ ec_
 subst ea_
 subst ec_
 clear en_
 have ea_ := Option.some.inj (hx588_1.symm.trans hx589_1)
 injection ea_ with ea_ en_ ec_
 subst ea_
 subst ec_
 clear en_
 refine start_ (n := 14) (S := fun w' => w'.cell? ⟨gb581, 0, none⟩ = some (.int .i64 a0_0) ∧ w'.cell? ⟨gb581, 1, none⟩ = some (.int .i64 a0_1) ∧ w'.cell? ⟨gb581, 2, none⟩ = some (.int .i64 a0_2) ∧ w'.cell? ⟨gb581, 3, none⟩ = some (.slice (some ad586) l0_3.length c0_3) ∧ w'.cell? (ad586.add ((x5_2).toNat * 4)) = some (.slice A588_0 ((rd_T53 l0_3 x5_2).f0).length c588_0) ∧ w'.cell? ⟨(ad586.add ((x5_2).toNat * 4)).block, (ad586.add ((x5_2).toNat * 4)).off + 1, none⟩ = some (.slice A588_1 ((rd_T53 l0_3 x5_2).f1).length c588_1) ∧ w'.cell? ⟨(ad586.add ((x5_2).toNat * 4)).block, (ad586.add ((x5_2).toNat * 4)).off + 2, none⟩ = some (.int .i64 ((rd_T53 l0_3 x5_2).f2)) ∧ w'.cell? ⟨(ad586.add ((x5_2).toNat * 4)).block, (ad586.add ((x5_2).toNat * 4)).off + 3, none⟩ = some (.int .i64 ((rd_T53 l0_3 x5_2).f3)) ∧ w'.cell? (ad586.add ((x5_2).toNat * 4)) = some (.slice A588_0 ((rd_T53 l0_3 x5_2).f0).length c588_0) ∧ w'.cell? ⟨(ad586.add ((x5_2).toNat * 4)).block, (ad586.add ((x5_2).toNat * 4)).off + 1, none⟩ = some (.slice A588_1 ((rd_T53 l0_3 x5_2).f1).length c588_1) ∧ w'.cell? ⟨(ad586.add ((x5_2).toNat * 4)).block, (ad586.add ((x5_2).toNat * 4)).off + 2, none⟩ = some (.int .i64 ((rd_T53 l0_3 x5_2).f2)) ∧ w'.cell? ⟨(ad586.add ((x5_2).toNat * 4)).block, (ad586.add ((x5_2).toNat * 4)).off + 3, none⟩ = some (.int .i64 ((rd_T53 l0_3 x5_2).f3))) (ds := []) #[false, false, false, false, false, false, false, false, false, false, false, false, false, false] (by kernel_rfl) rfl rfl ⟨(blk_cell BK581.out 0).trans rfl, (blk_cell BK581.out 1).trans rfl, (blk_cell BK581.out 2).trans rfl, (blk_cell BK581.out 3).trans rfl, ((HB.out.cell (World.block_lt_of_cell? w _ hw588_0)).trans hw588_0), ((HB.out.cell (World.block_lt_of_cell? w _ hw588_1)).trans hw588_1), ((HB.out.cell (World.block_lt_of_cell? w _ hw588_2)).trans hw588_2), ((HB.out.cell (World.block_lt_of_cell? w _ hw588_3)).trans hw588_3), ((HB.out.cell (World.block_lt_of_cell? w _ hw589_0)).trans hw589_0), ((HB.out.cell (World.block_lt_of_cell? w _ hw589_1)).trans hw589_1), ((HB.out.cell (World.block_lt_of_cell? w _ hw589_2)).trans hw589_2), ((HB.out.cell (World.block_lt_of_cell? w _ hw589_3)).trans hw589_3)⟩ (fun hHeld => ?_); refine with_tabW spec_Decide.tab7 spec_Decide.bits7 (fun HT_ HW_ => ?_)
 generalize w34.drew = w35 at BK581 BK582 HB HR588_0 HR588_1 HR589_0 HR589_1 hx588_0 hx588_1 hx588_2 hx588_3 hx589_0 hx589_1 hx589_2 hx589_3 hHeld ⊢
 refine pu_ 0 35 HT_ ?_
 refine pu_ 2 37 HT_ ?_
 refine pu_ 6 41 HT_ ?_
 refine pu_ 8 43 HT_ ?_
 refine ta_ 1 36 HT_ HW_ hHeld ?_ (r := by rintro w' ⟨s0, s1, s2, s3, s4, s5, s6, s7, s8, s9, s10, s11⟩; go_simp; with_reducible rfl)
 refine pu_ 3 38 HT_ ?_
 refine pu_ 4 39 HT_ ?_
 refine ta_ 5 40 HT_ HW_ hHeld ?_ (r := by rintro w' ⟨s0, s1, s2, s3, s4, s5, s6, s7, s8, s9, s10, s11⟩; go_simp; with_reducible rfl)
 refine ta_ 7 42 HT_ HW_ hHeld ?_ (r := by rintro w' ⟨s0, s1, s2, s3, s4, s5, s6, s7, s8, s9, s10, s11⟩; go_simp; with_reducible rfl)
 refine pu_ 9 44 HT_ ?_
 refine pu_ 10 45 HT_ ?_
 refine ta_ 11 46 HT_ HW_ hHeld ?_ (r := by rintro w' ⟨s0, s1, s2, s3, s4, s5, s6, s7, s8, s9, s10, s11⟩; go_simp; with_reducible rfl)
 refine on_ 12 47 HT_ (fun K hK => ?_)
 refine goes_ Try.func73 (by kernel_rfl) rfl #[.int .i64 ((rd_T53 l0_3 x5_2).f2), .int .i64 ((rd_T53 l0_3 x5_2).f3)] (by rfl) rfl rfl lm_ ?_
 with_reducible refine (spec_ResultOf.calls ((rd_T53 l0_3 x5_2).f2) ((rd_T53 l0_3 x5_2).f3) t590 _ A30.out).mono ?_
 rintro e w' ⟨rfl, ⟨nd, rfl⟩⟩
 refine ⟨_, rfl, ?_⟩
 refine hK.out _ _ ⟨(blk_cell BK581.out 0).trans rfl, (blk_cell BK581.out 1).trans rfl, (blk_cell BK581.out 2).trans rfl, (blk_cell BK581.out 3).trans rfl, ((HB.out.cell (World.block_lt_of_cell? w _ hw588_0)).trans hw588_0), ((HB.out.cell (World.block_lt_of_cell? w _ hw588_1)).trans hw588_1), ((HB.out.cell (World.block_lt_of_cell? w _ hw588_2)).trans hw588_2), ((HB.out.cell (World.block_lt_of_cell? w _ hw588_3)).trans hw588_3), ((HB.out.cell (World.block_lt_of_cell? w _ hw589_0)).trans hw589_0), ((HB.out.cell (World.block_lt_of_cell? w _ hw589_1)).trans hw589_1), ((HB.out.cell (World.block_lt_of_cell? w _ hw589_2)).trans hw589_2), ((HB.out.cell (World.block_lt_of_cell? w _ hw589_3)).trans hw589_3)⟩ (fun hHeld => ?_)
 clear hK K
 refine norm_ (a' := ?_) ?_ ?_
 rotate_left
 ·show Act.put _ (some 47) _ = _
  simp only [Act.put, List.setIfInBounds_toArray, List.set_cons_zero, List.set_cons_succ, i64_w, i32_w]
  rfl
 refine pu_ 13 4 HT_ ?_
 refine done_ (done_of HT_.out (by kernel_rfl)) ?_
 try go_wp2
 go_ret
 exact ⟨er_, bl_⟩

end Go.Proofs.Ytjfmpodeenidnaa.PC
