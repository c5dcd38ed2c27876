/- Contracts of functions of the program and of the reference, and plain lemmas on what they compute: a part of the proof of the law FnExactShowWorld. No condition. -/
import Derived.Test.YtcbjlcgfhbfneaaGreatDoorJFnExactShowWorld1
import Derived.Test.YtcbjlcgfhbfneaaGreatDoorShortV
set_option maxHeartbeats 8000000
set_option maxRecDepth 100000
namespace Go.Proofs.YtcbjlcgfhbfneaaGreatDoor.PA
open Go.RowKit Go.Proofs.YtcbjlcgfhbfneaaGreatDoor.Short Go.Proofs.YtcbjlcgfhbfneaaGreatDoorW.PrintWords Go.Proofs.YtcbjlcgfhbfneaaGreatDoorW.PrintLast Go.Proofs.YtcbjlcgfhbfneaaGreatDoorW.PrintMore
attribute [local go_sem] max2_int min2_int max_two min_two max_three min_three max_four min_four   -- for this text's walks alone
set_option linter.unusedVariables false
set_option linter.unusedSimpArgs false

def laws_szRingS.l0 : Nat → List (S85) → Int → Int → Option (Int)
 | 0, _, _, _ => none
 | k + 1, x0, x1, x5 => if x5 < (x0.length : Int) then (if 0 ≤ x5 then ((laws_szRing.f ((rd_T85 x0 x5).f0) ((rd_T85 x0 x5).f1) ((rd_T85 x0 x5).f2) ((rd_T85 x0 x5).f3) x1).bind fun t108 => (if t108 < 0 then (some (-1)) else (laws_szRingS.l0 k x0 t108 (wrap64 (x5 + 1))))) else (none)) else (some x1)
def laws_szRingS.f (k : Nat) (l0 : List (S85)) (a1 : Int) : Option (Int) := if (wrap64 (a1 - (l0.length : Int))) < 0 then (some (-1)) else (laws_szRingS.l0 k l0 (wrap64 (a1 - (l0.length : Int))) 0)
theorem laws_szRingS.mono_l : ∀ k, (∀ y0 y1 y2, LeO (laws_szRingS.l0 k y0 y1 y2) (laws_szRingS.l0 (k + 1) y0 y1 y2))
 | 0 => fun _ _ _ r h => by simp [laws_szRingS.l0] at h
 | k + 1 => by
  have ih0 := laws_szRingS.mono_l k
  ·intro y0 y1 y2
   unfold laws_szRingS.l0
   exact mo_
theorem laws_szRingS.mono : ∀ a0 a1 k, LeO (laws_szRingS.f k a0 a1) (laws_szRingS.f (k + 1) a0 a1) := by
 intro a0 a1 k
 have ih0 := laws_szRingS.mono_l k
 unfold laws_szRingS.f
 exact mo_
theorem laws_szRingS.calls (k : Nat) (A0 : Option Addr) (c0 : Nat) (l0 : List (S85)) (a1 : Int) (r : Int) (w : World) (hr0 : Kd.C k85 w A0 l0.length l0) (hc0 : l0.length ≤ c0) (h : laws_szRingS.f k l0 a1 = some r) :
 Calls Tryz.prog 10 #[.slice A0 l0.length c0, .int .i64 a1] w fun e w' => e = .returned (.int .i64 r) ∧ Below w.heap.size w w' := by
 have hu85 := Tryz.underlying85
 have HR0 := Aside0.mk hr0
 have HC0 := Aside0.mk hc0
 clear hr0 hc0
 have HB := Aside0.mk (Below.refl w.heap.size w)
 have H := h
 unfold laws_szRingS.f at H
 clear h
 by_cases c3 : (wrap64 (a1 - (l0.length : Int))) < 0
 ·rw [if_pos c3] at H
  have c3b0 := decide_eq_true c3
  clear c3
  obtain rfl := Option.some.inj H
  go_enter Tryz.func10, Tryz.ntmps10
  go_wp2
  go_ret
  exact ⟨er_, bl_⟩
 rw [if_neg c3] at H
 have c3b0 := decide_eq_false c3
 clear c3
 have H' := Aside0.mk H
 clear H
 go_enter Tryz.func10, Tryz.ntmps10
 go_wp2
 go_loopg [1, 5] k (fun kq v1 v5 w' => ∃ (x1_1 : Int) (x5_1 : Int), v1 = .int .i64 x1_1 ∧ v5 = .int .i64 x5_1 ∧ Aside0 (laws_szRingS.l0 kq l0 x1_1 x5_1 = some r) ∧ Aside0 (kq ≤ k) ∧ Aside0 (Below w.heap.size w w'))
 case atStart => exact ⟨(wrap64 (a1 - (l0.length : Int))), (0), (sr_), (sr_), H', ⟨Nat.le_refl _⟩, ⟨bl_⟩⟩
 clear H'
 try clear c3
 try clear c3b0
 obtain ⟨x1_1, x5_1, rfl, rfl, HA, HK1, HB⟩ := hrel
 cases gk with
 | zero => exact absurd HA.out (by simp [laws_szRingS.l0])
 | succ k1 => ?_
 have H := HA.out
 clear HA
 simp only [laws_szRingS.l0] at H
 by_cases c4 : x5_1 < (l0.length : Int)
 rotate_left
 ·rw [if_neg c4] at H
  have c4b0 := decide_eq_false c4
  clear c4
  obtain rfl := Option.some.inj H
  go_wp2
  go_ret
  exact ⟨er_, bl_⟩
 rw [if_pos c4] at H
 have c4b0 := decide_eq_true c4
 clear c4
 by_cases c5 : 0 ≤ x5_1
 rotate_left
 ·exact nn_ c5 H
 rw [if_pos c5] at H
 have c5b0 := decide_eq_true c5
 clear c5
 replace H := bs_ H
 obtain ⟨t108, A6, H⟩ := H
 try dsimp only at H
 by_cases c7 : t108 < 0
 ·rw [if_pos c7] at H
  have c7b0 := decide_eq_true c7
  clear c7
  obtain rfl := Option.some.inj H
  have p107 : 0 ≤ (x5_1 : Int) := of_decide_eq_true as_
  have q107 : x5_1 < (l0.length : Int) := of_decide_eq_true as_
  obtain ⟨ad107, A107_0, c107_0, e107, hx107_0, hx107_1, hx107_2, hx107_3, hl107_0, hi107_0⟩ := at_T85 HR0.out x5_1 p107 q107
  cases e107
  replace hx107_0 := (HB.out.cell (World.block_lt_of_cell? w _ hx107_0)).trans hx107_0
  replace hx107_1 := (HB.out.cell (World.block_lt_of_cell? w _ hx107_1)).trans hx107_1
  replace hx107_2 := (HB.out.cell (World.block_lt_of_cell? w _ hx107_2)).trans hx107_2
  replace hx107_3 := (HB.out.cell (World.block_lt_of_cell? w _ hx107_3)).trans hx107_3
  have HR107_0 := Aside0.mk hi107_0
  have HC107_0 := Aside0.mk hl107_0
  clear hi107_0 hl107_0
  replace p107 := eq_true p107
  replace q107 := eq_true q107
  go_wp2_with (first | ((with_reducible refine gate_callee (f := 39) rfl ?_); refine gs_ (some 23) Tryz.func39 #[.agg #[.slice A107_0 ((rd_T85 l0 x5_1).f0).length c107_0, .int .i64 ((rd_T85 l0 x5_1).f1), .int .i64 ((rd_T85 l0 x5_1).f2), .int .i64 ((rd_T85 l0 x5_1).f3)], .int .i64 x1_1] ?_; (with_reducible refine (laws_szRing.calls _ _ ((rd_T85 l0 x5_1).f0) ((rd_T85 l0 x5_1).f1) ((rd_T85 l0 x5_1).f2) ((rd_T85 l0 x5_1).f3) x1_1 t108 _ ?side1 ?side2 A6.out).mono ?_); (case side1 => exact cb_ HR107_0.out HB.out); (case side2 => exact HC107_0.out); rintro e w8 ⟨rfl, hb⟩; refine ⟨_, rfl, ?_⟩; replace HB := Aside0.mk (below_step bl_ hb); (try clear hb)))
  go_ret
  exact ⟨er_, bl_⟩
 rw [if_neg c7] at H
 have c7b0 := decide_eq_false c7
 clear c7
 have H' := Aside0.mk H
 clear H
 have p107 : 0 ≤ (x5_1 : Int) := of_decide_eq_true as_
 have q107 : x5_1 < (l0.length : Int) := of_decide_eq_true as_
 obtain ⟨ad107, A107_0, c107_0, e107, hx107_0, hx107_1, hx107_2, hx107_3, hl107_0, hi107_0⟩ := at_T85 HR0.out x5_1 p107 q107
 cases e107
 replace hx107_0 := (HB.out.cell (World.block_lt_of_cell? w _ hx107_0)).trans hx107_0
 replace hx107_1 := (HB.out.cell (World.block_lt_of_cell? w _ hx107_1)).trans hx107_1
 replace hx107_2 := (HB.out.cell (World.block_lt_of_cell? w _ hx107_2)).trans hx107_2
 replace hx107_3 := (HB.out.cell (World.block_lt_of_cell? w _ hx107_3)).trans hx107_3
 have HR107_0 := Aside0.mk hi107_0
 have HC107_0 := Aside0.mk hl107_0
 clear hi107_0 hl107_0
 replace p107 := eq_true p107
 replace q107 := eq_true q107
 go_wp2_with (first | ((with_reducible refine gate_callee (f := 39) rfl ?_); refine gs_ (some 23) Tryz.func39 #[.agg #[.slice A107_0 ((rd_T85 l0 x5_1).f0).length c107_0, .int .i64 ((rd_T85 l0 x5_1).f1), .int .i64 ((rd_T85 l0 x5_1).f2), .int .i64 ((rd_T85 l0 x5_1).f3)], .int .i64 x1_1] ?_; (with_reducible refine (laws_szRing.calls _ _ ((rd_T85 l0 x5_1).f0) ((rd_T85 l0 x5_1).f1) ((rd_T85 l0 x5_1).f2) ((rd_T85 l0 x5_1).f3) x1_1 t108 _ ?side1 ?side2 A6.out).mono ?_); (case side1 => exact cb_ HR107_0.out HB.out); (case side2 => exact HC107_0.out); rintro e w9 ⟨rfl, hb⟩; refine ⟨_, rfl, ?_⟩; replace HB := Aside0.mk (below_step bl_ hb); (try clear hb)))
 go_roundg k1
 case measure => have := HK1.out; omega
 case rel => exact ⟨(t108), (wrap64 (x5_1 + 1)), (sr_), (sr_), H', ⟨by have := HK1.out; omega⟩, ⟨bl_⟩⟩


def laws_szSender.f (a0_0 : Int) (a0_1 : Int) (l0_2 : List (S139)) (a0_3 : Int) (a0_4 : Int) (a1 : Int) : Option (Int) := (laws_szItemS.f l0_2 a1).bind fun t110 => (if t110 < 0 then (some (-1)) else (some t110))
theorem laws_szSender.calls (a0_0 : Int) (a0_1 : Int) (A0_2 : Option Addr) (c0_2 : Nat) (l0_2 : List (S139)) (a0_3 : Int) (a0_4 : Int) (a1 : Int) (r : Int) (w : World) (hr0_2 : Kd.C k139 w A0_2 l0_2.length l0_2) (hc0_2 : l0_2.length ≤ c0_2) (h : laws_szSender.f a0_0 a0_1 l0_2 a0_3 a0_4 a1 = some r) :
 Calls Tryz.prog 40 #[.agg #[.int .i64 a0_0, .int .i64 a0_1, .slice A0_2 l0_2.length c0_2, .int .i64 a0_3, .int .i64 a0_4], .int .i64 a1] w fun e w' => e = .returned (.int .i64 r) ∧ Below w.heap.size w w' := by
 have hu88 := Tryz.underlying88
 have HR0_2 := Aside0.mk hr0_2
 have HC0_2 := Aside0.mk hc0_2
 clear hr0_2 hc0_2
 have HB := Aside0.mk (Below.refl w.heap.size w)
 have H := h
 unfold laws_szSender.f at H
 clear h
 replace H := bs_ H
 obtain ⟨t110, A3, H⟩ := H
 try dsimp only at H
 by_cases c4 : t110 < 0
 rw [if_pos c4] at H
 have c4b0 := decide_eq_true c4
 clear c4
 obtain rfl := Option.some.inj H
 rotate_left
 rw [if_neg c4] at H
 have c4b0 := decide_eq_false c4
 clear c4
 obtain rfl := Option.some.inj H
 rotate_left
 all_goals go_enter Tryz.func40, Tryz.ntmps40
 all_goals (go_wp2_with (first | ((with_reducible refine gate_dst (N := 2) rfl ?_); refine bx_ 2 88 #[.int .i64 a0_0, .int .i64 a0_1, .slice A0_2 l0_2.length c0_2, .int .i64 a0_3, .int .i64 a0_4] ?_; intro gb109 hg w5 hbox hb; have BK109 := Aside0.mk (hbox); have GW109 := Aside0.mk ((hz_ : w.heap.size ≤ gb109)); have GE109 := Aside0.mk ((hz_ : w.heap.size ≤ gb109)); replace HB := Aside0.mk (below_step bl_ hb); clear hb hbox hg; obtain ⟨hcz6_0, hcz6_1, hcz6_2, hcz6_3, hcz6_4, hfz6_0, hfz6_1, hfz6_2, hfz6_3, hfz6_4⟩ := cf5_ BK109.out) | ((with_reducible refine gate_callee (f := 66) rfl ?_); refine gs_ (some 8) Tryz.func66 #[.slice A0_2 l0_2.length c0_2, .int .i64 a1] ?_; (with_reducible refine (laws_szItemS.calls _ _ l0_2 a1 t110 _ ?side1 ?side2 A3.out).mono ?_); (case side1 => exact cb_ HR0_2.out HB.out); (case side2 => exact HC0_2.out); rintro e w' ⟨rfl, ⟨nd, rfl⟩⟩; refine ⟨_, rfl, ?_⟩)))
 all_goals go_ret
 all_goals exact ⟨er_, bl_⟩

def laws_szSenderS.l0 : Nat → List (S88) → Int → Int → Option (Int)
 | 0, _, _, _ => none
 | k + 1, x0, x1, x5 => if x5 < (x0.length : Int) then (if 0 ≤ x5 then ((laws_szSender.f ((rd_T88 x0 x5).f0) ((rd_T88 x0 x5).f1) ((rd_T88 x0 x5).f2) ((rd_T88 x0 x5).f3) ((rd_T88 x0 x5).f4) x1).bind fun t112 => (if t112 < 0 then (some (-1)) else (laws_szSenderS.l0 k x0 t112 (wrap64 (x5 + 1))))) else (none)) else (some x1)
def laws_szSenderS.f (k : Nat) (l0 : List (S88)) (a1 : Int) : Option (Int) := if (wrap64 (a1 - (l0.length : Int))) < 0 then (some (-1)) else (laws_szSenderS.l0 k l0 (wrap64 (a1 - (l0.length : Int))) 0)
theorem laws_szSenderS.mono_l : ∀ k, (∀ y0 y1 y2, LeO (laws_szSenderS.l0 k y0 y1 y2) (laws_szSenderS.l0 (k + 1) y0 y1 y2))
 | 0 => fun _ _ _ r h => by simp [laws_szSenderS.l0] at h
 | k + 1 => by
  have ih0 := laws_szSenderS.mono_l k
  ·intro y0 y1 y2
   unfold laws_szSenderS.l0
   exact mo_
theorem laws_szSenderS.mono : ∀ a0 a1 k, LeO (laws_szSenderS.f k a0 a1) (laws_szSenderS.f (k + 1) a0 a1) := by
 intro a0 a1 k
 have ih0 := laws_szSenderS.mono_l k
 unfold laws_szSenderS.f
 exact mo_
theorem laws_szSenderS.calls (k : Nat) (A0 : Option Addr) (c0 : Nat) (l0 : List (S88)) (a1 : Int) (r : Int) (w : World) (hr0 : Kd.C k88 w A0 l0.length l0) (hc0 : l0.length ≤ c0) (h : laws_szSenderS.f k l0 a1 = some r) :
 Calls Tryz.prog 11 #[.slice A0 l0.length c0, .int .i64 a1] w fun e w' => e = .returned (.int .i64 r) ∧ Below w.heap.size w w' := by
 have hu88 := Tryz.underlying88
 have HR0 := Aside0.mk hr0
 have HC0 := Aside0.mk hc0
 clear hr0 hc0
 have HB := Aside0.mk (Below.refl w.heap.size w)
 have H := h
 unfold laws_szSenderS.f at H
 clear h
 by_cases c3 : (wrap64 (a1 - (l0.length : Int))) < 0
 ·rw [if_pos c3] at H
  have c3b0 := decide_eq_true c3
  clear c3
  obtain rfl := Option.some.inj H
  go_enter Tryz.func11, Tryz.ntmps11
  go_wp2
  go_ret
  exact ⟨er_, bl_⟩
 rw [if_neg c3] at H
 have c3b0 := decide_eq_false c3
 clear c3
 have H' := Aside0.mk H
 clear H
 go_enter Tryz.func11, Tryz.ntmps11
 go_wp2
 go_loopg [1, 5] k (fun kq v1 v5 w' => ∃ (x1_1 : Int) (x5_1 : Int), v1 = .int .i64 x1_1 ∧ v5 = .int .i64 x5_1 ∧ Aside0 (laws_szSenderS.l0 kq l0 x1_1 x5_1 = some r) ∧ Aside0 (kq ≤ k) ∧ Aside0 (Below w.heap.size w w'))
 case atStart => exact ⟨(wrap64 (a1 - (l0.length : Int))), (0), (sr_), (sr_), H', ⟨Nat.le_refl _⟩, ⟨bl_⟩⟩
 clear H'
 try clear c3
 try clear c3b0
 obtain ⟨x1_1, x5_1, rfl, rfl, HA, HK1, HB⟩ := hrel
 cases gk with
 | zero => exact absurd HA.out (by simp [laws_szSenderS.l0])
 | succ k1 => ?_
 have H := HA.out
 clear HA
 simp only [laws_szSenderS.l0] at H
 by_cases c4 : x5_1 < (l0.length : Int)
 rotate_left
 ·rw [if_neg c4] at H
  have c4b0 := decide_eq_false c4
  clear c4
  obtain rfl := Option.some.inj H
  go_wp2
  go_ret
  exact ⟨er_, bl_⟩
 rw [if_pos c4] at H
 have c4b0 := decide_eq_true c4
 clear c4
 by_cases c5 : 0 ≤ x5_1
 rotate_left
 ·exact nn_ c5 H
 rw [if_pos c5] at H
 have c5b0 := decide_eq_true c5
 clear c5
 replace H := bs_ H
 obtain ⟨t112, A6, H⟩ := H
 try dsimp only at H
 by_cases c7 : t112 < 0
 ·rw [if_pos c7] at H
  have c7b0 := decide_eq_true c7
  clear c7
  obtain rfl := Option.some.inj H
  have p111 : 0 ≤ (x5_1 : Int) := of_decide_eq_true as_
  have q111 : x5_1 < (l0.length : Int) := of_decide_eq_true as_
  obtain ⟨ad111, A111_2, c111_2, e111, hx111_0, hx111_1, hx111_2, hx111_3, hx111_4, hl111_2, hi111_2⟩ := at_T88 HR0.out x5_1 p111 q111
  cases e111
  replace hx111_0 := (HB.out.cell (World.block_lt_of_cell? w _ hx111_0)).trans hx111_0
  replace hx111_1 := (HB.out.cell (World.block_lt_of_cell? w _ hx111_1)).trans hx111_1
  replace hx111_2 := (HB.out.cell (World.block_lt_of_cell? w _ hx111_2)).trans hx111_2
  replace hx111_3 := (HB.out.cell (World.block_lt_of_cell? w _ hx111_3)).trans hx111_3
  replace hx111_4 := (HB.out.cell (World.block_lt_of_cell? w _ hx111_4)).trans hx111_4
  have HR111_2 := Aside0.mk hi111_2
  have HC111_2 := Aside0.mk hl111_2
  clear hi111_2 hl111_2
  replace p111 := eq_true p111
  replace q111 := eq_true q111
  go_wp2_with (first | ((with_reducible refine gate_callee (f := 40) rfl ?_); refine gs_ (some 23) Tryz.func40 #[.agg #[.int .i64 ((rd_T88 l0 x5_1).f0), .int .i64 ((rd_T88 l0 x5_1).f1), .slice A111_2 ((rd_T88 l0 x5_1).f2).length c111_2, .int .i64 ((rd_T88 l0 x5_1).f3), .int .i64 ((rd_T88 l0 x5_1).f4)], .int .i64 x1_1] ?_; (with_reducible refine (laws_szSender.calls ((rd_T88 l0 x5_1).f0) ((rd_T88 l0 x5_1).f1) _ _ ((rd_T88 l0 x5_1).f2) ((rd_T88 l0 x5_1).f3) ((rd_T88 l0 x5_1).f4) x1_1 t112 _ ?side1 ?side2 A6.out).mono ?_); (case side1 => exact cb_ HR111_2.out HB.out); (case side2 => exact HC111_2.out); rintro e w8 ⟨rfl, hb⟩; refine ⟨_, rfl, ?_⟩; replace HB := Aside0.mk (below_step bl_ hb); (try clear hb)))
  go_ret
  exact ⟨er_, bl_⟩
 rw [if_neg c7] at H
 have c7b0 := decide_eq_false c7
 clear c7
 have H' := Aside0.mk H
 clear H
 have p111 : 0 ≤ (x5_1 : Int) := of_decide_eq_true as_
 have q111 : x5_1 < (l0.length : Int) := of_decide_eq_true as_
 obtain ⟨ad111, A111_2, c111_2, e111, hx111_0, hx111_1, hx111_2, hx111_3, hx111_4, hl111_2, hi111_2⟩ := at_T88 HR0.out x5_1 p111 q111
 cases e111
 replace hx111_0 := (HB.out.cell (World.block_lt_of_cell? w _ hx111_0)).trans hx111_0
 replace hx111_1 := (HB.out.cell (World.block_lt_of_cell? w _ hx111_1)).trans hx111_1
 replace hx111_2 := (HB.out.cell (World.block_lt_of_cell? w _ hx111_2)).trans hx111_2
 replace hx111_3 := (HB.out.cell (World.block_lt_of_cell? w _ hx111_3)).trans hx111_3
 replace hx111_4 := (HB.out.cell (World.block_lt_of_cell? w _ hx111_4)).trans hx111_4
 have HR111_2 := Aside0.mk hi111_2
 have HC111_2 := Aside0.mk hl111_2
 clear hi111_2 hl111_2
 replace p111 := eq_true p111
 replace q111 := eq_true q111
 go_wp2_with (first | ((with_reducible refine gate_callee (f := 40) rfl ?_); refine gs_ (some 23) Tryz.func40 #[.agg #[.int .i64 ((rd_T88 l0 x5_1).f0), .int .i64 ((rd_T88 l0 x5_1).f1), .slice A111_2 ((rd_T88 l0 x5_1).f2).length c111_2, .int .i64 ((rd_T88 l0 x5_1).f3), .int .i64 ((rd_T88 l0 x5_1).f4)], .int .i64 x1_1] ?_; (with_reducible refine (laws_szSender.calls ((rd_T88 l0 x5_1).f0) ((rd_T88 l0 x5_1).f1) _ _ ((rd_T88 l0 x5_1).f2) ((rd_T88 l0 x5_1).f3) ((rd_T88 l0 x5_1).f4) x1_1 t112 _ ?side1 ?side2 A6.out).mono ?_); (case side1 => exact cb_ HR111_2.out HB.out); (case side2 => exact HC111_2.out); rintro e w9 ⟨rfl, hb⟩; refine ⟨_, rfl, ?_⟩; replace HB := Aside0.mk (below_step bl_ hb); (try clear hb)))
 go_roundg k1
 case measure => have := HK1.out; omega
 case rel => exact ⟨(t112), (wrap64 (x5_1 + 1)), (sr_), (sr_), H', ⟨by have := HK1.out; omega⟩, ⟨bl_⟩⟩


def laws_szIntS.f (l0 : List Int) (a1 : Int) : Option (Int) := if (wrap64 (a1 - (l0.length : Int))) < 0 then (some (-1)) else (some (wrap64 (a1 - (l0.length : Int))))
theorem laws_szIntS.calls (A0 : Option Addr) (c0 : Nat) (l0 : List Int) (a1 : Int) (r : Int) (w : World) (hr0 : Kd.C (Kd.int .i64) w A0 l0.length l0) (hc0 : l0.length ≤ c0) (h : laws_szIntS.f l0 a1 = some r) :
 Calls Tryz.prog 14 #[.slice A0 l0.length c0, .int .i64 a1] w fun e w' => e = .returned (.int .i64 r) ∧ Drawn0 w w' := by
 have HR0 := Aside0.mk hr0
 have HC0 := Aside0.mk hc0
 clear hr0 hc0
 have H := h
 unfold laws_szIntS.f at H
 clear h
 by_cases c3 : (wrap64 (a1 - (l0.length : Int))) < 0
 rw [if_pos c3] at H
 have c3b0 := decide_eq_true c3
 clear c3
 obtain rfl := Option.some.inj H
 rotate_left
 rw [if_neg c3] at H
 have c3b0 := decide_eq_false c3
 clear c3
 obtain rfl := Option.some.inj H
 rotate_left
 all_goals go_enter Tryz.func14, Tryz.ntmps14
 all_goals go_wp2
 all_goals go_ret
 all_goals exact ⟨sr_, by repeat (first | exact Drawn0.refl _ | apply Drawn0.step)⟩

def laws_szEntryS.f (l0 : List (S141)) (a1 : Int) : Option (Int) := if (wrap64 (a1 - (l0.length : Int))) < 0 then (some (-1)) else (some (wrap64 (a1 - (l0.length : Int))))
theorem laws_szEntryS.calls (A0 : Option Addr) (c0 : Nat) (l0 : List (S141)) (a1 : Int) (r : Int) (w : World) (hr0 : Kd.C k141 w A0 l0.length l0) (hc0 : l0.length ≤ c0) (h : laws_szEntryS.f l0 a1 = some r) :
 Calls Tryz.prog 41 #[.slice A0 l0.length c0, .int .i64 a1] w fun e w' => e = .returned (.int .i64 r) ∧ Drawn0 w w' := by
 have HR0 := Aside0.mk hr0
 have HC0 := Aside0.mk hc0
 clear hr0 hc0
 have H := h
 unfold laws_szEntryS.f at H
 clear h
 by_cases c3 : (wrap64 (a1 - (l0.length : Int))) < 0
 rw [if_pos c3] at H
 have c3b0 := decide_eq_true c3
 clear c3
 obtain rfl := Option.some.inj H
 rotate_left
 rw [if_neg c3] at H
 have c3b0 := decide_eq_false c3
 clear c3
 obtain rfl := Option.some.inj H
 rotate_left
 all_goals go_enter Tryz.func41, Tryz.ntmps41
 all_goals go_wp2
 all_goals go_ret
 all_goals exact ⟨sr_, by repeat (first | exact Drawn0.refl _ | apply Drawn0.step)⟩

def laws_szEarlyS.f (l0 : List (S144)) (a1 : Int) : Option (Int) := if (wrap64 (a1 - (l0.length : Int))) < 0 then (some (-1)) else (some (wrap64 (a1 - (l0.length : Int))))
theorem laws_szEarlyS.calls (A0 : Option Addr) (c0 : Nat) (l0 : List (S144)) (a1 : Int) (r : Int) (w : World) (hr0 : Kd.C k144 w A0 l0.length l0) (hc0 : l0.length ≤ c0) (h : laws_szEarlyS.f l0 a1 = some r) :
 Calls Tryz.prog 42 #[.slice A0 l0.length c0, .int .i64 a1] w fun e w' => e = .returned (.int .i64 r) ∧ Drawn0 w w' := by
 have HR0 := Aside0.mk hr0
 have HC0 := Aside0.mk hc0
 clear hr0 hc0
 have H := h
 unfold laws_szEarlyS.f at H
 clear h
 by_cases c3 : (wrap64 (a1 - (l0.length : Int))) < 0
 rw [if_pos c3] at H
 have c3b0 := decide_eq_true c3
 clear c3
 obtain rfl := Option.some.inj H
 rotate_left
 rw [if_neg c3] at H
 have c3b0 := decide_eq_false c3
 clear c3
 obtain rfl := Option.some.inj H
 rotate_left
 all_goals go_enter Tryz.func42, Tryz.ntmps42
 all_goals go_wp2
 all_goals go_ret
 all_goals exact ⟨sr_, by repeat (first | exact Drawn0.refl _ | apply Drawn0.step)⟩

def laws_szKeeper.f (l0_0 : List (S141)) (l0_1 : List Int) (l0_2 : List (S144)) (a0_3 : Int) (l0_4 : List Int) (a1 : Int) : Option (Int) := (laws_szEntryS.f l0_0 a1).bind fun t114 => (if t114 < 0 then (some (-1)) else ((laws_szIntS.f l0_1 t114).bind fun t115 => (if t115 < 0 then (some (-1)) else ((laws_szEarlyS.f l0_2 t115).bind fun t116 => (if t116 < 0 then (some (-1)) else ((laws_szIntS.f l0_4 t116).bind fun t117 => (if t117 < 0 then (some (-1)) else (some t117))))))))
theorem laws_szKeeper.calls (A0_0 : Option Addr) (c0_0 : Nat) (l0_0 : List (S141)) (A0_1 : Option Addr) (c0_1 : Nat) (l0_1 : List Int) (A0_2 : Option Addr) (c0_2 : Nat) (l0_2 : List (S144)) (a0_3 : Int) (A0_4 : Option Addr) (c0_4 : Nat) (l0_4 : List Int) (a1 : Int) (r : Int) (w : World) (hr0_0 : Kd.C k141 w A0_0 l0_0.length l0_0) (hc0_0 : l0_0.length ≤ c0_0) (hr0_1 : Kd.C (Kd.int .i64) w A0_1 l0_1.length l0_1) (hc0_1 : l0_1.length ≤ c0_1) (hr0_2 : Kd.C k144 w A0_2 l0_2.length l0_2) (hc0_2 : l0_2.length ≤ c0_2) (hr0_4 : Kd.C (Kd.int .i64) w A0_4 l0_4.length l0_4) (hc0_4 : l0_4.length ≤ c0_4) (h : laws_szKeeper.f l0_0 l0_1 l0_2 a0_3 l0_4 a1 = some r) :
 Calls Tryz.prog 12 #[.agg #[.slice A0_0 l0_0.length c0_0, .slice A0_1 l0_1.length c0_1, .slice A0_2 l0_2.length c0_2, .int .i64 a0_3, .slice A0_4 l0_4.length c0_4], .int .i64 a1] w fun e w' => e = .returned (.int .i64 r) ∧ Below w.heap.size w w' := by
 have hu29 := Tryz.underlying29
 have HR0_0 := Aside0.mk hr0_0
 have HC0_0 := Aside0.mk hc0_0
 clear hr0_0 hc0_0
 have HR0_1 := Aside0.mk hr0_1
 have HC0_1 := Aside0.mk hc0_1
 clear hr0_1 hc0_1
 have HR0_2 := Aside0.mk hr0_2
 have HC0_2 := Aside0.mk hc0_2
 clear hr0_2 hc0_2
 have HR0_4 := Aside0.mk hr0_4
 have HC0_4 := Aside0.mk hc0_4
 clear hr0_4 hc0_4
 have HB := Aside0.mk (Below.refl w.heap.size w)
 have H := h
 unfold laws_szKeeper.f at H
 clear h
 replace H := bs_ H
 obtain ⟨t114, A3, H⟩ := H
 try dsimp only at H
 by_cases c4 : t114 < 0
 rw [if_pos c4] at H
 have c4b0 := decide_eq_true c4
 clear c4
 obtain rfl := Option.some.inj H
 rotate_left
 rw [if_neg c4] at H
 have c4b0 := decide_eq_false c4
 clear c4
 replace H := bs_ H
 obtain ⟨t115, A7, H⟩ := H
 try dsimp only at H
 by_cases c8 : t115 < 0
 rw [if_pos c8] at H
 have c8b0 := decide_eq_true c8
 clear c8
 obtain rfl := Option.some.inj H
 rotate_left
 rw [if_neg c8] at H
 have c8b0 := decide_eq_false c8
 clear c8
 replace H := bs_ H
 obtain ⟨t116, A11, H⟩ := H
 try dsimp only at H
 by_cases c12 : t116 < 0
 rw [if_pos c12] at H
 have c12b0 := decide_eq_true c12
 clear c12
 obtain rfl := Option.some.inj H
 rotate_left
 rw [if_neg c12] at H
 have c12b0 := decide_eq_false c12
 clear c12
 replace H := bs_ H
 obtain ⟨t117, A15, H⟩ := H
 try dsimp only at H
 by_cases c16 : t117 < 0
 rw [if_pos c16] at H
 have c16b0 := decide_eq_true c16
 clear c16
 obtain rfl := Option.some.inj H
 rotate_left
 rw [if_neg c16] at H
 have c16b0 := decide_eq_false c16
 clear c16
 obtain rfl := Option.some.inj H
 rotate_left
 all_goals go_enter Tryz.func12, Tryz.ntmps12
 all_goals (go_wp2_with (first | ((with_reducible refine gate_dst (N := 2) rfl ?_); refine bx_ 2 29 #[.slice A0_0 l0_0.length c0_0, .slice A0_1 l0_1.length c0_1, .slice A0_2 l0_2.length c0_2, .int .i64 a0_3, .slice A0_4 l0_4.length c0_4] ?_; intro gb113 hg w17 hbox hb; have BK113 := Aside0.mk (hbox); have GW113 := Aside0.mk ((hz_ : w.heap.size ≤ gb113)); have GE113 := Aside0.mk ((hz_ : w.heap.size ≤ gb113)); replace HB := Aside0.mk (below_step bl_ hb); clear hb hbox hg; obtain ⟨hcz18_0, hcz18_1, hcz18_2, hcz18_3, hcz18_4, hfz18_0, hfz18_1, hfz18_2, hfz18_3, hfz18_4⟩ := cf5_ BK113.out) | ((with_reducible refine gate_callee (f := 41) rfl ?_); refine gs_ (some 8) Tryz.func41 #[.slice A0_0 l0_0.length c0_0, .int .i64 a1] ?_; (with_reducible refine (laws_szEntryS.calls _ _ l0_0 a1 t114 _ ?side1 ?side2 A3.out).mono ?_); (case side1 => exact cb_ HR0_0.out HB.out); (case side2 => exact HC0_0.out); rintro e w' ⟨rfl, ⟨nd, rfl⟩⟩; refine ⟨_, rfl, ?_⟩) | ((with_reducible refine gate_callee (f := 14) rfl ?_); refine gs_ (some 14) Tryz.func14 #[.slice A0_1 l0_1.length c0_1, .int .i64 t114] ?_; (with_reducible refine (laws_szIntS.calls _ _ l0_1 t114 t115 _ ?side1 ?side2 A7.out).mono ?_); (case side1 => repeat (first | exact (Kd.C_below HR0_1.out bl_) | exact HR0_1.out | (with_reducible refine Kd.C_alloc ?_ _) | (with_reducible refine Kd.C_drewN ?_ _) | (with_reducible refine Kd.C_drew ?_))); (case side2 => exact HC0_1.out); rintro e w' ⟨rfl, ⟨nd, rfl⟩⟩; refine ⟨_, rfl, ?_⟩) | ((with_reducible refine gate_callee (f := 42) rfl ?_); refine gs_ (some 20) Tryz.func42 #[.slice A0_2 l0_2.length c0_2, .int .i64 t115] ?_; (with_reducible refine (laws_szEarlyS.calls _ _ l0_2 t115 t116 _ ?side1 ?side2 A11.out).mono ?_); (case side1 => repeat (first | exact (Kd.C_below HR0_2.out bl_) | exact HR0_2.out | (with_reducible refine Kd.C_alloc ?_ _) | (with_reducible refine Kd.C_drewN ?_ _) | (with_reducible refine Kd.C_drew ?_))); (case side2 => exact HC0_2.out); rintro e w' ⟨rfl, ⟨nd, rfl⟩⟩; refine ⟨_, rfl, ?_⟩) | ((with_reducible refine gate_callee (f := 14) rfl ?_); refine gs_ (some 26) Tryz.func14 #[.slice A0_4 l0_4.length c0_4, .int .i64 t116] ?_; (with_reducible refine (laws_szIntS.calls _ _ l0_4 t116 t117 _ ?side1 ?side2 A15.out).mono ?_); (case side1 => repeat (first | exact (Kd.C_below HR0_4.out bl_) | exact HR0_4.out | (with_reducible refine Kd.C_alloc ?_ _) | (with_reducible refine Kd.C_drewN ?_ _) | (with_reducible refine Kd.C_drew ?_))); (case side2 => exact HC0_4.out); rintro e w' ⟨rfl, ⟨nd, rfl⟩⟩; refine ⟨_, rfl, ?_⟩)))
 all_goals go_ret
 all_goals exact ⟨er_, bl_⟩

def laws_szLetter.f (a0_0 : Bool) (a0_1 : ByteArray) (a0_2 : Bool) (a1 : Int) : Option (Int) := if (wrap64 (a1 - (a0_1.size : Int))) < 0 then (some (-1)) else (some (wrap64 (a1 - (a0_1.size : Int))))
theorem laws_szLetter.calls (a0_0 : Bool) (a0_1 : ByteArray) (a0_2 : Bool) (a1 : Int) (r : Int) (w : World) (h : laws_szLetter.f a0_0 a0_1 a0_2 a1 = some r) :
 Calls Tryz.prog 43 #[.agg #[.bool a0_0, .string a0_1, .bool a0_2], .int .i64 a1] w fun e w' => e = .returned (.int .i64 r) ∧ Below w.heap.size w w' := by
 have hu93 := Tryz.underlying93
 have HB := Aside0.mk (Below.refl w.heap.size w)
 have H := h
 unfold laws_szLetter.f at H
 clear h
 by_cases c3 : (wrap64 (a1 - (a0_1.size : Int))) < 0
 rw [if_pos c3] at H
 have c3b0 := decide_eq_true c3
 clear c3
 obtain rfl := Option.some.inj H
 rotate_left
 rw [if_neg c3] at H
 have c3b0 := decide_eq_false c3
 clear c3
 obtain rfl := Option.some.inj H
 rotate_left
 all_goals go_enter Tryz.func43, Tryz.ntmps43
 all_goals (go_wp2_with (first | ((with_reducible refine gate_dst (N := 2) rfl ?_); refine bx_ 2 93 #[.bool a0_0, .string a0_1, .bool a0_2] ?_; intro gb118 hg w4 hbox hb; have BK118 := Aside0.mk (hbox); have GW118 := Aside0.mk ((hz_ : w.heap.size ≤ gb118)); have GE118 := Aside0.mk ((hz_ : w.heap.size ≤ gb118)); replace HB := Aside0.mk (below_step bl_ hb); clear hb hbox hg; have hcz5_0 : w4.cell? ⟨gb118, 0, none⟩ = some (.bool a0_0) := (blk_cell BK118.out 0).trans rfl; have hcz5_1 : w4.cell? ⟨gb118, 1, none⟩ = some (.string a0_1) := (blk_cell BK118.out 1).trans rfl; have hcz5_2 : w4.cell? ⟨gb118, 2, none⟩ = some (.bool a0_2) := (blk_cell BK118.out 2).trans rfl; have hfz5_0 := blk_frozen BK118.out 0; have hfz5_1 := blk_frozen BK118.out 1; have hfz5_2 := blk_frozen BK118.out 2)))
 all_goals go_ret
 all_goals exact ⟨er_, bl_⟩

def laws_szLetterS.l0 : Nat → List (S93) → Int → Int → Option (Int)
 | 0, _, _, _ => none
 | k + 1, x0, x1, x5 => if x5 < (x0.length : Int) then (if 0 ≤ x5 then ((laws_szLetter.f ((rd_T93 x0 x5).f0) ((rd_T93 x0 x5).f1) ((rd_T93 x0 x5).f2) x1).bind fun t120 => (if t120 < 0 then (some (-1)) else (laws_szLetterS.l0 k x0 t120 (wrap64 (x5 + 1))))) else (none)) else (some x1)
def laws_szLetterS.f (k : Nat) (l0 : List (S93)) (a1 : Int) : Option (Int) := if (wrap64 (a1 - (l0.length : Int))) < 0 then (some (-1)) else (laws_szLetterS.l0 k l0 (wrap64 (a1 - (l0.length : Int))) 0)
theorem laws_szLetterS.mono_l : ∀ k, (∀ y0 y1 y2, LeO (laws_szLetterS.l0 k y0 y1 y2) (laws_szLetterS.l0 (k + 1) y0 y1 y2))
 | 0 => fun _ _ _ r h => by simp [laws_szLetterS.l0] at h
 | k + 1 => by
  have ih0 := laws_szLetterS.mono_l k
  ·intro y0 y1 y2
   unfold laws_szLetterS.l0
   exact mo_
theorem laws_szLetterS.mono : ∀ a0 a1 k, LeO (laws_szLetterS.f k a0 a1) (laws_szLetterS.f (k + 1) a0 a1) := by
 intro a0 a1 k
 have ih0 := laws_szLetterS.mono_l k
 unfold laws_szLetterS.f
 exact mo_
theorem laws_szLetterS.calls (k : Nat) (A0 : Option Addr) (c0 : Nat) (l0 : List (S93)) (a1 : Int) (r : Int) (w : World) (hr0 : Kd.C k93 w A0 l0.length l0) (hc0 : l0.length ≤ c0) (h : laws_szLetterS.f k l0 a1 = some r) :
 Calls Tryz.prog 13 #[.slice A0 l0.length c0, .int .i64 a1] w fun e w' => e = .returned (.int .i64 r) ∧ Below w.heap.size w w' := by
 have hu93 := Tryz.underlying93
 have HR0 := Aside0.mk hr0
 have HC0 := Aside0.mk hc0
 clear hr0 hc0
 have HB := Aside0.mk (Below.refl w.heap.size w)
 have H := h
 unfold laws_szLetterS.f at H
 clear h
 by_cases c3 : (wrap64 (a1 - (l0.length : Int))) < 0
 ·rw [if_pos c3] at H
  have c3b0 := decide_eq_true c3
  clear c3
  obtain rfl := Option.some.inj H
  go_enter Tryz.func13, Tryz.ntmps13
  go_wp2
  go_ret
  exact ⟨er_, bl_⟩
 rw [if_neg c3] at H
 have c3b0 := decide_eq_false c3
 clear c3
 have H' := Aside0.mk H
 clear H
 go_enter Tryz.func13, Tryz.ntmps13
 go_wp2
 go_loopg [1, 5] k (fun kq v1 v5 w' => ∃ (x1_1 : Int) (x5_1 : Int), v1 = .int .i64 x1_1 ∧ v5 = .int .i64 x5_1 ∧ Aside0 (laws_szLetterS.l0 kq l0 x1_1 x5_1 = some r) ∧ Aside0 (kq ≤ k) ∧ Aside0 (Below w.heap.size w w'))
 case atStart => exact ⟨(wrap64 (a1 - (l0.length : Int))), (0), (sr_), (sr_), H', ⟨Nat.le_refl _⟩, ⟨bl_⟩⟩
 clear H'
 try clear c3
 try clear c3b0
 obtain ⟨x1_1, x5_1, rfl, rfl, HA, HK1, HB⟩ := hrel
 cases gk with
 | zero => exact absurd HA.out (by simp [laws_szLetterS.l0])
 | succ k1 => ?_
 have H := HA.out
 clear HA
 simp only [laws_szLetterS.l0] at H
 by_cases c4 : x5_1 < (l0.length : Int)
 rotate_left
 ·rw [if_neg c4] at H
  have c4b0 := decide_eq_false c4
  clear c4
  obtain rfl := Option.some.inj H
  go_wp2
  go_ret
  exact ⟨er_, bl_⟩
 rw [if_pos c4] at H
 have c4b0 := decide_eq_true c4
 clear c4
 by_cases c5 : 0 ≤ x5_1
 rotate_left
 ·exact nn_ c5 H
 rw [if_pos c5] at H
 have c5b0 := decide_eq_true c5
 clear c5
 replace H := bs_ H
 obtain ⟨t120, A6, H⟩ := H
 try dsimp only at H
 by_cases c7 : t120 < 0
 ·rw [if_pos c7] at H
  have c7b0 := decide_eq_true c7
  clear c7
  obtain rfl := Option.some.inj H
  have p119 : 0 ≤ (x5_1 : Int) := of_decide_eq_true as_
  have q119 : x5_1 < (l0.length : Int) := of_decide_eq_true as_
  obtain ⟨ad119, e119, hx119_0, hx119_1, hx119_2⟩ := at_T93 HR0.out x5_1 p119 q119
  cases e119
  replace hx119_0 := (HB.out.cell (World.block_lt_of_cell? w _ hx119_0)).trans hx119_0
  replace hx119_1 := (HB.out.cell (World.block_lt_of_cell? w _ hx119_1)).trans hx119_1
  replace hx119_2 := (HB.out.cell (World.block_lt_of_cell? w _ hx119_2)).trans hx119_2
  replace p119 := eq_true p119
  replace q119 := eq_true q119
  go_wp2_with (first | ((with_reducible refine gate_callee (f := 43) rfl ?_); refine gs_ (some 23) Tryz.func43 #[.agg #[.bool ((rd_T93 l0 x5_1).f0), .string ((rd_T93 l0 x5_1).f1), .bool ((rd_T93 l0 x5_1).f2)], .int .i64 x1_1] ?_; (with_reducible refine (laws_szLetter.calls ((rd_T93 l0 x5_1).f0) ((rd_T93 l0 x5_1).f1) ((rd_T93 l0 x5_1).f2) x1_1 t120 _ A6.out).mono ?_); rintro e w8 ⟨rfl, hb⟩; refine ⟨_, rfl, ?_⟩; replace HB := Aside0.mk (below_step bl_ hb); (try clear hb)))
  go_ret
  exact ⟨er_, bl_⟩
 rw [if_neg c7] at H
 have c7b0 := decide_eq_false c7
 clear c7
 have H' := Aside0.mk H
 clear H
 have p119 : 0 ≤ (x5_1 : Int) := of_decide_eq_true as_
 have q119 : x5_1 < (l0.length : Int) := of_decide_eq_true as_
 obtain ⟨ad119, e119, hx119_0, hx119_1, hx119_2⟩ := at_T93 HR0.out x5_1 p119 q119
 cases e119
 replace hx119_0 := (HB.out.cell (World.block_lt_of_cell? w _ hx119_0)).trans hx119_0
 replace hx119_1 := (HB.out.cell (World.block_lt_of_cell? w _ hx119_1)).trans hx119_1
 replace hx119_2 := (HB.out.cell (World.block_lt_of_cell? w _ hx119_2)).trans hx119_2
 replace p119 := eq_true p119
 replace q119 := eq_true q119
 go_wp2_with (first | ((with_reducible refine gate_callee (f := 43) rfl ?_); refine gs_ (some 23) Tryz.func43 #[.agg #[.bool ((rd_T93 l0 x5_1).f0), .string ((rd_T93 l0 x5_1).f1), .bool ((rd_T93 l0 x5_1).f2)], .int .i64 x1_1] ?_; (with_reducible refine (laws_szLetter.calls ((rd_T93 l0 x5_1).f0) ((rd_T93 l0 x5_1).f1) ((rd_T93 l0 x5_1).f2) x1_1 t120 _ A6.out).mono ?_); rintro e w9 ⟨rfl, hb⟩; refine ⟨_, rfl, ?_⟩; replace HB := Aside0.mk (below_step bl_ hb); (try clear hb)))
 go_roundg k1
 case measure => have := HK1.out; omega
 case rel => exact ⟨(t120), (wrap64 (x5_1 + 1)), (sr_), (sr_), H', ⟨by have := HK1.out; omega⟩, ⟨bl_⟩⟩


def laws_szSeenS.f (l0 : List (S113)) (a1 : Int) : Option (Int) := if (wrap64 (a1 - (l0.length : Int))) < 0 then (some (-1)) else (some (wrap64 (a1 - (l0.length : Int))))
theorem laws_szSeenS.calls (A0 : Option Addr) (c0 : Nat) (l0 : List (S113)) (a1 : Int) (r : Int) (w : World) (hr0 : Kd.C k113 w A0 l0.length l0) (hc0 : l0.length ≤ c0) (h : laws_szSeenS.f l0 a1 = some r) :
 Calls Tryz.prog 15 #[.slice A0 l0.length c0, .int .i64 a1] w fun e w' => e = .returned (.int .i64 r) ∧ Drawn0 w w' := by
 have HR0 := Aside0.mk hr0
 have HC0 := Aside0.mk hc0
 clear hr0 hc0
 have H := h
 unfold laws_szSeenS.f at H
 clear h
 by_cases c3 : (wrap64 (a1 - (l0.length : Int))) < 0
 rw [if_pos c3] at H
 have c3b0 := decide_eq_true c3
 clear c3
 obtain rfl := Option.some.inj H
 rotate_left
 rw [if_neg c3] at H
 have c3b0 := decide_eq_false c3
 clear c3
 obtain rfl := Option.some.inj H
 rotate_left
 all_goals go_enter Tryz.func15, Tryz.ntmps15
 all_goals go_wp2
 all_goals go_ret
 all_goals exact ⟨sr_, by repeat (first | exact Drawn0.refl _ | apply Drawn0.step)⟩

def laws_szWorld.f (k : Nat) (l0_0 : List (List (List (S156)))) (l0_1 : List (S85)) (l0_2 : List (S88)) (l0_3 : List (S141)) (l0_4 : List Int) (l0_5 : List (S144)) (a0_6 : Int) (l0_7 : List Int) (l0_8 : List (S93)) (a0_9 : Int) (l0_10 : List Int) (l0_11 : List (S113)) (a1 : Int) : Option (Int) := (laws_szInsSSS.f k l0_0 a1).bind fun t122 => (if t122 < 0 then (some (-1)) else ((laws_szRingS.f k l0_1 t122).bind fun t123 => (if t123 < 0 then (some (-1)) else ((laws_szSenderS.f k l0_2 t123).bind fun t124 => (if t124 < 0 then (some (-1)) else ((laws_szKeeper.f l0_3 l0_4 l0_5 a0_6 l0_7 t124).bind fun t125 => (if t125 < 0 then (some (-1)) else ((laws_szLetterS.f k l0_8 t125).bind fun t126 => (if t126 < 0 then (some (-1)) else ((laws_szIntS.f l0_10 t126).bind fun t127 => (if t127 < 0 then (some (-1)) else ((laws_szSeenS.f l0_11 t127).bind fun t128 => (if t128 < 0 then (some (-1)) else (some t128))))))))))))))
theorem laws_szWorld.mono : ∀ a0 a1 a2 a3 a4 a5 a6 a7 a8 a9 a10 a11 a12 k, LeO (laws_szWorld.f k a0 a1 a2 a3 a4 a5 a6 a7 a8 a9 a10 a11 a12) (laws_szWorld.f (k + 1) a0 a1 a2 a3 a4 a5 a6 a7 a8 a9 a10 a11 a12) := by
 intro a0 a1 a2 a3 a4 a5 a6 a7 a8 a9 a10 a11 a12 k
 unfold laws_szWorld.f
 have m0 := @laws_szInsSSS.mono
 have m1 := @laws_szLetterS.mono
 have m2 := @laws_szRingS.mono
 have m3 := @laws_szSenderS.mono
 exact mo_
theorem laws_szWorld.calls (k : Nat) (A0_0 : Option Addr) (c0_0 : Nat) (l0_0 : List (List (List (S156)))) (A0_1 : Option Addr) (c0_1 : Nat) (l0_1 : List (S85)) (A0_2 : Option Addr) (c0_2 : Nat) (l0_2 : List (S88)) (A0_3 : Option Addr) (c0_3 : Nat) (l0_3 : List (S141)) (A0_4 : Option Addr) (c0_4 : Nat) (l0_4 : List Int) (A0_5 : Option Addr) (c0_5 : Nat) (l0_5 : List (S144)) (a0_6 : Int) (A0_7 : Option Addr) (c0_7 : Nat) (l0_7 : List Int) (A0_8 : Option Addr) (c0_8 : Nat) (l0_8 : List (S93)) (a0_9 : Int) (A0_10 : Option Addr) (c0_10 : Nat) (l0_10 : List Int) (A0_11 : Option Addr) (c0_11 : Nat) (l0_11 : List (S113)) (a1 : Int) (r : Int) (w : World) (hr0_0 : Kd.C (Kd.slice 124 (Kd.slice 156 k156)) w A0_0 l0_0.length l0_0) (hc0_0 : l0_0.length ≤ c0_0) (hr0_1 : Kd.C k85 w A0_1 l0_1.length l0_1) (hc0_1 : l0_1.length ≤ c0_1) (hr0_2 : Kd.C k88 w A0_2 l0_2.length l0_2) (hc0_2 : l0_2.length ≤ c0_2) (hr0_3 : Kd.C k141 w A0_3 l0_3.length l0_3) (hc0_3 : l0_3.length ≤ c0_3) (hr0_4 : Kd.C (Kd.int .i64) w A0_4 l0_4.length l0_4) (hc0_4 : l0_4.length ≤ c0_4) (hr0_5 : Kd.C k144 w A0_5 l0_5.length l0_5) (hc0_5 : l0_5.length ≤ c0_5) (hr0_7 : Kd.C (Kd.int .i64) w A0_7 l0_7.length l0_7) (hc0_7 : l0_7.length ≤ c0_7) (hr0_8 : Kd.C k93 w A0_8 l0_8.length l0_8) (hc0_8 : l0_8.length ≤ c0_8) (hr0_10 : Kd.C (Kd.int .i64) w A0_10 l0_10.length l0_10) (hc0_10 : l0_10.length ≤ c0_10) (hr0_11 : Kd.C k113 w A0_11 l0_11.length l0_11) (hc0_11 : l0_11.length ≤ c0_11) (h : laws_szWorld.f k l0_0 l0_1 l0_2 l0_3 l0_4 l0_5 a0_6 l0_7 l0_8 a0_9 l0_10 l0_11 a1 = some r) :
 Calls Tryz.prog 4 #[.agg #[.slice A0_0 l0_0.length c0_0, .slice A0_1 l0_1.length c0_1, .slice A0_2 l0_2.length c0_2, .slice A0_3 l0_3.length c0_3, .slice A0_4 l0_4.length c0_4, .slice A0_5 l0_5.length c0_5, .int .i64 a0_6, .slice A0_7 l0_7.length c0_7, .slice A0_8 l0_8.length c0_8, .int .i64 a0_9, .slice A0_10 l0_10.length c0_10, .slice A0_11 l0_11.length c0_11], .int .i64 a1] w fun e w' => e = .returned (.int .i64 r) ∧ Below w.heap.size w w' := by
 have hu33 := Tryz.underlying33
 have hu29 := Tryz.underlying29
 have HR0_0 := Aside0.mk hr0_0
 have HC0_0 := Aside0.mk hc0_0
 clear hr0_0 hc0_0
 have HR0_1 := Aside0.mk hr0_1
 have HC0_1 := Aside0.mk hc0_1
 clear hr0_1 hc0_1
 have HR0_2 := Aside0.mk hr0_2
 have HC0_2 := Aside0.mk hc0_2
 clear hr0_2 hc0_2
 have HR0_3 := Aside0.mk hr0_3
 have HC0_3 := Aside0.mk hc0_3
 clear hr0_3 hc0_3
 have HR0_4 := Aside0.mk hr0_4
 have HC0_4 := Aside0.mk hc0_4
 clear hr0_4 hc0_4
 have HR0_5 := Aside0.mk hr0_5
 have HC0_5 := Aside0.mk hc0_5
 clear hr0_5 hc0_5
 have HR0_7 := Aside0.mk hr0_7
 have HC0_7 := Aside0.mk hc0_7
 clear hr0_7 hc0_7
 have HR0_8 := Aside0.mk hr0_8
 have HC0_8 := Aside0.mk hc0_8
 clear hr0_8 hc0_8
 have HR0_10 := Aside0.mk hr0_10
 have HC0_10 := Aside0.mk hc0_10
 clear hr0_10 hc0_10
 have HR0_11 := Aside0.mk hr0_11
 have HC0_11 := Aside0.mk hc0_11
 clear hr0_11 hc0_11
 have HB := Aside0.mk (Below.refl w.heap.size w)
 have H := h
 unfold laws_szWorld.f at H
 clear h
 replace H := bs_ H
 obtain ⟨t122, A3, H⟩ := H
 try dsimp only at H
 by_cases c4 : t122 < 0
 rw [if_pos c4] at H
 have c4b0 := decide_eq_true c4
 clear c4
 obtain rfl := Option.some.inj H
 rotate_left
 rw [if_neg c4] at H
 have c4b0 := decide_eq_false c4
 clear c4
 replace H := bs_ H
 obtain ⟨t123, A7, H⟩ := H
 try dsimp only at H
 by_cases c8 : t123 < 0
 rw [if_pos c8] at H
 have c8b0 := decide_eq_true c8
 clear c8
 obtain rfl := Option.some.inj H
 rotate_left
 rw [if_neg c8] at H
 have c8b0 := decide_eq_false c8
 clear c8
 replace H := bs_ H
 obtain ⟨t124, A12, H⟩ := H
 try dsimp only at H
 by_cases c13 : t124 < 0
 rw [if_pos c13] at H
 have c13b0 := decide_eq_true c13
 clear c13
 obtain rfl := Option.some.inj H
 rotate_left
 rw [if_neg c13] at H
 have c13b0 := decide_eq_false c13
 clear c13
 replace H := bs_ H
 obtain ⟨t125, A19, H⟩ := H
 try dsimp only at H
 by_cases c20 : t125 < 0
 rw [if_pos c20] at H
 have c20b0 := decide_eq_true c20
 clear c20
 obtain rfl := Option.some.inj H
 rotate_left
 rw [if_neg c20] at H
 have c20b0 := decide_eq_false c20
 clear c20
 replace H := bs_ H
 obtain ⟨t126, A28, H⟩ := H
 try dsimp only at H
 by_cases c29 : t126 < 0
 rw [if_pos c29] at H
 have c29b0 := decide_eq_true c29
 clear c29
 obtain rfl := Option.some.inj H
 rotate_left
 rw [if_neg c29] at H
 have c29b0 := decide_eq_false c29
 clear c29
 replace H := bs_ H
 obtain ⟨t127, A39, H⟩ := H
 try dsimp only at H
 by_cases c40 : t127 < 0
 rw [if_pos c40] at H
 have c40b0 := decide_eq_true c40
 clear c40
 obtain rfl := Option.some.inj H
 rotate_left
 rw [if_neg c40] at H
 have c40b0 := decide_eq_false c40
 clear c40
 replace H := bs_ H
 obtain ⟨t128, A51, H⟩ := H
 try dsimp only at H
 by_cases c52 : t128 < 0
 rw [if_pos c52] at H
 have c52b0 := decide_eq_true c52
 clear c52
 obtain rfl := Option.some.inj H
 rotate_left
 rw [if_neg c52] at H
 have c52b0 := decide_eq_false c52
 clear c52
 obtain rfl := Option.some.inj H
 rotate_left
 all_goals go_enter Tryz.func4, Tryz.ntmps4
 all_goals (go_wp2_with (first | ((with_reducible refine gate_dst (N := 2) rfl ?_); refine bx_ 2 33 #[.slice A0_0 l0_0.length c0_0, .slice A0_1 l0_1.length c0_1, .slice A0_2 l0_2.length c0_2, .slice A0_3 l0_3.length c0_3, .slice A0_4 l0_4.length c0_4, .slice A0_5 l0_5.length c0_5, .int .i64 a0_6, .slice A0_7 l0_7.length c0_7, .slice A0_8 l0_8.length c0_8, .int .i64 a0_9, .slice A0_10 l0_10.length c0_10, .slice A0_11 l0_11.length c0_11] ?_; intro gb121 hg w53 hbox hb; have BK121 := Aside0.mk (hbox); have GW121 := Aside0.mk ((hz_ : w.heap.size ≤ gb121)); have GE121 := Aside0.mk ((hz_ : w.heap.size ≤ gb121)); replace HB := Aside0.mk (below_step bl_ hb); clear hb hbox hg; have hcz54_0 : w53.cell? ⟨gb121, 0, none⟩ = some (.slice A0_0 l0_0.length c0_0) := (blk_cell BK121.out 0).trans rfl; have hcz54_1 : w53.cell? ⟨gb121, 1, none⟩ = some (.slice A0_1 l0_1.length c0_1) := (blk_cell BK121.out 1).trans rfl; have hcz54_2 : w53.cell? ⟨gb121, 2, none⟩ = some (.slice A0_2 l0_2.length c0_2) := (blk_cell BK121.out 2).trans rfl; have hcz54_3 : w53.cell? ⟨gb121, 3, none⟩ = some (.slice A0_3 l0_3.length c0_3) := (blk_cell BK121.out 3).trans rfl; have hcz54_4 : w53.cell? ⟨gb121, 4, none⟩ = some (.slice A0_4 l0_4.length c0_4) := (blk_cell BK121.out 4).trans rfl; have hcz54_5 : w53.cell? ⟨gb121, 5, none⟩ = some (.slice A0_5 l0_5.length c0_5) := (blk_cell BK121.out 5).trans rfl; have hcz54_6 : w53.cell? ⟨gb121, 6, none⟩ = some (.int .i64 a0_6) := (blk_cell BK121.out 6).trans rfl; have hcz54_7 : w53.cell? ⟨gb121, 7, none⟩ = some (.slice A0_7 l0_7.length c0_7) := (blk_cell BK121.out 7).trans rfl; have hcz54_8 : w53.cell? ⟨gb121, 8, none⟩ = some (.slice A0_8 l0_8.length c0_8) := (blk_cell BK121.out 8).trans rfl; have hcz54_9 : w53.cell? ⟨gb121, 9, none⟩ = some (.int .i64 a0_9) := (blk_cell BK121.out 9).trans rfl; have hcz54_10 : w53.cell? ⟨gb121, 10, none⟩ = some (.slice A0_10 l0_10.length c0_10) := (blk_cell BK121.out 10).trans rfl; have hcz54_11 : w53.cell? ⟨gb121, 11, none⟩ = some (.slice A0_11 l0_11.length c0_11) := (blk_cell BK121.out 11).trans rfl; have hfz54_0 := blk_frozen BK121.out 0; have hfz54_1 := blk_frozen BK121.out 1; have hfz54_2 := blk_frozen BK121.out 2; have hfz54_3 := blk_frozen BK121.out 3; have hfz54_4 := blk_frozen BK121.out 4; have hfz54_5 := blk_frozen BK121.out 5; have hfz54_6 := blk_frozen BK121.out 6; have hfz54_7 := blk_frozen BK121.out 7; have hfz54_8 := blk_frozen BK121.out 8; have hfz54_9 := blk_frozen BK121.out 9; have hfz54_10 := blk_frozen BK121.out 10; have hfz54_11 := blk_frozen BK121.out 11) | ((with_reducible refine gate_callee (f := 9) rfl ?_); refine gs_ (some 8) Tryz.func9 #[.slice A0_0 l0_0.length c0_0, .int .i64 a1] ?_; (with_reducible refine (laws_szInsSSS.calls k _ _ l0_0 a1 t122 _ ?side1 ?side2 A3.out).mono ?_); (case side1 => exact cb_ HR0_0.out HB.out); (case side2 => exact HC0_0.out); rintro e w' ⟨rfl, ⟨nd, rfl⟩⟩; refine ⟨_, rfl, ?_⟩) | ((with_reducible refine gate_callee (f := 10) rfl ?_); refine gs_ (some 14) Tryz.func10 #[.slice A0_1 l0_1.length c0_1, .int .i64 t122] ?_; (with_reducible refine (laws_szRingS.calls k _ _ l0_1 t122 t123 _ ?side1 ?side2 A7.out).mono ?_); (case side1 => repeat (first | exact (Kd.C_below HR0_1.out bl_) | exact HR0_1.out | (with_reducible refine Kd.C_alloc ?_ _) | (with_reducible refine Kd.C_drewN ?_ _) | (with_reducible refine Kd.C_drew ?_))); (case side2 => exact HC0_1.out); rintro e w55 ⟨rfl, hb⟩; refine ⟨_, rfl, ?_⟩; replace BK121 := Aside0.mk (blk_below (bn0_ BK121.out) hb); replace HB := Aside0.mk (below_step bl_ hb); (try clear hb); have hcz56_0 : w55.cell? ⟨gb121, 0, none⟩ = some (.slice A0_0 l0_0.length c0_0) := (blk_cell BK121.out 0).trans rfl; have hcz56_1 : w55.cell? ⟨gb121, 1, none⟩ = some (.slice A0_1 l0_1.length c0_1) := (blk_cell BK121.out 1).trans rfl; have hcz56_2 : w55.cell? ⟨gb121, 2, none⟩ = some (.slice A0_2 l0_2.length c0_2) := (blk_cell BK121.out 2).trans rfl; have hcz56_3 : w55.cell? ⟨gb121, 3, none⟩ = some (.slice A0_3 l0_3.length c0_3) := (blk_cell BK121.out 3).trans rfl; have hcz56_4 : w55.cell? ⟨gb121, 4, none⟩ = some (.slice A0_4 l0_4.length c0_4) := (blk_cell BK121.out 4).trans rfl; have hcz56_5 : w55.cell? ⟨gb121, 5, none⟩ = some (.slice A0_5 l0_5.length c0_5) := (blk_cell BK121.out 5).trans rfl; have hcz56_6 : w55.cell? ⟨gb121, 6, none⟩ = some (.int .i64 a0_6) := (blk_cell BK121.out 6).trans rfl; have hcz56_7 : w55.cell? ⟨gb121, 7, none⟩ = some (.slice A0_7 l0_7.length c0_7) := (blk_cell BK121.out 7).trans rfl; have hcz56_8 : w55.cell? ⟨gb121, 8, none⟩ = some (.slice A0_8 l0_8.length c0_8) := (blk_cell BK121.out 8).trans rfl; have hcz56_9 : w55.cell? ⟨gb121, 9, none⟩ = some (.int .i64 a0_9) := (blk_cell BK121.out 9).trans rfl; have hcz56_10 : w55.cell? ⟨gb121, 10, none⟩ = some (.slice A0_10 l0_10.length c0_10) := (blk_cell BK121.out 10).trans rfl; have hcz56_11 : w55.cell? ⟨gb121, 11, none⟩ = some (.slice A0_11 l0_11.length c0_11) := (blk_cell BK121.out 11).trans rfl; have hfz56_0 := blk_frozen BK121.out 0; have hfz56_1 := blk_frozen BK121.out 1; have hfz56_2 := blk_frozen BK121.out 2; have hfz56_3 := blk_frozen BK121.out 3; have hfz56_4 := blk_frozen BK121.out 4; have hfz56_5 := blk_frozen BK121.out 5; have hfz56_6 := blk_frozen BK121.out 6; have hfz56_7 := blk_frozen BK121.out 7; have hfz56_8 := blk_frozen BK121.out 8; have hfz56_9 := blk_frozen BK121.out 9; have hfz56_10 := blk_frozen BK121.out 10; have hfz56_11 := blk_frozen BK121.out 11) | ((with_reducible refine gate_callee (f := 11) rfl ?_); refine gs_ (some 20) Tryz.func11 #[.slice A0_2 l0_2.length c0_2, .int .i64 t123] ?_; (with_reducible refine (laws_szSenderS.calls k _ _ l0_2 t123 t124 _ ?side1 ?side2 A12.out).mono ?_); (case side1 => exact cb_ HR0_2.out HB.out); (case side2 => exact HC0_2.out); rintro e w57 ⟨rfl, hb⟩; refine ⟨_, rfl, ?_⟩; replace BK121 := Aside0.mk (blk_below (bn0_ BK121.out) hb); replace HB := Aside0.mk (below_step bl_ hb); (try clear hb); have hcz58_0 : w57.cell? ⟨gb121, 0, none⟩ = some (.slice A0_0 l0_0.length c0_0) := (blk_cell BK121.out 0).trans rfl; have hcz58_1 : w57.cell? ⟨gb121, 1, none⟩ = some (.slice A0_1 l0_1.length c0_1) := (blk_cell BK121.out 1).trans rfl; have hcz58_2 : w57.cell? ⟨gb121, 2, none⟩ = some (.slice A0_2 l0_2.length c0_2) := (blk_cell BK121.out 2).trans rfl; have hcz58_3 : w57.cell? ⟨gb121, 3, none⟩ = some (.slice A0_3 l0_3.length c0_3) := (blk_cell BK121.out 3).trans rfl; have hcz58_4 : w57.cell? ⟨gb121, 4, none⟩ = some (.slice A0_4 l0_4.length c0_4) := (blk_cell BK121.out 4).trans rfl; have hcz58_5 : w57.cell? ⟨gb121, 5, none⟩ = some (.slice A0_5 l0_5.length c0_5) := (blk_cell BK121.out 5).trans rfl; have hcz58_6 : w57.cell? ⟨gb121, 6, none⟩ = some (.int .i64 a0_6) := (blk_cell BK121.out 6).trans rfl; have hcz58_7 : w57.cell? ⟨gb121, 7, none⟩ = some (.slice A0_7 l0_7.length c0_7) := (blk_cell BK121.out 7).trans rfl; have hcz58_8 : w57.cell? ⟨gb121, 8, none⟩ = some (.slice A0_8 l0_8.length c0_8) := (blk_cell BK121.out 8).trans rfl; have hcz58_9 : w57.cell? ⟨gb121, 9, none⟩ = some (.int .i64 a0_9) := (blk_cell BK121.out 9).trans rfl; have hcz58_10 : w57.cell? ⟨gb121, 10, none⟩ = some (.slice A0_10 l0_10.length c0_10) := (blk_cell BK121.out 10).trans rfl; have hcz58_11 : w57.cell? ⟨gb121, 11, none⟩ = some (.slice A0_11 l0_11.length c0_11) := (blk_cell BK121.out 11).trans rfl; have hfz58_0 := blk_frozen BK121.out 0; have hfz58_1 := blk_frozen BK121.out 1; have hfz58_2 := blk_frozen BK121.out 2; have hfz58_3 := blk_frozen BK121.out 3; have hfz58_4 := blk_frozen BK121.out 4; have hfz58_5 := blk_frozen BK121.out 5; have hfz58_6 := blk_frozen BK121.out 6; have hfz58_7 := blk_frozen BK121.out 7; have hfz58_8 := blk_frozen BK121.out 8; have hfz58_9 := blk_frozen BK121.out 9; have hfz58_10 := blk_frozen BK121.out 10; have hfz58_11 := blk_frozen BK121.out 11) | ((with_reducible refine gate_callee (f := 12) rfl ?_); refine gs_ (some 26) Tryz.func12 #[.agg #[.slice A0_3 l0_3.length c0_3, .slice A0_4 l0_4.length c0_4, .slice A0_5 l0_5.length c0_5, .int .i64 a0_6, .slice A0_7 l0_7.length c0_7], .int .i64 t124] ?_; (with_reducible refine (laws_szKeeper.calls _ _ l0_3 _ _ l0_4 _ _ l0_5 a0_6 _ _ l0_7 t124 t125 _ ?side1 ?side2 ?side3 ?side4 ?side5 ?side6 ?side7 ?side8 A19.out).mono ?_); (case side1 => exact cb_ HR0_3.out HB.out); (case side2 => exact HC0_3.out); (case side3 => exact cb_ HR0_4.out HB.out); (case side4 => exact HC0_4.out); (case side5 => exact cb_ HR0_5.out HB.out); (case side6 => exact HC0_5.out); (case side7 => exact cb_ HR0_7.out HB.out); (case side8 => exact HC0_7.out); rintro e w59 ⟨rfl, hb⟩; refine ⟨_, rfl, ?_⟩; replace BK121 := Aside0.mk (blk_below (bn0_ BK121.out) hb); replace HB := Aside0.mk (below_step bl_ hb); (try clear hb); have hcz60_0 : w59.cell? ⟨gb121, 0, none⟩ = some (.slice A0_0 l0_0.length c0_0) := (blk_cell BK121.out 0).trans rfl; have hcz60_1 : w59.cell? ⟨gb121, 1, none⟩ = some (.slice A0_1 l0_1.length c0_1) := (blk_cell BK121.out 1).trans rfl; have hcz60_2 : w59.cell? ⟨gb121, 2, none⟩ = some (.slice A0_2 l0_2.length c0_2) := (blk_cell BK121.out 2).trans rfl; have hcz60_3 : w59.cell? ⟨gb121, 3, none⟩ = some (.slice A0_3 l0_3.length c0_3) := (blk_cell BK121.out 3).trans rfl; have hcz60_4 : w59.cell? ⟨gb121, 4, none⟩ = some (.slice A0_4 l0_4.length c0_4) := (blk_cell BK121.out 4).trans rfl; have hcz60_5 : w59.cell? ⟨gb121, 5, none⟩ = some (.slice A0_5 l0_5.length c0_5) := (blk_cell BK121.out 5).trans rfl; have hcz60_6 : w59.cell? ⟨gb121, 6, none⟩ = some (.int .i64 a0_6) := (blk_cell BK121.out 6).trans rfl; have hcz60_7 : w59.cell? ⟨gb121, 7, none⟩ = some (.slice A0_7 l0_7.length c0_7) := (blk_cell BK121.out 7).trans rfl; have hcz60_8 : w59.cell? ⟨gb121, 8, none⟩ = some (.slice A0_8 l0_8.length c0_8) := (blk_cell BK121.out 8).trans rfl; have hcz60_9 : w59.cell? ⟨gb121, 9, none⟩ = some (.int .i64 a0_9) := (blk_cell BK121.out 9).trans rfl; have hcz60_10 : w59.cell? ⟨gb121, 10, none⟩ = some (.slice A0_10 l0_10.length c0_10) := (blk_cell BK121.out 10).trans rfl; have hcz60_11 : w59.cell? ⟨gb121, 11, none⟩ = some (.slice A0_11 l0_11.length c0_11) := (blk_cell BK121.out 11).trans rfl; have hfz60_0 := blk_frozen BK121.out 0; have hfz60_1 := blk_frozen BK121.out 1; have hfz60_2 := blk_frozen BK121.out 2; have hfz60_3 := blk_frozen BK121.out 3; have hfz60_4 := blk_frozen BK121.out 4; have hfz60_5 := blk_frozen BK121.out 5; have hfz60_6 := blk_frozen BK121.out 6; have hfz60_7 := blk_frozen BK121.out 7; have hfz60_8 := blk_frozen BK121.out 8; have hfz60_9 := blk_frozen BK121.out 9; have hfz60_10 := blk_frozen BK121.out 10; have hfz60_11 := blk_frozen BK121.out 11) | ((with_reducible refine gate_callee (f := 13) rfl ?_); refine gs_ (some 32) Tryz.func13 #[.slice A0_8 l0_8.length c0_8, .int .i64 t125] ?_; (with_reducible refine (laws_szLetterS.calls k _ _ l0_8 t125 t126 _ ?side1 ?side2 A28.out).mono ?_); (case side1 => exact cb_ HR0_8.out HB.out); (case side2 => exact HC0_8.out); rintro e w61 ⟨rfl, hb⟩; refine ⟨_, rfl, ?_⟩; replace BK121 := Aside0.mk (blk_below (bn0_ BK121.out) hb); replace HB := Aside0.mk (below_step bl_ hb); (try clear hb); have hcz62_0 : w61.cell? ⟨gb121, 0, none⟩ = some (.slice A0_0 l0_0.length c0_0) := (blk_cell BK121.out 0).trans rfl; have hcz62_1 : w61.cell? ⟨gb121, 1, none⟩ = some (.slice A0_1 l0_1.length c0_1) := (blk_cell BK121.out 1).trans rfl; have hcz62_2 : w61.cell? ⟨gb121, 2, none⟩ = some (.slice A0_2 l0_2.length c0_2) := (blk_cell BK121.out 2).trans rfl; have hcz62_3 : w61.cell? ⟨gb121, 3, none⟩ = some (.slice A0_3 l0_3.length c0_3) := (blk_cell BK121.out 3).trans rfl; have hcz62_4 : w61.cell? ⟨gb121, 4, none⟩ = some (.slice A0_4 l0_4.length c0_4) := (blk_cell BK121.out 4).trans rfl; have hcz62_5 : w61.cell? ⟨gb121, 5, none⟩ = some (.slice A0_5 l0_5.length c0_5) := (blk_cell BK121.out 5).trans rfl; have hcz62_6 : w61.cell? ⟨gb121, 6, none⟩ = some (.int .i64 a0_6) := (blk_cell BK121.out 6).trans rfl; have hcz62_7 : w61.cell? ⟨gb121, 7, none⟩ = some (.slice A0_7 l0_7.length c0_7) := (blk_cell BK121.out 7).trans rfl; have hcz62_8 : w61.cell? ⟨gb121, 8, none⟩ = some (.slice A0_8 l0_8.length c0_8) := (blk_cell BK121.out 8).trans rfl; have hcz62_9 : w61.cell? ⟨gb121, 9, none⟩ = some (.int .i64 a0_9) := (blk_cell BK121.out 9).trans rfl; have hcz62_10 : w61.cell? ⟨gb121, 10, none⟩ = some (.slice A0_10 l0_10.length c0_10) := (blk_cell BK121.out 10).trans rfl; have hcz62_11 : w61.cell? ⟨gb121, 11, none⟩ = some (.slice A0_11 l0_11.length c0_11) := (blk_cell BK121.out 11).trans rfl; have hfz62_0 := blk_frozen BK121.out 0; have hfz62_1 := blk_frozen BK121.out 1; have hfz62_2 := blk_frozen BK121.out 2; have hfz62_3 := blk_frozen BK121.out 3; have hfz62_4 := blk_frozen BK121.out 4; have hfz62_5 := blk_frozen BK121.out 5; have hfz62_6 := blk_frozen BK121.out 6; have hfz62_7 := blk_frozen BK121.out 7; have hfz62_8 := blk_frozen BK121.out 8; have hfz62_9 := blk_frozen BK121.out 9; have hfz62_10 := blk_frozen BK121.out 10; have hfz62_11 := blk_frozen BK121.out 11) | ((with_reducible refine gate_callee (f := 14) rfl ?_); refine gs_ (some 38) Tryz.func14 #[.slice A0_10 l0_10.length c0_10, .int .i64 t126] ?_; (with_reducible refine (laws_szIntS.calls _ _ l0_10 t126 t127 _ ?side1 ?side2 A39.out).mono ?_); (case side1 => exact cb_ HR0_10.out HB.out); (case side2 => exact HC0_10.out); rintro e w' ⟨rfl, ⟨nd, rfl⟩⟩; refine ⟨_, rfl, ?_⟩) | ((with_reducible refine gate_callee (f := 15) rfl ?_); refine gs_ (some 44) Tryz.func15 #[.slice A0_11 l0_11.length c0_11, .int .i64 t127] ?_; (with_reducible refine (laws_szSeenS.calls _ _ l0_11 t127 t128 _ ?side1 ?side2 A51.out).mono ?_); (case side1 => repeat (first | exact (Kd.C_below HR0_11.out bl_) | exact HR0_11.out | (with_reducible refine Kd.C_alloc ?_ _) | (with_reducible refine Kd.C_drewN ?_ _) | (with_reducible refine Kd.C_drew ?_))); (case side2 => exact HC0_11.out); rintro e w' ⟨rfl, ⟨nd, rfl⟩⟩; refine ⟨_, rfl, ?_⟩)))
 all_goals go_ret
 all_goals exact ⟨er_, bl_⟩

mutual
def spec_l08Figures.j0 : Nat → Int → Option (ByteArray)
 | 0, _ => none
 | k + 1, x0 => spec_l08Figures.l0 k x0 (⟨#[]⟩ : ByteArray)
def spec_l08Figures.l0 : Nat → Int → ByteArray → Option (ByteArray)
 | 0, _, _ => none
 | k + 1, x0, x3 => if x0 > 9 then ((some (([(wrap64 (48 + (Int.tmod x0 10))) % 256] : List Int) : List Int)).bind fun y129 => (if (strOfNums y129).size + x3.size ≤ 9223372036854775807 then (spec_l08Figures.l0 k (wrap64 (Int.tdiv x0 10)) ((strOfNums y129) ++ x3)) else (none))) else ((some (([(wrap64 (48 + x0)) % 256] : List Int) : List Int)).bind fun y132 => (if (strOfNums y132).size + x3.size ≤ 9223372036854775807 then (some ((strOfNums y132) ++ x3)) else (none)))
end
def spec_l08Figures.f (k : Nat) (a0 : Int) : Option (ByteArray) := if a0 < 0 then (spec_l08Figures.j0 k 0) else (spec_l08Figures.j0 k a0)
theorem spec_l08Figures.mono_l : ∀ k, (∀ y0, LeO (spec_l08Figures.j0 k y0) (spec_l08Figures.j0 (k + 1) y0)) ∧ (∀ y0 y1, LeO (spec_l08Figures.l0 k y0 y1) (spec_l08Figures.l0 (k + 1) y0 y1))
 | 0 => ⟨fun _ r h => by simp [spec_l08Figures.j0] at h, fun _ _ r h => by simp [spec_l08Figures.l0] at h⟩
 | k + 1 => by
  obtain ⟨ih0, ih1⟩ := spec_l08Figures.mono_l k
  refine ⟨?_, ?_⟩
  ·intro y0
   unfold spec_l08Figures.j0
   exact mo_
  ·intro y0 y1
   unfold spec_l08Figures.l0
   exact mo_
theorem spec_l08Figures.mono : ∀ a0 k, LeO (spec_l08Figures.f k a0) (spec_l08Figures.f (k + 1) a0) := by
 intro a0 k
 obtain ⟨ih0, ih1⟩ := spec_l08Figures.mono_l k
 unfold spec_l08Figures.f
 exact mo_
theorem spec_l08Figures.calls (k : Nat) (a0 : Int) (r : ByteArray) (w : World) (h : spec_l08Figures.f k a0 = some r) :
 Calls Tryz.prog 47 #[.int .i64 a0] w fun e w' => e = .returned (.string r) ∧ Below w.heap.size w w' := by
 have HB := Aside0.mk (Below.refl w.heap.size w)
 have H := h
 unfold spec_l08Figures.f at H
 clear h
 have HC2 := Aside0.mk H
 clear H
 go_enter Tryz.func47, Tryz.ntmps47
 go_upto_if 5 with (fail)
 go_cut [0] (fun v0 wc => ∃ (kq : Nat) (x0_1 : Int), v0 = .int .i64 x0_1 ∧ Aside0 (spec_l08Figures.j0 kq x0_1 = some r) ∧ Aside0 (kq ≤ k) ∧ Aside0 (Below w.heap.size w wc))
 case first =>
  have H := HC2.out
  clear HC2
  by_cases c3 : a0 < 0
  rotate_left
  ·rw [if_neg c3] at H
   have c3b0 := decide_eq_false c3
   clear c3
   (first | rw [c3b0] | (simp only [i64_w, i32_w]; rw [c3b0]) | skip)
   have H' := Aside0.mk H
   clear H
   go_wp2
   go_meet
   case rel => exact ⟨_, (a0), (sr_), H', ⟨by first | omega | exact Nat.le_refl _⟩, ⟨bl_⟩⟩
  rw [if_pos c3] at H
  have c3b0 := decide_eq_true c3
  clear c3
  (first | rw [c3b0] | (simp only [i64_w, i32_w]; rw [c3b0]) | skip)
  have H' := Aside0.mk H
  clear H
  go_wp2
  go_meet
  case rel => exact ⟨_, (0), (sr_), H', ⟨by first | omega | exact Nat.le_refl _⟩, ⟨bl_⟩⟩
 clear HC2
 obtain ⟨kq, x0_1, rfl, HA, HJ1, HB⟩ := hcut
 cases kq with
 | zero => exact absurd HA.out (by simp [spec_l08Figures.j0])
 | succ kj1 => ?_
 have H := HA.out
 clear HA
 simp only [spec_l08Figures.j0] at H
 have H' := Aside0.mk H
 clear H
 go_wp2
 go_loopg [0, 3] kj1 (fun kq v0 v3 w' => ∃ (x0_2 : Int) (x3_2 : ByteArray), v0 = .int .i64 x0_2 ∧ v3 = .string x3_2 ∧ Aside0 (spec_l08Figures.l0 kq x0_2 x3_2 = some r) ∧ Aside0 (kq ≤ kj1) ∧ Aside0 (Below w.heap.size w w'))
 case atStart => exact ⟨(x0_1), ((⟨#[]⟩ : ByteArray)), (sr_), (sr_), H', ⟨Nat.le_refl _⟩, ⟨bl_⟩⟩
 clear H'
 obtain ⟨x0_2, x3_2, rfl, rfl, HA, HK2, HB⟩ := hrel
 cases gk with
 | zero => exact absurd HA.out (by simp [spec_l08Figures.l0])
 | succ k2 => ?_
 have H := HA.out
 clear HA
 simp only [spec_l08Figures.l0] at H
 by_cases c4 : x0_2 > 9
 rotate_left
 ·rw [if_neg c4] at H
  have c4b0 := decide_eq_false c4
  clear c4
  obtain ⟨y132, hy132⟩ : ∃ y_ : List Int, y_ = (([(wrap64 (48 + x0_2)) % 256] : List Int)) := ⟨_, rfl⟩
  replace H : (if (strOfNums y132).size + x3_2.size ≤ 9223372036854775807 then (some ((strOfNums y132) ++ x3_2)) else (none)) = some r := rp_ H hy132
  have Ny132 := Aside0.mk hy132
  clear hy132
  by_cases c9 : (strOfNums y132).size + x3_2.size ≤ 9223372036854775807
  rotate_left
  ·exact nn_ c9 H
  rw [if_pos c9] at H
  have c9b0 := eq_true c9
  have c9b1 : decide ((strOfNums y132).size + x3_2.size ≤ 9223372036854775807) = true := decide_eq_true c9
  try have c9b2 : (9223372036854775807 < (strOfNums y132).size + x3_2.size) = False := eq_false (Nat.not_lt.2 c9)
  obtain rfl := Option.some.inj H
  go_wp2_with (first | ((with_reducible refine gate_dst (N := 21) rfl ?_); refine Kd.R_lit (Kd.int .u8) _ 5 ?hg (N := 21) ?hd (xs := ([(wrap64 (48 + x0_2)) % 256] : List Int)) (inner := [.int .u8 ((wrap64 (48 + x0_2)) % 256)]) (ok := fun _ => True) (okp := fun _ => True) ?hr ?hp (fun _ hk => hk) trivial (Below.refl _ _) (Nat.le_refl _) (by simp) ?_; (case hd => rfl); (case hg => rfl); (case hr => first | (go_simp; done) | (go_simp; rfl)); (case hp => exact (Reps.one (show Kd.M (Kd.int .u8) _ _ _ ((wrap64 (48 + x0_2)) % 256) [.int .u8 ((wrap64 (48 + x0_2)) % 256)] from rfl) (Reps.none _ _))); intro v133 w10 ho11 hb hg_ hnew_; clear hg_ hnew_; (first | rw [← Ny132.out] at ho11 | (simp only [Int.reduceToNat] at ho11; rw [← Ny132.out] at ho11)); have HO134 := Aside0.mk (Kd.R_lower ho11 (below_size bl_)); replace HB := Aside0.mk (below_step bl_ hb); clear hb ho11; have hcv12 := own_string (P := Tryz.prog) Tryz.underlying94 Tryz.underlying5 Tryz.underlying9 (Kd.own_of_R HO134.out)))
  go_ret
  exact ⟨er_, bl_⟩
 rw [if_pos c4] at H
 have c4b0 := decide_eq_true c4
 clear c4
 obtain ⟨y129, hy129⟩ : ∃ y_ : List Int, y_ = (([(wrap64 (48 + (Int.tmod x0_2 10))) % 256] : List Int)) := ⟨_, rfl⟩
 replace H : (if (strOfNums y129).size + x3_2.size ≤ 9223372036854775807 then (spec_l08Figures.l0 k2 (wrap64 (Int.tdiv x0_2 10)) ((strOfNums y129) ++ x3_2)) else (none)) = some r := rp_ H hy129
 have Ny129 := Aside0.mk hy129
 clear hy129
 by_cases c5 : (strOfNums y129).size + x3_2.size ≤ 9223372036854775807
 rotate_left
 ·exact nn_ c5 H
 rw [if_pos c5] at H
 have c5b0 := eq_true c5
 have c5b1 : decide ((strOfNums y129).size + x3_2.size ≤ 9223372036854775807) = true := decide_eq_true c5
 try have c5b2 : (9223372036854775807 < (strOfNums y129).size + x3_2.size) = False := eq_false (Nat.not_lt.2 c5)
 have H' := Aside0.mk H
 clear H
 go_wp2_with (first | ((with_reducible refine gate_dst (N := 12) rfl ?_); refine Kd.R_lit (Kd.int .u8) _ 5 ?hg (N := 12) ?hd (xs := ([(wrap64 (48 + (Int.tmod x0_2 10))) % 256] : List Int)) (inner := [.int .u8 ((wrap64 (48 + (Int.tmod x0_2 10))) % 256)]) (ok := fun _ => True) (okp := fun _ => True) ?hr ?hp (fun _ hk => hk) trivial (Below.refl _ _) (Nat.le_refl _) (by simp) ?_; (case hd => rfl); (case hg => rfl); (case hr => first | (go_simp; done) | (go_simp; rfl)); (case hp => exact (Reps.one (show Kd.M (Kd.int .u8) _ _ _ ((wrap64 (48 + (Int.tmod x0_2 10))) % 256) [.int .u8 ((wrap64 (48 + (Int.tmod x0_2 10))) % 256)] from rfl) (Reps.none _ _))); intro v130 w6 ho7 hb hg_ hnew_; clear hg_ hnew_; (first | rw [← Ny129.out] at ho7 | (simp only [Int.reduceToNat] at ho7; rw [← Ny129.out] at ho7)); have HO131 := Aside0.mk (Kd.R_lower ho7 (below_size bl_)); replace HB := Aside0.mk (below_step bl_ hb); clear hb ho7; have hcv8 := own_string (P := Tryz.prog) Tryz.underlying94 Tryz.underlying5 Tryz.underlying9 (Kd.own_of_R HO131.out)))
 go_roundg k2
 case measure => have := HJ1.out; have := HK2.out; omega
 case rel => exact ⟨(wrap64 (Int.tdiv x0_2 10)), ((strOfNums y129) ++ x3_2), (sr_), (sr_), H', ⟨by have := HJ1.out; have := HK2.out; omega⟩, ⟨bl_⟩⟩


def spec_l29Num.f (k : Nat) (a0 : Int) : Option (ByteArray) := if a0 < 0 then (some (⟨#[48]⟩ : ByteArray)) else ((spec_l08Figures.f k a0).bind fun t135 => (some t135))
theorem spec_l29Num.mono : ∀ a0 k, LeO (spec_l29Num.f k a0) (spec_l29Num.f (k + 1) a0) := by
 intro a0 k
 unfold spec_l29Num.f
 have m0 := @spec_l08Figures.mono
 exact mo_
theorem spec_l29Num.calls (k : Nat) (a0 : Int) (r : ByteArray) (w : World) (h : spec_l29Num.f k a0 = some r) :
 Calls Tryz.prog 19 #[.int .i64 a0] w fun e w' => e = .returned (.string r) ∧ Below w.heap.size w w' := by
 have HB := Aside0.mk (Below.refl w.heap.size w)
 have H := h
 unfold spec_l29Num.f at H
 clear h
 by_cases c2 : a0 < 0
 rw [if_pos c2] at H
 have c2b0 := decide_eq_true c2
 clear c2
 obtain rfl := Option.some.inj H
 rotate_left
 rw [if_neg c2] at H
 have c2b0 := decide_eq_false c2
 clear c2
 replace H := bs_ H
 obtain ⟨t135, A3, H⟩ := H
 try dsimp only at H
 obtain rfl := Option.some.inj H
 rotate_left
 all_goals go_enter Tryz.func19, Tryz.ntmps19
 all_goals (go_wp2_with (first | ((with_reducible refine gate_callee (f := 47) rfl ?_); refine gs_ (some 6) Tryz.func47 #[.int .i64 a0] ?_; (with_reducible refine (spec_l08Figures.calls k a0 t135 _ A3.out).mono ?_); rintro e w4 ⟨rfl, hb⟩; refine ⟨_, rfl, ?_⟩; replace HB := Aside0.mk (below_step bl_ hb); (try clear hb))))
 all_goals go_ret
 all_goals exact ⟨er_, bl_⟩

def spec_ShowEntry.f (k : Nat) (a0_0 : Int) (a0_1 : Int) (a0_2 : Int) (a0_3 : Int) (a0_4 : Int) (a0_5 : Int) : Option (ByteArray) := (spec_l29Num.f k a0_0).bind fun t137 => (if 1 + t137.size ≤ 9223372036854775807 then (if ((⟨#[112]⟩ : ByteArray) ++ t137).size + 1 ≤ 9223372036854775807 then ((spec_l29Num.f k a0_1).bind fun t138 => (if (((⟨#[112]⟩ : ByteArray) ++ t137) ++ (⟨#[35]⟩ : ByteArray)).size + t138.size ≤ 9223372036854775807 then (if a0_2 = 2 then (if ((((⟨#[112]⟩ : ByteArray) ++ t137) ++ (⟨#[35]⟩ : ByteArray)) ++ t138).size + 5 ≤ 9223372036854775807 then ((spec_l29Num.f k a0_5).bind fun t139 => (if (((((⟨#[112]⟩ : ByteArray) ++ t137) ++ (⟨#[35]⟩ : ByteArray)) ++ t138) ++ (⟨#[32, 103, 97, 112, 32]⟩ : ByteArray)).size + t139.size ≤ 9223372036854775807 then (if ((((((⟨#[112]⟩ : ByteArray) ++ t137) ++ (⟨#[35]⟩ : ByteArray)) ++ t138) ++ (⟨#[32, 103, 97, 112, 32]⟩ : ByteArray)) ++ t139).size + 1 ≤ 9223372036854775807 then (some (((((((⟨#[112]⟩ : ByteArray) ++ t137) ++ (⟨#[35]⟩ : ByteArray)) ++ t138) ++ (⟨#[32, 103, 97, 112, 32]⟩ : ByteArray)) ++ t139) ++ (⟨#[10]⟩ : ByteArray))) else (none)) else (none))) else (none)) else (if ((((⟨#[112]⟩ : ByteArray) ++ t137) ++ (⟨#[35]⟩ : ByteArray)) ++ t138).size + 6 ≤ 9223372036854775807 then ((spec_l29Num.f k a0_3).bind fun t140 => (if (((((⟨#[112]⟩ : ByteArray) ++ t137) ++ (⟨#[35]⟩ : ByteArray)) ++ t138) ++ (⟨#[32, 99, 97, 108, 108, 32]⟩ : ByteArray)).size + t140.size ≤ 9223372036854775807 then (if ((((((⟨#[112]⟩ : ByteArray) ++ t137) ++ (⟨#[35]⟩ : ByteArray)) ++ t138) ++ (⟨#[32, 99, 97, 108, 108, 32]⟩ : ByteArray)) ++ t140).size + 1 ≤ 9223372036854775807 then ((spec_l29Num.f k a0_4).bind fun t141 => (if (((((((⟨#[112]⟩ : ByteArray) ++ t137) ++ (⟨#[35]⟩ : ByteArray)) ++ t138) ++ (⟨#[32, 99, 97, 108, 108, 32]⟩ : ByteArray)) ++ t140) ++ (⟨#[32]⟩ : ByteArray)).size + t141.size ≤ 9223372036854775807 then (if ((((((((⟨#[112]⟩ : ByteArray) ++ t137) ++ (⟨#[35]⟩ : ByteArray)) ++ t138) ++ (⟨#[32, 99, 97, 108, 108, 32]⟩ : ByteArray)) ++ t140) ++ (⟨#[32]⟩ : ByteArray)) ++ t141).size + 1 ≤ 9223372036854775807 then (some (((((((((⟨#[112]⟩ : ByteArray) ++ t137) ++ (⟨#[35]⟩ : ByteArray)) ++ t138) ++ (⟨#[32, 99, 97, 108, 108, 32]⟩ : ByteArray)) ++ t140) ++ (⟨#[32]⟩ : ByteArray)) ++ t141) ++ (⟨#[10]⟩ : ByteArray))) else (none)) else (none))) else (none)) else (none))) else (none))) else (none))) else (none)) else (none))
theorem spec_ShowEntry.mono : ∀ a0 a1 a2 a3 a4 a5 k, LeO (spec_ShowEntry.f k a0 a1 a2 a3 a4 a5) (spec_ShowEntry.f (k + 1) a0 a1 a2 a3 a4 a5) := by
 intro a0 a1 a2 a3 a4 a5 k
 unfold spec_ShowEntry.f
 have m0 := @spec_l29Num.mono
 exact mo_
def spec_ShowEntry.T1 : Bool × List (List Nat × List Nat) := (true, [([], []), ([0], [0]), ([1], [1]), ([2], [2]), ([3], [3]), ([], []), ([5], [5]), ([6, 2], [6]), ([4, 7], [4, 7]), ([8, 7, 0, 1, 2, 3, 4, 5, 6, 7, 8], [8])])
def spec_ShowEntry.B1 : List Nat := [0, 1, 3, 7, 15, 0, 32, 103, 255, 511]
theorem spec_ShowEntry.tab1 : rtab .any (opsOf Tryz.f16 1) = spec_ShowEntry.T1 := by kernel_rfl
theorem spec_ShowEntry.bits1 : waitsOk spec_ShowEntry.T1.2 spec_ShowEntry.B1 = true := by kernel_rfl
def spec_ShowEntry.T4 : Bool × List (List Nat × List Nat) := (true, [([], []), ([0], [0]), ([], []), ([2], [2]), ([3], [3]), ([4], [4]), ([1, 5], [1, 5]), ([6], [6]), ([], []), ([8], [8]), ([9], [9]), ([10, 5], [10]), ([7, 11], [7, 11]), ([12], [12]), ([13, 11, 0, 1, 2, 3, 4, 5, 6, 7, 8, 9, 10, 11, 12, 13], [13])])
def spec_ShowEntry.B4 : List Nat := [0, 1, 0, 4, 12, 28, 63, 127, 0, 256, 768, 1852, 4095, 8191, 16383]
theorem spec_ShowEntry.tab4 : rtab .any (opsOf Tryz.f16 4) = spec_ShowEntry.T4 := by kernel_rfl
theorem spec_ShowEntry.bits4 : waitsOk spec_ShowEntry.T4.2 spec_ShowEntry.B4 = true := by kernel_rfl
theorem spec_ShowEntry.calls (k : Nat) (a0_0 : Int) (a0_1 : Int) (a0_2 : Int) (a0_3 : Int) (a0_4 : Int) (a0_5 : Int) (r : ByteArray) (w : World) (h : spec_ShowEntry.f k a0_0 a0_1 a0_2 a0_3 a0_4 a0_5 = some r) :
 Calls Tryz.prog 16 #[.agg #[.int .i64 a0_0, .int .i64 a0_1, .int .i64 a0_2, .int .i64 a0_3, .int .i64 a0_4, .int .i64 a0_5]] w fun e w' => e = .returned (.string r) ∧ Below w.heap.size w w' := by
 have hu61 := Tryz.underlying61
 have HB := Aside0.mk (Below.refl w.heap.size w)
 have H := h
 unfold spec_ShowEntry.f at H
 clear h
 replace H := bs_ H
 obtain ⟨t137, A2, H⟩ := H
 try dsimp only at H
 by_cases c3 : 1 + t137.size ≤ 9223372036854775807
 rotate_left
 ·exact nn_ c3 H
 rw [if_pos c3] at H
 have c3b0 := eq_true c3
 have c3b1 : decide (1 + t137.size ≤ 9223372036854775807) = true := decide_eq_true c3
 try have c3b2 : (9223372036854775807 < 1 + t137.size) = False := eq_false (Nat.not_lt.2 c3)
 by_cases c4 : ((⟨#[112]⟩ : ByteArray) ++ t137).size + 1 ≤ 9223372036854775807
 rotate_left
 ·exact nn_ c4 H
 rw [if_pos c4] at H
 have c4b0 := eq_true c4
 have c4b1 : decide (((⟨#[112]⟩ : ByteArray) ++ t137).size + 1 ≤ 9223372036854775807) = true := decide_eq_true c4
 try have c4b2 : (9223372036854775807 < ((⟨#[112]⟩ : ByteArray) ++ t137).size + 1) = False := eq_false (Nat.not_lt.2 c4)
 try have c4b3 : (9223372036854775807 < 1 + t137.size + 1) = False := eq_false (by have h_ := c4; (repeat rw [ByteArray.size_append] at h_); exact Nat.not_lt.2 h_)
 replace H := bs_ H
 obtain ⟨t138, A5, H⟩ := H
 try dsimp only at H
 by_cases c6 : (((⟨#[112]⟩ : ByteArray) ++ t137) ++ (⟨#[35]⟩ : ByteArray)).size + t138.size ≤ 9223372036854775807
 rotate_left
 ·exact nn_ c6 H
 rw [if_pos c6] at H
 have c6b0 := eq_true c6
 have c6b1 : decide ((((⟨#[112]⟩ : ByteArray) ++ t137) ++ (⟨#[35]⟩ : ByteArray)).size + t138.size ≤ 9223372036854775807) = true := decide_eq_true c6
 try have c6b2 : (9223372036854775807 < (((⟨#[112]⟩ : ByteArray) ++ t137) ++ (⟨#[35]⟩ : ByteArray)).size + t138.size) = False := eq_false (Nat.not_lt.2 c6)
 try have c6b3 : (9223372036854775807 < 1 + t137.size + 1 + t138.size) = False := eq_false (by have h_ := c6; (repeat rw [ByteArray.size_append] at h_); exact Nat.not_lt.2 h_)
 by_cases c7 : a0_2 = 2
 ·rw [if_pos c7] at H
  have c7b0 : (a0_2 == 2) = true := beq_iff_eq.mpr c7
  have c7b1 : (a0_2 != 2) = false := bne_eq_false_iff_eq.mpr c7
  clear c7
  by_cases c8 : ((((⟨#[112]⟩ : ByteArray) ++ t137) ++ (⟨#[35]⟩ : ByteArray)) ++ t138).size + 5 ≤ 9223372036854775807
  rotate_left
  ·exact nn_ c8 H
  rw [if_pos c8] at H
  have c8b0 := eq_true c8
  have c8b1 : decide (((((⟨#[112]⟩ : ByteArray) ++ t137) ++ (⟨#[35]⟩ : ByteArray)) ++ t138).size + 5 ≤ 9223372036854775807) = true := decide_eq_true c8
  try have c8b2 : (9223372036854775807 < ((((⟨#[112]⟩ : ByteArray) ++ t137) ++ (⟨#[35]⟩ : ByteArray)) ++ t138).size + 5) = False := eq_false (Nat.not_lt.2 c8)
  try have c8b3 : (9223372036854775807 < 1 + t137.size + 1 + t138.size + 5) = False := eq_false (by have h_ := c8; (repeat rw [ByteArray.size_append] at h_); exact Nat.not_lt.2 h_)
  replace H := bs_ H
  obtain ⟨t139, A9, H⟩ := H
  try dsimp only at H
  by_cases c10 : (((((⟨#[112]⟩ : ByteArray) ++ t137) ++ (⟨#[35]⟩ : ByteArray)) ++ t138) ++ (⟨#[32, 103, 97, 112, 32]⟩ : ByteArray)).size + t139.size ≤ 9223372036854775807
  rotate_left
  ·exact nn_ c10 H
  rw [if_pos c10] at H
  have c10b0 := eq_true c10
  have c10b1 : decide ((((((⟨#[112]⟩ : ByteArray) ++ t137) ++ (⟨#[35]⟩ : ByteArray)) ++ t138) ++ (⟨#[32, 103, 97, 112, 32]⟩ : ByteArray)).size + t139.size ≤ 9223372036854775807) = true := decide_eq_true c10
  try have c10b2 : (9223372036854775807 < (((((⟨#[112]⟩ : ByteArray) ++ t137) ++ (⟨#[35]⟩ : ByteArray)) ++ t138) ++ (⟨#[32, 103, 97, 112, 32]⟩ : ByteArray)).size + t139.size) = False := eq_false (Nat.not_lt.2 c10)
  try have c10b3 : (9223372036854775807 < 1 + t137.size + 1 + t138.size + 5 + t139.size) = False := eq_false (by have h_ := c10; (repeat rw [ByteArray.size_append] at h_); exact Nat.not_lt.2 h_)
  by_cases c11 : ((((((⟨#[112]⟩ : ByteArray) ++ t137) ++ (⟨#[35]⟩ : ByteArray)) ++ t138) ++ (⟨#[32, 103, 97, 112, 32]⟩ : ByteArray)) ++ t139).size + 1 ≤ 9223372036854775807
  rotate_left
  ·exact nn_ c11 H
  rw [if_pos c11] at H
  have c11b0 := eq_true c11
  have c11b1 : decide (((((((⟨#[112]⟩ : ByteArray) ++ t137) ++ (⟨#[35]⟩ : ByteArray)) ++ t138) ++ (⟨#[32, 103, 97, 112, 32]⟩ : ByteArray)) ++ t139).size + 1 ≤ 9223372036854775807) = true := decide_eq_true c11
  try have c11b2 : (9223372036854775807 < ((((((⟨#[112]⟩ : ByteArray) ++ t137) ++ (⟨#[35]⟩ : ByteArray)) ++ t138) ++ (⟨#[32, 103, 97, 112, 32]⟩ : ByteArray)) ++ t139).size + 1) = False := eq_false (Nat.not_lt.2 c11)
  try have c11b3 : (9223372036854775807 < 1 + t137.size + 1 + t138.size + 5 + t139.size + 1) = False := eq_false (by have h_ := c11; (repeat rw [ByteArray.size_append] at h_); exact Nat.not_lt.2 h_)
  obtain rfl := Option.some.inj H
  go_enter Tryz.func16, Tryz.ntmps16
  try go_wp2_with (first | ((with_reducible refine gate_dst (N := 1) rfl ?_); refine bx_ 1 61 #[.int .i64 a0_0, .int .i64 a0_1, .int .i64 a0_2, .int .i64 a0_3, .int .i64 a0_4, .int .i64 a0_5] ?_; intro gb136 hg w12 hbox hb; have BK136 := Aside0.mk (hbox); have GW136 := Aside0.mk ((hz_ : w.heap.size ≤ gb136)); have GE136 := Aside0.mk ((hz_ : w.heap.size ≤ gb136)); replace HB := Aside0.mk (below_step bl_ hb); clear hb hbox hg))
  have n0_ := Aside0.mk (blk_drew BK136.out)
  have n1_ := Aside0.mk (below_drew1 HB.out)
  clear BK136
  clear HB
  have BK136 := n0_
  have HB := n1_
  clear n0_ n1_
  refine start_ (n := 10) (S := fun w' => w'.cell? ⟨gb136, 0, none⟩ = some (.int .i64 a0_0) ∧ w'.cell? ⟨gb136, 1, none⟩ = some (.int .i64 a0_1) ∧ w'.cell? ⟨gb136, 2, none⟩ = some (.int .i64 a0_2) ∧ w'.cell? ⟨gb136, 3, none⟩ = some (.int .i64 a0_3) ∧ w'.cell? ⟨gb136, 4, none⟩ = some (.int .i64 a0_4) ∧ w'.cell? ⟨gb136, 5, none⟩ = some (.int .i64 a0_5)) (ds := []) #[false, false, false, false, false, false, false, false, false, false] (by kernel_rfl) rfl rfl ⟨(blk_cell BK136.out 0).trans rfl, (blk_cell BK136.out 1).trans rfl, (blk_cell BK136.out 2).trans rfl, (blk_cell BK136.out 3).trans rfl, (blk_cell BK136.out 4).trans rfl, (blk_cell BK136.out 5).trans rfl⟩ (fun hHeld => ?_); refine with_tabW spec_ShowEntry.tab1 spec_ShowEntry.bits1 (fun HT_ HW_ => ?_)
  generalize w12.drew = w13 at BK136 HB hHeld ⊢
  refine pu_ 0 4 HT_ ?_
  refine pu_ 5 9 HT_ ?_
  refine ta_ 1 5 HT_ HW_ hHeld ?_ (r := by rintro w' ⟨s0, s1, s2, s3, s4, s5⟩; go_simp; with_reducible rfl)
  refine ta_ 6 10 HT_ HW_ hHeld ?_ (r := by rintro w' ⟨s0, s1, s2, s3, s4, s5⟩; go_simp; with_reducible rfl)
  refine on_ 2 6 HT_ (fun K hK => ?_)
  refine goes_ Tryz.func19 (by kernel_rfl) rfl #[.int .i64 a0_0] (by rfl) rfl rfl lm_ ?_
  with_reducible refine (spec_l29Num.calls k a0_0 t137 _ A2.out).mono ?_
  rintro e w14 ⟨rfl, hb⟩
  refine ⟨_, rfl, ?_⟩
  have n0_ := Aside0.mk (blk_below (bn0_ BK136.out) hb)
  have n1_ := Aside0.mk (below_step bl_ hb)
  clear BK136
  clear HB
  have BK136 := n0_
  have HB := n1_
  clear n0_ n1_
  (try clear hb)
  (try clear hb2)
  (try clear hk)
  (try clear hi)
  refine hK.out _ _ ⟨(blk_cell BK136.out 0).trans rfl, (blk_cell BK136.out 1).trans rfl, (blk_cell BK136.out 2).trans rfl, (blk_cell BK136.out 3).trans rfl, (blk_cell BK136.out 4).trans rfl, (blk_cell BK136.out 5).trans rfl⟩ (fun hHeld => ?_)
  clear hK K
  refine norm_ (a' := ?_) ?_ ?_
  rotate_left
  ·show Act.put _ (some 6) _ = _
   simp only [Act.put, List.setIfInBounds_toArray, List.set_cons_zero, List.set_cons_succ, i64_w, i32_w]
   rfl
  refine pu_ 3 7 HT_ ?_
  refine pu_ 4 8 HT_ ?_
  refine on_ 7 11 HT_ (fun K hK => ?_)
  refine goes_ Tryz.func19 (by kernel_rfl) rfl #[.int .i64 a0_1] (by rfl) rfl rfl lm_ ?_
  with_reducible refine (spec_l29Num.calls k a0_1 t138 _ A5.out).mono ?_
  rintro e w15 ⟨rfl, hb⟩
  refine ⟨_, rfl, ?_⟩
  have n0_ := Aside0.mk (blk_below (bn0_ BK136.out) hb)
  have n1_ := Aside0.mk (below_step bl_ hb)
  clear BK136
  clear HB
  have BK136 := n0_
  have HB := n1_
  clear n0_ n1_
  (try clear hb)
  (try clear hb2)
  (try clear hk)
  (try clear hi)
  refine hK.out _ _ ⟨(blk_cell BK136.out 0).trans rfl, (blk_cell BK136.out 1).trans rfl, (blk_cell BK136.out 2).trans rfl, (blk_cell BK136.out 3).trans rfl, (blk_cell BK136.out 4).trans rfl, (blk_cell BK136.out 5).trans rfl⟩ (fun hHeld => ?_)
  clear hK K
  refine norm_ (a' := ?_) ?_ ?_
  rotate_left
  ·show Act.put _ (some 11) _ = _
   simp only [Act.put, List.setIfInBounds_toArray, List.set_cons_zero, List.set_cons_succ, i64_w, i32_w]
   rfl
  refine pu_ 8 12 HT_ ?_
  refine pu_ 9 3 HT_ ?_
  refine done_ (done_of HT_.out (by kernel_rfl)) ?_
  obtain ⟨hcz16_0, hcz16_1, hcz16_2, hcz16_3, hcz16_4, hcz16_5, hfz16_0, hfz16_1, hfz16_2, hfz16_3, hfz16_4, hfz16_5⟩ := cf6_ BK136.out
  try go_wp2_with (first | ((with_reducible refine gate_callee (f := 19) rfl ?_); refine gs_ (some 22) Tryz.func19 #[.int .i64 a0_5] ?_; (with_reducible refine (spec_l29Num.calls k a0_5 t139 _ A9.out).mono ?_); rintro e w17 ⟨rfl, hb⟩; refine ⟨_, rfl, ?_⟩; replace BK136 := Aside0.mk (blk_below (bn0_ BK136.out) hb); replace HB := Aside0.mk (below_step bl_ hb); (try clear hb)))
  go_ret
  exact ⟨er_, bl_⟩
 rw [if_neg c7] at H
 have c7b0 : (a0_2 == 2) = false := beq_eq_false_iff_ne.mpr c7
 have c7b1 : (a0_2 != 2) = true := bne_iff_ne.mpr c7
 by_cases c18 : ((((⟨#[112]⟩ : ByteArray) ++ t137) ++ (⟨#[35]⟩ : ByteArray)) ++ t138).size + 6 ≤ 9223372036854775807
 rotate_left
 ·exact nn_ c18 H
 rw [if_pos c18] at H
 have c18b0 := eq_true c18
 have c18b1 : decide (((((⟨#[112]⟩ : ByteArray) ++ t137) ++ (⟨#[35]⟩ : ByteArray)) ++ t138).size + 6 ≤ 9223372036854775807) = true := decide_eq_true c18
 try have c18b2 : (9223372036854775807 < ((((⟨#[112]⟩ : ByteArray) ++ t137) ++ (⟨#[35]⟩ : ByteArray)) ++ t138).size + 6) = False := eq_false (Nat.not_lt.2 c18)
 try have c18b3 : (9223372036854775807 < 1 + t137.size + 1 + t138.size + 6) = False := eq_false (by have h_ := c18; (repeat rw [ByteArray.size_append] at h_); exact Nat.not_lt.2 h_)
 replace H := bs_ H
 obtain ⟨t140, A19, H⟩ := H
 try dsimp only at H
 by_cases c20 : (((((⟨#[112]⟩ : ByteArray) ++ t137) ++ (⟨#[35]⟩ : ByteArray)) ++ t138) ++ (⟨#[32, 99, 97, 108, 108, 32]⟩ : ByteArray)).size + t140.size ≤ 9223372036854775807
 rotate_left
 ·exact nn_ c20 H
 rw [if_pos c20] at H
 have c20b0 := eq_true c20
 have c20b1 : decide ((((((⟨#[112]⟩ : ByteArray) ++ t137) ++ (⟨#[35]⟩ : ByteArray)) ++ t138) ++ (⟨#[32, 99, 97, 108, 108, 32]⟩ : ByteArray)).size + t140.size ≤ 9223372036854775807) = true := decide_eq_true c20
 try have c20b2 : (9223372036854775807 < (((((⟨#[112]⟩ : ByteArray) ++ t137) ++ (⟨#[35]⟩ : ByteArray)) ++ t138) ++ (⟨#[32, 99, 97, 108, 108, 32]⟩ : ByteArray)).size + t140.size) = False := eq_false (Nat.not_lt.2 c20)
 try have c20b3 : (9223372036854775807 < 1 + t137.size + 1 + t138.size + 6 + t140.size) = False := eq_false (by have h_ := c20; (repeat rw [ByteArray.size_append] at h_); exact Nat.not_lt.2 h_)
 by_cases c21 : ((((((⟨#[112]⟩ : ByteArray) ++ t137) ++ (⟨#[35]⟩ : ByteArray)) ++ t138) ++ (⟨#[32, 99, 97, 108, 108, 32]⟩ : ByteArray)) ++ t140).size + 1 ≤ 9223372036854775807
 rotate_left
 ·exact nn_ c21 H
 rw [if_pos c21] at H
 have c21b0 := eq_true c21
 have c21b1 : decide (((((((⟨#[112]⟩ : ByteArray) ++ t137) ++ (⟨#[35]⟩ : ByteArray)) ++ t138) ++ (⟨#[32, 99, 97, 108, 108, 32]⟩ : ByteArray)) ++ t140).size + 1 ≤ 9223372036854775807) = true := decide_eq_true c21
 try have c21b2 : (9223372036854775807 < ((((((⟨#[112]⟩ : ByteArray) ++ t137) ++ (⟨#[35]⟩ : ByteArray)) ++ t138) ++ (⟨#[32, 99, 97, 108, 108, 32]⟩ : ByteArray)) ++ t140).size + 1) = False := eq_false (Nat.not_lt.2 c21)
 try have c21b3 : (9223372036854775807 < 1 + t137.size + 1 + t138.size + 6 + t140.size + 1) = False := eq_false (by have h_ := c21; (repeat rw [ByteArray.size_append] at h_); exact Nat.not_lt.2 h_)
 replace H := bs_ H
 obtain ⟨t141, A22, H⟩ := H
 try dsimp only at H
 by_cases c23 : (((((((⟨#[112]⟩ : ByteArray) ++ t137) ++ (⟨#[35]⟩ : ByteArray)) ++ t138) ++ (⟨#[32, 99, 97, 108, 108, 32]⟩ : ByteArray)) ++ t140) ++ (⟨#[32]⟩ : ByteArray)).size + t141.size ≤ 9223372036854775807
 rotate_left
 ·exact nn_ c23 H
 rw [if_pos c23] at H
 have c23b0 := eq_true c23
 have c23b1 : decide ((((((((⟨#[112]⟩ : ByteArray) ++ t137) ++ (⟨#[35]⟩ : ByteArray)) ++ t138) ++ (⟨#[32, 99, 97, 108, 108, 32]⟩ : ByteArray)) ++ t140) ++ (⟨#[32]⟩ : ByteArray)).size + t141.size ≤ 9223372036854775807) = true := decide_eq_true c23
 try have c23b2 : (9223372036854775807 < (((((((⟨#[112]⟩ : ByteArray) ++ t137) ++ (⟨#[35]⟩ : ByteArray)) ++ t138) ++ (⟨#[32, 99, 97, 108, 108, 32]⟩ : ByteArray)) ++ t140) ++ (⟨#[32]⟩ : ByteArray)).size + t141.size) = False := eq_false (Nat.not_lt.2 c23)
 try have c23b3 : (9223372036854775807 < 1 + t137.size + 1 + t138.size + 6 + t140.size + 1 + t141.size) = False := eq_false (by have h_ := c23; (repeat rw [ByteArray.size_append] at h_); exact Nat.not_lt.2 h_)
 by_cases c24 : ((((((((⟨#[112]⟩ : ByteArray) ++ t137) ++ (⟨#[35]⟩ : ByteArray)) ++ t138) ++ (⟨#[32, 99, 97, 108, 108, 32]⟩ : ByteArray)) ++ t140) ++ (⟨#[32]⟩ : ByteArray)) ++ t141).size + 1 ≤ 9223372036854775807
 rotate_left
 ·exact nn_ c24 H
 rw [if_pos c24] at H
 have c24b0 := eq_true c24
 have c24b1 : decide (((((((((⟨#[112]⟩ : ByteArray) ++ t137) ++ (⟨#[35]⟩ : ByteArray)) ++ t138) ++ (⟨#[32, 99, 97, 108, 108, 32]⟩ : ByteArray)) ++ t140) ++ (⟨#[32]⟩ : ByteArray)) ++ t141).size + 1 ≤ 9223372036854775807) = true := decide_eq_true c24
 try have c24b2 : (9223372036854775807 < ((((((((⟨#[112]⟩ : ByteArray) ++ t137) ++ (⟨#[35]⟩ : ByteArray)) ++ t138) ++ (⟨#[32, 99, 97, 108, 108, 32]⟩ : ByteArray)) ++ t140) ++ (⟨#[32]⟩ : ByteArray)) ++ t141).size + 1) = False := eq_false (Nat.not_lt.2 c24)
 try have c24b3 : (9223372036854775807 < 1 + t137.size + 1 + t138.size + 6 + t140.size + 1 + t141.size + 1) = False := eq_false (by have h_ := c24; (repeat rw [ByteArray.size_append] at h_); exact Nat.not_lt.2 h_)
 obtain rfl := Option.some.inj H
 go_enter Tryz.func16, Tryz.ntmps16
 try go_wp2_with (first | ((with_reducible refine gate_dst (N := 1) rfl ?_); refine bx_ 1 61 #[.int .i64 a0_0, .int .i64 a0_1, .int .i64 a0_2, .int .i64 a0_3, .int .i64 a0_4, .int .i64 a0_5] ?_; intro gb136 hg w25 hbox hb; have BK136 := Aside0.mk (hbox); have GW136 := Aside0.mk ((hz_ : w.heap.size ≤ gb136)); have GE136 := Aside0.mk ((hz_ : w.heap.size ≤ gb136)); replace HB := Aside0.mk (below_step bl_ hb); clear hb hbox hg))
 have n0_ := Aside0.mk (blk_drew BK136.out)
 have n1_ := Aside0.mk (below_drew1 HB.out)
 clear BK136
 clear HB
 have BK136 := n0_
 have HB := n1_
 clear n0_ n1_
 refine start_ (n := 10) (S := fun w' => w'.cell? ⟨gb136, 0, none⟩ = some (.int .i64 a0_0) ∧ w'.cell? ⟨gb136, 1, none⟩ = some (.int .i64 a0_1) ∧ w'.cell? ⟨gb136, 2, none⟩ = some (.int .i64 a0_2) ∧ w'.cell? ⟨gb136, 3, none⟩ = some (.int .i64 a0_3) ∧ w'.cell? ⟨gb136, 4, none⟩ = some (.int .i64 a0_4) ∧ w'.cell? ⟨gb136, 5, none⟩ = some (.int .i64 a0_5)) (ds := []) #[false, false, false, false, false, false, false, false, false, false] (by kernel_rfl) rfl rfl ⟨(blk_cell BK136.out 0).trans rfl, (blk_cell BK136.out 1).trans rfl, (blk_cell BK136.out 2).trans rfl, (blk_cell BK136.out 3).trans rfl, (blk_cell BK136.out 4).trans rfl, (blk_cell BK136.out 5).trans rfl⟩ (fun hHeld => ?_); refine with_tabW spec_ShowEntry.tab1 spec_ShowEntry.bits1 (fun HT_ HW_ => ?_)
 generalize w25.drew = w26 at BK136 HB hHeld ⊢
 refine pu_ 0 4 HT_ ?_
 refine pu_ 5 9 HT_ ?_
 refine ta_ 1 5 HT_ HW_ hHeld ?_ (r := by rintro w' ⟨s0, s1, s2, s3, s4, s5⟩; go_simp; with_reducible rfl)
 refine ta_ 6 10 HT_ HW_ hHeld ?_ (r := by rintro w' ⟨s0, s1, s2, s3, s4, s5⟩; go_simp; with_reducible rfl)
 refine on_ 2 6 HT_ (fun K hK => ?_)
 refine goes_ Tryz.func19 (by kernel_rfl) rfl #[.int .i64 a0_0] (by rfl) rfl rfl lm_ ?_
 with_reducible refine (spec_l29Num.calls k a0_0 t137 _ A2.out).mono ?_
 rintro e w27 ⟨rfl, hb⟩
 refine ⟨_, rfl, ?_⟩
 have n0_ := Aside0.mk (blk_below (bn0_ BK136.out) hb)
 have n1_ := Aside0.mk (below_step bl_ hb)
 clear BK136
 clear HB
 have BK136 := n0_
 have HB := n1_
 clear n0_ n1_
 (try clear hb)
 (try clear hb2)
 (try clear hk)
 (try clear hi)
 refine hK.out _ _ ⟨(blk_cell BK136.out 0).trans rfl, (blk_cell BK136.out 1).trans rfl, (blk_cell BK136.out 2).trans rfl, (blk_cell BK136.out 3).trans rfl, (blk_cell BK136.out 4).trans rfl, (blk_cell BK136.out 5).trans rfl⟩ (fun hHeld => ?_)
 clear hK K
 refine norm_ (a' := ?_) ?_ ?_
 rotate_left
 ·show Act.put _ (some 6) _ = _
  simp only [Act.put, List.setIfInBounds_toArray, List.set_cons_zero, List.set_cons_succ, i64_w, i32_w]
  rfl
 refine pu_ 3 7 HT_ ?_
 refine pu_ 4 8 HT_ ?_
 refine on_ 7 11 HT_ (fun K hK => ?_)
 refine goes_ Tryz.func19 (by kernel_rfl) rfl #[.int .i64 a0_1] (by rfl) rfl rfl lm_ ?_
 with_reducible refine (spec_l29Num.calls k a0_1 t138 _ A5.out).mono ?_
 rintro e w28 ⟨rfl, hb⟩
 refine ⟨_, rfl, ?_⟩
 have n0_ := Aside0.mk (blk_below (bn0_ BK136.out) hb)
 have n1_ := Aside0.mk (below_step bl_ hb)
 clear BK136
 clear HB
 have BK136 := n0_
 have HB := n1_
 clear n0_ n1_
 (try clear hb)
 (try clear hb2)
 (try clear hk)
 (try clear hi)
 refine hK.out _ _ ⟨(blk_cell BK136.out 0).trans rfl, (blk_cell BK136.out 1).trans rfl, (blk_cell BK136.out 2).trans rfl, (blk_cell BK136.out 3).trans rfl, (blk_cell BK136.out 4).trans rfl, (blk_cell BK136.out 5).trans rfl⟩ (fun hHeld => ?_)
 clear hK K
 refine norm_ (a' := ?_) ?_ ?_
 rotate_left
 ·show Act.put _ (some 11) _ = _
  simp only [Act.put, List.setIfInBounds_toArray, List.set_cons_zero, List.set_cons_succ, i64_w, i32_w]
  rfl
 refine pu_ 8 12 HT_ ?_
 refine pu_ 9 3 HT_ ?_
 refine done_ (done_of HT_.out (by kernel_rfl)) ?_
 obtain ⟨hcz29_0, hcz29_1, hcz29_2, hcz29_3, hcz29_4, hcz29_5, hfz29_0, hfz29_1, hfz29_2, hfz29_3, hfz29_4, hfz29_5⟩ := cf6_ BK136.out
 try go_wp2
 have n0_ := Aside0.mk (blk_drew BK136.out)
 have n1_ := Aside0.mk (below_drew1 HB.out)
 clear BK136
 clear HB
 have BK136 := n0_
 have HB := n1_
 clear n0_ n1_
 refine start_ (n := 15) (S := fun w' => w'.cell? ⟨gb136, 0, none⟩ = some (.int .i64 a0_0) ∧ w'.cell? ⟨gb136, 1, none⟩ = some (.int .i64 a0_1) ∧ w'.cell? ⟨gb136, 2, none⟩ = some (.int .i64 a0_2) ∧ w'.cell? ⟨gb136, 3, none⟩ = some (.int .i64 a0_3) ∧ w'.cell? ⟨gb136, 4, none⟩ = some (.int .i64 a0_4) ∧ w'.cell? ⟨gb136, 5, none⟩ = some (.int .i64 a0_5)) (ds := []) #[false, false, false, false, false, false, false, false, false, false, false, false, false, false, false] (by kernel_rfl) rfl rfl ⟨(blk_cell BK136.out 0).trans rfl, (blk_cell BK136.out 1).trans rfl, (blk_cell BK136.out 2).trans rfl, (blk_cell BK136.out 3).trans rfl, (blk_cell BK136.out 4).trans rfl, (blk_cell BK136.out 5).trans rfl⟩ (fun hHeld => ?_); refine with_tabW spec_ShowEntry.tab4 spec_ShowEntry.bits4 (fun HT_ HW_ => ?_)
 generalize w28.drew = w30 at BK136 HB hHeld ⊢
 refine pu_ 0 25 HT_ ?_
 refine pu_ 1 26 HT_ ?_
 refine pu_ 2 27 HT_ ?_
 refine pu_ 3 28 HT_ ?_
 refine pu_ 8 33 HT_ ?_
 refine pu_ 9 34 HT_ ?_
 refine ta_ 4 29 HT_ HW_ hHeld ?_ (r := by rintro w' ⟨s0, s1, s2, s3, s4, s5⟩; go_simp; with_reducible rfl)
 refine ta_ 10 35 HT_ HW_ hHeld ?_ (r := by rintro w' ⟨s0, s1, s2, s3, s4, s5⟩; go_simp; with_reducible rfl)
 refine on_ 5 30 HT_ (fun K hK => ?_)
 refine goes_ Tryz.func19 (by kernel_rfl) rfl #[.int .i64 a0_3] (by rfl) rfl rfl lm_ ?_
 with_reducible refine (spec_l29Num.calls k a0_3 t140 _ A19.out).mono ?_
 rintro e w31 ⟨rfl, hb⟩
 refine ⟨_, rfl, ?_⟩
 have n0_ := Aside0.mk (blk_below (bn0_ BK136.out) hb)
 have n1_ := Aside0.mk (below_step bl_ hb)
 clear BK136
 clear HB
 have BK136 := n0_
 have HB := n1_
 clear n0_ n1_
 (try clear hb)
 (try clear hb2)
 (try clear hk)
 (try clear hi)
 refine hK.out _ _ ⟨(blk_cell BK136.out 0).trans rfl, (blk_cell BK136.out 1).trans rfl, (blk_cell BK136.out 2).trans rfl, (blk_cell BK136.out 3).trans rfl, (blk_cell BK136.out 4).trans rfl, (blk_cell BK136.out 5).trans rfl⟩ (fun hHeld => ?_)
 clear hK K
 refine norm_ (a' := ?_) ?_ ?_
 rotate_left
 ·show Act.put _ (some 30) _ = _
  simp only [Act.put, List.setIfInBounds_toArray, List.set_cons_zero, List.set_cons_succ, i64_w, i32_w]
  rfl
 refine pu_ 6 31 HT_ ?_
 refine pu_ 7 32 HT_ ?_
 refine on_ 11 36 HT_ (fun K hK => ?_)
 refine goes_ Tryz.func19 (by kernel_rfl) rfl #[.int .i64 a0_4] (by rfl) rfl rfl lm_ ?_
 with_reducible refine (spec_l29Num.calls k a0_4 t141 _ A22.out).mono ?_
 rintro e w32 ⟨rfl, hb⟩
 refine ⟨_, rfl, ?_⟩
 have n0_ := Aside0.mk (blk_below (bn0_ BK136.out) hb)
 have n1_ := Aside0.mk (below_step bl_ hb)
 clear BK136
 clear HB
 have BK136 := n0_
 have HB := n1_
 clear n0_ n1_
 (try clear hb)
 (try clear hb2)
 (try clear hk)
 (try clear hi)
 refine hK.out _ _ ⟨(blk_cell BK136.out 0).trans rfl, (blk_cell BK136.out 1).trans rfl, (blk_cell BK136.out 2).trans rfl, (blk_cell BK136.out 3).trans rfl, (blk_cell BK136.out 4).trans rfl, (blk_cell BK136.out 5).trans rfl⟩ (fun hHeld => ?_)
 clear hK K
 refine norm_ (a' := ?_) ?_ ?_
 rotate_left
 ·show Act.put _ (some 36) _ = _
  simp only [Act.put, List.setIfInBounds_toArray, List.set_cons_zero, List.set_cons_succ, i64_w, i32_w]
  rfl
 refine pu_ 12 37 HT_ ?_
 refine pu_ 13 38 HT_ ?_
 refine pu_ 14 2 HT_ ?_
 refine done_ (done_of HT_.out (by kernel_rfl)) ?_
 try go_wp2
 go_ret
 exact ⟨er_, bl_⟩


def spec_l01Figure.f (a0 : Int) : Option (Int) := if a0 < 10 then (some ((wrap64 (48 + a0)) % 256)) else (some ((wrap64 ((wrap64 (97 + a0)) - 10)) % 256))
theorem spec_l01Figure.calls (a0 : Int) (r : Int) (w : World) (h : spec_l01Figure.f a0 = some r) :
 Calls Tryz.prog 44 #[.int .i64 a0] w fun e w' => e = .returned (.int .u8 r) ∧ Drawn0 w w' := by
 have H := h
 unfold spec_l01Figure.f at H
 clear h
 by_cases c2 : a0 < 10
 rw [if_pos c2] at H
 have c2b0 := decide_eq_true c2
 clear c2
 obtain rfl := Option.some.inj H
 rotate_left
 rw [if_neg c2] at H
 have c2b0 := decide_eq_false c2
 clear c2
 obtain rfl := Option.some.inj H
 rotate_left
 all_goals go_enter Tryz.func44, Tryz.ntmps44
 all_goals go_wp2
 all_goals go_ret
 all_goals exact ⟨sr_, by repeat (first | exact Drawn0.refl _ | apply Drawn0.step)⟩

def spec_Hex.l0 : Nat → ByteArray → List Int → Int → Option (ByteArray × Bool)
 | 0, _, _, _ => none
 | k + 1, x0, x4, x5 => if x5 < (x0.size : Int) then (if 0 ≤ x5 then ((spec_l01Figure.f (wrap64 (Int.tdiv (wrap64 (bt x0 x5)) 16))).bind fun t145 => ((spec_l01Figure.f (Int.tmod (wrap64 (bt x0 x5)) 16)).bind fun t146 => ((some (([t145, t146] : List Int) : List Int)).bind fun y147 => (if x4.length + y147.length < 140737488355328 then (spec_Hex.l0 k x0 (x4 ++ y147) (wrap64 (x5 + 1))) else (none))))) else (none)) else (some (strOfNums x4, true))
def spec_Hex.f (k : Nat) (a0 : ByteArray) : Option (ByteArray × Bool) := if (a0.size : Int) > 20000 then (some ((⟨#[]⟩ : ByteArray), false)) else (spec_Hex.l0 k a0 (([] : List Int)) 0)
theorem spec_Hex.mono_l : ∀ k, (∀ y0 y1 y2, LeO (spec_Hex.l0 k y0 y1 y2) (spec_Hex.l0 (k + 1) y0 y1 y2))
 | 0 => fun _ _ _ r h => by simp [spec_Hex.l0] at h
 | k + 1 => by
  have ih0 := spec_Hex.mono_l k
  ·intro y0 y1 y2
   unfold spec_Hex.l0
   exact mo_
theorem spec_Hex.mono : ∀ a0 k, LeO (spec_Hex.f k a0) (spec_Hex.f (k + 1) a0) := by
 intro a0 k
 have ih0 := spec_Hex.mono_l k
 unfold spec_Hex.f
 exact mo_
def spec_Hex.T7 : Bool × List (List Nat × List Nat) := (true, [([], []), ([], []), ([], []), ([1, 2], [1, 2]), ([3], [3]), ([4], [4]), ([5], [5]), ([], []), ([], []), ([7, 8], [7, 8]), ([9], [9]), ([10], [10]), ([11, 6], [11]), ([6, 12], [6, 12]), ([0, 13, 12], [0, 13]), ([14, 14, 0, 1, 2, 3, 4, 5, 6, 7, 8, 9, 10, 11, 12, 13, 14], [0, 14])])
def spec_Hex.B7 : List Nat := [0, 0, 0, 6, 14, 30, 62, 0, 0, 384, 896, 1920, 4094, 8190, 16383, 32767]
theorem spec_Hex.tab7 : rtab .any (opsOf Tryz.f17 7) = spec_Hex.T7 := by kernel_rfl
theorem spec_Hex.bits7 : waitsOk spec_Hex.T7.2 spec_Hex.B7 = true := by kernel_rfl
theorem spec_Hex.calls (k : Nat) (a0 : ByteArray) (r1 : ByteArray) (r2 : Bool) (w : World) (h : spec_Hex.f k a0 = some (r1, r2)) :
 Calls Tryz.prog 17 #[.string a0] w fun e w' => e = .returned (.tuple #[.string r1, .bool r2]) ∧ Below w.heap.size w w' := by
 have HB := Aside0.mk (Below.refl w.heap.size w)
 have H := h
 unfold spec_Hex.f at H
 clear h
 by_cases c2 : (a0.size : Int) > 20000
 ·rw [if_pos c2] at H
  have c2b0 := decide_eq_true c2
  have c2b1 : decide (20000 < a0.size) = true := decide_eq_true (by omega)
  clear c2
  simp only [Option.some.injEq, Prod.mk.injEq] at H
  obtain ⟨rfl, rfl⟩ := H
  go_enter Tryz.func17, Tryz.ntmps17
  go_wp2
  go_ret2
  exact ⟨er_, bl_⟩
 rw [if_neg c2] at H
 have c2b0 := decide_eq_false c2
 have c2b1 : decide (20000 < a0.size) = false := decide_eq_false (by omega)
 clear c2
 obtain ⟨y142, hy142⟩ : ∃ y_ : List Int, y_ = (([] : List Int)) := ⟨_, rfl⟩
 replace H : (spec_Hex.l0 k a0 y142 0) = some (r1, r2) := rp_ H hy142
 have Ny142 := Aside0.mk hy142
 clear hy142
 have H' := Aside0.mk H
 clear H
 go_enter Tryz.func17, Tryz.ntmps17
 go_wp2_with (first | ((with_reducible refine gate_dst (N := 9) rfl ?_); refine Kd.R_lit (Kd.int .u8) _ 5 ?hg (N := 9) ?hd (xs := ([] : List Int)) (inner := []) (ok := fun _ => True) (okp := fun _ => True) ?hr ?hp (fun _ hk => hk) trivial (Below.refl _ _) (Nat.le_refl _) (by simp) ?_; (case hd => rfl); (case hg => rfl); (case hr => first | (go_simp; done) | (go_simp; rfl)); (case hp => exact (Reps.none _ _)); intro v143 w3 ho4 hb hg_ hnew_; clear hg_ hnew_; (first | rw [← Ny142.out] at ho4 | (simp only [Int.reduceToNat] at ho4; rw [← Ny142.out] at ho4)); have HO144 := Aside0.mk (Kd.R_lower ho4 (below_size bl_)); replace HB := Aside0.mk (below_step bl_ hb); clear hb ho4))
 go_loopg [4, 5] k (fun kq v4 v5 w' => ∃ (x4_1 : List Int) (x5_1 : Int), v5 = .int .i64 x5_1 ∧ Aside0 (spec_Hex.l0 kq a0 x4_1 x5_1 = some (r1, r2)) ∧ Aside0 (kq ≤ k) ∧ Aside0 (Kd.R (Kd.int .u8) 5 w' w.heap.size (fun _ => True) v4 x4_1) ∧ Aside0 (Below w.heap.size w w'))
 case atStart => exact ⟨(y142), (0), (sr_), H', ⟨Nat.le_refl _⟩, ⟨ra_ HO144.out⟩, ⟨bl_⟩⟩
 clear H'
 try clear c2
 try clear c2b0
 try clear c2b1
 obtain ⟨x4_1, x5_1, rfl, HA, HK1, HO_4, HB⟩ := hrel
 cases gk with
 | zero => exact absurd HA.out (by simp [spec_Hex.l0])
 | succ k1 => ?_
 have H := HA.out
 clear HA
 simp only [spec_Hex.l0] at H
 by_cases c5 : x5_1 < (a0.size : Int)
 rotate_left
 ·rw [if_neg c5] at H
  have c5b0 := decide_eq_false c5
  clear c5
  simp only [Option.some.injEq, Prod.mk.injEq] at H
  obtain ⟨rfl, rfl⟩ := H
  have hcv17 := own_string (P := Tryz.prog) Tryz.underlying94 Tryz.underlying5 Tryz.underlying9 (Kd.own_of_R HO_4.out)
  go_wp2
  go_ret2
  exact ⟨er_, bl_⟩
 rw [if_pos c5] at H
 have c5b0 := decide_eq_true c5
 clear c5
 by_cases c6 : 0 ≤ x5_1
 rotate_left
 ·exact nn_ c6 H
 rw [if_pos c6] at H
 have c6b0 := decide_eq_true c6
 clear c6
 replace H := bs_ H
 obtain ⟨t145, A8, H⟩ := H
 try dsimp only at H
 replace H := bs_ H
 obtain ⟨t146, A10, H⟩ := H
 try dsimp only at H
 obtain ⟨y147, hy147⟩ : ∃ y_ : List Int, y_ = (([t145, t146] : List Int)) := ⟨_, rfl⟩
 replace H : (if x4_1.length + y147.length < 140737488355328 then (spec_Hex.l0 k1 a0 (x4_1 ++ y147) (wrap64 (x5_1 + 1))) else (none)) = some (r1, r2) := rp_ H hy147
 have Ny147 := Aside0.mk hy147
 clear hy147
 by_cases c11 : x4_1.length + y147.length < 140737488355328
 rotate_left
 ·exact nn_ c11 H
 rw [if_pos c11] at H
 have LMc11 := Aside0.mk c11
 clear c11
 obtain ⟨y150, hy150⟩ : ∃ y_ : List Int, y_ = (x4_1 ++ y147) := ⟨_, rfl⟩
 replace H : (spec_Hex.l0 k1 a0 y150 (wrap64 (x5_1 + 1))) = some (r1, r2) := rp_ H hy150
 have Ny150 := Aside0.mk hy150
 clear hy150
 have H' := Aside0.mk H
 clear H
 try go_wp2
 have n0_ := Aside0.mk (Kd.R_drew HO_4.out)
 have n1_ := Aside0.mk (below_drew1 HB.out)
 clear HO_4
 clear HB
 have HO_4 := n0_
 have HB := n1_
 clear n0_ n1_
 have p7 : 0 ≤ (x5_1 : Int) := of_decide_eq_true as_
 have q7 : x5_1 < (a0.size : Int) := of_decide_eq_true as_
 have hx7 := bt_at a0 x5_1
 replace p7 := eq_true p7
 replace q7 := eq_true q7
 have p9 : 0 ≤ (x5_1 : Int) := of_decide_eq_true as_
 have q9 : x5_1 < (a0.size : Int) := of_decide_eq_true as_
 have hx9 := bt_at a0 x5_1
 replace p9 := eq_true p9
 replace q9 := eq_true q9
 refine start_ (n := 16) (S := fun w' => True) (ds := []) #[false, false, false, false, false, false, false, false, false, false, false, false, false, false, false, false] (by kernel_rfl) rfl rfl trivial (fun hHeld => ?_); refine with_tabW spec_Hex.tab7 spec_Hex.bits7 (fun HT_ HW_ => ?_)
 generalize wr.drew = w12 at HO_4 HB hHeld ⊢
 refine pu_ 0 16 HT_ ?_
 refine pu_ 1 17 HT_ ?_
 refine pu_ 2 18 HT_ ?_
 refine pu_ 7 23 HT_ ?_
 refine pu_ 8 24 HT_ ?_
 refine ta_ 3 19 HT_ HW_ hHeld ?_
 refine pu_ 4 20 HT_ ?_
 refine pu_ 5 21 HT_ ?_
 refine ta_ 9 25 HT_ HW_ hHeld ?_
 refine pu_ 10 26 HT_ ?_
 refine pu_ 11 27 HT_ ?_
 refine on_ 6 22 HT_ (fun K hK => ?_)
 refine goes_ Tryz.func44 (by kernel_rfl) rfl #[.int .i64 (wrap64 (Int.tdiv (wrap64 (bt a0 x5_1)) 16))] (by rfl) rfl rfl lm_ ?_
 with_reducible refine (spec_l01Figure.calls (wrap64 (Int.tdiv (wrap64 (bt a0 x5_1)) 16)) t145 _ A8.out).mono ?_
 rintro e w' ⟨rfl, ⟨nd, rfl⟩⟩
 refine ⟨_, rfl, ?_⟩
 refine hK.out _ _ trivial (fun hHeld => ?_)
 clear hK K
 refine norm_ (a' := ?_) ?_ ?_
 rotate_left
 ·show Act.put _ (some 22) _ = _
  simp only [Act.put, List.setIfInBounds_toArray, List.set_cons_zero, List.set_cons_succ, i64_w, i32_w]
  rfl
 refine on_ 12 28 HT_ (fun K hK => ?_)
 refine goes_ Tryz.func44 (by kernel_rfl) rfl #[.int .i64 (Int.tmod (wrap64 (bt a0 x5_1)) 16)] (by rfl) rfl rfl lm_ ?_
 with_reducible refine (spec_l01Figure.calls (Int.tmod (wrap64 (bt a0 x5_1)) 16) t146 _ A10.out).mono ?_
 rintro e w' ⟨rfl, ⟨nd, rfl⟩⟩
 refine ⟨_, rfl, ?_⟩
 refine hK.out _ _ trivial (fun hHeld => ?_)
 clear hK K
 refine norm_ (a' := ?_) ?_ ?_
 rotate_left
 ·show Act.put _ (some 28) _ = _
  simp only [Act.put, List.setIfInBounds_toArray, List.set_cons_zero, List.set_cons_succ, i64_w, i32_w]
  rfl
 refine on_ 13 29 HT_ (fun K hK => ?_)
 refine Kd.R_lit_step (Kd.int .u8) _ 5 ?hg (N := 29) ?hd (xs := ([t145, t146] : List Int)) (inner := [.int .u8 t145, .int .u8 t146]) (ok := fun _ => True) (okp := fun _ => True) ?hr ?hp (fun _ hk => hk) trivial (Below.refl _ _) (Nat.le_refl _) (by simp) ?_; (case hd => rfl); (case hg => rfl); (case hr => first | (go_simp; done) | (go_simp; rfl)); (case hp => exact (Reps.one (show Kd.M (Kd.int .u8) _ _ _ t145 [.int .u8 t145] from rfl) (Reps.one (show Kd.M (Kd.int .u8) _ _ _ t146 [.int .u8 t146] from rfl) (Reps.none _ _))))
 intro v148 w13 ho14 hb hg_ hnew_
 clear hg_ hnew_
 (first | rw [← Ny147.out] at ho14 | (simp only [Int.reduceToNat] at ho14; rw [← Ny147.out] at ho14))
 have n0_ := Aside0.mk (Kd.R_elder' (ra_ HO_4.out) (Kd.R_base ho14) hb)
 have n1_ := Aside0.mk (Kd.R_lower (Kd.R_new' ho14 (Kd.R_lt (ra_ HO_4.out))) (below_size bl_))
 have n2_ := Aside0.mk (below_step bl_ hb)
 clear HO_4
 clear HB
 have HO_4 := n0_
 have HO149 := n1_
 have HB := n2_
 clear n0_ n1_ n2_
 clear hb ho14
 obtain ⟨Ao16, co16, eo16⟩ := Kd.R_slice HO149.out
 (first | subst eo16 | (injection eo16 with f1_ f2_ f3_; have f4_ := f1_.symm; have f5_ := f3_.symm; clear f1_ f2_ f3_; subst f4_; subst f5_))
 refine hK.out _ _ trivial (fun hHeld => ?_)
 clear hK K
 refine norm_ (a' := ?_) ?_ ?_
 rotate_left
 ·show Act.put _ (some 29) _ = _
  simp only [Act.put, List.setIfInBounds_toArray, List.set_cons_zero, List.set_cons_succ, i64_w, i32_w]
  rfl
 refine on_ 14 30 HT_ (fun K hK => ?_)
 refine Kd.R_append_rows_step (Kd.int .u8) (w0 := w) w.heap.size (by rfl) (.tmp 16) (.tmp 29) 94 5 (.int .u8 0) 1 rfl Tryz.underlying94 info5 rfl (by decide) (by omega) u4 x4_1 y147 _ _ _ (fun k_ => some k_ ≠ (.slice Ao16 y147.length co16 : Value).ownBlock) (fun _ => False) rfl rfl ?aO ?aR (fun _ _ h => h) (fun _ h => h.elim) ?aF ?aB ?aS ?aL ?_
 (case aR => repeat (first | exact (Kd.R_reads' HO149.out).2.2 | (with_reducible refine Kd.C_alloc ?_ _) | (with_reducible refine Kd.C_drewN ?_ _) | (with_reducible refine Kd.C_drew ?_)))
 (case aB => exact bl_)
 (case aF => exact (fun k_ hk => Kd.fresh' (Kd.R_lt (ra_ HO149.out)) k_ hk))
 (case aO => exact (by (with_reducible repeat (first | apply Kd.R_alloc | apply Kd.R_drewN | apply Kd.R_drew)); exact Kd.R_mono HO_4.out (fun _ hk => hk.2)))
 (case aS => exact (below_size bl_))
 (case aL => have := LMc11.out; omega)
 intro v151 w15 ho hb hg hat
 rw [← Ny150.out] at ho
 have n0_ := Aside0.mk (Kd.R_after (ok := (fun _ => True)) (ra_ HO149.out) hg hat)
 have n1_ := Aside0.mk (hb)
 have n2_ := Aside0.mk (ho)
 clear HO149
 clear HB
 clear HO_4
 have HO149 := n0_
 have HB := n1_
 have HO152 := n2_
 clear n0_ n1_ n2_
 clear ho hb hg hat
 refine hK.out _ _ trivial (fun hHeld => ?_)
 clear hK K
 refine norm_ (a' := ?_) ?_ ?_
 rotate_left
 ·show Act.put _ (some 30) _ = _
  simp only [Act.put, List.setIfInBounds_toArray, List.set_cons_zero, List.set_cons_succ, i64_w, i32_w]
  rfl
 refine pu_ 15 4 HT_ ?_
 refine done_ (done_of HT_.out (by kernel_rfl)) ?_
 try go_wp2
 go_roundg k1
 case measure => have := HK1.out; omega
 case rel => exact ⟨(y150), (wrap64 (x5_1 + 1)), (sr_), H', ⟨by have := HK1.out; omega⟩, ⟨by (with_reducible repeat (first | apply Kd.R_alloc | apply Kd.R_drewN | apply Kd.R_drew)); exact Kd.R_mono HO152.out (fun _ hk => trivial)⟩, ⟨bl_⟩⟩

end Go.Proofs.YtcbjlcgfhbfneaaGreatDoor.PA

namespace Go.Proofs.YtcbjlcgfhbfneaaGreatDoor.PA
open Go.RowKit Go.Proofs.YtcbjlcgfhbfneaaGreatDoorW.PrintWords Go.Proofs.YtcbjlcgfhbfneaaGreatDoorW.PrintLast Go.Proofs.YtcbjlcgfhbfneaaGreatDoorW.PrintMore
attribute [local go_sem] max2_int min2_int max_two min_two max_three min_three max_four min_four   -- for this text's walks alone
set_option linter.unusedVariables false
set_option linter.unusedSimpArgs false

theorem eqA59 (d : Nat) (w : World) (x0 y0 : Int) (x1 y1 : Int) (x2 y2 : Int) (x3 y3 : Int) :
 (Op.equalIn (d + 2) 59 (.agg #[.int .i64 x0, .int .i64 x1, .int .i64 x2, .int .i64 x3]) (.agg #[.int .i64 y0, .int .i64 y1, .int .i64 y2, .int .i64 y3])).run Tryz.prog w = .ok (x0 == y0 && (x1 == y1 && (x2 == y2 && (x3 == y3)))) w := by
 refine eqA_of Tryz.underlying59 (by kernel_rfl) ?_
 refine eqf_cons (by rfl) (by go_simp; rfl) (by go_simp; rfl) (by go_simp) ?_
 refine eqf_cons (by rfl) (by go_simp; rfl) (by go_simp; rfl) (by go_simp) ?_
 refine eqf_cons (by rfl) (by go_simp; rfl) (by go_simp; rfl) (by go_simp) ?_
 exact eqf_last (by rfl) (by go_simp; rfl) (by go_simp; rfl) (by go_simp)
end Go.Proofs.YtcbjlcgfhbfneaaGreatDoor.PA

namespace Go.Proofs.YtcbjlcgfhbfneaaGreatDoor.PA
open Go.RowKit Go.Proofs.YtcbjlcgfhbfneaaGreatDoor.Short Go.Proofs.YtcbjlcgfhbfneaaGreatDoorW.PrintWords Go.Proofs.YtcbjlcgfhbfneaaGreatDoorW.PrintLast Go.Proofs.YtcbjlcgfhbfneaaGreatDoorW.PrintMore
attribute [local go_sem] max2_int min2_int max_two min_two max_three min_three max_four min_four   -- for this text's walks alone
set_option linter.unusedVariables false
set_option linter.unusedSimpArgs false

def spec_l01In.f (a0 : Int) (a1 : Int) (a2 : Int) : Option (Bool) := if a0 ≥ a1 then (some (decide (a0 ≤ a2))) else (some false)
theorem spec_l01In.calls (a0 : Int) (a1 : Int) (a2 : Int) (r : Bool) (w : World) (h : spec_l01In.f a0 a1 a2 = some r) :
 Calls Tryz.prog 98 #[.int .i64 a0, .int .i64 a1, .int .i64 a2] w fun e w' => e = .returned (.bool r) ∧ Drawn0 w w' := by
 have H := h
 unfold spec_l01In.f at H
 clear h
 by_cases c4 : a0 ≥ a1
 rw [if_pos c4] at H
 have c4b0 := decide_eq_true c4
 clear c4
 obtain rfl := Option.some.inj H
 rotate_left
 rw [if_neg c4] at H
 have c4b0 := decide_eq_false c4
 clear c4
 obtain rfl := Option.some.inj H
 rotate_left
 all_goals go_enter Tryz.func98, Tryz.ntmps98
 all_goals go_wp2
 all_goals go_ret
 all_goals exact ⟨sr_, by repeat (first | exact Drawn0.refl _ | apply Drawn0.step)⟩

def spec_HalfOk.f (a0 : Int) : Option (Bool) := (spec_l01In.f a0 0 4294967295).bind fun t153 => (some t153)
theorem spec_HalfOk.calls (a0 : Int) (r : Bool) (w : World) (h : spec_HalfOk.f a0 = some r) :
 Calls Tryz.prog 106 #[.int .i64 a0] w fun e w' => e = .returned (.bool r) ∧ Drawn0 w w' := by
 have H := h
 unfold spec_HalfOk.f at H
 clear h
 replace H := bs_ H
 obtain ⟨t153, A2, H⟩ := H
 try dsimp only at H
 obtain rfl := Option.some.inj H
 go_enter Tryz.func106, Tryz.ntmps106
 go_wp2_with (first | ((with_reducible refine gate_callee (f := 98) rfl ?_); refine gs_ (some 4) Tryz.func98 #[.int .i64 a0, .int .i64 0, .int .i64 4294967295] ?_; (with_reducible refine (spec_l01In.calls a0 0 4294967295 t153 _ A2.out).mono ?_); rintro e w' ⟨rfl, ⟨nd, rfl⟩⟩; refine ⟨_, rfl, ?_⟩))
 go_ret
 exact ⟨sr_, by repeat (first | exact Drawn0.refl _ | apply Drawn0.step)⟩

end Go.Proofs.YtcbjlcgfhbfneaaGreatDoor.PA
