/- Contracts of functions of the program and of the reference, and plain lemmas on what they compute: a part of the proof of the law FnExactReadScript. No condition. -/
import Derived.Test.YtjfmpodeenidnaaJFnExactReadScript1
import Derived.Test.YtjfmpodeenidnaaJFnExactReadScript3
import Derived.Test.YtjfmpodeenidnaaShortV
set_option maxHeartbeats 8000000
set_option maxRecDepth 100000
namespace Go.Proofs.Ytjfmpodeenidnaa.PA
open Go.RowKit Go.Proofs.Ytjfmpodeenidnaa.Short Go.Proofs.YtjfmpodeenidnaaW.PrintWords Go.Proofs.YtjfmpodeenidnaaW.PrintLast Go.Proofs.YtjfmpodeenidnaaW.PrintMore
attribute [local go_sem] max2_int min2_int max_two min_two max_three min_three max_four min_four   -- for this text's walks alone
set_option linter.unusedVariables false
set_option linter.unusedSimpArgs false

def spec_l01In.f (a0 : Int) (a1 : Int) (a2 : Int) : Option (Bool) := if a0 ≥ a1 then (some (decide (a0 ≤ a2))) else (some false)
theorem spec_l01In.calls (a0 : Int) (a1 : Int) (a2 : Int) (r : Bool) (w : World) (h : spec_l01In.f a0 a1 a2 = some r) :
 Calls Try.prog 87 #[.int .i64 a0, .int .i64 a1, .int .i64 a2] w fun e w' => e = .returned (.bool r) ∧ Drawn0 w w' := by
 have H := h
 unfold spec_l01In.f at H
 clear h
 by_cases c4 : a0 ≥ a1
 rotate_left
 ·rw [if_neg c4] at H
  have c4b0 := decide_eq_false c4
  clear c4
  obtain rfl := Option.some.inj H
  go_enter Try.func87, Try.ntmps87
  go_wp2
  go_ret
  exact ⟨sr_, by repeat (first | exact Drawn0.refl _ | apply Drawn0.step)⟩
 rw [if_pos c4] at H
 have c4b0 := decide_eq_true c4
 clear c4
 obtain rfl := Option.some.inj H
 go_enter Try.func87, Try.ntmps87
 go_wp2
 go_ret
 exact ⟨sr_, by repeat (first | exact Drawn0.refl _ | apply Drawn0.step)⟩


def spec_HalfOk.f (a0 : Int) : Option (Bool) := (spec_l01In.f a0 0 4294967295).bind fun t187 => (some t187)
theorem spec_HalfOk.calls (a0 : Int) (r : Bool) (w : World) (h : spec_HalfOk.f a0 = some r) :
 Calls Try.prog 75 #[.int .i64 a0] w fun e w' => e = .returned (.bool r) ∧ Drawn0 w w' := by
 have H := h
 unfold spec_HalfOk.f at H
 clear h
 replace H := bs_ H
 obtain ⟨t187, A2, H⟩ := H
 try dsimp only at H
 obtain rfl := Option.some.inj H
 go_enter Try.func75, Try.ntmps75
 go_wp2_with (first | ((with_reducible refine gate_callee (f := 87) rfl ?_); refine gs_ (some 4) Try.func87 #[.int .i64 a0, .int .i64 0, .int .i64 4294967295] ?_; (with_reducible refine (spec_l01In.calls a0 0 4294967295 t187 _ A2.out).mono ?_); rintro e w' ⟨rfl, ⟨nd, rfl⟩⟩; refine ⟨_, rfl, ?_⟩))
 go_ret
 exact ⟨sr_, by repeat (first | exact Drawn0.refl _ | apply Drawn0.step)⟩


def spec_WideOk.f (a0_0 : Int) (a0_1 : Int) : Option (Bool) := (spec_HalfOk.f a0_0).bind fun t189 => (if t189 = true then ((spec_HalfOk.f a0_1).bind fun t190 => (some t190)) else (some false))
theorem spec_WideOk.calls (a0_0 : Int) (a0_1 : Int) (r : Bool) (w : World) (h : spec_WideOk.f a0_0 a0_1 = some r) :
 Calls Try.prog 110 #[.agg #[.int .i64 a0_0, .int .i64 a0_1]] w fun e w' => e = .returned (.bool r) ∧ Below w.heap.size w w' := by
 have hu98 := Try.underlying98
 have HB := Aside0.mk (Below.refl w.heap.size w)
 have H := h
 unfold spec_WideOk.f at H
 clear h
 replace H := bs_ H
 obtain ⟨t189, A2, H⟩ := H
 try dsimp only at H
 by_cases c3 : t189 = true
 rotate_left
 ·replace c3 := Bool.eq_false_iff.mpr c3
  subst c3
  rw [nf_] at H
  obtain rfl := Option.some.inj H
  go_enter Try.func110, Try.ntmps110
  go_wp2_with (first | ((with_reducible refine gate_dst (N := 1) rfl ?_); refine bx_ 1 98 #[.int .i64 a0_0, .int .i64 a0_1] ?_; intro gb188 hg w7 hbox hb; have BK188 := Aside0.mk (hbox); have GW188 := Aside0.mk ((hz_ : w.heap.size ≤ gb188)); have GE188 := Aside0.mk ((hz_ : w.heap.size ≤ gb188)); replace HB := Aside0.mk (below_step bl_ hb); clear hb hbox hg; obtain ⟨hcz8_0, hcz8_1, hfz8_0, hfz8_1⟩ := cf2_ BK188.out) | ((with_reducible refine gate_callee (f := 75) rfl ?_); refine gs_ (some 5) Try.func75 #[.int .i64 a0_0] ?_; (with_reducible refine (spec_HalfOk.calls a0_0 false _ A2.out).mono ?_); rintro e w' ⟨rfl, ⟨nd, rfl⟩⟩; refine ⟨_, rfl, ?_⟩))
  go_ret
  exact ⟨er_, bl_⟩
 subst c3
 rw [if_pos rfl] at H
 replace H := bs_ H
 obtain ⟨t190, A4, H⟩ := H
 try dsimp only at H
 obtain rfl := Option.some.inj H
 go_enter Try.func110, Try.ntmps110
 go_wp2_with (first | ((with_reducible refine gate_dst (N := 1) rfl ?_); refine bx_ 1 98 #[.int .i64 a0_0, .int .i64 a0_1] ?_; intro gb188 hg w5 hbox hb; have BK188 := Aside0.mk (hbox); have GW188 := Aside0.mk ((hz_ : w.heap.size ≤ gb188)); have GE188 := Aside0.mk ((hz_ : w.heap.size ≤ gb188)); replace HB := Aside0.mk (below_step bl_ hb); clear hb hbox hg; obtain ⟨hcz6_0, hcz6_1, hfz6_0, hfz6_1⟩ := cf2_ BK188.out) | ((with_reducible refine gate_callee (f := 75) rfl ?_); refine gs_ (some 5) Try.func75 #[.int .i64 a0_0] ?_; (with_reducible refine (spec_HalfOk.calls a0_0 true _ A2.out).mono ?_); rintro e w' ⟨rfl, ⟨nd, rfl⟩⟩; refine ⟨_, rfl, ?_⟩) | (go_at_call 75; (with_reducible refine (spec_HalfOk.calls a0_1 t190 _ A4.out).mono ?_); rintro e w' ⟨rfl, ⟨nd, rfl⟩⟩))
 go_ret
 exact ⟨er_, bl_⟩


def spec_CallOk.l0 : Nat → Int → Int → Int → List (S98) → Option (Bool)
 | 0, _, _, _, _ => none
 | k + 1, x3, x192000, x192001, x192002 => if x3 < (x192002.length : Int) then (if 0 ≤ x3 then ((spec_WideOk.f ((rd_T98 x192002 x3).f0) ((rd_T98 x192002 x3).f1)).bind fun t193 => (if t193 = true then (spec_CallOk.l0 k (wrap64 (x3 + 1)) x192000 x192001 x192002) else (some false))) else (none)) else ((spec_HalfOk.f x192000).bind fun t194 => (if t194 = true then ((spec_HalfOk.f x192001).bind fun t195 => (if t195 = true then (some ((x192002.length : Int) == 3)) else (some false))) else (some false)))
def spec_CallOk.f (k : Nat) (a0_0 : Int) (a0_1 : Int) (l0_2 : List (S98)) : Option (Bool) := spec_CallOk.l0 k 0 a0_0 a0_1 l0_2
theorem spec_CallOk.mono_l : ∀ k, (∀ y0 y1 y2 y3, LeO (spec_CallOk.l0 k y0 y1 y2 y3) (spec_CallOk.l0 (k + 1) y0 y1 y2 y3))
 | 0 => fun _ _ _ _ r h => by simp [spec_CallOk.l0] at h
 | k + 1 => by
  have ih0 := spec_CallOk.mono_l k
  ·intro y0 y1 y2 y3
   unfold spec_CallOk.l0
   exact mo_
theorem spec_CallOk.mono : ∀ a0 a1 a2 k, LeO (spec_CallOk.f k a0 a1 a2) (spec_CallOk.f (k + 1) a0 a1 a2) := by
 intro a0 a1 a2 k
 have ih0 := spec_CallOk.mono_l k
 unfold spec_CallOk.f
 exact mo_
theorem spec_CallOk.calls (k : Nat) (a0_0 : Int) (a0_1 : Int) (A0_2 : Option Addr) (c0_2 : Nat) (l0_2 : List (S98)) (r : Bool) (w : World) (hr0_2 : Kd.C k98 w A0_2 l0_2.length l0_2) (hc0_2 : l0_2.length ≤ c0_2) (h : spec_CallOk.f k a0_0 a0_1 l0_2 = some r) :
 Calls Try.prog 71 #[.agg #[.int .i64 a0_0, .int .i64 a0_1, .slice A0_2 l0_2.length c0_2]] w fun e w' => e = .returned (.bool r) ∧ Below w.heap.size w w' := by
 have hu47 := Try.underlying47
 have hu98 := Try.underlying98
 have HR0_2 := Aside0.mk hr0_2
 have HC0_2 := Aside0.mk hc0_2
 clear hr0_2 hc0_2
 have HB := Aside0.mk (Below.refl w.heap.size w)
 have H := h
 unfold spec_CallOk.f at H
 clear h
 have H' := Aside0.mk H
 clear H
 go_enter Try.func71, Try.ntmps71
 go_wp2_with (first | ((with_reducible refine gate_dst (N := 1) rfl ?_); (try (refine gate_guard (by rfl) ?_; dsimp only)); refine bx_ 1 47 #[.int .i64 a0_0, .int .i64 a0_1, .slice A0_2 l0_2.length c0_2] ?_; intro gb191 hg w2 hbox hb; have BK191 := Aside0.mk (hbox); have GW191 := Aside0.mk ((hz_ : w.heap.size ≤ gb191)); have GE191 := Aside0.mk ((hz_ : w.heap.size ≤ gb191)); replace HB := Aside0.mk (below_step bl_ hb); clear hb hbox hg))
 go_loopg [3] k (fun kq v3 w' => ∃ (x3_1 : Int), v3 = .int .i64 x3_1 ∧ Aside0 (spec_CallOk.l0 kq x3_1 a0_0 a0_1 l0_2 = some r) ∧ Aside0 (kq ≤ k) ∧ Aside0 (w'.heap[gb191]? = some (.cells #[.int .i64 a0_0, .int .i64 a0_1, (.slice A0_2 l0_2.length c0_2)] 47 (0, 0))) ∧ Aside0 (Below w.heap.size w w'))
 case atStart => exact ⟨(0), (sr_), H', ⟨Nat.le_refl _⟩, ⟨bk_ BK191.out⟩, ⟨bl_⟩⟩
 clear H'
 obtain ⟨x3_1, rfl, HA, HK1, BK191, HB⟩ := hrel
 cases gk with
 | zero => exact absurd HA.out (by simp [spec_CallOk.l0])
 | succ k1 => ?_
 have H := HA.out
 clear HA
 simp only [spec_CallOk.l0] at H
 by_cases c3 : x3_1 < (l0_2.length : Int)
 rotate_left
 ·rw [if_neg c3] at H
  have c3b0 := decide_eq_false c3
  clear c3
  replace H := bs_ H
  obtain ⟨t194, A11, H⟩ := H
  try dsimp only at H
  by_cases c12 : t194 = true
  rotate_left
  ·replace c12 := Bool.eq_false_iff.mpr c12
   subst c12
   rw [nf_] at H
   obtain rfl := Option.some.inj H
   obtain ⟨hcz17_0, hcz17_1, hcz17_2, hfz17_0, hfz17_1, hfz17_2⟩ := cf3_ BK191.out
   go_wp2_with (first | ((with_reducible refine gate_callee (f := 75) rfl ?_); refine gs_ (some 20) Try.func75 #[.int .i64 a0_0] ?_; (with_reducible refine (spec_HalfOk.calls a0_0 false _ A11.out).mono ?_); rintro e w' ⟨rfl, ⟨nd, rfl⟩⟩; refine ⟨_, rfl, ?_⟩))
   go_ret
   exact ⟨er_, bl_⟩
  subst c12
  rw [if_pos rfl] at H
  replace H := bs_ H
  obtain ⟨t195, A13, H⟩ := H
  try dsimp only at H
  by_cases c14 : t195 = true
  ·subst c14
   rw [if_pos rfl] at H
   obtain rfl := Option.some.inj H
   obtain ⟨hcz15_0, hcz15_1, hcz15_2, hfz15_0, hfz15_1, hfz15_2⟩ := cf3_ BK191.out
   go_wp2_with (first | ((with_reducible refine gate_callee (f := 75) rfl ?_); refine gs_ (some 20) Try.func75 #[.int .i64 a0_0] ?_; (with_reducible refine (spec_HalfOk.calls a0_0 true _ A11.out).mono ?_); rintro e w' ⟨rfl, ⟨nd, rfl⟩⟩; refine ⟨_, rfl, ?_⟩) | (go_at_call 75; (with_reducible refine (spec_HalfOk.calls a0_1 true _ A13.out).mono ?_); rintro e w' ⟨rfl, ⟨nd, rfl⟩⟩))
   go_ret
   exact ⟨er_, bl_⟩
  replace c14 := Bool.eq_false_iff.mpr c14
  subst c14
  rw [nf_] at H
  obtain rfl := Option.some.inj H
  obtain ⟨hcz16_0, hcz16_1, hcz16_2, hfz16_0, hfz16_1, hfz16_2⟩ := cf3_ BK191.out
  go_wp2_with (first | ((with_reducible refine gate_callee (f := 75) rfl ?_); refine gs_ (some 20) Try.func75 #[.int .i64 a0_0] ?_; (with_reducible refine (spec_HalfOk.calls a0_0 true _ A11.out).mono ?_); rintro e w' ⟨rfl, ⟨nd, rfl⟩⟩; refine ⟨_, rfl, ?_⟩) | (go_at_call 75; (with_reducible refine (spec_HalfOk.calls a0_1 false _ A13.out).mono ?_); rintro e w' ⟨rfl, ⟨nd, rfl⟩⟩))
  go_ret
  exact ⟨er_, bl_⟩
 rw [if_pos c3] at H
 have c3b0 := decide_eq_true c3
 clear c3
 by_cases c4 : 0 ≤ x3_1
 rotate_left
 ·exact nn_ c4 H
 rw [if_pos c4] at H
 have c4b0 := decide_eq_true c4
 clear c4
 replace H := bs_ H
 obtain ⟨t193, A5, H⟩ := H
 try dsimp only at H
 by_cases c6 : t193 = true
 rotate_left
 ·replace c6 := Bool.eq_false_iff.mpr c6
  subst c6
  rw [nf_] at H
  obtain rfl := Option.some.inj H
  obtain ⟨hcz9_0, hcz9_1, hcz9_2, hfz9_0, hfz9_1, hfz9_2⟩ := cf3_ BK191.out
  have p192 : 0 ≤ (x3_1 : Int) := of_decide_eq_true as_
  have q192 : x3_1 < (l0_2.length : Int) := of_decide_eq_true as_
  obtain ⟨ad192, e192, hx192_0, hx192_1⟩ := at_T98 HR0_2.out x3_1 p192 q192
  cases e192
  replace hx192_0 := (HB.out.cell (World.block_lt_of_cell? w _ hx192_0)).trans hx192_0
  replace hx192_1 := (HB.out.cell (World.block_lt_of_cell? w _ hx192_1)).trans hx192_1
  replace p192 := eq_true p192
  replace q192 := eq_true q192
  go_wp2_with (first | ((with_reducible refine gate_callee (f := 110) rfl ?_); refine gs_ (some 16) Try.func110 #[.agg #[.int .i64 ((rd_T98 l0_2 x3_1).f0), .int .i64 ((rd_T98 l0_2 x3_1).f1)]] ?_; (with_reducible refine (spec_WideOk.calls ((rd_T98 l0_2 x3_1).f0) ((rd_T98 l0_2 x3_1).f1) false _ A5.out).mono ?_); rintro e w10 ⟨rfl, hb⟩; refine ⟨_, rfl, ?_⟩; replace BK191 := Aside0.mk (blk_below (bn0_ BK191.out) hb); replace HB := Aside0.mk (below_step bl_ hb); (try clear hb)))
  go_ret
  exact ⟨er_, bl_⟩
 subst c6
 rw [if_pos rfl] at H
 have H' := Aside0.mk H
 clear H
 obtain ⟨hcz7_0, hcz7_1, hcz7_2, hfz7_0, hfz7_1, hfz7_2⟩ := cf3_ BK191.out
 have p192 : 0 ≤ (x3_1 : Int) := of_decide_eq_true as_
 have q192 : x3_1 < (l0_2.length : Int) := of_decide_eq_true as_
 obtain ⟨ad192, e192, hx192_0, hx192_1⟩ := at_T98 HR0_2.out x3_1 p192 q192
 cases e192
 replace hx192_0 := (HB.out.cell (World.block_lt_of_cell? w _ hx192_0)).trans hx192_0
 replace hx192_1 := (HB.out.cell (World.block_lt_of_cell? w _ hx192_1)).trans hx192_1
 replace p192 := eq_true p192
 replace q192 := eq_true q192
 go_wp2_with (first | ((with_reducible refine gate_callee (f := 110) rfl ?_); refine gs_ (some 16) Try.func110 #[.agg #[.int .i64 ((rd_T98 l0_2 x3_1).f0), .int .i64 ((rd_T98 l0_2 x3_1).f1)]] ?_; (with_reducible refine (spec_WideOk.calls ((rd_T98 l0_2 x3_1).f0) ((rd_T98 l0_2 x3_1).f1) true _ A5.out).mono ?_); rintro e w8 ⟨rfl, hb⟩; refine ⟨_, rfl, ?_⟩; replace BK191 := Aside0.mk (blk_below (bn0_ BK191.out) hb); replace HB := Aside0.mk (below_step bl_ hb); (try clear hb)))
 go_roundg k1
 case measure => have := HK1.out; omega
 case rel => exact ⟨(wrap64 (x3_1 + 1)), (sr_), H', ⟨by have := HK1.out; omega⟩, ⟨bk_ BK191.out⟩, ⟨bl_⟩⟩


def spec_l21Nothing.f (a0_0 : Int) (a0_1 : Int) (l0_2 : List (S98)) : Option (Bool) := if a0_0 = 0 then (if a0_1 = 0 then (some ((l0_2.length : Int) == 0)) else (some false)) else (some false)
theorem spec_l21Nothing.calls (a0_0 : Int) (a0_1 : Int) (A0_2 : Option Addr) (c0_2 : Nat) (l0_2 : List (S98)) (r : Bool) (w : World) (hr0_2 : Kd.C k98 w A0_2 l0_2.length l0_2) (hc0_2 : l0_2.length ≤ c0_2) (h : spec_l21Nothing.f a0_0 a0_1 l0_2 = some r) :
 Calls Try.prog 88 #[.agg #[.int .i64 a0_0, .int .i64 a0_1, .slice A0_2 l0_2.length c0_2]] w fun e w' => e = .returned (.bool r) ∧ Below w.heap.size w w' := by
 have hu47 := Try.underlying47
 have HR0_2 := Aside0.mk hr0_2
 have HC0_2 := Aside0.mk hc0_2
 clear hr0_2 hc0_2
 have HB := Aside0.mk (Below.refl w.heap.size w)
 have H := h
 unfold spec_l21Nothing.f at H
 clear h
 by_cases c2 : a0_0 = 0
 rotate_left
 ·rw [if_neg c2] at H
  have c2b0 : (a0_0 == 0) = false := beq_eq_false_iff_ne.mpr c2
  have c2b1 : (a0_0 != 0) = true := bne_iff_ne.mpr c2
  obtain rfl := Option.some.inj H
  go_enter Try.func88, Try.ntmps88
  go_wp2_with (first | ((with_reducible refine gate_dst (N := 1) rfl ?_); (try (refine gate_guard (by rfl) ?_; dsimp only)); refine bx_ 1 47 #[.int .i64 a0_0, .int .i64 a0_1, .slice A0_2 l0_2.length c0_2] ?_; intro gb196 hg w8 hbox hb; have BK196 := Aside0.mk (hbox); have GW196 := Aside0.mk ((hz_ : w.heap.size ≤ gb196)); have GE196 := Aside0.mk ((hz_ : w.heap.size ≤ gb196)); replace HB := Aside0.mk (below_step bl_ hb); clear hb hbox hg; obtain ⟨hcz9_0, hcz9_1, hcz9_2, hfz9_0, hfz9_1, hfz9_2⟩ := cf3_ BK196.out))
  go_ret
  exact ⟨er_, bl_⟩
 rw [if_pos c2] at H
 have c2b0 : (a0_0 == 0) = true := beq_iff_eq.mpr c2
 have c2b1 : (a0_0 != 0) = false := bne_eq_false_iff_eq.mpr c2
 clear c2
 by_cases c3 : a0_1 = 0
 rotate_left
 ·rw [if_neg c3] at H
  have c3b0 : (a0_1 == 0) = false := beq_eq_false_iff_ne.mpr c3
  have c3b1 : (a0_1 != 0) = true := bne_iff_ne.mpr c3
  obtain rfl := Option.some.inj H
  go_enter Try.func88, Try.ntmps88
  go_wp2_with (first | ((with_reducible refine gate_dst (N := 1) rfl ?_); (try (refine gate_guard (by rfl) ?_; dsimp only)); refine bx_ 1 47 #[.int .i64 a0_0, .int .i64 a0_1, .slice A0_2 l0_2.length c0_2] ?_; intro gb196 hg w6 hbox hb; have BK196 := Aside0.mk (hbox); have GW196 := Aside0.mk ((hz_ : w.heap.size ≤ gb196)); have GE196 := Aside0.mk ((hz_ : w.heap.size ≤ gb196)); replace HB := Aside0.mk (below_step bl_ hb); clear hb hbox hg; obtain ⟨hcz7_0, hcz7_1, hcz7_2, hfz7_0, hfz7_1, hfz7_2⟩ := cf3_ BK196.out))
  go_ret
  exact ⟨er_, bl_⟩
 rw [if_pos c3] at H
 have c3b0 : (a0_1 == 0) = true := beq_iff_eq.mpr c3
 have c3b1 : (a0_1 != 0) = false := bne_eq_false_iff_eq.mpr c3
 clear c3
 obtain rfl := Option.some.inj H
 go_enter Try.func88, Try.ntmps88
 go_wp2_with (first | ((with_reducible refine gate_dst (N := 1) rfl ?_); (try (refine gate_guard (by rfl) ?_; dsimp only)); refine bx_ 1 47 #[.int .i64 a0_0, .int .i64 a0_1, .slice A0_2 l0_2.length c0_2] ?_; intro gb196 hg w4 hbox hb; have BK196 := Aside0.mk (hbox); have GW196 := Aside0.mk ((hz_ : w.heap.size ≤ gb196)); have GE196 := Aside0.mk ((hz_ : w.heap.size ≤ gb196)); replace HB := Aside0.mk (below_step bl_ hb); clear hb hbox hg; obtain ⟨hcz5_0, hcz5_1, hcz5_2, hfz5_0, hfz5_1, hfz5_2⟩ := cf3_ BK196.out))
 go_ret
 exact ⟨er_, bl_⟩


mutual
def spec_EventOk.j0 : Nat → Bool → Int → Int → Int → Int → Int → List (S98) → ByteArray → Option (Bool)
 | 0, _, _, _, _, _, _, _, _ => none
 | k + 1, x16, x198000, x198001, x198002, x198003, x198004, x198005, x198006 => if x16 = true then (some false) else (if x198000 = 1 then ((spec_CallOk.f k x198003 x198004 x198005).bind fun t199 => (if t199 = true then (spec_EventOk.j1 k false x198000 x198001 x198002 x198003 x198004 x198005 x198006) else (spec_EventOk.j1 k true x198000 x198001 x198002 x198003 x198004 x198005 x198006))) else ((spec_l21Nothing.f x198003 x198004 x198005).bind fun t200 => (spec_EventOk.j1 k (!t200) x198000 x198001 x198002 x198003 x198004 x198005 x198006)))
def spec_EventOk.j1 : Nat → Bool → Int → Int → Int → Int → Int → List (S98) → ByteArray → Option (Bool)
 | 0, _, _, _, _, _, _, _, _ => none
 | k + 1, x36, x198000, x198001, x198002, x198003, x198004, x198005, x198006 => if x36 = true then (some false) else (if x198000 = 2 then (some (decide ((x198006.size : Int) ≤ 1200))) else (some (x198006.toList == ([] : List UInt8))))
end
def spec_EventOk.f (k : Nat) (a0_0 : Int) (a0_1 : Int) (a0_2 : Int) (a0_3 : Int) (a0_4 : Int) (l0_5 : List (S98)) (a0_6 : ByteArray) : Option (Bool) := (spec_l01In.f a0_0 1 12).bind fun t198 => (if t198 = true then (if a0_1 < 0 then (spec_EventOk.j0 k true a0_0 a0_1 a0_2 a0_3 a0_4 l0_5 a0_6) else (spec_EventOk.j0 k (decide (a0_2 < 0)) a0_0 a0_1 a0_2 a0_3 a0_4 l0_5 a0_6)) else (spec_EventOk.j0 k true a0_0 a0_1 a0_2 a0_3 a0_4 l0_5 a0_6))
theorem spec_EventOk.mono_l : ∀ k, (∀ y0 y1 y2 y3 y4 y5 y6 y7, LeO (spec_EventOk.j0 k y0 y1 y2 y3 y4 y5 y6 y7) (spec_EventOk.j0 (k + 1) y0 y1 y2 y3 y4 y5 y6 y7)) ∧ (∀ y0 y1 y2 y3 y4 y5 y6 y7, LeO (spec_EventOk.j1 k y0 y1 y2 y3 y4 y5 y6 y7) (spec_EventOk.j1 (k + 1) y0 y1 y2 y3 y4 y5 y6 y7))
 | 0 => ⟨fun _ _ _ _ _ _ _ _ r h => by simp [spec_EventOk.j0] at h, fun _ _ _ _ _ _ _ _ r h => by simp [spec_EventOk.j1] at h⟩
 | k + 1 => by
  obtain ⟨ih0, ih1⟩ := spec_EventOk.mono_l k
  refine ⟨?_, ?_⟩
  ·intro y0 y1 y2 y3 y4 y5 y6 y7
   unfold spec_EventOk.j0
   have m0 := @spec_CallOk.mono
   exact mo_
  ·intro y0 y1 y2 y3 y4 y5 y6 y7
   unfold spec_EventOk.j1
   have m0 := @spec_CallOk.mono
   exact mo_
theorem spec_EventOk.mono : ∀ a0 a1 a2 a3 a4 a5 a6 k, LeO (spec_EventOk.f k a0 a1 a2 a3 a4 a5 a6) (spec_EventOk.f (k + 1) a0 a1 a2 a3 a4 a5 a6) := by
 intro a0 a1 a2 a3 a4 a5 a6 k
 obtain ⟨ih0, ih1⟩ := spec_EventOk.mono_l k
 unfold spec_EventOk.f
 have m0 := @spec_CallOk.mono
 exact mo_
theorem spec_EventOk.calls (k : Nat) (a0_0 : Int) (a0_1 : Int) (a0_2 : Int) (a0_3 : Int) (a0_4 : Int) (A0_5 : Option Addr) (c0_5 : Nat) (l0_5 : List (S98)) (a0_6 : ByteArray) (r : Bool) (w : World) (hr0_5 : Kd.C k98 w A0_5 l0_5.length l0_5) (hc0_5 : l0_5.length ≤ c0_5) (h : spec_EventOk.f k a0_0 a0_1 a0_2 a0_3 a0_4 l0_5 a0_6 = some r) :
 Calls Try.prog 43 #[.agg #[.int .i64 a0_0, .int .i64 a0_1, .int .i64 a0_2, .int .i64 a0_3, .int .i64 a0_4, .slice A0_5 l0_5.length c0_5, .string a0_6]] w fun e w' => e = .returned (.bool r) ∧ Below w.heap.size w w' := by
 have hu69 := Try.underlying69
 have hu47 := Try.underlying47
 have HR0_5 := Aside0.mk hr0_5
 have HC0_5 := Aside0.mk hc0_5
 clear hr0_5 hc0_5
 have HB := Aside0.mk (Below.refl w.heap.size w)
 have H := h
 unfold spec_EventOk.f at H
 clear h
 have HC2 := Aside0.mk H
 clear H
 go_enter Try.func43, Try.ntmps43
 go_upto_region 1 with (first | ((with_reducible refine gate_dst (N := 1) rfl ?_); refine bx_ 1 69 #[.int .i64 a0_0, .int .i64 a0_1, .int .i64 a0_2, .int .i64 a0_3, .int .i64 a0_4, .slice A0_5 l0_5.length c0_5, .string a0_6] ?_; intro gb197 hg w3 hbox hb; have BK197 := Aside0.mk (hbox); have GW197 := Aside0.mk ((hz_ : w.heap.size ≤ gb197)); have GE197 := Aside0.mk ((hz_ : w.heap.size ≤ gb197)); replace HB := Aside0.mk (below_step bl_ hb); clear hb hbox hg))
 (try simp only [Act.put, List.setIfInBounds_toArray, List.set_cons_zero, List.set_cons_succ])
 go_cut [16] (fun v16 wc => ∃ (kq : Nat) (x16_1 : Bool), v16 = .bool x16_1 ∧ Aside0 (spec_EventOk.j0 kq x16_1 a0_0 a0_1 a0_2 a0_3 a0_4 l0_5 a0_6 = some r) ∧ Aside0 (kq ≤ k) ∧ Aside0 (wc.heap[gb197]? = some (.cells #[.int .i64 a0_0, .int .i64 a0_1, .int .i64 a0_2, .int .i64 a0_3, .int .i64 a0_4, (.slice A0_5 l0_5.length c0_5), .string a0_6] 69 (0, 0))) ∧ Aside0 (Below w.heap.size w wc))
 case first =>
  have H := HC2.out
  clear HC2
  replace H := bs_ H
  obtain ⟨t198, A4, H⟩ := H
  try dsimp only at H
  by_cases c5 : t198 = true
  rotate_left
  ·replace c5 := Bool.eq_false_iff.mpr c5
   subst c5
   rw [nf_] at H
   have H' := Aside0.mk H
   clear H
   obtain ⟨hcz9_0, hcz9_1, hcz9_2, hcz9_3, hcz9_4, hcz9_5, hcz9_6, hfz9_0, hfz9_1, hfz9_2, hfz9_3, hfz9_4, hfz9_5, hfz9_6⟩ := cf7_ BK197.out
   go_wp2_with (first | ((with_reducible refine gate_callee (f := 87) rfl ?_); refine gs_ (some 5) Try.func87 #[.int .i64 a0_0, .int .i64 1, .int .i64 12] ?_; (with_reducible refine (spec_l01In.calls a0_0 1 12 false _ A4.out).mono ?_); rintro e w' ⟨rfl, ⟨nd, rfl⟩⟩; refine ⟨_, rfl, ?_⟩))
   go_meet
   case rel => exact ⟨_, (true), (sr_), H', ⟨by first | omega | exact Nat.le_refl _⟩, ⟨bk_ BK197.out⟩, ⟨bl_⟩⟩
  subst c5
  rw [if_pos rfl] at H
  by_cases c6 : a0_1 < 0
  rotate_left
  ·rw [if_neg c6] at H
   have c6b0 := decide_eq_false c6
   clear c6
   (first | rw [c6b0] | (simp only [i64_w, i32_w]; rw [c6b0]) | skip)
   have H' := Aside0.mk H
   clear H
   obtain ⟨hcz8_0, hcz8_1, hcz8_2, hcz8_3, hcz8_4, hcz8_5, hcz8_6, hfz8_0, hfz8_1, hfz8_2, hfz8_3, hfz8_4, hfz8_5, hfz8_6⟩ := cf7_ BK197.out
   go_wp2_with (first | ((with_reducible refine gate_callee (f := 87) rfl ?_); refine gs_ (some 5) Try.func87 #[.int .i64 a0_0, .int .i64 1, .int .i64 12] ?_; (with_reducible refine (spec_l01In.calls a0_0 1 12 true _ A4.out).mono ?_); rintro e w' ⟨rfl, ⟨nd, rfl⟩⟩; refine ⟨_, rfl, ?_⟩))
   go_meet
   case rel => exact ⟨_, (decide (a0_2 < 0)), (sr_), H', ⟨by first | omega | exact Nat.le_refl _⟩, ⟨bk_ BK197.out⟩, ⟨bl_⟩⟩
  rw [if_pos c6] at H
  have c6b0 := decide_eq_true c6
  clear c6
  (first | rw [c6b0] | (simp only [i64_w, i32_w]; rw [c6b0]) | skip)
  have H' := Aside0.mk H
  clear H
  obtain ⟨hcz7_0, hcz7_1, hcz7_2, hcz7_3, hcz7_4, hcz7_5, hcz7_6, hfz7_0, hfz7_1, hfz7_2, hfz7_3, hfz7_4, hfz7_5, hfz7_6⟩ := cf7_ BK197.out
  go_wp2_with (first | ((with_reducible refine gate_callee (f := 87) rfl ?_); refine gs_ (some 5) Try.func87 #[.int .i64 a0_0, .int .i64 1, .int .i64 12] ?_; (with_reducible refine (spec_l01In.calls a0_0 1 12 true _ A4.out).mono ?_); rintro e w' ⟨rfl, ⟨nd, rfl⟩⟩; refine ⟨_, rfl, ?_⟩))
  go_meet
  case rel => exact ⟨_, (true), (sr_), H', ⟨by first | omega | exact Nat.le_refl _⟩, ⟨bk_ BK197.out⟩, ⟨bl_⟩⟩
 clear HC2
 obtain ⟨kq, x16_1, rfl, HA, HJ1, BK197, HB⟩ := hcut
 cases kq with
 | zero => exact absurd HA.out (by simp [spec_EventOk.j0])
 | succ kj1 => ?_
 have H := HA.out
 clear HA
 simp only [spec_EventOk.j0] at H
 by_cases c10 : x16_1 = true
 ·subst c10
  rw [if_pos rfl] at H
  obtain rfl := Option.some.inj H
  go_wp2
  go_ret
  exact ⟨er_, bl_⟩
 replace c10 := Bool.eq_false_iff.mpr c10
 subst c10
 rw [nf_] at H
 have HC11 := Aside0.mk H
 clear H
 go_upto_region 3 with (fail)
 go_cut [36] (fun v36 wc => ∃ (kq : Nat) (x36_10 : Bool), v36 = .bool x36_10 ∧ Aside0 (spec_EventOk.j1 kq x36_10 a0_0 a0_1 a0_2 a0_3 a0_4 l0_5 a0_6 = some r) ∧ Aside0 (kq ≤ kj1) ∧ Aside0 (wc.heap[gb197]? = some (.cells #[.int .i64 a0_0, .int .i64 a0_1, .int .i64 a0_2, .int .i64 a0_3, .int .i64 a0_4, (.slice A0_5 l0_5.length c0_5), .string a0_6] 69 (0, 0))) ∧ Aside0 (Below w.heap.size w wc))
 case first =>
  have H := HC11.out
  clear HC11
  by_cases c12 : a0_0 = 1
  rotate_left
  ·rw [if_neg c12] at H
   have c12b0 : (a0_0 == 1) = false := beq_eq_false_iff_ne.mpr c12
   have c12b1 : (a0_0 != 1) = true := bne_iff_ne.mpr c12
   (first | rw [c12b0] | (simp only [i64_w, i32_w]; rw [c12b0]) | skip)
   replace H := bs_ H
   obtain ⟨t200, A20, H⟩ := H
   try dsimp only at H
   have H' := Aside0.mk H
   clear H
   obtain ⟨hcz21_0, hcz21_1, hcz21_2, hcz21_3, hcz21_4, hcz21_5, hcz21_6, hfz21_0, hfz21_1, hfz21_2, hfz21_3, hfz21_4, hfz21_5, hfz21_6⟩ := cf7_ BK197.out
   go_wp2_with (first | (go_at_call 88; (with_reducible refine (spec_l21Nothing.calls a0_3 a0_4 _ _ l0_5 t200 _ ?side1 ?side2 A20.out).mono ?_); (case side1 => exact cb_ HR0_5.out HB.out); (case side2 => exact HC0_5.out); rintro e w22 ⟨rfl, hb⟩; replace BK197 := Aside0.mk (blk_below (bn0_ BK197.out) hb); replace HB := Aside0.mk (below_step bl_ hb); (try clear hb)))
   go_meet
   case rel => exact ⟨_, (!t200), (sr_), H', ⟨by have := HJ1.out; first | omega | exact Nat.le_refl _⟩, ⟨bk_ BK197.out⟩, ⟨bl_⟩⟩
  rw [if_pos c12] at H
  have c12b0 : (a0_0 == 1) = true := beq_iff_eq.mpr c12
  have c12b1 : (a0_0 != 1) = false := bne_eq_false_iff_eq.mpr c12
  clear c12
  (first | rw [c12b0] | (simp only [i64_w, i32_w]; rw [c12b0]) | skip)
  replace H := bs_ H
  obtain ⟨t199, A13, H⟩ := H
  try dsimp only at H
  by_cases c14 : t199 = true
  ·subst c14
   rw [if_pos rfl] at H
   have H' := Aside0.mk H
   clear H
   obtain ⟨hcz15_0, hcz15_1, hcz15_2, hcz15_3, hcz15_4, hcz15_5, hcz15_6, hfz15_0, hfz15_1, hfz15_2, hfz15_3, hfz15_4, hfz15_5, hfz15_6⟩ := cf7_ BK197.out
   go_wp2_with (first | (go_at_call 71; (with_reducible refine (spec_CallOk.calls kj1 a0_3 a0_4 _ _ l0_5 true _ ?side1 ?side2 A13.out).mono ?_); (case side1 => exact cb_ HR0_5.out HB.out); (case side2 => exact HC0_5.out); rintro e w16 ⟨rfl, hb⟩; replace BK197 := Aside0.mk (blk_below (bn0_ BK197.out) hb); replace HB := Aside0.mk (below_step bl_ hb); (try clear hb); obtain ⟨hcz17_0, hcz17_1, hcz17_2, hcz17_3, hcz17_4, hcz17_5, hcz17_6, hfz17_0, hfz17_1, hfz17_2, hfz17_3, hfz17_4, hfz17_5, hfz17_6⟩ := cf7_ BK197.out))
   go_meet
   case rel => exact ⟨_, (false), (sr_), H', ⟨by have := HJ1.out; first | omega | exact Nat.le_refl _⟩, ⟨bk_ BK197.out⟩, ⟨bl_⟩⟩
  replace c14 := Bool.eq_false_iff.mpr c14
  subst c14
  rw [nf_] at H
  have H' := Aside0.mk H
  clear H
  obtain ⟨hcz18_0, hcz18_1, hcz18_2, hcz18_3, hcz18_4, hcz18_5, hcz18_6, hfz18_0, hfz18_1, hfz18_2, hfz18_3, hfz18_4, hfz18_5, hfz18_6⟩ := cf7_ BK197.out
  go_wp2_with (first | (go_at_call 71; (with_reducible refine (spec_CallOk.calls kj1 a0_3 a0_4 _ _ l0_5 false _ ?side1 ?side2 A13.out).mono ?_); (case side1 => exact cb_ HR0_5.out HB.out); (case side2 => exact HC0_5.out); rintro e w19 ⟨rfl, hb⟩; replace BK197 := Aside0.mk (blk_below (bn0_ BK197.out) hb); replace HB := Aside0.mk (below_step bl_ hb); (try clear hb)))
  go_meet
  case rel => exact ⟨_, (true), (sr_), H', ⟨by have := HJ1.out; first | omega | exact Nat.le_refl _⟩, ⟨bk_ BK197.out⟩, ⟨bl_⟩⟩
 clear HC11
 try clear c10
 obtain ⟨kq, x36_10, rfl, HA, HJ10, BK197, HB⟩ := hcut
 cases kq with
 | zero => exact absurd HA.out (by simp [spec_EventOk.j1])
 | succ kj10 => ?_
 have H := HA.out
 clear HA
 simp only [spec_EventOk.j1] at H
 by_cases c23 : x36_10 = true
 ·subst c23
  rw [if_pos rfl] at H
  obtain rfl := Option.some.inj H
  go_wp2
  go_ret
  exact ⟨er_, bl_⟩
 replace c23 := Bool.eq_false_iff.mpr c23
 subst c23
 rw [nf_] at H
 by_cases c24 : a0_0 = 2
 rotate_left
 ·rw [if_neg c24] at H
  have c24b0 : (a0_0 == 2) = false := beq_eq_false_iff_ne.mpr c24
  have c24b1 : (a0_0 != 2) = true := bne_iff_ne.mpr c24
  obtain rfl := Option.some.inj H
  obtain ⟨hcz26_0, hcz26_1, hcz26_2, hcz26_3, hcz26_4, hcz26_5, hcz26_6, hfz26_0, hfz26_1, hfz26_2, hfz26_3, hfz26_4, hfz26_5, hfz26_6⟩ := cf7_ BK197.out
  go_wp2
  go_ret
  exact ⟨er_, bl_⟩
 rw [if_pos c24] at H
 have c24b0 : (a0_0 == 2) = true := beq_iff_eq.mpr c24
 have c24b1 : (a0_0 != 2) = false := bne_eq_false_iff_eq.mpr c24
 clear c24
 obtain rfl := Option.some.inj H
 obtain ⟨hcz25_0, hcz25_1, hcz25_2, hcz25_3, hcz25_4, hcz25_5, hcz25_6, hfz25_0, hfz25_1, hfz25_2, hfz25_3, hfz25_4, hfz25_5, hfz25_6⟩ := cf7_ BK197.out
 go_wp2
 go_ret
 exact ⟨er_, bl_⟩


mutual
def spec_ReadScript.l0 : Nat → List (S69) → List (S69) → Int → Bool → List ByteArray → Int → Option ((List (S69)) × Int × Int)
 | 0, _, _, _, _, _, _ => none
 | k + 1, x5, x6, x7, x8, x9, x10 => if x10 < (x9.length : Int) then (if 0 ≤ x10 then ((spec_PartsOf.f k (rdOf ByteArray.empty x9 x10)).bind fun bt211 => (if bt211.2 = true then (if (bt211.1.length : Int) = 0 then (spec_ReadScript.j1 k x5 x6 x7 x8 x9 x10 bt211.1 bt211.2 true) else (if 0 < (bt211.1.length : Int) then (if 0 < ((rdOf ByteArray.empty bt211.1 0).size : Int) then (spec_ReadScript.j1 k x5 x6 x7 x8 x9 x10 bt211.1 bt211.2 ((bt (rdOf ByteArray.empty bt211.1 0) 0) == 35)) else (none)) else (none))) else (spec_ReadScript.j1 k x5 x6 x7 x8 x9 x10 bt211.1 bt211.2 false))) else (none)) else (some (x6, x7, 0))
def spec_ReadScript.j1 : Nat → List (S69) → List (S69) → Int → Bool → List ByteArray → Int → List ByteArray → Bool → Bool → Option ((List (S69)) × Int × Int)
 | 0, _, _, _, _, _, _, _, _, _ => none
 | k + 1, x5, x6, x7, x8, x9, x10, x11, x12, x51 => if x51 = true then (spec_ReadScript.l0 k x5 x6 x7 x8 x9 (wrap64 (x10 + 1))) else (if x12 = true then (spec_ReadScript.j2 k x5 x6 x7 x8 x9 x10 x11 x8) else (spec_ReadScript.j2 k x5 x6 x7 x8 x9 x10 x11 true))
def spec_ReadScript.j2 : Nat → List (S69) → List (S69) → Int → Bool → List ByteArray → Int → List ByteArray → Bool → Option ((List (S69)) × Int × Int)
 | 0, _, _, _, _, _, _, _, _ => none
 | k + 1, x5, x6, x7, x8, x9, x10, x11, x56 => if x56 = true then (some (x5, 0, wrap64 (x10 + 1))) else (if 0 < (x11.length : Int) then (if (rdOf ByteArray.empty x11 0).toList = ([99, 97, 108, 109] : List UInt8) then (if 1 ≤ (x11.length : Int) then ((spec_l30Nums.f k (x11.drop 1)).bind fun bt221 => (if bt221.2 = true then (if (bt221.1.length : Int) = 1 then (if 0 < (bt221.1.length : Int) then (spec_ReadScript.l0 k x5 x6 (rd bt221.1 0) true x9 (wrap64 (x10 + 1))) else (none)) else (some (x5, 0, wrap64 (x10 + 1)))) else (some (x5, 0, wrap64 (x10 + 1))))) else (none)) else ((spec_l30Event.f k x11).bind fun bt226 => (if bt226.2.2.2.2.2.2.2 = true then ((spec_EventOk.f k bt226.1 bt226.2.1 bt226.2.2.1 bt226.2.2.2.1 bt226.2.2.2.2.1 bt226.2.2.2.2.2.1 bt226.2.2.2.2.2.2.1).bind fun t237 => (if t237 = true then (if (x6.length : Int) = 90 then (some (x5, 0, wrap64 (x10 + 1))) else (if x6.length < 1759218604441 then (spec_ReadScript.l0 k x5 (x6 ++ [(⟨bt226.1, bt226.2.1, bt226.2.2.1, (⟨bt226.2.2.2.1, bt226.2.2.2.2.1, bt226.2.2.2.2.2.1⟩ : S47), bt226.2.2.2.2.2.2.1⟩ : S69)]) x7 x8 x9 (wrap64 (x10 + 1))) else (none))) else (some (x5, 0, wrap64 (x10 + 1))))) else (some (x5, 0, wrap64 (x10 + 1)))))) else (none))
end
def spec_ReadScript.f (k : Nat) (a0 : ByteArray) : Option ((List (S69)) × Int × Int) := (some (([] : List (S69)) : List (S69))).bind fun y201 => (if (a0.size : Int) > 3000 then (some (y201, 0, (-1))) else ((spec_l30Lines.f k a0).bind fun t207 => (spec_ReadScript.l0 k y201 (([] : List (S69))) 0 false t207 0)))
theorem spec_ReadScript.mono_l : ∀ k, (∀ y0 y1 y2 y3 y4 y5, LeO (spec_ReadScript.l0 k y0 y1 y2 y3 y4 y5) (spec_ReadScript.l0 (k + 1) y0 y1 y2 y3 y4 y5)) ∧ (∀ y0 y1 y2 y3 y4 y5 y6 y7 y8, LeO (spec_ReadScript.j1 k y0 y1 y2 y3 y4 y5 y6 y7 y8) (spec_ReadScript.j1 (k + 1) y0 y1 y2 y3 y4 y5 y6 y7 y8)) ∧ (∀ y0 y1 y2 y3 y4 y5 y6 y7, LeO (spec_ReadScript.j2 k y0 y1 y2 y3 y4 y5 y6 y7) (spec_ReadScript.j2 (k + 1) y0 y1 y2 y3 y4 y5 y6 y7))
 | 0 => ⟨fun _ _ _ _ _ _ r h => by simp [spec_ReadScript.l0] at h, fun _ _ _ _ _ _ _ _ _ r h => by simp [spec_ReadScript.j1] at h, fun _ _ _ _ _ _ _ _ r h => by simp [spec_ReadScript.j2] at h⟩
 | k + 1 => by
  obtain ⟨ih0, ih1, ih2⟩ := spec_ReadScript.mono_l k
  refine ⟨?_, ?_, ?_⟩
  ·intro y0 y1 y2 y3 y4 y5
   unfold spec_ReadScript.l0
   have m0 := @spec_EventOk.mono
   have m1 := @spec_PartsOf.mono
   have m2 := @spec_l30Event.mono
   have m3 := @spec_l30Lines.mono
   have m4 := @spec_l30Nums.mono
   exact mo_
  ·intro y0 y1 y2 y3 y4 y5 y6 y7 y8
   unfold spec_ReadScript.j1
   have m0 := @spec_EventOk.mono
   have m1 := @spec_PartsOf.mono
   have m2 := @spec_l30Event.mono
   have m3 := @spec_l30Lines.mono
   have m4 := @spec_l30Nums.mono
   exact mo_
  ·intro y0 y1 y2 y3 y4 y5 y6 y7
   unfold spec_ReadScript.j2
   have m0 := @spec_EventOk.mono
   have m1 := @spec_PartsOf.mono
   have m2 := @spec_l30Event.mono
   have m3 := @spec_l30Lines.mono
   have m4 := @spec_l30Nums.mono
   exact mo_
theorem spec_ReadScript.mono : ∀ a0 k, LeO (spec_ReadScript.f k a0) (spec_ReadScript.f (k + 1) a0) := by
 intro a0 k
 obtain ⟨ih0, ih1, ih2⟩ := spec_ReadScript.mono_l k
 unfold spec_ReadScript.f
 have m0 := @spec_EventOk.mono
 have m1 := @spec_PartsOf.mono
 have m2 := @spec_l30Event.mono
 have m3 := @spec_l30Lines.mono
 have m4 := @spec_l30Nums.mono
 exact mo_
theorem spec_ReadScript.calls (k : Nat) (a0 : ByteArray) (r1 : List (S69)) (r2 : Int) (r3 : Int) (w : World) (h : spec_ReadScript.f k a0 = some (r1, r2, r3)) :
 Calls Try.prog 7 #[.string a0] w fun e w' => ∃ v0_ : Value, e = .returned (.tuple #[v0_, .int .i64 r2, .int .i64 r3]) ∧ Kd.S k69 69 w' w.heap.size (fun _ => True) v0_ r1 ∧ Below w.heap.size w w' := by
 have hu69 := Try.underlying69
 have HB := Aside0.mk (Below.refl w.heap.size w)
 have H := h
 unfold spec_ReadScript.f at H
 clear h
 obtain ⟨y201, hy201⟩ : ∃ y_ : List (S69), y_ = (([] : List (S69))) := ⟨_, rfl⟩
 replace H : (if (a0.size : Int) > 3000 then (some (y201, 0, (-1))) else ((spec_l30Lines.f k a0).bind fun t207 => (spec_ReadScript.l0 k y201 (([] : List (S69))) 0 false t207 0))) = some (r1, r2, r3) := rp_ H hy201
 have Ny201 := Aside0.mk hy201
 clear hy201
 by_cases c2 : (a0.size : Int) > 3000
 ·rw [if_pos c2] at H
  have c2b0 := decide_eq_true c2
  have c2b1 : decide (3000 < a0.size) = true := decide_eq_true (by omega)
  clear c2
  simp only [Option.some.injEq, Prod.mk.injEq] at H
  obtain ⟨rfl, rfl, rfl⟩ := H
  go_enter Try.func7, Try.ntmps7
  go_wp2_with (first | ((with_reducible refine gate_dst (N := 17) rfl ?_); (try (refine gate_guard (by rfl) ?_; dsimp only)); refine Kd.S_lit k69 _ 69 ?hg (N := 17) ?hd (xs := ([] : List (S69))) (inner := []) (ok := fun _ => True) (okp := fun _ => True) ?hr ?hp (fun _ hk => hk) trivial (Below.refl _ _) (Nat.le_refl _) (by simp) ?_; (case hd => rfl); (case hg => rfl); (case hr => first | (go_simp; done) | (go_simp; rfl)); (case hp => exact (Reps.none _ _)); intro v202 w3 ho4 hb hg_ hnew_; clear hg_ hnew_; (first | rw [← Ny201.out] at ho4 | (simp only [Int.reduceToNat] at ho4; rw [← Ny201.out] at ho4)); have HO203 := Aside0.mk (Kd.S_lower ho4 (below_size bl_)); replace HB := Aside0.mk (below_step bl_ hb); clear hb ho4))
  go_ret3
  exact ⟨_, er_, by (with_reducible repeat (first | apply Kd.S_alloc | apply Kd.S_drewN | apply Kd.S_drew)); exact HO203.out, bl_⟩
 rw [if_neg c2] at H
 have c2b0 := decide_eq_false c2
 have c2b1 : decide (3000 < a0.size) = false := decide_eq_false (by omega)
 clear c2
 obtain ⟨y204, hy204⟩ : ∃ y_ : List (S69), y_ = (([] : List (S69))) := ⟨_, rfl⟩
 replace H : ((spec_l30Lines.f k a0).bind fun t207 => (spec_ReadScript.l0 k y201 y204 0 false t207 0)) = some (r1, r2, r3) := rp_ H hy204
 have Ny204 := Aside0.mk hy204
 clear hy204
 replace H := bs_ H
 obtain ⟨t207, A5, H⟩ := H
 try dsimp only at H
 have H' := Aside0.mk H
 clear H
 go_enter Try.func7, Try.ntmps7
 go_wp2_with (first | ((with_reducible refine gate_dst (N := 17) rfl ?_); (try (refine gate_guard (by rfl) ?_; dsimp only)); refine Kd.S_lit k69 _ 69 ?hg (N := 17) ?hd (xs := ([] : List (S69))) (inner := []) (ok := fun _ => True) (okp := fun _ => True) ?hr ?hp (fun _ hk => hk) trivial (Below.refl _ _) (Nat.le_refl _) (by simp) ?_; (case hd => rfl); (case hg => rfl); (case hr => first | (go_simp; done) | (go_simp; rfl)); (case hp => exact (Reps.none _ _)); intro v202 w6 ho7 hb hg_ hnew_; clear hg_ hnew_; (first | rw [← Ny201.out] at ho7 | (simp only [Int.reduceToNat] at ho7; rw [← Ny201.out] at ho7)); have HO203 := Aside0.mk (Kd.S_lower ho7 (below_size bl_)); replace HB := Aside0.mk (below_step bl_ hb); clear hb ho7) | ((with_reducible refine gate_dst (N := 22) rfl ?_); (try (refine gate_guard (by rfl) ?_; dsimp only)); refine Kd.S_lit k69 _ 69 ?hg (N := 22) ?hd (xs := ([] : List (S69))) (inner := []) (ok := fun _ => True) (okp := fun _ => True) ?hr ?hp (fun _ hk => hk) trivial (Below.refl _ _) (Nat.le_refl _) (by simp) ?_; (case hd => rfl); (case hg => rfl); (case hr => first | (go_simp; done) | (go_simp; rfl)); (case hp => exact (Reps.none _ _)); intro v205 w8 ho9 hb hg_ hnew_; clear hg_ hnew_; (first | rw [← Ny204.out] at ho9 | (simp only [Int.reduceToNat] at ho9; rw [← Ny204.out] at ho9)); have HO206 := Aside0.mk (Kd.S_lower (Kd.S_new' ho9 (Kd.S_lt (by (with_reducible repeat (first | apply Kd.S_alloc | apply Kd.S_drewN | apply Kd.S_drew)); exact HO203.out))) (below_size bl_)); replace HO203 := Aside0.mk (Kd.S_elder' (by (with_reducible repeat (first | apply Kd.S_alloc | apply Kd.S_drewN | apply Kd.S_drew)); exact HO203.out) (Kd.S_base ho9) hb); replace HB := Aside0.mk (below_step bl_ hb); clear hb ho9) | ((with_reducible refine gate_callee (f := 39) rfl ?_); refine gs_ (some 24) Try.func39 #[.string a0] ?_; (with_reducible refine (spec_l30Lines.calls k a0 t207 _ A5.out).mono ?_); rintro e w10 ⟨v208, rfl, ho0, hb⟩; refine ⟨_, rfl, ?_⟩; replace HO203 := Aside0.mk (Kd.S_below (by (with_reducible repeat (first | apply Kd.S_alloc | apply Kd.S_drewN | apply Kd.S_drew)); exact HO203.out) hb); replace HO206 := Aside0.mk (Kd.S_below (by (with_reducible repeat (first | apply Kd.S_alloc | apply Kd.S_drewN | apply Kd.S_drew)); exact HO206.out) hb); have HO209 := Aside0.mk (Kd.R_lower ho0 (below_size bl_)); replace HB := Aside0.mk (below_step bl_ hb); (try clear hb); (try clear ho0)))
 go_loopg [6, 7, 8, 10] k (fun kq v6 v7 v8 v10 w' => ∃ (x6_1 : List (S69)) (x7_1 : Int) (x8_1 : Bool) (x10_1 : Int), v7 = .int .i64 x7_1 ∧ v8 = .bool x8_1 ∧ v10 = .int .i64 x10_1 ∧ Aside0 (spec_ReadScript.l0 kq y201 x6_1 x7_1 x8_1 t207 x10_1 = some (r1, r2, r3)) ∧ Aside0 (kq ≤ k) ∧ Aside0 (Kd.S k69 69 w' w.heap.size (fun k_ => some k_ ≠ (v6 : Value).ownBlock) v202 y201) ∧ Aside0 (Kd.S k69 69 w' w.heap.size (fun k_ => some k_ ≠ (v202 : Value).ownBlock) v6 x6_1) ∧ Aside0 (Kd.R Kd.string 9 w' w.heap.size (fun _ => True) v208 t207) ∧ Aside0 (Below w.heap.size w w'))
 case atStart => exact ⟨(y204), (0), (false), (0), (sr_), (sr_), (sr_), H', ⟨Nat.le_refl _⟩, ⟨by (with_reducible repeat (first | apply Kd.S_alloc | apply Kd.S_drewN | apply Kd.S_drew)); exact Kd.S_mono HO203.out (fun _ hk => hk.2)⟩, ⟨by (with_reducible repeat (first | apply Kd.S_alloc | apply Kd.S_drewN | apply Kd.S_drew)); exact Kd.S_mono HO206.out (fun _ hk => hk.2)⟩, ⟨ra_ HO209.out⟩, ⟨bl_⟩⟩
 clear H'
 try clear c2
 try clear c2b0
 try clear c2b1
 obtain ⟨x6_1, x7_1, x8_1, x10_1, rfl, rfl, rfl, HA, HK1, HO_5, HO_6, HO_9, HB⟩ := hrel
 cases gk with
 | zero => exact absurd HA.out (by simp [spec_ReadScript.l0])
 | succ k1 => ?_
 have H := HA.out
 clear HA
 simp only [spec_ReadScript.l0] at H
 by_cases c11 : x10_1 < (t207.length : Int)
 rotate_left
 ·rw [if_neg c11] at H
  have c11b0 := decide_eq_false c11
  clear c11
  simp only [Option.some.injEq, Prod.mk.injEq] at H
  obtain ⟨rfl, rfl, rfl⟩ := H
  obtain ⟨Ao79, co79, eo79⟩ := Kd.R_slice HO_9.out
  subst eo79
  go_wp2
  go_ret3
  exact ⟨_, er_, by (with_reducible repeat (first | apply Kd.S_alloc | apply Kd.S_drewN | apply Kd.S_drew)); exact Kd.S_mono HO_6.out (fun _ hk => trivial), bl_⟩
 rw [if_pos c11] at H
 have c11b0 := decide_eq_true c11
 clear c11
 by_cases c12 : 0 ≤ x10_1
 rotate_left
 ·exact nn_ c12 H
 rw [if_pos c12] at H
 have c12b0 := decide_eq_true c12
 clear c12
 replace H := bs_ H
 obtain ⟨⟨t211, t212⟩, A13, H⟩ := H
 try dsimp only at H
 have HC14 := Aside0.mk H
 clear H
 obtain ⟨Ao15, co15, eo15⟩ := Kd.R_slice HO_9.out
 subst eo15
 have p210 : 0 ≤ (x10_1 : Int) := of_decide_eq_true as_
 have q210 : x10_1 < (t207.length : Int) := of_decide_eq_true as_
 obtain ⟨ad210, e210, hx210_0⟩ := Kd.at_string (Kd.R_reads' HO_9.out).2.2 x10_1 p210 q210
 cases e210
 replace p210 := eq_true p210
 replace q210 := eq_true q210
 go_upto_region 12 with (first | ((with_reducible refine gate_callee (f := 40) rfl ?_); refine gs_ (some 36) Try.func40 #[.string (rdOf ByteArray.empty t207 x10_1)] ?_; (with_reducible refine (spec_PartsOf.calls k1 (rdOf ByteArray.empty t207 x10_1) t211 t212 _ A13.out).mono ?_); rintro e w16 ⟨v213, rfl, ho0, hb⟩; refine ⟨_, rfl, ?_⟩; replace HO_5 := Aside0.mk (Kd.S_below (by (with_reducible repeat (first | apply Kd.S_alloc | apply Kd.S_drewN | apply Kd.S_drew)); exact HO_5.out) hb); replace HO_6 := Aside0.mk (Kd.S_below (by (with_reducible repeat (first | apply Kd.S_alloc | apply Kd.S_drewN | apply Kd.S_drew)); exact HO_6.out) hb); have HO214 := Aside0.mk (Kd.R_lower (Kd.R_new' ho0 (Kd.R_lt (ra_ HO_9.out))) (below_size bl_)); replace HO_9 := Aside0.mk (Kd.R_elder' (ra_ HO_9.out) (Kd.R_base ho0) hb); replace HB := Aside0.mk (below_step bl_ hb); (try clear hb); (try clear ho0)))
 (try simp only [Act.put, List.setIfInBounds_toArray, List.set_cons_zero, List.set_cons_succ])
 go_cut [51] (fun v51 wc => ∃ (kq : Nat) (x51_13 : Bool), v51 = .bool x51_13 ∧ Aside0 (spec_ReadScript.j1 kq y201 x6_1 x7_1 x8_1 t207 x10_1 t211 t212 x51_13 = some (r1, r2, r3)) ∧ Aside0 (kq ≤ k1) ∧ Aside0 (Kd.S k69 69 wc w.heap.size (fun k_ => some k_ ≠ (u6 : Value).ownBlock) v202 y201) ∧ Aside0 (Kd.S k69 69 wc w.heap.size (fun k_ => some k_ ≠ (v202 : Value).ownBlock) u6 x6_1) ∧ Aside0 (Kd.R Kd.string 9 wc w.heap.size (fun k_ => some k_ ≠ (v213 : Value).ownBlock) (.slice (some ad210) t207.length co15) t207) ∧ Aside0 (Kd.R Kd.string 9 wc w.heap.size (fun k_ => some k_ ≠ ((.slice (some ad210) t207.length co15) : Value).ownBlock) v213 t211) ∧ Aside0 (Below w.heap.size w wc))
 case first =>
  have H := HC14.out
  clear HC14
  by_cases c17 : t212 = true
  rotate_left
  ·replace c17 := Bool.eq_false_iff.mpr c17
   subst c17
   rw [nf_] at H
   have H' := Aside0.mk H
   clear H
   go_wp2
   go_meet
   case rel => exact ⟨_, (false), (sr_), H', ⟨by have := HK1.out; first | omega | exact Nat.le_refl _⟩, ⟨by (with_reducible repeat (first | apply Kd.S_alloc | apply Kd.S_drewN | apply Kd.S_drew)); exact HO_5.out⟩, ⟨by (with_reducible repeat (first | apply Kd.S_alloc | apply Kd.S_drewN | apply Kd.S_drew)); exact HO_6.out⟩, ⟨by (with_reducible repeat (first | apply Kd.R_alloc | apply Kd.R_drewN | apply Kd.R_drew)); exact Kd.R_mono HO_9.out (fun _ hk => hk.2)⟩, ⟨by (with_reducible repeat (first | apply Kd.R_alloc | apply Kd.R_drewN | apply Kd.R_drew)); exact Kd.R_mono HO214.out (fun _ hk => hk.2)⟩, ⟨bl_⟩⟩
  subst c17
  rw [if_pos rfl] at H
  by_cases c18 : (t211.length : Int) = 0
  ·rw [if_pos c18] at H
   have c18b0 : ((t211.length : Int) == 0) = true := beq_iff_eq.mpr c18
   have c18b1 : ((t211.length : Int) != 0) = false := bne_eq_false_iff_eq.mpr c18
   clear c18
   (first | rw [c18b0] | (simp only [i64_w, i32_w]; rw [c18b0]) | skip)
   have H' := Aside0.mk H
   clear H
   obtain ⟨Ao19, co19, eo19⟩ := Kd.R_slice HO214.out
   subst eo19
   go_wp2
   go_meet
   case rel => exact ⟨_, (true), (sr_), H', ⟨by have := HK1.out; first | omega | exact Nat.le_refl _⟩, ⟨by (with_reducible repeat (first | apply Kd.S_alloc | apply Kd.S_drewN | apply Kd.S_drew)); exact HO_5.out⟩, ⟨by (with_reducible repeat (first | apply Kd.S_alloc | apply Kd.S_drewN | apply Kd.S_drew)); exact HO_6.out⟩, ⟨by (with_reducible repeat (first | apply Kd.R_alloc | apply Kd.R_drewN | apply Kd.R_drew)); exact Kd.R_mono HO_9.out (fun _ hk => hk.2)⟩, ⟨by (with_reducible repeat (first | apply Kd.R_alloc | apply Kd.R_drewN | apply Kd.R_drew)); exact Kd.R_mono HO214.out (fun _ hk => hk.2)⟩, ⟨bl_⟩⟩
  rw [if_neg c18] at H
  have c18b0 : ((t211.length : Int) == 0) = false := beq_eq_false_iff_ne.mpr c18
  have c18b1 : ((t211.length : Int) != 0) = true := bne_iff_ne.mpr c18
  have c18b2 : ¬ (t211 = []) := fun h_ => c18 (by rw [h_]; rfl)
  (first | rw [c18b0] | (simp only [i64_w, i32_w]; rw [c18b0]) | skip)
  by_cases c20 : 0 < (t211.length : Int)
  rotate_left
  ·exact nn_ c20 H
  rw [if_pos c20] at H
  have c20b0 := decide_eq_true c20
  have c20b1 : decide (0 < t211.length) = true := decide_eq_true (by omega)
  clear c20
  by_cases c21 : 0 < ((rdOf ByteArray.empty t211 0).size : Int)
  rotate_left
  ·exact nn_ c21 H
  rw [if_pos c21] at H
  have c21b0 := decide_eq_true c21
  have c21b1 : decide (0 < (rdOf ByteArray.empty t211 0).size) = true := decide_eq_true (by omega)
  clear c21
  have H' := Aside0.mk H
  clear H
  obtain ⟨Ao23, co23, eo23⟩ := Kd.R_slice HO214.out
  subst eo23
  have p215 : 0 ≤ (0 : Int) := (by omega)
  have q215 : 0 < (t211.length : Int) := of_decide_eq_true as_
  obtain ⟨ad215, e215, hx215_0⟩ := Kd.at_string (Kd.R_reads' HO214.out).2.2 0 p215 q215
  cases e215
  have qi215 : (0 < t211.length) = True := eq_true (by omega)
  (try rw [show ((0 : Int)).toNat = 0 from rfl] at hx215_0)
  (try rw [Addr.add_zero'] at hx215_0)
  replace p215 := eq_true p215
  replace q215 := eq_true q215
  have p22 : 0 ≤ (0 : Int) := (by omega)
  have q22 : 0 < (rdOf ByteArray.empty t211 0).size := (by have : (0 : Int) < ((rdOf ByteArray.empty t211 0).size : Int) := of_decide_eq_true as_; omega)
  have hx22 : ∀ h : 0 < (rdOf ByteArray.empty t211 0).size, (((rdOf ByteArray.empty t211 0)[0]'h).toNat : Int) = bt (rdOf ByteArray.empty t211 0) 0 := bt_at (rdOf ByteArray.empty t211 0) 0
  clear p22
  have qi22 : (0 < ((rdOf ByteArray.empty t211 0).size : Int)) = True := eq_true (of_decide_eq_true as_)
  replace q22 := eq_true q22
  go_wp2
  go_meet
  case rel => exact ⟨_, (((bt (rdOf ByteArray.empty t211 0) 0) == 35)), (sr_), H', ⟨by have := HK1.out; first | omega | exact Nat.le_refl _⟩, ⟨by (with_reducible repeat (first | apply Kd.S_alloc | apply Kd.S_drewN | apply Kd.S_drew)); exact HO_5.out⟩, ⟨by (with_reducible repeat (first | apply Kd.S_alloc | apply Kd.S_drewN | apply Kd.S_drew)); exact HO_6.out⟩, ⟨by (with_reducible repeat (first | apply Kd.R_alloc | apply Kd.R_drewN | apply Kd.R_drew)); exact Kd.R_mono HO_9.out (fun _ hk => hk.2)⟩, ⟨by (with_reducible repeat (first | apply Kd.R_alloc | apply Kd.R_drewN | apply Kd.R_drew)); exact Kd.R_mono HO214.out (fun _ hk => hk.2)⟩, ⟨bl_⟩⟩
 clear HC14
 try clear c2
 try clear c2b0
 try clear c2b1
 try clear c11
 try clear c11b0
 try clear c12
 try clear c12b0
 try clear hx210_0
 try clear p210
 try clear q210
 obtain ⟨kq, x51_13, rfl, HA, HJ13, HO_5, HO_6, HO_9, HO_11, HB⟩ := hcut
 cases kq with
 | zero => exact absurd HA.out (by simp [spec_ReadScript.j1])
 | succ kj13 => ?_
 have H := HA.out
 clear HA
 simp only [spec_ReadScript.j1] at H
 by_cases c24 : x51_13 = true
 ·subst c24
  rw [if_pos rfl] at H
  have H' := Aside0.mk H
  clear H
  go_wp2
  go_roundg kj13
  case measure => have := HK1.out; have := HJ13.out; omega
  case rel => exact ⟨(x6_1), (x7_1), (x8_1), (wrap64 (x10_1 + 1)), (sr_), (sr_), (sr_), H', ⟨by have := HK1.out; have := HJ13.out; omega⟩, ⟨by (with_reducible repeat (first | apply Kd.S_alloc | apply Kd.S_drewN | apply Kd.S_drew)); exact HO_5.out⟩, ⟨by (with_reducible repeat (first | apply Kd.S_alloc | apply Kd.S_drewN | apply Kd.S_drew)); exact HO_6.out⟩, ⟨by (with_reducible repeat (first | apply Kd.R_alloc | apply Kd.R_drewN | apply Kd.R_drew)); exact Kd.R_mono HO_9.out (fun _ hk => trivial)⟩, ⟨bl_⟩⟩
 replace c24 := Bool.eq_false_iff.mpr c24
 subst c24
 rw [nf_] at H
 have HC25 := Aside0.mk H
 clear H
 go_upto_region 13 with (fail)
 go_cut [56] (fun v56 wc => ∃ (kq : Nat) (x56_24 : Bool), v56 = .bool x56_24 ∧ Aside0 (spec_ReadScript.j2 kq y201 x6_1 x7_1 x8_1 t207 x10_1 t211 x56_24 = some (r1, r2, r3)) ∧ Aside0 (kq ≤ kj13) ∧ Aside0 (Kd.S k69 69 wc w.heap.size (fun k_ => some k_ ≠ (u6 : Value).ownBlock) v202 y201) ∧ Aside0 (Kd.S k69 69 wc w.heap.size (fun k_ => some k_ ≠ (v202 : Value).ownBlock) u6 x6_1) ∧ Aside0 (Kd.R Kd.string 9 wc w.heap.size (fun k_ => some k_ ≠ (v213 : Value).ownBlock) (.slice (some ad210) t207.length co15) t207) ∧ Aside0 (Kd.R Kd.string 9 wc w.heap.size (fun k_ => some k_ ≠ ((.slice (some ad210) t207.length co15) : Value).ownBlock) v213 t211) ∧ Aside0 (Below w.heap.size w wc))
 case first =>
  have H := HC25.out
  clear HC25
  by_cases c26 : t212 = true
  ·subst c26
   rw [if_pos rfl] at H
   have H' := Aside0.mk H
   clear H
   go_wp2
   go_meet
   case rel => exact ⟨_, (x8_1), (sr_), H', ⟨by have := HK1.out; have := HJ13.out; first | omega | exact Nat.le_refl _⟩, ⟨by (with_reducible repeat (first | apply Kd.S_alloc | apply Kd.S_drewN | apply Kd.S_drew)); exact HO_5.out⟩, ⟨by (with_reducible repeat (first | apply Kd.S_alloc | apply Kd.S_drewN | apply Kd.S_drew)); exact HO_6.out⟩, ⟨ra_ HO_9.out⟩, ⟨ra_ HO_11.out⟩, ⟨bl_⟩⟩
  replace c26 := Bool.eq_false_iff.mpr c26
  subst c26
  rw [nf_] at H
  have H' := Aside0.mk H
  clear H
  go_wp2
  go_meet
  case rel => exact ⟨_, (true), (sr_), H', ⟨by have := HK1.out; have := HJ13.out; first | omega | exact Nat.le_refl _⟩, ⟨by (with_reducible repeat (first | apply Kd.S_alloc | apply Kd.S_drewN | apply Kd.S_drew)); exact HO_5.out⟩, ⟨by (with_reducible repeat (first | apply Kd.S_alloc | apply Kd.S_drewN | apply Kd.S_drew)); exact HO_6.out⟩, ⟨ra_ HO_9.out⟩, ⟨ra_ HO_11.out⟩, ⟨bl_⟩⟩
 clear HC25
 try clear c2
 try clear c2b0
 try clear c2b1
 try clear c11
 try clear c11b0
 try clear c12
 try clear c12b0
 try clear c24
 try clear hx210_0
 try clear p210
 try clear q210
 obtain ⟨kq, x56_24, rfl, HA, HJ24, HO_5, HO_6, HO_9, HO_11, HB⟩ := hcut
 cases kq with
 | zero => exact absurd HA.out (by simp [spec_ReadScript.j2])
 | succ kj24 => ?_
 have H := HA.out
 clear HA
 simp only [spec_ReadScript.j2] at H
 by_cases c27 : x56_24 = true
 ·subst c27
  rw [if_pos rfl] at H
  simp only [Option.some.injEq, Prod.mk.injEq] at H
  obtain ⟨rfl, rfl, rfl⟩ := H
  go_wp2
  go_ret3
  exact ⟨_, er_, by (with_reducible repeat (first | apply Kd.S_alloc | apply Kd.S_drewN | apply Kd.S_drew)); exact Kd.S_mono HO_5.out (fun _ hk => trivial), bl_⟩
 replace c27 := Bool.eq_false_iff.mpr c27
 subst c27
 rw [nf_] at H
 by_cases c28 : 0 < (t211.length : Int)
 rotate_left
 ·exact nn_ c28 H
 rw [if_pos c28] at H
 have c28b0 := decide_eq_true c28
 have c28b1 : decide (0 < t211.length) = true := decide_eq_true (by omega)
 clear c28
 by_cases c29 : (rdOf ByteArray.empty t211 0).toList = ([99, 97, 108, 109] : List UInt8)
 rotate_left
 ·rw [if_neg c29] at H
  have c29b0 : ((rdOf ByteArray.empty t211 0).toList == ([99, 97, 108, 109] : List UInt8)) = false := beq_eq_false_iff_ne.mpr c29
  have c29b1 : ((rdOf ByteArray.empty t211 0).toList != ([99, 97, 108, 109] : List UInt8)) = true := bne_iff_ne.mpr c29
  replace H := bs_ H
  obtain ⟨⟨t226, t227, t228, t229, t230, t231, t234, t235⟩, A46, H⟩ := H
  try dsimp only at H
  by_cases c47 : t235 = true
  rotate_left
  ·replace c47 := Bool.eq_false_iff.mpr c47
   subst c47
   rw [nf_] at H
   simp only [Option.some.injEq, Prod.mk.injEq] at H
   obtain ⟨rfl, rfl, rfl⟩ := H
   obtain ⟨Ao74, co74, eo74⟩ := Kd.R_slice HO_11.out
   subst eo74
   have p216 : 0 ≤ (0 : Int) := (by omega)
   have q216 : 0 < (t211.length : Int) := of_decide_eq_true as_
   obtain ⟨ad216, e216, hx216_0⟩ := Kd.at_string (Kd.R_reads' HO_11.out).2.2 0 p216 q216
   cases e216
   have qi216 : (0 < t211.length) = True := eq_true (by omega)
   (try rw [show ((0 : Int)).toNat = 0 from rfl] at hx216_0)
   (try rw [Addr.add_zero'] at hx216_0)
   replace p216 := eq_true p216
   replace q216 := eq_true q216
   go_wp2_with (first | ((with_reducible refine gate_callee (f := 42) rfl ?_); refine gs_ (some 85) Try.func42 #[.slice (some ad216) t211.length co74] ?_; (with_reducible refine (spec_l30Event.calls kj24 _ _ t211 t226 t227 t228 t229 t230 t231 t234 false _ ?side1 ?side2 A46.out).mono ?_); (case side1 => exact cs_ ((Kd.R_reads' HO_11.out).2.2)); (case side2 => exact (Kd.R_reads' HO_11.out).2.1); rintro e w75 ⟨v232, rfl, ho0, hb⟩; refine ⟨_, rfl, ?_⟩; replace HO_5 := Aside0.mk (Kd.S_elder' (by (with_reducible repeat (first | apply Kd.S_alloc | apply Kd.S_drewN | apply Kd.S_drew)); exact HO_5.out) (Kd.R_base ho0) hb); replace HO_6 := Aside0.mk (Kd.S_elder' (by (with_reducible repeat (first | apply Kd.S_alloc | apply Kd.S_drewN | apply Kd.S_drew)); exact HO_6.out) (Kd.R_base ho0) hb); replace HO_9 := Aside0.mk (Kd.R_below (ra_ HO_9.out) hb); replace HO_11 := Aside0.mk (Kd.R_below (ra_ HO_11.out) hb); have HO233 := Aside0.mk (Kd.R_lower ho0 (below_size bl_)); replace HB := Aside0.mk (below_step bl_ hb); (try clear hb); (try clear ho0)) | ((with_reducible refine gate_dst (N := 15) rfl ?_); (try (refine gate_guard (by rfl) ?_; dsimp only)); refine bx_ 15 69 #[.int .i64 0, .int .i64 0, .int .i64 0, .int .i64 0, .int .i64 0, .slice none 0 0, .string (⟨#[]⟩ : ByteArray)] ?_; intro gb236 hg w76 hbox hb; replace HO_5 := Aside0.mk (Kd.S_below (Kd.S_elderB (by (with_reducible repeat (first | apply Kd.S_alloc | apply Kd.S_drewN | apply Kd.S_drew)); exact HO_5.out) gb236 (Nat.le_of_eq hg.symm)) hb); replace HO_6 := Aside0.mk (Kd.S_below (Kd.S_elderB (by (with_reducible repeat (first | apply Kd.S_alloc | apply Kd.S_drewN | apply Kd.S_drew)); exact HO_6.out) gb236 (Nat.le_of_eq hg.symm)) hb); replace HO_9 := Aside0.mk (Kd.R_below (ra_ HO_9.out) hb); replace HO_11 := Aside0.mk (Kd.R_below (ra_ HO_11.out) hb); replace HO233 := Aside0.mk (Kd.R_below (ra_ HO233.out) hb); have BK236 := Aside0.mk (hbox); have GW236 := Aside0.mk ((hz_ : w.heap.size ≤ gb236)); have GE236 := Aside0.mk ((hz_ : w.heap.size ≤ gb236)); replace HB := Aside0.mk (below_step bl_ hb); clear hb hbox hg; obtain ⟨hcz77_0, hcz77_1, hcz77_2, hcz77_3, hcz77_4, hcz77_5, hcz77_6, hfz77_0, hfz77_1, hfz77_2, hfz77_3, hfz77_4, hfz77_5, hfz77_6⟩ := cf7_ BK236.out; obtain ⟨Ao78, co78, eo78⟩ := Kd.R_slice HO233.out; subst eo78))
   go_ret3
   exact ⟨_, er_, by (with_reducible repeat (first | apply Kd.S_alloc | apply Kd.S_drewN | apply Kd.S_drew)); exact Kd.S_mono (Kd.S_far (p := ⟨gb236, 6, none⟩) (Kd.S_far (p := ⟨gb236, 5, none⟩) (Kd.S_far (p := ⟨gb236, 4, none⟩) (Kd.S_far (p := ⟨gb236, 3, none⟩) (Kd.S_far (p := ⟨gb236, 2, none⟩) (Kd.S_far (p := ⟨gb236, 1, none⟩) (Kd.S_far (p := ⟨gb236, 0, none⟩) (Kd.S_mono HO_5.out (fun k_ hk => (⟨hk, hk.2⟩ : _ ∧ k_ ≠ gb236))) (fun _ hk => hk.2) (.int .i64 t226)) (fun _ hk => hk.2) (.int .i64 t227)) (fun _ hk => hk.2) (.int .i64 t228)) (fun _ hk => hk.2) (.int .i64 t229)) (fun _ hk => hk.2) (.int .i64 t230)) (fun _ hk => hk.2) (.slice Ao78 t231.length co78)) (fun _ hk => hk.2) (.string t234)) (fun _ hk => trivial), bl_⟩
  subst c47
  rw [if_pos rfl] at H
  replace H := bs_ H
  obtain ⟨t237, A48, H⟩ := H
  try dsimp only at H
  by_cases c49 : t237 = true
  rotate_left
  ·replace c49 := Bool.eq_false_iff.mpr c49
   subst c49
   rw [nf_] at H
   simp only [Option.some.injEq, Prod.mk.injEq] at H
   obtain ⟨rfl, rfl, rfl⟩ := H
   obtain ⟨Ao68, co68, eo68⟩ := Kd.R_slice HO_11.out
   subst eo68
   have p216 : 0 ≤ (0 : Int) := (by omega)
   have q216 : 0 < (t211.length : Int) := of_decide_eq_true as_
   obtain ⟨ad216, e216, hx216_0⟩ := Kd.at_string (Kd.R_reads' HO_11.out).2.2 0 p216 q216
   cases e216
   have qi216 : (0 < t211.length) = True := eq_true (by omega)
   (try rw [show ((0 : Int)).toNat = 0 from rfl] at hx216_0)
   (try rw [Addr.add_zero'] at hx216_0)
   replace p216 := eq_true p216
   replace q216 := eq_true q216
   go_wp2_with (first | ((with_reducible refine gate_callee (f := 42) rfl ?_); refine gs_ (some 85) Try.func42 #[.slice (some ad216) t211.length co68] ?_; (with_reducible refine (spec_l30Event.calls kj24 _ _ t211 t226 t227 t228 t229 t230 t231 t234 true _ ?side1 ?side2 A46.out).mono ?_); (case side1 => exact cs_ ((Kd.R_reads' HO_11.out).2.2)); (case side2 => exact (Kd.R_reads' HO_11.out).2.1); rintro e w69 ⟨v232, rfl, ho0, hb⟩; refine ⟨_, rfl, ?_⟩; replace HO_5 := Aside0.mk (Kd.S_elder' (by (with_reducible repeat (first | apply Kd.S_alloc | apply Kd.S_drewN | apply Kd.S_drew)); exact HO_5.out) (Kd.R_base ho0) hb); replace HO_6 := Aside0.mk (Kd.S_elder' (by (with_reducible repeat (first | apply Kd.S_alloc | apply Kd.S_drewN | apply Kd.S_drew)); exact HO_6.out) (Kd.R_base ho0) hb); replace HO_9 := Aside0.mk (Kd.R_below (ra_ HO_9.out) hb); replace HO_11 := Aside0.mk (Kd.R_below (ra_ HO_11.out) hb); have HO233 := Aside0.mk (Kd.R_lower ho0 (below_size bl_)); replace HB := Aside0.mk (below_step bl_ hb); (try clear hb); (try clear ho0)) | ((with_reducible refine gate_dst (N := 15) rfl ?_); (try (refine gate_guard (by rfl) ?_; dsimp only)); refine bx_ 15 69 #[.int .i64 0, .int .i64 0, .int .i64 0, .int .i64 0, .int .i64 0, .slice none 0 0, .string (⟨#[]⟩ : ByteArray)] ?_; intro gb236 hg w70 hbox hb; replace HO_5 := Aside0.mk (Kd.S_below (Kd.S_elderB (by (with_reducible repeat (first | apply Kd.S_alloc | apply Kd.S_drewN | apply Kd.S_drew)); exact HO_5.out) gb236 (Nat.le_of_eq hg.symm)) hb); replace HO_6 := Aside0.mk (Kd.S_below (Kd.S_elderB (by (with_reducible repeat (first | apply Kd.S_alloc | apply Kd.S_drewN | apply Kd.S_drew)); exact HO_6.out) gb236 (Nat.le_of_eq hg.symm)) hb); replace HO_9 := Aside0.mk (Kd.R_below (ra_ HO_9.out) hb); replace HO_11 := Aside0.mk (Kd.R_below (ra_ HO_11.out) hb); replace HO233 := Aside0.mk (Kd.R_below (ra_ HO233.out) hb); have BK236 := Aside0.mk (hbox); have GW236 := Aside0.mk ((hz_ : w.heap.size ≤ gb236)); have GE236 := Aside0.mk ((hz_ : w.heap.size ≤ gb236)); replace HB := Aside0.mk (below_step bl_ hb); clear hb hbox hg; obtain ⟨hcz71_0, hcz71_1, hcz71_2, hcz71_3, hcz71_4, hcz71_5, hcz71_6, hfz71_0, hfz71_1, hfz71_2, hfz71_3, hfz71_4, hfz71_5, hfz71_6⟩ := cf7_ BK236.out; obtain ⟨Ao72, co72, eo72⟩ := Kd.R_slice HO233.out; subst eo72) | (go_at_call 43; (with_reducible refine (spec_EventOk.calls kj24 t226 t227 t228 t229 t230 _ _ t231 t234 false _ ?side1 ?side2 A48.out).mono ?_); (case side1 => refine (Kd.R_reads' (e := 98) (base := w.heap.size) (ok := fun k_ => True) (n := t231.length) (c := co72) ?_).2.2; exact (rfa_ HO233.out BK236.out)); (case side2 => exact (Kd.R_reads' HO233.out).2.1); rintro e w73 ⟨rfl, hb⟩; replace HO_5 := Aside0.mk (Kd.S_below (by (with_reducible repeat (first | apply Kd.S_alloc | apply Kd.S_drewN | apply Kd.S_drew)); exact (Kd.S_mono (Kd.S_far (p := ⟨gb236, 6, none⟩) (Kd.S_far (p := ⟨gb236, 5, none⟩) (Kd.S_far (p := ⟨gb236, 4, none⟩) (Kd.S_far (p := ⟨gb236, 3, none⟩) (Kd.S_far (p := ⟨gb236, 2, none⟩) (Kd.S_far (p := ⟨gb236, 1, none⟩) (Kd.S_far (p := ⟨gb236, 0, none⟩) (Kd.S_mono HO_5.out (fun k_ hk => (⟨hk, hk.2⟩ : _ ∧ k_ ≠ gb236))) (fun _ hk => hk.2) (.int .i64 t226)) (fun _ hk => hk.2) (.int .i64 t227)) (fun _ hk => hk.2) (.int .i64 t228)) (fun _ hk => hk.2) (.int .i64 t229)) (fun _ hk => hk.2) (.int .i64 t230)) (fun _ hk => hk.2) (.slice Ao72 t231.length co72)) (fun _ hk => hk.2) (.string t234)) (fun _ h_ => h_.1))) hb); replace HO_6 := Aside0.mk (Kd.S_below (by (with_reducible repeat (first | apply Kd.S_alloc | apply Kd.S_drewN | apply Kd.S_drew)); exact (Kd.S_mono (Kd.S_far (p := ⟨gb236, 6, none⟩) (Kd.S_far (p := ⟨gb236, 5, none⟩) (Kd.S_far (p := ⟨gb236, 4, none⟩) (Kd.S_far (p := ⟨gb236, 3, none⟩) (Kd.S_far (p := ⟨gb236, 2, none⟩) (Kd.S_far (p := ⟨gb236, 1, none⟩) (Kd.S_far (p := ⟨gb236, 0, none⟩) (Kd.S_mono HO_6.out (fun k_ hk => (⟨hk, hk.2⟩ : _ ∧ k_ ≠ gb236))) (fun _ hk => hk.2) (.int .i64 t226)) (fun _ hk => hk.2) (.int .i64 t227)) (fun _ hk => hk.2) (.int .i64 t228)) (fun _ hk => hk.2) (.int .i64 t229)) (fun _ hk => hk.2) (.int .i64 t230)) (fun _ hk => hk.2) (.slice Ao72 t231.length co72)) (fun _ hk => hk.2) (.string t234)) (fun _ h_ => h_.1))) hb); replace HO_9 := Aside0.mk (Kd.R_below (rfa_ HO_9.out BK236.out) hb); replace HO_11 := Aside0.mk (Kd.R_below (rfa_ HO_11.out BK236.out) hb); replace HO233 := Aside0.mk (Kd.R_below (rfa_ HO233.out BK236.out) hb); replace BK236 := Aside0.mk (blk_below (g := gb236) (o := .cells #[.int .i64 t226, .int .i64 t227, .int .i64 t228, .int .i64 t229, .int .i64 t230, .slice Ao72 t231.length co72, .string t234] 69 (0, 0)) (bp0_ BK236.out) hb); replace HB := Aside0.mk (below_step bl_ hb); (try clear hb)))
   go_ret3
   exact ⟨_, er_, by (with_reducible repeat (first | apply Kd.S_alloc | apply Kd.S_drewN | apply Kd.S_drew)); exact Kd.S_mono HO_5.out (fun _ hk => trivial), bl_⟩
  subst c49
  rw [if_pos rfl] at H
  by_cases c50 : (x6_1.length : Int) = 90
  ·rw [if_pos c50] at H
   have c50b0 : ((x6_1.length : Int) == 90) = true := beq_iff_eq.mpr c50
   have c50b1 : ((x6_1.length : Int) != 90) = false := bne_eq_false_iff_eq.mpr c50
   clear c50
   simp only [Option.some.injEq, Prod.mk.injEq] at H
   obtain ⟨rfl, rfl, rfl⟩ := H
   obtain ⟨Ao51, co51, eo51⟩ := Kd.R_slice HO_11.out
   subst eo51
   have p216 : 0 ≤ (0 : Int) := (by omega)
   have q216 : 0 < (t211.length : Int) := of_decide_eq_true as_
   obtain ⟨ad216, e216, hx216_0⟩ := Kd.at_string (Kd.R_reads' HO_11.out).2.2 0 p216 q216
   cases e216
   have qi216 : (0 < t211.length) = True := eq_true (by omega)
   (try rw [show ((0 : Int)).toNat = 0 from rfl] at hx216_0)
   (try rw [Addr.add_zero'] at hx216_0)
   replace p216 := eq_true p216
   replace q216 := eq_true q216
   go_wp2_with (first | ((with_reducible refine gate_callee (f := 42) rfl ?_); refine gs_ (some 85) Try.func42 #[.slice (some ad216) t211.length co51] ?_; (with_reducible refine (spec_l30Event.calls kj24 _ _ t211 t226 t227 t228 t229 t230 t231 t234 true _ ?side1 ?side2 A46.out).mono ?_); (case side1 => exact cs_ ((Kd.R_reads' HO_11.out).2.2)); (case side2 => exact (Kd.R_reads' HO_11.out).2.1); rintro e w52 ⟨v232, rfl, ho0, hb⟩; refine ⟨_, rfl, ?_⟩; replace HO_5 := Aside0.mk (Kd.S_elder' (by (with_reducible repeat (first | apply Kd.S_alloc | apply Kd.S_drewN | apply Kd.S_drew)); exact HO_5.out) (Kd.R_base ho0) hb); replace HO_6 := Aside0.mk (Kd.S_elder' (by (with_reducible repeat (first | apply Kd.S_alloc | apply Kd.S_drewN | apply Kd.S_drew)); exact HO_6.out) (Kd.R_base ho0) hb); replace HO_9 := Aside0.mk (Kd.R_below (ra_ HO_9.out) hb); replace HO_11 := Aside0.mk (Kd.R_below (ra_ HO_11.out) hb); have HO233 := Aside0.mk (Kd.R_lower ho0 (below_size bl_)); replace HB := Aside0.mk (below_step bl_ hb); (try clear hb); (try clear ho0)) | ((with_reducible refine gate_dst (N := 15) rfl ?_); (try (refine gate_guard (by rfl) ?_; dsimp only)); refine bx_ 15 69 #[.int .i64 0, .int .i64 0, .int .i64 0, .int .i64 0, .int .i64 0, .slice none 0 0, .string (⟨#[]⟩ : ByteArray)] ?_; intro gb236 hg w53 hbox hb; replace HO_5 := Aside0.mk (Kd.S_below (Kd.S_elderB (by (with_reducible repeat (first | apply Kd.S_alloc | apply Kd.S_drewN | apply Kd.S_drew)); exact HO_5.out) gb236 (Nat.le_of_eq hg.symm)) hb); replace HO_6 := Aside0.mk (Kd.S_below (Kd.S_elderB (by (with_reducible repeat (first | apply Kd.S_alloc | apply Kd.S_drewN | apply Kd.S_drew)); exact HO_6.out) gb236 (Nat.le_of_eq hg.symm)) hb); replace HO_9 := Aside0.mk (Kd.R_below (ra_ HO_9.out) hb); replace HO_11 := Aside0.mk (Kd.R_below (ra_ HO_11.out) hb); replace HO233 := Aside0.mk (Kd.R_below (ra_ HO233.out) hb); have BK236 := Aside0.mk (hbox); have GW236 := Aside0.mk ((hz_ : w.heap.size ≤ gb236)); have GE236 := Aside0.mk ((hz_ : w.heap.size ≤ gb236)); replace HB := Aside0.mk (below_step bl_ hb); clear hb hbox hg; obtain ⟨hcz54_0, hcz54_1, hcz54_2, hcz54_3, hcz54_4, hcz54_5, hcz54_6, hfz54_0, hfz54_1, hfz54_2, hfz54_3, hfz54_4, hfz54_5, hfz54_6⟩ := cf7_ BK236.out; obtain ⟨Ao55, co55, eo55⟩ := Kd.R_slice HO233.out; subst eo55) | (go_at_call 43; (with_reducible refine (spec_EventOk.calls kj24 t226 t227 t228 t229 t230 _ _ t231 t234 true _ ?side1 ?side2 A48.out).mono ?_); (case side1 => refine (Kd.R_reads' (e := 98) (base := w.heap.size) (ok := fun k_ => True) (n := t231.length) (c := co55) ?_).2.2; exact (rfa_ HO233.out BK236.out)); (case side2 => exact (Kd.R_reads' HO233.out).2.1); rintro e w56 ⟨rfl, hb⟩; replace HO_5 := Aside0.mk (Kd.S_below (by (with_reducible repeat (first | apply Kd.S_alloc | apply Kd.S_drewN | apply Kd.S_drew)); exact (Kd.S_mono (Kd.S_far (p := ⟨gb236, 6, none⟩) (Kd.S_far (p := ⟨gb236, 5, none⟩) (Kd.S_far (p := ⟨gb236, 4, none⟩) (Kd.S_far (p := ⟨gb236, 3, none⟩) (Kd.S_far (p := ⟨gb236, 2, none⟩) (Kd.S_far (p := ⟨gb236, 1, none⟩) (Kd.S_far (p := ⟨gb236, 0, none⟩) (Kd.S_mono HO_5.out (fun k_ hk => (⟨hk, hk.2⟩ : _ ∧ k_ ≠ gb236))) (fun _ hk => hk.2) (.int .i64 t226)) (fun _ hk => hk.2) (.int .i64 t227)) (fun _ hk => hk.2) (.int .i64 t228)) (fun _ hk => hk.2) (.int .i64 t229)) (fun _ hk => hk.2) (.int .i64 t230)) (fun _ hk => hk.2) (.slice Ao55 t231.length co55)) (fun _ hk => hk.2) (.string t234)) (fun _ h_ => h_.1))) hb); replace HO_6 := Aside0.mk (Kd.S_below (by (with_reducible repeat (first | apply Kd.S_alloc | apply Kd.S_drewN | apply Kd.S_drew)); exact (Kd.S_mono (Kd.S_far (p := ⟨gb236, 6, none⟩) (Kd.S_far (p := ⟨gb236, 5, none⟩) (Kd.S_far (p := ⟨gb236, 4, none⟩) (Kd.S_far (p := ⟨gb236, 3, none⟩) (Kd.S_far (p := ⟨gb236, 2, none⟩) (Kd.S_far (p := ⟨gb236, 1, none⟩) (Kd.S_far (p := ⟨gb236, 0, none⟩) (Kd.S_mono HO_6.out (fun k_ hk => (⟨hk, hk.2⟩ : _ ∧ k_ ≠ gb236))) (fun _ hk => hk.2) (.int .i64 t226)) (fun _ hk => hk.2) (.int .i64 t227)) (fun _ hk => hk.2) (.int .i64 t228)) (fun _ hk => hk.2) (.int .i64 t229)) (fun _ hk => hk.2) (.int .i64 t230)) (fun _ hk => hk.2) (.slice Ao55 t231.length co55)) (fun _ hk => hk.2) (.string t234)) (fun _ h_ => h_.1))) hb); replace HO_9 := Aside0.mk (Kd.R_below (rfa_ HO_9.out BK236.out) hb); replace HO_11 := Aside0.mk (Kd.R_below (rfa_ HO_11.out BK236.out) hb); replace HO233 := Aside0.mk (Kd.R_below (rfa_ HO233.out BK236.out) hb); replace BK236 := Aside0.mk (blk_below (g := gb236) (o := .cells #[.int .i64 t226, .int .i64 t227, .int .i64 t228, .int .i64 t229, .int .i64 t230, .slice Ao55 t231.length co55, .string t234] 69 (0, 0)) (bp0_ BK236.out) hb); replace HB := Aside0.mk (below_step bl_ hb); (try clear hb); obtain ⟨Ao57, co57, eo57⟩ := Kd.S_slice HO_6.out; subst eo57))
   go_ret3
   exact ⟨_, er_, by (with_reducible repeat (first | apply Kd.S_alloc | apply Kd.S_drewN | apply Kd.S_drew)); exact Kd.S_mono HO_5.out (fun _ hk => trivial), bl_⟩
  rw [if_neg c50] at H
  have c50b0 : ((x6_1.length : Int) == 90) = false := beq_eq_false_iff_ne.mpr c50
  have c50b1 : ((x6_1.length : Int) != 90) = true := bne_iff_ne.mpr c50
  by_cases c58 : x6_1.length < 1759218604441
  rotate_left
  ·exact nn_ c58 H
  rw [if_pos c58] at H
  have LMc58 := Aside0.mk c58
  clear c58
  obtain ⟨y238, hy238⟩ : ∃ y_ : List (S69), y_ = (x6_1 ++ [(⟨t226, t227, t228, (⟨t229, t230, t231⟩ : S47), t234⟩ : S69)]) := ⟨_, rfl⟩
  replace H : (spec_ReadScript.l0 kj24 y201 y238 x7_1 x8_1 t207 (wrap64 (x10_1 + 1))) = some (r1, r2, r3) := rp_ H hy238
  have Ny238 := Aside0.mk hy238
  clear hy238
  have H' := Aside0.mk H
  clear H
  obtain ⟨Ao59, co59, eo59⟩ := Kd.R_slice HO_11.out
  subst eo59
  have p216 : 0 ≤ (0 : Int) := (by omega)
  have q216 : 0 < (t211.length : Int) := of_decide_eq_true as_
  obtain ⟨ad216, e216, hx216_0⟩ := Kd.at_string (Kd.R_reads' HO_11.out).2.2 0 p216 q216
  cases e216
  have qi216 : (0 < t211.length) = True := eq_true (by omega)
  (try rw [show ((0 : Int)).toNat = 0 from rfl] at hx216_0)
  (try rw [Addr.add_zero'] at hx216_0)
  replace p216 := eq_true p216
  replace q216 := eq_true q216
  go_wp2_with (first | ((with_reducible refine gate_callee (f := 42) rfl ?_); refine gs_ (some 85) Try.func42 #[.slice (some ad216) t211.length co59] ?_; (with_reducible refine (spec_l30Event.calls kj24 _ _ t211 t226 t227 t228 t229 t230 t231 t234 true _ ?side1 ?side2 A46.out).mono ?_); (case side1 => exact cs_ ((Kd.R_reads' HO_11.out).2.2)); (case side2 => exact (Kd.R_reads' HO_11.out).2.1); rintro e w60 ⟨v232, rfl, ho0, hb⟩; refine ⟨_, rfl, ?_⟩; replace HO_5 := Aside0.mk (Kd.S_elder' (by (with_reducible repeat (first | apply Kd.S_alloc | apply Kd.S_drewN | apply Kd.S_drew)); exact HO_5.out) (Kd.R_base ho0) hb); replace HO_6 := Aside0.mk (Kd.S_elder' (by (with_reducible repeat (first | apply Kd.S_alloc | apply Kd.S_drewN | apply Kd.S_drew)); exact HO_6.out) (Kd.R_base ho0) hb); replace HO_9 := Aside0.mk (Kd.R_below (ra_ HO_9.out) hb); replace HO_11 := Aside0.mk (Kd.R_below (ra_ HO_11.out) hb); have HO233 := Aside0.mk (Kd.R_lower ho0 (below_size bl_)); replace HB := Aside0.mk (below_step bl_ hb); (try clear hb); (try clear ho0)) | ((with_reducible refine gate_dst (N := 15) rfl ?_); (try (refine gate_guard (by rfl) ?_; dsimp only)); refine bx_ 15 69 #[.int .i64 0, .int .i64 0, .int .i64 0, .int .i64 0, .int .i64 0, .slice none 0 0, .string (⟨#[]⟩ : ByteArray)] ?_; intro gb236 hg w61 hbox hb; replace HO_5 := Aside0.mk (Kd.S_below (Kd.S_elderB (by (with_reducible repeat (first | apply Kd.S_alloc | apply Kd.S_drewN | apply Kd.S_drew)); exact HO_5.out) gb236 (Nat.le_of_eq hg.symm)) hb); replace HO_6 := Aside0.mk (Kd.S_below (Kd.S_elderB (by (with_reducible repeat (first | apply Kd.S_alloc | apply Kd.S_drewN | apply Kd.S_drew)); exact HO_6.out) gb236 (Nat.le_of_eq hg.symm)) hb); replace HO_9 := Aside0.mk (Kd.R_below (ra_ HO_9.out) hb); replace HO_11 := Aside0.mk (Kd.R_below (ra_ HO_11.out) hb); replace HO233 := Aside0.mk (Kd.R_below (ra_ HO233.out) hb); have BK236 := Aside0.mk (hbox); have GW236 := Aside0.mk ((hz_ : w.heap.size ≤ gb236)); have GE236 := Aside0.mk ((hz_ : w.heap.size ≤ gb236)); replace HB := Aside0.mk (below_step bl_ hb); clear hb hbox hg; obtain ⟨hcz62_0, hcz62_1, hcz62_2, hcz62_3, hcz62_4, hcz62_5, hcz62_6, hfz62_0, hfz62_1, hfz62_2, hfz62_3, hfz62_4, hfz62_5, hfz62_6⟩ := cf7_ BK236.out; obtain ⟨Ao63, co63, eo63⟩ := Kd.R_slice HO233.out; subst eo63) | (go_at_call 43; (with_reducible refine (spec_EventOk.calls kj24 t226 t227 t228 t229 t230 _ _ t231 t234 true _ ?side1 ?side2 A48.out).mono ?_); (case side1 => refine (Kd.R_reads' (e := 98) (base := w.heap.size) (ok := fun k_ => True) (n := t231.length) (c := co63) ?_).2.2; exact (rfa_ HO233.out BK236.out)); (case side2 => exact (Kd.R_reads' HO233.out).2.1); rintro e w64 ⟨rfl, hb⟩; replace HO_5 := Aside0.mk (Kd.S_below (by (with_reducible repeat (first | apply Kd.S_alloc | apply Kd.S_drewN | apply Kd.S_drew)); exact (Kd.S_mono (Kd.S_far (p := ⟨gb236, 6, none⟩) (Kd.S_far (p := ⟨gb236, 5, none⟩) (Kd.S_far (p := ⟨gb236, 4, none⟩) (Kd.S_far (p := ⟨gb236, 3, none⟩) (Kd.S_far (p := ⟨gb236, 2, none⟩) (Kd.S_far (p := ⟨gb236, 1, none⟩) (Kd.S_far (p := ⟨gb236, 0, none⟩) (Kd.S_mono HO_5.out (fun k_ hk => (⟨hk, hk.2⟩ : _ ∧ k_ ≠ gb236))) (fun _ hk => hk.2) (.int .i64 t226)) (fun _ hk => hk.2) (.int .i64 t227)) (fun _ hk => hk.2) (.int .i64 t228)) (fun _ hk => hk.2) (.int .i64 t229)) (fun _ hk => hk.2) (.int .i64 t230)) (fun _ hk => hk.2) (.slice Ao63 t231.length co63)) (fun _ hk => hk.2) (.string t234)) (fun _ h_ => h_.1))) hb); replace HO_6 := Aside0.mk (Kd.S_below (by (with_reducible repeat (first | apply Kd.S_alloc | apply Kd.S_drewN | apply Kd.S_drew)); exact (Kd.S_mono (Kd.S_far (p := ⟨gb236, 6, none⟩) (Kd.S_far (p := ⟨gb236, 5, none⟩) (Kd.S_far (p := ⟨gb236, 4, none⟩) (Kd.S_far (p := ⟨gb236, 3, none⟩) (Kd.S_far (p := ⟨gb236, 2, none⟩) (Kd.S_far (p := ⟨gb236, 1, none⟩) (Kd.S_far (p := ⟨gb236, 0, none⟩) (Kd.S_mono HO_6.out (fun k_ hk => (⟨hk, hk.2⟩ : _ ∧ k_ ≠ gb236))) (fun _ hk => hk.2) (.int .i64 t226)) (fun _ hk => hk.2) (.int .i64 t227)) (fun _ hk => hk.2) (.int .i64 t228)) (fun _ hk => hk.2) (.int .i64 t229)) (fun _ hk => hk.2) (.int .i64 t230)) (fun _ hk => hk.2) (.slice Ao63 t231.length co63)) (fun _ hk => hk.2) (.string t234)) (fun _ h_ => h_.1))) hb); replace HO_9 := Aside0.mk (Kd.R_below (rfa_ HO_9.out BK236.out) hb); replace HO_11 := Aside0.mk (Kd.R_below (rfa_ HO_11.out BK236.out) hb); replace HO233 := Aside0.mk (Kd.R_below (rfa_ HO233.out BK236.out) hb); replace BK236 := Aside0.mk (blk_below (g := gb236) (o := .cells #[.int .i64 t226, .int .i64 t227, .int .i64 t228, .int .i64 t229, .int .i64 t230, .slice Ao63 t231.length co63, .string t234] 69 (0, 0)) (bp0_ BK236.out) hb); replace HB := Aside0.mk (below_step bl_ hb); (try clear hb); obtain ⟨Ao65, co65, eo65⟩ := Kd.S_slice HO_6.out; subst eo65; obtain ⟨hcz66_0, hcz66_1, hcz66_2, hcz66_3, hcz66_4, hcz66_5, hcz66_6, hfz66_0, hfz66_1, hfz66_2, hfz66_3, hfz66_4, hfz66_5, hfz66_6⟩ := cf7_ BK236.out) | ((with_reducible refine gate_builtin (b := .append) (xs := #[.tmp 103, .tmp 105]) rfl ?_); (try (refine gate_guard (by rfl) ?_; dsimp only)); at_builtin; refine Kd.S_append k69 (w0 := w) w.heap.size rfl (.tmp 103) (.tmp 105) 22 69 (.agg #[(.int .i64 0), (.int .i64 0), (.int .i64 0), (.int .i64 0), (.int .i64 0), (.slice none 0 0), (.string ⟨#[]⟩)]) 80 rfl Try.underlying22 info69 rfl (by decide) (by omega) (.slice Ao65 x6_1.length co65) x6_1 (⟨t226, t227, t228, (⟨t229, t230, t231⟩ : S47), t234⟩ : S69) [.int .i64 t226, .int .i64 t227, .int .i64 t228, .int .i64 t229, .int .i64 t230, .slice Ao63 t231.length co63, .string t234] (fun k_ => some k_ ≠ (v202 : Value).ownBlock ∧ k_ ≠ gb236) (fun k_ => some k_ = (.slice Ao63 t231.length co63 : Value).ownBlock) rfl rfl ?aP (fun k_ hk_ => ((Kd.R_mono (ok' := fun k_ => ((fun k_ => some k_ ≠ (v202 : Value).ownBlock ∧ k_ ≠ gb236)) k_ ∧ some k_ ≠ (.slice Ao65 x6_1.length co65 : Value).ownBlock) (Kd.R_types (Kd.R_apart' (Kd.R_apart' (HO233.out) (Kd.S_typed HO_5.out) (by decide)) (Kd.S_typed HO_6.out) (by decide)) BK236.out (by decide)) (fun k_ hk => ⟨⟨hk.1.1.2, hk.2⟩, hk.1.2⟩))).1 k_ hk_.symm) ?aF ?aO ?aB ?aS ?aL ?_; (case aP => exact k69_mkM _ _ _ (⟨t226, t227, t228, (⟨t229, t230, t231⟩ : S47), t234⟩ : S69) (Kd.R_mono (Kd.R_tight rfl (Kd.R_mono (ok' := fun k_ => ((fun k_ => some k_ ≠ (v202 : Value).ownBlock ∧ k_ ≠ gb236)) k_ ∧ some k_ ≠ (.slice Ao65 x6_1.length co65 : Value).ownBlock) (Kd.R_types (Kd.R_apart' (Kd.R_apart' (HO233.out) (Kd.S_typed HO_5.out) (by decide)) (Kd.S_typed HO_6.out) (by decide)) BK236.out (by decide)) (fun k_ hk => ⟨⟨hk.1.1.2, hk.2⟩, hk.1.2⟩))) (fun _ h_ => h_))); (case aB => exact bl_); (case aF => exact (fun k_ hk => ⟨Kd.fresh' (Kd.S_lt (by (with_reducible repeat (first | apply Kd.S_alloc | apply Kd.S_drewN | apply Kd.S_drew)); exact HO_5.out)) k_ hk, Kd.freshB (g := gb236) (o := .cells #[.int .i64 t226, .int .i64 t227, .int .i64 t228, .int .i64 t229, .int .i64 t230, .slice Ao63 t231.length co63, .string t234] 69 (0, 0)) (bk_ BK236.out) k_ hk⟩)); (case aO => exact (by (with_reducible repeat (first | apply Kd.S_alloc | apply Kd.S_drewN | apply Kd.S_drew)); exact Kd.S_mono HO_6.out (fun k_ hk => ⟨⟨hk.1.1, hk.2⟩, fun e_ => hk.1.2 e_⟩))); (case aS => exact (below_size bl_)); (case aL => have := LMc58.out; omega); intro v239 w67 ho hb hg hat; rw [← Ny238.out] at ho; replace HO_5 := Aside0.mk (Kd.S_after (ok := (fun k_ => some k_ ≠ (.slice Ao63 t231.length co63 : Value).ownBlock ∧ k_ ≠ gb236)) (by (with_reducible repeat (first | apply Kd.S_alloc | apply Kd.S_drewN | apply Kd.S_drew)); exact Kd.S_mono HO_5.out (fun _ hk => ⟨⟨hk.1.2, hk.2⟩, hk.1.1⟩)) hg hat); replace HO_9 := Aside0.mk (Kd.R_over' (ra_ HO_9.out) (Kd.S_typed (by (with_reducible repeat (first | apply Kd.S_alloc | apply Kd.S_drewN | apply Kd.S_drew)); exact HO_6.out)) (by decide) hg); replace HO_11 := Aside0.mk (Kd.R_over' (ra_ HO_11.out) (Kd.S_typed (by (with_reducible repeat (first | apply Kd.S_alloc | apply Kd.S_drewN | apply Kd.S_drew)); exact HO_6.out)) (by decide) hg); replace BK236 := Aside0.mk (blk_grown (g := gb236) (o := .cells #[.int .i64 t226, .int .i64 t227, .int .i64 t228, .int .i64 t229, .int .i64 t230, .slice Ao63 t231.length co63, .string t234] 69 (0, 0)) (bk_ BK236.out) hg (Kd.S_away HO_6.out (fun _ hk => hk.2))); replace HB := Aside0.mk (hb); have HO240 := Aside0.mk (ho); clear HO_6 HO233; clear ho hb hg hat))
  go_roundg kj24
  case measure => have := HK1.out; have := HJ13.out; have := HJ24.out; omega
  case rel => exact ⟨(y238), (x7_1), (x8_1), (wrap64 (x10_1 + 1)), (sr_), (sr_), (sr_), H', ⟨by have := HK1.out; have := HJ13.out; have := HJ24.out; omega⟩, ⟨by (with_reducible repeat (first | apply Kd.S_alloc | apply Kd.S_drewN | apply Kd.S_drew)); exact Kd.S_mono HO_5.out (fun _ hk => hk.2)⟩, ⟨by (with_reducible repeat (first | apply Kd.S_alloc | apply Kd.S_drewN | apply Kd.S_drew)); exact Kd.S_mono HO240.out (fun _ hk => hk.1)⟩, ⟨by (with_reducible repeat (first | apply Kd.R_alloc | apply Kd.R_drewN | apply Kd.R_drew)); exact Kd.R_mono HO_9.out (fun _ hk => trivial)⟩, ⟨bl_⟩⟩
 rw [if_pos c29] at H
 have c29b0 : ((rdOf ByteArray.empty t211 0).toList == ([99, 97, 108, 109] : List UInt8)) = true := beq_iff_eq.mpr c29
 have c29b1 : ((rdOf ByteArray.empty t211 0).toList != ([99, 97, 108, 109] : List UInt8)) = false := bne_eq_false_iff_eq.mpr c29
 clear c29
 by_cases c30 : 1 ≤ (t211.length : Int)
 rotate_left
 ·exact nn_ c30 H
 rw [if_pos c30] at H
 have c30b0 := eq_true c30
 have c30b1 : decide (1 ≤ (t211.length : Int)) = true := decide_eq_true c30
 clear c30
 obtain ⟨y217, hy217⟩ : ∃ y_ : List ByteArray, y_ = (t211.drop 1) := ⟨_, rfl⟩
 replace H : ((spec_l30Nums.f kj24 y217).bind fun bt221 => (if bt221.2 = true then (if (bt221.1.length : Int) = 1 then (if 0 < (bt221.1.length : Int) then (spec_ReadScript.l0 kj24 y201 x6_1 (rd bt221.1 0) true t207 (wrap64 (x10_1 + 1))) else (none)) else (some (y201, 0, wrap64 (x10_1 + 1)))) else (some (y201, 0, wrap64 (x10_1 + 1))))) = some (r1, r2, r3) := rp_ H hy217
 have Ny217 := Aside0.mk hy217
 clear hy217
 replace H := bs_ H
 obtain ⟨⟨t221, t222⟩, A31, H⟩ := H
 try dsimp only at H
 by_cases c32 : t222 = true
 rotate_left
 ·replace c32 := Bool.eq_false_iff.mpr c32
  subst c32
  rw [nf_] at H
  simp only [Option.some.injEq, Prod.mk.injEq] at H
  obtain ⟨rfl, rfl, rfl⟩ := H
  obtain ⟨Ao43, co43, eo43⟩ := Kd.R_slice HO_11.out
  subst eo43
  have p216 : 0 ≤ (0 : Int) := (by omega)
  have q216 : 0 < (t211.length : Int) := of_decide_eq_true as_
  obtain ⟨ad216, e216, hx216_0⟩ := Kd.at_string (Kd.R_reads' HO_11.out).2.2 0 p216 q216
  cases e216
  have qi216 : (0 < t211.length) = True := eq_true (by omega)
  (try rw [show ((0 : Int)).toNat = 0 from rfl] at hx216_0)
  (try rw [Addr.add_zero'] at hx216_0)
  replace p216 := eq_true p216
  replace q216 := eq_true q216
  have q44 : (1 : Int) ≤ ((t211.length : Int) : Int) := of_decide_eq_true as_
  obtain ⟨i044, hi044, _, hsz44, _⟩ := info_parts info9
  have hroom44 : t211.length ≤ co43 := (Kd.R_reads' HO_11.out).2.1
  have hC44 : Kd.C Kd.string _ (some ad216) t211.length t211 := (Kd.R_reads' HO_11.out).2.2
  have hcut44 := cut_from (P := Try.prog) 62 9 .i64 Try.underlying62 hi044 1 hsz44 (some ad216) t211.length co43 1 (by omega) q44
  have hr44 := Kd.C_drop (m := (1 : Int).toNat) (c := co43) hC44 (by omega) hroom44
  obtain ⟨A44, hA44⟩ : ∃ A1, A1 = (if co43 = (1 : Int).toNat then (some ad216) else ((some ad216) : Option Addr).map (·.add ((1 : Int).toNat * 1))) := ⟨_, rfl⟩
  obtain ⟨c44, hc44⟩ : ∃ c1, c1 = co43 - (1 : Int).toNat := ⟨_, rfl⟩
  have hy44 : y217.length = t211.length - (1 : Int).toNat := (by rw [Ny217.out, List.length_drop] <;> omega)
  rw [show (t211).drop (1 : Int).toNat = y217 from Ny217.out.symm] at hr44
  replace hr44 : Kd.C Kd.string _ A44 y217.length y217 := (by rw [hA44]; exact hr44)
  rw [← hy44, ← hA44, ← hc44] at hcut44
  have HR220 := Aside0.mk hr44
  have HC220 := Aside0.mk (show y217.length ≤ c44 from by rw [hy44, hc44]; exact Nat.sub_le_sub_right hroom44 _)
  clear hr44 hC44 hroom44 hi044 hsz44 hc44
  have KY44 := Aside0.mk hy44
  have KA44 := Aside0.mk hA44
  clear hy44 hA44
  have KL44 := Aside0.mk (show 1 ≤ t211.length from by omega)
  replace q44 := eq_true q44
  go_wp2_with (first | ((with_reducible refine gate_callee (f := 41) rfl ?_); refine gs_ (some 67) Try.func41 #[.slice A44 y217.length c44] ?_; (with_reducible refine (spec_l30Nums.calls kj24 _ _ y217 t221 false _ ?side1 ?side2 A31.out).mono ?_); (case side1 => repeat (first | exact (by repeat (first | (with_reducible exact HR220.out) | (with_reducible refine Kd.C_alloc ?_ _) | (with_reducible refine Kd.C_drewN ?_ _) | (with_reducible refine Kd.C_drew ?_) | exact HR220.out)) | (with_reducible refine Kd.C_alloc ?_ _) | (with_reducible refine Kd.C_drewN ?_ _) | (with_reducible refine Kd.C_drew ?_))); (case side2 => exact HC220.out); rintro e w45 ⟨v223, rfl, ho0, hb⟩; refine ⟨_, rfl, ?_⟩; replace HO_5 := Aside0.mk (Kd.S_below (by (with_reducible repeat (first | apply Kd.S_alloc | apply Kd.S_drewN | apply Kd.S_drew)); exact HO_5.out) hb); replace HO_6 := Aside0.mk (Kd.S_below (by (with_reducible repeat (first | apply Kd.S_alloc | apply Kd.S_drewN | apply Kd.S_drew)); exact HO_6.out) hb); replace HO_9 := Aside0.mk (Kd.R_below (ra_ HO_9.out) hb); replace HO_11 := Aside0.mk (Kd.R_below (ra_ HO_11.out) hb); have HO224 := Aside0.mk (Kd.R_lower ho0 (below_size bl_)); replace HR220 := Aside0.mk (Kd.C_below (by repeat (first | (with_reducible exact HR220.out) | (with_reducible refine Kd.C_alloc ?_ _) | (with_reducible refine Kd.C_drewN ?_ _) | (with_reducible refine Kd.C_drew ?_) | exact HR220.out)) hb); replace HB := Aside0.mk (below_step bl_ hb); (try clear hb); (try clear ho0)))
  go_ret3
  exact ⟨_, er_, by (with_reducible repeat (first | apply Kd.S_alloc | apply Kd.S_drewN | apply Kd.S_drew)); exact Kd.S_mono HO_5.out (fun _ hk => trivial), bl_⟩
 subst c32
 rw [if_pos rfl] at H
 by_cases c33 : (t221.length : Int) = 1
 rotate_left
 ·rw [if_neg c33] at H
  have c33b0 : ((t221.length : Int) == 1) = false := beq_eq_false_iff_ne.mpr c33
  have c33b1 : ((t221.length : Int) != 1) = true := bne_iff_ne.mpr c33
  simp only [Option.some.injEq, Prod.mk.injEq] at H
  obtain ⟨rfl, rfl, rfl⟩ := H
  obtain ⟨Ao39, co39, eo39⟩ := Kd.R_slice HO_11.out
  subst eo39
  have p216 : 0 ≤ (0 : Int) := (by omega)
  have q216 : 0 < (t211.length : Int) := of_decide_eq_true as_
  obtain ⟨ad216, e216, hx216_0⟩ := Kd.at_string (Kd.R_reads' HO_11.out).2.2 0 p216 q216
  cases e216
  have qi216 : (0 < t211.length) = True := eq_true (by omega)
  (try rw [show ((0 : Int)).toNat = 0 from rfl] at hx216_0)
  (try rw [Addr.add_zero'] at hx216_0)
  replace p216 := eq_true p216
  replace q216 := eq_true q216
  have q40 : (1 : Int) ≤ ((t211.length : Int) : Int) := of_decide_eq_true as_
  obtain ⟨i040, hi040, _, hsz40, _⟩ := info_parts info9
  have hroom40 : t211.length ≤ co39 := (Kd.R_reads' HO_11.out).2.1
  have hC40 : Kd.C Kd.string _ (some ad216) t211.length t211 := (Kd.R_reads' HO_11.out).2.2
  have hcut40 := cut_from (P := Try.prog) 62 9 .i64 Try.underlying62 hi040 1 hsz40 (some ad216) t211.length co39 1 (by omega) q40
  have hr40 := Kd.C_drop (m := (1 : Int).toNat) (c := co39) hC40 (by omega) hroom40
  obtain ⟨A40, hA40⟩ : ∃ A1, A1 = (if co39 = (1 : Int).toNat then (some ad216) else ((some ad216) : Option Addr).map (·.add ((1 : Int).toNat * 1))) := ⟨_, rfl⟩
  obtain ⟨c40, hc40⟩ : ∃ c1, c1 = co39 - (1 : Int).toNat := ⟨_, rfl⟩
  have hy40 : y217.length = t211.length - (1 : Int).toNat := (by rw [Ny217.out, List.length_drop] <;> omega)
  rw [show (t211).drop (1 : Int).toNat = y217 from Ny217.out.symm] at hr40
  replace hr40 : Kd.C Kd.string _ A40 y217.length y217 := (by rw [hA40]; exact hr40)
  rw [← hy40, ← hA40, ← hc40] at hcut40
  have HR220 := Aside0.mk hr40
  have HC220 := Aside0.mk (show y217.length ≤ c40 from by rw [hy40, hc40]; exact Nat.sub_le_sub_right hroom40 _)
  clear hr40 hC40 hroom40 hi040 hsz40 hc40
  have KY40 := Aside0.mk hy40
  have KA40 := Aside0.mk hA40
  clear hy40 hA40
  have KL40 := Aside0.mk (show 1 ≤ t211.length from by omega)
  replace q40 := eq_true q40
  go_wp2_with (first | ((with_reducible refine gate_callee (f := 41) rfl ?_); refine gs_ (some 67) Try.func41 #[.slice A40 y217.length c40] ?_; (with_reducible refine (spec_l30Nums.calls kj24 _ _ y217 t221 true _ ?side1 ?side2 A31.out).mono ?_); (case side1 => repeat (first | exact (by repeat (first | (with_reducible exact HR220.out) | (with_reducible refine Kd.C_alloc ?_ _) | (with_reducible refine Kd.C_drewN ?_ _) | (with_reducible refine Kd.C_drew ?_) | exact HR220.out)) | (with_reducible refine Kd.C_alloc ?_ _) | (with_reducible refine Kd.C_drewN ?_ _) | (with_reducible refine Kd.C_drew ?_))); (case side2 => exact HC220.out); rintro e w41 ⟨v223, rfl, ho0, hb⟩; refine ⟨_, rfl, ?_⟩; replace HO_5 := Aside0.mk (Kd.S_below (by (with_reducible repeat (first | apply Kd.S_alloc | apply Kd.S_drewN | apply Kd.S_drew)); exact HO_5.out) hb); replace HO_6 := Aside0.mk (Kd.S_below (by (with_reducible repeat (first | apply Kd.S_alloc | apply Kd.S_drewN | apply Kd.S_drew)); exact HO_6.out) hb); replace HO_9 := Aside0.mk (Kd.R_below (ra_ HO_9.out) hb); replace HO_11 := Aside0.mk (Kd.R_below (ra_ HO_11.out) hb); have HO224 := Aside0.mk (Kd.R_lower ho0 (below_size bl_)); replace HR220 := Aside0.mk (Kd.C_below (by repeat (first | (with_reducible exact HR220.out) | (with_reducible refine Kd.C_alloc ?_ _) | (with_reducible refine Kd.C_drewN ?_ _) | (with_reducible refine Kd.C_drew ?_) | exact HR220.out)) hb); replace HB := Aside0.mk (below_step bl_ hb); (try clear hb); (try clear ho0); obtain ⟨Ao42, co42, eo42⟩ := Kd.R_slice HO224.out; subst eo42))
  go_ret3
  exact ⟨_, er_, by (with_reducible repeat (first | apply Kd.S_alloc | apply Kd.S_drewN | apply Kd.S_drew)); exact Kd.S_mono HO_5.out (fun _ hk => trivial), bl_⟩
 rw [if_pos c33] at H
 have c33b0 : ((t221.length : Int) == 1) = true := beq_iff_eq.mpr c33
 have c33b1 : ((t221.length : Int) != 1) = false := bne_eq_false_iff_eq.mpr c33
 clear c33
 by_cases c34 : 0 < (t221.length : Int)
 rotate_left
 ·exact nn_ c34 H
 rw [if_pos c34] at H
 have c34b0 := decide_eq_true c34
 have c34b1 : decide (0 < t221.length) = true := decide_eq_true (by omega)
 clear c34
 have H' := Aside0.mk H
 clear H
 obtain ⟨Ao35, co35, eo35⟩ := Kd.R_slice HO_11.out
 subst eo35
 have p216 : 0 ≤ (0 : Int) := (by omega)
 have q216 : 0 < (t211.length : Int) := of_decide_eq_true as_
 obtain ⟨ad216, e216, hx216_0⟩ := Kd.at_string (Kd.R_reads' HO_11.out).2.2 0 p216 q216
 cases e216
 have qi216 : (0 < t211.length) = True := eq_true (by omega)
 (try rw [show ((0 : Int)).toNat = 0 from rfl] at hx216_0)
 (try rw [Addr.add_zero'] at hx216_0)
 replace p216 := eq_true p216
 replace q216 := eq_true q216
 have q36 : (1 : Int) ≤ ((t211.length : Int) : Int) := of_decide_eq_true as_
 obtain ⟨i036, hi036, _, hsz36, _⟩ := info_parts info9
 have hroom36 : t211.length ≤ co35 := (Kd.R_reads' HO_11.out).2.1
 have hC36 : Kd.C Kd.string _ (some ad216) t211.length t211 := (Kd.R_reads' HO_11.out).2.2
 have hcut36 := cut_from (P := Try.prog) 62 9 .i64 Try.underlying62 hi036 1 hsz36 (some ad216) t211.length co35 1 (by omega) q36
 have hr36 := Kd.C_drop (m := (1 : Int).toNat) (c := co35) hC36 (by omega) hroom36
 obtain ⟨A36, hA36⟩ : ∃ A1, A1 = (if co35 = (1 : Int).toNat then (some ad216) else ((some ad216) : Option Addr).map (·.add ((1 : Int).toNat * 1))) := ⟨_, rfl⟩
 obtain ⟨c36, hc36⟩ : ∃ c1, c1 = co35 - (1 : Int).toNat := ⟨_, rfl⟩
 have hy36 : y217.length = t211.length - (1 : Int).toNat := (by rw [Ny217.out, List.length_drop] <;> omega)
 rw [show (t211).drop (1 : Int).toNat = y217 from Ny217.out.symm] at hr36
 replace hr36 : Kd.C Kd.string _ A36 y217.length y217 := (by rw [hA36]; exact hr36)
 rw [← hy36, ← hA36, ← hc36] at hcut36
 have HR220 := Aside0.mk hr36
 have HC220 := Aside0.mk (show y217.length ≤ c36 from by rw [hy36, hc36]; exact Nat.sub_le_sub_right hroom36 _)
 clear hr36 hC36 hroom36 hi036 hsz36 hc36
 have KY36 := Aside0.mk hy36
 have KA36 := Aside0.mk hA36
 clear hy36 hA36
 have KL36 := Aside0.mk (show 1 ≤ t211.length from by omega)
 replace q36 := eq_true q36
 go_wp2_with (first | ((with_reducible refine gate_callee (f := 41) rfl ?_); refine gs_ (some 67) Try.func41 #[.slice A36 y217.length c36] ?_; (with_reducible refine (spec_l30Nums.calls kj24 _ _ y217 t221 true _ ?side1 ?side2 A31.out).mono ?_); (case side1 => repeat (first | exact (by repeat (first | (with_reducible exact HR220.out) | (with_reducible refine Kd.C_alloc ?_ _) | (with_reducible refine Kd.C_drewN ?_ _) | (with_reducible refine Kd.C_drew ?_) | exact HR220.out)) | (with_reducible refine Kd.C_alloc ?_ _) | (with_reducible refine Kd.C_drewN ?_ _) | (with_reducible refine Kd.C_drew ?_))); (case side2 => exact HC220.out); rintro e w37 ⟨v223, rfl, ho0, hb⟩; refine ⟨_, rfl, ?_⟩; replace HO_5 := Aside0.mk (Kd.S_below (by (with_reducible repeat (first | apply Kd.S_alloc | apply Kd.S_drewN | apply Kd.S_drew)); exact HO_5.out) hb); replace HO_6 := Aside0.mk (Kd.S_below (by (with_reducible repeat (first | apply Kd.S_alloc | apply Kd.S_drewN | apply Kd.S_drew)); exact HO_6.out) hb); replace HO_9 := Aside0.mk (Kd.R_below (ra_ HO_9.out) hb); replace HO_11 := Aside0.mk (Kd.R_below (ra_ HO_11.out) hb); have HO224 := Aside0.mk (Kd.R_lower ho0 (below_size bl_)); replace HR220 := Aside0.mk (Kd.C_below (by repeat (first | (with_reducible exact HR220.out) | (with_reducible refine Kd.C_alloc ?_ _) | (with_reducible refine Kd.C_drewN ?_ _) | (with_reducible refine Kd.C_drew ?_) | exact HR220.out)) hb); replace HB := Aside0.mk (below_step bl_ hb); (try clear hb); (try clear ho0); obtain ⟨Ao38, co38, eo38⟩ := Kd.R_slice HO224.out; subst eo38; have p225 : 0 ≤ (0 : Int) := (by omega); have q225 : 0 < (t221.length : Int) := of_decide_eq_true as_; obtain ⟨ad225, e225, hx225_0⟩ := Kd.at_int (Kd.R_reads' HO224.out).2.2 0 p225 q225; cases e225; have qi225 : (0 < t221.length) = True := eq_true (by omega); (try rw [show ((0 : Int)).toNat = 0 from rfl] at hx225_0); (try rw [Addr.add_zero'] at hx225_0); replace p225 := eq_true p225; replace q225 := eq_true q225))
 go_roundg kj24
 case measure => have := HK1.out; have := HJ13.out; have := HJ24.out; omega
 case rel => exact ⟨(x6_1), (rd t221 0), (true), (wrap64 (x10_1 + 1)), (sr_), (sr_), (sr_), H', ⟨by have := HK1.out; have := HJ13.out; have := HJ24.out; omega⟩, ⟨by (with_reducible repeat (first | apply Kd.S_alloc | apply Kd.S_drewN | apply Kd.S_drew)); exact HO_5.out⟩, ⟨by (with_reducible repeat (first | apply Kd.S_alloc | apply Kd.S_drewN | apply Kd.S_drew)); exact HO_6.out⟩, ⟨by (with_reducible repeat (first | apply Kd.R_alloc | apply Kd.R_drewN | apply Kd.R_drew)); exact Kd.R_mono HO_9.out (fun _ hk => trivial)⟩, ⟨bl_⟩⟩


def impl_linesOf.l0 : Nat → ByteArray → List ByteArray → Int → Int → Option (List ByteArray)
 | 0, _, _, _, _ => none
 | k + 1, x0, x3, x4, x5 => if x5 < (x0.size : Int) then (if 0 ≤ x5 then (if (bt x0 x5) = 10 then (if 0 ≤ x4 then (if x4 ≤ x5 then (if x5 ≤ (x0.size : Int) then (if x3.length < 8796093022208 then (impl_linesOf.l0 k x0 (x3 ++ [x0.extract (x4 : Int).toNat (x5 : Int).toNat]) (wrap64 (x5 + 1)) (wrap64 (x5 + 1))) else (none)) else (none)) else (none)) else (none)) else (impl_linesOf.l0 k x0 x3 x4 (wrap64 (x5 + 1)))) else (none)) else (if x4 < (x0.size : Int) then (if 0 ≤ x4 then (if x4 ≤ (x0.size : Int) then (if x3.length < 8796093022208 then (some (x3 ++ [x0.extract (x4 : Int).toNat x0.size])) else (none)) else (none)) else (none)) else (some x3))
def impl_linesOf.f (k : Nat) (a0 : ByteArray) : Option (List ByteArray) := impl_linesOf.l0 k a0 (([] : List ByteArray)) 0 0
theorem impl_linesOf.mono_l : ∀ k, (∀ y0 y1 y2 y3, LeO (impl_linesOf.l0 k y0 y1 y2 y3) (impl_linesOf.l0 (k + 1) y0 y1 y2 y3))
 | 0 => fun _ _ _ _ r h => by simp [impl_linesOf.l0] at h
 | k + 1 => by
  have ih0 := impl_linesOf.mono_l k
  ·intro y0 y1 y2 y3
   unfold impl_linesOf.l0
   exact mo_
theorem impl_linesOf.mono : ∀ a0 k, LeO (impl_linesOf.f k a0) (impl_linesOf.f (k + 1) a0) := by
 intro a0 k
 have ih0 := impl_linesOf.mono_l k
 unfold impl_linesOf.f
 exact mo_
theorem impl_linesOf.calls (k : Nat) (a0 : ByteArray) (r : List ByteArray) (w : World) (h : impl_linesOf.f k a0 = some r) :
 Calls Try.prog 44 #[.string a0] w fun e w' => ∃ v0_ : Value, e = .returned (v0_) ∧ Kd.R Kd.string 9 w' w.heap.size (fun _ => True) v0_ r ∧ Below w.heap.size w w' := by
 have HB := Aside0.mk (Below.refl w.heap.size w)
 have H := h
 unfold impl_linesOf.f at H
 clear h
 obtain ⟨y241, hy241⟩ : ∃ y_ : List ByteArray, y_ = (([] : List ByteArray)) := ⟨_, rfl⟩
 replace H : (impl_linesOf.l0 k a0 y241 0 0) = some r := rp_ H hy241
 have Ny241 := Aside0.mk hy241
 clear hy241
 have H' := Aside0.mk H
 clear H
 go_enter Try.func44, Try.ntmps44
 go_wp2_with (first | ((with_reducible refine gate_dst (N := 6) rfl ?_); refine Kd.R_lit Kd.string _ 9 ?hg (N := 6) ?hd (xs := ([] : List ByteArray)) (inner := []) (ok := fun _ => True) (okp := fun _ => True) ?hr ?hp (fun _ hk => hk) trivial (Below.refl _ _) (Nat.le_refl _) (by simp) ?_; (case hd => rfl); (case hg => rfl); (case hr => first | (go_simp; done) | (go_simp; rfl)); (case hp => exact (Reps.none _ _)); intro v242 w2 ho3 hb hg_ hnew_; clear hg_ hnew_; (first | rw [← Ny241.out] at ho3 | (simp only [Int.reduceToNat] at ho3; rw [← Ny241.out] at ho3)); have HO243 := Aside0.mk (Kd.R_lower ho3 (below_size bl_)); replace HB := Aside0.mk (below_step bl_ hb); clear hb ho3))
 go_loopg [3, 4, 5] k (fun kq v3 v4 v5 w' => ∃ (x3_1 : List ByteArray) (x4_1 : Int) (x5_1 : Int), v4 = .int .i64 x4_1 ∧ v5 = .int .i64 x5_1 ∧ Aside0 (impl_linesOf.l0 kq a0 x3_1 x4_1 x5_1 = some r) ∧ Aside0 (kq ≤ k) ∧ Aside0 (Kd.R Kd.string 9 w' w.heap.size (fun _ => True) v3 x3_1) ∧ Aside0 (Below w.heap.size w w'))
 case atStart => exact ⟨(y241), (0), (0), (sr_), (sr_), H', ⟨Nat.le_refl _⟩, ⟨ra_ HO243.out⟩, ⟨bl_⟩⟩
 clear H'
 obtain ⟨x3_1, x4_1, x5_1, rfl, rfl, HA, HK1, HO_3, HB⟩ := hrel
 cases gk with
 | zero => exact absurd HA.out (by simp [impl_linesOf.l0])
 | succ k1 => ?_
 have H := HA.out
 clear HA
 simp only [impl_linesOf.l0] at H
 by_cases c4 : x5_1 < (a0.size : Int)
 rotate_left
 ·rw [if_neg c4] at H
  have c4b0 := decide_eq_false c4
  clear c4
  by_cases c13 : x4_1 < (a0.size : Int)
  rotate_left
  ·rw [if_neg c13] at H
   have c13b0 := decide_eq_false c13
   clear c13
   obtain rfl := Option.some.inj H
   go_wp2
   go_ret
   exact ⟨_, er_, ra_ HO_3.out, bl_⟩
  rw [if_pos c13] at H
  have c13b0 := decide_eq_true c13
  clear c13
  by_cases c14 : 0 ≤ x4_1
  rotate_left
  ·exact nn_ c14 H
  rw [if_pos c14] at H
  have c14b0 := eq_true c14
  have c14b1 : decide (0 ≤ x4_1) = true := decide_eq_true c14
  clear c14
  by_cases c15 : x4_1 ≤ (a0.size : Int)
  rotate_left
  ·exact nn_ c15 H
  rw [if_pos c15] at H
  have c15b0 := eq_true c15
  have c15b1 : decide (x4_1 ≤ (a0.size : Int)) = true := decide_eq_true c15
  clear c15
  by_cases c16 : x3_1.length < 8796093022208
  rotate_left
  ·exact nn_ c16 H
  rw [if_pos c16] at H
  have LMc16 := Aside0.mk c16
  clear c16
  obtain ⟨y247, hy247⟩ : ∃ y_ : List ByteArray, y_ = (x3_1 ++ [a0.extract (x4_1 : Int).toNat a0.size]) := ⟨_, rfl⟩
  replace H : (some y247) = some r := rp_ H hy247
  have Ny247 := Aside0.mk hy247
  clear hy247
  obtain rfl := Option.some.inj H
  go_wp2_with (first | ((with_reducible refine gate_builtin (b := .append) (xs := #[.tmp 30, .tmp 34]) rfl ?_); at_builtin; refine Kd.R_append Kd.string (w0 := w) w.heap.size rfl (.tmp 30) (.tmp 34) 62 9 (.string ⟨#[]⟩) 16 rfl Try.underlying62 info9 rfl (by decide) (by omega) u3 x3_1 (a0.extract (x4_1 : Int).toNat a0.size) [.string (a0.extract (x4_1 : Int).toNat a0.size)] (fun _ => True) (fun _ => False) rfl rfl ?aP (fun _ hk => hk.elim) ?aF ?aO ?aB ?aS ?aL ?_; (case aP => exact rfl); (case aB => exact bl_); (case aF => exact (fun _ _ => trivial)); (case aO => exact (ra_ HO_3.out)); (case aS => exact (below_size bl_)); (case aL => have := LMc16.out; omega); intro v248 w17 ho hb hg hat; rw [← Ny247.out] at ho; replace HB := Aside0.mk (hb); have HO249 := Aside0.mk (ho); clear HO_3; clear ho hb hg hat))
  go_ret
  exact ⟨_, er_, ra_ HO249.out, bl_⟩
 rw [if_pos c4] at H
 have c4b0 := decide_eq_true c4
 clear c4
 by_cases c5 : 0 ≤ x5_1
 rotate_left
 ·exact nn_ c5 H
 rw [if_pos c5] at H
 have c5b0 := decide_eq_true c5
 clear c5
 by_cases c7 : (bt a0 x5_1) = 10
 rotate_left
 ·rw [if_neg c7] at H
  have c7b0 : ((bt a0 x5_1) == 10) = false := beq_eq_false_iff_ne.mpr c7
  have c7b1 : ((bt a0 x5_1) != 10) = true := bne_iff_ne.mpr c7
  have H' := Aside0.mk H
  clear H
  have p6 : 0 ≤ (x5_1 : Int) := of_decide_eq_true as_
  have q6 : x5_1 < (a0.size : Int) := of_decide_eq_true as_
  have hx6 := bt_at a0 x5_1
  replace p6 := eq_true p6
  replace q6 := eq_true q6
  go_wp2
  go_roundg k1
  case measure => have := HK1.out; omega
  case rel => exact ⟨(x3_1), (x4_1), (wrap64 (x5_1 + 1)), (sr_), (sr_), H', ⟨by have := HK1.out; omega⟩, ⟨ra_ HO_3.out⟩, ⟨bl_⟩⟩
 rw [if_pos c7] at H
 have c7b0 : ((bt a0 x5_1) == 10) = true := beq_iff_eq.mpr c7
 have c7b1 : ((bt a0 x5_1) != 10) = false := bne_eq_false_iff_eq.mpr c7
 clear c7
 by_cases c8 : 0 ≤ x4_1
 rotate_left
 ·exact nn_ c8 H
 rw [if_pos c8] at H
 have c8b0 := eq_true c8
 have c8b1 : decide (0 ≤ x4_1) = true := decide_eq_true c8
 clear c8
 by_cases c9 : x4_1 ≤ x5_1
 rotate_left
 ·exact nn_ c9 H
 rw [if_pos c9] at H
 have c9b0 := eq_true c9
 have c9b1 : decide (x4_1 ≤ x5_1) = true := decide_eq_true c9
 clear c9
 by_cases c10 : x5_1 ≤ (a0.size : Int)
 rotate_left
 ·exact nn_ c10 H
 rw [if_pos c10] at H
 have c10b0 := eq_true c10
 have c10b1 : decide (x5_1 ≤ (a0.size : Int)) = true := decide_eq_true c10
 clear c10
 by_cases c11 : x3_1.length < 8796093022208
 rotate_left
 ·exact nn_ c11 H
 rw [if_pos c11] at H
 have LMc11 := Aside0.mk c11
 clear c11
 obtain ⟨y244, hy244⟩ : ∃ y_ : List ByteArray, y_ = (x3_1 ++ [a0.extract (x4_1 : Int).toNat (x5_1 : Int).toNat]) := ⟨_, rfl⟩
 replace H : (impl_linesOf.l0 k1 a0 y244 (wrap64 (x5_1 + 1)) (wrap64 (x5_1 + 1))) = some r := rp_ H hy244
 have Ny244 := Aside0.mk hy244
 clear hy244
 have H' := Aside0.mk H
 clear H
 have p6 : 0 ≤ (x5_1 : Int) := of_decide_eq_true as_
 have q6 : x5_1 < (a0.size : Int) := of_decide_eq_true as_
 have hx6 := bt_at a0 x5_1
 replace p6 := eq_true p6
 replace q6 := eq_true q6
 go_wp2_with (first | ((with_reducible refine gate_builtin (b := .append) (xs := #[.tmp 17, .tmp 22]) rfl ?_); at_builtin; refine Kd.R_append Kd.string (w0 := w) w.heap.size rfl (.tmp 17) (.tmp 22) 62 9 (.string ⟨#[]⟩) 16 rfl Try.underlying62 info9 rfl (by decide) (by omega) u3 x3_1 (a0.extract (x4_1 : Int).toNat (x5_1 : Int).toNat) [.string (a0.extract (x4_1 : Int).toNat (x5_1 : Int).toNat)] (fun _ => True) (fun _ => False) rfl rfl ?aP (fun _ hk => hk.elim) ?aF ?aO ?aB ?aS ?aL ?_; (case aP => exact rfl); (case aB => exact bl_); (case aF => exact (fun _ _ => trivial)); (case aO => exact (ra_ HO_3.out)); (case aS => exact (below_size bl_)); (case aL => have := LMc11.out; omega); intro v245 w12 ho hb hg hat; rw [← Ny244.out] at ho; replace HB := Aside0.mk (hb); have HO246 := Aside0.mk (ho); clear HO_3; clear ho hb hg hat))
 go_roundg k1
 case measure => have := HK1.out; omega
 case rel => exact ⟨(y244), (wrap64 (x5_1 + 1)), (wrap64 (x5_1 + 1)), (sr_), (sr_), H', ⟨by have := HK1.out; omega⟩, ⟨ra_ HO246.out⟩, ⟨bl_⟩⟩


def impl_within.f (a0 : Int) (a1 : Int) (a2 : Int) : Option (Bool) := if a0 ≥ a1 then (some (decide (a0 ≤ a2))) else (some false)
theorem impl_within.calls (a0 : Int) (a1 : Int) (a2 : Int) (r : Bool) (w : World) (h : impl_within.f a0 a1 a2 = some r) :
 Calls Try.prog 89 #[.int .i64 a0, .int .i64 a1, .int .i64 a2] w fun e w' => e = .returned (.bool r) ∧ Drawn0 w w' := by
 have H := h
 unfold impl_within.f at H
 clear h
 by_cases c4 : a0 ≥ a1
 rotate_left
 ·rw [if_neg c4] at H
  have c4b0 := decide_eq_false c4
  clear c4
  obtain rfl := Option.some.inj H
  go_enter Try.func89, Try.ntmps89
  go_wp2
  go_ret
  exact ⟨sr_, by repeat (first | exact Drawn0.refl _ | apply Drawn0.step)⟩
 rw [if_pos c4] at H
 have c4b0 := decide_eq_true c4
 clear c4
 obtain rfl := Option.some.inj H
 go_enter Try.func89, Try.ntmps89
 go_wp2
 go_ret
 exact ⟨sr_, by repeat (first | exact Drawn0.refl _ | apply Drawn0.step)⟩

end Go.Proofs.Ytjfmpodeenidnaa.PA
