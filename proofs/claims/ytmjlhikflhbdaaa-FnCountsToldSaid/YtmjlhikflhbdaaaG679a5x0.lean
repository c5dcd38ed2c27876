/- Contracts of functions of the program and of the reference, and plain lemmas on what they compute. No condition. -/
import Derived.Test.YtmjlhikflhbdaaaGabbbex0
import Derived.Test.YtmjlhikflhbdaaaG19bb7x0
import Derived.Test.YtmjlhikflhbdaaaShortV
namespace Go.Proofs.Ytmjlhikflhbdaaa.PA
open Go.RowKit Go.Proofs.Ytmjlhikflhbdaaa.Short Go.Proofs.YtmjlhikflhbdaaaW.PrintWords Go.Proofs.YtmjlhikflhbdaaaW.PrintLast Go.Proofs.YtmjlhikflhbdaaaW.PrintMore
attribute [local go_sem] max2_int min2_int max_two min_two max_three min_three max_four min_four   -- for this text's walks alone
set_option linter.unusedVariables false
set_option linter.unusedSimpArgs false

/-! ### spec_PidsIn: function 43 -/
def spec_PidsIn.l0 : Nat → List (S131) → List Int → Int → Option (List Int)
 | 0, _, _, _ => none
 | k + 1, x0, x3, x4 => if x4 < (x0.length : Int) then (if 0 ≤ x4 then ((spec_l09In.f k x3 ((rd_T131 x0 x4).f0)).bind fun t1019 => (if t1019 = true then (spec_PidsIn.l0 k x0 x3 (wrap64 (x4 + 1))) else ((spec_l23Put.f k x3 ((rd_T131 x0 x4).f0)).bind fun t1021 => (spec_PidsIn.l0 k x0 t1021 (wrap64 (x4 + 1)))))) else (none)) else (some x3)
def spec_PidsIn.f (k : Nat) (l0 : List (S131)) : Option (List Int) := spec_PidsIn.l0 k l0 (([] : List Int)) 0
theorem spec_PidsIn.mono_l : ∀ k, (∀ y0 y1 y2, LeO (spec_PidsIn.l0 k y0 y1 y2) (spec_PidsIn.l0 (k + 1) y0 y1 y2))
 | 0 => fun _ _ _ r h => by simp [spec_PidsIn.l0] at h
 | k + 1 => by
  have ih0 := spec_PidsIn.mono_l k
  ·intro y0 y1 y2
   unfold spec_PidsIn.l0
   repeat' first
   | (with_reducible exact ih0 _ _ _)
   | (with_reducible exact spec_l09In.mono _ _ _)
   | (with_reducible exact spec_l23Put.mono _ _ _)
   | (with_reducible exact LeO.refl _)
   | (with_reducible exact LeO.none _)
   | (with_reducible refine LeO.ite ?_ ?_)
   | (with_reducible refine LeO.bind ?_ (fun _ => ?_))
   | exact ih0 _ _ _
   | exact spec_l09In.mono _ _ _
   | exact spec_l23Put.mono _ _ _
   | exact LeO.none _
   | refine LeO.ite ?_ ?_
   | refine LeO.bind ?_ (fun _ => ?_)
theorem spec_PidsIn.mono : ∀ a0 k, LeO (spec_PidsIn.f k a0) (spec_PidsIn.f (k + 1) a0) := by
 intro a0 k
 have ih0 := spec_PidsIn.mono_l k
 unfold spec_PidsIn.f
 repeat' first
  | (with_reducible exact ih0 _ _ _)
  | (with_reducible exact spec_l09In.mono _ _ _)
  | (with_reducible exact spec_l23Put.mono _ _ _)
  | (with_reducible exact LeO.refl _)
  | (with_reducible exact LeO.none _)
  | (with_reducible refine LeO.ite ?_ ?_)
  | (with_reducible refine LeO.bind ?_ (fun _ => ?_))
  | exact ih0 _ _ _
  | exact spec_l09In.mono _ _ _
  | exact spec_l23Put.mono _ _ _
  | exact LeO.none _
  | refine LeO.ite ?_ ?_
  | refine LeO.bind ?_ (fun _ => ?_)
set_option maxHeartbeats 8000000 in
set_option maxRecDepth 100000 in
theorem spec_PidsIn.calls (k : Nat) (A0 : Option Addr) (c0 : Nat) (l0 : List (S131)) (r : List Int) (w : World) (hr0 : Kd.C k131 w A0 l0.length l0) (hc0 : l0.length ≤ c0) (h : spec_PidsIn.f k l0 = some r) :
 Calls Try.prog 43 #[.slice A0 l0.length c0] w fun e w' => ∃ v0_ : Value, e = .returned (v0_) ∧ Kd.R (Kd.int .i64) 3 w' w.heap.size (fun _ => True) v0_ r ∧ Below w.heap.size w w' := by
 have HR0 := Aside0.mk hr0
 have HC0 := Aside0.mk hc0
 clear hr0 hc0
 have HB := Aside0.mk (Below.refl w.heap.size w)
 have H : (spec_PidsIn.l0 k l0 (([] : List Int)) 0) = some r := h
 clear h
 obtain ⟨y1015, hy1015⟩ : ∃ y_ : List Int, y_ = (([] : List Int)) := ⟨_, rfl⟩
 replace H : (spec_PidsIn.l0 k l0 y1015 0) = some r := by first | (rw [hy1015]; with_reducible exact H) | (have H2_ := (Option.bind_some _ _).symm.trans H; rw [hy1015]; with_reducible exact H2_) | (have H2_ := (Option.bind_some _ _).symm.trans H; with_reducible exact H2_) | with_reducible exact H | (rw [hy1015]; exact H) | exact H
 have Ny1015 := Aside0.mk hy1015
 clear hy1015
 have H' := Aside0.mk H
 clear H
 go_enter Try.func43, Try.ntmps43
 go_wp2_with (first | ((with_reducible refine gate_dst (N := 5) rfl ?_); refine Kd.R_lit (Kd.int .i64) _ 3 ?hg (N := 5) ?hd (xs := ([] : List Int)) (inner := []) (ok := fun _ => True) (okp := fun _ => True) ?hr ?hp (fun _ hk => hk) trivial (Below.refl _ _) (Nat.le_refl _) (by simp) ?_; (case hd => rfl); (case hg => rfl); (case hr => first | (go_simp; done) | (go_simp; rfl)); (case hp => exact (Reps.none _ _)); intro v1016 w2 ho3 hb hg_ hnew_; clear hg_ hnew_; (first | rw [← Ny1015.out] at ho3 | (simp only [Int.reduceToNat] at ho3; rw [← Ny1015.out] at ho3)); have n0_ := Aside0.mk (Kd.R_lower ho3 (below_size bl_)); have n1_ := Aside0.mk (below_step bl_ hb); clear HB; have HO1017 := n0_; have HB := n1_; clear n0_ n1_; clear hb ho3))
 go_loopg [3, 4] k (fun kq v3 v4 w' => ∃ (x3_1 : List Int) (x4_1 : Int), v4 = .int .i64 x4_1 ∧ Aside0 (spec_PidsIn.l0 kq l0 x3_1 x4_1 = some r) ∧ Aside0 (kq ≤ k) ∧ Aside0 (Kd.R (Kd.int .i64) 3 w' w.heap.size (fun _ => True) v3 x3_1) ∧ Aside0 (Below w.heap.size w w'))
 case atStart => exact ⟨(y1015), (0), (by first | rfl | (simp; done) | (simp [*]; done)), H', ⟨Nat.le_refl _⟩, ⟨ra_ HO1017.out⟩, ⟨bl_⟩⟩
 case round =>
  clear H'
  try clear p2
  obtain ⟨x3_1, x4_1, rfl, HA, HK1, HO_3, HB⟩ := hrel
  cases gk with
  | zero => exact absurd HA.out (by simp [spec_PidsIn.l0])
  | succ k1 =>
   have H := HA.out
   clear HA
   simp only [spec_PidsIn.l0] at H
   by_cases c4 : x4_1 < (l0.length : Int)
   ·rw [if_pos c4] at H
    have c4b0 : decide (x4_1 < (l0.length : Int)) = true := decide_eq_true c4
    clear c4
    by_cases c5 : 0 ≤ x4_1
    ·rw [if_pos c5] at H
     have c5b0 : decide (0 ≤ x4_1) = true := decide_eq_true c5
     clear c5
     replace H := Option.bind_eq_some_iff.mp H
     obtain ⟨t1019, A60, H⟩ := H
     try dsimp only at H
     have A6 := Aside0.mk A60
     clear A60
     by_cases c7 : t1019 = true
     ·subst c7
      rw [if_pos rfl] at H
      have H' := Aside0.mk H
      clear H
      have p1018 : 0 ≤ (x4_1 : Int) := of_decide_eq_true as_
      have q1018 : x4_1 < (l0.length : Int) := of_decide_eq_true as_
      obtain ⟨ad1018, e1018, hx1018_0, hx1018_1, hx1018_2, hx1018_3, hx1018_4, hx1018_5⟩ := at_T131 HR0.out x4_1 p1018 q1018
      cases e1018
      replace hx1018_0 := (HB.out.cell (World.block_lt_of_cell? w _ hx1018_0)).trans hx1018_0
      replace hx1018_1 := (HB.out.cell (World.block_lt_of_cell? w _ hx1018_1)).trans hx1018_1
      replace hx1018_2 := (HB.out.cell (World.block_lt_of_cell? w _ hx1018_2)).trans hx1018_2
      replace hx1018_3 := (HB.out.cell (World.block_lt_of_cell? w _ hx1018_3)).trans hx1018_3
      replace hx1018_4 := (HB.out.cell (World.block_lt_of_cell? w _ hx1018_4)).trans hx1018_4
      replace hx1018_5 := (HB.out.cell (World.block_lt_of_cell? w _ hx1018_5)).trans hx1018_5
      replace p1018 := eq_true p1018
      replace q1018 := eq_true q1018
      obtain ⟨Ao8, co8, eo8⟩ := Kd.R_slice HO_3.out
      subst eo8
      go_wp2_with (first | ((with_reducible refine gate_callee (f := 126) rfl ?_); refine goesL_ (some 18) rfl rfl Try.func126 (by kernel_rfl) rfl #[.slice Ao8 x3_1.length co8, .int .i64 ((rd_T131 l0 x4_1).f0)] rfl lm_ ?_; (with_reducible refine (spec_l09In.calls k1 _ _ x3_1 ((rd_T131 l0 x4_1).f0) true _ ?side1 ?side2 A6.out).mono ?_); (case side1 => repeat (first | exact (Kd.R_reads' HO_3.out).2.2 | (with_reducible refine Kd.C_alloc ?_ _) | (with_reducible refine Kd.C_drewN ?_ _) | (with_reducible refine Kd.C_drew ?_))); (case side2 => exact (Kd.R_reads' HO_3.out).2.1); rintro e w' ⟨rfl, ⟨nd, rfl⟩⟩; refine ⟨_, rfl, ?_⟩))
      go_roundg k1
      case measure => have := HK1.out; omega
      case rel => exact ⟨(x3_1), (wrap64 (x4_1 + 1)), (by first | rfl | (simp; done) | (simp [*]; done)), H', ⟨by have := HK1.out; omega⟩, ⟨ra_ HO_3.out⟩, ⟨bl_⟩⟩
     ·replace c7 := Bool.eq_false_iff.mpr c7
      subst c7
      rw [if_neg (show ¬ (false = true) by decide)] at H
      replace H := Option.bind_eq_some_iff.mp H
      obtain ⟨t1021, A90, H⟩ := H
      try dsimp only at H
      have A9 := Aside0.mk A90
      clear A90
      have H' := Aside0.mk H
      clear H
      have p1018 : 0 ≤ (x4_1 : Int) := of_decide_eq_true as_
      have q1018 : x4_1 < (l0.length : Int) := of_decide_eq_true as_
      obtain ⟨ad1018, e1018, hx1018_0, hx1018_1, hx1018_2, hx1018_3, hx1018_4, hx1018_5⟩ := at_T131 HR0.out x4_1 p1018 q1018
      cases e1018
      replace hx1018_0 := (HB.out.cell (World.block_lt_of_cell? w _ hx1018_0)).trans hx1018_0
      replace hx1018_1 := (HB.out.cell (World.block_lt_of_cell? w _ hx1018_1)).trans hx1018_1
      replace hx1018_2 := (HB.out.cell (World.block_lt_of_cell? w _ hx1018_2)).trans hx1018_2
      replace hx1018_3 := (HB.out.cell (World.block_lt_of_cell? w _ hx1018_3)).trans hx1018_3
      replace hx1018_4 := (HB.out.cell (World.block_lt_of_cell? w _ hx1018_4)).trans hx1018_4
      replace hx1018_5 := (HB.out.cell (World.block_lt_of_cell? w _ hx1018_5)).trans hx1018_5
      replace p1018 := eq_true p1018
      replace q1018 := eq_true q1018
      obtain ⟨Ao10, co10, eo10⟩ := Kd.R_slice HO_3.out
      subst eo10
      go_wp2_with (first | ((with_reducible refine gate_callee (f := 126) rfl ?_); refine goesL_ (some 18) rfl rfl Try.func126 (by kernel_rfl) rfl #[.slice Ao10 x3_1.length co10, .int .i64 ((rd_T131 l0 x4_1).f0)] rfl lm_ ?_; (with_reducible refine (spec_l09In.calls k1 _ _ x3_1 ((rd_T131 l0 x4_1).f0) false _ ?side1 ?side2 A6.out).mono ?_); (case side1 => repeat (first | exact (Kd.R_reads' HO_3.out).2.2 | (with_reducible refine Kd.C_alloc ?_ _) | (with_reducible refine Kd.C_drewN ?_ _) | (with_reducible refine Kd.C_drew ?_))); (case side2 => exact (Kd.R_reads' HO_3.out).2.1); rintro e w' ⟨rfl, ⟨nd, rfl⟩⟩; refine ⟨_, rfl, ?_⟩; have p1020 : 0 ≤ (x4_1 : Int) := of_decide_eq_true as_; have q1020 : x4_1 < (l0.length : Int) := of_decide_eq_true as_; obtain ⟨ad1020, e1020, hx1020_0, hx1020_1, hx1020_2, hx1020_3, hx1020_4, hx1020_5⟩ := at_T131 HR0.out x4_1 p1020 q1020; obtain rfl : ad1018 = ad1020 := (by injection e1020); replace hx1020_0 := (HB.out.cell (World.block_lt_of_cell? w _ hx1020_0)).trans hx1020_0; replace hx1020_1 := (HB.out.cell (World.block_lt_of_cell? w _ hx1020_1)).trans hx1020_1; replace hx1020_2 := (HB.out.cell (World.block_lt_of_cell? w _ hx1020_2)).trans hx1020_2; replace hx1020_3 := (HB.out.cell (World.block_lt_of_cell? w _ hx1020_3)).trans hx1020_3; replace hx1020_4 := (HB.out.cell (World.block_lt_of_cell? w _ hx1020_4)).trans hx1020_4; replace hx1020_5 := (HB.out.cell (World.block_lt_of_cell? w _ hx1020_5)).trans hx1020_5; replace p1020 := eq_true p1020; replace q1020 := eq_true q1020) | ((with_reducible refine gate_callee (f := 127) rfl ?_); refine goesL_ (some 26) rfl rfl Try.func127 (by kernel_rfl) rfl #[.slice Ao10 x3_1.length co10, .int .i64 ((rd_T131 l0 x4_1).f0)] rfl lm_ ?_; (with_reducible refine (spec_l23Put.calls k1 _ _ x3_1 ((rd_T131 l0 x4_1).f0) t1021 _ ?side1 ?side2 A9.out).mono ?_); (case side1 => repeat (first | exact (Kd.R_reads' HO_3.out).2.2 | (with_reducible refine Kd.C_alloc ?_ _) | (with_reducible refine Kd.C_drewN ?_ _) | (with_reducible refine Kd.C_drew ?_))); (case side2 => exact (Kd.R_reads' HO_3.out).2.1); rintro e w11 ⟨v1022, rfl, ho0, hb⟩; refine ⟨_, rfl, ?_⟩; have n0_ := Aside0.mk (Kd.R_elder' (ra_ HO_3.out) (Kd.R_base ho0) hb); have n1_ := Aside0.mk (Kd.R_lower (Kd.R_new' ho0 (Kd.R_lt (ra_ HO_3.out))) (below_size bl_)); have n2_ := Aside0.mk (below_step bl_ hb); clear HO_3; clear HB; have HO_3 := n0_; have HO1023 := n1_; have HB := n2_; clear n0_ n1_ n2_; (try clear hb); (try clear hb2); (try clear hk); (try clear hi); (try clear ho0)))
      go_roundg k1
      case measure => have := HK1.out; omega
      case rel => exact ⟨(t1021), (wrap64 (x4_1 + 1)), (by first | rfl | (simp; done) | (simp [*]; done)), H', ⟨by have := HK1.out; omega⟩, ⟨by (with_reducible repeat (first | apply Kd.R_alloc | apply Kd.R_drewN | apply Kd.R_drew)); exact Kd.R_mono HO1023.out (fun _ hk => trivial)⟩, ⟨bl_⟩⟩
    ·rw [if_neg c5] at H
     exact absurd H (by simp)
   ·rw [if_neg c4] at H
    have c4b0 : decide (x4_1 < (l0.length : Int)) = false := decide_eq_false c4
    clear c4
    obtain rfl := Option.some.inj H
    go_wp2
    go_ret
    exact ⟨_, by first | rfl | (simp [errW_none, errW_some] <;> rfl) | (simp [*, errW_none, errW_some] <;> rfl) | exact False.elim (Bool.noConfusion ((decide_eq_true (of_eq_true (by assumption))).symm.trans (by assumption))), ra_ HO_3.out, bl_⟩

end Go.Proofs.Ytmjlhikflhbdaaa.PA
