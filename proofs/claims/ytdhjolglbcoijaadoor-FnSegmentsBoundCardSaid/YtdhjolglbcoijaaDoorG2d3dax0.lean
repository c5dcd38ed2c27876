/- Contracts of functions of the program and of the reference, and plain lemmas on what they compute. No condition. -/
import Derived.Test.YtdhjolglbcoijaaDoorG7ebe2x0
import Derived.Test.YtdhjolglbcoijaaDoorG7ebe2x1
import Derived.Test.YtdhjolglbcoijaaDoorShort
namespace Go.Proofs.YtdhjolglbcoijaaDoor.PA
open Go.RowKit Go.Proofs.YtdhjolglbcoijaaDoor.Short Go.Proofs.YtdhjolglbcoijaaDoorW.PrintWords Go.Proofs.YtdhjolglbcoijaaDoorW.PrintLast Go.Proofs.YtdhjolglbcoijaaDoorW.PrintMore
attribute [local go_sem] max2_int min2_int max_two min_two max_three min_three max_four min_four   -- for this text's walks alone
set_option linter.unusedVariables false
set_option linter.unusedSimpArgs false

/-! ### spec_HeadFrom: function 71 -/
def spec_HeadFrom.l0 : Nat → List (S70) → ByteArray → Int → Option (ByteArray)
 | 0, _, _, _ => none
 | k + 1, x1, x5, x6 => if x6 < (x1.length : Int) then (if 0 ≤ x6 then ((spec_EntryText.f k ((rd_T70 x1 x6).f0) ((rd_T70 x1 x6).f1) ((rd_T70 x1 x6).f2.f0) ((rd_T70 x1 x6).f2.f1) ((rd_T70 x1 x6).f2.f2) ((rd_T70 x1 x6).f2.f3)).bind fun t332 => (if x5.size + t332.size ≤ 9223372036854775807 then ((spec_Digest.f (x5 ++ t332)).bind fun t333 => (spec_HeadFrom.l0 k x1 t333 (wrap64 (x6 + 1)))) else (none))) else (none)) else (some x5)
def spec_HeadFrom.f (k : Nat) (a0 : ByteArray) (l1 : List (S70)) : Option (ByteArray) := spec_HeadFrom.l0 k l1 a0 0
theorem spec_HeadFrom.mono_l : ∀ k, (∀ y0 y1 y2, LeO (spec_HeadFrom.l0 k y0 y1 y2) (spec_HeadFrom.l0 (k + 1) y0 y1 y2))
 | 0 => fun _ _ _ r h => by simp [spec_HeadFrom.l0] at h
 | k + 1 => by
  have ih0 := spec_HeadFrom.mono_l k
  ·intro y0 y1 y2
   unfold spec_HeadFrom.l0
   repeat' first
   | (with_reducible exact ih0 _ _ _)
   | (with_reducible exact spec_EntryText.mono _ _ _ _ _ _ _)
   | (with_reducible exact LeO.refl _)
   | (with_reducible exact LeO.none _)
   | (with_reducible refine LeO.ite ?_ ?_)
   | (with_reducible refine LeO.bind ?_ (fun _ => ?_))
   | exact ih0 _ _ _
   | exact spec_EntryText.mono _ _ _ _ _ _ _
   | exact LeO.none _
   | refine LeO.ite ?_ ?_
   | refine LeO.bind ?_ (fun _ => ?_)
theorem spec_HeadFrom.mono : ∀ a0 a1 k, LeO (spec_HeadFrom.f k a0 a1) (spec_HeadFrom.f (k + 1) a0 a1) := by
 intro a0 a1 k
 have ih0 := spec_HeadFrom.mono_l k
 unfold spec_HeadFrom.f
 repeat' first
  | (with_reducible exact ih0 _ _ _)
  | (with_reducible exact spec_EntryText.mono _ _ _ _ _ _ _)
  | (with_reducible exact LeO.refl _)
  | (with_reducible exact LeO.none _)
  | (with_reducible refine LeO.ite ?_ ?_)
  | (with_reducible refine LeO.bind ?_ (fun _ => ?_))
  | exact ih0 _ _ _
  | exact spec_EntryText.mono _ _ _ _ _ _ _
  | exact LeO.none _
  | refine LeO.ite ?_ ?_
  | refine LeO.bind ?_ (fun _ => ?_)
set_option maxHeartbeats 8000000 in
set_option maxRecDepth 100000 in
theorem spec_HeadFrom.calls (k : Nat) (a0 : ByteArray) (A1 : Option Addr) (c1 : Nat) (l1 : List (S70)) (r : ByteArray) (w : World) (hr1 : Kd.C k70 w A1 l1.length l1) (hc1 : l1.length ≤ c1) (h : spec_HeadFrom.f k a0 l1 = some r) :
 Calls Tryd.prog 71 #[.string a0, .slice A1 l1.length c1] w fun e w' => e = .returned (.string r) ∧ Below w.heap.size w w' := by
 have hu70 := Tryd.underlying70
 have HR1 := Aside0.mk hr1
 have HC1 := Aside0.mk hc1
 clear hr1 hc1
 have HB := Aside0.mk (Below.refl w.heap.size w)
 have H : (spec_HeadFrom.l0 k l1 a0 0) = some r := h
 clear h
 have H' := Aside0.mk H
 clear H
 go_enter Tryd.func71, Tryd.ntmps71
 go_wp2
 go_loopg [5, 6] k (fun kq v5 v6 w' => ∃ (x5_1 : ByteArray) (x6_1 : Int), v5 = .string x5_1 ∧ v6 = .int .i64 x6_1 ∧ Aside0 (spec_HeadFrom.l0 kq l1 x5_1 x6_1 = some r) ∧ Aside0 (kq ≤ k) ∧ Aside0 (Below w.heap.size w w'))
 case atStart => exact ⟨(a0), (0), (by first | rfl | (simp; done) | (simp [*]; done)), (by first | rfl | (simp; done) | (simp [*]; done)), H', ⟨Nat.le_refl _⟩, ⟨bl_⟩⟩
 case round =>
  clear H'
  try clear c1
  try clear p2
  obtain ⟨x5_1, x6_1, rfl, rfl, HA, HK1, HB⟩ := hrel
  cases gk with
  | zero => exact absurd HA.out (by simp [spec_HeadFrom.l0])
  | succ k1 =>
   have H := HA.out
   clear HA
   simp only [spec_HeadFrom.l0] at H
   by_cases c3 : x6_1 < (l1.length : Int)
   ·rw [if_pos c3] at H
    have c3b0 : decide (x6_1 < (l1.length : Int)) = true := decide_eq_true c3
    clear c3
    by_cases c4 : 0 ≤ x6_1
    ·rw [if_pos c4] at H
     have c4b0 : decide (0 ≤ x6_1) = true := decide_eq_true c4
     clear c4
     replace H := Option.bind_eq_some_iff.mp H
     obtain ⟨t332, A50, H⟩ := H
     replace H : (if x5_1.size + t332.size ≤ 9223372036854775807 then ((spec_Digest.f (x5_1 ++ t332)).bind fun t333 => (spec_HeadFrom.l0 k1 l1 t333 (wrap64 (x6_1 + 1)))) else (none)) = some r := H
     have A5 := Aside0.mk A50
     clear A50
     by_cases c6 : x5_1.size + t332.size ≤ 9223372036854775807
     ·rw [if_pos c6] at H
      have c6b0 := eq_true c6
      have c6b1 : decide (x5_1.size + t332.size ≤ 9223372036854775807) = true := decide_eq_true c6
      try have c6b2 : (9223372036854775807 < x5_1.size + t332.size) = False := eq_false (Nat.not_lt.2 c6)
      replace H := Option.bind_eq_some_iff.mp H
      obtain ⟨t333, A70, H⟩ := H
      replace H : (spec_HeadFrom.l0 k1 l1 t333 (wrap64 (x6_1 + 1))) = some r := H
      have A7 := Aside0.mk A70
      clear A70
      have H' := Aside0.mk H
      clear H
      have p331 : 0 ≤ (x6_1 : Int) := of_decide_eq_true as_
      have q331 : x6_1 < (l1.length : Int) := of_decide_eq_true as_
      obtain ⟨ad331, e331, hx331_0, hx331_1, hx331_2, hx331_3, hx331_4, hx331_5⟩ := at_T70 HR1.out x6_1 p331 q331
      cases e331
      replace hx331_0 := (HB.out.cell (World.block_lt_of_cell? w _ hx331_0)).trans hx331_0
      replace hx331_1 := (HB.out.cell (World.block_lt_of_cell? w _ hx331_1)).trans hx331_1
      replace hx331_2 := (HB.out.cell (World.block_lt_of_cell? w _ hx331_2)).trans hx331_2
      replace hx331_3 := (HB.out.cell (World.block_lt_of_cell? w _ hx331_3)).trans hx331_3
      replace hx331_4 := (HB.out.cell (World.block_lt_of_cell? w _ hx331_4)).trans hx331_4
      replace hx331_5 := (HB.out.cell (World.block_lt_of_cell? w _ hx331_5)).trans hx331_5
      replace p331 := eq_true p331
      replace q331 := eq_true q331
      go_wp2_with (first | ((with_reducible refine gate_callee (f := 64) rfl ?_); refine goesL_ (some 19) rfl rfl Tryd.func64 (by kernel_rfl) rfl #[.agg #[.int .i64 ((rd_T70 l1 x6_1).f0), .int .i64 ((rd_T70 l1 x6_1).f1), .int .i64 ((rd_T70 l1 x6_1).f2.f0), .int .i64 ((rd_T70 l1 x6_1).f2.f1), .int .i64 ((rd_T70 l1 x6_1).f2.f2), .int .i64 ((rd_T70 l1 x6_1).f2.f3)]] rfl lm_ ?_; (with_reducible refine (spec_EntryText.calls k1 ((rd_T70 l1 x6_1).f0) ((rd_T70 l1 x6_1).f1) ((rd_T70 l1 x6_1).f2.f0) ((rd_T70 l1 x6_1).f2.f1) ((rd_T70 l1 x6_1).f2.f2) ((rd_T70 l1 x6_1).f2.f3) t332 _ A5.out).mono ?_); rintro e w8 ⟨rfl, hb⟩; refine ⟨_, rfl, ?_⟩; have n0_ := Aside0.mk (below_step bl_ hb); clear HB; have HB := n0_; clear n0_; (try clear hb); (try clear hb2); (try clear hk); (try clear hi)) | ((with_reducible refine gate_callee (f := 56) rfl ?_); refine goesL_ (some 21) rfl rfl Tryd.func56 (by kernel_rfl) rfl #[.string (x5_1 ++ t332)] rfl lm_ ?_; (with_reducible refine (spec_Digest.calls (x5_1 ++ t332) t333 _ A7.out).mono ?_); rintro e w9 ⟨rfl, hb⟩; refine ⟨_, rfl, ?_⟩; have n0_ := Aside0.mk (below_step bl_ hb); clear HB; have HB := n0_; clear n0_; (try clear hb); (try clear hb2); (try clear hk); (try clear hi)))
      go_roundg k1
      case measure => have := HK1.out; omega
      case rel => exact ⟨(t333), (wrap64 (x6_1 + 1)), (by first | rfl | (simp; done) | (simp [*]; done)), (by first | rfl | (simp; done) | (simp [*]; done)), H', ⟨by have := HK1.out; omega⟩, ⟨bl_⟩⟩
     ·rw [if_neg c6] at H
      exact absurd H (by simp)
    ·rw [if_neg c4] at H
     exact absurd H (by simp)
   ·rw [if_neg c3] at H
    have c3b0 : decide (x6_1 < (l1.length : Int)) = false := decide_eq_false c3
    clear c3
    obtain rfl := Option.some.inj H
    go_wp2
    go_ret
    exact ⟨by first | rfl | (simp [errW_none, errW_some] <;> rfl) | (simp [*, errW_none, errW_some] <;> rfl), bl_⟩

end Go.Proofs.YtdhjolglbcoijaaDoor.PA
