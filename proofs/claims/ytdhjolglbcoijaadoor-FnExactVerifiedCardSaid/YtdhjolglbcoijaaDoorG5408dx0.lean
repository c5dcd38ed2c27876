/- Contracts of functions of the program and of the reference, and plain lemmas on what they compute. No condition. -/
import Derived.Test.YtdhjolglbcoijaaDoorG7ebe2x0
import Derived.Test.YtdhjolglbcoijaaDoorG7ebe2x1
import Derived.Test.YtdhjolglbcoijaaDoorShortV
namespace Go.Proofs.YtdhjolglbcoijaaDoor.PA
open Go.RowKit Go.Proofs.YtdhjolglbcoijaaDoor.Short Go.Proofs.YtdhjolglbcoijaaDoorW.PrintWords Go.Proofs.YtdhjolglbcoijaaDoorW.PrintLast Go.Proofs.YtdhjolglbcoijaaDoorW.PrintMore
attribute [local go_sem] max2_int min2_int max_two min_two max_three min_three max_four min_four   -- for this text's walks alone
set_option linter.unusedVariables false
set_option linter.unusedSimpArgs false

/-! ### spec_LogText: function 74 -/
def spec_LogText.l0 : Nat → List (S70) → ByteArray → Int → Option (ByteArray × Bool)
 | 0, _, _, _ => none
 | k + 1, x0, x4, x5 => if x5 < (x0.length : Int) then (if 0 ≤ x5 then ((spec_EntryText.f k ((rd_T70 x0 x5).f0) ((rd_T70 x0 x5).f1) ((rd_T70 x0 x5).f2.f0) ((rd_T70 x0 x5).f2.f1) ((rd_T70 x0 x5).f2.f2) ((rd_T70 x0 x5).f2.f3)).bind fun t151 => (if t151.toList = ([] : List UInt8) then (some ((⟨#[]⟩ : ByteArray), false)) else ((spec_l01Var.f k (t151.size : Int)).bind fun t152 => (if x4.size + t152.size ≤ 9223372036854775807 then (if (x4 ++ t152).size + t151.size ≤ 9223372036854775807 then (spec_LogText.l0 k x0 ((x4 ++ t152) ++ t151) (wrap64 (x5 + 1))) else (none)) else (none))))) else (none)) else (some (x4, true))
def spec_LogText.f (k : Nat) (l0 : List (S70)) : Option (ByteArray × Bool) := if (l0.length : Int) > 200 then (some ((⟨#[]⟩ : ByteArray), false)) else (spec_LogText.l0 k l0 (⟨#[]⟩ : ByteArray) 0)
theorem spec_LogText.mono_l : ∀ k, (∀ y0 y1 y2, LeO (spec_LogText.l0 k y0 y1 y2) (spec_LogText.l0 (k + 1) y0 y1 y2))
 | 0 => fun _ _ _ r h => by simp [spec_LogText.l0] at h
 | k + 1 => by
  have ih0 := spec_LogText.mono_l k
  ·intro y0 y1 y2
   unfold spec_LogText.l0
   repeat' first
   | (with_reducible exact ih0 _ _ _)
   | (with_reducible exact spec_EntryText.mono _ _ _ _ _ _ _)
   | (with_reducible exact spec_l01Var.mono _ _)
   | (with_reducible exact LeO.refl _)
   | (with_reducible exact LeO.none _)
   | (with_reducible refine LeO.ite ?_ ?_)
   | (with_reducible refine LeO.bind ?_ (fun _ => ?_))
   | exact ih0 _ _ _
   | exact spec_EntryText.mono _ _ _ _ _ _ _
   | exact spec_l01Var.mono _ _
   | exact LeO.none _
   | refine LeO.ite ?_ ?_
   | refine LeO.bind ?_ (fun _ => ?_)
theorem spec_LogText.mono : ∀ a0 k, LeO (spec_LogText.f k a0) (spec_LogText.f (k + 1) a0) := by
 intro a0 k
 have ih0 := spec_LogText.mono_l k
 unfold spec_LogText.f
 repeat' first
  | (with_reducible exact ih0 _ _ _)
  | (with_reducible exact spec_EntryText.mono _ _ _ _ _ _ _)
  | (with_reducible exact spec_l01Var.mono _ _)
  | (with_reducible exact LeO.refl _)
  | (with_reducible exact LeO.none _)
  | (with_reducible refine LeO.ite ?_ ?_)
  | (with_reducible refine LeO.bind ?_ (fun _ => ?_))
  | exact ih0 _ _ _
  | exact spec_EntryText.mono _ _ _ _ _ _ _
  | exact spec_l01Var.mono _ _
  | exact LeO.none _
  | refine LeO.ite ?_ ?_
  | refine LeO.bind ?_ (fun _ => ?_)
set_option maxHeartbeats 8000000 in
set_option maxRecDepth 100000 in
theorem spec_LogText.calls (k : Nat) (A0 : Option Addr) (c0 : Nat) (l0 : List (S70)) (r1 : ByteArray) (r2 : Bool) (w : World) (hr0 : Kd.C k70 w A0 l0.length l0) (hc0 : l0.length ≤ c0) (h : spec_LogText.f k l0 = some (r1, r2)) :
 Calls Tryd.prog 74 #[.slice A0 l0.length c0] w fun e w' => e = .returned (.tuple #[.string r1, .bool r2]) ∧ Below w.heap.size w w' := by
 have hu70 := Tryd.underlying70
 have HR0 := Aside0.mk hr0
 have HC0 := Aside0.mk hc0
 clear hr0 hc0
 have HB := Aside0.mk (Below.refl w.heap.size w)
 have H : (if (l0.length : Int) > 200 then (some ((⟨#[]⟩ : ByteArray), false)) else (spec_LogText.l0 k l0 (⟨#[]⟩ : ByteArray) 0)) = some (r1, r2) := h
 clear h
 by_cases c2 : (l0.length : Int) > 200
 ·rw [if_pos c2] at H
  have c2b0 : decide (200 < (l0.length : Int)) = true := decide_eq_true c2
  have c2b1 : decide (200 < l0.length) = true := decide_eq_true (by omega)
  clear c2
  simp only [Option.some.injEq, Prod.mk.injEq] at H
  obtain ⟨rfl, rfl⟩ := H
  go_enter Tryd.func74, Tryd.ntmps74
  go_wp2
  go_ret2
  exact ⟨by first | rfl | (simp [errW_none, errW_some] <;> rfl) | (simp [*, errW_none, errW_some] <;> rfl), bl_⟩
 ·rw [if_neg c2] at H
  have c2b0 : decide (200 < (l0.length : Int)) = false := decide_eq_false c2
  have c2b1 : decide (200 < l0.length) = false := decide_eq_false (by omega)
  clear c2
  have H' := Aside0.mk H
  clear H
  go_enter Tryd.func74, Tryd.ntmps74
  go_wp2
  go_loopg [4, 5] k (fun kq v4 v5 w' => ∃ (x4_1 : ByteArray) (x5_1 : Int), v4 = .string x4_1 ∧ v5 = .int .i64 x5_1 ∧ Aside0 (spec_LogText.l0 kq l0 x4_1 x5_1 = some (r1, r2)) ∧ Aside0 (kq ≤ k) ∧ Aside0 (Below w.heap.size w w'))
  case atStart => exact ⟨((⟨#[]⟩ : ByteArray)), (0), (by first | rfl | (simp; done) | (simp [*]; done)), (by first | rfl | (simp; done) | (simp [*]; done)), H', ⟨Nat.le_refl _⟩, ⟨bl_⟩⟩
  case round =>
   clear H'
   try clear c2
   try clear c2b0
   try clear c2b1
   try clear p2
   obtain ⟨x4_1, x5_1, rfl, rfl, HA, HK1, HB⟩ := hrel
   cases gk with
   | zero => exact absurd HA.out (by simp [spec_LogText.l0])
   | succ k1 =>
    have H := HA.out
    clear HA
    simp only [spec_LogText.l0] at H
    by_cases c3 : x5_1 < (l0.length : Int)
    ·rw [if_pos c3] at H
     have c3b0 : decide (x5_1 < (l0.length : Int)) = true := decide_eq_true c3
     clear c3
     by_cases c4 : 0 ≤ x5_1
     ·rw [if_pos c4] at H
      have c4b0 : decide (0 ≤ x5_1) = true := decide_eq_true c4
      clear c4
      replace H := Option.bind_eq_some_iff.mp H
      obtain ⟨t151, A50, H⟩ := H
      replace H : (if t151.toList = ([] : List UInt8) then (some ((⟨#[]⟩ : ByteArray), false)) else ((spec_l01Var.f k1 (t151.size : Int)).bind fun t152 => (if x4_1.size + t152.size ≤ 9223372036854775807 then (if (x4_1 ++ t152).size + t151.size ≤ 9223372036854775807 then (spec_LogText.l0 k1 l0 ((x4_1 ++ t152) ++ t151) (wrap64 (x5_1 + 1))) else (none)) else (none)))) = some (r1, r2) := H
      have A5 := Aside0.mk A50
      clear A50
      by_cases c6 : t151.toList = ([] : List UInt8)
      ·rw [if_pos c6] at H
       have c6b0 : (t151.toList == ([] : List UInt8)) = true := beq_iff_eq.mpr c6
       have c6b1 : (t151.toList != ([] : List UInt8)) = false := bne_eq_false_iff_eq.mpr c6
       clear c6
       simp only [Option.some.injEq, Prod.mk.injEq] at H
       obtain ⟨rfl, rfl⟩ := H
       have p150 : 0 ≤ (x5_1 : Int) := of_decide_eq_true as_
       have q150 : x5_1 < (l0.length : Int) := of_decide_eq_true as_
       obtain ⟨ad150, e150, hx150_0, hx150_1, hx150_2, hx150_3, hx150_4, hx150_5⟩ := at_T70 HR0.out x5_1 p150 q150
       cases e150
       replace hx150_0 := (HB.out.cell (World.block_lt_of_cell? w _ hx150_0)).trans hx150_0
       replace hx150_1 := (HB.out.cell (World.block_lt_of_cell? w _ hx150_1)).trans hx150_1
       replace hx150_2 := (HB.out.cell (World.block_lt_of_cell? w _ hx150_2)).trans hx150_2
       replace hx150_3 := (HB.out.cell (World.block_lt_of_cell? w _ hx150_3)).trans hx150_3
       replace hx150_4 := (HB.out.cell (World.block_lt_of_cell? w _ hx150_4)).trans hx150_4
       replace hx150_5 := (HB.out.cell (World.block_lt_of_cell? w _ hx150_5)).trans hx150_5
       replace p150 := eq_true p150
       replace q150 := eq_true q150
       go_wp2_with (first | ((with_reducible refine gate_callee (f := 64) rfl ?_); refine goesL_ (some 20) rfl rfl Tryd.func64 (by kernel_rfl) rfl #[.agg #[.int .i64 ((rd_T70 l0 x5_1).f0), .int .i64 ((rd_T70 l0 x5_1).f1), .int .i64 ((rd_T70 l0 x5_1).f2.f0), .int .i64 ((rd_T70 l0 x5_1).f2.f1), .int .i64 ((rd_T70 l0 x5_1).f2.f2), .int .i64 ((rd_T70 l0 x5_1).f2.f3)]] rfl lm_ ?_; (with_reducible refine (spec_EntryText.calls k1 ((rd_T70 l0 x5_1).f0) ((rd_T70 l0 x5_1).f1) ((rd_T70 l0 x5_1).f2.f0) ((rd_T70 l0 x5_1).f2.f1) ((rd_T70 l0 x5_1).f2.f2) ((rd_T70 l0 x5_1).f2.f3) t151 _ A5.out).mono ?_); rintro e w7 ⟨rfl, hb⟩; refine ⟨_, rfl, ?_⟩; have n0_ := Aside0.mk (below_step bl_ hb); clear HB; have HB := n0_; clear n0_; (try clear hb); (try clear hb2); (try clear hk); (try clear hi)))
       go_ret2
       exact ⟨by first | rfl | (simp [errW_none, errW_some] <;> rfl) | (simp [*, errW_none, errW_some] <;> rfl), bl_⟩
      ·rw [if_neg c6] at H
       have c6b0 : (t151.toList == ([] : List UInt8)) = false := beq_eq_false_iff_ne.mpr c6
       have c6b1 : (t151.toList != ([] : List UInt8)) = true := bne_iff_ne.mpr c6
       replace H := Option.bind_eq_some_iff.mp H
       obtain ⟨t152, A80, H⟩ := H
       replace H : (if x4_1.size + t152.size ≤ 9223372036854775807 then (if (x4_1 ++ t152).size + t151.size ≤ 9223372036854775807 then (spec_LogText.l0 k1 l0 ((x4_1 ++ t152) ++ t151) (wrap64 (x5_1 + 1))) else (none)) else (none)) = some (r1, r2) := H
       have A8 := Aside0.mk A80
       clear A80
       by_cases c9 : x4_1.size + t152.size ≤ 9223372036854775807
       ·rw [if_pos c9] at H
        have c9b0 := eq_true c9
        have c9b1 : decide (x4_1.size + t152.size ≤ 9223372036854775807) = true := decide_eq_true c9
        try have c9b2 : (9223372036854775807 < x4_1.size + t152.size) = False := eq_false (Nat.not_lt.2 c9)
        by_cases c10 : (x4_1 ++ t152).size + t151.size ≤ 9223372036854775807
        ·rw [if_pos c10] at H
         have c10b0 := eq_true c10
         have c10b1 : decide ((x4_1 ++ t152).size + t151.size ≤ 9223372036854775807) = true := decide_eq_true c10
         try have c10b2 : (9223372036854775807 < (x4_1 ++ t152).size + t151.size) = False := eq_false (Nat.not_lt.2 c10)
         try have c10b3 : (9223372036854775807 < x4_1.size + t152.size + t151.size) = False := eq_false (by have h_ := c10; (repeat rw [ByteArray.size_append] at h_); exact Nat.not_lt.2 h_)
         have H' := Aside0.mk H
         clear H
         have p150 : 0 ≤ (x5_1 : Int) := of_decide_eq_true as_
         have q150 : x5_1 < (l0.length : Int) := of_decide_eq_true as_
         obtain ⟨ad150, e150, hx150_0, hx150_1, hx150_2, hx150_3, hx150_4, hx150_5⟩ := at_T70 HR0.out x5_1 p150 q150
         cases e150
         replace hx150_0 := (HB.out.cell (World.block_lt_of_cell? w _ hx150_0)).trans hx150_0
         replace hx150_1 := (HB.out.cell (World.block_lt_of_cell? w _ hx150_1)).trans hx150_1
         replace hx150_2 := (HB.out.cell (World.block_lt_of_cell? w _ hx150_2)).trans hx150_2
         replace hx150_3 := (HB.out.cell (World.block_lt_of_cell? w _ hx150_3)).trans hx150_3
         replace hx150_4 := (HB.out.cell (World.block_lt_of_cell? w _ hx150_4)).trans hx150_4
         replace hx150_5 := (HB.out.cell (World.block_lt_of_cell? w _ hx150_5)).trans hx150_5
         replace p150 := eq_true p150
         replace q150 := eq_true q150
         go_wp2_with (first | ((with_reducible refine gate_callee (f := 64) rfl ?_); refine goesL_ (some 20) rfl rfl Tryd.func64 (by kernel_rfl) rfl #[.agg #[.int .i64 ((rd_T70 l0 x5_1).f0), .int .i64 ((rd_T70 l0 x5_1).f1), .int .i64 ((rd_T70 l0 x5_1).f2.f0), .int .i64 ((rd_T70 l0 x5_1).f2.f1), .int .i64 ((rd_T70 l0 x5_1).f2.f2), .int .i64 ((rd_T70 l0 x5_1).f2.f3)]] rfl lm_ ?_; (with_reducible refine (spec_EntryText.calls k1 ((rd_T70 l0 x5_1).f0) ((rd_T70 l0 x5_1).f1) ((rd_T70 l0 x5_1).f2.f0) ((rd_T70 l0 x5_1).f2.f1) ((rd_T70 l0 x5_1).f2.f2) ((rd_T70 l0 x5_1).f2.f3) t151 _ A5.out).mono ?_); rintro e w11 ⟨rfl, hb⟩; refine ⟨_, rfl, ?_⟩; have n0_ := Aside0.mk (below_step bl_ hb); clear HB; have HB := n0_; clear n0_; (try clear hb); (try clear hb2); (try clear hk); (try clear hi)) | ((with_reducible refine gate_callee (f := 76) rfl ?_); refine goesL_ (some 26) rfl rfl Tryd.func76 (by kernel_rfl) rfl #[.int .i64 (t151.size : Int)] rfl lm_ ?_; (with_reducible refine (spec_l01Var.calls k1 (t151.size : Int) t152 _ A8.out).mono ?_); rintro e w12 ⟨rfl, hb⟩; refine ⟨_, rfl, ?_⟩; have n0_ := Aside0.mk (below_step bl_ hb); clear HB; have HB := n0_; clear n0_; (try clear hb); (try clear hb2); (try clear hk); (try clear hi)))
         go_roundg k1
         case measure => have := HK1.out; omega
         case rel => exact ⟨((x4_1 ++ t152) ++ t151), (wrap64 (x5_1 + 1)), (by first | rfl | (simp; done) | (simp [*]; done)), (by first | rfl | (simp; done) | (simp [*]; done)), H', ⟨by have := HK1.out; omega⟩, ⟨bl_⟩⟩
        ·rw [if_neg c10] at H
         exact absurd H (by simp)
       ·rw [if_neg c9] at H
        exact absurd H (by simp)
     ·rw [if_neg c4] at H
      exact absurd H (by simp)
    ·rw [if_neg c3] at H
     have c3b0 : decide (x5_1 < (l0.length : Int)) = false := decide_eq_false c3
     clear c3
     simp only [Option.some.injEq, Prod.mk.injEq] at H
     obtain ⟨rfl, rfl⟩ := H
     go_wp2
     go_ret2
     exact ⟨by first | rfl | (simp [errW_none, errW_some] <;> rfl) | (simp [*, errW_none, errW_some] <;> rfl), bl_⟩

end Go.Proofs.YtdhjolglbcoijaaDoor.PA
