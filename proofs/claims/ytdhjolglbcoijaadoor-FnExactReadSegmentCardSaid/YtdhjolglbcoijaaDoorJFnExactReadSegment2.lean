/- Contracts of functions of the program and of the reference, and plain lemmas on what they compute: a part of the proof of the law FnExactReadSegment. No condition. -/
import Derived.Test.YtdhjolglbcoijaaDoorG88178x0
import Derived.Test.YtdhjolglbcoijaaDoorG88178x1
import Derived.Test.YtdhjolglbcoijaaDoorJFnExactReadSegment1
import Derived.Test.YtdhjolglbcoijaaDoorShortV
namespace Go.Proofs.YtdhjolglbcoijaaDoor.PA
open Go.RowKit Go.Proofs.YtdhjolglbcoijaaDoor.Short Go.Proofs.YtdhjolglbcoijaaDoorW.PrintWords Go.Proofs.YtdhjolglbcoijaaDoorW.PrintLast Go.Proofs.YtdhjolglbcoijaaDoorW.PrintMore
attribute [local go_sem] max2_int min2_int max_two min_two max_three min_three max_four min_four   -- for this text's walks alone
set_option linter.unusedVariables false
set_option linter.unusedSimpArgs false

/-! ### spec_SegmentText: function 22 -/
def spec_SegmentText.j0 : Nat → ByteArray → Bool → Int → ByteArray → List (S70) → ByteArray → Option (ByteArray × Bool)
 | 0, _, _, _, _, _, _ => none
 | k + 1, x4, x23, x170000, x170001, x170002, x170003 => if x23 = true then (some ((⟨#[]⟩ : ByteArray), false)) else ((spec_l01Var.f k x170000).bind fun t173 => (if t173.size + x170001.size ≤ 9223372036854775807 then ((spec_l01Var.f k (x4.size : Int)).bind fun t174 => (if (t173 ++ x170001).size + t174.size ≤ 9223372036854775807 then (if ((t173 ++ x170001) ++ t174).size + x4.size ≤ 9223372036854775807 then ((spec_Sealed.f k (((t173 ++ x170001) ++ t174) ++ x4)).bind fun bt175 => (some (bt175.1, bt175.2))) else (none)) else (none))) else (none)))
def spec_SegmentText.f (k : Nat) (a0_0 : Int) (a0_1 : ByteArray) (l0_2 : List (S70)) (a0_3 : ByteArray) : Option (ByteArray × Bool) := (spec_LogText.f k l0_2).bind fun bt170 => ((spec_SegmentOk.f k a0_0 a0_1 l0_2 a0_3).bind fun t172 => (if t172 = true then (if bt170.2 = true then (spec_SegmentText.j0 k bt170.1 (decide ((bt170.1.size : Int) > 15000)) a0_0 a0_1 l0_2 a0_3) else (spec_SegmentText.j0 k bt170.1 true a0_0 a0_1 l0_2 a0_3)) else (spec_SegmentText.j0 k bt170.1 true a0_0 a0_1 l0_2 a0_3)))
theorem spec_SegmentText.mono_l : ∀ k, (∀ y0 y1 y2 y3 y4 y5, LeO (spec_SegmentText.j0 k y0 y1 y2 y3 y4 y5) (spec_SegmentText.j0 (k + 1) y0 y1 y2 y3 y4 y5))
 | 0 => fun _ _ _ _ _ _ r h => by simp [spec_SegmentText.j0] at h
 | k + 1 => by
  have ih0 := spec_SegmentText.mono_l k
  ·intro y0 y1 y2 y3 y4 y5
   unfold spec_SegmentText.j0
   have m0 := @spec_LogText.mono
   have m1 := @spec_Sealed.mono
   have m2 := @spec_SegmentOk.mono
   have m3 := @spec_l01Var.mono
   exact mo_
theorem spec_SegmentText.mono : ∀ a0 a1 a2 a3 k, LeO (spec_SegmentText.f k a0 a1 a2 a3) (spec_SegmentText.f (k + 1) a0 a1 a2 a3) := by
 intro a0 a1 a2 a3 k
 have ih0 := spec_SegmentText.mono_l k
 unfold spec_SegmentText.f
 have m0 := @spec_LogText.mono
 have m1 := @spec_Sealed.mono
 have m2 := @spec_SegmentOk.mono
 have m3 := @spec_l01Var.mono
 exact mo_
def spec_SegmentText.T4 : Bool × List (List Nat × List Nat) := (true, [([], []), ([0], [0]), ([1], [1]), ([], []), ([3], [3]), ([2, 4], [2, 4]), ([], []), ([6], [6]), ([7, 2], [7]), ([5, 8], [5, 8]), ([], []), ([9, 10], [9, 10]), ([11, 8], [11]), ([12], [12]), ([12], [12]), ([13, 12, 0, 1, 2, 3, 4, 5, 6, 7, 8, 9, 10, 11, 12, 13, 14], [13]), ([14, 15, 0, 1, 2, 3, 4, 5, 6, 7, 8, 9, 10, 11, 12, 13, 14, 15], [14])])
def spec_SegmentText.B4 : List Nat := [0, 1, 3, 0, 8, 31, 0, 64, 199, 511, 0, 2047, 4095, 8191, 8191, 32767, 65535]
theorem spec_SegmentText.tab4 : rtab .any (opsOf Tryd.f22 4) = spec_SegmentText.T4 := by kernel_rfl
theorem spec_SegmentText.bits4 : waitsOk spec_SegmentText.T4.2 spec_SegmentText.B4 = true := by kernel_rfl
set_option maxHeartbeats 8000000 in
set_option maxRecDepth 100000 in
theorem spec_SegmentText.calls (k : Nat) (a0_0 : Int) (a0_1 : ByteArray) (A0_2 : Option Addr) (c0_2 : Nat) (l0_2 : List (S70)) (a0_3 : ByteArray) (r1 : ByteArray) (r2 : Bool) (w : World) (hr0_2 : Kd.C k70 w A0_2 l0_2.length l0_2) (hc0_2 : l0_2.length ≤ c0_2) (h : spec_SegmentText.f k a0_0 a0_1 l0_2 a0_3 = some (r1, r2)) :
 Calls Tryd.prog 22 #[.agg #[.int .i64 a0_0, .string a0_1, .slice A0_2 l0_2.length c0_2, .string a0_3]] w fun e w' => e = .returned (.tuple #[.string r1, .bool r2]) ∧ Below w.heap.size w w' := by
 have hu30 := Tryd.underlying30
 have HR0_2 := Aside0.mk hr0_2
 have HC0_2 := Aside0.mk hc0_2
 clear hr0_2 hc0_2
 have HB := Aside0.mk (Below.refl w.heap.size w)
 have H : ((spec_LogText.f k l0_2).bind fun bt170 => ((spec_SegmentOk.f k a0_0 a0_1 l0_2 a0_3).bind fun t172 => (if t172 = true then (if bt170.2 = true then (spec_SegmentText.j0 k bt170.1 (decide ((bt170.1.size : Int) > 15000)) a0_0 a0_1 l0_2 a0_3) else (spec_SegmentText.j0 k bt170.1 true a0_0 a0_1 l0_2 a0_3)) else (spec_SegmentText.j0 k bt170.1 true a0_0 a0_1 l0_2 a0_3)))) = some (r1, r2) := h
 clear h
 replace H := bs_ H
 obtain ⟨⟨t170, t171⟩, A2, H⟩ := H
 try dsimp only at H
 have HC3 := Aside0.mk H
 clear H
 go_enter Tryd.func22, Tryd.ntmps22
 go_upto_region 2 with (first | ((with_reducible refine gate_dst (N := 1) rfl ?_); (try (refine gate_guard (by rfl) ?_; dsimp only)); refine bx_ 1 30 #[.int .i64 a0_0, .string a0_1, .slice A0_2 l0_2.length c0_2, .string a0_3] ?_; intro gb169 hg w4 hbox hb; have BK169 := Aside0.mk (hbox); have GW169 := Aside0.mk ((hz_ : w.heap.size ≤ gb169)); have GE169 := Aside0.mk ((hz_ : w.heap.size ≤ gb169)); replace HB := Aside0.mk (below_step bl_ hb); clear hb hbox hg; obtain ⟨hcz5_0, hcz5_1, hcz5_2, hcz5_3, hfz5_0, hfz5_1, hfz5_2, hfz5_3⟩ := cf4_ BK169.out) | ((with_reducible refine gate_callee (f := 74) rfl ?_); refine gs_ (some 9) Tryd.func74 #[.slice A0_2 l0_2.length c0_2] ?_; (with_reducible refine (spec_LogText.calls k _ _ l0_2 t170 t171 _ ?side1 ?side2 A2.out).mono ?_); (case side1 => repeat (first | exact (Kd.C_below HR0_2.out HB.out) | exact HR0_2.out | (with_reducible refine Kd.C_alloc ?_ _) | (with_reducible refine Kd.C_drewN ?_ _) | (with_reducible refine Kd.C_drew ?_))); (case side2 => exact HC0_2.out); rintro e w6 ⟨rfl, hb⟩; refine ⟨_, rfl, ?_⟩; replace BK169 := Aside0.mk (blk_below (bn0_ BK169.out) hb); replace HB := Aside0.mk (below_step bl_ hb); (try clear hb)))
 (try simp only [Act.put, List.setIfInBounds_toArray, List.set_cons_zero, List.set_cons_succ])
 go_cut [23] (fun v23 wc => ∃ (kq : Nat) (x23_2 : Bool), v23 = .bool x23_2 ∧ Aside0 (spec_SegmentText.j0 kq t170 x23_2 a0_0 a0_1 l0_2 a0_3 = some (r1, r2)) ∧ Aside0 (kq ≤ k) ∧ Aside0 (wc.heap[gb169]? = some (.cells #[.int .i64 a0_0, .string a0_1, (.slice A0_2 l0_2.length c0_2), .string a0_3] 30 (0, 0))) ∧ Aside0 (Below w.heap.size w wc))
 case first =>
  have H := HC3.out
  clear HC3
  replace H := bs_ H
  obtain ⟨t172, A7, H⟩ := H
  try dsimp only at H
  by_cases c8 : t172 = true
  rotate_left
  ·replace c8 := Bool.eq_false_iff.mpr c8
   subst c8
   rw [if_neg (show ¬ (false = true) by decide)] at H
   have H' := Aside0.mk H
   clear H
   obtain ⟨hcz14_0, hcz14_1, hcz14_2, hcz14_3, hfz14_0, hfz14_1, hfz14_2, hfz14_3⟩ := cf4_ BK169.out
   go_wp2_with (first | ((with_reducible refine gate_callee (f := 18) rfl ?_); refine gs_ (some 13) Tryd.func18 #[.agg #[.int .i64 a0_0, .string a0_1, .slice A0_2 l0_2.length c0_2, .string a0_3]] ?_; (with_reducible refine (spec_SegmentOk.calls k a0_0 a0_1 _ _ l0_2 a0_3 false _ ?side1 ?side2 A7.out).mono ?_); (case side1 => repeat (first | exact (Kd.C_below HR0_2.out HB.out) | exact HR0_2.out | (with_reducible refine Kd.C_alloc ?_ _) | (with_reducible refine Kd.C_drewN ?_ _) | (with_reducible refine Kd.C_drew ?_))); (case side2 => exact HC0_2.out); rintro e w15 ⟨rfl, hb⟩; refine ⟨_, rfl, ?_⟩; replace BK169 := Aside0.mk (blk_below (bn0_ BK169.out) hb); replace HB := Aside0.mk (below_step bl_ hb); (try clear hb)))
   go_meet
   case rel => exact ⟨_, (true), (sr_), H', ⟨by first | omega | exact Nat.le_refl _⟩, ⟨bk_ BK169.out⟩, ⟨bl_⟩⟩
  subst c8
  rw [if_pos rfl] at H
  by_cases c9 : t171 = true
  ·subst c9
   rw [if_pos rfl] at H
   have H' := Aside0.mk H
   clear H
   obtain ⟨hcz10_0, hcz10_1, hcz10_2, hcz10_3, hfz10_0, hfz10_1, hfz10_2, hfz10_3⟩ := cf4_ BK169.out
   go_wp2_with (first | ((with_reducible refine gate_callee (f := 18) rfl ?_); refine gs_ (some 13) Tryd.func18 #[.agg #[.int .i64 a0_0, .string a0_1, .slice A0_2 l0_2.length c0_2, .string a0_3]] ?_; (with_reducible refine (spec_SegmentOk.calls k a0_0 a0_1 _ _ l0_2 a0_3 true _ ?side1 ?side2 A7.out).mono ?_); (case side1 => repeat (first | exact (Kd.C_below HR0_2.out HB.out) | exact HR0_2.out | (with_reducible refine Kd.C_alloc ?_ _) | (with_reducible refine Kd.C_drewN ?_ _) | (with_reducible refine Kd.C_drew ?_))); (case side2 => exact HC0_2.out); rintro e w11 ⟨rfl, hb⟩; refine ⟨_, rfl, ?_⟩; replace BK169 := Aside0.mk (blk_below (bn0_ BK169.out) hb); replace HB := Aside0.mk (below_step bl_ hb); (try clear hb)))
   go_meet
   case rel => exact ⟨_, (decide ((t170.size : Int) > 15000)), (sr_), H', ⟨by first | omega | exact Nat.le_refl _⟩, ⟨bk_ BK169.out⟩, ⟨bl_⟩⟩
  replace c9 := Bool.eq_false_iff.mpr c9
  subst c9
  rw [if_neg (show ¬ (false = true) by decide)] at H
  have H' := Aside0.mk H
  clear H
  obtain ⟨hcz12_0, hcz12_1, hcz12_2, hcz12_3, hfz12_0, hfz12_1, hfz12_2, hfz12_3⟩ := cf4_ BK169.out
  go_wp2_with (first | ((with_reducible refine gate_callee (f := 18) rfl ?_); refine gs_ (some 13) Tryd.func18 #[.agg #[.int .i64 a0_0, .string a0_1, .slice A0_2 l0_2.length c0_2, .string a0_3]] ?_; (with_reducible refine (spec_SegmentOk.calls k a0_0 a0_1 _ _ l0_2 a0_3 true _ ?side1 ?side2 A7.out).mono ?_); (case side1 => repeat (first | exact (Kd.C_below HR0_2.out HB.out) | exact HR0_2.out | (with_reducible refine Kd.C_alloc ?_ _) | (with_reducible refine Kd.C_drewN ?_ _) | (with_reducible refine Kd.C_drew ?_))); (case side2 => exact HC0_2.out); rintro e w13 ⟨rfl, hb⟩; refine ⟨_, rfl, ?_⟩; replace BK169 := Aside0.mk (blk_below (bn0_ BK169.out) hb); replace HB := Aside0.mk (below_step bl_ hb); (try clear hb)))
  go_meet
  case rel => exact ⟨_, (true), (sr_), H', ⟨by first | omega | exact Nat.le_refl _⟩, ⟨bk_ BK169.out⟩, ⟨bl_⟩⟩
 clear HC3
 try clear hcz5_0
 try clear hcz5_1
 try clear hcz5_2
 try clear hcz5_3
 try clear hfz5_0
 try clear hfz5_1
 try clear hfz5_2
 try clear hfz5_3
 obtain ⟨kq, x23_2, rfl, HA, HJ2, BK169, HB⟩ := hcut
 cases kq with
 | zero => exact absurd HA.out (by simp [spec_SegmentText.j0])
 | succ kj2 => ?_
 have H := HA.out
 clear HA
 simp only [spec_SegmentText.j0] at H
 by_cases c16 : x23_2 = true
 ·subst c16
  rw [if_pos rfl] at H
  simp only [Option.some.injEq, Prod.mk.injEq] at H
  obtain ⟨rfl, rfl⟩ := H
  go_wp2
  go_ret2
  exact ⟨er_, bl_⟩
 replace c16 := Bool.eq_false_iff.mpr c16
 subst c16
 rw [if_neg (show ¬ (false = true) by decide)] at H
 replace H := bs_ H
 obtain ⟨t173, A17, H⟩ := H
 try dsimp only at H
 by_cases c18 : t173.size + a0_1.size ≤ 9223372036854775807
 rotate_left
 ·exact nn_ c18 H
 rw [if_pos c18] at H
 have c18b0 := eq_true c18
 have c18b1 : decide (t173.size + a0_1.size ≤ 9223372036854775807) = true := decide_eq_true c18
 try have c18b2 : (9223372036854775807 < t173.size + a0_1.size) = False := eq_false (Nat.not_lt.2 c18)
 replace H := bs_ H
 obtain ⟨t174, A19, H⟩ := H
 try dsimp only at H
 by_cases c20 : (t173 ++ a0_1).size + t174.size ≤ 9223372036854775807
 rotate_left
 ·exact nn_ c20 H
 rw [if_pos c20] at H
 have c20b0 := eq_true c20
 have c20b1 : decide ((t173 ++ a0_1).size + t174.size ≤ 9223372036854775807) = true := decide_eq_true c20
 try have c20b2 : (9223372036854775807 < (t173 ++ a0_1).size + t174.size) = False := eq_false (Nat.not_lt.2 c20)
 try have c20b3 : (9223372036854775807 < t173.size + a0_1.size + t174.size) = False := eq_false (by have h_ := c20; (repeat rw [ByteArray.size_append] at h_); exact Nat.not_lt.2 h_)
 by_cases c21 : ((t173 ++ a0_1) ++ t174).size + t170.size ≤ 9223372036854775807
 rotate_left
 ·exact nn_ c21 H
 rw [if_pos c21] at H
 have c21b0 := eq_true c21
 have c21b1 : decide (((t173 ++ a0_1) ++ t174).size + t170.size ≤ 9223372036854775807) = true := decide_eq_true c21
 try have c21b2 : (9223372036854775807 < ((t173 ++ a0_1) ++ t174).size + t170.size) = False := eq_false (Nat.not_lt.2 c21)
 try have c21b3 : (9223372036854775807 < t173.size + a0_1.size + t174.size + t170.size) = False := eq_false (by have h_ := c21; (repeat rw [ByteArray.size_append] at h_); exact Nat.not_lt.2 h_)
 replace H := bs_ H
 obtain ⟨⟨t175, t176⟩, A22, H⟩ := H
 try dsimp only at H
 simp only [Option.some.injEq, Prod.mk.injEq] at H
 obtain ⟨rfl, rfl⟩ := H
 try go_wp2
 have n0_ := Aside0.mk (blk_drew BK169.out)
 have n1_ := Aside0.mk (below_drew1 HB.out)
 clear BK169
 clear HB
 have BK169 := n0_
 have HB := n1_
 clear n0_ n1_
 refine start_ (n := 17) (S := fun w' => w'.cell? ⟨gb169, 0, none⟩ = some (.int .i64 a0_0) ∧ w'.cell? ⟨gb169, 1, none⟩ = some (.string a0_1) ∧ w'.cell? ⟨gb169, 2, none⟩ = some (.slice A0_2 l0_2.length c0_2) ∧ w'.cell? ⟨gb169, 3, none⟩ = some (.string a0_3)) (ds := []) #[false, false, false, false, false, false, false, false, false, false, false, false, false, false, false, false, false] (by kernel_rfl) rfl rfl ⟨(blk_cell BK169.out 0).trans rfl, (blk_cell BK169.out 1).trans rfl, (blk_cell BK169.out 2).trans rfl, (blk_cell BK169.out 3).trans rfl⟩ (fun hHeld => ?_); refine with_tabW spec_SegmentText.tab4 spec_SegmentText.bits4 (fun HT_ HW_ => ?_)
 generalize wc.drew = w23 at BK169 HB hHeld ⊢
 refine pu_ 0 24 HT_ ?_
 refine pu_ 3 27 HT_ ?_
 refine pu_ 6 30 HT_ ?_
 refine pu_ 7 31 HT_ ?_
 refine pu_ 10 34 HT_ ?_
 refine ta_ 1 25 HT_ HW_ hHeld ?_ (r := by rintro w' ⟨s0, s1, s2, s3⟩; go_simp; with_reducible rfl)
 refine ta_ 4 28 HT_ HW_ hHeld ?_ (r := by rintro w' ⟨s0, s1, s2, s3⟩; go_simp; with_reducible rfl)
 refine one_ (i := 2) (N := some 26) #[true, true, true, true, true, false, true, true, false, false, true, false, false, false, false, false, false] rfl rfl (one_of HT_.out (by kernel_rfl)) (by decide) (fun K hK => ?_)
 refine goes_ Tryd.func76 (by kernel_rfl) rfl #[.int .i64 a0_0] (by rfl) rfl rfl lm_ ?_
 with_reducible refine (spec_l01Var.calls kj2 a0_0 t173 _ A17.out).mono ?_
 rintro e w24 ⟨rfl, hb⟩
 refine ⟨_, rfl, ?_⟩
 have n0_ := Aside0.mk (blk_below (bn0_ BK169.out) hb)
 have n1_ := Aside0.mk (below_step bl_ hb)
 clear BK169
 clear HB
 have BK169 := n0_
 have HB := n1_
 clear n0_ n1_
 (try clear hb)
 (try clear hb2)
 (try clear hk)
 (try clear hi)
 refine hK.out _ _ ⟨(blk_cell BK169.out 0).trans rfl, (blk_cell BK169.out 1).trans rfl, (blk_cell BK169.out 2).trans rfl, (blk_cell BK169.out 3).trans rfl⟩ (fun hHeld => ?_)
 clear hK K
 refine norm_ (a' := ?_) ?_ ?_
 rotate_left
 ·show Act.put _ (some 26) _ = _
  simp only [Act.put, List.setIfInBounds_toArray, List.set_cons_zero, List.set_cons_succ, i64_w, i32_w]
  rfl
 refine pu_ 5 29 HT_ ?_
 refine one_ (i := 8) (N := some 32) #[true, true, true, true, true, true, true, true, true, false, true, false, false, false, false, false, false] rfl rfl (one_of HT_.out (by kernel_rfl)) (by decide) (fun K hK => ?_)
 refine goes_ Tryd.func76 (by kernel_rfl) rfl #[.int .i64 (t170.size : Int)] (by rfl) rfl rfl lm_ ?_
 with_reducible refine (spec_l01Var.calls kj2 (t170.size : Int) t174 _ A19.out).mono ?_
 rintro e w25 ⟨rfl, hb⟩
 refine ⟨_, rfl, ?_⟩
 have n0_ := Aside0.mk (blk_below (bn0_ BK169.out) hb)
 have n1_ := Aside0.mk (below_step bl_ hb)
 clear BK169
 clear HB
 have BK169 := n0_
 have HB := n1_
 clear n0_ n1_
 (try clear hb)
 (try clear hb2)
 (try clear hk)
 (try clear hi)
 refine hK.out _ _ ⟨(blk_cell BK169.out 0).trans rfl, (blk_cell BK169.out 1).trans rfl, (blk_cell BK169.out 2).trans rfl, (blk_cell BK169.out 3).trans rfl⟩ (fun hHeld => ?_)
 clear hK K
 refine norm_ (a' := ?_) ?_ ?_
 rotate_left
 ·show Act.put _ (some 32) _ = _
  simp only [Act.put, List.setIfInBounds_toArray, List.set_cons_zero, List.set_cons_succ, i64_w, i32_w]
  rfl
 refine pu_ 9 33 HT_ ?_
 refine pu_ 11 35 HT_ ?_
 refine one_ (i := 12) (N := some 36) #[true, true, true, true, true, true, true, true, true, true, true, true, true, false, false, false, false] rfl rfl (one_of HT_.out (by kernel_rfl)) (by decide) (fun K hK => ?_)
 refine goes_ Tryd.func75 (by kernel_rfl) rfl #[.string (((t173 ++ a0_1) ++ t174) ++ t170)] (by rfl) rfl rfl lm_ ?_
 with_reducible refine (spec_Sealed.calls kj2 (((t173 ++ a0_1) ++ t174) ++ t170) t175 t176 _ A22.out).mono ?_
 rintro e w26 ⟨rfl, hb⟩
 refine ⟨_, rfl, ?_⟩
 have n0_ := Aside0.mk (blk_below (bn0_ BK169.out) hb)
 have n1_ := Aside0.mk (below_step bl_ hb)
 clear BK169
 clear HB
 have BK169 := n0_
 have HB := n1_
 clear n0_ n1_
 (try clear hb)
 (try clear hb2)
 (try clear hk)
 (try clear hi)
 refine hK.out _ _ ⟨(blk_cell BK169.out 0).trans rfl, (blk_cell BK169.out 1).trans rfl, (blk_cell BK169.out 2).trans rfl, (blk_cell BK169.out 3).trans rfl⟩ (fun hHeld => ?_)
 clear hK K
 refine norm_ (a' := ?_) ?_ ?_
 rotate_left
 ·show Act.put _ (some 36) _ = _
  simp only [Act.put, List.setIfInBounds_toArray, List.set_cons_zero, List.set_cons_succ, i64_w, i32_w]
  rfl
 refine pu_ 13 37 HT_ ?_
 refine pu_ 14 38 HT_ ?_
 refine pu_ 15 2 HT_ ?_
 refine pu_ 16 3 HT_ ?_
 refine done_ (done_of HT_.out (by kernel_rfl)) ?_
 try go_wp2
 go_ret2
 exact ⟨er_, bl_⟩


/-! ### spec_ReadVar: function 88 -/
mutual
def spec_ReadVar.l0 : Nat → ByteArray → Int → Int → Int → Int → Option (Int × Int × Bool)
 | 0, _, _, _, _, _ => none
 | k + 1, x0, x1, x7, x8, x9 => if x9 < (x0.size : Int) then (spec_ReadVar.j1 k x0 x1 x7 x8 x9 (decide (x9 < (wrap64 (x1 + 5))))) else (spec_ReadVar.j1 k x0 x1 x7 x8 x9 false)
def spec_ReadVar.j1 : Nat → ByteArray → Int → Int → Int → Int → Bool → Option (Int × Int × Bool)
 | 0, _, _, _, _, _, _ => none
 | k + 1, x0, x1, x7, x8, x9, x25 => if x25 = true then (if 0 ≤ x9 then (if x9 < (x0.size : Int) then (if (bt x0 x9) < 128 then (if (wrap64 (x7 + (wrap64 ((Int.tmod (wrap64 (bt x0 x9)) 128) * x8)))) > 1000000000 then (some (0, 0, false)) else ((spec_l01Var.f k (wrap64 (x7 + (wrap64 ((Int.tmod (wrap64 (bt x0 x9)) 128) * x8))))).bind fun t178 => (if 0 ≤ x1 then (if x1 ≤ (wrap64 (x9 + 1)) then (if (wrap64 (x9 + 1)) ≤ (x0.size : Int) then (if t178.toList = (x0.extract (x1 : Int).toNat ((wrap64 (x9 + 1)) : Int).toNat).toList then (some (wrap64 (x7 + (wrap64 ((Int.tmod (wrap64 (bt x0 x9)) 128) * x8))), wrap64 (x9 + 1), true)) else (some (0, 0, false))) else (none)) else (none)) else (none)))) else (spec_ReadVar.l0 k x0 x1 (wrap64 (x7 + (wrap64 ((Int.tmod (wrap64 (bt x0 x9)) 128) * x8)))) (wrap64 (x8 * 128)) (wrap64 (x9 + 1)))) else (none)) else (none)) else (some (0, 0, false))
end
def spec_ReadVar.f (k : Nat) (a0 : ByteArray) (a1 : Int) : Option (Int × Int × Bool) := (spec_l01In.f a1 0 (a0.size : Int)).bind fun t177 => (if t177 = true then (spec_ReadVar.l0 k a0 a1 0 1 a1) else (some (0, 0, false)))
theorem spec_ReadVar.mono_l : ∀ k, (∀ y0 y1 y2 y3 y4, LeO (spec_ReadVar.l0 k y0 y1 y2 y3 y4) (spec_ReadVar.l0 (k + 1) y0 y1 y2 y3 y4)) ∧ (∀ y0 y1 y2 y3 y4 y5, LeO (spec_ReadVar.j1 k y0 y1 y2 y3 y4 y5) (spec_ReadVar.j1 (k + 1) y0 y1 y2 y3 y4 y5))
 | 0 => ⟨fun _ _ _ _ _ r h => by simp [spec_ReadVar.l0] at h, fun _ _ _ _ _ _ r h => by simp [spec_ReadVar.j1] at h⟩
 | k + 1 => by
  obtain ⟨ih0, ih1⟩ := spec_ReadVar.mono_l k
  refine ⟨?_, ?_⟩
  ·intro y0 y1 y2 y3 y4
   unfold spec_ReadVar.l0
   have m0 := @spec_l01Var.mono
   exact mo_
  ·intro y0 y1 y2 y3 y4 y5
   unfold spec_ReadVar.j1
   have m0 := @spec_l01Var.mono
   exact mo_
theorem spec_ReadVar.mono : ∀ a0 a1 k, LeO (spec_ReadVar.f k a0 a1) (spec_ReadVar.f (k + 1) a0 a1) := by
 intro a0 a1 k
 obtain ⟨ih0, ih1⟩ := spec_ReadVar.mono_l k
 unfold spec_ReadVar.f
 have m0 := @spec_l01Var.mono
 exact mo_
def spec_ReadVar.T11 : Bool × List (List Nat × List Nat) := (true, [([], []), ([0], [0]), ([1], [1]), ([2], [2]), ([3, 2, 2], [2, 3]), ([2], [2]), ([2], [2]), ([2], [2]), ([7, 2], [2, 7]), ([5, 6, 8, 2], [2, 5, 6, 8]), ([4, 9, 2], [2, 4, 9]), ([2, 10], [2, 10])])
def spec_ReadVar.B11 : List Nat := [0, 1, 3, 7, 15, 7, 7, 7, 135, 487, 1023, 2047]
theorem spec_ReadVar.tab11 : rtab .any (opsOf Tryd.f88 11) = spec_ReadVar.T11 := by kernel_rfl
theorem spec_ReadVar.bits11 : waitsOk spec_ReadVar.T11.2 spec_ReadVar.B11 = true := by kernel_rfl
set_option maxHeartbeats 8000000 in
set_option maxRecDepth 100000 in
theorem spec_ReadVar.calls (k : Nat) (a0 : ByteArray) (a1 : Int) (r1 : Int) (r2 : Int) (r3 : Bool) (w : World) (h : spec_ReadVar.f k a0 a1 = some (r1, r2, r3)) :
 Calls Tryd.prog 88 #[.string a0, .int .i64 a1] w fun e w' => e = .returned (.tuple #[.int .i64 r1, .int .i64 r2, .bool r3]) ∧ Below w.heap.size w w' := by
 have HB := Aside0.mk (Below.refl w.heap.size w)
 have H : ((spec_l01In.f a1 0 (a0.size : Int)).bind fun t177 => (if t177 = true then (spec_ReadVar.l0 k a0 a1 0 1 a1) else (some (0, 0, false)))) = some (r1, r2, r3) := h
 clear h
 replace H := bs_ H
 obtain ⟨t177, A3, H⟩ := H
 try dsimp only at H
 by_cases c4 : t177 = true
 rotate_left
 ·replace c4 := Bool.eq_false_iff.mpr c4
  subst c4
  rw [if_neg (show ¬ (false = true) by decide)] at H
  simp only [Option.some.injEq, Prod.mk.injEq] at H
  obtain ⟨rfl, rfl, rfl⟩ := H
  go_enter Tryd.func88, Tryd.ntmps88
  go_wp2_with (first | ((with_reducible refine gate_callee (f := 70) rfl ?_); refine gs_ (some 13) Tryd.func70 #[.int .i64 a1, .int .i64 0, .int .i64 (a0.size : Int)] ?_; (with_reducible refine (spec_l01In.calls a1 0 (a0.size : Int) false _ A3.out).mono ?_); rintro e w' ⟨rfl, ⟨nd, rfl⟩⟩; refine ⟨_, rfl, ?_⟩))
  go_ret3
  exact ⟨er_, bl_⟩
 subst c4
 rw [if_pos rfl] at H
 have H' := Aside0.mk H
 clear H
 go_enter Tryd.func88, Tryd.ntmps88
 go_wp2_with (first | ((with_reducible refine gate_callee (f := 70) rfl ?_); refine gs_ (some 13) Tryd.func70 #[.int .i64 a1, .int .i64 0, .int .i64 (a0.size : Int)] ?_; (with_reducible refine (spec_l01In.calls a1 0 (a0.size : Int) true _ A3.out).mono ?_); rintro e w' ⟨rfl, ⟨nd, rfl⟩⟩; refine ⟨_, rfl, ?_⟩))
 go_loopg [7, 8, 9] k (fun kq v7 v8 v9 w' => ∃ (x7_1 : Int) (x8_1 : Int) (x9_1 : Int), v7 = .int .i64 x7_1 ∧ v8 = .int .i64 x8_1 ∧ v9 = .int .i64 x9_1 ∧ Aside0 (spec_ReadVar.l0 kq a0 a1 x7_1 x8_1 x9_1 = some (r1, r2, r3)) ∧ Aside0 (kq ≤ k) ∧ Aside0 (Below w.heap.size w w'))
 case atStart => exact ⟨(0), (1), (a1), (sr_), (sr_), (sr_), H', ⟨Nat.le_refl _⟩, ⟨bl_⟩⟩
 clear H'
 try clear c4
 obtain ⟨x7_1, x8_1, x9_1, rfl, rfl, rfl, HA, HK1, HB⟩ := hrel
 cases gk with
 | zero => exact absurd HA.out (by simp [spec_ReadVar.l0])
 | succ k1 => ?_
 have H := HA.out
 clear HA
 simp only [spec_ReadVar.l0] at H
 have HC5 := Aside0.mk H
 clear H
 go_upto_region 6 with (fail)
 go_cut [25] (fun v25 wc => ∃ (kq : Nat) (x25_4 : Bool), v25 = .bool x25_4 ∧ Aside0 (spec_ReadVar.j1 kq a0 a1 x7_1 x8_1 x9_1 x25_4 = some (r1, r2, r3)) ∧ Aside0 (kq ≤ k1) ∧ Aside0 (Below w.heap.size w wc))
 case first =>
  have H := HC5.out
  clear HC5
  by_cases c6 : x9_1 < (a0.size : Int)
  rotate_left
  ·rw [if_neg c6] at H
   have c6b0 := decide_eq_false c6
   clear c6
   (first | rw [c6b0] | (simp only [i64_w, i32_w]; rw [c6b0]) | skip)
   have H' := Aside0.mk H
   clear H
   go_wp2
   go_meet
   case rel => exact ⟨_, (false), (sr_), H', ⟨by have := HK1.out; first | omega | exact Nat.le_refl _⟩, ⟨bl_⟩⟩
  rw [if_pos c6] at H
  have c6b0 := decide_eq_true c6
  clear c6
  (first | rw [c6b0] | (simp only [i64_w, i32_w]; rw [c6b0]) | skip)
  have H' := Aside0.mk H
  clear H
  go_wp2
  go_meet
  case rel => exact ⟨_, (decide (x9_1 < (wrap64 (a1 + 5)))), (sr_), H', ⟨by have := HK1.out; first | omega | exact Nat.le_refl _⟩, ⟨bl_⟩⟩
 clear HC5
 try clear c4
 obtain ⟨kq, x25_4, rfl, HA, HJ4, HB⟩ := hcut
 cases kq with
 | zero => exact absurd HA.out (by simp [spec_ReadVar.j1])
 | succ kj4 => ?_
 have H := HA.out
 clear HA
 simp only [spec_ReadVar.j1] at H
 by_cases c7 : x25_4 = true
 rotate_left
 ·replace c7 := Bool.eq_false_iff.mpr c7
  subst c7
  rw [if_neg (show ¬ (false = true) by decide)] at H
  simp only [Option.some.injEq, Prod.mk.injEq] at H
  obtain ⟨rfl, rfl, rfl⟩ := H
  go_wp2
  go_ret3
  exact ⟨er_, bl_⟩
 subst c7
 rw [if_pos rfl] at H
 by_cases c8 : 0 ≤ x9_1
 rotate_left
 ·exact nn_ c8 H
 rw [if_pos c8] at H
 have c8b0 := decide_eq_true c8
 clear c8
 by_cases c9 : x9_1 < (a0.size : Int)
 rotate_left
 ·exact nn_ c9 H
 rw [if_pos c9] at H
 have c9b0 := decide_eq_true c9
 clear c9
 by_cases c12 : (bt a0 x9_1) < 128
 rotate_left
 ·rw [if_neg c12] at H
  have c12b0 := decide_eq_false c12
  clear c12
  have H' := Aside0.mk H
  clear H
  have p10 : 0 ≤ (x9_1 : Int) := of_decide_eq_true as_
  have q10 : x9_1 < (a0.size : Int) := of_decide_eq_true as_
  have hx10 := bt_at a0 x9_1
  replace p10 := eq_true p10
  replace q10 := eq_true q10
  have p11 : 0 ≤ (x9_1 : Int) := of_decide_eq_true as_
  have q11 : x9_1 < (a0.size : Int) := of_decide_eq_true as_
  have hx11 := bt_at a0 x9_1
  replace p11 := eq_true p11
  replace q11 := eq_true q11
  go_wp2
  go_roundg kj4
  case measure => have := HK1.out; have := HJ4.out; omega
  case rel => exact ⟨(wrap64 (x7_1 + (wrap64 ((Int.tmod (wrap64 (bt a0 x9_1)) 128) * x8_1)))), (wrap64 (x8_1 * 128)), (wrap64 (x9_1 + 1)), (sr_), (sr_), (sr_), H', ⟨by have := HK1.out; have := HJ4.out; omega⟩, ⟨bl_⟩⟩
 rw [if_pos c12] at H
 have c12b0 := decide_eq_true c12
 clear c12
 by_cases c13 : (wrap64 (x7_1 + (wrap64 ((Int.tmod (wrap64 (bt a0 x9_1)) 128) * x8_1)))) > 1000000000
 ·rw [if_pos c13] at H
  have c13b0 := decide_eq_true c13
  clear c13
  simp only [Option.some.injEq, Prod.mk.injEq] at H
  obtain ⟨rfl, rfl, rfl⟩ := H
  have p10 : 0 ≤ (x9_1 : Int) := of_decide_eq_true as_
  have q10 : x9_1 < (a0.size : Int) := of_decide_eq_true as_
  have hx10 := bt_at a0 x9_1
  replace p10 := eq_true p10
  replace q10 := eq_true q10
  have p11 : 0 ≤ (x9_1 : Int) := of_decide_eq_true as_
  have q11 : x9_1 < (a0.size : Int) := of_decide_eq_true as_
  have hx11 := bt_at a0 x9_1
  replace p11 := eq_true p11
  replace q11 := eq_true q11
  try go_wp2
  have n0_ := Aside0.mk (below_drew1 HB.out)
  clear HB
  have HB := n0_
  clear n0_
  refine start_ (n := 12) (S := fun w' => True) (ds := []) #[false, false, false, false, false, false, false, false, false, false, false, false] (by kernel_rfl) rfl rfl trivial (fun hHeld => ?_); refine with_tabW spec_ReadVar.tab11 spec_ReadVar.bits11 (fun HT_ HW_ => ?_)
  generalize wc.drew = w14 at HB hHeld ⊢
  refine pu_ 0 43 HT_ ?_
  refine pu_ 1 44 HT_ ?_
  refine pu_ 2 45 HT_ ?_
  refine pn_ 3 46 HT_ ?_
  refine pn_ 4 47 HT_ ?_
  refine pn_ 5 48 HT_ ?_
  refine pn_ 6 49 HT_ ?_
  refine pn_ 7 50 HT_ ?_
  refine pn_ 8 51 HT_ ?_
  refine pn_ 9 52 HT_ ?_
  refine pn_ 10 53 HT_ ?_
  refine pu_ 11 54 HT_ ?_
  refine done_ (done_of HT_.out (by kernel_rfl)) ?_
  try go_wp2
  go_ret3
  exact ⟨er_, bl_⟩
 rw [if_neg c13] at H
 have c13b0 := decide_eq_false c13
 clear c13
 replace H := bs_ H
 obtain ⟨t178, A15, H⟩ := H
 try dsimp only at H
 by_cases c16 : 0 ≤ a1
 rotate_left
 ·exact nn_ c16 H
 rw [if_pos c16] at H
 have c16b0 := eq_true c16
 have c16b1 : decide (0 ≤ a1) = true := decide_eq_true c16
 clear c16
 by_cases c17 : a1 ≤ (wrap64 (x9_1 + 1))
 rotate_left
 ·exact nn_ c17 H
 rw [if_pos c17] at H
 have c17b0 := eq_true c17
 have c17b1 : decide (a1 ≤ (wrap64 (x9_1 + 1))) = true := decide_eq_true c17
 by_cases c18 : (wrap64 (x9_1 + 1)) ≤ (a0.size : Int)
 rotate_left
 ·exact nn_ c18 H
 rw [if_pos c18] at H
 have c18b0 := eq_true c18
 have c18b1 : decide ((wrap64 (x9_1 + 1)) ≤ (a0.size : Int)) = true := decide_eq_true c18
 by_cases c19 : t178.toList = (a0.extract (a1 : Int).toNat ((wrap64 (x9_1 + 1)) : Int).toNat).toList
 rotate_left
 ·rw [if_neg c19] at H
  have c19b0 : (t178.toList == (a0.extract (a1 : Int).toNat ((wrap64 (x9_1 + 1)) : Int).toNat).toList) = false := beq_eq_false_iff_ne.mpr c19
  have c19b1 : (t178.toList != (a0.extract (a1 : Int).toNat ((wrap64 (x9_1 + 1)) : Int).toNat).toList) = true := bne_iff_ne.mpr c19
  simp only [Option.some.injEq, Prod.mk.injEq] at H
  obtain ⟨rfl, rfl, rfl⟩ := H
  have p10 : 0 ≤ (x9_1 : Int) := of_decide_eq_true as_
  have q10 : x9_1 < (a0.size : Int) := of_decide_eq_true as_
  have hx10 := bt_at a0 x9_1
  replace p10 := eq_true p10
  replace q10 := eq_true q10
  have p11 : 0 ≤ (x9_1 : Int) := of_decide_eq_true as_
  have q11 : x9_1 < (a0.size : Int) := of_decide_eq_true as_
  have hx11 := bt_at a0 x9_1
  replace p11 := eq_true p11
  replace q11 := eq_true q11
  try go_wp2
  have n0_ := Aside0.mk (below_drew1 HB.out)
  clear HB
  have HB := n0_
  clear n0_
  refine start_ (n := 12) (S := fun w' => True) (ds := []) #[false, false, false, false, false, false, false, false, false, false, false, false] (by kernel_rfl) rfl rfl trivial (fun hHeld => ?_); refine with_tabW spec_ReadVar.tab11 spec_ReadVar.bits11 (fun HT_ HW_ => ?_)
  generalize wc.drew = w22 at HB hHeld ⊢
  refine pu_ 0 43 HT_ ?_
  refine pu_ 1 44 HT_ ?_
  refine pu_ 2 45 HT_ ?_
  refine pu_ 3 46 HT_ ?_
  refine pu_ 5 48 HT_ ?_
  refine pu_ 6 49 HT_ ?_
  refine pu_ 7 50 HT_ ?_
  refine pu_ 8 51 HT_ ?_
  refine pu_ 9 52 HT_ ?_
  refine one_ (i := 4) (N := some 47) #[true, true, true, true, true, true, true, true, true, true, false, false] rfl rfl (one_of HT_.out (by kernel_rfl)) (by decide) (fun K hK => ?_)
  refine goes_ Tryd.func76 (by kernel_rfl) rfl #[.int .i64 (wrap64 (x7_1 + (wrap64 ((Int.tmod (wrap64 (bt a0 x9_1)) 128) * x8_1))))] (by rfl) rfl rfl lm_ ?_
  with_reducible refine (spec_l01Var.calls kj4 (wrap64 (x7_1 + (wrap64 ((Int.tmod (wrap64 (bt a0 x9_1)) 128) * x8_1)))) t178 _ A15.out).mono ?_
  rintro e w23 ⟨rfl, hb⟩
  refine ⟨_, rfl, ?_⟩
  have n0_ := Aside0.mk (below_step bl_ hb)
  clear HB
  have HB := n0_
  clear n0_
  (try clear hb)
  (try clear hb2)
  (try clear hk)
  (try clear hi)
  refine hK.out _ _ trivial (fun hHeld => ?_)
  clear hK K
  refine norm_ (a' := ?_) ?_ ?_
  rotate_left
  ·show Act.put _ (some 47) _ = _
   simp only [Act.put, List.setIfInBounds_toArray, List.set_cons_zero, List.set_cons_succ, i64_w, i32_w]
   rfl
  refine pu_ 10 53 HT_ ?_
  refine pu_ 11 54 HT_ ?_
  refine done_ (done_of HT_.out (by kernel_rfl)) ?_
  try go_wp2
  go_ret3
  exact ⟨er_, bl_⟩
 rw [if_pos c19] at H
 have c19b0 : (t178.toList == (a0.extract (a1 : Int).toNat ((wrap64 (x9_1 + 1)) : Int).toNat).toList) = true := beq_iff_eq.mpr c19
 have c19b1 : (t178.toList != (a0.extract (a1 : Int).toNat ((wrap64 (x9_1 + 1)) : Int).toNat).toList) = false := bne_eq_false_iff_eq.mpr c19
 clear c19
 simp only [Option.some.injEq, Prod.mk.injEq] at H
 obtain ⟨rfl, rfl, rfl⟩ := H
 have p10 : 0 ≤ (x9_1 : Int) := of_decide_eq_true as_
 have q10 : x9_1 < (a0.size : Int) := of_decide_eq_true as_
 have hx10 := bt_at a0 x9_1
 replace p10 := eq_true p10
 replace q10 := eq_true q10
 have p11 : 0 ≤ (x9_1 : Int) := of_decide_eq_true as_
 have q11 : x9_1 < (a0.size : Int) := of_decide_eq_true as_
 have hx11 := bt_at a0 x9_1
 replace p11 := eq_true p11
 replace q11 := eq_true q11
 try go_wp2
 have n0_ := Aside0.mk (below_drew1 HB.out)
 clear HB
 have HB := n0_
 clear n0_
 refine start_ (n := 12) (S := fun w' => True) (ds := []) #[false, false, false, false, false, false, false, false, false, false, false, false] (by kernel_rfl) rfl rfl trivial (fun hHeld => ?_); refine with_tabW spec_ReadVar.tab11 spec_ReadVar.bits11 (fun HT_ HW_ => ?_)
 generalize wc.drew = w20 at HB hHeld ⊢
 refine pu_ 0 43 HT_ ?_
 refine pu_ 1 44 HT_ ?_
 refine pu_ 2 45 HT_ ?_
 refine pu_ 3 46 HT_ ?_
 refine pu_ 5 48 HT_ ?_
 refine pu_ 6 49 HT_ ?_
 refine pu_ 7 50 HT_ ?_
 refine pu_ 8 51 HT_ ?_
 refine pu_ 9 52 HT_ ?_
 refine one_ (i := 4) (N := some 47) #[true, true, true, true, true, true, true, true, true, true, false, false] rfl rfl (one_of HT_.out (by kernel_rfl)) (by decide) (fun K hK => ?_)
 refine goes_ Tryd.func76 (by kernel_rfl) rfl #[.int .i64 (wrap64 (x7_1 + (wrap64 ((Int.tmod (wrap64 (bt a0 x9_1)) 128) * x8_1))))] (by rfl) rfl rfl lm_ ?_
 with_reducible refine (spec_l01Var.calls kj4 (wrap64 (x7_1 + (wrap64 ((Int.tmod (wrap64 (bt a0 x9_1)) 128) * x8_1)))) t178 _ A15.out).mono ?_
 rintro e w21 ⟨rfl, hb⟩
 refine ⟨_, rfl, ?_⟩
 have n0_ := Aside0.mk (below_step bl_ hb)
 clear HB
 have HB := n0_
 clear n0_
 (try clear hb)
 (try clear hb2)
 (try clear hk)
 (try clear hi)
 refine hK.out _ _ trivial (fun hHeld => ?_)
 clear hK K
 refine norm_ (a' := ?_) ?_ ?_
 rotate_left
 ·show Act.put _ (some 47) _ = _
  simp only [Act.put, List.setIfInBounds_toArray, List.set_cons_zero, List.set_cons_succ, i64_w, i32_w]
  rfl
 refine pu_ 10 53 HT_ ?_
 refine pu_ 11 54 HT_ ?_
 refine done_ (done_of HT_.out (by kernel_rfl)) ?_
 try go_wp2
 go_ret3
 exact ⟨er_, bl_⟩


/-! ### spec_ReadShort: function 89 -/
def spec_ReadShort.f (k : Nat) (a0 : ByteArray) (a1 : Int) : Option (ByteArray × Int × Bool) := (spec_ReadVar.f k a0 a1).bind fun bt179 => (if bt179.2.2 = true then (if bt179.1 > 20000 then (some ((⟨#[]⟩ : ByteArray), 0, false)) else (if bt179.1 > (wrap64 ((a0.size : Int) - bt179.2.1)) then (some ((⟨#[]⟩ : ByteArray), 0, false)) else (if 0 ≤ bt179.2.1 then (if bt179.2.1 ≤ (wrap64 (bt179.2.1 + bt179.1)) then (if (wrap64 (bt179.2.1 + bt179.1)) ≤ (a0.size : Int) then (some (a0.extract (bt179.2.1 : Int).toNat ((wrap64 (bt179.2.1 + bt179.1)) : Int).toNat, wrap64 (bt179.2.1 + bt179.1), true)) else (none)) else (none)) else (none)))) else (some ((⟨#[]⟩ : ByteArray), 0, false)))
theorem spec_ReadShort.mono : ∀ a0 a1 k, LeO (spec_ReadShort.f k a0 a1) (spec_ReadShort.f (k + 1) a0 a1) := by
 intro a0 a1 k
 unfold spec_ReadShort.f
 have m0 := @spec_ReadVar.mono
 exact mo_
set_option maxHeartbeats 8000000 in
set_option maxRecDepth 100000 in
theorem spec_ReadShort.calls (k : Nat) (a0 : ByteArray) (a1 : Int) (r1 : ByteArray) (r2 : Int) (r3 : Bool) (w : World) (h : spec_ReadShort.f k a0 a1 = some (r1, r2, r3)) :
 Calls Tryd.prog 89 #[.string a0, .int .i64 a1] w fun e w' => e = .returned (.tuple #[.string r1, .int .i64 r2, .bool r3]) ∧ Below w.heap.size w w' := by
 have HB := Aside0.mk (Below.refl w.heap.size w)
 have H : ((spec_ReadVar.f k a0 a1).bind fun bt179 => (if bt179.2.2 = true then (if bt179.1 > 20000 then (some ((⟨#[]⟩ : ByteArray), 0, false)) else (if bt179.1 > (wrap64 ((a0.size : Int) - bt179.2.1)) then (some ((⟨#[]⟩ : ByteArray), 0, false)) else (if 0 ≤ bt179.2.1 then (if bt179.2.1 ≤ (wrap64 (bt179.2.1 + bt179.1)) then (if (wrap64 (bt179.2.1 + bt179.1)) ≤ (a0.size : Int) then (some (a0.extract (bt179.2.1 : Int).toNat ((wrap64 (bt179.2.1 + bt179.1)) : Int).toNat, wrap64 (bt179.2.1 + bt179.1), true)) else (none)) else (none)) else (none)))) else (some ((⟨#[]⟩ : ByteArray), 0, false)))) = some (r1, r2, r3) := h
 clear h
 replace H := bs_ H
 obtain ⟨⟨t179, t180, t181⟩, A3, H⟩ := H
 try dsimp only at H
 by_cases c4 : t181 = true
 rotate_left
 ·replace c4 := Bool.eq_false_iff.mpr c4
  subst c4
  rw [if_neg (show ¬ (false = true) by decide)] at H
  simp only [Option.some.injEq, Prod.mk.injEq] at H
  obtain ⟨rfl, rfl, rfl⟩ := H
  go_enter Tryd.func89, Tryd.ntmps89
  go_wp2_with (first | ((with_reducible refine gate_callee (f := 88) rfl ?_); refine gs_ (some 13) Tryd.func88 #[.string a0, .int .i64 a1] ?_; (with_reducible refine (spec_ReadVar.calls k a0 a1 t179 t180 false _ A3.out).mono ?_); rintro e w13 ⟨rfl, hb⟩; refine ⟨_, rfl, ?_⟩; replace HB := Aside0.mk (below_step bl_ hb); (try clear hb)))
  go_ret3
  exact ⟨er_, bl_⟩
 subst c4
 rw [if_pos rfl] at H
 by_cases c5 : t179 > 20000
 ·rw [if_pos c5] at H
  have c5b0 := decide_eq_true c5
  clear c5
  simp only [Option.some.injEq, Prod.mk.injEq] at H
  obtain ⟨rfl, rfl, rfl⟩ := H
  go_enter Tryd.func89, Tryd.ntmps89
  go_wp2_with (first | ((with_reducible refine gate_callee (f := 88) rfl ?_); refine gs_ (some 13) Tryd.func88 #[.string a0, .int .i64 a1] ?_; (with_reducible refine (spec_ReadVar.calls k a0 a1 t179 t180 true _ A3.out).mono ?_); rintro e w6 ⟨rfl, hb⟩; refine ⟨_, rfl, ?_⟩; replace HB := Aside0.mk (below_step bl_ hb); (try clear hb)))
  go_ret3
  exact ⟨er_, bl_⟩
 rw [if_neg c5] at H
 have c5b0 := decide_eq_false c5
 clear c5
 by_cases c7 : t179 > (wrap64 ((a0.size : Int) - t180))
 ·rw [if_pos c7] at H
  have c7b0 := decide_eq_true c7
  clear c7
  simp only [Option.some.injEq, Prod.mk.injEq] at H
  obtain ⟨rfl, rfl, rfl⟩ := H
  go_enter Tryd.func89, Tryd.ntmps89
  go_wp2_with (first | ((with_reducible refine gate_callee (f := 88) rfl ?_); refine gs_ (some 13) Tryd.func88 #[.string a0, .int .i64 a1] ?_; (with_reducible refine (spec_ReadVar.calls k a0 a1 t179 t180 true _ A3.out).mono ?_); rintro e w8 ⟨rfl, hb⟩; refine ⟨_, rfl, ?_⟩; replace HB := Aside0.mk (below_step bl_ hb); (try clear hb)))
  go_ret3
  exact ⟨er_, bl_⟩
 rw [if_neg c7] at H
 have c7b0 := decide_eq_false c7
 clear c7
 by_cases c9 : 0 ≤ t180
 rotate_left
 ·exact nn_ c9 H
 rw [if_pos c9] at H
 have c9b0 := eq_true c9
 have c9b1 : decide (0 ≤ t180) = true := decide_eq_true c9
 clear c9
 by_cases c10 : t180 ≤ (wrap64 (t180 + t179))
 rotate_left
 ·exact nn_ c10 H
 rw [if_pos c10] at H
 have c10b0 := eq_true c10
 have c10b1 : decide (t180 ≤ (wrap64 (t180 + t179))) = true := decide_eq_true c10
 by_cases c11 : (wrap64 (t180 + t179)) ≤ (a0.size : Int)
 rotate_left
 ·exact nn_ c11 H
 rw [if_pos c11] at H
 have c11b0 := eq_true c11
 have c11b1 : decide ((wrap64 (t180 + t179)) ≤ (a0.size : Int)) = true := decide_eq_true c11
 simp only [Option.some.injEq, Prod.mk.injEq] at H
 obtain ⟨rfl, rfl, rfl⟩ := H
 go_enter Tryd.func89, Tryd.ntmps89
 go_wp2_with (first | ((with_reducible refine gate_callee (f := 88) rfl ?_); refine gs_ (some 13) Tryd.func88 #[.string a0, .int .i64 a1] ?_; (with_reducible refine (spec_ReadVar.calls k a0 a1 t179 t180 true _ A3.out).mono ?_); rintro e w12 ⟨rfl, hb⟩; refine ⟨_, rfl, ?_⟩; replace HB := Aside0.mk (below_step bl_ hb); (try clear hb)))
 go_ret3
 exact ⟨er_, bl_⟩


/-! ### spec_Unsealed: function 87 -/
def spec_Unsealed.f (k : Nat) (a0 : ByteArray) : Option (ByteArray × Bool) := if (wrap64 ((a0.size : Int) - 4)) < 0 then (some ((⟨#[]⟩ : ByteArray), false)) else (if (wrap64 ((a0.size : Int) - 4)) > 20000 then (some ((⟨#[]⟩ : ByteArray), false)) else (if 0 ≤ (wrap64 ((a0.size : Int) - 4)) then (if (wrap64 ((a0.size : Int) - 4)) ≤ (a0.size : Int) then ((spec_SumOf.f k (a0.extract 0 ((wrap64 ((a0.size : Int) - 4)) : Int).toNat)).bind fun t182 => ((spec_l02Four.f t182).bind fun t183 => (if (a0.extract ((wrap64 ((a0.size : Int) - 4)) : Int).toNat a0.size).toList = t183.toList then (some (a0.extract 0 ((wrap64 ((a0.size : Int) - 4)) : Int).toNat, true)) else (some ((⟨#[]⟩ : ByteArray), false))))) else (none)) else (none)))
theorem spec_Unsealed.mono : ∀ a0 k, LeO (spec_Unsealed.f k a0) (spec_Unsealed.f (k + 1) a0) := by
 intro a0 k
 unfold spec_Unsealed.f
 have m0 := @spec_SumOf.mono
 exact mo_
def spec_Unsealed.T2 : Bool × List (List Nat × List Nat) := (true, [([], []), ([0], [0]), ([1], [1]), ([2], [2]), ([3, 2], [2, 3]), ([2, 4], [2, 4]), ([5, 2], [5]), ([6], [6]), ([6], [6]), ([7, 8, 6], [6, 7, 8]), ([6], [6]), ([6], [6]), ([10, 11, 6], [6, 10, 11]), ([12, 6, 6], [6, 12]), ([13, 13, 6], [6, 13]), ([9, 14, 6], [6, 9, 14]), ([6, 15], [6, 15])])
def spec_Unsealed.B2 : List Nat := [0, 1, 3, 7, 15, 31, 63, 127, 127, 511, 127, 127, 3199, 7295, 15487, 32767, 65535]
theorem spec_Unsealed.tab2 : rtab .any (opsOf Tryd.f87 2) = spec_Unsealed.T2 := by kernel_rfl
theorem spec_Unsealed.bits2 : waitsOk spec_Unsealed.T2.2 spec_Unsealed.B2 = true := by kernel_rfl
set_option maxHeartbeats 8000000 in
set_option maxRecDepth 100000 in
theorem spec_Unsealed.calls (k : Nat) (a0 : ByteArray) (r1 : ByteArray) (r2 : Bool) (w : World) (h : spec_Unsealed.f k a0 = some (r1, r2)) :
 Calls Tryd.prog 87 #[.string a0] w fun e w' => e = .returned (.tuple #[.string r1, .bool r2]) ∧ Below w.heap.size w w' := by
 have HB := Aside0.mk (Below.refl w.heap.size w)
 have H : (if (wrap64 ((a0.size : Int) - 4)) < 0 then (some ((⟨#[]⟩ : ByteArray), false)) else (if (wrap64 ((a0.size : Int) - 4)) > 20000 then (some ((⟨#[]⟩ : ByteArray), false)) else (if 0 ≤ (wrap64 ((a0.size : Int) - 4)) then (if (wrap64 ((a0.size : Int) - 4)) ≤ (a0.size : Int) then ((spec_SumOf.f k (a0.extract 0 ((wrap64 ((a0.size : Int) - 4)) : Int).toNat)).bind fun t182 => ((spec_l02Four.f t182).bind fun t183 => (if (a0.extract ((wrap64 ((a0.size : Int) - 4)) : Int).toNat a0.size).toList = t183.toList then (some (a0.extract 0 ((wrap64 ((a0.size : Int) - 4)) : Int).toNat, true)) else (some ((⟨#[]⟩ : ByteArray), false))))) else (none)) else (none)))) = some (r1, r2) := h
 clear h
 by_cases c2 : (wrap64 ((a0.size : Int) - 4)) < 0
 ·rw [if_pos c2] at H
  have c2b0 := decide_eq_true c2
  clear c2
  simp only [Option.some.injEq, Prod.mk.injEq] at H
  obtain ⟨rfl, rfl⟩ := H
  go_enter Tryd.func87, Tryd.ntmps87
  try go_wp2
  have n0_ := Aside0.mk (below_drew1 HB.out)
  clear HB
  have HB := n0_
  clear n0_
  refine start_ (n := 17) (S := fun w' => True) (ds := []) #[false, false, false, false, false, false, false, false, false, false, false, false, false, false, false, false, false] (by kernel_rfl) rfl rfl trivial (fun hHeld => ?_); refine with_tabW spec_Unsealed.tab2 spec_Unsealed.bits2 (fun HT_ HW_ => ?_)
  generalize w.drew = w3 at HB hHeld ⊢
  refine pu_ 0 8 HT_ ?_
  refine pu_ 1 9 HT_ ?_
  refine pu_ 2 10 HT_ ?_
  refine pn_ 3 11 HT_ ?_
  refine pn_ 4 12 HT_ ?_
  refine pu_ 5 13 HT_ ?_
  refine pu_ 6 14 HT_ ?_
  refine pn_ 7 15 HT_ ?_
  refine pn_ 8 16 HT_ ?_
  refine pn_ 9 17 HT_ ?_
  refine pn_ 10 18 HT_ ?_
  refine pn_ 11 19 HT_ ?_
  refine pn_ 12 20 HT_ ?_
  refine pn_ 13 21 HT_ ?_
  refine pn_ 14 22 HT_ ?_
  refine pn_ 15 23 HT_ ?_
  refine pu_ 16 24 HT_ ?_
  refine done_ (done_of HT_.out (by kernel_rfl)) ?_
  try go_wp2
  go_ret2
  exact ⟨er_, bl_⟩
 rw [if_neg c2] at H
 have c2b0 := decide_eq_false c2
 clear c2
 by_cases c4 : (wrap64 ((a0.size : Int) - 4)) > 20000
 ·rw [if_pos c4] at H
  have c4b0 := decide_eq_true c4
  clear c4
  simp only [Option.some.injEq, Prod.mk.injEq] at H
  obtain ⟨rfl, rfl⟩ := H
  go_enter Tryd.func87, Tryd.ntmps87
  try go_wp2
  have n0_ := Aside0.mk (below_drew1 HB.out)
  clear HB
  have HB := n0_
  clear n0_
  refine start_ (n := 17) (S := fun w' => True) (ds := []) #[false, false, false, false, false, false, false, false, false, false, false, false, false, false, false, false, false] (by kernel_rfl) rfl rfl trivial (fun hHeld => ?_); refine with_tabW spec_Unsealed.tab2 spec_Unsealed.bits2 (fun HT_ HW_ => ?_)
  generalize w.drew = w5 at HB hHeld ⊢
  refine pu_ 0 8 HT_ ?_
  refine pu_ 1 9 HT_ ?_
  refine pu_ 2 10 HT_ ?_
  refine pu_ 3 11 HT_ ?_
  refine pu_ 4 12 HT_ ?_
  refine pu_ 5 13 HT_ ?_
  refine pu_ 6 14 HT_ ?_
  refine pn_ 7 15 HT_ ?_
  refine pn_ 8 16 HT_ ?_
  refine pn_ 9 17 HT_ ?_
  refine pn_ 10 18 HT_ ?_
  refine pn_ 11 19 HT_ ?_
  refine pn_ 12 20 HT_ ?_
  refine pn_ 13 21 HT_ ?_
  refine pn_ 14 22 HT_ ?_
  refine pn_ 15 23 HT_ ?_
  refine pu_ 16 24 HT_ ?_
  refine done_ (done_of HT_.out (by kernel_rfl)) ?_
  try go_wp2
  go_ret2
  exact ⟨er_, bl_⟩
 rw [if_neg c4] at H
 have c4b0 := decide_eq_false c4
 clear c4
 obtain ⟨ji6, hji6⟩ : ∃ j_ : Int, (wrap64 ((a0.size : Int) - 4)) = j_ := ⟨_, rfl⟩
 replace H : (if 0 ≤ (ji6) then (if (ji6) ≤ (a0.size : Int) then ((spec_SumOf.f k (a0.extract 0 ((ji6) : Int).toNat)).bind fun t182 => ((spec_l02Four.f t182).bind fun t183 => (if (a0.extract ((ji6) : Int).toNat a0.size).toList = t183.toList then (some (a0.extract 0 ((ji6) : Int).toNat, true)) else (some ((⟨#[]⟩ : ByteArray), false))))) else (none)) else (none)) = some (r1, r2) := by first | (rw [hji6] at H; exact H) | (simp only [hji6] at H ⊢; exact H)
 (try rw [hji6] at c2b0)
 (try rw [hji6] at c4b0)
 have hji6w : (IntKind.i64.wrap ((a0.size : Int) - 4)) = ji6 := (i64_w _).trans hji6
 by_cases c7 : 0 ≤ (ji6)
 rotate_left
 ·exact nn_ c7 H
 rw [if_pos c7] at H
 have c7b0 := eq_true c7
 have c7b1 : decide (0 ≤ (ji6)) = true := decide_eq_true c7
 clear c7
 by_cases c8 : (ji6) ≤ (a0.size : Int)
 rotate_left
 ·exact nn_ c8 H
 rw [if_pos c8] at H
 have c8b0 := eq_true c8
 have c8b1 : decide ((ji6) ≤ (a0.size : Int)) = true := decide_eq_true c8
 clear c8
 have c9b0 := eq_true (of_decide_eq_true as_ : 0 ≤ (ji6))
 have c10b0 := eq_true (of_decide_eq_true as_ : (ji6) ≤ (a0.size : Int))
 replace H := bs_ H
 obtain ⟨t182, A11, H⟩ := H
 try dsimp only at H
 replace H := bs_ H
 obtain ⟨t183, A12, H⟩ := H
 try dsimp only at H
 by_cases c13 : (a0.extract ((ji6) : Int).toNat a0.size).toList = t183.toList
 rotate_left
 ·rw [if_neg c13] at H
  have c13b0 : ((a0.extract ((ji6) : Int).toNat a0.size).toList == t183.toList) = false := beq_eq_false_iff_ne.mpr c13
  have c13b1 : ((a0.extract ((ji6) : Int).toNat a0.size).toList != t183.toList) = true := bne_iff_ne.mpr c13
  simp only [Option.some.injEq, Prod.mk.injEq] at H
  obtain ⟨rfl, rfl⟩ := H
  go_enter Tryd.func87, Tryd.ntmps87
  try go_wp2
  have n0_ := Aside0.mk (below_drew1 HB.out)
  clear HB
  have HB := n0_
  clear n0_
  refine start_ (n := 17) (S := fun w' => True) (ds := []) #[false, false, false, false, false, false, false, false, false, false, false, false, false, false, false, false, false] (by kernel_rfl) rfl rfl trivial (fun hHeld => ?_); refine with_tabW spec_Unsealed.tab2 spec_Unsealed.bits2 (fun HT_ HW_ => ?_)
  generalize w.drew = w18 at HB hHeld ⊢
  refine pu_ 0 8 HT_ ?_
  refine pu_ 1 9 HT_ ?_
  refine pu_ 2 10 HT_ ?_
  refine pu_ 3 11 HT_ ?_
  refine pu_ 4 12 HT_ ?_
  refine pu_ 5 13 HT_ ?_
  refine pu_ 6 14 HT_ ?_
  refine pu_ 7 15 HT_ ?_
  refine pu_ 8 16 HT_ ?_
  refine pu_ 9 17 HT_ ?_
  refine pu_ 10 18 HT_ ?_
  refine pu_ 11 19 HT_ ?_
  refine pu_ 12 20 HT_ ?_
  refine one_ (i := 13) (N := some 21) #[true, true, true, true, true, true, true, true, true, true, true, true, true, true, false, false, false] rfl rfl (one_of HT_.out (by kernel_rfl)) (by decide) (fun K hK => ?_)
  refine goes_ Tryd.func114 (by kernel_rfl) rfl #[.string (a0.extract 0 ((ji6) : Int).toNat)] (by rfl) rfl rfl (by (try simp only [List.map_toArray, List.map_cons, List.map_nil]); first | done | (simp only [hji6]; rfl) | rfl | (simp only [List.length_drop, List.length_take]; rfl)) ?_
  with_reducible refine (spec_SumOf.calls k (a0.extract 0 ((ji6) : Int).toNat) t182 _ A11.out).mono ?_
  rintro e w' ⟨rfl, ⟨nd, rfl⟩⟩
  refine ⟨_, rfl, ?_⟩
  refine hK.out _ _ trivial (fun hHeld => ?_)
  clear hK K
  refine norm_ (a' := ?_) ?_ ?_
  rotate_left
  ·show Act.put _ (some 21) _ = _
   simp only [Act.put, List.setIfInBounds_toArray, List.set_cons_zero, List.set_cons_succ, i64_w, i32_w]
   rfl
  refine one_ (i := 14) (N := some 22) #[true, true, true, true, true, true, true, true, true, true, true, true, true, true, true, false, false] rfl rfl (one_of HT_.out (by kernel_rfl)) (by decide) (fun K hK => ?_)
  refine goes_ Tryd.func113 (by kernel_rfl) rfl #[.int .u32 t182] (by rfl) rfl rfl lm_ ?_
  with_reducible refine (spec_l02Four.calls t182 t183 _ A12.out).mono ?_
  rintro e w19 ⟨rfl, hb⟩
  refine ⟨_, rfl, ?_⟩
  have n0_ := Aside0.mk (below_step bl_ hb)
  clear HB
  have HB := n0_
  clear n0_
  (try clear hb)
  (try clear hb2)
  (try clear hk)
  (try clear hi)
  refine hK.out _ _ trivial (fun hHeld => ?_)
  clear hK K
  refine norm_ (a' := ?_) ?_ ?_
  rotate_left
  ·show Act.put _ (some 22) _ = _
   simp only [Act.put, List.setIfInBounds_toArray, List.set_cons_zero, List.set_cons_succ, i64_w, i32_w]
   rfl
  refine pu_ 15 23 HT_ ?_
  refine pu_ 16 24 HT_ ?_
  refine done_ (done_of HT_.out (by kernel_rfl)) ?_
  try go_wp2
  go_ret2
  exact ⟨by first | rfl | (simp [errW_none, errW_some] <;> rfl) | (simp only [← hji6]; first | rfl | (simp [errW_none, errW_some] <;> rfl)) | (simp [*, errW_none, errW_some] <;> rfl) | exact False.elim (Bool.noConfusion ((decide_eq_true (of_eq_true (by assumption))).symm.trans (by assumption))), bl_⟩
 rw [if_pos c13] at H
 have c13b0 : ((a0.extract ((ji6) : Int).toNat a0.size).toList == t183.toList) = true := beq_iff_eq.mpr c13
 have c13b1 : ((a0.extract ((ji6) : Int).toNat a0.size).toList != t183.toList) = false := bne_eq_false_iff_eq.mpr c13
 clear c13
 have c14b0 := eq_true (of_decide_eq_true as_ : 0 ≤ (ji6))
 have c15b0 := eq_true (of_decide_eq_true as_ : (ji6) ≤ (a0.size : Int))
 simp only [Option.some.injEq, Prod.mk.injEq] at H
 obtain ⟨rfl, rfl⟩ := H
 go_enter Tryd.func87, Tryd.ntmps87
 try go_wp2
 have n0_ := Aside0.mk (below_drew1 HB.out)
 clear HB
 have HB := n0_
 clear n0_
 refine start_ (n := 17) (S := fun w' => True) (ds := []) #[false, false, false, false, false, false, false, false, false, false, false, false, false, false, false, false, false] (by kernel_rfl) rfl rfl trivial (fun hHeld => ?_); refine with_tabW spec_Unsealed.tab2 spec_Unsealed.bits2 (fun HT_ HW_ => ?_)
 generalize w.drew = w16 at HB hHeld ⊢
 refine pu_ 0 8 HT_ ?_
 refine pu_ 1 9 HT_ ?_
 refine pu_ 2 10 HT_ ?_
 refine pu_ 3 11 HT_ ?_
 refine pu_ 4 12 HT_ ?_
 refine pu_ 5 13 HT_ ?_
 refine pu_ 6 14 HT_ ?_
 refine pu_ 7 15 HT_ ?_
 refine pu_ 8 16 HT_ ?_
 refine pu_ 9 17 HT_ ?_
 refine pu_ 10 18 HT_ ?_
 refine pu_ 11 19 HT_ ?_
 refine pu_ 12 20 HT_ ?_
 refine one_ (i := 13) (N := some 21) #[true, true, true, true, true, true, true, true, true, true, true, true, true, true, false, false, false] rfl rfl (one_of HT_.out (by kernel_rfl)) (by decide) (fun K hK => ?_)
 refine goes_ Tryd.func114 (by kernel_rfl) rfl #[.string (a0.extract 0 ((ji6) : Int).toNat)] (by rfl) rfl rfl (by (try simp only [List.map_toArray, List.map_cons, List.map_nil]); first | done | (simp only [hji6]; rfl) | rfl | (simp only [List.length_drop, List.length_take]; rfl)) ?_
 with_reducible refine (spec_SumOf.calls k (a0.extract 0 ((ji6) : Int).toNat) t182 _ A11.out).mono ?_
 rintro e w' ⟨rfl, ⟨nd, rfl⟩⟩
 refine ⟨_, rfl, ?_⟩
 refine hK.out _ _ trivial (fun hHeld => ?_)
 clear hK K
 refine norm_ (a' := ?_) ?_ ?_
 rotate_left
 ·show Act.put _ (some 21) _ = _
  simp only [Act.put, List.setIfInBounds_toArray, List.set_cons_zero, List.set_cons_succ, i64_w, i32_w]
  rfl
 refine one_ (i := 14) (N := some 22) #[true, true, true, true, true, true, true, true, true, true, true, true, true, true, true, false, false] rfl rfl (one_of HT_.out (by kernel_rfl)) (by decide) (fun K hK => ?_)
 refine goes_ Tryd.func113 (by kernel_rfl) rfl #[.int .u32 t182] (by rfl) rfl rfl lm_ ?_
 with_reducible refine (spec_l02Four.calls t182 t183 _ A12.out).mono ?_
 rintro e w17 ⟨rfl, hb⟩
 refine ⟨_, rfl, ?_⟩
 have n0_ := Aside0.mk (below_step bl_ hb)
 clear HB
 have HB := n0_
 clear n0_
 (try clear hb)
 (try clear hb2)
 (try clear hk)
 (try clear hi)
 refine hK.out _ _ trivial (fun hHeld => ?_)
 clear hK K
 refine norm_ (a' := ?_) ?_ ?_
 rotate_left
 ·show Act.put _ (some 22) _ = _
  simp only [Act.put, List.setIfInBounds_toArray, List.set_cons_zero, List.set_cons_succ, i64_w, i32_w]
  rfl
 refine pu_ 15 23 HT_ ?_
 refine pu_ 16 24 HT_ ?_
 refine done_ (done_of HT_.out (by kernel_rfl)) ?_
 try go_wp2
 go_ret2
 exact ⟨by first | rfl | (simp [errW_none, errW_some] <;> rfl) | (simp only [← hji6]; first | rfl | (simp [errW_none, errW_some] <;> rfl)) | (simp [*, errW_none, errW_some] <;> rfl) | exact False.elim (Bool.noConfusion ((decide_eq_true (of_eq_true (by assumption))).symm.trans (by assumption))), bl_⟩


/-! ### spec_l17Four: function 128 -/
def spec_l17Four.f (a0 : ByteArray) (a1 : Int) : Option (Int) := if 0 ≤ a1 then (if a1 < (a0.size : Int) then (if 0 ≤ (wrap64 (a1 + 1)) then (if (wrap64 (a1 + 1)) < (a0.size : Int) then (if 0 ≤ (wrap64 (a1 + 2)) then (if (wrap64 (a1 + 2)) < (a0.size : Int) then (if 0 ≤ (wrap64 (a1 + 3)) then (if (wrap64 (a1 + 3)) < (a0.size : Int) then (some (Go.bits .or .i64 (Go.bits .or .i64 (Go.bits .or .i64 (wrap64 ((wrap64 (bt a0 a1)) * 16777216)) (wrap64 ((wrap64 (bt a0 (wrap64 (a1 + 1)))) * 65536))) (wrap64 ((wrap64 (bt a0 (wrap64 (a1 + 2)))) * 256))) (wrap64 (bt a0 (wrap64 (a1 + 3)))))) else (none)) else (none)) else (none)) else (none)) else (none)) else (none)) else (none)) else (none)
set_option maxHeartbeats 8000000 in
set_option maxRecDepth 100000 in
theorem spec_l17Four.calls (a0 : ByteArray) (a1 : Int) (r : Int) (w : World) (h : spec_l17Four.f a0 a1 = some r) :
 Calls Tryd.prog 128 #[.string a0, .int .i64 a1] w fun e w' => e = .returned (.int .i64 r) ∧ Drawn0 w w' := by
 have H : (if 0 ≤ a1 then (if a1 < (a0.size : Int) then (if 0 ≤ (wrap64 (a1 + 1)) then (if (wrap64 (a1 + 1)) < (a0.size : Int) then (if 0 ≤ (wrap64 (a1 + 2)) then (if (wrap64 (a1 + 2)) < (a0.size : Int) then (if 0 ≤ (wrap64 (a1 + 3)) then (if (wrap64 (a1 + 3)) < (a0.size : Int) then (some (Go.bits .or .i64 (Go.bits .or .i64 (Go.bits .or .i64 (wrap64 ((wrap64 (bt a0 a1)) * 16777216)) (wrap64 ((wrap64 (bt a0 (wrap64 (a1 + 1)))) * 65536))) (wrap64 ((wrap64 (bt a0 (wrap64 (a1 + 2)))) * 256))) (wrap64 (bt a0 (wrap64 (a1 + 3)))))) else (none)) else (none)) else (none)) else (none)) else (none)) else (none)) else (none)) else (none)) = some r := h
 clear h
 by_cases c3 : 0 ≤ a1
 rotate_left
 ·exact nn_ c3 H
 rw [if_pos c3] at H
 have c3b0 := decide_eq_true c3
 clear c3
 by_cases c4 : a1 < (a0.size : Int)
 rotate_left
 ·exact nn_ c4 H
 rw [if_pos c4] at H
 have c4b0 := decide_eq_true c4
 clear c4
 obtain ⟨ji6, hji6⟩ : ∃ j_ : Int, (wrap64 (a1 + 1)) = j_ := ⟨_, rfl⟩
 replace H : (if 0 ≤ (ji6) then (if (ji6) < (a0.size : Int) then (if 0 ≤ (wrap64 (a1 + 2)) then (if (wrap64 (a1 + 2)) < (a0.size : Int) then (if 0 ≤ (wrap64 (a1 + 3)) then (if (wrap64 (a1 + 3)) < (a0.size : Int) then (some (Go.bits .or .i64 (Go.bits .or .i64 (Go.bits .or .i64 (wrap64 ((wrap64 (bt a0 a1)) * 16777216)) (wrap64 ((wrap64 (bt a0 (ji6))) * 65536))) (wrap64 ((wrap64 (bt a0 (wrap64 (a1 + 2)))) * 256))) (wrap64 (bt a0 (wrap64 (a1 + 3)))))) else (none)) else (none)) else (none)) else (none)) else (none)) else (none)) = some r := by first | (rw [hji6] at H; exact H) | (simp only [hji6] at H ⊢; exact H)
 have hji6w : (IntKind.i64.wrap (a1 + 1)) = ji6 := (i64_w _).trans hji6
 by_cases c7 : 0 ≤ (ji6)
 rotate_left
 ·exact nn_ c7 H
 rw [if_pos c7] at H
 have c7b0 := decide_eq_true c7
 clear c7
 by_cases c8 : (ji6) < (a0.size : Int)
 rotate_left
 ·exact nn_ c8 H
 rw [if_pos c8] at H
 have c8b0 := decide_eq_true c8
 clear c8
 obtain ⟨ji10, hji10⟩ : ∃ j_ : Int, (wrap64 (a1 + 2)) = j_ := ⟨_, rfl⟩
 replace H : (if 0 ≤ (ji10) then (if (ji10) < (a0.size : Int) then (if 0 ≤ (wrap64 (a1 + 3)) then (if (wrap64 (a1 + 3)) < (a0.size : Int) then (some (Go.bits .or .i64 (Go.bits .or .i64 (Go.bits .or .i64 (wrap64 ((wrap64 (bt a0 a1)) * 16777216)) (wrap64 ((wrap64 (bt a0 (ji6))) * 65536))) (wrap64 ((wrap64 (bt a0 (ji10))) * 256))) (wrap64 (bt a0 (wrap64 (a1 + 3)))))) else (none)) else (none)) else (none)) else (none)) = some r := by first | (rw [hji10] at H; exact H) | (simp only [hji10] at H ⊢; exact H)
 have hji10w : (IntKind.i64.wrap (a1 + 2)) = ji10 := (i64_w _).trans hji10
 by_cases c11 : 0 ≤ (ji10)
 rotate_left
 ·exact nn_ c11 H
 rw [if_pos c11] at H
 have c11b0 := decide_eq_true c11
 clear c11
 by_cases c12 : (ji10) < (a0.size : Int)
 rotate_left
 ·exact nn_ c12 H
 rw [if_pos c12] at H
 have c12b0 := decide_eq_true c12
 clear c12
 obtain ⟨ji14, hji14⟩ : ∃ j_ : Int, (wrap64 (a1 + 3)) = j_ := ⟨_, rfl⟩
 replace H : (if 0 ≤ (ji14) then (if (ji14) < (a0.size : Int) then (some (Go.bits .or .i64 (Go.bits .or .i64 (Go.bits .or .i64 (wrap64 ((wrap64 (bt a0 a1)) * 16777216)) (wrap64 ((wrap64 (bt a0 (ji6))) * 65536))) (wrap64 ((wrap64 (bt a0 (ji10))) * 256))) (wrap64 (bt a0 (ji14))))) else (none)) else (none)) = some r := by first | (rw [hji14] at H; exact H) | (simp only [hji14] at H ⊢; exact H)
 have hji14w : (IntKind.i64.wrap (a1 + 3)) = ji14 := (i64_w _).trans hji14
 by_cases c15 : 0 ≤ (ji14)
 rotate_left
 ·exact nn_ c15 H
 rw [if_pos c15] at H
 have c15b0 := decide_eq_true c15
 clear c15
 by_cases c16 : (ji14) < (a0.size : Int)
 rotate_left
 ·exact nn_ c16 H
 rw [if_pos c16] at H
 have c16b0 := decide_eq_true c16
 clear c16
 obtain rfl := Option.some.inj H
 have p5 : 0 ≤ (a1 : Int) := of_decide_eq_true as_
 have q5 : a1 < (a0.size : Int) := of_decide_eq_true as_
 have hx5 := bt_at a0 a1
 replace p5 := eq_true p5
 replace q5 := eq_true q5
 have p9 : 0 ≤ ((ji6) : Int) := of_decide_eq_true as_
 have q9 : (ji6) < (a0.size : Int) := of_decide_eq_true as_
 have hx9 := bt_at a0 (ji6)
 replace p9 := eq_true p9
 replace q9 := eq_true q9
 have p13 : 0 ≤ ((ji10) : Int) := of_decide_eq_true as_
 have q13 : (ji10) < (a0.size : Int) := of_decide_eq_true as_
 have hx13 := bt_at a0 (ji10)
 replace p13 := eq_true p13
 replace q13 := eq_true q13
 have p17 : 0 ≤ ((ji14) : Int) := of_decide_eq_true as_
 have q17 : (ji14) < (a0.size : Int) := of_decide_eq_true as_
 have hx17 := bt_at a0 (ji14)
 replace p17 := eq_true p17
 replace q17 := eq_true q17
 go_enter Tryd.func128, Tryd.ntmps128
 go_wp2
 repeat (go_quiet (fail); try go_wp2)
 go_ret
 exact ⟨by first | rfl | (simp; done) | (simp only [← hji6, ← hji10, ← hji14] <;> (first | rfl | simp)) | (simp [*]; done), by repeat (first | exact Drawn0.refl _ | apply Drawn0.step)⟩

end Go.Proofs.YtdhjolglbcoijaaDoor.PA
