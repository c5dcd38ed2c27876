/- Contracts of functions of the program and of the reference, and plain lemmas on what they compute: a part of the proof of the law FnChainsTold. No condition. -/
import Derived.Test.YtdlapahfmfhbjaaDoorG523dfx0
import Derived.Test.YtdlapahfmfhbjaaDoorG523dfx1
import Derived.Test.YtdlapahfmfhbjaaDoorG523dfx2
import Derived.Test.YtdlapahfmfhbjaaDoorJFnChainsTold1
import Derived.Test.YtdlapahfmfhbjaaDoorGe902ex0
import Derived.Test.YtdlapahfmfhbjaaDoorGe902ex1
import Derived.Test.YtdlapahfmfhbjaaDoorGe902ex2
import Derived.Test.YtdlapahfmfhbjaaDoorJFnChainsTold2
import Derived.Test.YtdlapahfmfhbjaaDoorV0
import Derived.ChangeArms
import Derived.ChangeOld
import Derived.WideShapes
import Derived.OpenShut
import Derived.DataElems
import Derived.Test.YtdlapahfmfhbjaaDoorShortV
namespace Go.Proofs.YtdlapahfmfhbjaaDoor.PA
open Go.RowKit Go.Proofs.YtdlapahfmfhbjaaDoor.Short Go.Proofs.YtdlapahfmfhbjaaDoorW.PrintWords Go.Proofs.YtdlapahfmfhbjaaDoorW.PrintLast Go.Proofs.YtdlapahfmfhbjaaDoorW.PrintMore
attribute [local go_sem] max2_int min2_int max_two min_two max_three min_three max_four min_four   -- for this text's walks alone
set_option linter.unusedVariables false
set_option linter.unusedSimpArgs false

/-! ### laws_FnChainsTold: function 4 -/
def laws_FnChainsTold.f (k : Nat) (l0 : List Int) : Option (Bool) := (laws_big.f l0).bind fun t851 => (if t851 = true then (some true) else ((spec_DrawEntryText.f k l0).bind fun bt852 => ((spec_DrawHeadOf.f k l0).bind fun t859 => ((spec_DrawLogText.f k l0).bind fun t862 => ((impl_LogText.f k t862).bind fun bt865 => ((spec_LogText.f k t862).bind fun bt867 => ((spec_DrawReadLog.f k l0).bind fun t869 => ((impl_ReadLog.f k t869).bind fun bt870 => ((spec_ReadLog.f k t869).bind fun bt874 => ((spec_DrawVerified.f k l0).bind fun bt878 => ((impl_LogText.f k bt870.1).bind fun bt880 => ((impl_EntryText.f k bt852.1 bt852.2.1 bt852.2.2.1 bt852.2.2.2.1 bt852.2.2.2.2.1 bt852.2.2.2.2.2).bind fun t882 => ((spec_EntryText.f k bt852.1 bt852.2.1 bt852.2.2.1 bt852.2.2.2.1 bt852.2.2.2.2.1 bt852.2.2.2.2.2).bind fun t883 => (if t882.toList = t883.toList then ((impl_HeadOf.f k t859).bind fun t884 => ((spec_HeadOf.f k t859).bind fun t885 => (if t884.toList = t885.toList then (if (bt865.2 == bt867.2) = true then (if bt865.1.toList = bt867.1.toList then (if (bt870.2 == bt874.2) = true then ((laws_sameEntries.f k bt870.1 bt874.1).bind fun t886 => (if t886 = true then (if bt870.2 = true then (if bt880.1.toList = t869.toList then ((impl_Verified.f k bt878.1 bt878.2).bind fun t887 => ((spec_Verified.f k bt878.1 bt878.2).bind fun t888 => (some (t887 == t888)))) else (some false)) else ((impl_Verified.f k bt878.1 bt878.2).bind fun t889 => ((spec_Verified.f k bt878.1 bt878.2).bind fun t890 => (some (t889 == t890))))) else (some false))) else (some false)) else (some false)) else (some false)) else (some false)))) else (some false)))))))))))))))
theorem laws_FnChainsTold.mono : ∀ a0 k, LeO (laws_FnChainsTold.f k a0) (laws_FnChainsTold.f (k + 1) a0) := by
 intro a0 k
 unfold laws_FnChainsTold.f
 have m0 := @impl_EntryText.mono
 have m1 := @impl_HeadOf.mono
 have m2 := @impl_LogText.mono
 have m3 := @impl_ReadLog.mono
 have m4 := @impl_Verified.mono
 have m5 := @laws_sameEntries.mono
 have m6 := @spec_DrawEntryText.mono
 have m7 := @spec_DrawHeadOf.mono
 have m8 := @spec_DrawLogText.mono
 have m9 := @spec_DrawReadLog.mono
 have m10 := @spec_DrawVerified.mono
 have m11 := @spec_EntryText.mono
 have m12 := @spec_HeadOf.mono
 have m13 := @spec_LogText.mono
 have m14 := @spec_ReadLog.mono
 have m15 := @spec_Verified.mono
 exact mo_
def laws_FnChainsTold.T13 : Bool × List (List Nat × List Nat) := (true, [([], []), ([0], [0]), ([], []), ([2, 1], [2]), ([1, 3], [1, 3]), ([4, 3], [4]), ([5], [5]), ([6, 5, 5], [5, 6]), ([5], [5]), ([8, 7, 5], [5, 8]), ([7, 9, 5], [5, 7, 9]), ([5, 10], [5, 10]), ([11, 9], [11]), ([12], [12]), ([12], [12]), ([13, 14, 12], [12, 13, 14]), ([12, 15], [12, 15]), ([16, 12], [16]), ([17], [17]), ([17], [17]), ([18, 19, 17], [17, 18, 19]), ([17, 20], [17, 20]), ([21, 17], [21]), ([22], [22]), ([22], [22]), ([23, 24, 22], [22, 23, 24]), ([22, 25], [22, 25]), ([26, 22], [26]), ([27], [27]), ([27], [27]), ([28, 29, 27, 27], [27, 28, 29]), ([27, 30], [27, 30]), ([31, 30], [31]), ([32], [32]), ([33, 32], [32, 33]), ([34, 32, 32], [32, 34]), ([35], [35]), ([35], [35]), ([36, 37, 35], [35, 36, 37]), ([35, 38, 32], [32, 35, 38]), ([32, 39], [32, 39]), ([40, 35], [40]), ([41], [41]), ([41], [41]), ([42, 43, 41, 41], [41, 42, 43]), ([41], [41]), ([41], [41]), ([45, 46, 44, 41], [41, 45, 46]), ([44, 47, 41], [41, 44, 47]), ([41, 48], [41, 48]), ([49, 47, 0, 1, 2, 3, 4, 5, 6, 7, 8, 9, 10, 11, 12, 13, 14, 15, 16, 17, 18, 19, 20, 21, 22, 23, 24, 25, 26, 27, 28, 29, 30, 31, 32, 33, 34, 35, 36, 37, 38, 39, 40, 41, 42, 43, 44, 45, 46, 47, 48, 49], [49])])
def laws_FnChainsTold.B13 : List Nat := [0, 1, 0, 7, 15, 31, 63, 127, 63, 511, 1023, 2047, 4095, 8191, 8191, 32767, 65535, 131071, 262143, 262143, 1048575, 2097151, 4194303, 8388607, 8388607, 33554431, 67108863, 134217727, 268435455, 268435455, 1073741823, 2147483647, 4294967295, 8589934591, 17179869183, 34359738367, 68719476735, 68719476735, 274877906943, 549755813887, 1099511627775, 2199023255551, 4398046511103, 4398046511103, 17592186044415, 4398046511103, 4398046511103, 140737488355327, 281474976710655, 562949953421311, 1125899906842623]
theorem laws_FnChainsTold.tab13 : rtab .any (opsOf Tryd.f4 13) = laws_FnChainsTold.T13 := by kernel_rfl
theorem laws_FnChainsTold.bits13 : waitsOk laws_FnChainsTold.T13.2 laws_FnChainsTold.B13 = true := by kernel_rfl
set_option maxHeartbeats 8000000 in
set_option maxRecDepth 100000 in
theorem laws_FnChainsTold.calls (k : Nat) (A0 : Option Addr) (c0 : Nat) (l0 : List Int) (r : Bool) (w : World) (hr0 : Kd.C (Kd.int .u8) w A0 l0.length l0) (hc0 : l0.length ≤ c0) (hT : Tab w) (hr1 : r = true) (h : laws_FnChainsTold.f k l0 = some r) :
 Calls Tryd.prog 4 #[.slice A0 l0.length c0] w fun e w' => e = .returned (.bool r) ∧ Below w.heap.size w w' := by
 have hu27 := Tryd.underlying27
 have HR0 := Aside0.mk hr0
 have HC0 := Aside0.mk hc0
 clear hr0 hc0
 have HT := Aside0.mk hT
 clear hT
 have HR1 := Aside0.mk hr1
 clear hr1
 have HB := Aside0.mk (Below.refl w.heap.size w)
 have H : ((laws_big.f l0).bind fun t851 => (if t851 = true then (some true) else ((spec_DrawEntryText.f k l0).bind fun bt852 => ((spec_DrawHeadOf.f k l0).bind fun t859 => ((spec_DrawLogText.f k l0).bind fun t862 => ((impl_LogText.f k t862).bind fun bt865 => ((spec_LogText.f k t862).bind fun bt867 => ((spec_DrawReadLog.f k l0).bind fun t869 => ((impl_ReadLog.f k t869).bind fun bt870 => ((spec_ReadLog.f k t869).bind fun bt874 => ((spec_DrawVerified.f k l0).bind fun bt878 => ((impl_LogText.f k bt870.1).bind fun bt880 => ((impl_EntryText.f k bt852.1 bt852.2.1 bt852.2.2.1 bt852.2.2.2.1 bt852.2.2.2.2.1 bt852.2.2.2.2.2).bind fun t882 => ((spec_EntryText.f k bt852.1 bt852.2.1 bt852.2.2.1 bt852.2.2.2.1 bt852.2.2.2.2.1 bt852.2.2.2.2.2).bind fun t883 => (if t882.toList = t883.toList then ((impl_HeadOf.f k t859).bind fun t884 => ((spec_HeadOf.f k t859).bind fun t885 => (if t884.toList = t885.toList then (if (bt865.2 == bt867.2) = true then (if bt865.1.toList = bt867.1.toList then (if (bt870.2 == bt874.2) = true then ((laws_sameEntries.f k bt870.1 bt874.1).bind fun t886 => (if t886 = true then (if bt870.2 = true then (if bt880.1.toList = t869.toList then ((impl_Verified.f k bt878.1 bt878.2).bind fun t887 => ((spec_Verified.f k bt878.1 bt878.2).bind fun t888 => (some (t887 == t888)))) else (some false)) else ((impl_Verified.f k bt878.1 bt878.2).bind fun t889 => ((spec_Verified.f k bt878.1 bt878.2).bind fun t890 => (some (t889 == t890))))) else (some false))) else (some false)) else (some false)) else (some false)) else (some false)))) else (some false)))))))))))))))) = some r := h
 clear h
 replace H := bs_ H
 obtain ⟨t851, A2, H⟩ := H
 try dsimp only at H
 by_cases c3 : t851 = true
 ·subst c3
  rw [if_pos rfl] at H
  obtain rfl := Option.some.inj H
  go_enter Tryd.func4, Tryd.ntmps4
  go_wp2_with (first | ((with_reducible refine gate_callee (f := 6) rfl ?_); refine gs_ (some 20) Tryd.func6 #[.slice A0 l0.length c0] ?_; (with_reducible refine (laws_big.calls _ _ l0 true _ ?side1 ?side2 A2.out).mono ?_); (case side1 => repeat (first | exact HR0.out | (with_reducible refine Kd.C_alloc ?_ _) | (with_reducible refine Kd.C_drewN ?_ _) | (with_reducible refine Kd.C_drew ?_))); (case side2 => exact HC0.out); rintro e w' ⟨rfl, ⟨nd, rfl⟩⟩; refine ⟨_, rfl, ?_⟩))
  go_ret
  exact ⟨er_, bl_⟩
 replace c3 := Bool.eq_false_iff.mpr c3
 subst c3
 rw [if_neg (show ¬ (false = true) by decide)] at H
 replace H := bs_ H
 obtain ⟨⟨t852, t853, t854, t855, t856, t857⟩, A4, H⟩ := H
 try dsimp only at H
 replace H := bs_ H
 obtain ⟨t859, A5, H⟩ := H
 try dsimp only at H
 replace H := bs_ H
 obtain ⟨t862, A6, H⟩ := H
 try dsimp only at H
 replace H := bs_ H
 obtain ⟨⟨t865, t866⟩, A7, H⟩ := H
 try dsimp only at H
 replace H := bs_ H
 obtain ⟨⟨t867, t868⟩, A8, H⟩ := H
 try dsimp only at H
 replace H := bs_ H
 obtain ⟨t869, A9, H⟩ := H
 try dsimp only at H
 replace H := bs_ H
 obtain ⟨⟨t870, t871⟩, A10, H⟩ := H
 try dsimp only at H
 replace H := bs_ H
 obtain ⟨⟨t874, t875⟩, A11, H⟩ := H
 try dsimp only at H
 replace H := bs_ H
 obtain ⟨⟨t878, t879⟩, A12, H⟩ := H
 try dsimp only at H
 replace H := bs_ H
 obtain ⟨⟨t880, t881⟩, A13, H⟩ := H
 try dsimp only at H
 replace H := bs_ H
 obtain ⟨t882, A14, H⟩ := H
 try dsimp only at H
 replace H := bs_ H
 obtain ⟨t883, A15, H⟩ := H
 try dsimp only at H
 by_cases c16 : t882.toList = t883.toList
 rotate_left
 ·rw [if_neg c16] at H
  have c16b0 : (t882.toList == t883.toList) = false := beq_eq_false_iff_ne.mpr c16
  have c16b1 : (t882.toList != t883.toList) = true := bne_iff_ne.mpr c16
  exact absurd ((Option.some.inj H).trans HR1.out) (by decide)
 rw [if_pos c16] at H
 have c16b0 : (t882.toList == t883.toList) = true := beq_iff_eq.mpr c16
 have c16b1 : (t882.toList != t883.toList) = false := bne_eq_false_iff_eq.mpr c16
 clear c16
 replace H := bs_ H
 obtain ⟨t884, A17, H⟩ := H
 try dsimp only at H
 replace H := bs_ H
 obtain ⟨t885, A18, H⟩ := H
 try dsimp only at H
 by_cases c19 : t884.toList = t885.toList
 rotate_left
 ·rw [if_neg c19] at H
  have c19b0 : (t884.toList == t885.toList) = false := beq_eq_false_iff_ne.mpr c19
  have c19b1 : (t884.toList != t885.toList) = true := bne_iff_ne.mpr c19
  exact absurd ((Option.some.inj H).trans HR1.out) (by decide)
 rw [if_pos c19] at H
 have c19b0 : (t884.toList == t885.toList) = true := beq_iff_eq.mpr c19
 have c19b1 : (t884.toList != t885.toList) = false := bne_eq_false_iff_eq.mpr c19
 clear c19
 by_cases c20 : (t866 == t868) = true
 rotate_left
 ·rw [if_neg c20] at H
  have c20b0 : (t866 == t868) = false := by simpa using c20
  (try (have c20b1 : decide (t866 = t868) = false := by simpa using c20))
  (try (have c20b2 : (t866 == t868) = false := by simpa using c20))
  (try (have c20b3 : ¬ (t866 = t868) := by simpa using c20))
  clear c20
  exact absurd ((Option.some.inj H).trans HR1.out) (by decide)
 rw [if_pos c20] at H
 have c20b0 : (t866 == t868) = true := c20
 (try (have c20b1 : decide (t866 = t868) = true := by simpa using c20))
 (try (have c20b2 : (t866 == t868) = true := by simpa using c20))
 clear c20
 by_cases c21 : t865.toList = t867.toList
 rotate_left
 ·rw [if_neg c21] at H
  have c21b0 : (t865.toList == t867.toList) = false := beq_eq_false_iff_ne.mpr c21
  have c21b1 : (t865.toList != t867.toList) = true := bne_iff_ne.mpr c21
  exact absurd ((Option.some.inj H).trans HR1.out) (by decide)
 rw [if_pos c21] at H
 have c21b0 : (t865.toList == t867.toList) = true := beq_iff_eq.mpr c21
 have c21b1 : (t865.toList != t867.toList) = false := bne_eq_false_iff_eq.mpr c21
 clear c21
 by_cases c22 : (t871 == t875) = true
 rotate_left
 ·rw [if_neg c22] at H
  have c22b0 : (t871 == t875) = false := by simpa using c22
  (try (have c22b1 : decide (t871 = t875) = false := by simpa using c22))
  (try (have c22b2 : (t871 == t875) = false := by simpa using c22))
  (try (have c22b3 : ¬ (t871 = t875) := by simpa using c22))
  clear c22
  exact absurd ((Option.some.inj H).trans HR1.out) (by decide)
 rw [if_pos c22] at H
 have c22b0 : (t871 == t875) = true := c22
 (try (have c22b1 : decide (t871 = t875) = true := by simpa using c22))
 (try (have c22b2 : (t871 == t875) = true := by simpa using c22))
 clear c22
 replace H := bs_ H
 obtain ⟨t886, A23, H⟩ := H
 try dsimp only at H
 by_cases c24 : t886 = true
 rotate_left
 ·replace c24 := Bool.eq_false_iff.mpr c24
  subst c24
  rw [if_neg (show ¬ (false = true) by decide)] at H
  exact absurd ((Option.some.inj H).trans HR1.out) (by decide)
 subst c24
 rw [if_pos rfl] at H
 by_cases c25 : t871 = true
 rotate_left
 ·replace c25 := Bool.eq_false_iff.mpr c25
  subst c25
  rw [if_neg (show ¬ (false = true) by decide)] at H
  replace H := bs_ H
  obtain ⟨t889, A52, H⟩ := H
  try dsimp only at H
  replace H := bs_ H
  obtain ⟨t890, A53, H⟩ := H
  try dsimp only at H
  obtain rfl := Option.some.inj H
  go_enter Tryd.func4, Tryd.ntmps4
  try go_wp2_with (first | ((with_reducible refine gate_callee (f := 6) rfl ?_); refine gs_ (some 20) Tryd.func6 #[.slice A0 l0.length c0] ?_; (with_reducible refine (laws_big.calls _ _ l0 false _ ?side1 ?side2 A2.out).mono ?_); (case side1 => repeat (first | exact HR0.out | (with_reducible refine Kd.C_alloc ?_ _) | (with_reducible refine Kd.C_drewN ?_ _) | (with_reducible refine Kd.C_drew ?_))); (case side2 => exact HC0.out); rintro e w' ⟨rfl, ⟨nd, rfl⟩⟩; refine ⟨_, rfl, ?_⟩) | ((with_reducible refine gate_callee (f := 22) rfl ?_); refine gs_ (some 22) Tryd.func22 #[.slice A0 l0.length c0] ?_; (with_reducible refine (spec_DrawEntryText.calls k _ _ l0 t852 t853 t854 t855 t856 t857 _ ?side1 ?side2 A4.out).mono ?_); (case side1 => repeat (first | exact HR0.out | (with_reducible refine Kd.C_alloc ?_ _) | (with_reducible refine Kd.C_drewN ?_ _) | (with_reducible refine Kd.C_drew ?_))); (case side2 => exact HC0.out); rintro e w54 ⟨rfl, hb⟩; refine ⟨_, rfl, ?_⟩; replace HB := Aside0.mk (below_step bl_ hb); (try clear hb)) | ((with_reducible refine gate_dst (N := 3) rfl ?_); refine bx_ 3 27 #[.int .i64 0, .int .i64 0, .int .i64 0, .int .i64 0, .int .i64 0, .int .i64 0] ?_; intro gb858 hg w55 hbox hb; have BK858 := Aside0.mk (hbox); have GW858 := Aside0.mk ((hz_ : w.heap.size ≤ gb858)); have GE858 := Aside0.mk ((hz_ : w.heap.size ≤ gb858)); replace HB := Aside0.mk (below_step bl_ hb); clear hb hbox hg; obtain ⟨hcz56_0, hcz56_1, hcz56_2, hcz56_3, hcz56_4, hcz56_5, hfz56_0, hfz56_1, hfz56_2, hfz56_3, hfz56_4, hfz56_5⟩ := cf6_ BK858.out) | ((with_reducible refine gate_callee (f := 23) rfl ?_); refine gs_ (some 24) Tryd.func23 #[.slice A0 l0.length c0] ?_; (with_reducible refine (spec_DrawHeadOf.calls k _ _ l0 t859 _ ?side1 ?side2 A5.out).mono ?_); (case side1 => exact Kd.C_below HR0.out bl_); (case side2 => exact HC0.out); rintro e w57 ⟨v860, rfl, ho0, hb⟩; refine ⟨_, rfl, ?_⟩; have HO861 := Aside0.mk (Kd.R_lower (Kd.R_newB ho0 (g := gb858) (o := .cells #[.int .i64 t852, .int .i64 t853, .int .i64 t854, .int .i64 t855, .int .i64 t856, .int .i64 t857] 27 (0, 0)) (bp0_ BK858.out)) (below_size bl_)); replace BK858 := Aside0.mk (blk_below (g := gb858) (o := .cells #[.int .i64 t852, .int .i64 t853, .int .i64 t854, .int .i64 t855, .int .i64 t856, .int .i64 t857] 27 (0, 0)) (bp0_ BK858.out) hb); replace HB := Aside0.mk (below_step bl_ hb); (try clear hb); (try clear ho0)) | ((with_reducible refine gate_callee (f := 24) rfl ?_); refine gs_ (some 26) Tryd.func24 #[.slice A0 l0.length c0] ?_; (with_reducible refine (spec_DrawLogText.calls k _ _ l0 t862 _ ?side1 ?side2 A6.out).mono ?_); (case side1 => repeat (first | exact (Kd.C_below HR0.out HB.out) | exact HR0.out | (with_reducible refine Kd.C_alloc ?_ _) | (with_reducible refine Kd.C_drewN ?_ _) | (with_reducible refine Kd.C_drew ?_))); (case side2 => exact HC0.out); rintro e w58 ⟨v863, rfl, ho0, hb⟩; refine ⟨_, rfl, ?_⟩; have HO864 := Aside0.mk (Kd.R_lower (Kd.R_newB (Kd.R_new' ho0 (Kd.R_lt (ra_ HO861.out))) (g := gb858) (o := .cells #[.int .i64 t852, .int .i64 t853, .int .i64 t854, .int .i64 t855, .int .i64 t856, .int .i64 t857] 27 (0, 0)) (bk_ BK858.out)) (below_size bl_)); replace HO861 := Aside0.mk (Kd.R_elder' (ra_ HO861.out) (Kd.R_base ho0) hb); replace BK858 := Aside0.mk (blk_below (bn0_ BK858.out) hb); replace HB := Aside0.mk (below_step bl_ hb); (try clear hb); (try clear ho0); obtain ⟨Ao59, co59, eo59⟩ := Kd.R_slice HO864.out; subst eo59) | ((with_reducible refine gate_callee (f := 25) rfl ?_); refine gs_ (some 29) Tryd.func25 #[.slice Ao59 t862.length co59] ?_; (with_reducible refine (impl_LogText.calls k _ _ t862 t865 t866 _ ?side1 ?side2 A7.out).mono ?_); (case side1 => repeat (first | exact (Kd.R_reads' HO864.out).2.2 | (with_reducible refine Kd.C_alloc ?_ _) | (with_reducible refine Kd.C_drewN ?_ _) | (with_reducible refine Kd.C_drew ?_))); (case side2 => exact (Kd.R_reads' HO864.out).2.1); rintro e w60 ⟨rfl, hb⟩; refine ⟨_, rfl, ?_⟩; replace HO861 := Aside0.mk (Kd.R_below (ra_ HO861.out) hb); replace HO864 := Aside0.mk (Kd.R_below (ra_ HO864.out) hb); replace BK858 := Aside0.mk (blk_below (bn0_ BK858.out) hb); replace HB := Aside0.mk (below_step bl_ hb); (try clear hb)) | ((with_reducible refine gate_callee (f := 26) rfl ?_); refine gs_ (some 34) Tryd.func26 #[.slice Ao59 t862.length co59] ?_; (with_reducible refine (spec_LogText.calls k _ _ t862 t867 t868 _ ?side1 ?side2 A8.out).mono ?_); (case side1 => repeat (first | exact (Kd.R_reads' HO864.out).2.2 | (with_reducible refine Kd.C_alloc ?_ _) | (with_reducible refine Kd.C_drewN ?_ _) | (with_reducible refine Kd.C_drew ?_))); (case side2 => exact (Kd.R_reads' HO864.out).2.1); rintro e w61 ⟨rfl, hb⟩; refine ⟨_, rfl, ?_⟩; replace HO861 := Aside0.mk (Kd.R_below (ra_ HO861.out) hb); replace HO864 := Aside0.mk (Kd.R_below (ra_ HO864.out) hb); replace BK858 := Aside0.mk (blk_below (bn0_ BK858.out) hb); replace HB := Aside0.mk (below_step bl_ hb); (try clear hb)) | ((with_reducible refine gate_callee (f := 27) rfl ?_); refine gs_ (some 38) Tryd.func27 #[.slice A0 l0.length c0] ?_; (with_reducible refine (spec_DrawReadLog.calls k _ _ l0 t869 _ ?side1 ?side2 A9.out).mono ?_); (case side1 => repeat (first | exact (Kd.C_below HR0.out HB.out) | exact HR0.out | (with_reducible refine Kd.C_alloc ?_ _) | (with_reducible refine Kd.C_drewN ?_ _) | (with_reducible refine Kd.C_drew ?_))); (case side2 => exact HC0.out); rintro e w62 ⟨rfl, hb⟩; refine ⟨_, rfl, ?_⟩; replace HO861 := Aside0.mk (Kd.R_below (ra_ HO861.out) hb); replace HO864 := Aside0.mk (Kd.R_below (ra_ HO864.out) hb); replace BK858 := Aside0.mk (blk_below (bn0_ BK858.out) hb); replace HB := Aside0.mk (below_step bl_ hb); (try clear hb)) | ((with_reducible refine gate_callee (f := 28) rfl ?_); refine gs_ (some 41) Tryd.func28 #[.string t869] ?_; (with_reducible refine (impl_ReadLog.calls k t869 t870 false _ A10.out).mono ?_); rintro e w63 ⟨v872, rfl, ho0, hb⟩; refine ⟨_, rfl, ?_⟩; have HO873 := Aside0.mk (Kd.R_lower (Kd.R_newB (Kd.R_new' (Kd.R_new' ho0 (Kd.R_lt (ra_ HO861.out))) (Kd.R_lt (ra_ HO864.out))) (g := gb858) (o := .cells #[.int .i64 t852, .int .i64 t853, .int .i64 t854, .int .i64 t855, .int .i64 t856, .int .i64 t857] 27 (0, 0)) (bk_ BK858.out)) (below_size bl_)); replace HO861 := Aside0.mk (Kd.R_elder' (ra_ HO861.out) (Kd.R_base ho0) hb); replace HO864 := Aside0.mk (Kd.R_elder' (ra_ HO864.out) (Kd.R_base ho0) hb); replace BK858 := Aside0.mk (blk_below (bn0_ BK858.out) hb); replace HB := Aside0.mk (below_step bl_ hb); (try clear hb); (try clear ho0)) | ((with_reducible refine gate_callee (f := 29) rfl ?_); refine gs_ (some 46) Tryd.func29 #[.string t869] ?_; (with_reducible refine (spec_ReadLog.calls k t869 t874 t875 _ A11.out).mono ?_); rintro e w64 ⟨v876, rfl, ho0, hb⟩; refine ⟨_, rfl, ?_⟩; have HO877 := Aside0.mk (Kd.R_lower (Kd.R_newB (Kd.R_new' (Kd.R_new' (Kd.R_new' ho0 (Kd.R_lt (ra_ HO861.out))) (Kd.R_lt (ra_ HO864.out))) (Kd.R_lt (ra_ HO873.out))) (g := gb858) (o := .cells #[.int .i64 t852, .int .i64 t853, .int .i64 t854, .int .i64 t855, .int .i64 t856, .int .i64 t857] 27 (0, 0)) (bk_ BK858.out)) (below_size bl_)); replace HO861 := Aside0.mk (Kd.R_elder' (ra_ HO861.out) (Kd.R_base ho0) hb); replace HO864 := Aside0.mk (Kd.R_elder' (ra_ HO864.out) (Kd.R_base ho0) hb); replace HO873 := Aside0.mk (Kd.R_elder' (ra_ HO873.out) (Kd.R_base ho0) hb); replace BK858 := Aside0.mk (blk_below (bn0_ BK858.out) hb); replace HB := Aside0.mk (below_step bl_ hb); (try clear hb); (try clear ho0)) | ((with_reducible refine gate_callee (f := 30) rfl ?_); refine gs_ (some 51) Tryd.func30 #[.slice A0 l0.length c0] ?_; (with_reducible refine (spec_DrawVerified.calls k _ _ l0 t878 t879 _ ?side1 ?side2 A12.out).mono ?_); (case side1 => repeat (first | exact (Kd.C_below HR0.out HB.out) | exact HR0.out | (with_reducible refine Kd.C_alloc ?_ _) | (with_reducible refine Kd.C_drewN ?_ _) | (with_reducible refine Kd.C_drew ?_))); (case side2 => exact HC0.out); rintro e w65 ⟨rfl, hb⟩; refine ⟨_, rfl, ?_⟩; replace HO861 := Aside0.mk (Kd.R_below (ra_ HO861.out) hb); replace HO864 := Aside0.mk (Kd.R_below (ra_ HO864.out) hb); replace HO873 := Aside0.mk (Kd.R_below (ra_ HO873.out) hb); replace HO877 := Aside0.mk (Kd.R_below (ra_ HO877.out) hb); replace BK858 := Aside0.mk (blk_below (bn0_ BK858.out) hb); replace HB := Aside0.mk (below_step bl_ hb); (try clear hb); obtain ⟨Ao66, co66, eo66⟩ := Kd.R_slice HO873.out; subst eo66) | ((with_reducible refine gate_callee (f := 25) rfl ?_); refine gs_ (some 56) Tryd.func25 #[.slice Ao66 t870.length co66] ?_; (with_reducible refine (impl_LogText.calls k _ _ t870 t880 t881 _ ?side1 ?side2 A13.out).mono ?_); (case side1 => repeat (first | exact (Kd.R_reads' HO873.out).2.2 | (with_reducible refine Kd.C_alloc ?_ _) | (with_reducible refine Kd.C_drewN ?_ _) | (with_reducible refine Kd.C_drew ?_))); (case side2 => exact (Kd.R_reads' HO873.out).2.1); rintro e w67 ⟨rfl, hb⟩; refine ⟨_, rfl, ?_⟩; replace HO861 := Aside0.mk (Kd.R_below (ra_ HO861.out) hb); replace HO864 := Aside0.mk (Kd.R_below (ra_ HO864.out) hb); replace HO873 := Aside0.mk (Kd.R_below (ra_ HO873.out) hb); replace HO877 := Aside0.mk (Kd.R_below (ra_ HO877.out) hb); replace BK858 := Aside0.mk (blk_below (bn0_ BK858.out) hb); replace HB := Aside0.mk (below_step bl_ hb); (try clear hb)))
  have n0_ := Aside0.mk (Kd.R_drew HO861.out)
  have n1_ := Aside0.mk (Kd.R_drew HO864.out)
  have n2_ := Aside0.mk (Kd.R_drew HO873.out)
  have n3_ := Aside0.mk (Kd.R_drew HO877.out)
  have n4_ := Aside0.mk (blk_drew BK858.out)
  have n5_ := Aside0.mk (below_drew1 HB.out)
  clear HO861
  clear HO864
  clear HO873
  clear HO877
  clear BK858
  clear HB
  have HO861 := n0_
  have HO864 := n1_
  have HO873 := n2_
  have HO877 := n3_
  have BK858 := n4_
  have HB := n5_
  clear n0_ n1_ n2_ n3_ n4_ n5_
  refine start_ (n := 51) (S := fun w' => w'.cell? ⟨gb858, 0, none⟩ = some (.int .i64 t852) ∧ w'.cell? ⟨gb858, 1, none⟩ = some (.int .i64 t853) ∧ w'.cell? ⟨gb858, 2, none⟩ = some (.int .i64 t854) ∧ w'.cell? ⟨gb858, 3, none⟩ = some (.int .i64 t855) ∧ w'.cell? ⟨gb858, 4, none⟩ = some (.int .i64 t856) ∧ w'.cell? ⟨gb858, 5, none⟩ = some (.int .i64 t857)) (ds := []) #[false, false, false, false, false, false, false, false, false, false, false, false, false, false, false, false, false, false, false, false, false, false, false, false, false, false, false, false, false, false, false, false, false, false, false, false, false, false, false, false, false, false, false, false, false, false, false, false, false, false, false] (by kernel_rfl) rfl rfl ⟨(blk_cell BK858.out 0).trans rfl, (blk_cell BK858.out 1).trans rfl, (blk_cell BK858.out 2).trans rfl, (blk_cell BK858.out 3).trans rfl, (blk_cell BK858.out 4).trans rfl, (blk_cell BK858.out 5).trans rfl⟩ (fun hHeld => ?_); refine with_tabW laws_FnChainsTold.tab13 laws_FnChainsTold.bits13 (fun HT_ HW_ => ?_)
  generalize w67.drew = w68 at HO861 HO864 HO873 HO877 BK858 HB hHeld ⊢
  refine ta_ 0 59 HT_ HW_ hHeld ?_ (r := by rintro w' ⟨s0, s1, s2, s3, s4, s5⟩; go_simp; with_reducible rfl)
  refine ta_ 2 61 HT_ HW_ hHeld ?_ (r := by rintro w' ⟨s0, s1, s2, s3, s4, s5⟩; go_simp; with_reducible rfl)
  refine one_ (i := 1) (N := some 60) #[true, true, true, false, false, false, false, false, false, false, false, false, false, false, false, false, false, false, false, false, false, false, false, false, false, false, false, false, false, false, false, false, false, false, false, false, false, false, false, false, false, false, false, false, false, false, false, false, false, false, false] rfl rfl (one_of HT_.out (by kernel_rfl)) (by decide) (fun K hK => ?_)
  refine goes_ Tryd.func31 (by kernel_rfl) rfl #[.agg #[.int .i64 t852, .int .i64 t853, .int .i64 t854, .int .i64 t855, .int .i64 t856, .int .i64 t857]] (by rfl) rfl rfl lm_ ?_
  with_reducible refine (impl_EntryText.calls k t852 t853 t854 t855 t856 t857 t882 _ A14.out).mono ?_
  rintro e w69 ⟨rfl, hb⟩
  refine ⟨_, rfl, ?_⟩
  have n0_ := Aside0.mk (Kd.R_below (ra_ HO861.out) hb)
  have n1_ := Aside0.mk (Kd.R_below (ra_ HO864.out) hb)
  have n2_ := Aside0.mk (Kd.R_below (ra_ HO873.out) hb)
  have n3_ := Aside0.mk (Kd.R_below (ra_ HO877.out) hb)
  have n4_ := Aside0.mk (blk_below (bn0_ BK858.out) hb)
  have n5_ := Aside0.mk (below_step bl_ hb)
  clear HO861
  clear HO864
  clear HO873
  clear HO877
  clear BK858
  clear HB
  have HO861 := n0_
  have HO864 := n1_
  have HO873 := n2_
  have HO877 := n3_
  have BK858 := n4_
  have HB := n5_
  clear n0_ n1_ n2_ n3_ n4_ n5_
  (try clear hb)
  (try clear hb2)
  (try clear hk)
  (try clear hi)
  refine hK.out _ _ ⟨(blk_cell BK858.out 0).trans rfl, (blk_cell BK858.out 1).trans rfl, (blk_cell BK858.out 2).trans rfl, (blk_cell BK858.out 3).trans rfl, (blk_cell BK858.out 4).trans rfl, (blk_cell BK858.out 5).trans rfl⟩ (fun hHeld => ?_)
  clear hK K
  refine norm_ (a' := ?_) ?_ ?_
  rotate_left
  ·show Act.put _ (some 60) _ = _
   simp only [Act.put, List.setIfInBounds_toArray, List.set_cons_zero, List.set_cons_succ, i64_w, i32_w]
   rfl
  refine one_ (i := 3) (N := some 62) #[true, true, true, true, false, false, false, false, false, false, false, false, false, false, false, false, false, false, false, false, false, false, false, false, false, false, false, false, false, false, false, false, false, false, false, false, false, false, false, false, false, false, false, false, false, false, false, false, false, false, false] rfl rfl (one_of HT_.out (by kernel_rfl)) (by decide) (fun K hK => ?_)
  refine goes_ Tryd.func32 (by kernel_rfl) rfl #[.agg #[.int .i64 t852, .int .i64 t853, .int .i64 t854, .int .i64 t855, .int .i64 t856, .int .i64 t857]] (by rfl) rfl rfl lm_ ?_
  with_reducible refine (spec_EntryText.calls k t852 t853 t854 t855 t856 t857 t883 _ A15.out).mono ?_
  rintro e w70 ⟨rfl, hb⟩
  refine ⟨_, rfl, ?_⟩
  have n0_ := Aside0.mk (Kd.R_below (ra_ HO861.out) hb)
  have n1_ := Aside0.mk (Kd.R_below (ra_ HO864.out) hb)
  have n2_ := Aside0.mk (Kd.R_below (ra_ HO873.out) hb)
  have n3_ := Aside0.mk (Kd.R_below (ra_ HO877.out) hb)
  have n4_ := Aside0.mk (blk_below (bn0_ BK858.out) hb)
  have n5_ := Aside0.mk (below_step bl_ hb)
  clear HO861
  clear HO864
  clear HO873
  clear HO877
  clear BK858
  clear HB
  have HO861 := n0_
  have HO864 := n1_
  have HO873 := n2_
  have HO877 := n3_
  have BK858 := n4_
  have HB := n5_
  clear n0_ n1_ n2_ n3_ n4_ n5_
  (try clear hb)
  (try clear hb2)
  (try clear hk)
  (try clear hi)
  obtain ⟨Ao71, co71, eo71⟩ := Kd.R_slice HO861.out
  (first | subst eo71 | (injection eo71 with f1_ f2_ f3_; have f4_ := f1_.symm; have f5_ := f3_.symm; clear f1_ f2_ f3_; subst f4_; subst f5_))
  refine hK.out _ _ ⟨(blk_cell BK858.out 0).trans rfl, (blk_cell BK858.out 1).trans rfl, (blk_cell BK858.out 2).trans rfl, (blk_cell BK858.out 3).trans rfl, (blk_cell BK858.out 4).trans rfl, (blk_cell BK858.out 5).trans rfl⟩ (fun hHeld => ?_)
  clear hK K
  refine norm_ (a' := ?_) ?_ ?_
  rotate_left
  ·show Act.put _ (some 62) _ = _
   simp only [Act.put, List.setIfInBounds_toArray, List.set_cons_zero, List.set_cons_succ, i64_w, i32_w]
   rfl
  refine pu_ 4 63 HT_ ?_
  refine pu_ 5 64 HT_ ?_
  refine pu_ 6 65 HT_ ?_
  refine pu_ 8 67 HT_ ?_
  refine one_ (i := 7) (N := some 66) #[true, true, true, true, true, true, true, true, true, false, false, false, false, false, false, false, false, false, false, false, false, false, false, false, false, false, false, false, false, false, false, false, false, false, false, false, false, false, false, false, false, false, false, false, false, false, false, false, false, false, false] rfl rfl (one_of HT_.out (by kernel_rfl)) (by decide) (fun K hK => ?_)
  refine goes_ Tryd.func33 (by kernel_rfl) rfl #[.slice Ao71 t859.length co71] (by rfl) rfl rfl lm_ ?_
  with_reducible refine (impl_HeadOf.calls k _ _ t859 t884 _ ?side1 ?side2 ?side3 A17.out).mono ?_
  (case side1 => repeat (first | exact (Kd.R_reads' HO861.out).2.2 | (with_reducible refine Kd.C_alloc ?_ _) | (with_reducible refine Kd.C_drewN ?_ _) | (with_reducible refine Kd.C_drew ?_)))
  (case side2 => exact (Kd.R_reads' HO861.out).2.1)
  (case side3 => exact tab_of HT.out bl_)
  rintro e w72 ⟨rfl, hb⟩
  refine ⟨_, rfl, ?_⟩
  have n0_ := Aside0.mk (Kd.R_below (ra_ HO861.out) hb)
  have n1_ := Aside0.mk (Kd.R_below (ra_ HO864.out) hb)
  have n2_ := Aside0.mk (Kd.R_below (ra_ HO873.out) hb)
  have n3_ := Aside0.mk (Kd.R_below (ra_ HO877.out) hb)
  have n4_ := Aside0.mk (blk_below (bn0_ BK858.out) hb)
  have n5_ := Aside0.mk (below_step bl_ hb)
  clear HO861
  clear HO864
  clear HO873
  clear HO877
  clear BK858
  clear HB
  have HO861 := n0_
  have HO864 := n1_
  have HO873 := n2_
  have HO877 := n3_
  have BK858 := n4_
  have HB := n5_
  clear n0_ n1_ n2_ n3_ n4_ n5_
  (try clear hb)
  (try clear hb2)
  (try clear hk)
  (try clear hi)
  refine hK.out _ _ ⟨(blk_cell BK858.out 0).trans rfl, (blk_cell BK858.out 1).trans rfl, (blk_cell BK858.out 2).trans rfl, (blk_cell BK858.out 3).trans rfl, (blk_cell BK858.out 4).trans rfl, (blk_cell BK858.out 5).trans rfl⟩ (fun hHeld => ?_)
  clear hK K
  refine norm_ (a' := ?_) ?_ ?_
  rotate_left
  ·show Act.put _ (some 66) _ = _
   simp only [Act.put, List.setIfInBounds_toArray, List.set_cons_zero, List.set_cons_succ, i64_w, i32_w]
   rfl
  refine one_ (i := 9) (N := some 68) #[true, true, true, true, true, true, true, true, true, true, false, false, false, false, false, false, false, false, false, false, false, false, false, false, false, false, false, false, false, false, false, false, false, false, false, false, false, false, false, false, false, false, false, false, false, false, false, false, false, false, false] rfl rfl (one_of HT_.out (by kernel_rfl)) (by decide) (fun K hK => ?_)
  refine goes_ Tryd.func34 (by kernel_rfl) rfl #[.slice Ao71 t859.length co71] (by rfl) rfl rfl lm_ ?_
  with_reducible refine (spec_HeadOf.calls k _ _ t859 t885 _ ?side1 ?side2 A18.out).mono ?_
  (case side1 => repeat (first | exact (Kd.R_reads' HO861.out).2.2 | (with_reducible refine Kd.C_alloc ?_ _) | (with_reducible refine Kd.C_drewN ?_ _) | (with_reducible refine Kd.C_drew ?_)))
  (case side2 => exact (Kd.R_reads' HO861.out).2.1)
  rintro e w73 ⟨rfl, hb⟩
  refine ⟨_, rfl, ?_⟩
  have n0_ := Aside0.mk (Kd.R_below (ra_ HO861.out) hb)
  have n1_ := Aside0.mk (Kd.R_below (ra_ HO864.out) hb)
  have n2_ := Aside0.mk (Kd.R_below (ra_ HO873.out) hb)
  have n3_ := Aside0.mk (Kd.R_below (ra_ HO877.out) hb)
  have n4_ := Aside0.mk (blk_below (bn0_ BK858.out) hb)
  have n5_ := Aside0.mk (below_step bl_ hb)
  clear HO861
  clear HO864
  clear HO873
  clear HO877
  clear BK858
  clear HB
  have HO861 := n0_
  have HO864 := n1_
  have HO873 := n2_
  have HO877 := n3_
  have BK858 := n4_
  have HB := n5_
  clear n0_ n1_ n2_ n3_ n4_ n5_
  (try clear hb)
  (try clear hb2)
  (try clear hk)
  (try clear hi)
  obtain ⟨Ao74, co74, eo74⟩ := Kd.R_slice HO877.out
  (first | subst eo74 | (injection eo74 with f1_ f2_ f3_; have f4_ := f1_.symm; have f5_ := f3_.symm; clear f1_ f2_ f3_; subst f4_; subst f5_))
  refine hK.out _ _ ⟨(blk_cell BK858.out 0).trans rfl, (blk_cell BK858.out 1).trans rfl, (blk_cell BK858.out 2).trans rfl, (blk_cell BK858.out 3).trans rfl, (blk_cell BK858.out 4).trans rfl, (blk_cell BK858.out 5).trans rfl⟩ (fun hHeld => ?_)
  clear hK K
  refine norm_ (a' := ?_) ?_ ?_
  rotate_left
  ·show Act.put _ (some 68) _ = _
   simp only [Act.put, List.setIfInBounds_toArray, List.set_cons_zero, List.set_cons_succ, i64_w, i32_w]
   rfl
  refine pu_ 10 69 HT_ ?_
  refine pu_ 11 70 HT_ ?_
  refine pu_ 12 71 HT_ ?_
  refine pu_ 13 72 HT_ ?_
  refine pu_ 14 73 HT_ ?_
  refine pu_ 15 74 HT_ ?_
  refine pu_ 16 75 HT_ ?_
  refine pu_ 17 76 HT_ ?_
  refine pu_ 18 77 HT_ ?_
  refine pu_ 19 78 HT_ ?_
  refine pu_ 20 79 HT_ ?_
  refine pu_ 21 80 HT_ ?_
  refine pu_ 22 81 HT_ ?_
  refine pu_ 23 82 HT_ ?_
  refine pu_ 24 83 HT_ ?_
  refine pu_ 25 84 HT_ ?_
  refine pu_ 26 85 HT_ ?_
  refine pu_ 27 86 HT_ ?_
  refine pu_ 28 87 HT_ ?_
  refine pu_ 29 88 HT_ ?_
  refine one_ (i := 30) (N := some 89) #[true, true, true, true, true, true, true, true, true, true, true, true, true, true, true, true, true, true, true, true, true, true, true, true, true, true, true, true, true, true, true, false, false, false, false, false, false, false, false, false, false, false, false, false, false, false, false, false, false, false, false] rfl rfl (one_of HT_.out (by kernel_rfl)) (by decide) (fun K hK => ?_)
  refine goes_ Tryd.func35 (by kernel_rfl) rfl #[.slice Ao66 t870.length co66, .slice Ao74 t874.length co74] (by rfl) rfl rfl lm_ ?_
  with_reducible refine (laws_sameEntries.calls k _ _ t870 _ _ t874 true _ ?side1 ?side2 ?side3 ?side4 A23.out).mono ?_
  (case side1 => repeat (first | exact (Kd.R_reads' HO873.out).2.2 | (with_reducible refine Kd.C_alloc ?_ _) | (with_reducible refine Kd.C_drewN ?_ _) | (with_reducible refine Kd.C_drew ?_)))
  (case side2 => exact (Kd.R_reads' HO873.out).2.1)
  (case side3 => repeat (first | exact (Kd.R_reads' HO877.out).2.2 | (with_reducible refine Kd.C_alloc ?_ _) | (with_reducible refine Kd.C_drewN ?_ _) | (with_reducible refine Kd.C_drew ?_)))
  (case side4 => exact (Kd.R_reads' HO877.out).2.1)
  rintro e w' ⟨rfl, ⟨nd, rfl⟩⟩
  refine ⟨_, rfl, ?_⟩
  refine hK.out _ _ ⟨(blk_cell BK858.out 0).trans rfl, (blk_cell BK858.out 1).trans rfl, (blk_cell BK858.out 2).trans rfl, (blk_cell BK858.out 3).trans rfl, (blk_cell BK858.out 4).trans rfl, (blk_cell BK858.out 5).trans rfl⟩ (fun hHeld => ?_)
  clear hK K
  refine norm_ (a' := ?_) ?_ ?_
  rotate_left
  ·show Act.put _ (some 89) _ = _
   simp only [Act.put, List.setIfInBounds_toArray, List.set_cons_zero, List.set_cons_succ, i64_w, i32_w]
   rfl
  refine pu_ 31 90 HT_ ?_
  refine pu_ 32 91 HT_ ?_
  refine pu_ 33 92 HT_ ?_
  refine pu_ 34 93 HT_ ?_
  refine pu_ 35 94 HT_ ?_
  refine pn_ 36 95 HT_ ?_
  refine pn_ 37 96 HT_ ?_
  refine pn_ 38 97 HT_ ?_
  refine pu_ 39 98 HT_ ?_
  refine pu_ 40 99 HT_ ?_
  refine pu_ 41 100 HT_ ?_
  refine pu_ 42 101 HT_ ?_
  refine pu_ 43 102 HT_ ?_
  refine pu_ 45 104 HT_ ?_
  refine pu_ 46 105 HT_ ?_
  refine one_ (i := 44) (N := some 103) #[true, true, true, true, true, true, true, true, true, true, true, true, true, true, true, true, true, true, true, true, true, true, true, true, true, true, true, true, true, true, true, true, true, true, true, true, true, true, true, true, true, true, true, true, true, true, true, false, false, false, false] rfl rfl (one_of HT_.out (by kernel_rfl)) (by decide) (fun K hK => ?_)
  refine goes_ Tryd.func36 (by kernel_rfl) rfl #[.string t878, .string t879] (by rfl) rfl rfl lm_ ?_
  with_reducible refine (impl_Verified.calls k t878 t879 t889 _ ?side1 A52.out).mono ?_
  (case side1 => exact tab_of HT.out bl_)
  rintro e w75 ⟨rfl, hb⟩
  refine ⟨_, rfl, ?_⟩
  have n0_ := Aside0.mk (Kd.R_below (ra_ HO861.out) hb)
  have n1_ := Aside0.mk (Kd.R_below (ra_ HO864.out) hb)
  have n2_ := Aside0.mk (Kd.R_below (ra_ HO873.out) hb)
  have n3_ := Aside0.mk (Kd.R_below (ra_ HO877.out) hb)
  have n4_ := Aside0.mk (blk_below (bn0_ BK858.out) hb)
  have n5_ := Aside0.mk (below_step bl_ hb)
  clear HO861
  clear HO864
  clear HO873
  clear HO877
  clear BK858
  clear HB
  have HO861 := n0_
  have HO864 := n1_
  have HO873 := n2_
  have HO877 := n3_
  have BK858 := n4_
  have HB := n5_
  clear n0_ n1_ n2_ n3_ n4_ n5_
  (try clear hb)
  (try clear hb2)
  (try clear hk)
  (try clear hi)
  refine hK.out _ _ ⟨(blk_cell BK858.out 0).trans rfl, (blk_cell BK858.out 1).trans rfl, (blk_cell BK858.out 2).trans rfl, (blk_cell BK858.out 3).trans rfl, (blk_cell BK858.out 4).trans rfl, (blk_cell BK858.out 5).trans rfl⟩ (fun hHeld => ?_)
  clear hK K
  refine norm_ (a' := ?_) ?_ ?_
  rotate_left
  ·show Act.put _ (some 103) _ = _
   simp only [Act.put, List.setIfInBounds_toArray, List.set_cons_zero, List.set_cons_succ, i64_w, i32_w]
   rfl
  refine one_ (i := 47) (N := some 106) #[true, true, true, true, true, true, true, true, true, true, true, true, true, true, true, true, true, true, true, true, true, true, true, true, true, true, true, true, true, true, true, true, true, true, true, true, true, true, true, true, true, true, true, true, true, true, true, true, false, false, false] rfl rfl (one_of HT_.out (by kernel_rfl)) (by decide) (fun K hK => ?_)
  refine goes_ Tryd.func37 (by kernel_rfl) rfl #[.string t878, .string t879] (by rfl) rfl rfl lm_ ?_
  with_reducible refine (spec_Verified.calls k t878 t879 t890 _ A53.out).mono ?_
  rintro e w76 ⟨rfl, hb⟩
  refine ⟨_, rfl, ?_⟩
  have n0_ := Aside0.mk (Kd.R_below (ra_ HO861.out) hb)
  have n1_ := Aside0.mk (Kd.R_below (ra_ HO864.out) hb)
  have n2_ := Aside0.mk (Kd.R_below (ra_ HO873.out) hb)
  have n3_ := Aside0.mk (Kd.R_below (ra_ HO877.out) hb)
  have n4_ := Aside0.mk (blk_below (bn0_ BK858.out) hb)
  have n5_ := Aside0.mk (below_step bl_ hb)
  clear HO861
  clear HO864
  clear HO873
  clear HO877
  clear BK858
  clear HB
  have HO861 := n0_
  have HO864 := n1_
  have HO873 := n2_
  have HO877 := n3_
  have BK858 := n4_
  have HB := n5_
  clear n0_ n1_ n2_ n3_ n4_ n5_
  (try clear hb)
  (try clear hb2)
  (try clear hk)
  (try clear hi)
  refine hK.out _ _ ⟨(blk_cell BK858.out 0).trans rfl, (blk_cell BK858.out 1).trans rfl, (blk_cell BK858.out 2).trans rfl, (blk_cell BK858.out 3).trans rfl, (blk_cell BK858.out 4).trans rfl, (blk_cell BK858.out 5).trans rfl⟩ (fun hHeld => ?_)
  clear hK K
  refine norm_ (a' := ?_) ?_ ?_
  rotate_left
  ·show Act.put _ (some 106) _ = _
   simp only [Act.put, List.setIfInBounds_toArray, List.set_cons_zero, List.set_cons_succ, i64_w, i32_w]
   rfl
  refine pu_ 48 107 HT_ ?_
  refine pu_ 49 108 HT_ ?_
  refine pu_ 50 2 HT_ ?_
  refine done_ (done_of HT_.out (by kernel_rfl)) ?_
  try go_wp2
  go_ret
  exact ⟨er_, bl_⟩
 subst c25
 rw [if_pos rfl] at H
 by_cases c26 : t880.toList = t869.toList
 rotate_left
 ·rw [if_neg c26] at H
  have c26b0 : (t880.toList == t869.toList) = false := beq_eq_false_iff_ne.mpr c26
  have c26b1 : (t880.toList != t869.toList) = true := bne_iff_ne.mpr c26
  exact absurd ((Option.some.inj H).trans HR1.out) (by decide)
 rw [if_pos c26] at H
 have c26b0 : (t880.toList == t869.toList) = true := beq_iff_eq.mpr c26
 have c26b1 : (t880.toList != t869.toList) = false := bne_eq_false_iff_eq.mpr c26
 clear c26
 replace H := bs_ H
 obtain ⟨t887, A27, H⟩ := H
 try dsimp only at H
 replace H := bs_ H
 obtain ⟨t888, A28, H⟩ := H
 try dsimp only at H
 obtain rfl := Option.some.inj H
 go_enter Tryd.func4, Tryd.ntmps4
 try go_wp2_with (first | ((with_reducible refine gate_callee (f := 6) rfl ?_); refine gs_ (some 20) Tryd.func6 #[.slice A0 l0.length c0] ?_; (with_reducible refine (laws_big.calls _ _ l0 false _ ?side1 ?side2 A2.out).mono ?_); (case side1 => repeat (first | exact HR0.out | (with_reducible refine Kd.C_alloc ?_ _) | (with_reducible refine Kd.C_drewN ?_ _) | (with_reducible refine Kd.C_drew ?_))); (case side2 => exact HC0.out); rintro e w' ⟨rfl, ⟨nd, rfl⟩⟩; refine ⟨_, rfl, ?_⟩) | ((with_reducible refine gate_callee (f := 22) rfl ?_); refine gs_ (some 22) Tryd.func22 #[.slice A0 l0.length c0] ?_; (with_reducible refine (spec_DrawEntryText.calls k _ _ l0 t852 t853 t854 t855 t856 t857 _ ?side1 ?side2 A4.out).mono ?_); (case side1 => repeat (first | exact HR0.out | (with_reducible refine Kd.C_alloc ?_ _) | (with_reducible refine Kd.C_drewN ?_ _) | (with_reducible refine Kd.C_drew ?_))); (case side2 => exact HC0.out); rintro e w29 ⟨rfl, hb⟩; refine ⟨_, rfl, ?_⟩; replace HB := Aside0.mk (below_step bl_ hb); (try clear hb)) | ((with_reducible refine gate_dst (N := 3) rfl ?_); refine bx_ 3 27 #[.int .i64 0, .int .i64 0, .int .i64 0, .int .i64 0, .int .i64 0, .int .i64 0] ?_; intro gb858 hg w30 hbox hb; have BK858 := Aside0.mk (hbox); have GW858 := Aside0.mk ((hz_ : w.heap.size ≤ gb858)); have GE858 := Aside0.mk ((hz_ : w.heap.size ≤ gb858)); replace HB := Aside0.mk (below_step bl_ hb); clear hb hbox hg; obtain ⟨hcz31_0, hcz31_1, hcz31_2, hcz31_3, hcz31_4, hcz31_5, hfz31_0, hfz31_1, hfz31_2, hfz31_3, hfz31_4, hfz31_5⟩ := cf6_ BK858.out) | ((with_reducible refine gate_callee (f := 23) rfl ?_); refine gs_ (some 24) Tryd.func23 #[.slice A0 l0.length c0] ?_; (with_reducible refine (spec_DrawHeadOf.calls k _ _ l0 t859 _ ?side1 ?side2 A5.out).mono ?_); (case side1 => exact Kd.C_below HR0.out bl_); (case side2 => exact HC0.out); rintro e w32 ⟨v860, rfl, ho0, hb⟩; refine ⟨_, rfl, ?_⟩; have HO861 := Aside0.mk (Kd.R_lower (Kd.R_newB ho0 (g := gb858) (o := .cells #[.int .i64 t852, .int .i64 t853, .int .i64 t854, .int .i64 t855, .int .i64 t856, .int .i64 t857] 27 (0, 0)) (bp0_ BK858.out)) (below_size bl_)); replace BK858 := Aside0.mk (blk_below (g := gb858) (o := .cells #[.int .i64 t852, .int .i64 t853, .int .i64 t854, .int .i64 t855, .int .i64 t856, .int .i64 t857] 27 (0, 0)) (bp0_ BK858.out) hb); replace HB := Aside0.mk (below_step bl_ hb); (try clear hb); (try clear ho0)) | ((with_reducible refine gate_callee (f := 24) rfl ?_); refine gs_ (some 26) Tryd.func24 #[.slice A0 l0.length c0] ?_; (with_reducible refine (spec_DrawLogText.calls k _ _ l0 t862 _ ?side1 ?side2 A6.out).mono ?_); (case side1 => repeat (first | exact (Kd.C_below HR0.out HB.out) | exact HR0.out | (with_reducible refine Kd.C_alloc ?_ _) | (with_reducible refine Kd.C_drewN ?_ _) | (with_reducible refine Kd.C_drew ?_))); (case side2 => exact HC0.out); rintro e w33 ⟨v863, rfl, ho0, hb⟩; refine ⟨_, rfl, ?_⟩; have HO864 := Aside0.mk (Kd.R_lower (Kd.R_newB (Kd.R_new' ho0 (Kd.R_lt (ra_ HO861.out))) (g := gb858) (o := .cells #[.int .i64 t852, .int .i64 t853, .int .i64 t854, .int .i64 t855, .int .i64 t856, .int .i64 t857] 27 (0, 0)) (bk_ BK858.out)) (below_size bl_)); replace HO861 := Aside0.mk (Kd.R_elder' (ra_ HO861.out) (Kd.R_base ho0) hb); replace BK858 := Aside0.mk (blk_below (bn0_ BK858.out) hb); replace HB := Aside0.mk (below_step bl_ hb); (try clear hb); (try clear ho0); obtain ⟨Ao34, co34, eo34⟩ := Kd.R_slice HO864.out; subst eo34) | ((with_reducible refine gate_callee (f := 25) rfl ?_); refine gs_ (some 29) Tryd.func25 #[.slice Ao34 t862.length co34] ?_; (with_reducible refine (impl_LogText.calls k _ _ t862 t865 t866 _ ?side1 ?side2 A7.out).mono ?_); (case side1 => repeat (first | exact (Kd.R_reads' HO864.out).2.2 | (with_reducible refine Kd.C_alloc ?_ _) | (with_reducible refine Kd.C_drewN ?_ _) | (with_reducible refine Kd.C_drew ?_))); (case side2 => exact (Kd.R_reads' HO864.out).2.1); rintro e w35 ⟨rfl, hb⟩; refine ⟨_, rfl, ?_⟩; replace HO861 := Aside0.mk (Kd.R_below (ra_ HO861.out) hb); replace HO864 := Aside0.mk (Kd.R_below (ra_ HO864.out) hb); replace BK858 := Aside0.mk (blk_below (bn0_ BK858.out) hb); replace HB := Aside0.mk (below_step bl_ hb); (try clear hb)) | ((with_reducible refine gate_callee (f := 26) rfl ?_); refine gs_ (some 34) Tryd.func26 #[.slice Ao34 t862.length co34] ?_; (with_reducible refine (spec_LogText.calls k _ _ t862 t867 t868 _ ?side1 ?side2 A8.out).mono ?_); (case side1 => repeat (first | exact (Kd.R_reads' HO864.out).2.2 | (with_reducible refine Kd.C_alloc ?_ _) | (with_reducible refine Kd.C_drewN ?_ _) | (with_reducible refine Kd.C_drew ?_))); (case side2 => exact (Kd.R_reads' HO864.out).2.1); rintro e w36 ⟨rfl, hb⟩; refine ⟨_, rfl, ?_⟩; replace HO861 := Aside0.mk (Kd.R_below (ra_ HO861.out) hb); replace HO864 := Aside0.mk (Kd.R_below (ra_ HO864.out) hb); replace BK858 := Aside0.mk (blk_below (bn0_ BK858.out) hb); replace HB := Aside0.mk (below_step bl_ hb); (try clear hb)) | ((with_reducible refine gate_callee (f := 27) rfl ?_); refine gs_ (some 38) Tryd.func27 #[.slice A0 l0.length c0] ?_; (with_reducible refine (spec_DrawReadLog.calls k _ _ l0 t869 _ ?side1 ?side2 A9.out).mono ?_); (case side1 => repeat (first | exact (Kd.C_below HR0.out HB.out) | exact HR0.out | (with_reducible refine Kd.C_alloc ?_ _) | (with_reducible refine Kd.C_drewN ?_ _) | (with_reducible refine Kd.C_drew ?_))); (case side2 => exact HC0.out); rintro e w37 ⟨rfl, hb⟩; refine ⟨_, rfl, ?_⟩; replace HO861 := Aside0.mk (Kd.R_below (ra_ HO861.out) hb); replace HO864 := Aside0.mk (Kd.R_below (ra_ HO864.out) hb); replace BK858 := Aside0.mk (blk_below (bn0_ BK858.out) hb); replace HB := Aside0.mk (below_step bl_ hb); (try clear hb)) | ((with_reducible refine gate_callee (f := 28) rfl ?_); refine gs_ (some 41) Tryd.func28 #[.string t869] ?_; (with_reducible refine (impl_ReadLog.calls k t869 t870 true _ A10.out).mono ?_); rintro e w38 ⟨v872, rfl, ho0, hb⟩; refine ⟨_, rfl, ?_⟩; have HO873 := Aside0.mk (Kd.R_lower (Kd.R_newB (Kd.R_new' (Kd.R_new' ho0 (Kd.R_lt (ra_ HO861.out))) (Kd.R_lt (ra_ HO864.out))) (g := gb858) (o := .cells #[.int .i64 t852, .int .i64 t853, .int .i64 t854, .int .i64 t855, .int .i64 t856, .int .i64 t857] 27 (0, 0)) (bk_ BK858.out)) (below_size bl_)); replace HO861 := Aside0.mk (Kd.R_elder' (ra_ HO861.out) (Kd.R_base ho0) hb); replace HO864 := Aside0.mk (Kd.R_elder' (ra_ HO864.out) (Kd.R_base ho0) hb); replace BK858 := Aside0.mk (blk_below (bn0_ BK858.out) hb); replace HB := Aside0.mk (below_step bl_ hb); (try clear hb); (try clear ho0)) | ((with_reducible refine gate_callee (f := 29) rfl ?_); refine gs_ (some 46) Tryd.func29 #[.string t869] ?_; (with_reducible refine (spec_ReadLog.calls k t869 t874 t875 _ A11.out).mono ?_); rintro e w39 ⟨v876, rfl, ho0, hb⟩; refine ⟨_, rfl, ?_⟩; have HO877 := Aside0.mk (Kd.R_lower (Kd.R_newB (Kd.R_new' (Kd.R_new' (Kd.R_new' ho0 (Kd.R_lt (ra_ HO861.out))) (Kd.R_lt (ra_ HO864.out))) (Kd.R_lt (ra_ HO873.out))) (g := gb858) (o := .cells #[.int .i64 t852, .int .i64 t853, .int .i64 t854, .int .i64 t855, .int .i64 t856, .int .i64 t857] 27 (0, 0)) (bk_ BK858.out)) (below_size bl_)); replace HO861 := Aside0.mk (Kd.R_elder' (ra_ HO861.out) (Kd.R_base ho0) hb); replace HO864 := Aside0.mk (Kd.R_elder' (ra_ HO864.out) (Kd.R_base ho0) hb); replace HO873 := Aside0.mk (Kd.R_elder' (ra_ HO873.out) (Kd.R_base ho0) hb); replace BK858 := Aside0.mk (blk_below (bn0_ BK858.out) hb); replace HB := Aside0.mk (below_step bl_ hb); (try clear hb); (try clear ho0)) | ((with_reducible refine gate_callee (f := 30) rfl ?_); refine gs_ (some 51) Tryd.func30 #[.slice A0 l0.length c0] ?_; (with_reducible refine (spec_DrawVerified.calls k _ _ l0 t878 t879 _ ?side1 ?side2 A12.out).mono ?_); (case side1 => repeat (first | exact (Kd.C_below HR0.out HB.out) | exact HR0.out | (with_reducible refine Kd.C_alloc ?_ _) | (with_reducible refine Kd.C_drewN ?_ _) | (with_reducible refine Kd.C_drew ?_))); (case side2 => exact HC0.out); rintro e w40 ⟨rfl, hb⟩; refine ⟨_, rfl, ?_⟩; replace HO861 := Aside0.mk (Kd.R_below (ra_ HO861.out) hb); replace HO864 := Aside0.mk (Kd.R_below (ra_ HO864.out) hb); replace HO873 := Aside0.mk (Kd.R_below (ra_ HO873.out) hb); replace HO877 := Aside0.mk (Kd.R_below (ra_ HO877.out) hb); replace BK858 := Aside0.mk (blk_below (bn0_ BK858.out) hb); replace HB := Aside0.mk (below_step bl_ hb); (try clear hb); obtain ⟨Ao41, co41, eo41⟩ := Kd.R_slice HO873.out; subst eo41) | ((with_reducible refine gate_callee (f := 25) rfl ?_); refine gs_ (some 56) Tryd.func25 #[.slice Ao41 t870.length co41] ?_; (with_reducible refine (impl_LogText.calls k _ _ t870 t880 t881 _ ?side1 ?side2 A13.out).mono ?_); (case side1 => repeat (first | exact (Kd.R_reads' HO873.out).2.2 | (with_reducible refine Kd.C_alloc ?_ _) | (with_reducible refine Kd.C_drewN ?_ _) | (with_reducible refine Kd.C_drew ?_))); (case side2 => exact (Kd.R_reads' HO873.out).2.1); rintro e w42 ⟨rfl, hb⟩; refine ⟨_, rfl, ?_⟩; replace HO861 := Aside0.mk (Kd.R_below (ra_ HO861.out) hb); replace HO864 := Aside0.mk (Kd.R_below (ra_ HO864.out) hb); replace HO873 := Aside0.mk (Kd.R_below (ra_ HO873.out) hb); replace HO877 := Aside0.mk (Kd.R_below (ra_ HO877.out) hb); replace BK858 := Aside0.mk (blk_below (bn0_ BK858.out) hb); replace HB := Aside0.mk (below_step bl_ hb); (try clear hb)))
 have n0_ := Aside0.mk (Kd.R_drew HO861.out)
 have n1_ := Aside0.mk (Kd.R_drew HO864.out)
 have n2_ := Aside0.mk (Kd.R_drew HO873.out)
 have n3_ := Aside0.mk (Kd.R_drew HO877.out)
 have n4_ := Aside0.mk (blk_drew BK858.out)
 have n5_ := Aside0.mk (below_drew1 HB.out)
 clear HO861
 clear HO864
 clear HO873
 clear HO877
 clear BK858
 clear HB
 have HO861 := n0_
 have HO864 := n1_
 have HO873 := n2_
 have HO877 := n3_
 have BK858 := n4_
 have HB := n5_
 clear n0_ n1_ n2_ n3_ n4_ n5_
 refine start_ (n := 51) (S := fun w' => w'.cell? ⟨gb858, 0, none⟩ = some (.int .i64 t852) ∧ w'.cell? ⟨gb858, 1, none⟩ = some (.int .i64 t853) ∧ w'.cell? ⟨gb858, 2, none⟩ = some (.int .i64 t854) ∧ w'.cell? ⟨gb858, 3, none⟩ = some (.int .i64 t855) ∧ w'.cell? ⟨gb858, 4, none⟩ = some (.int .i64 t856) ∧ w'.cell? ⟨gb858, 5, none⟩ = some (.int .i64 t857)) (ds := []) #[false, false, false, false, false, false, false, false, false, false, false, false, false, false, false, false, false, false, false, false, false, false, false, false, false, false, false, false, false, false, false, false, false, false, false, false, false, false, false, false, false, false, false, false, false, false, false, false, false, false, false] (by kernel_rfl) rfl rfl ⟨(blk_cell BK858.out 0).trans rfl, (blk_cell BK858.out 1).trans rfl, (blk_cell BK858.out 2).trans rfl, (blk_cell BK858.out 3).trans rfl, (blk_cell BK858.out 4).trans rfl, (blk_cell BK858.out 5).trans rfl⟩ (fun hHeld => ?_); refine with_tabW laws_FnChainsTold.tab13 laws_FnChainsTold.bits13 (fun HT_ HW_ => ?_)
 generalize w42.drew = w43 at HO861 HO864 HO873 HO877 BK858 HB hHeld ⊢
 refine ta_ 0 59 HT_ HW_ hHeld ?_ (r := by rintro w' ⟨s0, s1, s2, s3, s4, s5⟩; go_simp; with_reducible rfl)
 refine ta_ 2 61 HT_ HW_ hHeld ?_ (r := by rintro w' ⟨s0, s1, s2, s3, s4, s5⟩; go_simp; with_reducible rfl)
 refine one_ (i := 1) (N := some 60) #[true, true, true, false, false, false, false, false, false, false, false, false, false, false, false, false, false, false, false, false, false, false, false, false, false, false, false, false, false, false, false, false, false, false, false, false, false, false, false, false, false, false, false, false, false, false, false, false, false, false, false] rfl rfl (one_of HT_.out (by kernel_rfl)) (by decide) (fun K hK => ?_)
 refine goes_ Tryd.func31 (by kernel_rfl) rfl #[.agg #[.int .i64 t852, .int .i64 t853, .int .i64 t854, .int .i64 t855, .int .i64 t856, .int .i64 t857]] (by rfl) rfl rfl lm_ ?_
 with_reducible refine (impl_EntryText.calls k t852 t853 t854 t855 t856 t857 t882 _ A14.out).mono ?_
 rintro e w44 ⟨rfl, hb⟩
 refine ⟨_, rfl, ?_⟩
 have n0_ := Aside0.mk (Kd.R_below (ra_ HO861.out) hb)
 have n1_ := Aside0.mk (Kd.R_below (ra_ HO864.out) hb)
 have n2_ := Aside0.mk (Kd.R_below (ra_ HO873.out) hb)
 have n3_ := Aside0.mk (Kd.R_below (ra_ HO877.out) hb)
 have n4_ := Aside0.mk (blk_below (bn0_ BK858.out) hb)
 have n5_ := Aside0.mk (below_step bl_ hb)
 clear HO861
 clear HO864
 clear HO873
 clear HO877
 clear BK858
 clear HB
 have HO861 := n0_
 have HO864 := n1_
 have HO873 := n2_
 have HO877 := n3_
 have BK858 := n4_
 have HB := n5_
 clear n0_ n1_ n2_ n3_ n4_ n5_
 (try clear hb)
 (try clear hb2)
 (try clear hk)
 (try clear hi)
 refine hK.out _ _ ⟨(blk_cell BK858.out 0).trans rfl, (blk_cell BK858.out 1).trans rfl, (blk_cell BK858.out 2).trans rfl, (blk_cell BK858.out 3).trans rfl, (blk_cell BK858.out 4).trans rfl, (blk_cell BK858.out 5).trans rfl⟩ (fun hHeld => ?_)
 clear hK K
 refine norm_ (a' := ?_) ?_ ?_
 rotate_left
 ·show Act.put _ (some 60) _ = _
  simp only [Act.put, List.setIfInBounds_toArray, List.set_cons_zero, List.set_cons_succ, i64_w, i32_w]
  rfl
 refine one_ (i := 3) (N := some 62) #[true, true, true, true, false, false, false, false, false, false, false, false, false, false, false, false, false, false, false, false, false, false, false, false, false, false, false, false, false, false, false, false, false, false, false, false, false, false, false, false, false, false, false, false, false, false, false, false, false, false, false] rfl rfl (one_of HT_.out (by kernel_rfl)) (by decide) (fun K hK => ?_)
 refine goes_ Tryd.func32 (by kernel_rfl) rfl #[.agg #[.int .i64 t852, .int .i64 t853, .int .i64 t854, .int .i64 t855, .int .i64 t856, .int .i64 t857]] (by rfl) rfl rfl lm_ ?_
 with_reducible refine (spec_EntryText.calls k t852 t853 t854 t855 t856 t857 t883 _ A15.out).mono ?_
 rintro e w45 ⟨rfl, hb⟩
 refine ⟨_, rfl, ?_⟩
 have n0_ := Aside0.mk (Kd.R_below (ra_ HO861.out) hb)
 have n1_ := Aside0.mk (Kd.R_below (ra_ HO864.out) hb)
 have n2_ := Aside0.mk (Kd.R_below (ra_ HO873.out) hb)
 have n3_ := Aside0.mk (Kd.R_below (ra_ HO877.out) hb)
 have n4_ := Aside0.mk (blk_below (bn0_ BK858.out) hb)
 have n5_ := Aside0.mk (below_step bl_ hb)
 clear HO861
 clear HO864
 clear HO873
 clear HO877
 clear BK858
 clear HB
 have HO861 := n0_
 have HO864 := n1_
 have HO873 := n2_
 have HO877 := n3_
 have BK858 := n4_
 have HB := n5_
 clear n0_ n1_ n2_ n3_ n4_ n5_
 (try clear hb)
 (try clear hb2)
 (try clear hk)
 (try clear hi)
 obtain ⟨Ao46, co46, eo46⟩ := Kd.R_slice HO861.out
 (first | subst eo46 | (injection eo46 with f1_ f2_ f3_; have f4_ := f1_.symm; have f5_ := f3_.symm; clear f1_ f2_ f3_; subst f4_; subst f5_))
 refine hK.out _ _ ⟨(blk_cell BK858.out 0).trans rfl, (blk_cell BK858.out 1).trans rfl, (blk_cell BK858.out 2).trans rfl, (blk_cell BK858.out 3).trans rfl, (blk_cell BK858.out 4).trans rfl, (blk_cell BK858.out 5).trans rfl⟩ (fun hHeld => ?_)
 clear hK K
 refine norm_ (a' := ?_) ?_ ?_
 rotate_left
 ·show Act.put _ (some 62) _ = _
  simp only [Act.put, List.setIfInBounds_toArray, List.set_cons_zero, List.set_cons_succ, i64_w, i32_w]
  rfl
 refine pu_ 4 63 HT_ ?_
 refine pu_ 5 64 HT_ ?_
 refine pu_ 6 65 HT_ ?_
 refine pu_ 8 67 HT_ ?_
 refine one_ (i := 7) (N := some 66) #[true, true, true, true, true, true, true, true, true, false, false, false, false, false, false, false, false, false, false, false, false, false, false, false, false, false, false, false, false, false, false, false, false, false, false, false, false, false, false, false, false, false, false, false, false, false, false, false, false, false, false] rfl rfl (one_of HT_.out (by kernel_rfl)) (by decide) (fun K hK => ?_)
 refine goes_ Tryd.func33 (by kernel_rfl) rfl #[.slice Ao46 t859.length co46] (by rfl) rfl rfl lm_ ?_
 with_reducible refine (impl_HeadOf.calls k _ _ t859 t884 _ ?side1 ?side2 ?side3 A17.out).mono ?_
 (case side1 => repeat (first | exact (Kd.R_reads' HO861.out).2.2 | (with_reducible refine Kd.C_alloc ?_ _) | (with_reducible refine Kd.C_drewN ?_ _) | (with_reducible refine Kd.C_drew ?_)))
 (case side2 => exact (Kd.R_reads' HO861.out).2.1)
 (case side3 => exact tab_of HT.out bl_)
 rintro e w47 ⟨rfl, hb⟩
 refine ⟨_, rfl, ?_⟩
 have n0_ := Aside0.mk (Kd.R_below (ra_ HO861.out) hb)
 have n1_ := Aside0.mk (Kd.R_below (ra_ HO864.out) hb)
 have n2_ := Aside0.mk (Kd.R_below (ra_ HO873.out) hb)
 have n3_ := Aside0.mk (Kd.R_below (ra_ HO877.out) hb)
 have n4_ := Aside0.mk (blk_below (bn0_ BK858.out) hb)
 have n5_ := Aside0.mk (below_step bl_ hb)
 clear HO861
 clear HO864
 clear HO873
 clear HO877
 clear BK858
 clear HB
 have HO861 := n0_
 have HO864 := n1_
 have HO873 := n2_
 have HO877 := n3_
 have BK858 := n4_
 have HB := n5_
 clear n0_ n1_ n2_ n3_ n4_ n5_
 (try clear hb)
 (try clear hb2)
 (try clear hk)
 (try clear hi)
 refine hK.out _ _ ⟨(blk_cell BK858.out 0).trans rfl, (blk_cell BK858.out 1).trans rfl, (blk_cell BK858.out 2).trans rfl, (blk_cell BK858.out 3).trans rfl, (blk_cell BK858.out 4).trans rfl, (blk_cell BK858.out 5).trans rfl⟩ (fun hHeld => ?_)
 clear hK K
 refine norm_ (a' := ?_) ?_ ?_
 rotate_left
 ·show Act.put _ (some 66) _ = _
  simp only [Act.put, List.setIfInBounds_toArray, List.set_cons_zero, List.set_cons_succ, i64_w, i32_w]
  rfl
 refine one_ (i := 9) (N := some 68) #[true, true, true, true, true, true, true, true, true, true, false, false, false, false, false, false, false, false, false, false, false, false, false, false, false, false, false, false, false, false, false, false, false, false, false, false, false, false, false, false, false, false, false, false, false, false, false, false, false, false, false] rfl rfl (one_of HT_.out (by kernel_rfl)) (by decide) (fun K hK => ?_)
 refine goes_ Tryd.func34 (by kernel_rfl) rfl #[.slice Ao46 t859.length co46] (by rfl) rfl rfl lm_ ?_
 with_reducible refine (spec_HeadOf.calls k _ _ t859 t885 _ ?side1 ?side2 A18.out).mono ?_
 (case side1 => repeat (first | exact (Kd.R_reads' HO861.out).2.2 | (with_reducible refine Kd.C_alloc ?_ _) | (with_reducible refine Kd.C_drewN ?_ _) | (with_reducible refine Kd.C_drew ?_)))
 (case side2 => exact (Kd.R_reads' HO861.out).2.1)
 rintro e w48 ⟨rfl, hb⟩
 refine ⟨_, rfl, ?_⟩
 have n0_ := Aside0.mk (Kd.R_below (ra_ HO861.out) hb)
 have n1_ := Aside0.mk (Kd.R_below (ra_ HO864.out) hb)
 have n2_ := Aside0.mk (Kd.R_below (ra_ HO873.out) hb)
 have n3_ := Aside0.mk (Kd.R_below (ra_ HO877.out) hb)
 have n4_ := Aside0.mk (blk_below (bn0_ BK858.out) hb)
 have n5_ := Aside0.mk (below_step bl_ hb)
 clear HO861
 clear HO864
 clear HO873
 clear HO877
 clear BK858
 clear HB
 have HO861 := n0_
 have HO864 := n1_
 have HO873 := n2_
 have HO877 := n3_
 have BK858 := n4_
 have HB := n5_
 clear n0_ n1_ n2_ n3_ n4_ n5_
 (try clear hb)
 (try clear hb2)
 (try clear hk)
 (try clear hi)
 obtain ⟨Ao49, co49, eo49⟩ := Kd.R_slice HO877.out
 (first | subst eo49 | (injection eo49 with f1_ f2_ f3_; have f4_ := f1_.symm; have f5_ := f3_.symm; clear f1_ f2_ f3_; subst f4_; subst f5_))
 refine hK.out _ _ ⟨(blk_cell BK858.out 0).trans rfl, (blk_cell BK858.out 1).trans rfl, (blk_cell BK858.out 2).trans rfl, (blk_cell BK858.out 3).trans rfl, (blk_cell BK858.out 4).trans rfl, (blk_cell BK858.out 5).trans rfl⟩ (fun hHeld => ?_)
 clear hK K
 refine norm_ (a' := ?_) ?_ ?_
 rotate_left
 ·show Act.put _ (some 68) _ = _
  simp only [Act.put, List.setIfInBounds_toArray, List.set_cons_zero, List.set_cons_succ, i64_w, i32_w]
  rfl
 refine pu_ 10 69 HT_ ?_
 refine pu_ 11 70 HT_ ?_
 refine pu_ 12 71 HT_ ?_
 refine pu_ 13 72 HT_ ?_
 refine pu_ 14 73 HT_ ?_
 refine pu_ 15 74 HT_ ?_
 refine pu_ 16 75 HT_ ?_
 refine pu_ 17 76 HT_ ?_
 refine pu_ 18 77 HT_ ?_
 refine pu_ 19 78 HT_ ?_
 refine pu_ 20 79 HT_ ?_
 refine pu_ 21 80 HT_ ?_
 refine pu_ 22 81 HT_ ?_
 refine pu_ 23 82 HT_ ?_
 refine pu_ 24 83 HT_ ?_
 refine pu_ 25 84 HT_ ?_
 refine pu_ 26 85 HT_ ?_
 refine pu_ 27 86 HT_ ?_
 refine pu_ 28 87 HT_ ?_
 refine pu_ 29 88 HT_ ?_
 refine one_ (i := 30) (N := some 89) #[true, true, true, true, true, true, true, true, true, true, true, true, true, true, true, true, true, true, true, true, true, true, true, true, true, true, true, true, true, true, true, false, false, false, false, false, false, false, false, false, false, false, false, false, false, false, false, false, false, false, false] rfl rfl (one_of HT_.out (by kernel_rfl)) (by decide) (fun K hK => ?_)
 refine goes_ Tryd.func35 (by kernel_rfl) rfl #[.slice Ao41 t870.length co41, .slice Ao49 t874.length co49] (by rfl) rfl rfl lm_ ?_
 with_reducible refine (laws_sameEntries.calls k _ _ t870 _ _ t874 true _ ?side1 ?side2 ?side3 ?side4 A23.out).mono ?_
 (case side1 => repeat (first | exact (Kd.R_reads' HO873.out).2.2 | (with_reducible refine Kd.C_alloc ?_ _) | (with_reducible refine Kd.C_drewN ?_ _) | (with_reducible refine Kd.C_drew ?_)))
 (case side2 => exact (Kd.R_reads' HO873.out).2.1)
 (case side3 => repeat (first | exact (Kd.R_reads' HO877.out).2.2 | (with_reducible refine Kd.C_alloc ?_ _) | (with_reducible refine Kd.C_drewN ?_ _) | (with_reducible refine Kd.C_drew ?_)))
 (case side4 => exact (Kd.R_reads' HO877.out).2.1)
 rintro e w' ⟨rfl, ⟨nd, rfl⟩⟩
 refine ⟨_, rfl, ?_⟩
 refine hK.out _ _ ⟨(blk_cell BK858.out 0).trans rfl, (blk_cell BK858.out 1).trans rfl, (blk_cell BK858.out 2).trans rfl, (blk_cell BK858.out 3).trans rfl, (blk_cell BK858.out 4).trans rfl, (blk_cell BK858.out 5).trans rfl⟩ (fun hHeld => ?_)
 clear hK K
 refine norm_ (a' := ?_) ?_ ?_
 rotate_left
 ·show Act.put _ (some 89) _ = _
  simp only [Act.put, List.setIfInBounds_toArray, List.set_cons_zero, List.set_cons_succ, i64_w, i32_w]
  rfl
 refine pu_ 31 90 HT_ ?_
 refine pu_ 32 91 HT_ ?_
 refine pu_ 33 92 HT_ ?_
 refine pu_ 34 93 HT_ ?_
 refine pu_ 35 94 HT_ ?_
 refine pu_ 36 95 HT_ ?_
 refine pu_ 37 96 HT_ ?_
 refine pu_ 38 97 HT_ ?_
 refine pu_ 39 98 HT_ ?_
 refine pu_ 40 99 HT_ ?_
 refine pu_ 41 100 HT_ ?_
 refine pu_ 42 101 HT_ ?_
 refine pu_ 43 102 HT_ ?_
 refine pu_ 45 104 HT_ ?_
 refine pu_ 46 105 HT_ ?_
 refine one_ (i := 44) (N := some 103) #[true, true, true, true, true, true, true, true, true, true, true, true, true, true, true, true, true, true, true, true, true, true, true, true, true, true, true, true, true, true, true, true, true, true, true, true, true, true, true, true, true, true, true, true, true, true, true, false, false, false, false] rfl rfl (one_of HT_.out (by kernel_rfl)) (by decide) (fun K hK => ?_)
 refine goes_ Tryd.func36 (by kernel_rfl) rfl #[.string t878, .string t879] (by rfl) rfl rfl lm_ ?_
 with_reducible refine (impl_Verified.calls k t878 t879 t887 _ ?side1 A27.out).mono ?_
 (case side1 => exact tab_of HT.out bl_)
 rintro e w50 ⟨rfl, hb⟩
 refine ⟨_, rfl, ?_⟩
 have n0_ := Aside0.mk (Kd.R_below (ra_ HO861.out) hb)
 have n1_ := Aside0.mk (Kd.R_below (ra_ HO864.out) hb)
 have n2_ := Aside0.mk (Kd.R_below (ra_ HO873.out) hb)
 have n3_ := Aside0.mk (Kd.R_below (ra_ HO877.out) hb)
 have n4_ := Aside0.mk (blk_below (bn0_ BK858.out) hb)
 have n5_ := Aside0.mk (below_step bl_ hb)
 clear HO861
 clear HO864
 clear HO873
 clear HO877
 clear BK858
 clear HB
 have HO861 := n0_
 have HO864 := n1_
 have HO873 := n2_
 have HO877 := n3_
 have BK858 := n4_
 have HB := n5_
 clear n0_ n1_ n2_ n3_ n4_ n5_
 (try clear hb)
 (try clear hb2)
 (try clear hk)
 (try clear hi)
 refine hK.out _ _ ⟨(blk_cell BK858.out 0).trans rfl, (blk_cell BK858.out 1).trans rfl, (blk_cell BK858.out 2).trans rfl, (blk_cell BK858.out 3).trans rfl, (blk_cell BK858.out 4).trans rfl, (blk_cell BK858.out 5).trans rfl⟩ (fun hHeld => ?_)
 clear hK K
 refine norm_ (a' := ?_) ?_ ?_
 rotate_left
 ·show Act.put _ (some 103) _ = _
  simp only [Act.put, List.setIfInBounds_toArray, List.set_cons_zero, List.set_cons_succ, i64_w, i32_w]
  rfl
 refine one_ (i := 47) (N := some 106) #[true, true, true, true, true, true, true, true, true, true, true, true, true, true, true, true, true, true, true, true, true, true, true, true, true, true, true, true, true, true, true, true, true, true, true, true, true, true, true, true, true, true, true, true, true, true, true, true, false, false, false] rfl rfl (one_of HT_.out (by kernel_rfl)) (by decide) (fun K hK => ?_)
 refine goes_ Tryd.func37 (by kernel_rfl) rfl #[.string t878, .string t879] (by rfl) rfl rfl lm_ ?_
 with_reducible refine (spec_Verified.calls k t878 t879 t888 _ A28.out).mono ?_
 rintro e w51 ⟨rfl, hb⟩
 refine ⟨_, rfl, ?_⟩
 have n0_ := Aside0.mk (Kd.R_below (ra_ HO861.out) hb)
 have n1_ := Aside0.mk (Kd.R_below (ra_ HO864.out) hb)
 have n2_ := Aside0.mk (Kd.R_below (ra_ HO873.out) hb)
 have n3_ := Aside0.mk (Kd.R_below (ra_ HO877.out) hb)
 have n4_ := Aside0.mk (blk_below (bn0_ BK858.out) hb)
 have n5_ := Aside0.mk (below_step bl_ hb)
 clear HO861
 clear HO864
 clear HO873
 clear HO877
 clear BK858
 clear HB
 have HO861 := n0_
 have HO864 := n1_
 have HO873 := n2_
 have HO877 := n3_
 have BK858 := n4_
 have HB := n5_
 clear n0_ n1_ n2_ n3_ n4_ n5_
 (try clear hb)
 (try clear hb2)
 (try clear hk)
 (try clear hi)
 refine hK.out _ _ ⟨(blk_cell BK858.out 0).trans rfl, (blk_cell BK858.out 1).trans rfl, (blk_cell BK858.out 2).trans rfl, (blk_cell BK858.out 3).trans rfl, (blk_cell BK858.out 4).trans rfl, (blk_cell BK858.out 5).trans rfl⟩ (fun hHeld => ?_)
 clear hK K
 refine norm_ (a' := ?_) ?_ ?_
 rotate_left
 ·show Act.put _ (some 106) _ = _
  simp only [Act.put, List.setIfInBounds_toArray, List.set_cons_zero, List.set_cons_succ, i64_w, i32_w]
  rfl
 refine pu_ 48 107 HT_ ?_
 refine pu_ 49 108 HT_ ?_
 refine pu_ 50 2 HT_ ?_
 refine done_ (done_of HT_.out (by kernel_rfl)) ?_
 try go_wp2
 go_ret
 exact ⟨er_, bl_⟩

end Go.Proofs.YtdlapahfmfhbjaaDoor.PA

namespace Go.Proofs.YtdlapahfmfhbjaaDoor.Op
open Go.RowKit Go.Proofs.YtdlapahfmfhbjaaDoorW.PrintWords
set_option linter.unusedVariables false
set_option linter.unusedSimpArgs false

/-- A whole number is one of its kind. -/
abbrev OkInt (k : IntKind) (n : Int) : Prop := (Lit.int k n).wf = true

/-- A value of type t, read as data, is one of the kind d, with G. -/
structure Opens (P : Program) {α : Type} (d : Kd α) (t : TypeId) (G : α → Prop) : Prop where
 sz : d.sz = P.cellsOf t
 op : ∀ {H : Type} {enc : TypeId × Value → H} {w : World} {n : Nat} {cs : List Value} {x : DataW H × List MemPlace},
  DataW.trod enc P w 0 (fun _ => true) true n t cs = some x → ∃ a, d.K w a cs ∧ G a

theorem opInt {P : Program} {t : TypeId} {k : IntKind} (hu : P.underlying t = some (.int k)) (hc : P.cellsOf t = 1) : Opens P (Kd.int k) t (fun n => (Lit.int k n).wf = true) where
 sz := by rw [hc]; rfl
 op := fun h => by
  obtain ⟨n, rfl, _, hw⟩ := DataW.trod_int hu h
  exact ⟨n, rfl, hw⟩

theorem opBool {P : Program} {t : TypeId} (hu : P.underlying t = some .bool) (hc : P.cellsOf t = 1) : Opens P Kd.bool t (fun _ => True) where
 sz := by rw [hc]; rfl
 op := fun h => by
  obtain ⟨n, rfl, _⟩ := DataW.trod_bool hu h
  exact ⟨n, rfl, trivial⟩

theorem opStr {P : Program} {t : TypeId} (hu : P.underlying t = some .string) (hc : P.cellsOf t = 1) : Opens P Kd.string t (fun s => s.size ≤ 9223372036854775807) where
 sz := by rw [hc]; rfl
 op := fun h => by
  obtain ⟨s, rfl, _, hs⟩ := DataW.trod_string hu h
  exact ⟨s, rfl, hs⟩

theorem chooseList {α : Type} {Q : Nat → α → Prop} : ∀ (n : Nat), (∀ i, i < n → ∃ a, Q i a) → ∃ xs : List α, xs.length = n ∧ ∀ i a, xs[i]? = some a → Q i a
 | 0, _ => ⟨[], rfl, fun i a h => by simp at h⟩
 | n + 1, h => by
  obtain ⟨xs, hl, hx⟩ := chooseList n (fun i hi => h i (by omega))
  obtain ⟨a, ha⟩ := h n (by omega)
  refine ⟨xs ++ [a], by simp [hl], fun i b hb => ?_⟩
  by_cases hi : i < n
  ·rw [List.getElem?_append_left (by omega)] at hb
   exact hx i b hb
  ·rw [List.getElem?_append_right (by omega), hl] at hb
   have : i - n = 0 := by
    rcases Nat.eq_zero_or_pos (i - n) with h0 | h0
    ·exact h0
    ·rw [List.getElem?_eq_none (by simp; omega)] at hb
     simp at hb
   rw [this] at hb
   have hin : i = n := by omega
   simp at hb
   rw [hin, ← hb]
   exact ha

theorem cellsAt {w : World} {a : Addr} {n : Nat} {cs : List Value} (h : w.cells? 0 a n = some cs) : cs.length = n ∧ ∀ i u, cs[i]? = some u → w.cell? (a.add i) = some u := by
 unfold World.cells? at h
 rw [if_pos (Nat.zero_le _)] at h
 have hl : cs.length = n := by simpa using mapM_some_length h
 refine ⟨hl, fun i u hu => ?_⟩
 have hi : i < n := by
  rcases Nat.lt_or_ge i n with h1 | h1
  ·exact h1
  ·rw [List.getElem?_eq_none (by omega)] at hu
   simp at hu
 have := mapM_some_get h i i (by simp [hi])
 rw [this, hu]

theorem opSlice {P : Program} {α : Type} {d : Kd α} {t e : TypeId} {G : α → Prop} (hu : P.underlying t = some (.slice e)) (hc : P.cellsOf t = 1) (E : Nat) (o : Opens P d e G) :
 Opens P (Kd.slice E d) t (fun l => (∀ a ∈ l, G a) ∧ l.length ≤ 9223372036854775807) where
 sz := by rw [hc]; rfl
 op := fun {H enc w n cs x} h => by
  rcases DataW.trod_slice hu h with ⟨rfl, _⟩ | ⟨a, len, cap, elems, rest, m, _, rfl, _, _, hl, hcap, hlen, hel, _⟩
  ·exact ⟨[], ⟨none, 0, rfl, Nat.le_refl _, rfl, by simp, fun h0 => by simp at h0⟩, fun a ha => by simp at ha, by simp⟩
  ·have hcap' : cap ≤ 9223372036854775807 := hcap
   have key : ∀ i, i < len → ∃ b, ∃ c, d.K w b c ∧ G b ∧ c.length = d.sz ∧ ∀ j u, c[j]? = some u → w.cell? ((a.add (i * d.sz)).add j) = some u := by
    intro i hi
    have h1 := hel i hi
    rw [List.getElem?_eq_getElem (by omega)] at h1
    obtain ⟨cs', h2, h3⟩ := Option.bind_eq_some_iff.1 h1
    obtain ⟨b, hK, hG⟩ := o.op h3
    obtain ⟨h4, h5⟩ := cellsAt h2
    rw [← o.sz] at h5
    exact ⟨b, cs', hK, hG, d.K_len hK, h5⟩
   obtain ⟨xs, hx, hall⟩ := chooseList len key
   refine ⟨xs, ⟨some a, cap, by rw [hx], by omega, rfl, by omega, fun _ => ⟨a, rfl, fun j p hp => ?_⟩⟩, fun b hb => ?_, by omega⟩
   ·obtain ⟨c, hK, _, hs, hcell⟩ := hall j p hp
    exact ⟨c, hs, hK, fun i u hiu => by rw [← Addr.add_add]; exact hcell i u hiu⟩
   ·obtain ⟨i, hi, rfl⟩ := List.getElem_of_mem hb
    obtain ⟨_, _, hG, _⟩ := hall i _ (List.getElem?_eq_getElem hi)
    exact hG

/-- A struct's fields from one on, one behind the other. -/
structure Fields (P : Program) (off : Nat) (fs : List Field) {α : Type} (d : Kd α) (G : α → Prop) : Prop where
 op : ∀ {H : Type} {enc : TypeId × Value → H} {w : World} {n : Nat} {cs : List Value}, cs.length = off + d.sz →
  (∀ f ∈ fs, ∃ y, DataW.trod enc P w 0 (fun _ => true) true n f.type ((cs.drop f.offset).take (P.cellsOf f.type)) = some y) → ∃ a, d.K w a (cs.drop off) ∧ G a

theorem fieldsOne {P : Program} {off : Nat} {f : Field} {α : Type} {d : Kd α} {G : α → Prop} (o : Opens P d f.type G) (hf : f.offset = off) : Fields P off [f] d G where
 op := fun {H enc w n cs} hl h => by
  obtain ⟨y, hy⟩ := h f (by simp)
  rw [hf, List.take_of_length_le (by rw [← o.sz]; simp; omega)] at hy
  exact o.op hy

theorem fieldsCons {P : Program} {off : Nat} {f : Field} {fs : List Field} {α β : Type} {d : Kd α} {d' : Kd β} {G : α → Prop} {G' : β → Prop} (o : Opens P d f.type G) (hf : f.offset = off) (r : Fields P (off + d.sz) fs d' G') :
 Fields P off (f :: fs) (Kd.pair d d') (fun x => G x.1 ∧ G' x.2) where
 op := fun {H enc w n cs} hl h => by
  have hl' : cs.length = off + (d.sz + d'.sz) := hl
  obtain ⟨y, hy⟩ := h f (by simp)
  rw [hf] at hy
  obtain ⟨a, ha, hg⟩ := o.op hy
  obtain ⟨b, hb, hg'⟩ := r.op (by omega) (fun g hg => h g (by simp [hg]))
  refine ⟨(a, b), ⟨_, _, ?_, ha, hb⟩, hg, hg'⟩
  rw [← o.sz, show cs.drop (off + d.sz) = (cs.drop off).drop d.sz from (List.drop_drop ..).symm]
  exact (List.take_append_drop _ _).symm

theorem opStruct {P : Program} {t : TypeId} {fs : Array Field} {α β : Type} {d : Kd α} {f : β → α} {G : α → Prop} {G' : β → Prop} (hu : P.underlying t = some (.struct fs)) (hc : P.cellsOf t = d.sz)
 (r : Fields P 0 fs.toList d G) (g : α → β) (hfg : ∀ a, f (g a) = a) (hG : ∀ a, G a → G' (g a)) : Opens P (Kd.iso d f) t G' where
 sz := by rw [hc]; rfl
 op := fun {H enc w n cs x} h => by
  obtain ⟨xs, m, rfl, _, hl, hxs, hall⟩ := DataW.trod_struct hu h
  obtain ⟨a, ha, hGa⟩ := r.op (w := w) (n := m) (cs := cs) (by omega) (fun f' hf' => by
   obtain ⟨i, hi, rfl⟩ := List.getElem_of_mem hf'
   have hi' : i < fs.size := by simpa using hi
   have h1 := hall i fs.toList[i] (by simp [hi'])
   rw [List.getElem?_eq_getElem (by omega)] at h1
   exact ⟨_, h1⟩)
  rw [List.drop_zero] at ha
  refine ⟨g a, ?_, hG a hGa⟩
  show d.K w (f (g a)) cs
  rw [hfg]
  exact ha
end Go.Proofs.YtdlapahfmfhbjaaDoor.Op

namespace Go.Proofs.YtdlapahfmfhbjaaDoor.PureFnChainsTold
open Go.RowKit Go.Proofs.YtdlapahfmfhbjaaDoor.PA
def Stated : Prop := ∀ (x0 : List Int), ((∀ e_ ∈ x0, Op.OkInt .u8 e_) ∧ x0.length ≤ 9223372036854775807) → ∃ k, laws_FnChainsTold.f k x0 = some true
end Go.Proofs.YtdlapahfmfhbjaaDoor.PureFnChainsTold

namespace Go.Proofs.YtdlapahfmfhbjaaDoor.Kit
open Go.RowKit Go.Proofs.YtdlapahfmfhbjaaDoorW.PrintWords Go.Proofs.YtdlapahfmfhbjaaDoorW.PrintLast Go.Proofs.YtdlapahfmfhbjaaDoorW.PrintMore
set_option linter.unusedVariables false
set_option linter.unusedSimpArgs false

theorem w64 {x : Int} (h0 : -9223372036854775808 ≤ x) (h1 : x ≤ 9223372036854775807) : wrap64 x = x := by unfold wrap64; omega

section
variable {α β : Type}
theorem evSucc {g : Nat → Option α} {r : α} (h : Ev (fun k => g (k + 1)) r) : Ev g r := Ev.step (fun _ => rfl) h
theorem evPos {c : Prop} [Decidable c] {g f : Nat → Option α} {r : α} (hc : c) (h : Ev g r) : Ev (fun k => if c then g k else f k) r := Ev.congr (fun k => if_pos hc) h
theorem evNeg {c : Prop} [Decidable c] {g f : Nat → Option α} {r : α} (hc : ¬ c) (h : Ev f r) : Ev (fun k => if c then g k else f k) r := Ev.congr (fun k => if_neg hc) h
theorem evIte {c : Prop} [Decidable c] {g f : Nat → Option α} {r s : α} (h : c → Ev g r) (h' : ¬ c → Ev f s) : Ev (fun k => if c then g k else f k) (if c then r else s) := by
 by_cases hc : c
 ·rw [if_pos hc]; exact evPos hc (h hc)
 ·rw [if_neg hc]; exact evNeg hc (h' hc)
theorem evSome (r : α) : Ev (fun _ => some r) r := Ev.now r
theorem evEq {g : Nat → Option α} {r s : α} (h : Ev g r) (e : r = s) : Ev g s := e ▸ h
/-- A value that needs no rounds. -/
theorem evBindS {x : Option α} {f : Nat → α → Option β} {a : α} {r : β} (h : x = some a) (k : Ev (fun n => f n a) r) : Ev (fun n => x.bind (f n)) r := by subst h; exact k
theorem evConst {x : Option α} {r : α} (h : x = some r) : Ev (fun _ => x) r := by subst h; exact Ev.now r
end

section
variable {α β : Type}
/-- A loop that counts up: from the last place back to the first. -/
theorem evUp {r : α} (n : Nat) (g : Nat → Nat → Option α) (step : ∀ i, i < n → Ev (g (i + 1)) r → Ev (g i) r) (last : Ev (g n) r) : Ev (g 0) r := by
 have key : ∀ d i, i + d = n → Ev (g i) r := by
  intro d
  induction d with
  | zero => intro i hi; rw [show i = n by omega]; exact last
  | succ d ih => intro i hi; exact step i (by omega) (ih (i + 1) (by omega))
 exact key n 0 (by omega)
theorem fillStep (f : α → β) (z : β) (l : List α) (i : Nat) (hi : i < l.length) :
 ((l.take i).map f ++ List.replicate (l.length - i) z).set i (f l[i]) = (l.take (i + 1)).map f ++ List.replicate (l.length - (i + 1)) z := by
 have h1 : ((l.take i).map f).length = i := by simp; omega
 rw [show l.length - i = (l.length - (i + 1)) + 1 by omega, List.replicate_succ, List.set_append_right _ _ (by omega), h1, Nat.sub_self, List.set_cons_zero,
  List.take_succ_eq_append_getElem hi, List.map_append, List.append_assoc]
 rfl
theorem takeSnoc (l : List α) (i : Nat) (hi : i < l.length) : l.take (i + 1) = l.take i ++ [l[i]] := List.take_succ_eq_append_getElem hi
theorem ci (i : Nat) : (i : Int) + 1 = ((i + 1 : Nat) : Int) := by omega
theorem sizeApp (a b : ByteArray) : (a ++ b).size = a.size + b.size := ByteArray.size_append
end

theorem okI64 {n : Int} (h : (Lit.int .i64 n).wf = true) : -9223372036854775808 ≤ n ∧ n ≤ 9223372036854775807 := by
 simp [Lit.wf, IntKind.min, IntKind.max, IntKind.signed, IntKind.bits] at h
 omega
end Go.Proofs.YtdlapahfmfhbjaaDoor.Kit

namespace Go.Proofs.YtdlapahfmfhbjaaDoor.DigestEq
open Go.RowKit Go.Proofs.YtdlapahfmfhbjaaDoorW.PrintWords Go.Proofs.YtdlapahfmfhbjaaDoorW.PrintLast Go.Proofs.YtdlapahfmfhbjaaDoorW.PrintMore Go.Proofs.YtdlapahfmfhbjaaDoor.Kit Go.Proofs.YtdlapahfmfhbjaaDoor.PA
open Go.Proofs.YtdlapahfmfhbjaaDoor.PH (hs hs_len padS padS_size blocks f4 f4_len padBytes padZ hFirst shaB shaB_len outs strOfNums_size)
set_option linter.unusedVariables false
theorem strApp (a b : List Int) : strOfNums (a ++ b) = strOfNums a ++ strOfNums b := by
 apply ByteArray.ext
 simp [strOfNums]
theorem strBytes (s : ByteArray) : strOfNums (bytesOf s) = s := by
 apply ByteArray.ext
 apply Array.ext'
 simp [strOfNums, bytesOf, Function.comp_def]
theorem hi8 (N : Int) : (List.range 8).map (fun q => N / 2 ^ (8 * (7 - q)) % 256) = f4 (N / 4294967296) ++ f4 N := by
 have h0 : N / 72057594037927936 % 256 = N / 4294967296 / 16777216 % 256 := by omega
 have h1 : N / 281474976710656 % 256 = N / 4294967296 / 65536 % 256 := by omega
 have h2 : N / 1099511627776 % 256 = N / 4294967296 / 256 % 256 := by omega
 simp [List.range, List.range.loop, f4, h0, h1, h2]
theorem padEq (a0 : ByteArray) (hb : a0.size ≤ 1073741824) : impl_PadText.f a0 = some (padS a0) := by
 have e : Int.tmod (wrap64 (64 - (Int.tmod (wrap64 ((a0.size : Int) + 9)) 64))) 64 = (padZ a0.size : Int) := by
  have c1 : Int.tmod ((a0.size : Int) + 9) 64 = ((a0.size : Int) + 9) % 64 := Int.tmod_eq_emod_of_nonneg (by omega)
  rw [w64 (x := (a0.size : Int) + 9) (by omega) (by omega), c1, w64 (by omega) (by omega)]
  have c2 : Int.tmod (64 - ((a0.size : Int) + 9) % 64) 64 = (64 - ((a0.size : Int) + 9) % 64) % 64 := Int.tmod_eq_emod_of_nonneg (by omega)
  rw [c2]
  unfold padZ
  omega
 have hz : padZ a0.size < 64 := by unfold padZ; omega
 have e8 : wrap64 (8 * (a0.size : Int)) = 8 * (a0.size : Int) := w64 (by omega) (by omega)
 unfold impl_PadText.f impl_four.f
 rw [e, e8, if_pos (by omega), if_pos (by omega), if_pos (by omega)]
 simp only [Option.bind_some, Int.toNat_natCast]
 have s1 : (a0 ++ (⟨#[128]⟩ : ByteArray)).size = a0.size + 1 := by rw [ByteArray.size_append]; rfl
 have s2 : (strOfNums (List.replicate (padZ a0.size) 0)).size = padZ a0.size := by rw [strOfNums_size, List.length_replicate]
 have s3 (x : Int) : (strOfNums [x / 16777216 % 256, x / 65536 % 256, x / 256 % 256, x % 256]).size = 4 := by rw [strOfNums_size]; rfl
 rw [if_pos (by rw [s1, s2]; omega), if_pos (by rw [ByteArray.size_append, s1, s2, s3]; omega), if_pos (by rw [ByteArray.size_append, ByteArray.size_append, s1, s2, s3, s3]; omega)]
 unfold padS padBytes
 have c (l : List Int) : strOfNums (128 :: l) = (⟨#[128]⟩ : ByteArray) ++ strOfNums l := strApp [128] l
 rw [hi8, strApp, c, strApp, strApp, strBytes]
 simp only [← ByteArray.append_assoc]
 rfl
theorem half_first : ∀ x ∈ hFirst, 0 ≤ x ∧ x ≤ 4294967295 := by decide
theorem half_sha (l : List Int) (t : ByteArray) (h : l.length = 8) : ∀ x ∈ shaB l t, 0 ≤ x ∧ x ≤ 4294967295 := by
 intro x hx
 unfold PH.shaB PH.outs at hx
 rw [List.drop_of_length_le (by omega), List.append_nil] at hx
 obtain ⟨i, _, rfl⟩ := List.mem_map.1 hx
 constructor <;> omega
theorem half_hs (p : ByteArray) : ∀ j, ∀ x ∈ hs p j, 0 ≤ x ∧ x ≤ 4294967295
 | 0 => half_first
 | j + 1 => half_sha _ _ (hs_len p j)
theorem rdS (l : List Int) (i : Nat) (hi : i < l.length) : rd l (i : Int) = l[i] := by simp [rd, hi]
theorem ev_out (s : List Int) (h : s.length = 8) : Ev (fun k => impl_Digest.l1 k (⟨#[]⟩ : ByteArray) s (s.length : Int) 0) (strOfNums (s.flatMap f4)) := by
 have key := evUp (r := strOfNums (s.flatMap f4)) 8 (fun i k => impl_Digest.l1 k (strOfNums ((s.take i).flatMap f4)) s (s.length : Int) (i : Int)) ?_ ?_
 ·exact key
 ·intro i hi ih
  refine evSucc ?_
  simp only [impl_Digest.l1]
  have hsz : (strOfNums ((s.take i).flatMap f4)).size = 4 * i := by rw [strOfNums_size, f4_len, List.length_take]; omega
  refine evPos (by omega) (evPos (by omega) (evPos (by omega) (evBindS (a := strOfNums (f4 s[i])) (by rw [rdS s i (by omega)]; rfl) (evPos (by rw [hsz, strOfNums_size]; simp [f4]; omega) ?_))))
  rw [w64 (by omega) (by omega), ci, ← strApp]
  have e : (s.take i).flatMap f4 ++ f4 s[i] = (s.take (i + 1)).flatMap f4 := by
   rw [List.take_succ_eq_append_getElem (by omega), List.flatMap_append]; simp
  rw [e]
  exact ih
 ·refine evSucc ?_
  simp only [impl_Digest.l1]
  refine evNeg (by omega) (evEq (Ev.now _) ?_)
  rw [List.take_of_length_le (by omega)]
def dig (a0 : ByteArray) : ByteArray := strOfNums ((hs (padS a0) (blocks a0.size)).flatMap f4)
theorem dig_spec (a0 : ByteArray) (hb : a0.size ≤ 1073741824) : spec_Digest.f a0 = some (dig a0) := by
 unfold spec_Digest.f; rw [if_pos hb]; rfl
theorem dig_impl (a0 : ByteArray) (hb : a0.size ≤ 1073741824) : Ev (fun k => impl_Digest.f k a0) (dig a0) := by
 simp only [impl_Digest.f]
 refine evBindS (padEq a0 hb) (evBindS (a := hFirst) rfl ?_)
 have hp := padS_size a0
 have hn : blocks a0.size ≤ 16777218 := by unfold PH.blocks; omega
 unfold dig
 generalize blocks a0.size = nb at hp hn ⊢
 generalize padS a0 = p at hp ⊢
 have key := evUp (r := strOfNums ((hs p nb).flatMap f4)) nb (fun i k => impl_Digest.l0 k p (hs p i) (64 * (i : Int))) ?_ ?_
 ·exact key
 ·intro i hi ih
  refine evSucc ?_
  simp only [impl_Digest.l0]
  have hw : wrap64 (64 * (i : Int) + 64) = 64 * (i : Int) + 64 := w64 (by omega) (by omega)
  rw [hw]
  refine evPos (by omega) (evPos (by omega) (evPos (by omega) (evPos (by omega) (evBindS (a := hs p (i + 1)) ?_ ?_))))
  ·rw [show (64 * (i : Int)).toNat = 64 * i by omega, show (64 * (i : Int) + 64).toNat = 64 * i + 64 by omega]
   unfold impl_ShaBlock.f
   rw [if_pos ⟨hs_len p i, by rw [ByteArray.size_extract]; omega, half_hs p i⟩]
   rfl
  ·rw [show 64 * (i : Int) + 64 = 64 * ((i + 1 : Nat) : Int) by omega]
   exact ih
 ·refine evSucc ?_
  simp only [impl_Digest.l0]
  exact evNeg (by omega) (ev_out _ (hs_len p nb))
end Go.Proofs.YtdlapahfmfhbjaaDoor.DigestEq
