/- Contracts of functions of the program and of the reference, and plain lemmas on what they compute: a part of the proof of the law FnSegmentsTold. No condition. -/
import Derived.Test.YtdlapahfmfhbjaaDoorG523dfx0
import Derived.Test.YtdlapahfmfhbjaaDoorGe902ex0
import Derived.Test.YtdlapahfmfhbjaaDoorJFnSegmentsTold1
import Derived.Test.YtdlapahfmfhbjaaDoorJFnSegmentsTold2
import Derived.Test.YtdlapahfmfhbjaaDoorJFnSegmentsTold3
import Derived.Test.YtdlapahfmfhbjaaDoorJFnSegmentsTold4
import Derived.Test.YtdlapahfmfhbjaaDoorJFnSegmentsTold5
import Derived.Test.YtdlapahfmfhbjaaDoorV0
import Derived.ChangeArms
import Derived.ChangeOld
import Derived.WideShapes
import Derived.OpenShut
import Derived.DataElems
import Derived.Test.YtdlapahfmfhbjaaDoorG523dfx1
import Derived.Test.YtdlapahfmfhbjaaDoorShortV
set_option maxHeartbeats 8000000
set_option maxRecDepth 100000
namespace Go.Proofs.YtdlapahfmfhbjaaDoor.PA
open Go.RowKit Go.Proofs.YtdlapahfmfhbjaaDoor.Short Go.Proofs.YtdlapahfmfhbjaaDoorW.PrintWords Go.Proofs.YtdlapahfmfhbjaaDoorW.PrintLast Go.Proofs.YtdlapahfmfhbjaaDoorW.PrintMore
attribute [local go_sem] max2_int min2_int max_two min_two max_three min_three max_four min_four   -- for this text's walks alone
set_option linter.unusedVariables false
set_option linter.unusedSimpArgs false

def laws_FnSegmentsTold.f (k : Nat) (l0 : List Int) : Option (Bool) := (laws_big.f l0).bind fun t1195 => (if t1195 = true then (some true) else ((spec_DrawHeadFrom.f k l0).bind fun bt1196 => ((spec_DrawCutLog.f k l0).bind fun bt1200 => ((impl_CutLog.f k bt1200.1 bt1200.2).bind fun bt1204 => ((spec_CutLog.f k bt1200.1 bt1200.2).bind fun bt1208 => ((spec_DrawSegmentText.f k l0).bind fun bt1212 => ((impl_SegmentText.f k bt1212.1 bt1212.2.1 bt1212.2.2.1 bt1212.2.2.2).bind fun bt1219 => ((spec_SegmentText.f k bt1212.1 bt1212.2.1 bt1212.2.2.1 bt1212.2.2.2).bind fun bt1221 => ((spec_DrawReadSegment.f k l0).bind fun t1223 => ((impl_ReadSegment.f k t1223).bind fun bt1224 => ((spec_ReadSegment.f k t1223).bind fun bt1232 => ((spec_DrawJoinSegments.f k l0).bind fun t1240 => ((impl_JoinSegments.f k t1240).bind fun bt1243 => ((spec_JoinSegments.f k t1240).bind fun bt1247 => ((impl_HeadFrom.f k bt1196.1 bt1196.2).bind fun t1251 => ((spec_HeadFrom.f k bt1196.1 bt1196.2).bind fun t1252 => (if t1251.toList = t1252.toList then (if (bt1204.2 == bt1208.2) = true then ((laws_sameSegments.f k bt1204.1 bt1208.1).bind fun t1253 => (if t1253 = true then (if bt1219.1.toList = bt1221.1.toList then (if (bt1219.2 == bt1221.2) = true then (if (bt1224.2.2.2.2 == bt1232.2.2.2.2) = true then ((laws_sameSegment.f k bt1224.1 bt1224.2.1 bt1224.2.2.1 bt1224.2.2.2.1 bt1232.1 bt1232.2.1 bt1232.2.2.1 bt1232.2.2.2.1).bind fun t1254 => (if t1254 = true then (if (bt1243.2 == bt1247.2) = true then ((laws_sameEntries.f k bt1243.1 bt1247.1).bind fun t1255 => (if t1255 = true then ((impl_SegmentOk.f k bt1212.1 bt1212.2.1 bt1212.2.2.1 bt1212.2.2.2).bind fun t1256 => ((spec_SegmentOk.f k bt1212.1 bt1212.2.1 bt1212.2.2.1 bt1212.2.2.2).bind fun t1257 => (some (t1256 == t1257)))) else (some false))) else (some false)) else (some false))) else (some false)) else (some false)) else (some false)) else (some false))) else (some false)) else (some false))))))))))))))))))
theorem laws_FnSegmentsTold.mono : ∀ a0 k, LeO (laws_FnSegmentsTold.f k a0) (laws_FnSegmentsTold.f (k + 1) a0) := by
 intro a0 k
 unfold laws_FnSegmentsTold.f
 have m0 := @impl_CutLog.mono
 have m1 := @impl_HeadFrom.mono
 have m2 := @impl_JoinSegments.mono
 have m3 := @impl_ReadSegment.mono
 have m4 := @impl_SegmentOk.mono
 have m5 := @impl_SegmentText.mono
 have m6 := @laws_sameEntries.mono
 have m7 := @laws_sameSegment.mono
 have m8 := @laws_sameSegments.mono
 have m9 := @spec_CutLog.mono
 have m10 := @spec_DrawCutLog.mono
 have m11 := @spec_DrawHeadFrom.mono
 have m12 := @spec_DrawJoinSegments.mono
 have m13 := @spec_DrawReadSegment.mono
 have m14 := @spec_DrawSegmentText.mono
 have m15 := @spec_HeadFrom.mono
 have m16 := @spec_JoinSegments.mono
 have m17 := @spec_ReadSegment.mono
 have m18 := @spec_SegmentOk.mono
 have m19 := @spec_SegmentText.mono
 exact mo_
def laws_FnSegmentsTold.T16 : Bool × List (List Nat × List Nat) := (true, [([], []), ([], []), ([0, 1], [0, 1]), ([], []), ([], []), ([3, 4, 2], [3, 4]), ([2, 5], [2, 5]), ([6, 5], [6]), ([7], [7]), ([7], [7]), ([8, 9, 7], [7, 8, 9]), ([7, 10], [7, 10]), ([11, 7], [11]), ([12], [12]), ([12], [12]), ([13, 14, 12, 12], [12, 13, 14]), ([12, 15], [12, 15]), ([16, 15], [16]), ([17], [17]), ([17], [17]), ([18, 19, 17], [17, 18, 19]), ([17, 20], [17, 20]), ([21, 17], [21]), ([22], [22]), ([22], [22]), ([23, 24, 22], [22, 23, 24]), ([22, 25], [22, 25]), ([26, 22], [26]), ([27], [27]), ([27], [27]), ([28, 29, 27], [27, 28, 29]), ([27, 30], [27, 30]), ([31, 27], [31]), ([32], [32]), ([32], [32]), ([33, 34, 32, 32], [32, 33, 34]), ([32, 35], [32, 35]), ([36, 35], [36]), ([37], [37]), ([37], [37]), ([38, 39, 37], [37, 38, 39]), ([37, 40], [37, 40]), ([41, 37], [41]), ([42], [42]), ([42], [42]), ([43, 44, 42, 42], [42, 43, 44]), ([42, 45], [42, 45]), ([46, 45], [46]), ([47], [47]), ([48, 47, 47], [47, 48]), ([47], [47]), ([50, 49, 47], [47, 50]), ([49, 51, 47], [47, 49, 51]), ([47, 52], [47, 52]), ([53, 51, 0, 1, 2, 3, 4, 5, 6, 7, 8, 9, 10, 11, 12, 13, 14, 15, 16, 17, 18, 19, 20, 21, 22, 23, 24, 25, 26, 27, 28, 29, 30, 31, 32, 33, 34, 35, 36, 37, 38, 39, 40, 41, 42, 43, 44, 45, 46, 47, 48, 49, 50, 51, 52, 53], [53])])
def laws_FnSegmentsTold.B16 : List Nat := [0, 0, 3, 0, 0, 31, 63, 127, 255, 255, 1023, 2047, 4095, 8191, 8191, 32767, 65535, 131071, 262143, 262143, 1048575, 2097151, 4194303, 8388607, 8388607, 33554431, 67108863, 134217727, 268435455, 268435455, 1073741823, 2147483647, 4294967295, 8589934591, 8589934591, 34359738367, 68719476735, 137438953471, 274877906943, 274877906943, 1099511627775, 2199023255551, 4398046511103, 8796093022207, 8796093022207, 35184372088831, 70368744177663, 140737488355327, 281474976710655, 562949953421311, 281474976710655, 2251799813685247, 4503599627370495, 9007199254740991, 18014398509481983]
theorem laws_FnSegmentsTold.tab16 : rtab .any (opsOf Tryd.f5 16) = laws_FnSegmentsTold.T16 := by kernel_rfl
theorem laws_FnSegmentsTold.bits16 : waitsOk laws_FnSegmentsTold.T16.2 laws_FnSegmentsTold.B16 = true := by kernel_rfl
theorem laws_FnSegmentsTold.calls (k : Nat) (A0 : Option Addr) (c0 : Nat) (l0 : List Int) (r : Bool) (w : World) (hr0 : Kd.C (Kd.int .u8) w A0 l0.length l0) (hc0 : l0.length ≤ c0) (hT : Tab w) (hr1 : r = true) (h : laws_FnSegmentsTold.f k l0 = some r) :
 Calls Tryd.prog 5 #[.slice A0 l0.length c0] w fun e w' => e = .returned (.bool r) ∧ Below w.heap.size w w' := by
 have hu58 := Tryd.underlying58
 have HR0 := Aside0.mk hr0
 have HC0 := Aside0.mk hc0
 clear hr0 hc0
 have HT := Aside0.mk hT
 clear hT
 have HR1 := Aside0.mk hr1
 clear hr1
 have HB := Aside0.mk (Below.refl w.heap.size w)
 have H := h
 unfold laws_FnSegmentsTold.f at H
 clear h
 replace H := bs_ H
 obtain ⟨t1195, A2, H⟩ := H
 try dsimp only at H
 by_cases c3 : t1195 = true
 ·subst c3
  rw [if_pos rfl] at H
  obtain rfl := Option.some.inj H
  go_enter Tryd.func5, Tryd.ntmps5
  go_wp2_with (first | ((with_reducible refine gate_callee (f := 6) rfl ?_); refine gs_ (some 27) Tryd.func6 #[.slice A0 l0.length c0] ?_; (with_reducible refine (laws_big.calls _ _ l0 true _ ?side1 ?side2 A2.out).mono ?_); (case side1 => exact cs_ HR0.out); (case side2 => exact HC0.out); rintro e w' ⟨rfl, ⟨nd, rfl⟩⟩; refine ⟨_, rfl, ?_⟩))
  go_ret
  exact ⟨er_, bl_⟩
 replace c3 := Bool.eq_false_iff.mpr c3
 subst c3
 rw [nf_] at H
 replace H := bs_ H
 obtain ⟨⟨t1196, t1197⟩, A4, H⟩ := H
 try dsimp only at H
 replace H := bs_ H
 obtain ⟨⟨t1200, t1201⟩, A5, H⟩ := H
 try dsimp only at H
 replace H := bs_ H
 obtain ⟨⟨t1204, t1205⟩, A6, H⟩ := H
 try dsimp only at H
 replace H := bs_ H
 obtain ⟨⟨t1208, t1209⟩, A7, H⟩ := H
 try dsimp only at H
 replace H := bs_ H
 obtain ⟨⟨t1212, t1213, t1214, t1217⟩, A8, H⟩ := H
 try dsimp only at H
 replace H := bs_ H
 obtain ⟨⟨t1219, t1220⟩, A9, H⟩ := H
 try dsimp only at H
 replace H := bs_ H
 obtain ⟨⟨t1221, t1222⟩, A10, H⟩ := H
 try dsimp only at H
 replace H := bs_ H
 obtain ⟨t1223, A11, H⟩ := H
 try dsimp only at H
 replace H := bs_ H
 obtain ⟨⟨t1224, t1225, t1226, t1229, t1230⟩, A12, H⟩ := H
 try dsimp only at H
 replace H := bs_ H
 obtain ⟨⟨t1232, t1233, t1234, t1237, t1238⟩, A13, H⟩ := H
 try dsimp only at H
 replace H := bs_ H
 obtain ⟨t1240, A14, H⟩ := H
 try dsimp only at H
 replace H := bs_ H
 obtain ⟨⟨t1243, t1244⟩, A15, H⟩ := H
 try dsimp only at H
 replace H := bs_ H
 obtain ⟨⟨t1247, t1248⟩, A16, H⟩ := H
 try dsimp only at H
 replace H := bs_ H
 obtain ⟨t1251, A17, H⟩ := H
 try dsimp only at H
 replace H := bs_ H
 obtain ⟨t1252, A18, H⟩ := H
 try dsimp only at H
 by_cases c19 : t1251.toList = t1252.toList
 rotate_left
 ·rw [if_neg c19] at H
  have c19b0 : (t1251.toList == t1252.toList) = false := beq_eq_false_iff_ne.mpr c19
  have c19b1 : (t1251.toList != t1252.toList) = true := bne_iff_ne.mpr c19
  exact absurd ((Option.some.inj H).trans HR1.out) (by decide)
 rw [if_pos c19] at H
 have c19b0 : (t1251.toList == t1252.toList) = true := beq_iff_eq.mpr c19
 have c19b1 : (t1251.toList != t1252.toList) = false := bne_eq_false_iff_eq.mpr c19
 clear c19
 by_cases c20 : (t1205 == t1209) = true
 rotate_left
 ·rw [if_neg c20] at H
  have c20b0 : (t1205 == t1209) = false := by simpa using c20
  (try (have c20b1 : decide (t1205 = t1209) = false := by simpa using c20))
  (try (have c20b2 : (t1205 == t1209) = false := by simpa using c20))
  (try (have c20b3 : ¬ (t1205 = t1209) := by simpa using c20))
  clear c20
  exact absurd ((Option.some.inj H).trans HR1.out) (by decide)
 rw [if_pos c20] at H
 have c20b0 : (t1205 == t1209) = true := c20
 (try (have c20b1 : decide (t1205 = t1209) = true := by simpa using c20))
 (try (have c20b2 : (t1205 == t1209) = true := by simpa using c20))
 clear c20
 replace H := bs_ H
 obtain ⟨t1253, A21, H⟩ := H
 try dsimp only at H
 by_cases c22 : t1253 = true
 rotate_left
 ·replace c22 := Bool.eq_false_iff.mpr c22
  subst c22
  rw [nf_] at H
  exact absurd ((Option.some.inj H).trans HR1.out) (by decide)
 subst c22
 rw [if_pos rfl] at H
 by_cases c23 : t1219.toList = t1221.toList
 rotate_left
 ·rw [if_neg c23] at H
  have c23b0 : (t1219.toList == t1221.toList) = false := beq_eq_false_iff_ne.mpr c23
  have c23b1 : (t1219.toList != t1221.toList) = true := bne_iff_ne.mpr c23
  exact absurd ((Option.some.inj H).trans HR1.out) (by decide)
 rw [if_pos c23] at H
 have c23b0 : (t1219.toList == t1221.toList) = true := beq_iff_eq.mpr c23
 have c23b1 : (t1219.toList != t1221.toList) = false := bne_eq_false_iff_eq.mpr c23
 clear c23
 by_cases c24 : (t1220 == t1222) = true
 rotate_left
 ·rw [if_neg c24] at H
  have c24b0 : (t1220 == t1222) = false := by simpa using c24
  (try (have c24b1 : decide (t1220 = t1222) = false := by simpa using c24))
  (try (have c24b2 : (t1220 == t1222) = false := by simpa using c24))
  (try (have c24b3 : ¬ (t1220 = t1222) := by simpa using c24))
  clear c24
  exact absurd ((Option.some.inj H).trans HR1.out) (by decide)
 rw [if_pos c24] at H
 have c24b0 : (t1220 == t1222) = true := c24
 (try (have c24b1 : decide (t1220 = t1222) = true := by simpa using c24))
 (try (have c24b2 : (t1220 == t1222) = true := by simpa using c24))
 clear c24
 by_cases c25 : (t1230 == t1238) = true
 rotate_left
 ·rw [if_neg c25] at H
  have c25b0 : (t1230 == t1238) = false := by simpa using c25
  (try (have c25b1 : decide (t1230 = t1238) = false := by simpa using c25))
  (try (have c25b2 : (t1230 == t1238) = false := by simpa using c25))
  (try (have c25b3 : ¬ (t1230 = t1238) := by simpa using c25))
  clear c25
  exact absurd ((Option.some.inj H).trans HR1.out) (by decide)
 rw [if_pos c25] at H
 have c25b0 : (t1230 == t1238) = true := c25
 (try (have c25b1 : decide (t1230 = t1238) = true := by simpa using c25))
 (try (have c25b2 : (t1230 == t1238) = true := by simpa using c25))
 clear c25
 replace H := bs_ H
 obtain ⟨t1254, A26, H⟩ := H
 try dsimp only at H
 by_cases c27 : t1254 = true
 rotate_left
 ·replace c27 := Bool.eq_false_iff.mpr c27
  subst c27
  rw [nf_] at H
  exact absurd ((Option.some.inj H).trans HR1.out) (by decide)
 subst c27
 rw [if_pos rfl] at H
 by_cases c28 : (t1244 == t1248) = true
 rotate_left
 ·rw [if_neg c28] at H
  have c28b0 : (t1244 == t1248) = false := by simpa using c28
  (try (have c28b1 : decide (t1244 = t1248) = false := by simpa using c28))
  (try (have c28b2 : (t1244 == t1248) = false := by simpa using c28))
  (try (have c28b3 : ¬ (t1244 = t1248) := by simpa using c28))
  clear c28
  exact absurd ((Option.some.inj H).trans HR1.out) (by decide)
 rw [if_pos c28] at H
 have c28b0 : (t1244 == t1248) = true := c28
 (try (have c28b1 : decide (t1244 = t1248) = true := by simpa using c28))
 (try (have c28b2 : (t1244 == t1248) = true := by simpa using c28))
 clear c28
 replace H := bs_ H
 obtain ⟨t1255, A29, H⟩ := H
 try dsimp only at H
 by_cases c30 : t1255 = true
 rotate_left
 ·replace c30 := Bool.eq_false_iff.mpr c30
  subst c30
  rw [nf_] at H
  exact absurd ((Option.some.inj H).trans HR1.out) (by decide)
 subst c30
 rw [if_pos rfl] at H
 replace H := bs_ H
 obtain ⟨t1256, A31, H⟩ := H
 try dsimp only at H
 replace H := bs_ H
 obtain ⟨t1257, A32, H⟩ := H
 try dsimp only at H
 obtain rfl := Option.some.inj H
 go_enter Tryd.func5, Tryd.ntmps5
 try go_wp2_with (first | ((with_reducible refine gate_callee (f := 6) rfl ?_); refine gs_ (some 27) Tryd.func6 #[.slice A0 l0.length c0] ?_; (with_reducible refine (laws_big.calls _ _ l0 false _ ?side1 ?side2 A2.out).mono ?_); (case side1 => exact cs_ HR0.out); (case side2 => exact HC0.out); rintro e w' ⟨rfl, ⟨nd, rfl⟩⟩; refine ⟨_, rfl, ?_⟩) | ((with_reducible refine gate_callee (f := 38) rfl ?_); refine gs_ (some 30) Tryd.func38 #[.slice A0 l0.length c0] ?_; (with_reducible refine (spec_DrawHeadFrom.calls k _ _ l0 t1196 t1197 _ ?side1 ?side2 A4.out).mono ?_); (case side1 => exact cs_ HR0.out); (case side2 => exact HC0.out); rintro e w33 ⟨v1198, rfl, ho0, hb⟩; refine ⟨_, rfl, ?_⟩; have HO1199 := Aside0.mk (Kd.R_lower ho0 (below_size bl_)); replace HB := Aside0.mk (below_step bl_ hb); (try clear hb); (try clear ho0)) | ((with_reducible refine gate_callee (f := 39) rfl ?_); refine gs_ (some 35) Tryd.func39 #[.slice A0 l0.length c0] ?_; (with_reducible refine (spec_DrawCutLog.calls k _ _ l0 t1200 t1201 _ ?side1 ?side2 A5.out).mono ?_); (case side1 => exact cb_ HR0.out HB.out); (case side2 => exact HC0.out); rintro e w34 ⟨v1202, rfl, ho0, hb⟩; refine ⟨_, rfl, ?_⟩; have HO1203 := Aside0.mk (Kd.R_lower (Kd.R_new' ho0 (Kd.R_lt (ra_ HO1199.out))) (below_size bl_)); replace HO1199 := Aside0.mk (Kd.R_elder' (ra_ HO1199.out) (Kd.R_base ho0) hb); replace HB := Aside0.mk (below_step bl_ hb); (try clear hb); (try clear ho0); obtain ⟨Ao35, co35, eo35⟩ := Kd.R_slice HO1203.out; subst eo35) | ((with_reducible refine gate_callee (f := 40) rfl ?_); refine gs_ (some 41) Tryd.func40 #[.slice Ao35 t1200.length co35, .int .i64 t1201] ?_; (with_reducible refine (impl_CutLog.calls k _ _ t1200 t1201 t1204 t1205 _ ?side1 ?side2 ?side3 A6.out).mono ?_); (case side1 => exact cs_ ((Kd.R_reads' HO1203.out).2.2)); (case side2 => exact (Kd.R_reads' HO1203.out).2.1); (case side3 => exact tab_of HT.out bl_); rintro e w36 ⟨v1206, rfl, ho0, hb⟩; refine ⟨_, rfl, ?_⟩; have HO1207 := Aside0.mk (Kd.S_lower (Kd.S_new' (Kd.S_new' ho0 (Kd.R_lt (ra_ HO1199.out))) (Kd.R_lt (ra_ HO1203.out))) (below_size bl_)); replace HO1199 := Aside0.mk (Kd.R_below (ra_ HO1199.out) hb); replace HO1203 := Aside0.mk (Kd.R_below (ra_ HO1203.out) hb); replace HB := Aside0.mk (below_step bl_ hb); (try clear hb); (try clear ho0)) | ((with_reducible refine gate_callee (f := 41) rfl ?_); refine gs_ (some 47) Tryd.func41 #[.slice Ao35 t1200.length co35, .int .i64 t1201] ?_; (with_reducible refine (spec_CutLog.calls k _ _ t1200 t1201 t1208 t1209 _ ?side1 ?side2 A7.out).mono ?_); (case side1 => exact cs_ ((Kd.R_reads' HO1203.out).2.2)); (case side2 => exact (Kd.R_reads' HO1203.out).2.1); rintro e w37 ⟨v1210, rfl, ho0, hb⟩; refine ⟨_, rfl, ?_⟩; have HO1211 := Aside0.mk (Kd.S_lower (Kd.S_new' (Kd.S_new' (Kd.S_new' ho0 (Kd.R_lt (ra_ HO1199.out))) (Kd.R_lt (ra_ HO1203.out))) (Kd.S_lt (by (with_reducible repeat (first | apply Kd.S_alloc | apply Kd.S_drewN | apply Kd.S_drew)); exact HO1207.out))) (below_size bl_)); replace HO1199 := Aside0.mk (Kd.R_below (ra_ HO1199.out) hb); replace HO1203 := Aside0.mk (Kd.R_below (ra_ HO1203.out) hb); replace HO1207 := Aside0.mk (Kd.S_elder' (by (with_reducible repeat (first | apply Kd.S_alloc | apply Kd.S_drewN | apply Kd.S_drew)); exact HO1207.out) (Kd.S_base ho0) hb); replace HB := Aside0.mk (below_step bl_ hb); (try clear hb); (try clear ho0)) | ((with_reducible refine gate_callee (f := 42) rfl ?_); refine gs_ (some 51) Tryd.func42 #[.slice A0 l0.length c0] ?_; (with_reducible refine (spec_DrawSegmentText.calls k _ _ l0 t1212 t1213 t1214 t1217 _ ?side1 ?side2 A8.out).mono ?_); (case side1 => exact cb_ HR0.out HB.out); (case side2 => exact HC0.out); rintro e w38 ⟨v1215, rfl, ho0, hb⟩; refine ⟨_, rfl, ?_⟩; replace HO1207 := Aside0.mk (Kd.S_elder' (by (with_reducible repeat (first | apply Kd.S_alloc | apply Kd.S_drewN | apply Kd.S_drew)); exact HO1207.out) (Kd.R_base ho0) hb); replace HO1211 := Aside0.mk (Kd.S_elder' (by (with_reducible repeat (first | apply Kd.S_alloc | apply Kd.S_drewN | apply Kd.S_drew)); exact HO1211.out) (Kd.R_base ho0) hb); have HO1216 := Aside0.mk (Kd.R_lower (Kd.R_new' (Kd.R_new' ho0 (Kd.R_lt (ra_ HO1199.out))) (Kd.R_lt (ra_ HO1203.out))) (below_size bl_)); replace HO1199 := Aside0.mk (Kd.R_elder' (ra_ HO1199.out) (Kd.R_base ho0) hb); replace HO1203 := Aside0.mk (Kd.R_elder' (ra_ HO1203.out) (Kd.R_base ho0) hb); replace HB := Aside0.mk (below_step bl_ hb); (try clear hb); (try clear ho0)) | ((with_reducible refine gate_dst (N := 11) rfl ?_); refine bx_ 11 58 #[.int .i64 0, .string (⟨#[]⟩ : ByteArray), .slice none 0 0, .string (⟨#[]⟩ : ByteArray)] ?_; intro gb1218 hg w39 hbox hb; replace HO1199 := Aside0.mk (Kd.R_below (ra_ HO1199.out) hb); replace HO1203 := Aside0.mk (Kd.R_below (ra_ HO1203.out) hb); replace HO1207 := Aside0.mk (Kd.S_below (Kd.S_elderB (by (with_reducible repeat (first | apply Kd.S_alloc | apply Kd.S_drewN | apply Kd.S_drew)); exact HO1207.out) gb1218 (Nat.le_of_eq hg.symm)) hb); replace HO1211 := Aside0.mk (Kd.S_below (Kd.S_elderB (by (with_reducible repeat (first | apply Kd.S_alloc | apply Kd.S_drewN | apply Kd.S_drew)); exact HO1211.out) gb1218 (Nat.le_of_eq hg.symm)) hb); replace HO1216 := Aside0.mk (Kd.R_below (ra_ HO1216.out) hb); have BK1218 := Aside0.mk (hbox); have GW1218 := Aside0.mk ((hz_ : w.heap.size ≤ gb1218)); have GE1218 := Aside0.mk ((hz_ : w.heap.size ≤ gb1218)); replace HB := Aside0.mk (below_step bl_ hb); clear hb hbox hg; obtain ⟨hcz40_0, hcz40_1, hcz40_2, hcz40_3, hfz40_0, hfz40_1, hfz40_2, hfz40_3⟩ := cf4_ BK1218.out; obtain ⟨Ao41, co41, eo41⟩ := Kd.R_slice HO1216.out; subst eo41) | ((with_reducible refine gate_callee (f := 43) rfl ?_); refine gs_ (some 54) Tryd.func43 #[.agg #[.int .i64 t1212, .string t1213, .slice Ao41 t1214.length co41, .string t1217]] ?_; (with_reducible refine (impl_SegmentText.calls k t1212 t1213 _ _ t1214 t1217 t1219 t1220 _ ?side1 ?side2 ?side3 A9.out).mono ?_); (case side1 => refine (Kd.R_reads' (e := 27) (base := w.heap.size) (ok := fun k_ => ((True ∧ some k_ ≠ (v1198 : Value).ownBlock) ∧ some k_ ≠ (.slice Ao35 t1200.length co35 : Value).ownBlock)) (n := t1214.length) (c := co41) ?_).2.2; exact (rfa_ HO1216.out BK1218.out)); (case side2 => exact (Kd.R_reads' HO1216.out).2.1); (case side3 => exact tab_of HT.out bl_); rintro e w42 ⟨rfl, hb⟩; refine ⟨_, rfl, ?_⟩; replace HO1199 := Aside0.mk (Kd.R_below (rfa_ HO1199.out BK1218.out) hb); replace HO1203 := Aside0.mk (Kd.R_below (rfa_ HO1203.out BK1218.out) hb); replace HO1207 := Aside0.mk (Kd.S_below (by (with_reducible repeat (first | apply Kd.S_alloc | apply Kd.S_drewN | apply Kd.S_drew)); exact (Kd.S_mono (Kd.S_far (p := ⟨gb1218, 3, none⟩) (Kd.S_far (p := ⟨gb1218, 2, none⟩) (Kd.S_far (p := ⟨gb1218, 1, none⟩) (Kd.S_far (p := ⟨gb1218, 0, none⟩) (Kd.S_mono HO1207.out (fun k_ hk => (⟨hk, hk.2⟩ : _ ∧ k_ ≠ gb1218))) (fun _ hk => hk.2) (.int .i64 t1212)) (fun _ hk => hk.2) (.string t1213)) (fun _ hk => hk.2) (.slice Ao41 t1214.length co41)) (fun _ hk => hk.2) (.string t1217)) (fun _ h_ => h_.1))) hb); replace HO1211 := Aside0.mk (Kd.S_below (by (with_reducible repeat (first | apply Kd.S_alloc | apply Kd.S_drewN | apply Kd.S_drew)); exact (Kd.S_mono (Kd.S_far (p := ⟨gb1218, 3, none⟩) (Kd.S_far (p := ⟨gb1218, 2, none⟩) (Kd.S_far (p := ⟨gb1218, 1, none⟩) (Kd.S_far (p := ⟨gb1218, 0, none⟩) (Kd.S_mono HO1211.out (fun k_ hk => (⟨hk, hk.2⟩ : _ ∧ k_ ≠ gb1218))) (fun _ hk => hk.2) (.int .i64 t1212)) (fun _ hk => hk.2) (.string t1213)) (fun _ hk => hk.2) (.slice Ao41 t1214.length co41)) (fun _ hk => hk.2) (.string t1217)) (fun _ h_ => h_.1))) hb); replace HO1216 := Aside0.mk (Kd.R_below (rfa_ HO1216.out BK1218.out) hb); replace BK1218 := Aside0.mk (blk_below (g := gb1218) (o := .cells #[.int .i64 t1212, .string t1213, .slice Ao41 t1214.length co41, .string t1217] 58 (0, 0)) (bp0_ BK1218.out) hb); replace HB := Aside0.mk (below_step bl_ hb); (try clear hb); obtain ⟨hcz43_0, hcz43_1, hcz43_2, hcz43_3, hfz43_0, hfz43_1, hfz43_2, hfz43_3⟩ := cf4_ BK1218.out) | ((with_reducible refine gate_callee (f := 44) rfl ?_); refine gs_ (some 59) Tryd.func44 #[.agg #[.int .i64 t1212, .string t1213, .slice Ao41 t1214.length co41, .string t1217]] ?_; (with_reducible refine (spec_SegmentText.calls k t1212 t1213 _ _ t1214 t1217 t1221 t1222 _ ?side1 ?side2 A10.out).mono ?_); (case side1 => exact cs_ ((Kd.R_reads' HO1216.out).2.2)); (case side2 => exact (Kd.R_reads' HO1216.out).2.1); rintro e w44 ⟨rfl, hb⟩; refine ⟨_, rfl, ?_⟩; replace HO1199 := Aside0.mk (Kd.R_below (ra_ HO1199.out) hb); replace HO1203 := Aside0.mk (Kd.R_below (ra_ HO1203.out) hb); replace HO1207 := Aside0.mk (Kd.S_below (by (with_reducible repeat (first | apply Kd.S_alloc | apply Kd.S_drewN | apply Kd.S_drew)); exact HO1207.out) hb); replace HO1211 := Aside0.mk (Kd.S_below (by (with_reducible repeat (first | apply Kd.S_alloc | apply Kd.S_drewN | apply Kd.S_drew)); exact HO1211.out) hb); replace HO1216 := Aside0.mk (Kd.R_below (ra_ HO1216.out) hb); replace BK1218 := Aside0.mk (blk_below (bn0_ BK1218.out) hb); replace HB := Aside0.mk (below_step bl_ hb); (try clear hb)) | ((with_reducible refine gate_callee (f := 45) rfl ?_); refine gs_ (some 63) Tryd.func45 #[.slice A0 l0.length c0] ?_; (with_reducible refine (spec_DrawReadSegment.calls k _ _ l0 t1223 _ ?side1 ?side2 A11.out).mono ?_); (case side1 => exact cb_ HR0.out HB.out); (case side2 => exact HC0.out); rintro e w45 ⟨rfl, hb⟩; refine ⟨_, rfl, ?_⟩; replace HO1199 := Aside0.mk (Kd.R_below (ra_ HO1199.out) hb); replace HO1203 := Aside0.mk (Kd.R_below (ra_ HO1203.out) hb); replace HO1207 := Aside0.mk (Kd.S_below (by (with_reducible repeat (first | apply Kd.S_alloc | apply Kd.S_drewN | apply Kd.S_drew)); exact HO1207.out) hb); replace HO1211 := Aside0.mk (Kd.S_below (by (with_reducible repeat (first | apply Kd.S_alloc | apply Kd.S_drewN | apply Kd.S_drew)); exact HO1211.out) hb); replace HO1216 := Aside0.mk (Kd.R_below (ra_ HO1216.out) hb); replace BK1218 := Aside0.mk (blk_below (bn0_ BK1218.out) hb); replace HB := Aside0.mk (below_step bl_ hb); (try clear hb)) | ((with_reducible refine gate_callee (f := 46) rfl ?_); refine gs_ (some 66) Tryd.func46 #[.string t1223] ?_; (with_reducible refine (impl_ReadSegment.calls k t1223 t1224 t1225 t1226 t1229 t1230 _ ?side1 A12.out).mono ?_); (case side1 => exact tab_of HT.out bl_); rintro e w46 ⟨v1227, rfl, ho0, hb⟩; refine ⟨_, rfl, ?_⟩; replace HO1207 := Aside0.mk (Kd.S_elder' (by (with_reducible repeat (first | apply Kd.S_alloc | apply Kd.S_drewN | apply Kd.S_drew)); exact HO1207.out) (Kd.R_base ho0) hb); replace HO1211 := Aside0.mk (Kd.S_elder' (by (with_reducible repeat (first | apply Kd.S_alloc | apply Kd.S_drewN | apply Kd.S_drew)); exact HO1211.out) (Kd.R_base ho0) hb); have HO1228 := Aside0.mk (Kd.R_lower (Kd.R_new' (Kd.R_new' (Kd.R_new' ho0 (Kd.R_lt (ra_ HO1199.out))) (Kd.R_lt (ra_ HO1203.out))) (Kd.R_lt (ra_ HO1216.out))) (below_size bl_)); replace HO1199 := Aside0.mk (Kd.R_elder' (ra_ HO1199.out) (Kd.R_base ho0) hb); replace HO1203 := Aside0.mk (Kd.R_elder' (ra_ HO1203.out) (Kd.R_base ho0) hb); replace HO1216 := Aside0.mk (Kd.R_elder' (ra_ HO1216.out) (Kd.R_base ho0) hb); replace BK1218 := Aside0.mk (blk_below (bn0_ BK1218.out) hb); replace HB := Aside0.mk (below_step bl_ hb); (try clear hb); (try clear ho0)) | ((with_reducible refine gate_dst (N := 17) rfl ?_); refine bx_ 17 58 #[.int .i64 0, .string (⟨#[]⟩ : ByteArray), .slice none 0 0, .string (⟨#[]⟩ : ByteArray)] ?_; intro gb1231 hg w47 hbox hb; replace HO1199 := Aside0.mk (Kd.R_below (ra_ HO1199.out) hb); replace HO1203 := Aside0.mk (Kd.R_below (ra_ HO1203.out) hb); replace HO1207 := Aside0.mk (Kd.S_below (Kd.S_elderB (by (with_reducible repeat (first | apply Kd.S_alloc | apply Kd.S_drewN | apply Kd.S_drew)); exact HO1207.out) gb1231 (Nat.le_of_eq hg.symm)) hb); replace HO1211 := Aside0.mk (Kd.S_below (Kd.S_elderB (by (with_reducible repeat (first | apply Kd.S_alloc | apply Kd.S_drewN | apply Kd.S_drew)); exact HO1211.out) gb1231 (Nat.le_of_eq hg.symm)) hb); replace HO1216 := Aside0.mk (Kd.R_below (ra_ HO1216.out) hb); replace HO1228 := Aside0.mk (Kd.R_below (ra_ HO1228.out) hb); have BK1231 := Aside0.mk (hbox); have GW1231 := Aside0.mk ((hz_ : w.heap.size ≤ gb1231)); have GE1231 := Aside0.mk ((hz_ : w.heap.size ≤ gb1231)); replace HB := Aside0.mk (below_step bl_ hb); have NB1218_1231 := Aside0.mk ((by rw [hg]; exact Nat.ne_of_lt (blk_lt (g := gb1218) (o := .cells #[.int .i64 t1212, .string t1213, .slice Ao41 t1214.length co41, .string t1217] 58 (0, 0)) (bk_ BK1218.out)) : gb1218 ≠ gb1231)); have NB1231_1218 := Aside0.mk ((by rw [hg]; exact Nat.ne_of_gt (blk_lt (g := gb1218) (o := .cells #[.int .i64 t1212, .string t1213, .slice Ao41 t1214.length co41, .string t1217] 58 (0, 0)) (bk_ BK1218.out)) : gb1231 ≠ gb1218)); replace BK1218 := Aside0.mk (blk_below (bn0_ BK1218.out) hb); clear hb hbox hg; have hnb48 := NB1231_1218.out; have hnc48 := NB1218_1231.out; obtain ⟨hcz49_0, hcz49_1, hcz49_2, hcz49_3, hfz49_0, hfz49_1, hfz49_2, hfz49_3⟩ := cf4_ BK1231.out; obtain ⟨Ao50, co50, eo50⟩ := Kd.R_slice HO1228.out; subst eo50) | ((with_reducible refine gate_callee (f := 47) rfl ?_); refine gs_ (some 71) Tryd.func47 #[.string t1223] ?_; (with_reducible refine (spec_ReadSegment.calls k t1223 t1232 t1233 t1234 t1237 t1238 _ A13.out).mono ?_); rintro e w51 ⟨v1235, rfl, ho0, hb⟩; refine ⟨_, rfl, ?_⟩; replace HO1207 := Aside0.mk (Kd.S_elder' (by (with_reducible repeat (first | apply Kd.S_alloc | apply Kd.S_drewN | apply Kd.S_drew)); exact (Kd.S_mono (Kd.S_far (p := ⟨gb1231, 3, none⟩) (Kd.S_far (p := ⟨gb1231, 2, none⟩) (Kd.S_far (p := ⟨gb1231, 1, none⟩) (Kd.S_far (p := ⟨gb1231, 0, none⟩) (Kd.S_mono HO1207.out (fun k_ hk => (⟨hk, hk.2⟩ : _ ∧ k_ ≠ gb1231))) (fun _ hk => hk.2) (.int .i64 t1224)) (fun _ hk => hk.2) (.string t1225)) (fun _ hk => hk.2) (.slice Ao50 t1226.length co50)) (fun _ hk => hk.2) (.string t1229)) (fun _ h_ => h_.1))) (Kd.R_base ho0) hb); replace HO1211 := Aside0.mk (Kd.S_elder' (by (with_reducible repeat (first | apply Kd.S_alloc | apply Kd.S_drewN | apply Kd.S_drew)); exact (Kd.S_mono (Kd.S_far (p := ⟨gb1231, 3, none⟩) (Kd.S_far (p := ⟨gb1231, 2, none⟩) (Kd.S_far (p := ⟨gb1231, 1, none⟩) (Kd.S_far (p := ⟨gb1231, 0, none⟩) (Kd.S_mono HO1211.out (fun k_ hk => (⟨hk, hk.2⟩ : _ ∧ k_ ≠ gb1231))) (fun _ hk => hk.2) (.int .i64 t1224)) (fun _ hk => hk.2) (.string t1225)) (fun _ hk => hk.2) (.slice Ao50 t1226.length co50)) (fun _ hk => hk.2) (.string t1229)) (fun _ h_ => h_.1))) (Kd.R_base ho0) hb); have HO1236 := Aside0.mk (Kd.R_lower (Kd.R_new' (Kd.R_new' (Kd.R_new' (Kd.R_new' ho0 (Kd.R_lt (rfa_ HO1199.out BK1231.out))) (Kd.R_lt (rfa_ HO1203.out BK1231.out))) (Kd.R_lt (rfa_ HO1216.out BK1231.out))) (Kd.R_lt (rfa_ HO1228.out BK1231.out))) (below_size bl_)); replace HO1199 := Aside0.mk (Kd.R_elder' (rfa_ HO1199.out BK1231.out) (Kd.R_base ho0) hb); replace HO1203 := Aside0.mk (Kd.R_elder' (rfa_ HO1203.out BK1231.out) (Kd.R_base ho0) hb); replace HO1216 := Aside0.mk (Kd.R_elder' (rfa_ HO1216.out BK1231.out) (Kd.R_base ho0) hb); replace HO1228 := Aside0.mk (Kd.R_elder' (rfa_ HO1228.out BK1231.out) (Kd.R_base ho0) hb); replace BK1218 := Aside0.mk (blk_below (bn1_ BK1218.out NB1218_1231.out) hb); replace BK1231 := Aside0.mk (blk_below (g := gb1231) (o := .cells #[.int .i64 t1224, .string t1225, .slice Ao50 t1226.length co50, .string t1229] 58 (0, 0)) (bp0_ BK1231.out) hb); replace HB := Aside0.mk (below_step bl_ hb); (try clear hb); (try clear ho0)) | ((with_reducible refine gate_dst (N := 19) rfl ?_); refine bx_ 19 58 #[.int .i64 0, .string (⟨#[]⟩ : ByteArray), .slice none 0 0, .string (⟨#[]⟩ : ByteArray)] ?_; intro gb1239 hg w52 hbox hb; replace HO1199 := Aside0.mk (Kd.R_below (ra_ HO1199.out) hb); replace HO1203 := Aside0.mk (Kd.R_below (ra_ HO1203.out) hb); replace HO1207 := Aside0.mk (Kd.S_below (Kd.S_elderB (by (with_reducible repeat (first | apply Kd.S_alloc | apply Kd.S_drewN | apply Kd.S_drew)); exact HO1207.out) gb1239 (Nat.le_of_eq hg.symm)) hb); replace HO1211 := Aside0.mk (Kd.S_below (Kd.S_elderB (by (with_reducible repeat (first | apply Kd.S_alloc | apply Kd.S_drewN | apply Kd.S_drew)); exact HO1211.out) gb1239 (Nat.le_of_eq hg.symm)) hb); replace HO1216 := Aside0.mk (Kd.R_below (ra_ HO1216.out) hb); replace HO1228 := Aside0.mk (Kd.R_below (ra_ HO1228.out) hb); replace HO1236 := Aside0.mk (Kd.R_below (ra_ HO1236.out) hb); have BK1239 := Aside0.mk (hbox); have GW1239 := Aside0.mk ((hz_ : w.heap.size ≤ gb1239)); have GE1239 := Aside0.mk ((hz_ : w.heap.size ≤ gb1239)); replace HB := Aside0.mk (below_step bl_ hb); have NB1218_1239 := Aside0.mk ((by rw [hg]; exact Nat.ne_of_lt (blk_lt (g := gb1218) (o := .cells #[.int .i64 t1212, .string t1213, .slice Ao41 t1214.length co41, .string t1217] 58 (0, 0)) (bk_ BK1218.out)) : gb1218 ≠ gb1239)); have NB1239_1218 := Aside0.mk ((by rw [hg]; exact Nat.ne_of_gt (blk_lt (g := gb1218) (o := .cells #[.int .i64 t1212, .string t1213, .slice Ao41 t1214.length co41, .string t1217] 58 (0, 0)) (bk_ BK1218.out)) : gb1239 ≠ gb1218)); replace BK1218 := Aside0.mk (blk_below (bn0_ BK1218.out) hb); have NB1231_1239 := Aside0.mk ((by rw [hg]; exact Nat.ne_of_lt (blk_lt (g := gb1231) (o := .cells #[.int .i64 t1224, .string t1225, .slice Ao50 t1226.length co50, .string t1229] 58 (0, 0)) (bk_ BK1231.out)) : gb1231 ≠ gb1239)); have NB1239_1231 := Aside0.mk ((by rw [hg]; exact Nat.ne_of_gt (blk_lt (g := gb1231) (o := .cells #[.int .i64 t1224, .string t1225, .slice Ao50 t1226.length co50, .string t1229] 58 (0, 0)) (bk_ BK1231.out)) : gb1239 ≠ gb1231)); replace BK1231 := Aside0.mk (blk_below (bn0_ BK1231.out) hb); clear hb hbox hg; have hnb53 := NB1239_1218.out; have hnc53 := NB1218_1239.out; have hnb54 := NB1239_1231.out; have hnc54 := NB1231_1239.out; obtain ⟨hcz55_0, hcz55_1, hcz55_2, hcz55_3, hfz55_0, hfz55_1, hfz55_2, hfz55_3⟩ := cf4_ BK1239.out; obtain ⟨Ao56, co56, eo56⟩ := Kd.R_slice HO1236.out; subst eo56) | ((with_reducible refine gate_callee (f := 48) rfl ?_); refine gs_ (some 75) Tryd.func48 #[.slice A0 l0.length c0] ?_; (with_reducible refine (spec_DrawJoinSegments.calls k _ _ l0 t1240 _ ?side1 ?side2 A14.out).mono ?_); (case side1 => exact Kd.C_below HR0.out bl_); (case side2 => exact HC0.out); rintro e w57 ⟨v1241, rfl, ho0, hb⟩; refine ⟨_, rfl, ?_⟩; have HO1242 := Aside0.mk (Kd.S_lower (Kd.S_newB (Kd.S_newB (Kd.S_newB (Kd.S_new' (Kd.S_new' (Kd.S_new' (Kd.S_new' (Kd.S_new' (Kd.S_new' (Kd.S_new' ho0 (Kd.R_lt (rfa_ HO1199.out BK1239.out))) (Kd.R_lt (rfa_ HO1203.out BK1239.out))) (Kd.S_lt (by (with_reducible repeat (first | apply Kd.S_alloc | apply Kd.S_drewN | apply Kd.S_drew)); exact (Kd.S_mono (Kd.S_far (p := ⟨gb1239, 3, none⟩) (Kd.S_far (p := ⟨gb1239, 2, none⟩) (Kd.S_far (p := ⟨gb1239, 1, none⟩) (Kd.S_far (p := ⟨gb1239, 0, none⟩) (Kd.S_mono HO1207.out (fun k_ hk => (⟨hk, hk.2⟩ : _ ∧ k_ ≠ gb1239))) (fun _ hk => hk.2) (.int .i64 t1232)) (fun _ hk => hk.2) (.string t1233)) (fun _ hk => hk.2) (.slice Ao56 t1234.length co56)) (fun _ hk => hk.2) (.string t1237)) (fun _ h_ => h_.1))))) (Kd.S_lt (by (with_reducible repeat (first | apply Kd.S_alloc | apply Kd.S_drewN | apply Kd.S_drew)); exact (Kd.S_mono (Kd.S_far (p := ⟨gb1239, 3, none⟩) (Kd.S_far (p := ⟨gb1239, 2, none⟩) (Kd.S_far (p := ⟨gb1239, 1, none⟩) (Kd.S_far (p := ⟨gb1239, 0, none⟩) (Kd.S_mono HO1211.out (fun k_ hk => (⟨hk, hk.2⟩ : _ ∧ k_ ≠ gb1239))) (fun _ hk => hk.2) (.int .i64 t1232)) (fun _ hk => hk.2) (.string t1233)) (fun _ hk => hk.2) (.slice Ao56 t1234.length co56)) (fun _ hk => hk.2) (.string t1237)) (fun _ h_ => h_.1))))) (Kd.R_lt (rfa_ HO1216.out BK1239.out))) (Kd.R_lt (rfa_ HO1228.out BK1239.out))) (Kd.R_lt (rfa_ HO1236.out BK1239.out))) (g := gb1218) (o := .cells #[.int .i64 t1212, .string t1213, .slice Ao41 t1214.length co41, .string t1217] 58 (0, 0)) (bp1_ BK1218.out NB1218_1239.out)) (g := gb1231) (o := .cells #[.int .i64 t1224, .string t1225, .slice Ao50 t1226.length co50, .string t1229] 58 (0, 0)) (bp1_ BK1231.out NB1231_1239.out)) (g := gb1239) (o := .cells #[.int .i64 t1232, .string t1233, .slice Ao56 t1234.length co56, .string t1237] 58 (0, 0)) (bp0_ BK1239.out)) (below_size bl_)); replace HO1199 := Aside0.mk (Kd.R_below (rfa_ HO1199.out BK1239.out) hb); replace HO1203 := Aside0.mk (Kd.R_below (rfa_ HO1203.out BK1239.out) hb); replace HO1207 := Aside0.mk (Kd.S_elder' (by (with_reducible repeat (first | apply Kd.S_alloc | apply Kd.S_drewN | apply Kd.S_drew)); exact (Kd.S_mono (Kd.S_far (p := ⟨gb1239, 3, none⟩) (Kd.S_far (p := ⟨gb1239, 2, none⟩) (Kd.S_far (p := ⟨gb1239, 1, none⟩) (Kd.S_far (p := ⟨gb1239, 0, none⟩) (Kd.S_mono HO1207.out (fun k_ hk => (⟨hk, hk.2⟩ : _ ∧ k_ ≠ gb1239))) (fun _ hk => hk.2) (.int .i64 t1232)) (fun _ hk => hk.2) (.string t1233)) (fun _ hk => hk.2) (.slice Ao56 t1234.length co56)) (fun _ hk => hk.2) (.string t1237)) (fun _ h_ => h_.1))) (Kd.S_base ho0) hb); replace HO1211 := Aside0.mk (Kd.S_elder' (by (with_reducible repeat (first | apply Kd.S_alloc | apply Kd.S_drewN | apply Kd.S_drew)); exact (Kd.S_mono (Kd.S_far (p := ⟨gb1239, 3, none⟩) (Kd.S_far (p := ⟨gb1239, 2, none⟩) (Kd.S_far (p := ⟨gb1239, 1, none⟩) (Kd.S_far (p := ⟨gb1239, 0, none⟩) (Kd.S_mono HO1211.out (fun k_ hk => (⟨hk, hk.2⟩ : _ ∧ k_ ≠ gb1239))) (fun _ hk => hk.2) (.int .i64 t1232)) (fun _ hk => hk.2) (.string t1233)) (fun _ hk => hk.2) (.slice Ao56 t1234.length co56)) (fun _ hk => hk.2) (.string t1237)) (fun _ h_ => h_.1))) (Kd.S_base ho0) hb); replace HO1216 := Aside0.mk (Kd.R_below (rfa_ HO1216.out BK1239.out) hb); replace HO1228 := Aside0.mk (Kd.R_below (rfa_ HO1228.out BK1239.out) hb); replace HO1236 := Aside0.mk (Kd.R_below (rfa_ HO1236.out BK1239.out) hb); replace BK1218 := Aside0.mk (blk_below (bn1_ BK1218.out NB1218_1239.out) hb); replace BK1231 := Aside0.mk (blk_below (bn1_ BK1231.out NB1231_1239.out) hb); replace BK1239 := Aside0.mk (blk_below (g := gb1239) (o := .cells #[.int .i64 t1232, .string t1233, .slice Ao56 t1234.length co56, .string t1237] 58 (0, 0)) (bp0_ BK1239.out) hb); replace HB := Aside0.mk (below_step bl_ hb); (try clear hb); (try clear ho0); obtain ⟨Ao58, co58, eo58⟩ := Kd.S_slice HO1242.out; subst eo58) | ((with_reducible refine gate_callee (f := 49) rfl ?_); refine gs_ (some 78) Tryd.func49 #[.slice Ao58 t1240.length co58] ?_; (with_reducible refine (impl_JoinSegments.calls k _ _ t1240 t1243 t1244 _ ?side1 ?side2 ?side3 A15.out).mono ?_); (case side1 => exact cs_ ((Kd.S_reads' HO1242.out).2.2)); (case side2 => exact (Kd.S_reads' HO1242.out).2.1); (case side3 => exact tab_of HT.out bl_); rintro e w59 ⟨v1245, rfl, ho0, hb⟩; refine ⟨_, rfl, ?_⟩; replace HO1207 := Aside0.mk (Kd.S_elder' (by (with_reducible repeat (first | apply Kd.S_alloc | apply Kd.S_drewN | apply Kd.S_drew)); exact HO1207.out) (Kd.R_base ho0) hb); replace HO1211 := Aside0.mk (Kd.S_elder' (by (with_reducible repeat (first | apply Kd.S_alloc | apply Kd.S_drewN | apply Kd.S_drew)); exact HO1211.out) (Kd.R_base ho0) hb); replace HO1242 := Aside0.mk (Kd.S_elder' (by (with_reducible repeat (first | apply Kd.S_alloc | apply Kd.S_drewN | apply Kd.S_drew)); exact HO1242.out) (Kd.R_base ho0) hb); have HO1246 := Aside0.mk (Kd.R_lower (Kd.R_new' (Kd.R_new' (Kd.R_new' (Kd.R_new' (Kd.R_new' ho0 (Kd.R_lt (ra_ HO1199.out))) (Kd.R_lt (ra_ HO1203.out))) (Kd.R_lt (ra_ HO1216.out))) (Kd.R_lt (ra_ HO1228.out))) (Kd.R_lt (ra_ HO1236.out))) (below_size bl_)); replace HO1199 := Aside0.mk (Kd.R_elder' (ra_ HO1199.out) (Kd.R_base ho0) hb); replace HO1203 := Aside0.mk (Kd.R_elder' (ra_ HO1203.out) (Kd.R_base ho0) hb); replace HO1216 := Aside0.mk (Kd.R_elder' (ra_ HO1216.out) (Kd.R_base ho0) hb); replace HO1228 := Aside0.mk (Kd.R_elder' (ra_ HO1228.out) (Kd.R_base ho0) hb); replace HO1236 := Aside0.mk (Kd.R_elder' (ra_ HO1236.out) (Kd.R_base ho0) hb); replace BK1218 := Aside0.mk (blk_below (bn0_ BK1218.out) hb); replace BK1231 := Aside0.mk (blk_below (bn0_ BK1231.out) hb); replace BK1239 := Aside0.mk (blk_below (bn0_ BK1239.out) hb); replace HB := Aside0.mk (below_step bl_ hb); (try clear hb); (try clear ho0)) | ((with_reducible refine gate_callee (f := 50) rfl ?_); refine gs_ (some 83) Tryd.func50 #[.slice Ao58 t1240.length co58] ?_; (with_reducible refine (spec_JoinSegments.calls k _ _ t1240 t1247 t1248 _ ?side1 ?side2 A16.out).mono ?_); (case side1 => exact cs_ ((Kd.S_reads' HO1242.out).2.2)); (case side2 => exact (Kd.S_reads' HO1242.out).2.1); rintro e w60 ⟨v1249, rfl, ho0, hb⟩; refine ⟨_, rfl, ?_⟩; replace HO1207 := Aside0.mk (Kd.S_elder' (by (with_reducible repeat (first | apply Kd.S_alloc | apply Kd.S_drewN | apply Kd.S_drew)); exact HO1207.out) (Kd.R_base ho0) hb); replace HO1211 := Aside0.mk (Kd.S_elder' (by (with_reducible repeat (first | apply Kd.S_alloc | apply Kd.S_drewN | apply Kd.S_drew)); exact HO1211.out) (Kd.R_base ho0) hb); replace HO1242 := Aside0.mk (Kd.S_elder' (by (with_reducible repeat (first | apply Kd.S_alloc | apply Kd.S_drewN | apply Kd.S_drew)); exact HO1242.out) (Kd.R_base ho0) hb); have HO1250 := Aside0.mk (Kd.R_lower (Kd.R_new' (Kd.R_new' (Kd.R_new' (Kd.R_new' (Kd.R_new' (Kd.R_new' ho0 (Kd.R_lt (ra_ HO1199.out))) (Kd.R_lt (ra_ HO1203.out))) (Kd.R_lt (ra_ HO1216.out))) (Kd.R_lt (ra_ HO1228.out))) (Kd.R_lt (ra_ HO1236.out))) (Kd.R_lt (ra_ HO1246.out))) (below_size bl_)); replace HO1199 := Aside0.mk (Kd.R_elder' (ra_ HO1199.out) (Kd.R_base ho0) hb); replace HO1203 := Aside0.mk (Kd.R_elder' (ra_ HO1203.out) (Kd.R_base ho0) hb); replace HO1216 := Aside0.mk (Kd.R_elder' (ra_ HO1216.out) (Kd.R_base ho0) hb); replace HO1228 := Aside0.mk (Kd.R_elder' (ra_ HO1228.out) (Kd.R_base ho0) hb); replace HO1236 := Aside0.mk (Kd.R_elder' (ra_ HO1236.out) (Kd.R_base ho0) hb); replace HO1246 := Aside0.mk (Kd.R_elder' (ra_ HO1246.out) (Kd.R_base ho0) hb); replace BK1218 := Aside0.mk (blk_below (bn0_ BK1218.out) hb); replace BK1231 := Aside0.mk (blk_below (bn0_ BK1231.out) hb); replace BK1239 := Aside0.mk (blk_below (bn0_ BK1239.out) hb); replace HB := Aside0.mk (below_step bl_ hb); (try clear hb); (try clear ho0)))
 have n0_ := Aside0.mk (Kd.R_drew HO1199.out)
 have n1_ := Aside0.mk (Kd.R_drew HO1203.out)
 have n2_ := Aside0.mk (Kd.S_drew HO1207.out)
 have n3_ := Aside0.mk (Kd.S_drew HO1211.out)
 have n4_ := Aside0.mk (Kd.R_drew HO1216.out)
 have n5_ := Aside0.mk (Kd.R_drew HO1228.out)
 have n6_ := Aside0.mk (Kd.R_drew HO1236.out)
 have n7_ := Aside0.mk (Kd.S_drew HO1242.out)
 have n8_ := Aside0.mk (Kd.R_drew HO1246.out)
 have n9_ := Aside0.mk (Kd.R_drew HO1250.out)
 have n10_ := Aside0.mk (blk_drew BK1218.out)
 have n11_ := Aside0.mk (blk_drew BK1231.out)
 have n12_ := Aside0.mk (blk_drew BK1239.out)
 have n13_ := Aside0.mk (below_drew1 HB.out)
 clear HO1199
 clear HO1203
 clear HO1207
 clear HO1211
 clear HO1216
 clear HO1228
 clear HO1236
 clear HO1242
 clear HO1246
 clear HO1250
 clear BK1218
 clear BK1231
 clear BK1239
 clear HB
 have HO1199 := n0_
 have HO1203 := n1_
 have HO1207 := n2_
 have HO1211 := n3_
 have HO1216 := n4_
 have HO1228 := n5_
 have HO1236 := n6_
 have HO1242 := n7_
 have HO1246 := n8_
 have HO1250 := n9_
 have BK1218 := n10_
 have BK1231 := n11_
 have BK1239 := n12_
 have HB := n13_
 clear n0_ n1_ n2_ n3_ n4_ n5_ n6_ n7_ n8_ n9_ n10_ n11_ n12_ n13_
 obtain ⟨Ao62, co62, eo62⟩ := Kd.R_slice HO1199.out
 (first | subst eo62 | (injection eo62 with f1_ f2_ f3_; have f4_ := f1_.symm; have f5_ := f3_.symm; clear f1_ f2_ f3_; subst f4_; subst f5_))
 refine start_ (n := 55) (S := fun w' => w'.cell? ⟨gb1231, 0, none⟩ = some (.int .i64 t1224) ∧ w'.cell? ⟨gb1231, 1, none⟩ = some (.string t1225) ∧ w'.cell? ⟨gb1231, 2, none⟩ = some (.slice Ao50 t1226.length co50) ∧ w'.cell? ⟨gb1231, 3, none⟩ = some (.string t1229) ∧ w'.cell? ⟨gb1239, 0, none⟩ = some (.int .i64 t1232) ∧ w'.cell? ⟨gb1239, 1, none⟩ = some (.string t1233) ∧ w'.cell? ⟨gb1239, 2, none⟩ = some (.slice Ao56 t1234.length co56) ∧ w'.cell? ⟨gb1239, 3, none⟩ = some (.string t1237) ∧ w'.cell? ⟨gb1218, 0, none⟩ = some (.int .i64 t1212) ∧ w'.cell? ⟨gb1218, 1, none⟩ = some (.string t1213) ∧ w'.cell? ⟨gb1218, 2, none⟩ = some (.slice Ao41 t1214.length co41) ∧ w'.cell? ⟨gb1218, 3, none⟩ = some (.string t1217)) (ds := []) #[false, false, false, false, false, false, false, false, false, false, false, false, false, false, false, false, false, false, false, false, false, false, false, false, false, false, false, false, false, false, false, false, false, false, false, false, false, false, false, false, false, false, false, false, false, false, false, false, false, false, false, false, false, false, false] (by kernel_rfl) rfl rfl ⟨(blk_cell BK1231.out 0).trans rfl, (blk_cell BK1231.out 1).trans rfl, (blk_cell BK1231.out 2).trans rfl, (blk_cell BK1231.out 3).trans rfl, (blk_cell BK1239.out 0).trans rfl, (blk_cell BK1239.out 1).trans rfl, (blk_cell BK1239.out 2).trans rfl, (blk_cell BK1239.out 3).trans rfl, (blk_cell BK1218.out 0).trans rfl, (blk_cell BK1218.out 1).trans rfl, (blk_cell BK1218.out 2).trans rfl, (blk_cell BK1218.out 3).trans rfl⟩ (fun hHeld => ?_); refine with_tabW laws_FnSegmentsTold.tab16 laws_FnSegmentsTold.bits16 (fun HT_ HW_ => ?_)
 generalize w60.drew = w61 at HO1199 HO1203 HO1207 HO1211 HO1216 HO1228 HO1236 HO1242 HO1246 HO1250 BK1218 BK1231 BK1239 HB hHeld ⊢
 refine pu_ 0 86 HT_ ?_
 refine pu_ 1 87 HT_ ?_
 refine pu_ 3 89 HT_ ?_
 refine pu_ 4 90 HT_ ?_
 refine on_ 2 88 HT_ (fun K hK => ?_)
 refine goes_ Tryd.func51 (by kernel_rfl) rfl #[.string t1196, .slice Ao62 t1197.length co62] (by rfl) rfl rfl lm_ ?_
 with_reducible refine (impl_HeadFrom.calls k t1196 _ _ t1197 t1251 _ ?side1 ?side2 ?side3 A17.out).mono ?_
 (case side1 => exact cs_ ((Kd.R_reads' HO1199.out).2.2))
 (case side2 => exact (Kd.R_reads' HO1199.out).2.1)
 (case side3 => exact tab_of HT.out bl_)
 rintro e w63 ⟨rfl, hb⟩
 refine ⟨_, rfl, ?_⟩
 have n0_ := Aside0.mk (Kd.R_below (ra_ HO1199.out) hb)
 have n1_ := Aside0.mk (Kd.R_below (ra_ HO1203.out) hb)
 have n2_ := Aside0.mk (Kd.S_below (by (with_reducible repeat (first | apply Kd.S_alloc | apply Kd.S_drewN | apply Kd.S_drew)); exact HO1207.out) hb)
 have n3_ := Aside0.mk (Kd.S_below (by (with_reducible repeat (first | apply Kd.S_alloc | apply Kd.S_drewN | apply Kd.S_drew)); exact HO1211.out) hb)
 have n4_ := Aside0.mk (Kd.R_below (ra_ HO1216.out) hb)
 have n5_ := Aside0.mk (Kd.R_below (ra_ HO1228.out) hb)
 have n6_ := Aside0.mk (Kd.R_below (ra_ HO1236.out) hb)
 have n7_ := Aside0.mk (Kd.S_below (by (with_reducible repeat (first | apply Kd.S_alloc | apply Kd.S_drewN | apply Kd.S_drew)); exact HO1242.out) hb)
 have n8_ := Aside0.mk (Kd.R_below (ra_ HO1246.out) hb)
 have n9_ := Aside0.mk (Kd.R_below (ra_ HO1250.out) hb)
 have n10_ := Aside0.mk (blk_below (bn0_ BK1218.out) hb)
 have n11_ := Aside0.mk (blk_below (bn0_ BK1231.out) hb)
 have n12_ := Aside0.mk (blk_below (bn0_ BK1239.out) hb)
 have n13_ := Aside0.mk (below_step bl_ hb)
 clear HO1199
 clear HO1203
 clear HO1207
 clear HO1211
 clear HO1216
 clear HO1228
 clear HO1236
 clear HO1242
 clear HO1246
 clear HO1250
 clear BK1218
 clear BK1231
 clear BK1239
 clear HB
 have HO1199 := n0_
 have HO1203 := n1_
 have HO1207 := n2_
 have HO1211 := n3_
 have HO1216 := n4_
 have HO1228 := n5_
 have HO1236 := n6_
 have HO1242 := n7_
 have HO1246 := n8_
 have HO1250 := n9_
 have BK1218 := n10_
 have BK1231 := n11_
 have BK1239 := n12_
 have HB := n13_
 clear n0_ n1_ n2_ n3_ n4_ n5_ n6_ n7_ n8_ n9_ n10_ n11_ n12_ n13_
 (try clear hb)
 (try clear hb2)
 (try clear hk)
 (try clear hi)
 refine hK.out _ _ ⟨(blk_cell BK1231.out 0).trans rfl, (blk_cell BK1231.out 1).trans rfl, (blk_cell BK1231.out 2).trans rfl, (blk_cell BK1231.out 3).trans rfl, (blk_cell BK1239.out 0).trans rfl, (blk_cell BK1239.out 1).trans rfl, (blk_cell BK1239.out 2).trans rfl, (blk_cell BK1239.out 3).trans rfl, (blk_cell BK1218.out 0).trans rfl, (blk_cell BK1218.out 1).trans rfl, (blk_cell BK1218.out 2).trans rfl, (blk_cell BK1218.out 3).trans rfl⟩ (fun hHeld => ?_)
 clear hK K
 refine norm_ (a' := ?_) ?_ ?_
 rotate_left
 ·show Act.put _ (some 88) _ = _
  simp only [Act.put, List.setIfInBounds_toArray, List.set_cons_zero, List.set_cons_succ, i64_w, i32_w]
  rfl
 refine on_ 5 91 HT_ (fun K hK => ?_)
 refine goes_ Tryd.func52 (by kernel_rfl) rfl #[.string t1196, .slice Ao62 t1197.length co62] (by rfl) rfl rfl lm_ ?_
 with_reducible refine (spec_HeadFrom.calls k t1196 _ _ t1197 t1252 _ ?side1 ?side2 A18.out).mono ?_
 (case side1 => exact cs_ ((Kd.R_reads' HO1199.out).2.2))
 (case side2 => exact (Kd.R_reads' HO1199.out).2.1)
 rintro e w64 ⟨rfl, hb⟩
 refine ⟨_, rfl, ?_⟩
 have n0_ := Aside0.mk (Kd.R_below (ra_ HO1199.out) hb)
 have n1_ := Aside0.mk (Kd.R_below (ra_ HO1203.out) hb)
 have n2_ := Aside0.mk (Kd.S_below (by (with_reducible repeat (first | apply Kd.S_alloc | apply Kd.S_drewN | apply Kd.S_drew)); exact HO1207.out) hb)
 have n3_ := Aside0.mk (Kd.S_below (by (with_reducible repeat (first | apply Kd.S_alloc | apply Kd.S_drewN | apply Kd.S_drew)); exact HO1211.out) hb)
 have n4_ := Aside0.mk (Kd.R_below (ra_ HO1216.out) hb)
 have n5_ := Aside0.mk (Kd.R_below (ra_ HO1228.out) hb)
 have n6_ := Aside0.mk (Kd.R_below (ra_ HO1236.out) hb)
 have n7_ := Aside0.mk (Kd.S_below (by (with_reducible repeat (first | apply Kd.S_alloc | apply Kd.S_drewN | apply Kd.S_drew)); exact HO1242.out) hb)
 have n8_ := Aside0.mk (Kd.R_below (ra_ HO1246.out) hb)
 have n9_ := Aside0.mk (Kd.R_below (ra_ HO1250.out) hb)
 have n10_ := Aside0.mk (blk_below (bn0_ BK1218.out) hb)
 have n11_ := Aside0.mk (blk_below (bn0_ BK1231.out) hb)
 have n12_ := Aside0.mk (blk_below (bn0_ BK1239.out) hb)
 have n13_ := Aside0.mk (below_step bl_ hb)
 clear HO1199
 clear HO1203
 clear HO1207
 clear HO1211
 clear HO1216
 clear HO1228
 clear HO1236
 clear HO1242
 clear HO1246
 clear HO1250
 clear BK1218
 clear BK1231
 clear BK1239
 clear HB
 have HO1199 := n0_
 have HO1203 := n1_
 have HO1207 := n2_
 have HO1211 := n3_
 have HO1216 := n4_
 have HO1228 := n5_
 have HO1236 := n6_
 have HO1242 := n7_
 have HO1246 := n8_
 have HO1250 := n9_
 have BK1218 := n10_
 have BK1231 := n11_
 have BK1239 := n12_
 have HB := n13_
 clear n0_ n1_ n2_ n3_ n4_ n5_ n6_ n7_ n8_ n9_ n10_ n11_ n12_ n13_
 (try clear hb)
 (try clear hb2)
 (try clear hk)
 (try clear hi)
 obtain ⟨Ao65, co65, eo65⟩ := Kd.S_slice HO1207.out
 (first | subst eo65 | (injection eo65 with f1_ f2_ f3_; have f4_ := f1_.symm; have f5_ := f3_.symm; clear f1_ f2_ f3_; subst f4_; subst f5_))
 obtain ⟨Ao66, co66, eo66⟩ := Kd.S_slice HO1211.out
 (first | subst eo66 | (injection eo66 with f1_ f2_ f3_; have f4_ := f1_.symm; have f5_ := f3_.symm; clear f1_ f2_ f3_; subst f4_; subst f5_))
 refine hK.out _ _ ⟨(blk_cell BK1231.out 0).trans rfl, (blk_cell BK1231.out 1).trans rfl, (blk_cell BK1231.out 2).trans rfl, (blk_cell BK1231.out 3).trans rfl, (blk_cell BK1239.out 0).trans rfl, (blk_cell BK1239.out 1).trans rfl, (blk_cell BK1239.out 2).trans rfl, (blk_cell BK1239.out 3).trans rfl, (blk_cell BK1218.out 0).trans rfl, (blk_cell BK1218.out 1).trans rfl, (blk_cell BK1218.out 2).trans rfl, (blk_cell BK1218.out 3).trans rfl⟩ (fun hHeld => ?_)
 clear hK K
 refine norm_ (a' := ?_) ?_ ?_
 rotate_left
 ·show Act.put _ (some 91) _ = _
  simp only [Act.put, List.setIfInBounds_toArray, List.set_cons_zero, List.set_cons_succ, i64_w, i32_w]
  rfl
 refine pu_ 6 92 HT_ ?_
 refine pu_ 7 93 HT_ ?_
 refine pu_ 8 94 HT_ ?_
 refine pu_ 9 95 HT_ ?_
 refine pu_ 10 96 HT_ ?_
 refine pu_ 11 97 HT_ ?_
 refine pu_ 12 98 HT_ ?_
 refine pu_ 13 99 HT_ ?_
 refine pu_ 14 100 HT_ ?_
 refine on_ 15 101 HT_ (fun K hK => ?_)
 refine goes_ Tryd.func53 (by kernel_rfl) rfl #[.slice Ao65 t1204.length co65, .slice Ao66 t1208.length co66] (by rfl) rfl rfl lm_ ?_
 with_reducible refine (laws_sameSegments.calls k _ _ t1204 _ _ t1208 true _ ?side1 ?side2 ?side3 ?side4 A21.out).mono ?_
 (case side1 => exact cs_ ((Kd.S_reads' HO1207.out).2.2))
 (case side2 => exact (Kd.S_reads' HO1207.out).2.1)
 (case side3 => exact cs_ ((Kd.S_reads' HO1211.out).2.2))
 (case side4 => exact (Kd.S_reads' HO1211.out).2.1)
 rintro e w67 ⟨rfl, hb⟩
 refine ⟨_, rfl, ?_⟩
 have n0_ := Aside0.mk (Kd.R_below (ra_ HO1199.out) hb)
 have n1_ := Aside0.mk (Kd.R_below (ra_ HO1203.out) hb)
 have n2_ := Aside0.mk (Kd.S_below (by (with_reducible repeat (first | apply Kd.S_alloc | apply Kd.S_drewN | apply Kd.S_drew)); exact HO1207.out) hb)
 have n3_ := Aside0.mk (Kd.S_below (by (with_reducible repeat (first | apply Kd.S_alloc | apply Kd.S_drewN | apply Kd.S_drew)); exact HO1211.out) hb)
 have n4_ := Aside0.mk (Kd.R_below (ra_ HO1216.out) hb)
 have n5_ := Aside0.mk (Kd.R_below (ra_ HO1228.out) hb)
 have n6_ := Aside0.mk (Kd.R_below (ra_ HO1236.out) hb)
 have n7_ := Aside0.mk (Kd.S_below (by (with_reducible repeat (first | apply Kd.S_alloc | apply Kd.S_drewN | apply Kd.S_drew)); exact HO1242.out) hb)
 have n8_ := Aside0.mk (Kd.R_below (ra_ HO1246.out) hb)
 have n9_ := Aside0.mk (Kd.R_below (ra_ HO1250.out) hb)
 have n10_ := Aside0.mk (blk_below (bn0_ BK1218.out) hb)
 have n11_ := Aside0.mk (blk_below (bn0_ BK1231.out) hb)
 have n12_ := Aside0.mk (blk_below (bn0_ BK1239.out) hb)
 have n13_ := Aside0.mk (below_step bl_ hb)
 clear HO1199
 clear HO1203
 clear HO1207
 clear HO1211
 clear HO1216
 clear HO1228
 clear HO1236
 clear HO1242
 clear HO1246
 clear HO1250
 clear BK1218
 clear BK1231
 clear BK1239
 clear HB
 have HO1199 := n0_
 have HO1203 := n1_
 have HO1207 := n2_
 have HO1211 := n3_
 have HO1216 := n4_
 have HO1228 := n5_
 have HO1236 := n6_
 have HO1242 := n7_
 have HO1246 := n8_
 have HO1250 := n9_
 have BK1218 := n10_
 have BK1231 := n11_
 have BK1239 := n12_
 have HB := n13_
 clear n0_ n1_ n2_ n3_ n4_ n5_ n6_ n7_ n8_ n9_ n10_ n11_ n12_ n13_
 (try clear hb)
 (try clear hb2)
 (try clear hk)
 (try clear hi)
 refine hK.out _ _ ⟨(blk_cell BK1231.out 0).trans rfl, (blk_cell BK1231.out 1).trans rfl, (blk_cell BK1231.out 2).trans rfl, (blk_cell BK1231.out 3).trans rfl, (blk_cell BK1239.out 0).trans rfl, (blk_cell BK1239.out 1).trans rfl, (blk_cell BK1239.out 2).trans rfl, (blk_cell BK1239.out 3).trans rfl, (blk_cell BK1218.out 0).trans rfl, (blk_cell BK1218.out 1).trans rfl, (blk_cell BK1218.out 2).trans rfl, (blk_cell BK1218.out 3).trans rfl⟩ (fun hHeld => ?_)
 clear hK K
 refine norm_ (a' := ?_) ?_ ?_
 rotate_left
 ·show Act.put _ (some 101) _ = _
  simp only [Act.put, List.setIfInBounds_toArray, List.set_cons_zero, List.set_cons_succ, i64_w, i32_w]
  rfl
 refine pu_ 16 102 HT_ ?_
 refine pu_ 17 103 HT_ ?_
 refine pu_ 18 104 HT_ ?_
 refine pu_ 19 105 HT_ ?_
 refine pu_ 20 106 HT_ ?_
 refine pu_ 21 107 HT_ ?_
 refine pu_ 22 108 HT_ ?_
 refine pu_ 23 109 HT_ ?_
 refine pu_ 24 110 HT_ ?_
 refine pu_ 25 111 HT_ ?_
 refine pu_ 26 112 HT_ ?_
 refine pu_ 27 113 HT_ ?_
 refine pu_ 28 114 HT_ ?_
 refine pu_ 29 115 HT_ ?_
 refine pu_ 30 116 HT_ ?_
 refine pu_ 31 117 HT_ ?_
 refine pu_ 32 118 HT_ ?_
 refine ta_ 33 119 HT_ HW_ hHeld ?_ (r := by rintro w' ⟨s0, s1, s2, s3, s4, s5, s6, s7, s8, s9, s10, s11⟩; go_simp; with_reducible rfl)
 refine ta_ 34 120 HT_ HW_ hHeld ?_ (r := by rintro w' ⟨s0, s1, s2, s3, s4, s5, s6, s7, s8, s9, s10, s11⟩; go_simp; with_reducible rfl)
 refine on_ 35 121 HT_ (fun K hK => ?_)
 refine goes_ Tryd.func54 (by kernel_rfl) rfl #[.agg #[.int .i64 t1224, .string t1225, .slice Ao50 t1226.length co50, .string t1229], .agg #[.int .i64 t1232, .string t1233, .slice Ao56 t1234.length co56, .string t1237]] (by rfl) rfl rfl lm_ ?_
 with_reducible refine (laws_sameSegment.calls k t1224 t1225 _ _ t1226 t1229 t1232 t1233 _ _ t1234 t1237 true _ ?side1 ?side2 ?side3 ?side4 A26.out).mono ?_
 (case side1 => exact cs_ ((Kd.R_reads' HO1228.out).2.2))
 (case side2 => exact (Kd.R_reads' HO1228.out).2.1)
 (case side3 => exact cs_ ((Kd.R_reads' HO1236.out).2.2))
 (case side4 => exact (Kd.R_reads' HO1236.out).2.1)
 rintro e w68 ⟨rfl, hb⟩
 refine ⟨_, rfl, ?_⟩
 have n0_ := Aside0.mk (Kd.R_below (ra_ HO1199.out) hb)
 have n1_ := Aside0.mk (Kd.R_below (ra_ HO1203.out) hb)
 have n2_ := Aside0.mk (Kd.S_below (by (with_reducible repeat (first | apply Kd.S_alloc | apply Kd.S_drewN | apply Kd.S_drew)); exact HO1207.out) hb)
 have n3_ := Aside0.mk (Kd.S_below (by (with_reducible repeat (first | apply Kd.S_alloc | apply Kd.S_drewN | apply Kd.S_drew)); exact HO1211.out) hb)
 have n4_ := Aside0.mk (Kd.R_below (ra_ HO1216.out) hb)
 have n5_ := Aside0.mk (Kd.R_below (ra_ HO1228.out) hb)
 have n6_ := Aside0.mk (Kd.R_below (ra_ HO1236.out) hb)
 have n7_ := Aside0.mk (Kd.S_below (by (with_reducible repeat (first | apply Kd.S_alloc | apply Kd.S_drewN | apply Kd.S_drew)); exact HO1242.out) hb)
 have n8_ := Aside0.mk (Kd.R_below (ra_ HO1246.out) hb)
 have n9_ := Aside0.mk (Kd.R_below (ra_ HO1250.out) hb)
 have n10_ := Aside0.mk (blk_below (bn0_ BK1218.out) hb)
 have n11_ := Aside0.mk (blk_below (bn0_ BK1231.out) hb)
 have n12_ := Aside0.mk (blk_below (bn0_ BK1239.out) hb)
 have n13_ := Aside0.mk (below_step bl_ hb)
 clear HO1199
 clear HO1203
 clear HO1207
 clear HO1211
 clear HO1216
 clear HO1228
 clear HO1236
 clear HO1242
 clear HO1246
 clear HO1250
 clear BK1218
 clear BK1231
 clear BK1239
 clear HB
 have HO1199 := n0_
 have HO1203 := n1_
 have HO1207 := n2_
 have HO1211 := n3_
 have HO1216 := n4_
 have HO1228 := n5_
 have HO1236 := n6_
 have HO1242 := n7_
 have HO1246 := n8_
 have HO1250 := n9_
 have BK1218 := n10_
 have BK1231 := n11_
 have BK1239 := n12_
 have HB := n13_
 clear n0_ n1_ n2_ n3_ n4_ n5_ n6_ n7_ n8_ n9_ n10_ n11_ n12_ n13_
 (try clear hb)
 (try clear hb2)
 (try clear hk)
 (try clear hi)
 obtain ⟨Ao69, co69, eo69⟩ := Kd.R_slice HO1246.out
 (first | subst eo69 | (injection eo69 with f1_ f2_ f3_; have f4_ := f1_.symm; have f5_ := f3_.symm; clear f1_ f2_ f3_; subst f4_; subst f5_))
 obtain ⟨Ao70, co70, eo70⟩ := Kd.R_slice HO1250.out
 (first | subst eo70 | (injection eo70 with f1_ f2_ f3_; have f4_ := f1_.symm; have f5_ := f3_.symm; clear f1_ f2_ f3_; subst f4_; subst f5_))
 refine hK.out _ _ ⟨(blk_cell BK1231.out 0).trans rfl, (blk_cell BK1231.out 1).trans rfl, (blk_cell BK1231.out 2).trans rfl, (blk_cell BK1231.out 3).trans rfl, (blk_cell BK1239.out 0).trans rfl, (blk_cell BK1239.out 1).trans rfl, (blk_cell BK1239.out 2).trans rfl, (blk_cell BK1239.out 3).trans rfl, (blk_cell BK1218.out 0).trans rfl, (blk_cell BK1218.out 1).trans rfl, (blk_cell BK1218.out 2).trans rfl, (blk_cell BK1218.out 3).trans rfl⟩ (fun hHeld => ?_)
 clear hK K
 refine norm_ (a' := ?_) ?_ ?_
 rotate_left
 ·show Act.put _ (some 121) _ = _
  simp only [Act.put, List.setIfInBounds_toArray, List.set_cons_zero, List.set_cons_succ, i64_w, i32_w]
  rfl
 refine pu_ 36 122 HT_ ?_
 refine pu_ 37 123 HT_ ?_
 refine pu_ 38 124 HT_ ?_
 refine pu_ 39 125 HT_ ?_
 refine pu_ 40 126 HT_ ?_
 refine pu_ 41 127 HT_ ?_
 refine pu_ 42 128 HT_ ?_
 refine pu_ 43 129 HT_ ?_
 refine pu_ 44 130 HT_ ?_
 refine on_ 45 131 HT_ (fun K hK => ?_)
 refine goes_ Tryd.func35 (by kernel_rfl) rfl #[.slice Ao69 t1243.length co69, .slice Ao70 t1247.length co70] (by rfl) rfl rfl lm_ ?_
 with_reducible refine (laws_sameEntries.calls k _ _ t1243 _ _ t1247 true _ ?side1 ?side2 ?side3 ?side4 A29.out).mono ?_
 (case side1 => exact cs_ ((Kd.R_reads' HO1246.out).2.2))
 (case side2 => exact (Kd.R_reads' HO1246.out).2.1)
 (case side3 => exact cs_ ((Kd.R_reads' HO1250.out).2.2))
 (case side4 => exact (Kd.R_reads' HO1250.out).2.1)
 rintro e w' ⟨rfl, ⟨nd, rfl⟩⟩
 refine ⟨_, rfl, ?_⟩
 refine hK.out _ _ ⟨(blk_cell BK1231.out 0).trans rfl, (blk_cell BK1231.out 1).trans rfl, (blk_cell BK1231.out 2).trans rfl, (blk_cell BK1231.out 3).trans rfl, (blk_cell BK1239.out 0).trans rfl, (blk_cell BK1239.out 1).trans rfl, (blk_cell BK1239.out 2).trans rfl, (blk_cell BK1239.out 3).trans rfl, (blk_cell BK1218.out 0).trans rfl, (blk_cell BK1218.out 1).trans rfl, (blk_cell BK1218.out 2).trans rfl, (blk_cell BK1218.out 3).trans rfl⟩ (fun hHeld => ?_)
 clear hK K
 refine norm_ (a' := ?_) ?_ ?_
 rotate_left
 ·show Act.put _ (some 131) _ = _
  simp only [Act.put, List.setIfInBounds_toArray, List.set_cons_zero, List.set_cons_succ, i64_w, i32_w]
  rfl
 refine pu_ 46 132 HT_ ?_
 refine pu_ 47 133 HT_ ?_
 refine ta_ 48 134 HT_ HW_ hHeld ?_ (r := by rintro w' ⟨s0, s1, s2, s3, s4, s5, s6, s7, s8, s9, s10, s11⟩; go_simp; with_reducible rfl)
 refine ta_ 50 136 HT_ HW_ hHeld ?_ (r := by rintro w' ⟨s0, s1, s2, s3, s4, s5, s6, s7, s8, s9, s10, s11⟩; go_simp; with_reducible rfl)
 refine on_ 49 135 HT_ (fun K hK => ?_)
 refine goes_ Tryd.func55 (by kernel_rfl) rfl #[.agg #[.int .i64 t1212, .string t1213, .slice Ao41 t1214.length co41, .string t1217]] (by rfl) rfl rfl lm_ ?_
 with_reducible refine (impl_SegmentOk.calls k t1212 t1213 _ _ t1214 t1217 t1256 _ ?side1 ?side2 ?side3 A31.out).mono ?_
 (case side1 => exact cs_ ((Kd.R_reads' HO1216.out).2.2))
 (case side2 => exact (Kd.R_reads' HO1216.out).2.1)
 (case side3 => exact tab_of HT.out bl_)
 rintro e w71 ⟨rfl, hb⟩
 refine ⟨_, rfl, ?_⟩
 have n0_ := Aside0.mk (Kd.R_below (ra_ HO1199.out) hb)
 have n1_ := Aside0.mk (Kd.R_below (ra_ HO1203.out) hb)
 have n2_ := Aside0.mk (Kd.S_below (by (with_reducible repeat (first | apply Kd.S_alloc | apply Kd.S_drewN | apply Kd.S_drew)); exact HO1207.out) hb)
 have n3_ := Aside0.mk (Kd.S_below (by (with_reducible repeat (first | apply Kd.S_alloc | apply Kd.S_drewN | apply Kd.S_drew)); exact HO1211.out) hb)
 have n4_ := Aside0.mk (Kd.R_below (ra_ HO1216.out) hb)
 have n5_ := Aside0.mk (Kd.R_below (ra_ HO1228.out) hb)
 have n6_ := Aside0.mk (Kd.R_below (ra_ HO1236.out) hb)
 have n7_ := Aside0.mk (Kd.S_below (by (with_reducible repeat (first | apply Kd.S_alloc | apply Kd.S_drewN | apply Kd.S_drew)); exact HO1242.out) hb)
 have n8_ := Aside0.mk (Kd.R_below (ra_ HO1246.out) hb)
 have n9_ := Aside0.mk (Kd.R_below (ra_ HO1250.out) hb)
 have n10_ := Aside0.mk (blk_below (bn0_ BK1218.out) hb)
 have n11_ := Aside0.mk (blk_below (bn0_ BK1231.out) hb)
 have n12_ := Aside0.mk (blk_below (bn0_ BK1239.out) hb)
 have n13_ := Aside0.mk (below_step bl_ hb)
 clear HO1199
 clear HO1203
 clear HO1207
 clear HO1211
 clear HO1216
 clear HO1228
 clear HO1236
 clear HO1242
 clear HO1246
 clear HO1250
 clear BK1218
 clear BK1231
 clear BK1239
 clear HB
 have HO1199 := n0_
 have HO1203 := n1_
 have HO1207 := n2_
 have HO1211 := n3_
 have HO1216 := n4_
 have HO1228 := n5_
 have HO1236 := n6_
 have HO1242 := n7_
 have HO1246 := n8_
 have HO1250 := n9_
 have BK1218 := n10_
 have BK1231 := n11_
 have BK1239 := n12_
 have HB := n13_
 clear n0_ n1_ n2_ n3_ n4_ n5_ n6_ n7_ n8_ n9_ n10_ n11_ n12_ n13_
 (try clear hb)
 (try clear hb2)
 (try clear hk)
 (try clear hi)
 refine hK.out _ _ ⟨(blk_cell BK1231.out 0).trans rfl, (blk_cell BK1231.out 1).trans rfl, (blk_cell BK1231.out 2).trans rfl, (blk_cell BK1231.out 3).trans rfl, (blk_cell BK1239.out 0).trans rfl, (blk_cell BK1239.out 1).trans rfl, (blk_cell BK1239.out 2).trans rfl, (blk_cell BK1239.out 3).trans rfl, (blk_cell BK1218.out 0).trans rfl, (blk_cell BK1218.out 1).trans rfl, (blk_cell BK1218.out 2).trans rfl, (blk_cell BK1218.out 3).trans rfl⟩ (fun hHeld => ?_)
 clear hK K
 refine norm_ (a' := ?_) ?_ ?_
 rotate_left
 ·show Act.put _ (some 135) _ = _
  simp only [Act.put, List.setIfInBounds_toArray, List.set_cons_zero, List.set_cons_succ, i64_w, i32_w]
  rfl
 refine on_ 51 137 HT_ (fun K hK => ?_)
 refine goes_ Tryd.func56 (by kernel_rfl) rfl #[.agg #[.int .i64 t1212, .string t1213, .slice Ao41 t1214.length co41, .string t1217]] (by rfl) rfl rfl lm_ ?_
 with_reducible refine (spec_SegmentOk.calls k t1212 t1213 _ _ t1214 t1217 t1257 _ ?side1 ?side2 A32.out).mono ?_
 (case side1 => exact cs_ ((Kd.R_reads' HO1216.out).2.2))
 (case side2 => exact (Kd.R_reads' HO1216.out).2.1)
 rintro e w72 ⟨rfl, hb⟩
 refine ⟨_, rfl, ?_⟩
 have n0_ := Aside0.mk (Kd.R_below (ra_ HO1199.out) hb)
 have n1_ := Aside0.mk (Kd.R_below (ra_ HO1203.out) hb)
 have n2_ := Aside0.mk (Kd.S_below (by (with_reducible repeat (first | apply Kd.S_alloc | apply Kd.S_drewN | apply Kd.S_drew)); exact HO1207.out) hb)
 have n3_ := Aside0.mk (Kd.S_below (by (with_reducible repeat (first | apply Kd.S_alloc | apply Kd.S_drewN | apply Kd.S_drew)); exact HO1211.out) hb)
 have n4_ := Aside0.mk (Kd.R_below (ra_ HO1216.out) hb)
 have n5_ := Aside0.mk (Kd.R_below (ra_ HO1228.out) hb)
 have n6_ := Aside0.mk (Kd.R_below (ra_ HO1236.out) hb)
 have n7_ := Aside0.mk (Kd.S_below (by (with_reducible repeat (first | apply Kd.S_alloc | apply Kd.S_drewN | apply Kd.S_drew)); exact HO1242.out) hb)
 have n8_ := Aside0.mk (Kd.R_below (ra_ HO1246.out) hb)
 have n9_ := Aside0.mk (Kd.R_below (ra_ HO1250.out) hb)
 have n10_ := Aside0.mk (blk_below (bn0_ BK1218.out) hb)
 have n11_ := Aside0.mk (blk_below (bn0_ BK1231.out) hb)
 have n12_ := Aside0.mk (blk_below (bn0_ BK1239.out) hb)
 have n13_ := Aside0.mk (below_step bl_ hb)
 clear HO1199
 clear HO1203
 clear HO1207
 clear HO1211
 clear HO1216
 clear HO1228
 clear HO1236
 clear HO1242
 clear HO1246
 clear HO1250
 clear BK1218
 clear BK1231
 clear BK1239
 clear HB
 have HO1199 := n0_
 have HO1203 := n1_
 have HO1207 := n2_
 have HO1211 := n3_
 have HO1216 := n4_
 have HO1228 := n5_
 have HO1236 := n6_
 have HO1242 := n7_
 have HO1246 := n8_
 have HO1250 := n9_
 have BK1218 := n10_
 have BK1231 := n11_
 have BK1239 := n12_
 have HB := n13_
 clear n0_ n1_ n2_ n3_ n4_ n5_ n6_ n7_ n8_ n9_ n10_ n11_ n12_ n13_
 (try clear hb)
 (try clear hb2)
 (try clear hk)
 (try clear hi)
 refine hK.out _ _ ⟨(blk_cell BK1231.out 0).trans rfl, (blk_cell BK1231.out 1).trans rfl, (blk_cell BK1231.out 2).trans rfl, (blk_cell BK1231.out 3).trans rfl, (blk_cell BK1239.out 0).trans rfl, (blk_cell BK1239.out 1).trans rfl, (blk_cell BK1239.out 2).trans rfl, (blk_cell BK1239.out 3).trans rfl, (blk_cell BK1218.out 0).trans rfl, (blk_cell BK1218.out 1).trans rfl, (blk_cell BK1218.out 2).trans rfl, (blk_cell BK1218.out 3).trans rfl⟩ (fun hHeld => ?_)
 clear hK K
 refine norm_ (a' := ?_) ?_ ?_
 rotate_left
 ·show Act.put _ (some 137) _ = _
  simp only [Act.put, List.setIfInBounds_toArray, List.set_cons_zero, List.set_cons_succ, i64_w, i32_w]
  rfl
 refine pu_ 52 138 HT_ ?_
 refine pu_ 53 139 HT_ ?_
 refine pu_ 54 2 HT_ ?_
 refine done_ (done_of HT_.out (by kernel_rfl)) ?_
 try go_wp2
 go_ret
 exact ⟨er_, bl_⟩

end Go.Proofs.YtdlapahfmfhbjaaDoor.PA

namespace Go.Proofs.YtdlapahfmfhbjaaDoor.Op
open Go.RowKit Go.Proofs.YtdlapahfmfhbjaaDoorW.PrintWords
set_option linter.unusedVariables false
set_option linter.unusedSimpArgs false

abbrev OkInt (k : IntKind) (n : Int) : Prop := (Lit.int k n).wf = true

structure Opens (P : Program) {α : Type} (d : Kd α) (t : TypeId) (G : α → Prop) : Prop where
 sz : d.sz = P.cellsOf t
 op : ∀ {H : Type} {enc : TypeId × Value → H} {w : World} {n : Nat} {cs : List Value} {x : DataW H × List MemPlace},
  DataW.trod enc P w 0 (fun _ => true) true n t cs = some x → ∃ a, d.K w a cs ∧ G a

theorem opInt {P : Program} {t : TypeId} {k : IntKind} (hu : P.underlying t = some (.int k)) (hc : P.cellsOf t = 1) : Opens P (Kd.int k) t (fun n => (Lit.int k n).wf = true) where
 sz := by rw [hc]; rfl
 op := fun h => by
  obtain ⟨n, rfl, _, hw⟩ := DataW.trod_int hu h
  exact ⟨n, rfl, hw⟩

theorem opBool {P : Program} {t : TypeId} (hu : P.underlying t = some .bool) (hc : P.cellsOf t = 1) : Opens P Kd.bool t (fun _ => True) where
 sz := by rw [hc]; rfl
 op := fun h => by
  obtain ⟨n, rfl, _⟩ := DataW.trod_bool hu h
  exact ⟨n, rfl, trivial⟩

theorem opStr {P : Program} {t : TypeId} (hu : P.underlying t = some .string) (hc : P.cellsOf t = 1) : Opens P Kd.string t (fun s => s.size ≤ 9223372036854775807) where
 sz := by rw [hc]; rfl
 op := fun h => by
  obtain ⟨s, rfl, _, hs⟩ := DataW.trod_string hu h
  exact ⟨s, rfl, hs⟩

theorem chooseList {α : Type} {Q : Nat → α → Prop} : ∀ (n : Nat), (∀ i, i < n → ∃ a, Q i a) → ∃ xs : List α, xs.length = n ∧ ∀ i a, xs[i]? = some a → Q i a
 | 0, _ => ⟨[], rfl, fun i a h => by simp at h⟩
 | n + 1, h => by
  obtain ⟨xs, hl, hx⟩ := chooseList n (fun i hi => h i (by omega))
  obtain ⟨a, ha⟩ := h n (by omega)
  refine ⟨xs ++ [a], by simp [hl], fun i b hb => ?_⟩
  by_cases hi : i < n
  ·rw [List.getElem?_append_left (by omega)] at hb
   exact hx i b hb
  ·rw [List.getElem?_append_right (by omega), hl] at hb
   have : i - n = 0 := by
    rcases Nat.eq_zero_or_pos (i - n) with h0 | h0
    ·exact h0
    ·rw [List.getElem?_eq_none (by simp; omega)] at hb
     simp at hb
   rw [this] at hb
   have hin : i = n := by omega
   simp at hb
   rw [hin, ← hb]
   exact ha

theorem cellsAt {w : World} {a : Addr} {n : Nat} {cs : List Value} (h : w.cells? 0 a n = some cs) : cs.length = n ∧ ∀ i u, cs[i]? = some u → w.cell? (a.add i) = some u := by
 unfold World.cells? at h
 rw [if_pos (Nat.zero_le _)] at h
 have hl : cs.length = n := by simpa using mapM_some_length h
 refine ⟨hl, fun i u hu => ?_⟩
 have hi : i < n := by
  rcases Nat.lt_or_ge i n with h1 | h1
  ·exact h1
  ·rw [List.getElem?_eq_none (by omega)] at hu
   simp at hu
 have := mapM_some_get h i i (by simp [hi])
 rw [this, hu]

theorem opSlice {P : Program} {α : Type} {d : Kd α} {t e : TypeId} {G : α → Prop} (hu : P.underlying t = some (.slice e)) (hc : P.cellsOf t = 1) (E : Nat) (o : Opens P d e G) :
 Opens P (Kd.slice E d) t (fun l => (∀ a ∈ l, G a) ∧ l.length ≤ 9223372036854775807) where
 sz := by rw [hc]; rfl
 op := fun {H enc w n cs x} h => by
  rcases DataW.trod_slice hu h with ⟨rfl, _⟩ | ⟨a, len, cap, elems, rest, m, _, rfl, _, _, hl, hcap, hlen, hel, _⟩
  ·exact ⟨[], ⟨none, 0, rfl, Nat.le_refl _, rfl, by simp, fun h0 => by simp at h0⟩, fun a ha => by simp at ha, by simp⟩
  ·have hcap' : cap ≤ 9223372036854775807 := hcap
   have key : ∀ i, i < len → ∃ b, ∃ c, d.K w b c ∧ G b ∧ c.length = d.sz ∧ ∀ j u, c[j]? = some u → w.cell? ((a.add (i * d.sz)).add j) = some u := by
    intro i hi
    have h1 := hel i hi
    rw [List.getElem?_eq_getElem (by omega)] at h1
    obtain ⟨cs', h2, h3⟩ := Option.bind_eq_some_iff.1 h1
    obtain ⟨b, hK, hG⟩ := o.op h3
    obtain ⟨h4, h5⟩ := cellsAt h2
    rw [← o.sz] at h5
    exact ⟨b, cs', hK, hG, d.K_len hK, h5⟩
   obtain ⟨xs, hx, hall⟩ := chooseList len key
   refine ⟨xs, ⟨some a, cap, by rw [hx], by omega, rfl, by omega, fun _ => ⟨a, rfl, fun j p hp => ?_⟩⟩, fun b hb => ?_, by omega⟩
   ·obtain ⟨c, hK, _, hs, hcell⟩ := hall j p hp
    exact ⟨c, hs, hK, fun i u hiu => by rw [← Addr.add_add]; exact hcell i u hiu⟩
   ·obtain ⟨i, hi, rfl⟩ := List.getElem_of_mem hb
    obtain ⟨_, _, hG, _⟩ := hall i _ (List.getElem?_eq_getElem hi)
    exact hG

structure Fields (P : Program) (off : Nat) (fs : List Field) {α : Type} (d : Kd α) (G : α → Prop) : Prop where
 op : ∀ {H : Type} {enc : TypeId × Value → H} {w : World} {n : Nat} {cs : List Value}, cs.length = off + d.sz →
  (∀ f ∈ fs, ∃ y, DataW.trod enc P w 0 (fun _ => true) true n f.type ((cs.drop f.offset).take (P.cellsOf f.type)) = some y) → ∃ a, d.K w a (cs.drop off) ∧ G a

theorem fieldsOne {P : Program} {off : Nat} {f : Field} {α : Type} {d : Kd α} {G : α → Prop} (o : Opens P d f.type G) (hf : f.offset = off) : Fields P off [f] d G where
 op := fun {H enc w n cs} hl h => by
  obtain ⟨y, hy⟩ := h f (by simp)
  rw [hf, List.take_of_length_le (by rw [← o.sz]; simp; omega)] at hy
  exact o.op hy

theorem fieldsCons {P : Program} {off : Nat} {f : Field} {fs : List Field} {α β : Type} {d : Kd α} {d' : Kd β} {G : α → Prop} {G' : β → Prop} (o : Opens P d f.type G) (hf : f.offset = off) (r : Fields P (off + d.sz) fs d' G') :
 Fields P off (f :: fs) (Kd.pair d d') (fun x => G x.1 ∧ G' x.2) where
 op := fun {H enc w n cs} hl h => by
  have hl' : cs.length = off + (d.sz + d'.sz) := hl
  obtain ⟨y, hy⟩ := h f (by simp)
  rw [hf] at hy
  obtain ⟨a, ha, hg⟩ := o.op hy
  obtain ⟨b, hb, hg'⟩ := r.op (by omega) (fun g hg => h g (by simp [hg]))
  refine ⟨(a, b), ⟨_, _, ?_, ha, hb⟩, hg, hg'⟩
  rw [← o.sz, show cs.drop (off + d.sz) = (cs.drop off).drop d.sz from (List.drop_drop ..).symm]
  exact (List.take_append_drop _ _).symm

theorem opStruct {P : Program} {t : TypeId} {fs : Array Field} {α β : Type} {d : Kd α} {f : β → α} {G : α → Prop} {G' : β → Prop} (hu : P.underlying t = some (.struct fs)) (hc : P.cellsOf t = d.sz)
 (r : Fields P 0 fs.toList d G) (g : α → β) (hfg : ∀ a, f (g a) = a) (hG : ∀ a, G a → G' (g a)) : Opens P (Kd.iso d f) t G' where
 sz := by rw [hc]; rfl
 op := fun {H enc w n cs x} h => by
  obtain ⟨xs, m, rfl, _, hl, hxs, hall⟩ := DataW.trod_struct hu h
  obtain ⟨a, ha, hGa⟩ := r.op (w := w) (n := m) (cs := cs) (by omega) (fun f' hf' => by
   obtain ⟨i, hi, rfl⟩ := List.getElem_of_mem hf'
   have hi' : i < fs.size := by simpa using hi
   have h1 := hall i fs.toList[i] (by simp [hi'])
   rw [List.getElem?_eq_getElem (by omega)] at h1
   exact ⟨_, h1⟩)
  rw [List.drop_zero] at ha
  refine ⟨g a, ?_, hG a hGa⟩
  show d.K w (f (g a)) cs
  rw [hfg]
  exact ha
end Go.Proofs.YtdlapahfmfhbjaaDoor.Op

namespace Go.Proofs.YtdlapahfmfhbjaaDoor.PureFnSegmentsTold
open Go.RowKit Go.Proofs.YtdlapahfmfhbjaaDoor.PA
def Stated : Prop := ∀ (x0 : List Int), ((∀ e_ ∈ x0, Op.OkInt .u8 e_) ∧ x0.length ≤ 9223372036854775807) → ∃ k, laws_FnSegmentsTold.f k x0 = some true
end Go.Proofs.YtdlapahfmfhbjaaDoor.PureFnSegmentsTold

namespace Go.Proofs.YtdlapahfmfhbjaaDoor.Kit
open Go.RowKit Go.Proofs.YtdlapahfmfhbjaaDoorW.PrintWords Go.Proofs.YtdlapahfmfhbjaaDoorW.PrintLast Go.Proofs.YtdlapahfmfhbjaaDoorW.PrintMore
set_option linter.unusedVariables false
set_option linter.unusedSimpArgs false

theorem w64 {x : Int} (h0 : -9223372036854775808 ≤ x) (h1 : x ≤ 9223372036854775807) : wrap64 x = x := by unfold wrap64; omega

section
variable {α β : Type}
theorem evSucc {g : Nat → Option α} {r : α} (h : Ev (fun k => g (k + 1)) r) : Ev g r := Ev.step (fun _ => rfl) h
theorem evPos {c : Prop} [Decidable c] {g f : Nat → Option α} {r : α} (hc : c) (h : Ev g r) : Ev (fun k => if c then g k else f k) r := Ev.congr (fun k => if_pos hc) h
theorem evNeg {c : Prop} [Decidable c] {g f : Nat → Option α} {r : α} (hc : ¬ c) (h : Ev f r) : Ev (fun k => if c then g k else f k) r := Ev.congr (fun k => if_neg hc) h
theorem evIte {c : Prop} [Decidable c] {g f : Nat → Option α} {r s : α} (h : c → Ev g r) (h' : ¬ c → Ev f s) : Ev (fun k => if c then g k else f k) (if c then r else s) := by
 by_cases hc : c
 ·rw [if_pos hc]; exact evPos hc (h hc)
 ·rw [if_neg hc]; exact evNeg hc (h' hc)
theorem evSome (r : α) : Ev (fun _ => some r) r := Ev.now r
theorem evEq {g : Nat → Option α} {r s : α} (h : Ev g r) (e : r = s) : Ev g s := e ▸ h
theorem evBindS {x : Option α} {f : Nat → α → Option β} {a : α} {r : β} (h : x = some a) (k : Ev (fun n => f n a) r) : Ev (fun n => x.bind (f n)) r := by subst h; exact k
theorem evConst {x : Option α} {r : α} (h : x = some r) : Ev (fun _ => x) r := by subst h; exact Ev.now r
end

section
variable {α β : Type}
theorem evUp {r : α} (n : Nat) (g : Nat → Nat → Option α) (step : ∀ i, i < n → Ev (g (i + 1)) r → Ev (g i) r) (last : Ev (g n) r) : Ev (g 0) r := by
 have key : ∀ d i, i + d = n → Ev (g i) r := by
  intro d
  induction d with
  | zero => intro i hi; rw [show i = n by omega]; exact last
  | succ d ih => intro i hi; exact step i (by omega) (ih (i + 1) (by omega))
 exact key n 0 (by omega)
theorem fillStep (f : α → β) (z : β) (l : List α) (i : Nat) (hi : i < l.length) :
 ((l.take i).map f ++ List.replicate (l.length - i) z).set i (f l[i]) = (l.take (i + 1)).map f ++ List.replicate (l.length - (i + 1)) z := by
 have h1 : ((l.take i).map f).length = i := by simp; omega
 rw [show l.length - i = (l.length - (i + 1)) + 1 by omega, List.replicate_succ, List.set_append_right _ _ (by omega), h1, Nat.sub_self, List.set_cons_zero,
  List.take_succ_eq_append_getElem hi, List.map_append, List.append_assoc]
 rfl
theorem takeSnoc (l : List α) (i : Nat) (hi : i < l.length) : l.take (i + 1) = l.take i ++ [l[i]] := List.take_succ_eq_append_getElem hi
theorem ci (i : Nat) : (i : Int) + 1 = ((i + 1 : Nat) : Int) := by omega
theorem sizeApp (a b : ByteArray) : (a ++ b).size = a.size + b.size := ByteArray.size_append
end

theorem okI64 {n : Int} (h : (Lit.int .i64 n).wf = true) : -9223372036854775808 ≤ n ∧ n ≤ 9223372036854775807 := by
 simp [Lit.wf, IntKind.min, IntKind.max, IntKind.signed, IntKind.bits] at h
 omega
end Go.Proofs.YtdlapahfmfhbjaaDoor.Kit

namespace Go.Proofs.YtdlapahfmfhbjaaDoor.DigestEq
open Go.RowKit Go.Proofs.YtdlapahfmfhbjaaDoorW.PrintWords Go.Proofs.YtdlapahfmfhbjaaDoorW.PrintLast Go.Proofs.YtdlapahfmfhbjaaDoorW.PrintMore Go.Proofs.YtdlapahfmfhbjaaDoor.Kit Go.Proofs.YtdlapahfmfhbjaaDoor.PA
open Go.Proofs.YtdlapahfmfhbjaaDoor.PH (hs hs_len padS padS_size blocks f4 f4_len padBytes padZ hFirst shaB shaB_len outs strOfNums_size)
set_option linter.unusedVariables false
theorem strApp (a b : List Int) : strOfNums (a ++ b) = strOfNums a ++ strOfNums b := by
 apply ByteArray.ext
 simp [strOfNums]
theorem strBytes (s : ByteArray) : strOfNums (bytesOf s) = s := by
 apply ByteArray.ext
 apply Array.ext'
 simp [strOfNums, bytesOf, Function.comp_def]
theorem hi8 (N : Int) : (List.range 8).map (fun q => N / 2 ^ (8 * (7 - q)) % 256) = f4 (N / 4294967296) ++ f4 N := by
 have h0 : N / 72057594037927936 % 256 = N / 4294967296 / 16777216 % 256 := by omega
 have h1 : N / 281474976710656 % 256 = N / 4294967296 / 65536 % 256 := by omega
 have h2 : N / 1099511627776 % 256 = N / 4294967296 / 256 % 256 := by omega
 simp [List.range, List.range.loop, f4, h0, h1, h2]
theorem padEq (a0 : ByteArray) (hb : a0.size ≤ 1073741824) : impl_PadText.f a0 = some (padS a0) := by
 have e : Int.tmod (wrap64 (64 - (Int.tmod (wrap64 ((a0.size : Int) + 9)) 64))) 64 = (padZ a0.size : Int) := by
  have c1 : Int.tmod ((a0.size : Int) + 9) 64 = ((a0.size : Int) + 9) % 64 := Int.tmod_eq_emod_of_nonneg (by omega)
  rw [w64 (x := (a0.size : Int) + 9) (by omega) (by omega), c1, w64 (by omega) (by omega)]
  have c2 : Int.tmod (64 - ((a0.size : Int) + 9) % 64) 64 = (64 - ((a0.size : Int) + 9) % 64) % 64 := Int.tmod_eq_emod_of_nonneg (by omega)
  rw [c2]
  unfold padZ
  omega
 have hz : padZ a0.size < 64 := by unfold padZ; omega
 have e8 : wrap64 (8 * (a0.size : Int)) = 8 * (a0.size : Int) := w64 (by omega) (by omega)
 unfold impl_PadText.f impl_four.f
 rw [e, e8, if_pos (by omega), if_pos (by omega), if_pos (by omega)]
 simp only [Option.bind_some, Int.toNat_natCast]
 have s1 : (a0 ++ (⟨#[128]⟩ : ByteArray)).size = a0.size + 1 := by rw [ByteArray.size_append]; rfl
 have s2 : (strOfNums (List.replicate (padZ a0.size) 0)).size = padZ a0.size := by rw [strOfNums_size, List.length_replicate]
 have s3 (x : Int) : (strOfNums [x / 16777216 % 256, x / 65536 % 256, x / 256 % 256, x % 256]).size = 4 := by rw [strOfNums_size]; rfl
 rw [if_pos (by rw [s1, s2]; omega), if_pos (by rw [ByteArray.size_append, s1, s2, s3]; omega), if_pos (by rw [ByteArray.size_append, ByteArray.size_append, s1, s2, s3, s3]; omega)]
 unfold padS padBytes
 have c (l : List Int) : strOfNums (128 :: l) = (⟨#[128]⟩ : ByteArray) ++ strOfNums l := strApp [128] l
 rw [hi8, strApp, c, strApp, strApp, strBytes]
 simp only [← ByteArray.append_assoc]
 rfl
theorem half_first : ∀ x ∈ hFirst, 0 ≤ x ∧ x ≤ 4294967295 := by decide
theorem half_sha (l : List Int) (t : ByteArray) (h : l.length = 8) : ∀ x ∈ shaB l t, 0 ≤ x ∧ x ≤ 4294967295 := by
 intro x hx
 unfold PH.shaB PH.outs at hx
 rw [List.drop_of_length_le (by omega), List.append_nil] at hx
 obtain ⟨i, _, rfl⟩ := List.mem_map.1 hx
 constructor <;> omega
theorem half_hs (p : ByteArray) : ∀ j, ∀ x ∈ hs p j, 0 ≤ x ∧ x ≤ 4294967295
 | 0 => half_first
 | j + 1 => half_sha _ _ (hs_len p j)
theorem rdS (l : List Int) (i : Nat) (hi : i < l.length) : rd l (i : Int) = l[i] := by simp [rd, hi]
theorem ev_out (s : List Int) (h : s.length = 8) : Ev (fun k => impl_Digest.l1 k (⟨#[]⟩ : ByteArray) s (s.length : Int) 0) (strOfNums (s.flatMap f4)) := by
 have key := evUp (r := strOfNums (s.flatMap f4)) 8 (fun i k => impl_Digest.l1 k (strOfNums ((s.take i).flatMap f4)) s (s.length : Int) (i : Int)) ?_ ?_
 ·exact key
 ·intro i hi ih
  refine evSucc ?_
  simp only [impl_Digest.l1]
  have hsz : (strOfNums ((s.take i).flatMap f4)).size = 4 * i := by rw [strOfNums_size, f4_len, List.length_take]; omega
  refine evPos (by omega) (evPos (by omega) (evPos (by omega) (evBindS (a := strOfNums (f4 s[i])) (by rw [rdS s i (by omega)]; rfl) (evPos (by rw [hsz, strOfNums_size]; simp [f4]; omega) ?_))))
  rw [w64 (by omega) (by omega), ci, ← strApp]
  have e : (s.take i).flatMap f4 ++ f4 s[i] = (s.take (i + 1)).flatMap f4 := by
   rw [List.take_succ_eq_append_getElem (by omega), List.flatMap_append]; simp
  rw [e]
  exact ih
 ·refine evSucc ?_
  simp only [impl_Digest.l1]
  refine evNeg (by omega) (evEq (Ev.now _) ?_)
  rw [List.take_of_length_le (by omega)]
def dig (a0 : ByteArray) : ByteArray := strOfNums ((hs (padS a0) (blocks a0.size)).flatMap f4)
theorem dig_spec (a0 : ByteArray) (hb : a0.size ≤ 1073741824) : spec_Digest.f a0 = some (dig a0) := by
 unfold spec_Digest.f; rw [if_pos hb]; rfl
theorem dig_impl (a0 : ByteArray) (hb : a0.size ≤ 1073741824) : Ev (fun k => impl_Digest.f k a0) (dig a0) := by
 simp only [impl_Digest.f]
 refine evBindS (padEq a0 hb) (evBindS (a := hFirst) rfl ?_)
 have hp := padS_size a0
 have hn : blocks a0.size ≤ 16777218 := by unfold PH.blocks; omega
 unfold dig
 generalize blocks a0.size = nb at hp hn ⊢
 generalize padS a0 = p at hp ⊢
 have key := evUp (r := strOfNums ((hs p nb).flatMap f4)) nb (fun i k => impl_Digest.l0 k p (hs p i) (64 * (i : Int))) ?_ ?_
 ·exact key
 ·intro i hi ih
  refine evSucc ?_
  simp only [impl_Digest.l0]
  have hw : wrap64 (64 * (i : Int) + 64) = 64 * (i : Int) + 64 := w64 (by omega) (by omega)
  rw [hw]
  refine evPos (by omega) (evPos (by omega) (evPos (by omega) (evPos (by omega) (evBindS (a := hs p (i + 1)) ?_ ?_))))
  ·rw [show (64 * (i : Int)).toNat = 64 * i by omega, show (64 * (i : Int) + 64).toNat = 64 * i + 64 by omega]
   unfold impl_ShaBlock.f
   rw [if_pos ⟨hs_len p i, by rw [ByteArray.size_extract]; omega, half_hs p i⟩]
   rfl
  ·rw [show 64 * (i : Int) + 64 = 64 * ((i + 1 : Nat) : Int) by omega]
   exact ih
 ·refine evSucc ?_
  simp only [impl_Digest.l0]
  exact evNeg (by omega) (ev_out _ (hs_len p nb))
end Go.Proofs.YtdlapahfmfhbjaaDoor.DigestEq
