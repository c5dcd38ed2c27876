/- Contracts of functions of the program and of the reference, and plain lemmas on what they compute: a part of the proof of the law FnSegments. No condition. -/
import Derived.Test.YtdhjolglbcoijaaDoorG88178x0
import Derived.Test.YtdhjolglbcoijaaDoorG88178x2
import Derived.Test.YtdhjolglbcoijaaDoorG88178x4
import Derived.Test.YtdhjolglbcoijaaDoorJFnSegments1
import Derived.Test.YtdhjolglbcoijaaDoorJFnSegments2
import Derived.Test.YtdhjolglbcoijaaDoorShortV
set_option maxHeartbeats 8000000
set_option maxRecDepth 100000
namespace Go.Proofs.YtdhjolglbcoijaaDoor.PA
open Go.RowKit Go.Proofs.YtdhjolglbcoijaaDoor.Short Go.Proofs.YtdhjolglbcoijaaDoorW.PrintWords Go.Proofs.YtdhjolglbcoijaaDoorW.PrintLast Go.Proofs.YtdhjolglbcoijaaDoorW.PrintMore
attribute [local go_sem] max2_int min2_int max_two min_two max_three min_three max_four min_four   -- for this text's walks alone
set_option linter.unusedVariables false
set_option linter.unusedSimpArgs false

def laws_FnSegments.l0 : Nat → List (S70) → Int → List (S30) → Bool → List (S70) → Bool → Int → Option (Bool)
 | 0, _, _, _, _, _, _, _ => none
 | k + 1, x3, x4, x5, x6, x7, x8, x9 => if x9 < (x5.length : Int) then (if 0 ≤ x9 then ((impl_SegmentText.f k ((rd_T30 x5 x9).f0) ((rd_T30 x5 x9).f1) ((rd_T30 x5 x9).f2) ((rd_T30 x5 x9).f3)).bind fun bt755 => ((impl_ReadSegment.f k bt755.1).bind fun bt757 => (if bt755.2 = true then (if bt757.2.2.2.2 = true then ((laws_sameSegment.f k bt757.1 bt757.2.1 bt757.2.2.1 bt757.2.2.2.1 ((rd_T30 x5 x9).f0) ((rd_T30 x5 x9).f1) ((rd_T30 x5 x9).f2) ((rd_T30 x5 x9).f3)).bind fun t766 => (if t766 = true then ((impl_SegmentOk.f k ((rd_T30 x5 x9).f0) ((rd_T30 x5 x9).f1) ((rd_T30 x5 x9).f2) ((rd_T30 x5 x9).f3)).bind fun t768 => (if t768 = true then (if (((rd_T30 x5 x9).f2).length : Int) > x4 then (some false) else (laws_FnSegments.l0 k x3 x4 x5 x6 x7 x8 (wrap64 (x9 + 1)))) else (some false))) else (some false))) else (some false)) else (some false)))) else (none)) else (if x6 = true then (if x8 = true then ((laws_sameEntries.f k x7 x3).bind fun t770 => (if t770 = true then (if (x5.length : Int) = 0 then (if (x3.length : Int) = 0 then ((spec_Digest.f (⟨#[]⟩ : ByteArray)).bind fun t771 => ((impl_HeadFrom.f k t771 x3).bind fun t772 => ((spec_HeadOf.f k x3).bind fun t773 => (some (t772.toList == t773.toList))))) else (if (x5.length : Int) > 0 then (if 0 ≤ (wrap64 ((x5.length : Int) - 1)) then (if (wrap64 ((x5.length : Int) - 1)) < (x5.length : Int) then ((spec_HeadOf.f k x3).bind fun t775 => (if ((rd_T30 x5 (wrap64 ((x5.length : Int) - 1))).f3).toList = t775.toList then ((spec_Digest.f (⟨#[]⟩ : ByteArray)).bind fun t776 => ((impl_HeadFrom.f k t776 x3).bind fun t777 => ((spec_HeadOf.f k x3).bind fun t778 => (some (t777.toList == t778.toList))))) else (some false))) else (none)) else (none)) else (some false))) else (if (x5.length : Int) > 0 then (if 0 ≤ (wrap64 ((x5.length : Int) - 1)) then (if (wrap64 ((x5.length : Int) - 1)) < (x5.length : Int) then ((spec_HeadOf.f k x3).bind fun t780 => (if ((rd_T30 x5 (wrap64 ((x5.length : Int) - 1))).f3).toList = t780.toList then ((spec_Digest.f (⟨#[]⟩ : ByteArray)).bind fun t781 => ((impl_HeadFrom.f k t781 x3).bind fun t782 => ((spec_HeadOf.f k x3).bind fun t783 => (some (t782.toList == t783.toList))))) else (some false))) else (none)) else (none)) else (some false))) else (some false))) else (some false)) else (some false))
def laws_FnSegments.f (k : Nat) (l0 : List Int) : Option (Bool) := (laws_big.f l0).bind fun t738 => (if t738 = true then (some true) else ((spec_DrawEntries.f k l0).bind fun t739 => ((spec_DrawPlaces.f k l0).bind fun t742 => (if 0 < (t742.length : Int) then ((impl_CutLog.f k t739 (wrap64 (1 + (Int.tmod (rd t742 0) 4)))).bind fun bt746 => ((impl_JoinSegments.f k bt746.1).bind fun bt750 => (laws_FnSegments.l0 k t739 (wrap64 (1 + (Int.tmod (rd t742 0) 4))) bt746.1 bt746.2 bt750.1 bt750.2 0))) else (none)))))
theorem laws_FnSegments.mono_l : ∀ k, (∀ y0 y1 y2 y3 y4 y5 y6, LeO (laws_FnSegments.l0 k y0 y1 y2 y3 y4 y5 y6) (laws_FnSegments.l0 (k + 1) y0 y1 y2 y3 y4 y5 y6))
 | 0 => fun _ _ _ _ _ _ _ r h => by simp [laws_FnSegments.l0] at h
 | k + 1 => by
  have ih0 := laws_FnSegments.mono_l k
  ·intro y0 y1 y2 y3 y4 y5 y6
   unfold laws_FnSegments.l0
   have m0 := @impl_CutLog.mono
   have m1 := @impl_HeadFrom.mono
   have m2 := @impl_JoinSegments.mono
   have m3 := @impl_ReadSegment.mono
   have m4 := @impl_SegmentOk.mono
   have m5 := @impl_SegmentText.mono
   have m6 := @laws_sameEntries.mono
   have m7 := @laws_sameSegment.mono
   have m8 := @spec_DrawEntries.mono
   have m9 := @spec_DrawPlaces.mono
   have m10 := @spec_HeadOf.mono
   exact mo_
theorem laws_FnSegments.mono : ∀ a0 k, LeO (laws_FnSegments.f k a0) (laws_FnSegments.f (k + 1) a0) := by
 intro a0 k
 have ih0 := laws_FnSegments.mono_l k
 unfold laws_FnSegments.f
 have m0 := @impl_CutLog.mono
 have m1 := @impl_HeadFrom.mono
 have m2 := @impl_JoinSegments.mono
 have m3 := @impl_ReadSegment.mono
 have m4 := @impl_SegmentOk.mono
 have m5 := @impl_SegmentText.mono
 have m6 := @laws_sameEntries.mono
 have m7 := @laws_sameSegment.mono
 have m8 := @spec_DrawEntries.mono
 have m9 := @spec_DrawPlaces.mono
 have m10 := @spec_HeadOf.mono
 exact mo_
def laws_FnSegments.T12 : Bool × List (List Nat × List Nat) := (true, [([], []), ([0], [0]), ([1], [1]), ([2], [2]), ([3, 2], [2, 3]), ([2, 4], [2, 4]), ([5, 2], [5]), ([6], [6]), ([6], [6]), ([6], [6]), ([8, 9, 6], [6, 8, 9]), ([10, 6], [6, 10]), ([7, 11, 6, 6], [6, 7, 11]), ([12, 6], [6, 12]), ([6, 13], [6, 13]), ([14, 12], [14]), ([15], [15]), ([15], [15]), ([16, 17, 15], [15, 16, 17]), ([18, 15], [15, 18]), ([19, 15, 15], [15, 19]), ([20, 15], [15, 20]), ([15, 21], [15, 21]), ([22, 20], [22]), ([23], [23]), ([23], [23]), ([24, 25, 23], [23, 24, 25]), ([26, 23], [23, 26]), ([27, 23], [23, 27]), ([28, 23], [23, 28]), ([23], [23]), ([29, 30, 23], [23, 29, 30]), ([23, 31], [23, 31])])
def laws_FnSegments.B12 : List Nat := [0, 1, 3, 7, 15, 31, 63, 127, 127, 127, 895, 1919, 4095, 8191, 16383, 32767, 65535, 65535, 262143, 524287, 1048575, 2097151, 4194303, 8388607, 16777215, 16777215, 67108863, 134217727, 268435455, 536870911, 16777215, 2147483647, 4294967295]
theorem laws_FnSegments.tab12 : rtab .any (opsOf Tryd.f14 12) = laws_FnSegments.T12 := by kernel_rfl
theorem laws_FnSegments.bits12 : waitsOk laws_FnSegments.T12.2 laws_FnSegments.B12 = true := by kernel_rfl
def laws_FnSegments.T14 : Bool × List (List Nat × List Nat) := (true, [([], []), ([0], [0]), ([1], [1]), ([1, 2], [1, 2]), ([3, 1], [3]), ([4], [4]), ([4], [4]), ([5, 6, 4, 4], [4, 5, 6]), ([4, 7], [4, 7]), ([8, 7], [8]), ([9], [9]), ([10, 9], [9, 10]), ([11, 9], [9, 11]), ([12, 9, 9], [9, 12]), ([13], [13]), ([14, 13], [13, 14]), ([15, 13], [13, 15]), ([13, 16, 9], [9, 13, 16]), ([17, 13, 9], [9, 17]), ([18], [18]), ([19, 18], [18, 19]), ([20, 18], [18, 20]), ([21, 18, 18], [18, 21]), ([22], [22]), ([22], [22]), ([24, 22], [22, 24]), ([25, 22], [22, 25]), ([23, 26, 22], [22, 23, 26]), ([27, 22], [22, 27]), ([28, 22], [22, 28]), ([22], [22]), ([30, 22, 22], [22, 30]), ([29, 31, 22], [22, 29, 31]), ([22, 32, 18], [18, 22, 32]), ([18, 33, 9], [9, 18, 33]), ([9, 34], [9, 34]), ([35, 31], [35]), ([36, 36], [36]), ([36], [36]), ([37, 38, 37, 36], [36, 37, 38]), ([36], [36]), ([40, 39, 36], [36, 40]), ([39, 41, 36], [36, 39, 41]), ([36, 42], [36, 42]), ([43, 41, 0, 1, 2, 3, 4, 5, 6, 7, 8, 9, 10, 11, 12, 13, 14, 15, 16, 17, 18, 19, 20, 21, 22, 23, 24, 25, 26, 27, 28, 29, 30, 31, 32, 33, 34, 35, 36, 37, 38, 39, 40, 41, 42, 43], [43])])
def laws_FnSegments.B14 : List Nat := [0, 1, 3, 7, 15, 31, 31, 127, 255, 511, 1023, 2047, 4095, 8191, 16383, 32767, 65535, 131071, 262143, 524287, 1048575, 2097151, 4194303, 8388607, 8388607, 25165823, 58720255, 134217727, 268435455, 536870911, 8388607, 1082130431, 4294967295, 8589934591, 17179869183, 34359738367, 68719476735, 137438953471, 137438953471, 549755813887, 137438953471, 2199023255551, 4398046511103, 8796093022207, 17592186044415]
theorem laws_FnSegments.tab14 : rtab .any (opsOf Tryd.f14 14) = laws_FnSegments.T14 := by kernel_rfl
theorem laws_FnSegments.bits14 : waitsOk laws_FnSegments.T14.2 laws_FnSegments.B14 = true := by kernel_rfl
theorem laws_FnSegments.calls (k : Nat) (A0 : Option Addr) (c0 : Nat) (l0 : List Int) (r : Bool) (w : World) (hr0 : Kd.C (Kd.int .u8) w A0 l0.length l0) (hc0 : l0.length ≤ c0) (hT : Tab w) (hr1 : r = true) (h : laws_FnSegments.f k l0 = some r) :
 Calls Tryd.prog 14 #[.slice A0 l0.length c0] w fun e w' => e = .returned (.bool r) ∧ Below w.heap.size w w' := by
 have hu30 := Tryd.underlying30
 have HR0 := Aside0.mk hr0
 have HC0 := Aside0.mk hc0
 clear hr0 hc0
 have HT := Aside0.mk hT
 clear hT
 have HR1 := Aside0.mk hr1
 clear hr1
 have HB := Aside0.mk (Below.refl w.heap.size w)
 have H := h
 unfold laws_FnSegments.f at H
 clear h
 replace H := bs_ H
 obtain ⟨t738, A2, H⟩ := H
 try dsimp only at H
 by_cases c3 : t738 = true
 ·subst c3
  rw [if_pos rfl] at H
  obtain rfl := Option.some.inj H
  go_enter Tryd.func14, Tryd.ntmps14
  go_wp2_with (first | ((with_reducible refine gate_callee (f := 47) rfl ?_); refine gs_ (some 15) Tryd.func47 #[.slice A0 l0.length c0] ?_; (with_reducible refine (laws_big.calls _ _ l0 true _ ?side1 ?side2 A2.out).mono ?_); (case side1 => exact cs_ HR0.out); (case side2 => exact HC0.out); rintro e w' ⟨rfl, ⟨nd, rfl⟩⟩; refine ⟨_, rfl, ?_⟩))
  go_ret
  exact ⟨er_, bl_⟩
 replace c3 := Bool.eq_false_iff.mpr c3
 subst c3
 rw [nf_] at H
 replace H := bs_ H
 obtain ⟨t739, A4, H⟩ := H
 try dsimp only at H
 replace H := bs_ H
 obtain ⟨t742, A5, H⟩ := H
 try dsimp only at H
 by_cases c6 : 0 < (t742.length : Int)
 rotate_left
 ·exact nn_ c6 H
 rw [if_pos c6] at H
 have c6b0 := decide_eq_true c6
 have c6b1 : decide (0 < t742.length) = true := decide_eq_true (by omega)
 clear c6
 replace H := bs_ H
 obtain ⟨⟨t746, t747⟩, A7, H⟩ := H
 try dsimp only at H
 replace H := bs_ H
 obtain ⟨⟨t750, t751⟩, A8, H⟩ := H
 try dsimp only at H
 have H' := Aside0.mk H
 clear H
 go_enter Tryd.func14, Tryd.ntmps14
 go_wp2_with (first | ((with_reducible refine gate_callee (f := 47) rfl ?_); refine gs_ (some 15) Tryd.func47 #[.slice A0 l0.length c0] ?_; (with_reducible refine (laws_big.calls _ _ l0 false _ ?side1 ?side2 A2.out).mono ?_); (case side1 => exact cs_ HR0.out); (case side2 => exact HC0.out); rintro e w' ⟨rfl, ⟨nd, rfl⟩⟩; refine ⟨_, rfl, ?_⟩) | ((with_reducible refine gate_callee (f := 48) rfl ?_); refine gs_ (some 17) Tryd.func48 #[.slice A0 l0.length c0] ?_; (with_reducible refine (spec_DrawEntries.calls k _ _ l0 t739 _ ?side1 ?side2 A4.out).mono ?_); (case side1 => exact cs_ HR0.out); (case side2 => exact HC0.out); rintro e w9 ⟨v740, rfl, ho0, hb⟩; refine ⟨_, rfl, ?_⟩; have HO741 := Aside0.mk (Kd.R_lower ho0 (below_size bl_)); replace HB := Aside0.mk (below_step bl_ hb); (try clear hb); (try clear ho0)) | ((with_reducible refine gate_callee (f := 58) rfl ?_); refine gs_ (some 19) Tryd.func58 #[.slice A0 l0.length c0] ?_; (with_reducible refine (spec_DrawPlaces.calls k _ _ l0 t742 _ ?side1 ?side2 A5.out).mono ?_); (case side1 => exact cb_ HR0.out HB.out); (case side2 => exact HC0.out); rintro e w10 ⟨v743, rfl, ho0, hb⟩; refine ⟨_, rfl, ?_⟩; replace HO741 := Aside0.mk (Kd.R_below (ra_ HO741.out) hb); have HO744 := Aside0.mk (Kd.R_lower ho0 (below_size bl_)); replace HB := Aside0.mk (below_step bl_ hb); (try clear hb); (try clear ho0); obtain ⟨Ao11, co11, eo11⟩ := Kd.R_slice HO744.out; subst eo11; have p745 : 0 ≤ (0 : Int) := (by omega); have q745 : 0 < (t742.length : Int) := of_decide_eq_true as_; obtain ⟨ad745, e745, hx745_0⟩ := Kd.at_int (Kd.R_reads' HO744.out).2.2 0 p745 q745; cases e745; have qi745 : (0 < t742.length) = True := eq_true (by omega); (try rw [show ((0 : Int)).toNat = 0 from rfl] at hx745_0); (try rw [Addr.add_zero'] at hx745_0); replace p745 := eq_true p745; replace q745 := eq_true q745; obtain ⟨Ao12, co12, eo12⟩ := Kd.R_slice HO741.out; subst eo12) | ((with_reducible refine gate_callee (f := 34) rfl ?_); refine gs_ (some 27) Tryd.func34 #[.slice Ao12 t739.length co12, .int .i64 (wrap64 (1 + (Int.tmod (rd t742 0) 4)))] ?_; (with_reducible refine (impl_CutLog.calls k _ _ t739 (wrap64 (1 + (Int.tmod (rd t742 0) 4))) t746 t747 _ ?side1 ?side2 ?side3 A7.out).mono ?_); (case side1 => exact cs_ ((Kd.R_reads' HO741.out).2.2)); (case side2 => exact (Kd.R_reads' HO741.out).2.1); (case side3 => exact tab_of HT.out bl_); rintro e w13 ⟨v748, rfl, ho0, hb⟩; refine ⟨_, rfl, ?_⟩; replace HO744 := Aside0.mk (Kd.R_below (ra_ HO744.out) hb); have HO749 := Aside0.mk (Kd.S_lower (Kd.S_new' ho0 (Kd.R_lt (ra_ HO741.out))) (below_size bl_)); replace HO741 := Aside0.mk (Kd.R_below (ra_ HO741.out) hb); replace HB := Aside0.mk (below_step bl_ hb); (try clear hb); (try clear ho0); obtain ⟨Ao14, co14, eo14⟩ := Kd.S_slice HO749.out; subst eo14) | ((with_reducible refine gate_callee (f := 41) rfl ?_); refine gs_ (some 32) Tryd.func41 #[.slice Ao14 t746.length co14] ?_; (with_reducible refine (impl_JoinSegments.calls k _ _ t746 t750 t751 _ ?side1 ?side2 ?side3 A8.out).mono ?_); (case side1 => exact cs_ ((Kd.S_reads' HO749.out).2.2)); (case side2 => exact (Kd.S_reads' HO749.out).2.1); (case side3 => exact tab_of HT.out bl_); rintro e w15 ⟨v752, rfl, ho0, hb⟩; refine ⟨_, rfl, ?_⟩; replace HO744 := Aside0.mk (Kd.R_below (ra_ HO744.out) hb); replace HO749 := Aside0.mk (Kd.S_elder' (by (with_reducible repeat (first | apply Kd.S_alloc | apply Kd.S_drewN | apply Kd.S_drew)); exact HO749.out) (Kd.R_base ho0) hb); have HO753 := Aside0.mk (Kd.R_lower (Kd.R_new' ho0 (Kd.R_lt (ra_ HO741.out))) (below_size bl_)); replace HO741 := Aside0.mk (Kd.R_elder' (ra_ HO741.out) (Kd.R_base ho0) hb); replace HB := Aside0.mk (below_step bl_ hb); (try clear hb); (try clear ho0)))
 go_loopg [9] k (fun kq v9 w' => ∃ (x9_1 : Int), v9 = .int .i64 x9_1 ∧ Aside0 (laws_FnSegments.l0 kq t739 (wrap64 (1 + (Int.tmod (rd t742 0) 4))) t746 t747 t750 t751 x9_1 = some r) ∧ Aside0 (kq ≤ k) ∧ Aside0 (Kd.R k70 70 w' w.heap.size (fun k_ => some k_ ≠ (v752 : Value).ownBlock) (.slice Ao12 t739.length co12) t739) ∧ Aside0 (Kd.S k30 30 w' w.heap.size (fun k_ => some k_ ≠ ((.slice Ao12 t739.length co12) : Value).ownBlock ∧ some k_ ≠ (v752 : Value).ownBlock) (.slice Ao14 t746.length co14) t746) ∧ Aside0 (Kd.R k70 70 w' w.heap.size (fun k_ => some k_ ≠ ((.slice Ao12 t739.length co12) : Value).ownBlock) v752 t750) ∧ Aside0 (Below w.heap.size w w'))
 case atStart => exact ⟨(0), (sr_), H', ⟨Nat.le_refl _⟩, ⟨by (with_reducible repeat (first | apply Kd.R_alloc | apply Kd.R_drewN | apply Kd.R_drew)); exact Kd.R_mono HO741.out (fun _ hk => hk.2)⟩, ⟨by (with_reducible repeat (first | apply Kd.S_alloc | apply Kd.S_drewN | apply Kd.S_drew)); exact Kd.S_mono HO749.out (fun _ hk => ⟨hk.1.2, hk.2⟩)⟩, ⟨by (with_reducible repeat (first | apply Kd.R_alloc | apply Kd.R_drewN | apply Kd.R_drew)); exact Kd.R_mono HO753.out (fun _ hk => hk.2)⟩, ⟨bl_⟩⟩
 clear H'
 try clear c3
 try clear c6
 try clear c6b0
 try clear c6b1
 try clear hx745_0
 try clear p745
 try clear q745
 obtain ⟨x9_1, rfl, HA, HK1, HO_3, HO_5, HO_7, HB⟩ := hrel
 cases gk with
 | zero => exact absurd HA.out (by simp [laws_FnSegments.l0])
 | succ k1 => ?_
 have H := HA.out
 clear HA
 simp only [laws_FnSegments.l0] at H
 by_cases c16 : x9_1 < (t746.length : Int)
 ·rw [if_pos c16] at H
  have c16b0 := decide_eq_true c16
  clear c16
  by_cases c17 : 0 ≤ x9_1
  rotate_left
  ·exact nn_ c17 H
  rw [if_pos c17] at H
  have c17b0 := decide_eq_true c17
  clear c17
  replace H := bs_ H
  obtain ⟨⟨t755, t756⟩, A18, H⟩ := H
  try dsimp only at H
  replace H := bs_ H
  obtain ⟨⟨t757, t758, t759, t762, t763⟩, A19, H⟩ := H
  try dsimp only at H
  by_cases c20 : t756 = true
  rotate_left
  ·replace c20 := Bool.eq_false_iff.mpr c20
   subst c20
   rw [nf_] at H
   exact absurd ((Option.some.inj H).trans HR1.out) (by decide)
  subst c20
  rw [if_pos rfl] at H
  by_cases c21 : t763 = true
  rotate_left
  ·replace c21 := Bool.eq_false_iff.mpr c21
   subst c21
   rw [nf_] at H
   exact absurd ((Option.some.inj H).trans HR1.out) (by decide)
  subst c21
  rw [if_pos rfl] at H
  replace H := bs_ H
  obtain ⟨t766, A22, H⟩ := H
  try dsimp only at H
  by_cases c23 : t766 = true
  rotate_left
  ·replace c23 := Bool.eq_false_iff.mpr c23
   subst c23
   rw [nf_] at H
   exact absurd ((Option.some.inj H).trans HR1.out) (by decide)
  subst c23
  rw [if_pos rfl] at H
  replace H := bs_ H
  obtain ⟨t768, A24, H⟩ := H
  try dsimp only at H
  by_cases c25 : t768 = true
  rotate_left
  ·replace c25 := Bool.eq_false_iff.mpr c25
   subst c25
   rw [nf_] at H
   exact absurd ((Option.some.inj H).trans HR1.out) (by decide)
  subst c25
  rw [if_pos rfl] at H
  by_cases c26 : (((rd_T30 t746 x9_1).f2).length : Int) > (wrap64 (1 + (Int.tmod (rd t742 0) 4)))
  ·rw [if_pos c26] at H
   have c26b0 := decide_eq_true c26
   clear c26
   exact absurd ((Option.some.inj H).trans HR1.out) (by decide)
  rw [if_neg c26] at H
  have c26b0 := decide_eq_false c26
  clear c26
  have H' := Aside0.mk H
  clear H
  have p754 : 0 ≤ (x9_1 : Int) := of_decide_eq_true as_
  have q754 : x9_1 < (t746.length : Int) := of_decide_eq_true as_
  obtain ⟨ad754, A754_2, c754_2, e754, hx754_0, hx754_1, hx754_2, hx754_3, hl754_2, hi754_2⟩ := at_T30 (Kd.S_reads' HO_5.out).2.2 x9_1 p754 q754
  cases e754
  obtain ⟨ce754, hce754, hMe754, hcc754⟩ := Kd.S_get HO_5.out z30 x9_1 p754 (by first | exact q754 | exact of_decide_eq_true as_ | (have e_ := (Kd.S_reads' HO_5.out).1; omega))
  obtain ⟨ve754_2, rfl, ge754_2⟩ := k30_openM hMe754
  have hv754_2 := hcc754 2 _ rfl
  rw [add_field _ _ 2 (by omega)] at hv754_2
  replace hv754_2 := Option.some.inj (hv754_2.symm.trans hx754_2)
  rw [hv754_2] at ge754_2
  have HL754_2 := Aside0.mk (show Kd.R k70 70 _ _ _ _ ((rd_T30 t746 x9_1).f2) from ge754_2)
  clear hv754_2 ge754_2
  clear hcc754 hce754
  have HR754_2 := Aside0.mk hi754_2
  have HC754_2 := Aside0.mk hl754_2
  clear hi754_2 hl754_2
  replace p754 := eq_true p754
  replace q754 := eq_true q754
  try go_wp2_with (first | ((with_reducible refine gate_callee (f := 23) rfl ?_); refine gs_ (some 46) Tryd.func23 #[.agg #[.int .i64 ((rd_T30 t746 x9_1).f0), .string ((rd_T30 t746 x9_1).f1), .slice A754_2 ((rd_T30 t746 x9_1).f2).length c754_2, .string ((rd_T30 t746 x9_1).f3)]] ?_; (with_reducible refine (impl_SegmentText.calls k1 ((rd_T30 t746 x9_1).f0) ((rd_T30 t746 x9_1).f1) _ _ ((rd_T30 t746 x9_1).f2) ((rd_T30 t746 x9_1).f3) t755 true _ ?side1 ?side2 ?side3 A18.out).mono ?_); (case side1 => repeat (first | exact (by repeat (first | (with_reducible exact HR754_2.out) | (with_reducible refine Kd.C_alloc ?_ _) | (with_reducible refine Kd.C_drewN ?_ _) | (with_reducible refine Kd.C_drew ?_) | exact HR754_2.out)) | (with_reducible refine Kd.C_alloc ?_ _) | (with_reducible refine Kd.C_drewN ?_ _) | (with_reducible refine Kd.C_drew ?_))); (case side2 => exact HC754_2.out); (case side3 => exact tab_of HT.out bl_); rintro e w27 ⟨rfl, hb⟩; refine ⟨_, rfl, ?_⟩; replace HO_3 := Aside0.mk (Kd.R_below (ra_ HO_3.out) hb); replace HO_5 := Aside0.mk (Kd.S_below (by (with_reducible repeat (first | apply Kd.S_alloc | apply Kd.S_drewN | apply Kd.S_drew)); exact HO_5.out) hb); replace HO_7 := Aside0.mk (Kd.R_below (ra_ HO_7.out) hb); replace HL754_2 := Aside0.mk (Kd.R_below (ra_ HL754_2.out) hb); replace HR754_2 := Aside0.mk (Kd.C_below (by repeat (first | (with_reducible exact HR754_2.out) | (with_reducible refine Kd.C_alloc ?_ _) | (with_reducible refine Kd.C_drewN ?_ _) | (with_reducible refine Kd.C_drew ?_) | exact HR754_2.out)) hb); replace HB := Aside0.mk (below_step bl_ hb); (try clear hb)) | ((with_reducible refine gate_callee (f := 44) rfl ?_); refine gs_ (some 51) Tryd.func44 #[.string t755] ?_; (with_reducible refine (impl_ReadSegment.calls k1 t755 t757 t758 t759 t762 true _ ?side1 A19.out).mono ?_); (case side1 => exact tab_of HT.out bl_); rintro e w28 ⟨v760, rfl, ho0, hb⟩; refine ⟨_, rfl, ?_⟩; replace HO_5 := Aside0.mk (Kd.S_elder' (by (with_reducible repeat (first | apply Kd.S_alloc | apply Kd.S_drewN | apply Kd.S_drew)); exact HO_5.out) (Kd.R_base ho0) hb); have HO761 := Aside0.mk (Kd.R_lower (Kd.R_new' (Kd.R_new' (Kd.R_new' ho0 (Kd.R_lt (ra_ HO_3.out))) (Kd.R_lt (ra_ HO_7.out))) (Kd.R_lt (ra_ HL754_2.out))) (below_size bl_)); replace HO_3 := Aside0.mk (Kd.R_elder' (ra_ HO_3.out) (Kd.R_base ho0) hb); replace HO_7 := Aside0.mk (Kd.R_elder' (ra_ HO_7.out) (Kd.R_base ho0) hb); replace HL754_2 := Aside0.mk (Kd.R_elder' (ra_ HL754_2.out) (Kd.R_base ho0) hb); replace HR754_2 := Aside0.mk (Kd.C_below (by repeat (first | (with_reducible exact HR754_2.out) | (with_reducible refine Kd.C_alloc ?_ _) | (with_reducible refine Kd.C_drewN ?_ _) | (with_reducible refine Kd.C_drew ?_) | exact HR754_2.out)) hb); replace HB := Aside0.mk (below_step bl_ hb); (try clear hb); (try clear ho0)) | ((with_reducible refine gate_dst (N := 12) rfl ?_); (try (refine gate_guard (by rfl) ?_; dsimp only)); refine bx_ 12 30 #[.int .i64 0, .string (⟨#[]⟩ : ByteArray), .slice none 0 0, .string (⟨#[]⟩ : ByteArray)] ?_; intro gb764 hg w29 hbox hb; replace HO_3 := Aside0.mk (Kd.R_below (ra_ HO_3.out) hb); replace HO_5 := Aside0.mk (Kd.S_below (Kd.S_elderB (by (with_reducible repeat (first | apply Kd.S_alloc | apply Kd.S_drewN | apply Kd.S_drew)); exact HO_5.out) gb764 (Nat.le_of_eq hg.symm)) hb); replace HO_7 := Aside0.mk (Kd.R_below (ra_ HO_7.out) hb); replace HL754_2 := Aside0.mk (Kd.R_below (ra_ HL754_2.out) hb); replace HO761 := Aside0.mk (Kd.R_below (ra_ HO761.out) hb); replace HR754_2 := Aside0.mk (Kd.C_below (by repeat (first | (with_reducible exact HR754_2.out) | (with_reducible refine Kd.C_alloc ?_ _) | (with_reducible refine Kd.C_drewN ?_ _) | (with_reducible refine Kd.C_drew ?_) | exact HR754_2.out)) hb); have BK764 := Aside0.mk (hbox); have GW764 := Aside0.mk ((hz_ : w.heap.size ≤ gb764)); have GE764 := Aside0.mk ((hz_ : w.heap.size ≤ gb764)); replace HB := Aside0.mk (below_step bl_ hb); clear hb hbox hg; obtain ⟨hcz30_0, hcz30_1, hcz30_2, hcz30_3, hfz30_0, hfz30_1, hfz30_2, hfz30_3⟩ := cf4_ BK764.out; obtain ⟨Ao31, co31, eo31⟩ := Kd.R_slice HO761.out; subst eo31))
  have n0_ : Aside0 (Kd.R k70 70 ((((w29.setCell ⟨gb764, 0, none⟩ (.int .i64 t757)).setCell ⟨gb764, 1, none⟩ (.string t758)).setCell ⟨gb764, 2, none⟩ (.slice Ao31 t759.length co31)).setCell ⟨gb764, 3, none⟩ (.string t762)) w.heap.size (fun k_ => some k_ ≠ (v752 : Value).ownBlock ∧ some k_ ≠ (.slice Ao31 t759.length co31 : Value).ownBlock) (.slice Ao12 t739.length co12) t739) := ⟨by (with_reducible repeat (first | apply Kd.R_alloc | apply Kd.R_drewN | apply Kd.R_drew)); exact Kd.R_mono (Kd.R_far (p := ⟨gb764, 3, none⟩) (Kd.R_far (p := ⟨gb764, 2, none⟩) (Kd.R_far (p := ⟨gb764, 1, none⟩) (Kd.R_far (p := ⟨gb764, 0, none⟩) (Kd.R_types HO_3.out BK764.out (by decide)) (fun _ hk => hk.2) (.int .i64 t757)) (fun _ hk => hk.2) (.string t758)) (fun _ hk => hk.2) (.slice Ao31 t759.length co31)) (fun _ hk => hk.2) (.string t762)) (fun _ hk => ⟨hk.1.1, hk.1.2⟩)⟩
  have n1_ : Aside0 (Kd.S k30 30 ((((w29.setCell ⟨gb764, 0, none⟩ (.int .i64 t757)).setCell ⟨gb764, 1, none⟩ (.string t758)).setCell ⟨gb764, 2, none⟩ (.slice Ao31 t759.length co31)).setCell ⟨gb764, 3, none⟩ (.string t762)) w.heap.size (fun k_ => some k_ ≠ (.slice Ao12 t739.length co12 : Value).ownBlock ∧ some k_ ≠ (v752 : Value).ownBlock ∧ some k_ ≠ (.slice Ao31 t759.length co31 : Value).ownBlock ∧ k_ ≠ gb764) (.slice (some ad754) t746.length co14) t746) := ⟨by (with_reducible repeat (first | apply Kd.S_alloc | apply Kd.S_drewN | apply Kd.S_drew)); exact Kd.S_mono (Kd.S_far (p := ⟨gb764, 3, none⟩) (Kd.S_far (p := ⟨gb764, 2, none⟩) (Kd.S_far (p := ⟨gb764, 1, none⟩) (Kd.S_far (p := ⟨gb764, 0, none⟩) (Kd.S_mono HO_5.out (fun k_ hk => (⟨hk, hk.2⟩ : _ ∧ k_ ≠ gb764))) (fun _ hk => hk.2) (.int .i64 t757)) (fun _ hk => hk.2) (.string t758)) (fun _ hk => hk.2) (.slice Ao31 t759.length co31)) (fun _ hk => hk.2) (.string t762)) (fun _ hk => ⟨hk.1.1.1.1, ⟨hk.1.1.1.2, ⟨hk.1.1.2, hk.1.2⟩⟩⟩)⟩
  have n2_ : Aside0 (Kd.R k70 70 ((((w29.setCell ⟨gb764, 0, none⟩ (.int .i64 t757)).setCell ⟨gb764, 1, none⟩ (.string t758)).setCell ⟨gb764, 2, none⟩ (.slice Ao31 t759.length co31)).setCell ⟨gb764, 3, none⟩ (.string t762)) w.heap.size (fun k_ => some k_ ≠ (.slice Ao12 t739.length co12 : Value).ownBlock ∧ some k_ ≠ (.slice Ao31 t759.length co31 : Value).ownBlock) v752 t750) := ⟨by (with_reducible repeat (first | apply Kd.R_alloc | apply Kd.R_drewN | apply Kd.R_drew)); exact Kd.R_mono (Kd.R_far (p := ⟨gb764, 3, none⟩) (Kd.R_far (p := ⟨gb764, 2, none⟩) (Kd.R_far (p := ⟨gb764, 1, none⟩) (Kd.R_far (p := ⟨gb764, 0, none⟩) (Kd.R_types HO_7.out BK764.out (by decide)) (fun _ hk => hk.2) (.int .i64 t757)) (fun _ hk => hk.2) (.string t758)) (fun _ hk => hk.2) (.slice Ao31 t759.length co31)) (fun _ hk => hk.2) (.string t762)) (fun _ hk => ⟨hk.1.1, hk.1.2⟩)⟩
  have n3_ : Aside0 (Kd.R k70 70 ((((w29.setCell ⟨gb764, 0, none⟩ (.int .i64 t757)).setCell ⟨gb764, 1, none⟩ (.string t758)).setCell ⟨gb764, 2, none⟩ (.slice Ao31 t759.length co31)).setCell ⟨gb764, 3, none⟩ (.string t762)) w.heap.size (fun k_ => some k_ ≠ (.slice Ao12 t739.length co12 : Value).ownBlock ∧ some k_ ≠ (.slice (some ad754) t746.length co14 : Value).ownBlock ∧ some k_ ≠ (v752 : Value).ownBlock ∧ some k_ ≠ (.slice Ao31 t759.length co31 : Value).ownBlock) (.slice A754_2 ((rd_T30 t746 x9_1).f2).length c754_2) ((rd_T30 t746 x9_1).f2)) := ⟨by (with_reducible repeat (first | apply Kd.R_alloc | apply Kd.R_drewN | apply Kd.R_drew)); exact Kd.R_mono (Kd.R_far (p := ⟨gb764, 3, none⟩) (Kd.R_far (p := ⟨gb764, 2, none⟩) (Kd.R_far (p := ⟨gb764, 1, none⟩) (Kd.R_far (p := ⟨gb764, 0, none⟩) (Kd.R_types HL754_2.out BK764.out (by decide)) (fun _ hk => hk.2) (.int .i64 t757)) (fun _ hk => hk.2) (.string t758)) (fun _ hk => hk.2) (.slice Ao31 t759.length co31)) (fun _ hk => hk.2) (.string t762)) (fun _ hk => ⟨hk.1.1.1.1, ⟨hk.1.1.2, ⟨hk.1.1.1.2, hk.1.2⟩⟩⟩)⟩
  have n4_ : Aside0 (Kd.R k70 70 ((((w29.setCell ⟨gb764, 0, none⟩ (.int .i64 t757)).setCell ⟨gb764, 1, none⟩ (.string t758)).setCell ⟨gb764, 2, none⟩ (.slice Ao31 t759.length co31)).setCell ⟨gb764, 3, none⟩ (.string t762)) w.heap.size (fun k_ => some k_ ≠ (.slice Ao12 t739.length co12 : Value).ownBlock ∧ some k_ ≠ (v752 : Value).ownBlock ∧ some k_ ≠ (.slice A754_2 ((rd_T30 t746 x9_1).f2).length c754_2 : Value).ownBlock) (.slice Ao31 t759.length co31) t759) := ⟨by (with_reducible repeat (first | apply Kd.R_alloc | apply Kd.R_drewN | apply Kd.R_drew)); exact Kd.R_mono (Kd.R_far (p := ⟨gb764, 3, none⟩) (Kd.R_far (p := ⟨gb764, 2, none⟩) (Kd.R_far (p := ⟨gb764, 1, none⟩) (Kd.R_far (p := ⟨gb764, 0, none⟩) (Kd.R_types HO761.out BK764.out (by decide)) (fun _ hk => hk.2) (.int .i64 t757)) (fun _ hk => hk.2) (.string t758)) (fun _ hk => hk.2) (.slice Ao31 t759.length co31)) (fun _ hk => hk.2) (.string t762)) (fun _ hk => ⟨hk.1.1.1.2, ⟨hk.1.1.2, hk.1.2⟩⟩)⟩
  have n5_ : Aside0 (((((w29.setCell ⟨gb764, 0, none⟩ (.int .i64 t757)).setCell ⟨gb764, 1, none⟩ (.string t758)).setCell ⟨gb764, 2, none⟩ (.slice Ao31 t759.length co31)).setCell ⟨gb764, 3, none⟩ (.string t762)).heap[gb764]? = some (.cells #[.int .i64 t757, .string t758, .slice Ao31 t759.length co31, .string t762] 30 (0, 0))) := ⟨bp0_ BK764.out⟩
  have n6_ : Aside0 (Below w.heap.size w ((((w29.setCell ⟨gb764, 0, none⟩ (.int .i64 t757)).setCell ⟨gb764, 1, none⟩ (.string t758)).setCell ⟨gb764, 2, none⟩ (.slice Ao31 t759.length co31)).setCell ⟨gb764, 3, none⟩ (.string t762))) := ⟨bl_⟩
  (try clear HO_3)
  (try clear HO_5)
  (try clear HO_7)
  (try clear HL754_2)
  (try clear HO761)
  (try clear BK764)
  (try clear HB)
  generalize ((((w29.setCell ⟨gb764, 0, none⟩ (.int .i64 t757)).setCell ⟨gb764, 1, none⟩ (.string t758)).setCell ⟨gb764, 2, none⟩ (.slice Ao31 t759.length co31)).setCell ⟨gb764, 3, none⟩ (.string t762)) = w32 at n0_ n1_ n2_ n3_ n4_ n5_ n6_ ⊢
  have HO_3 := n0_
  have HO_5 := n1_
  have HO_7 := n2_
  have HL754_2 := n3_
  have HO761 := n4_
  have BK764 := n5_
  have HB := n6_
  clear n0_ n1_ n2_ n3_ n4_ n5_ n6_
  have n0_ := Aside0.mk (Kd.R_drew HO_3.out)
  have n1_ := Aside0.mk (Kd.S_drew HO_5.out)
  have n2_ := Aside0.mk (Kd.R_drew HO_7.out)
  have n3_ := Aside0.mk (Kd.R_drew HL754_2.out)
  have n4_ := Aside0.mk (Kd.R_drew HO761.out)
  have n5_ := Aside0.mk (blk_drew BK764.out)
  have n6_ := Aside0.mk (below_drew1 HB.out)
  clear HO_3
  clear HO_5
  clear HO_7
  clear HL754_2
  clear HO761
  clear BK764
  clear HB
  have HO_3 := n0_
  have HO_5 := n1_
  have HO_7 := n2_
  have HL754_2 := n3_
  have HO761 := n4_
  have BK764 := n5_
  have HB := n6_
  clear n0_ n1_ n2_ n3_ n4_ n5_ n6_
  have p765 : 0 ≤ (x9_1 : Int) := of_decide_eq_true as_
  have q765 : x9_1 < (t746.length : Int) := of_decide_eq_true as_
  obtain ⟨ad765, A765_2, c765_2, e765, hx765_0, hx765_1, hx765_2, hx765_3, hl765_2, hi765_2⟩ := at_T30 (Kd.S_reads' HO_5.out).2.2 x9_1 p765 q765
  obtain rfl : ad754 = ad765 := (by injection e765)
  obtain ⟨ce765, hce765, hMe765, hcc765⟩ := Kd.S_get HO_5.out z30 x9_1 p765 (by first | exact q765 | exact of_decide_eq_true as_ | (have e_ := (Kd.S_reads' HO_5.out).1; omega))
  obtain ⟨ve765_2, rfl, ge765_2⟩ := k30_openM hMe765
  have hv765_2 := hcc765 2 _ rfl
  rw [add_field _ _ 2 (by omega)] at hv765_2
  replace hv765_2 := Option.some.inj (hv765_2.symm.trans hx765_2)
  rw [hv765_2] at ge765_2
  have HL765_2 := Aside0.mk (show Kd.R k70 70 _ _ _ _ ((rd_T30 t746 x9_1).f2) from ge765_2)
  clear hv765_2 ge765_2
  clear hcc765 hce765
  have HR765_2 := Aside0.mk hi765_2
  have HC765_2 := Aside0.mk hl765_2
  clear hi765_2 hl765_2
  replace p765 := eq_true p765
  replace q765 := eq_true q765
  have p767 : 0 ≤ (x9_1 : Int) := of_decide_eq_true as_
  have q767 : x9_1 < (t746.length : Int) := of_decide_eq_true as_
  obtain ⟨ad767, A767_2, c767_2, e767, hx767_0, hx767_1, hx767_2, hx767_3, hl767_2, hi767_2⟩ := at_T30 (Kd.S_reads' HO_5.out).2.2 x9_1 p767 q767
  obtain rfl : ad754 = ad767 := (by injection e767)
  (have eu_ := hx765_2.symm.trans hx767_2; injection eu_ with eu_; injection eu_ with ea_ en_ ec_; subst ea_; subst ec_)
  obtain ⟨ce767, hce767, hMe767, hcc767⟩ := Kd.S_get HO_5.out z30 x9_1 p767 (by first | exact q767 | exact of_decide_eq_true as_ | (have e_ := (Kd.S_reads' HO_5.out).1; omega))
  obtain ⟨ve767_2, rfl, ge767_2⟩ := k30_openM hMe767
  have hv767_2 := hcc767 2 _ rfl
  rw [add_field _ _ 2 (by omega)] at hv767_2
  replace hv767_2 := Option.some.inj (hv767_2.symm.trans hx767_2)
  rw [hv767_2] at ge767_2
  have HL767_2 := Aside0.mk (show Kd.R k70 70 _ _ _ _ ((rd_T30 t746 x9_1).f2) from ge767_2)
  clear hv767_2 ge767_2
  clear hcc767 hce767
  have HR767_2 := Aside0.mk hi767_2
  have HC767_2 := Aside0.mk hl767_2
  clear hi767_2 hl767_2
  replace p767 := eq_true p767
  replace q767 := eq_true q767
  have p769 : 0 ≤ (x9_1 : Int) := of_decide_eq_true as_
  have q769 : x9_1 < (t746.length : Int) := of_decide_eq_true as_
  obtain ⟨ad769, A769_2, c769_2, e769, hx769_0, hx769_1, hx769_2, hx769_3, hl769_2, hi769_2⟩ := at_T30 (Kd.S_reads' HO_5.out).2.2 x9_1 p769 q769
  obtain rfl : ad754 = ad769 := (by injection e769)
  (have eu_ := hx765_2.symm.trans hx769_2; injection eu_ with eu_; injection eu_ with ea_ en_ ec_; subst ea_; subst ec_)
  obtain ⟨ce769, hce769, hMe769, hcc769⟩ := Kd.S_get HO_5.out z30 x9_1 p769 (by first | exact q769 | exact of_decide_eq_true as_ | (have e_ := (Kd.S_reads' HO_5.out).1; omega))
  obtain ⟨ve769_2, rfl, ge769_2⟩ := k30_openM hMe769
  have hv769_2 := hcc769 2 _ rfl
  rw [add_field _ _ 2 (by omega)] at hv769_2
  replace hv769_2 := Option.some.inj (hv769_2.symm.trans hx769_2)
  rw [hv769_2] at ge769_2
  have HL769_2 := Aside0.mk (show Kd.R k70 70 _ _ _ _ ((rd_T30 t746 x9_1).f2) from ge769_2)
  clear hv769_2 ge769_2
  clear hcc769 hce769
  have HR769_2 := Aside0.mk hi769_2
  have HC769_2 := Aside0.mk hl769_2
  clear hi769_2 hl769_2
  replace p769 := eq_true p769
  replace q769 := eq_true q769
  refine start_ (n := 33) (S := fun w' => w'.cell? ⟨gb764, 0, none⟩ = some (.int .i64 t757) ∧ w'.cell? ⟨gb764, 1, none⟩ = some (.string t758) ∧ w'.cell? ⟨gb764, 2, none⟩ = some (.slice Ao31 t759.length co31) ∧ w'.cell? ⟨gb764, 3, none⟩ = some (.string t762) ∧ w'.cell? (ad754.add ((x9_1).toNat * 4)) = some (.int .i64 ((rd_T30 t746 x9_1).f0)) ∧ w'.cell? ⟨(ad754.add ((x9_1).toNat * 4)).block, (ad754.add ((x9_1).toNat * 4)).off + 1, none⟩ = some (.string ((rd_T30 t746 x9_1).f1)) ∧ w'.cell? ⟨(ad754.add ((x9_1).toNat * 4)).block, (ad754.add ((x9_1).toNat * 4)).off + 2, none⟩ = some (.slice A765_2 ((rd_T30 t746 x9_1).f2).length c765_2) ∧ w'.cell? ⟨(ad754.add ((x9_1).toNat * 4)).block, (ad754.add ((x9_1).toNat * 4)).off + 3, none⟩ = some (.string ((rd_T30 t746 x9_1).f3)) ∧ w'.cell? (ad754.add ((x9_1).toNat * 4)) = some (.int .i64 ((rd_T30 t746 x9_1).f0)) ∧ w'.cell? ⟨(ad754.add ((x9_1).toNat * 4)).block, (ad754.add ((x9_1).toNat * 4)).off + 1, none⟩ = some (.string ((rd_T30 t746 x9_1).f1)) ∧ w'.cell? ⟨(ad754.add ((x9_1).toNat * 4)).block, (ad754.add ((x9_1).toNat * 4)).off + 2, none⟩ = some (.slice A765_2 ((rd_T30 t746 x9_1).f2).length c765_2) ∧ w'.cell? ⟨(ad754.add ((x9_1).toNat * 4)).block, (ad754.add ((x9_1).toNat * 4)).off + 3, none⟩ = some (.string ((rd_T30 t746 x9_1).f3)) ∧ w'.cell? (ad754.add ((x9_1).toNat * 4)) = some (.int .i64 ((rd_T30 t746 x9_1).f0)) ∧ w'.cell? ⟨(ad754.add ((x9_1).toNat * 4)).block, (ad754.add ((x9_1).toNat * 4)).off + 1, none⟩ = some (.string ((rd_T30 t746 x9_1).f1)) ∧ w'.cell? ⟨(ad754.add ((x9_1).toNat * 4)).block, (ad754.add ((x9_1).toNat * 4)).off + 2, none⟩ = some (.slice A765_2 ((rd_T30 t746 x9_1).f2).length c765_2) ∧ w'.cell? ⟨(ad754.add ((x9_1).toNat * 4)).block, (ad754.add ((x9_1).toNat * 4)).off + 3, none⟩ = some (.string ((rd_T30 t746 x9_1).f3))) (ds := []) #[false, false, false, false, false, false, false, false, false, false, false, false, false, false, false, false, false, false, false, false, false, false, false, false, false, false, false, false, false, false, false, false, false] (by kernel_rfl) rfl rfl ⟨(blk_cell BK764.out 0).trans rfl, (blk_cell BK764.out 1).trans rfl, (blk_cell BK764.out 2).trans rfl, (blk_cell BK764.out 3).trans rfl, hx765_0, hx765_1, hx765_2, hx765_3, hx767_0, hx767_1, hx767_2, hx767_3, hx769_0, hx769_1, hx769_2, hx769_3⟩ (fun hHeld => ?_); refine with_tabW laws_FnSegments.tab12 laws_FnSegments.bits12 (fun HT_ HW_ => ?_)
  generalize w32.drew = w33 at HO_3 HO_5 HO_7 HL754_2 HO761 BK764 HB HL765_2 HL767_2 HL769_2 HR765_2 HR767_2 HR769_2 hx765_0 hx765_1 hx765_2 hx765_3 hx767_0 hx767_1 hx767_2 hx767_3 hx769_0 hx769_1 hx769_2 hx769_3 hHeld ⊢
  refine pu_ 0 54 HT_ ?_
  refine pu_ 1 55 HT_ ?_
  refine pu_ 2 56 HT_ ?_
  refine pu_ 3 57 HT_ ?_
  refine pu_ 4 58 HT_ ?_
  refine pu_ 5 59 HT_ ?_
  refine pu_ 6 60 HT_ ?_
  refine pu_ 8 62 HT_ ?_
  refine pu_ 9 63 HT_ ?_
  refine pu_ 10 64 HT_ ?_
  refine ta_ 7 61 HT_ HW_ hHeld ?_ (r := by rintro w' ⟨s0, s1, s2, s3, s4, s5, s6, s7, s8, s9, s10, s11, s12, s13, s14, s15⟩; go_simp; with_reducible rfl)
  refine ta_ 11 65 HT_ HW_ hHeld ?_ (r := by rintro w' ⟨s0, s1, s2, s3, s4, s5, s6, s7, s8, s9, s10, s11, s12, s13, s14, s15⟩; go_simp; with_reducible rfl)
  refine on_ 12 66 HT_ (fun K hK => ?_)
  refine goes_ Tryd.func67 (by kernel_rfl) rfl #[.agg #[.int .i64 t757, .string t758, .slice Ao31 t759.length co31, .string t762], .agg #[.int .i64 ((rd_T30 t746 x9_1).f0), .string ((rd_T30 t746 x9_1).f1), .slice A765_2 ((rd_T30 t746 x9_1).f2).length c765_2, .string ((rd_T30 t746 x9_1).f3)]] (by rfl) rfl rfl lm_ ?_
  with_reducible refine (laws_sameSegment.calls k1 t757 t758 _ _ t759 t762 ((rd_T30 t746 x9_1).f0) ((rd_T30 t746 x9_1).f1) _ _ ((rd_T30 t746 x9_1).f2) ((rd_T30 t746 x9_1).f3) true _ ?side1 ?side2 ?side3 ?side4 A22.out).mono ?_
  (case side1 => exact cs_ ((Kd.R_reads' HO761.out).2.2))
  (case side2 => exact (Kd.R_reads' HO761.out).2.1)
  (case side3 => repeat (first | exact (by repeat (first | (with_reducible exact HR765_2.out) | (with_reducible refine Kd.C_alloc ?_ _) | (with_reducible refine Kd.C_drewN ?_ _) | (with_reducible refine Kd.C_drew ?_) | exact HR765_2.out)) | (with_reducible refine Kd.C_alloc ?_ _) | (with_reducible refine Kd.C_drewN ?_ _) | (with_reducible refine Kd.C_drew ?_)))
  (case side4 => exact HC765_2.out)
  rintro e w34 ⟨rfl, hb⟩
  have HS4_ := (hb.cell (World.block_lt_of_cell? _ _ (hHeld.2.2.2.2.1))).trans (hHeld.2.2.2.2.1)
  have HS5_ := (hb.cell (World.block_lt_of_cell? _ _ (hHeld.2.2.2.2.2.1))).trans (hHeld.2.2.2.2.2.1)
  have HS6_ := (hb.cell (World.block_lt_of_cell? _ _ (hHeld.2.2.2.2.2.2.1))).trans (hHeld.2.2.2.2.2.2.1)
  have HS7_ := (hb.cell (World.block_lt_of_cell? _ _ (hHeld.2.2.2.2.2.2.2.1))).trans (hHeld.2.2.2.2.2.2.2.1)
  have HS8_ := (hb.cell (World.block_lt_of_cell? _ _ (hHeld.2.2.2.2.2.2.2.2.1))).trans (hHeld.2.2.2.2.2.2.2.2.1)
  have HS9_ := (hb.cell (World.block_lt_of_cell? _ _ (hHeld.2.2.2.2.2.2.2.2.2.1))).trans (hHeld.2.2.2.2.2.2.2.2.2.1)
  have HS10_ := (hb.cell (World.block_lt_of_cell? _ _ (hHeld.2.2.2.2.2.2.2.2.2.2.1))).trans (hHeld.2.2.2.2.2.2.2.2.2.2.1)
  have HS11_ := (hb.cell (World.block_lt_of_cell? _ _ (hHeld.2.2.2.2.2.2.2.2.2.2.2.1))).trans (hHeld.2.2.2.2.2.2.2.2.2.2.2.1)
  have HS12_ := (hb.cell (World.block_lt_of_cell? _ _ (hHeld.2.2.2.2.2.2.2.2.2.2.2.2.1))).trans (hHeld.2.2.2.2.2.2.2.2.2.2.2.2.1)
  have HS13_ := (hb.cell (World.block_lt_of_cell? _ _ (hHeld.2.2.2.2.2.2.2.2.2.2.2.2.2.1))).trans (hHeld.2.2.2.2.2.2.2.2.2.2.2.2.2.1)
  have HS14_ := (hb.cell (World.block_lt_of_cell? _ _ (hHeld.2.2.2.2.2.2.2.2.2.2.2.2.2.2.1))).trans (hHeld.2.2.2.2.2.2.2.2.2.2.2.2.2.2.1)
  have HS15_ := (hb.cell (World.block_lt_of_cell? _ _ (hHeld.2.2.2.2.2.2.2.2.2.2.2.2.2.2.2))).trans (hHeld.2.2.2.2.2.2.2.2.2.2.2.2.2.2.2)
  refine ⟨_, rfl, ?_⟩
  have n0_ := Aside0.mk (Kd.R_below (ra_ HO_3.out) hb)
  have n1_ := Aside0.mk (Kd.S_below (by (with_reducible repeat (first | apply Kd.S_alloc | apply Kd.S_drewN | apply Kd.S_drew)); exact HO_5.out) hb)
  have n2_ := Aside0.mk (Kd.R_below (ra_ HO_7.out) hb)
  have n3_ := Aside0.mk (Kd.R_below (ra_ HL754_2.out) hb)
  have n4_ := Aside0.mk (Kd.R_below (ra_ HO761.out) hb)
  have n5_ := Aside0.mk (Kd.R_below (ra_ HL765_2.out) hb)
  have n6_ := Aside0.mk (blk_below (bn0_ BK764.out) hb)
  have n7_ := Aside0.mk (Kd.C_below (by repeat (first | (with_reducible exact HR765_2.out) | (with_reducible refine Kd.C_alloc ?_ _) | (with_reducible refine Kd.C_drewN ?_ _) | (with_reducible refine Kd.C_drew ?_) | exact HR765_2.out)) hb)
  have n8_ := Aside0.mk (below_step bl_ hb)
  replace HL767_2 := Aside0.mk (Kd.R_below (ra_ HL767_2.out) hb)
  replace HL769_2 := Aside0.mk (Kd.R_below (ra_ HL769_2.out) hb)
  replace HR767_2 := Aside0.mk (Kd.C_below (by repeat (first | (with_reducible exact HR767_2.out) | (with_reducible refine Kd.C_alloc ?_ _) | (with_reducible refine Kd.C_drewN ?_ _) | (with_reducible refine Kd.C_drew ?_) | exact HR767_2.out)) hb)
  replace HR769_2 := Aside0.mk (Kd.C_below (by repeat (first | (with_reducible exact HR769_2.out) | (with_reducible refine Kd.C_alloc ?_ _) | (with_reducible refine Kd.C_drewN ?_ _) | (with_reducible refine Kd.C_drew ?_) | exact HR769_2.out)) hb)
  clear HO_3
  clear HO_5
  clear HO_7
  clear HL754_2
  clear HO761
  clear HL765_2
  clear BK764
  clear HR765_2
  clear HB
  have HO_3 := n0_
  have HO_5 := n1_
  have HO_7 := n2_
  have HL754_2 := n3_
  have HO761 := n4_
  have HL765_2 := n5_
  have BK764 := n6_
  have HR765_2 := n7_
  have HB := n8_
  clear n0_ n1_ n2_ n3_ n4_ n5_ n6_ n7_ n8_
  (try clear hb)
  (try clear hb2)
  (try clear hk)
  (try clear hi)
  refine hK.out _ _ ⟨(blk_cell BK764.out 0).trans rfl, (blk_cell BK764.out 1).trans rfl, (blk_cell BK764.out 2).trans rfl, (blk_cell BK764.out 3).trans rfl, HS4_, HS5_, HS6_, HS7_, HS8_, HS9_, HS10_, HS11_, HS12_, HS13_, HS14_, HS15_⟩ (fun hHeld => ?_)
  clear hK K
  refine norm_ (a' := ?_) ?_ ?_
  rotate_left
  ·show Act.put _ (some 66) _ = _
   simp only [Act.put, List.setIfInBounds_toArray, List.set_cons_zero, List.set_cons_succ, i64_w, i32_w]
   rfl
  refine pu_ 13 67 HT_ ?_
  refine pu_ 14 68 HT_ ?_
  refine pu_ 15 69 HT_ ?_
  refine pu_ 16 70 HT_ ?_
  refine pu_ 17 71 HT_ ?_
  refine pu_ 18 72 HT_ ?_
  refine ta_ 19 73 HT_ HW_ hHeld ?_ (r := by rintro w' ⟨s0, s1, s2, s3, s4, s5, s6, s7, s8, s9, s10, s11, s12, s13, s14, s15⟩; go_simp; with_reducible rfl)
  refine on_ 20 74 HT_ (fun K hK => ?_)
  refine goes_ Tryd.func20 (by kernel_rfl) rfl #[.agg #[.int .i64 ((rd_T30 t746 x9_1).f0), .string ((rd_T30 t746 x9_1).f1), .slice A765_2 ((rd_T30 t746 x9_1).f2).length c765_2, .string ((rd_T30 t746 x9_1).f3)]] (by rfl) rfl rfl lm_ ?_
  with_reducible refine (impl_SegmentOk.calls k1 ((rd_T30 t746 x9_1).f0) ((rd_T30 t746 x9_1).f1) _ _ ((rd_T30 t746 x9_1).f2) ((rd_T30 t746 x9_1).f3) true _ ?side1 ?side2 ?side3 A24.out).mono ?_
  (case side1 => repeat (first | exact (by repeat (first | (with_reducible exact HR767_2.out) | (with_reducible refine Kd.C_alloc ?_ _) | (with_reducible refine Kd.C_drewN ?_ _) | (with_reducible refine Kd.C_drew ?_) | exact HR767_2.out)) | (with_reducible refine Kd.C_alloc ?_ _) | (with_reducible refine Kd.C_drewN ?_ _) | (with_reducible refine Kd.C_drew ?_)))
  (case side2 => exact HC767_2.out)
  (case side3 => exact tab_of HT.out bl_)
  rintro e w35 ⟨rfl, hb⟩
  have HS4_ := (hb.cell (World.block_lt_of_cell? _ _ (hHeld.2.2.2.2.1))).trans (hHeld.2.2.2.2.1)
  have HS5_ := (hb.cell (World.block_lt_of_cell? _ _ (hHeld.2.2.2.2.2.1))).trans (hHeld.2.2.2.2.2.1)
  have HS6_ := (hb.cell (World.block_lt_of_cell? _ _ (hHeld.2.2.2.2.2.2.1))).trans (hHeld.2.2.2.2.2.2.1)
  have HS7_ := (hb.cell (World.block_lt_of_cell? _ _ (hHeld.2.2.2.2.2.2.2.1))).trans (hHeld.2.2.2.2.2.2.2.1)
  have HS8_ := (hb.cell (World.block_lt_of_cell? _ _ (hHeld.2.2.2.2.2.2.2.2.1))).trans (hHeld.2.2.2.2.2.2.2.2.1)
  have HS9_ := (hb.cell (World.block_lt_of_cell? _ _ (hHeld.2.2.2.2.2.2.2.2.2.1))).trans (hHeld.2.2.2.2.2.2.2.2.2.1)
  have HS10_ := (hb.cell (World.block_lt_of_cell? _ _ (hHeld.2.2.2.2.2.2.2.2.2.2.1))).trans (hHeld.2.2.2.2.2.2.2.2.2.2.1)
  have HS11_ := (hb.cell (World.block_lt_of_cell? _ _ (hHeld.2.2.2.2.2.2.2.2.2.2.2.1))).trans (hHeld.2.2.2.2.2.2.2.2.2.2.2.1)
  have HS12_ := (hb.cell (World.block_lt_of_cell? _ _ (hHeld.2.2.2.2.2.2.2.2.2.2.2.2.1))).trans (hHeld.2.2.2.2.2.2.2.2.2.2.2.2.1)
  have HS13_ := (hb.cell (World.block_lt_of_cell? _ _ (hHeld.2.2.2.2.2.2.2.2.2.2.2.2.2.1))).trans (hHeld.2.2.2.2.2.2.2.2.2.2.2.2.2.1)
  have HS14_ := (hb.cell (World.block_lt_of_cell? _ _ (hHeld.2.2.2.2.2.2.2.2.2.2.2.2.2.2.1))).trans (hHeld.2.2.2.2.2.2.2.2.2.2.2.2.2.2.1)
  have HS15_ := (hb.cell (World.block_lt_of_cell? _ _ (hHeld.2.2.2.2.2.2.2.2.2.2.2.2.2.2.2))).trans (hHeld.2.2.2.2.2.2.2.2.2.2.2.2.2.2.2)
  refine ⟨_, rfl, ?_⟩
  have n0_ := Aside0.mk (Kd.R_below (ra_ HO_3.out) hb)
  have n1_ := Aside0.mk (Kd.S_below (by (with_reducible repeat (first | apply Kd.S_alloc | apply Kd.S_drewN | apply Kd.S_drew)); exact HO_5.out) hb)
  have n2_ := Aside0.mk (Kd.R_below (ra_ HO_7.out) hb)
  have n3_ := Aside0.mk (Kd.R_below (ra_ HL754_2.out) hb)
  have n4_ := Aside0.mk (Kd.R_below (ra_ HO761.out) hb)
  have n5_ := Aside0.mk (Kd.R_below (ra_ HL765_2.out) hb)
  have n6_ := Aside0.mk (Kd.R_below (ra_ HL767_2.out) hb)
  have n7_ := Aside0.mk (blk_below (bn0_ BK764.out) hb)
  have n8_ := Aside0.mk (Kd.C_below (by repeat (first | (with_reducible exact HR765_2.out) | (with_reducible refine Kd.C_alloc ?_ _) | (with_reducible refine Kd.C_drewN ?_ _) | (with_reducible refine Kd.C_drew ?_) | exact HR765_2.out)) hb)
  have n9_ := Aside0.mk (Kd.C_below (by repeat (first | (with_reducible exact HR767_2.out) | (with_reducible refine Kd.C_alloc ?_ _) | (with_reducible refine Kd.C_drewN ?_ _) | (with_reducible refine Kd.C_drew ?_) | exact HR767_2.out)) hb)
  have n10_ := Aside0.mk (below_step bl_ hb)
  replace HL769_2 := Aside0.mk (Kd.R_below (ra_ HL769_2.out) hb)
  replace HR769_2 := Aside0.mk (Kd.C_below (by repeat (first | (with_reducible exact HR769_2.out) | (with_reducible refine Kd.C_alloc ?_ _) | (with_reducible refine Kd.C_drewN ?_ _) | (with_reducible refine Kd.C_drew ?_) | exact HR769_2.out)) hb)
  clear HO_3
  clear HO_5
  clear HO_7
  clear HL754_2
  clear HO761
  clear HL765_2
  clear HL767_2
  clear BK764
  clear HR765_2
  clear HR767_2
  clear HB
  have HO_3 := n0_
  have HO_5 := n1_
  have HO_7 := n2_
  have HL754_2 := n3_
  have HO761 := n4_
  have HL765_2 := n5_
  have HL767_2 := n6_
  have BK764 := n7_
  have HR765_2 := n8_
  have HR767_2 := n9_
  have HB := n10_
  clear n0_ n1_ n2_ n3_ n4_ n5_ n6_ n7_ n8_ n9_ n10_
  (try clear hb)
  (try clear hb2)
  (try clear hk)
  (try clear hi)
  refine hK.out _ _ ⟨(blk_cell BK764.out 0).trans rfl, (blk_cell BK764.out 1).trans rfl, (blk_cell BK764.out 2).trans rfl, (blk_cell BK764.out 3).trans rfl, HS4_, HS5_, HS6_, HS7_, HS8_, HS9_, HS10_, HS11_, HS12_, HS13_, HS14_, HS15_⟩ (fun hHeld => ?_)
  clear hK K
  refine norm_ (a' := ?_) ?_ ?_
  rotate_left
  ·show Act.put _ (some 74) _ = _
   simp only [Act.put, List.setIfInBounds_toArray, List.set_cons_zero, List.set_cons_succ, i64_w, i32_w]
   rfl
  refine pu_ 21 75 HT_ ?_
  refine pu_ 22 76 HT_ ?_
  refine pu_ 23 77 HT_ ?_
  refine pu_ 24 78 HT_ ?_
  refine pu_ 25 79 HT_ ?_
  refine pu_ 26 80 HT_ ?_
  refine pu_ 27 81 HT_ ?_
  refine pu_ 30 84 HT_ ?_
  refine ta_ 28 82 HT_ HW_ hHeld ?_ (r := by rintro w' ⟨s0, s1, s2, s3, s4, s5, s6, s7, s8, s9, s10, s11, s12, s13, s14, s15⟩; go_simp; with_reducible rfl)
  refine pu_ 29 83 HT_ ?_
  refine pu_ 31 85 HT_ ?_
  refine pu_ 32 86 HT_ ?_
  refine done_ (done_of HT_.out (by kernel_rfl)) ?_
  try go_wp2
  go_roundg k1
  case measure => have := HK1.out; omega
  case rel => exact ⟨(wrap64 (x9_1 + 1)), (sr_), H', ⟨by have := HK1.out; omega⟩, ⟨by (with_reducible repeat (first | apply Kd.R_alloc | apply Kd.R_drewN | apply Kd.R_drew)); exact Kd.R_mono HO_3.out (fun _ hk => hk.1)⟩, ⟨by (with_reducible repeat (first | apply Kd.S_alloc | apply Kd.S_drewN | apply Kd.S_drew)); exact Kd.S_mono HO_5.out (fun _ hk => ⟨hk.1, hk.2.1⟩)⟩, ⟨by (with_reducible repeat (first | apply Kd.R_alloc | apply Kd.R_drewN | apply Kd.R_drew)); exact Kd.R_mono HO_7.out (fun _ hk => hk.1)⟩, ⟨bl_⟩⟩
 rw [if_neg c16] at H
 have c16b0 := decide_eq_false c16
 clear c16
 by_cases c36 : t747 = true
 rotate_left
 ·replace c36 := Bool.eq_false_iff.mpr c36
  subst c36
  rw [nf_] at H
  exact absurd ((Option.some.inj H).trans HR1.out) (by decide)
 subst c36
 rw [if_pos rfl] at H
 by_cases c37 : t751 = true
 rotate_left
 ·replace c37 := Bool.eq_false_iff.mpr c37
  subst c37
  rw [nf_] at H
  exact absurd ((Option.some.inj H).trans HR1.out) (by decide)
 subst c37
 rw [if_pos rfl] at H
 replace H := bs_ H
 obtain ⟨t770, A38, H⟩ := H
 try dsimp only at H
 by_cases c39 : t770 = true
 rotate_left
 ·replace c39 := Bool.eq_false_iff.mpr c39
  subst c39
  rw [nf_] at H
  exact absurd ((Option.some.inj H).trans HR1.out) (by decide)
 subst c39
 rw [if_pos rfl] at H
 by_cases c40 : (t746.length : Int) = 0
 rotate_left
 ·rw [if_neg c40] at H
  have c40b0 : ((t746.length : Int) == 0) = false := beq_eq_false_iff_ne.mpr c40
  have c40b1 : ((t746.length : Int) != 0) = true := bne_iff_ne.mpr c40
  have c40b2 : ¬ (t746 = []) := fun h_ => c40 (by rw [h_]; rfl)
  by_cases c65 : (t746.length : Int) > 0
  rotate_left
  ·rw [if_neg c65] at H
   have c65b0 := decide_eq_false c65
   have c65b1 : decide (0 < t746.length) = false := decide_eq_false (by omega)
   clear c65
   exact absurd ((Option.some.inj H).trans HR1.out) (by decide)
  rw [if_pos c65] at H
  have c65b0 := decide_eq_true c65
  have c65b1 : decide (0 < t746.length) = true := decide_eq_true (by omega)
  clear c65
  obtain ⟨ji66, hji66⟩ : ∃ j_ : Int, (wrap64 ((t746.length : Int) - 1)) = j_ := ⟨_, rfl⟩
  replace H : (if 0 ≤ (ji66) then (if (ji66) < (t746.length : Int) then ((spec_HeadOf.f k1 t739).bind fun t780 => (if ((rd_T30 t746 (ji66)).f3).toList = t780.toList then ((spec_Digest.f (⟨#[]⟩ : ByteArray)).bind fun t781 => ((impl_HeadFrom.f k1 t781 t739).bind fun t782 => ((spec_HeadOf.f k1 t739).bind fun t783 => (some (t782.toList == t783.toList))))) else (some false))) else (none)) else (none)) = some r := by first | (rw [hji66] at H; exact H) | (simp only [hji66] at H ⊢; exact H)
  (try rw [hji66] at hji51)
  (try rw [hji66] at A38)
  have hji66w : (IntKind.i64.wrap ((t746.length : Int) - 1)) = ji66 := (i64_w _).trans hji66
  by_cases c67 : 0 ≤ (ji66)
  rotate_left
  ·exact nn_ c67 H
  rw [if_pos c67] at H
  have c67b0 := decide_eq_true c67
  clear c67
  by_cases c68 : (ji66) < (t746.length : Int)
  rotate_left
  ·exact nn_ c68 H
  rw [if_pos c68] at H
  have c68b0 := decide_eq_true c68
  clear c68
  replace H := bs_ H
  obtain ⟨t780, A69, H⟩ := H
  try dsimp only at H
  by_cases c70 : ((rd_T30 t746 (ji66)).f3).toList = t780.toList
  rotate_left
  ·rw [if_neg c70] at H
   have c70b0 : (((rd_T30 t746 (ji66)).f3).toList == t780.toList) = false := beq_eq_false_iff_ne.mpr c70
   have c70b1 : (((rd_T30 t746 (ji66)).f3).toList != t780.toList) = true := bne_iff_ne.mpr c70
   exact absurd ((Option.some.inj H).trans HR1.out) (by decide)
  rw [if_pos c70] at H
  have c70b0 : (((rd_T30 t746 (ji66)).f3).toList == t780.toList) = true := beq_iff_eq.mpr c70
  have c70b1 : (((rd_T30 t746 (ji66)).f3).toList != t780.toList) = false := bne_eq_false_iff_eq.mpr c70
  clear c70
  replace H := bs_ H
  obtain ⟨t781, A71, H⟩ := H
  try dsimp only at H
  replace H := bs_ H
  obtain ⟨t782, A72, H⟩ := H
  try dsimp only at H
  replace H := bs_ H
  obtain ⟨t783, A73, H⟩ := H
  try dsimp only at H
  obtain rfl := Option.some.inj H
  try go_wp2
  have n0_ := Aside0.mk (Kd.R_drew HO_3.out)
  have n1_ := Aside0.mk (Kd.S_drew HO_5.out)
  have n2_ := Aside0.mk (Kd.R_drew HO_7.out)
  have n3_ := Aside0.mk (below_drew1 HB.out)
  clear HO_3
  clear HO_5
  clear HO_7
  clear HB
  have HO_3 := n0_
  have HO_5 := n1_
  have HO_7 := n2_
  have HB := n3_
  clear n0_ n1_ n2_ n3_
  obtain ⟨Ao75, co75, eo75⟩ := Kd.R_slice HO_7.out
  (first | subst eo75 | (injection eo75 with f1_ f2_ f3_; have f4_ := f1_.symm; have f5_ := f3_.symm; clear f1_ f2_ f3_; subst f4_; subst f5_))
  have p779 : 0 ≤ ((ji66) : Int) := of_decide_eq_true as_
  have q779 : (ji66) < (t746.length : Int) := of_decide_eq_true as_
  obtain ⟨ad779, A779_2, c779_2, e779, hx779_0, hx779_1, hx779_2, hx779_3, hl779_2, hi779_2⟩ := at_T30 (Kd.S_reads' HO_5.out).2.2 (ji66) p779 q779
  cases e779
  obtain ⟨ce779, hce779, hMe779, hcc779⟩ := Kd.S_get HO_5.out z30 (ji66) p779 (by first | exact q779 | exact of_decide_eq_true as_ | (have e_ := (Kd.S_reads' HO_5.out).1; omega))
  obtain ⟨ve779_2, rfl, ge779_2⟩ := k30_openM hMe779
  have hv779_2 := hcc779 2 _ rfl
  rw [add_field _ _ 2 (by omega)] at hv779_2
  replace hv779_2 := Option.some.inj (hv779_2.symm.trans hx779_2)
  rw [hv779_2] at ge779_2
  have HL779_2 := Aside0.mk (show Kd.R k70 70 _ _ _ _ ((rd_T30 t746 (ji66)).f2) from ge779_2)
  clear hv779_2 ge779_2
  clear hcc779 hce779
  have HR779_2 := Aside0.mk hi779_2
  have HC779_2 := Aside0.mk hl779_2
  clear hi779_2 hl779_2
  replace p779 := eq_true p779
  replace q779 := eq_true q779
  refine start_ (n := 45) (S := fun w' => w'.cell? (ad779.add (((ji66)).toNat * 4)) = some (.int .i64 ((rd_T30 t746 (ji66)).f0)) ∧ w'.cell? ⟨(ad779.add (((ji66)).toNat * 4)).block, (ad779.add (((ji66)).toNat * 4)).off + 1, none⟩ = some (.string ((rd_T30 t746 (ji66)).f1)) ∧ w'.cell? ⟨(ad779.add (((ji66)).toNat * 4)).block, (ad779.add (((ji66)).toNat * 4)).off + 2, none⟩ = some (.slice A779_2 ((rd_T30 t746 (ji66)).f2).length c779_2) ∧ w'.cell? ⟨(ad779.add (((ji66)).toNat * 4)).block, (ad779.add (((ji66)).toNat * 4)).off + 3, none⟩ = some (.string ((rd_T30 t746 (ji66)).f3))) (ds := []) #[false, false, false, false, false, false, false, false, false, false, false, false, false, false, false, false, false, false, false, false, false, false, false, false, false, false, false, false, false, false, false, false, false, false, false, false, false, false, false, false, false, false, false, false, false] (by kernel_rfl) rfl rfl ⟨hx779_0, hx779_1, hx779_2, hx779_3⟩ (fun hHeld => ?_); refine with_tabW laws_FnSegments.tab14 laws_FnSegments.bits14 (fun HT_ HW_ => ?_)
  generalize wr.drew = w74 at HO_3 HO_5 HO_7 HB HL779_2 HR779_2 hx779_0 hx779_1 hx779_2 hx779_3 hHeld ⊢
  refine pu_ 0 87 HT_ ?_
  refine pu_ 1 88 HT_ ?_
  refine pu_ 2 89 HT_ ?_
  refine pu_ 3 90 HT_ ?_
  refine pu_ 4 91 HT_ ?_
  refine pu_ 5 92 HT_ ?_
  refine pu_ 6 93 HT_ ?_
  refine on_ 7 94 HT_ (fun K hK => ?_)
  refine goes_ Tryd.func66 (by kernel_rfl) rfl #[.slice Ao75 t750.length co75, .slice Ao12 t739.length co12] (by rfl) rfl rfl lm_ ?_
  with_reducible refine (laws_sameEntries.calls k1 _ _ t750 _ _ t739 true _ ?side1 ?side2 ?side3 ?side4 A38.out).mono ?_
  (case side1 => exact cs_ ((Kd.R_reads' HO_7.out).2.2))
  (case side2 => exact (Kd.R_reads' HO_7.out).2.1)
  (case side3 => exact cs_ ((Kd.R_reads' HO_3.out).2.2))
  (case side4 => exact (Kd.R_reads' HO_3.out).2.1)
  rintro e w' ⟨rfl, ⟨nd, rfl⟩⟩
  refine ⟨_, rfl, ?_⟩
  refine hK.out _ _ ⟨hHeld.1, hHeld.2.1, hHeld.2.2.1, hHeld.2.2.2⟩ (fun hHeld => ?_)
  clear hK K
  refine norm_ (a' := ?_) ?_ ?_
  rotate_left
  ·show Act.put _ (some 94) _ = _
   simp only [Act.put, List.setIfInBounds_toArray, List.set_cons_zero, List.set_cons_succ, i64_w, i32_w]
   rfl
  refine pu_ 8 95 HT_ ?_
  refine pu_ 9 96 HT_ ?_
  refine pu_ 10 97 HT_ ?_
  refine pu_ 11 98 HT_ ?_
  refine pu_ 12 99 HT_ ?_
  refine pu_ 13 100 HT_ ?_
  refine pn_ 14 101 HT_ ?_
  refine pn_ 15 102 HT_ ?_
  refine pn_ 16 103 HT_ ?_
  refine pu_ 17 104 HT_ ?_
  refine pu_ 18 105 HT_ ?_
  refine pu_ 19 106 HT_ ?_
  refine pu_ 20 107 HT_ ?_
  refine pu_ 21 108 HT_ ?_
  refine pu_ 22 109 HT_ ?_
  refine pu_ 23 110 HT_ ?_
  refine pu_ 24 111 HT_ ?_
  refine pu_ 25 112 HT_ ?_
  refine pu_ 26 113 HT_ ?_
  refine pu_ 27 114 HT_ ?_
  refine pu_ 28 115 HT_ ?_
  refine pu_ 30 117 HT_ ?_
  refine ta_ 29 116 HT_ HW_ hHeld ?_ (r := by rintro w' ⟨s0, s1, s2, s3⟩; go_simp; with_reducible rfl)
  refine on_ 31 118 HT_ (fun K hK => ?_)
  refine goes_ Tryd.func65 (by kernel_rfl) rfl #[.slice Ao12 t739.length co12] (by rfl) rfl rfl lm_ ?_
  with_reducible refine (spec_HeadOf.calls k1 _ _ t739 t780 _ ?side1 ?side2 A69.out).mono ?_
  (case side1 => exact cs_ ((Kd.R_reads' HO_3.out).2.2))
  (case side2 => exact (Kd.R_reads' HO_3.out).2.1)
  rintro e w76 ⟨rfl, hb⟩
  have HS0_ := (hb.cell (World.block_lt_of_cell? _ _ (hHeld.1))).trans (hHeld.1)
  have HS1_ := (hb.cell (World.block_lt_of_cell? _ _ (hHeld.2.1))).trans (hHeld.2.1)
  have HS2_ := (hb.cell (World.block_lt_of_cell? _ _ (hHeld.2.2.1))).trans (hHeld.2.2.1)
  have HS3_ := (hb.cell (World.block_lt_of_cell? _ _ (hHeld.2.2.2))).trans (hHeld.2.2.2)
  refine ⟨_, rfl, ?_⟩
  have n0_ := Aside0.mk (Kd.R_below (ra_ HO_3.out) hb)
  have n1_ := Aside0.mk (Kd.S_below (by (with_reducible repeat (first | apply Kd.S_alloc | apply Kd.S_drewN | apply Kd.S_drew)); exact HO_5.out) hb)
  have n2_ := Aside0.mk (Kd.R_below (ra_ HO_7.out) hb)
  have n3_ := Aside0.mk (Kd.R_below (ra_ HL779_2.out) hb)
  have n4_ := Aside0.mk (Kd.C_below (by repeat (first | (with_reducible exact HR779_2.out) | (with_reducible refine Kd.C_alloc ?_ _) | (with_reducible refine Kd.C_drewN ?_ _) | (with_reducible refine Kd.C_drew ?_) | exact HR779_2.out)) hb)
  have n5_ := Aside0.mk (below_step bl_ hb)
  clear HO_3
  clear HO_5
  clear HO_7
  clear HL779_2
  clear HR779_2
  clear HB
  have HO_3 := n0_
  have HO_5 := n1_
  have HO_7 := n2_
  have HL779_2 := n3_
  have HR779_2 := n4_
  have HB := n5_
  clear n0_ n1_ n2_ n3_ n4_ n5_
  (try clear hb)
  (try clear hb2)
  (try clear hk)
  (try clear hi)
  refine hK.out _ _ ⟨HS0_, HS1_, HS2_, HS3_⟩ (fun hHeld => ?_)
  clear hK K
  refine norm_ (a' := ?_) ?_ ?_
  rotate_left
  ·show Act.put _ (some 118) _ = _
   simp only [Act.put, List.setIfInBounds_toArray, List.set_cons_zero, List.set_cons_succ, i64_w, i32_w]
   rfl
  refine pu_ 32 119 HT_ ?_
  refine pu_ 33 120 HT_ ?_
  refine pu_ 34 121 HT_ ?_
  refine pu_ 35 122 HT_ ?_
  refine pu_ 36 123 HT_ ?_
  refine pu_ 38 125 HT_ ?_
  refine pu_ 40 127 HT_ ?_
  refine on_ 37 124 HT_ (fun K hK => ?_)
  refine goes_ Tryd.func56 (by kernel_rfl) rfl #[.string (⟨#[]⟩ : ByteArray)] (by rfl) rfl rfl lm_ ?_
  with_reducible refine (spec_Digest.calls (⟨#[]⟩ : ByteArray) t781 _ A71.out).mono ?_
  rintro e w77 ⟨rfl, hb⟩
  have HS0_ := (hb.cell (World.block_lt_of_cell? _ _ (hHeld.1))).trans (hHeld.1)
  have HS1_ := (hb.cell (World.block_lt_of_cell? _ _ (hHeld.2.1))).trans (hHeld.2.1)
  have HS2_ := (hb.cell (World.block_lt_of_cell? _ _ (hHeld.2.2.1))).trans (hHeld.2.2.1)
  have HS3_ := (hb.cell (World.block_lt_of_cell? _ _ (hHeld.2.2.2))).trans (hHeld.2.2.2)
  refine ⟨_, rfl, ?_⟩
  have n0_ := Aside0.mk (Kd.R_below (ra_ HO_3.out) hb)
  have n1_ := Aside0.mk (Kd.S_below (by (with_reducible repeat (first | apply Kd.S_alloc | apply Kd.S_drewN | apply Kd.S_drew)); exact HO_5.out) hb)
  have n2_ := Aside0.mk (Kd.R_below (ra_ HO_7.out) hb)
  have n3_ := Aside0.mk (Kd.R_below (ra_ HL779_2.out) hb)
  have n4_ := Aside0.mk (Kd.C_below (by repeat (first | (with_reducible exact HR779_2.out) | (with_reducible refine Kd.C_alloc ?_ _) | (with_reducible refine Kd.C_drewN ?_ _) | (with_reducible refine Kd.C_drew ?_) | exact HR779_2.out)) hb)
  have n5_ := Aside0.mk (below_step bl_ hb)
  clear HO_3
  clear HO_5
  clear HO_7
  clear HL779_2
  clear HR779_2
  clear HB
  have HO_3 := n0_
  have HO_5 := n1_
  have HO_7 := n2_
  have HL779_2 := n3_
  have HR779_2 := n4_
  have HB := n5_
  clear n0_ n1_ n2_ n3_ n4_ n5_
  (try clear hb)
  (try clear hb2)
  (try clear hk)
  (try clear hi)
  refine hK.out _ _ ⟨HS0_, HS1_, HS2_, HS3_⟩ (fun hHeld => ?_)
  clear hK K
  refine norm_ (a' := ?_) ?_ ?_
  rotate_left
  ·show Act.put _ (some 124) _ = _
   simp only [Act.put, List.setIfInBounds_toArray, List.set_cons_zero, List.set_cons_succ, i64_w, i32_w]
   rfl
  refine on_ 39 126 HT_ (fun K hK => ?_)
  refine goes_ Tryd.func68 (by kernel_rfl) rfl #[.string t781, .slice Ao12 t739.length co12] (by rfl) rfl rfl lm_ ?_
  with_reducible refine (impl_HeadFrom.calls k1 t781 _ _ t739 t782 _ ?side1 ?side2 ?side3 A72.out).mono ?_
  (case side1 => exact cs_ ((Kd.R_reads' HO_3.out).2.2))
  (case side2 => exact (Kd.R_reads' HO_3.out).2.1)
  (case side3 => exact tab_of HT.out bl_)
  rintro e w78 ⟨rfl, hb⟩
  have HS0_ := (hb.cell (World.block_lt_of_cell? _ _ (hHeld.1))).trans (hHeld.1)
  have HS1_ := (hb.cell (World.block_lt_of_cell? _ _ (hHeld.2.1))).trans (hHeld.2.1)
  have HS2_ := (hb.cell (World.block_lt_of_cell? _ _ (hHeld.2.2.1))).trans (hHeld.2.2.1)
  have HS3_ := (hb.cell (World.block_lt_of_cell? _ _ (hHeld.2.2.2))).trans (hHeld.2.2.2)
  refine ⟨_, rfl, ?_⟩
  have n0_ := Aside0.mk (Kd.R_below (ra_ HO_3.out) hb)
  have n1_ := Aside0.mk (Kd.S_below (by (with_reducible repeat (first | apply Kd.S_alloc | apply Kd.S_drewN | apply Kd.S_drew)); exact HO_5.out) hb)
  have n2_ := Aside0.mk (Kd.R_below (ra_ HO_7.out) hb)
  have n3_ := Aside0.mk (Kd.R_below (ra_ HL779_2.out) hb)
  have n4_ := Aside0.mk (Kd.C_below (by repeat (first | (with_reducible exact HR779_2.out) | (with_reducible refine Kd.C_alloc ?_ _) | (with_reducible refine Kd.C_drewN ?_ _) | (with_reducible refine Kd.C_drew ?_) | exact HR779_2.out)) hb)
  have n5_ := Aside0.mk (below_step bl_ hb)
  clear HO_3
  clear HO_5
  clear HO_7
  clear HL779_2
  clear HR779_2
  clear HB
  have HO_3 := n0_
  have HO_5 := n1_
  have HO_7 := n2_
  have HL779_2 := n3_
  have HR779_2 := n4_
  have HB := n5_
  clear n0_ n1_ n2_ n3_ n4_ n5_
  (try clear hb)
  (try clear hb2)
  (try clear hk)
  (try clear hi)
  refine hK.out _ _ ⟨HS0_, HS1_, HS2_, HS3_⟩ (fun hHeld => ?_)
  clear hK K
  refine norm_ (a' := ?_) ?_ ?_
  rotate_left
  ·show Act.put _ (some 126) _ = _
   simp only [Act.put, List.setIfInBounds_toArray, List.set_cons_zero, List.set_cons_succ, i64_w, i32_w]
   rfl
  refine on_ 41 128 HT_ (fun K hK => ?_)
  refine goes_ Tryd.func65 (by kernel_rfl) rfl #[.slice Ao12 t739.length co12] (by rfl) rfl rfl lm_ ?_
  with_reducible refine (spec_HeadOf.calls k1 _ _ t739 t783 _ ?side1 ?side2 A73.out).mono ?_
  (case side1 => exact cs_ ((Kd.R_reads' HO_3.out).2.2))
  (case side2 => exact (Kd.R_reads' HO_3.out).2.1)
  rintro e w79 ⟨rfl, hb⟩
  have HS0_ := (hb.cell (World.block_lt_of_cell? _ _ (hHeld.1))).trans (hHeld.1)
  have HS1_ := (hb.cell (World.block_lt_of_cell? _ _ (hHeld.2.1))).trans (hHeld.2.1)
  have HS2_ := (hb.cell (World.block_lt_of_cell? _ _ (hHeld.2.2.1))).trans (hHeld.2.2.1)
  have HS3_ := (hb.cell (World.block_lt_of_cell? _ _ (hHeld.2.2.2))).trans (hHeld.2.2.2)
  refine ⟨_, rfl, ?_⟩
  have n0_ := Aside0.mk (Kd.R_below (ra_ HO_3.out) hb)
  have n1_ := Aside0.mk (Kd.S_below (by (with_reducible repeat (first | apply Kd.S_alloc | apply Kd.S_drewN | apply Kd.S_drew)); exact HO_5.out) hb)
  have n2_ := Aside0.mk (Kd.R_below (ra_ HO_7.out) hb)
  have n3_ := Aside0.mk (Kd.R_below (ra_ HL779_2.out) hb)
  have n4_ := Aside0.mk (Kd.C_below (by repeat (first | (with_reducible exact HR779_2.out) | (with_reducible refine Kd.C_alloc ?_ _) | (with_reducible refine Kd.C_drewN ?_ _) | (with_reducible refine Kd.C_drew ?_) | exact HR779_2.out)) hb)
  have n5_ := Aside0.mk (below_step bl_ hb)
  clear HO_3
  clear HO_5
  clear HO_7
  clear HL779_2
  clear HR779_2
  clear HB
  have HO_3 := n0_
  have HO_5 := n1_
  have HO_7 := n2_
  have HL779_2 := n3_
  have HR779_2 := n4_
  have HB := n5_
  clear n0_ n1_ n2_ n3_ n4_ n5_
  (try clear hb)
  (try clear hb2)
  (try clear hk)
  (try clear hi)
  refine hK.out _ _ ⟨HS0_, HS1_, HS2_, HS3_⟩ (fun hHeld => ?_)
  clear hK K
  refine norm_ (a' := ?_) ?_ ?_
  rotate_left
  ·show Act.put _ (some 128) _ = _
   simp only [Act.put, List.setIfInBounds_toArray, List.set_cons_zero, List.set_cons_succ, i64_w, i32_w]
   rfl
  refine pu_ 42 129 HT_ ?_
  refine pu_ 43 130 HT_ ?_
  refine pu_ 44 2 HT_ ?_
  refine done_ (done_of HT_.out (by kernel_rfl)) ?_
  try go_wp2
  go_ret
  exact ⟨by first | rfl | (simp [errW_none, errW_some] <;> rfl) | (simp only [← hji66]; first | rfl | (simp [errW_none, errW_some] <;> rfl)) | (simp [*, errW_none, errW_some] <;> rfl) | exact False.elim (Bool.noConfusion ((decide_eq_true (of_eq_true (by assumption))).symm.trans (by assumption))), bl_⟩
 rw [if_pos c40] at H
 have c40b0 : ((t746.length : Int) == 0) = true := beq_iff_eq.mpr c40
 have c40b1 : ((t746.length : Int) != 0) = false := bne_eq_false_iff_eq.mpr c40
 clear c40
 by_cases c41 : (t739.length : Int) = 0
 ·rw [if_pos c41] at H
  have c41b0 : ((t739.length : Int) == 0) = true := beq_iff_eq.mpr c41
  have c41b1 : ((t739.length : Int) != 0) = false := bne_eq_false_iff_eq.mpr c41
  clear c41
  replace H := bs_ H
  obtain ⟨t771, A42, H⟩ := H
  try dsimp only at H
  replace H := bs_ H
  obtain ⟨t772, A43, H⟩ := H
  try dsimp only at H
  replace H := bs_ H
  obtain ⟨t773, A44, H⟩ := H
  try dsimp only at H
  obtain rfl := Option.some.inj H
  try go_wp2
  have n0_ := Aside0.mk (Kd.R_drew HO_3.out)
  have n1_ := Aside0.mk (Kd.S_drew HO_5.out)
  have n2_ := Aside0.mk (Kd.R_drew HO_7.out)
  have n3_ := Aside0.mk (below_drew1 HB.out)
  clear HO_3
  clear HO_5
  clear HO_7
  clear HB
  have HO_3 := n0_
  have HO_5 := n1_
  have HO_7 := n2_
  have HB := n3_
  clear n0_ n1_ n2_ n3_
  obtain ⟨Ao46, co46, eo46⟩ := Kd.R_slice HO_7.out
  (first | subst eo46 | (injection eo46 with f1_ f2_ f3_; have f4_ := f1_.symm; have f5_ := f3_.symm; clear f1_ f2_ f3_; subst f4_; subst f5_))
  refine start_ (n := 45) (S := fun w' => True) (ds := []) #[false, false, false, false, false, false, false, false, false, false, false, false, false, false, false, false, false, false, false, false, false, false, false, false, false, false, false, false, false, false, false, false, false, false, false, false, false, false, false, false, false, false, false, false, false] (by kernel_rfl) rfl rfl trivial (fun hHeld => ?_); refine with_tabW laws_FnSegments.tab14 laws_FnSegments.bits14 (fun HT_ HW_ => ?_)
  generalize wr.drew = w45 at HO_3 HO_5 HO_7 HB hHeld ⊢
  refine pu_ 0 87 HT_ ?_
  refine pu_ 1 88 HT_ ?_
  refine pu_ 2 89 HT_ ?_
  refine pu_ 3 90 HT_ ?_
  refine pu_ 4 91 HT_ ?_
  refine pu_ 5 92 HT_ ?_
  refine pu_ 6 93 HT_ ?_
  refine on_ 7 94 HT_ (fun K hK => ?_)
  refine goes_ Tryd.func66 (by kernel_rfl) rfl #[.slice Ao46 t750.length co46, .slice Ao12 t739.length co12] (by rfl) rfl rfl lm_ ?_
  with_reducible refine (laws_sameEntries.calls k1 _ _ t750 _ _ t739 true _ ?side1 ?side2 ?side3 ?side4 A38.out).mono ?_
  (case side1 => exact cs_ ((Kd.R_reads' HO_7.out).2.2))
  (case side2 => exact (Kd.R_reads' HO_7.out).2.1)
  (case side3 => exact cs_ ((Kd.R_reads' HO_3.out).2.2))
  (case side4 => exact (Kd.R_reads' HO_3.out).2.1)
  rintro e w' ⟨rfl, ⟨nd, rfl⟩⟩
  refine ⟨_, rfl, ?_⟩
  refine hK.out _ _ trivial (fun hHeld => ?_)
  clear hK K
  refine norm_ (a' := ?_) ?_ ?_
  rotate_left
  ·show Act.put _ (some 94) _ = _
   simp only [Act.put, List.setIfInBounds_toArray, List.set_cons_zero, List.set_cons_succ, i64_w, i32_w]
   rfl
  refine pu_ 8 95 HT_ ?_
  refine pu_ 9 96 HT_ ?_
  refine pu_ 10 97 HT_ ?_
  refine pu_ 11 98 HT_ ?_
  refine pu_ 12 99 HT_ ?_
  refine pu_ 13 100 HT_ ?_
  refine pu_ 14 101 HT_ ?_
  refine pu_ 15 102 HT_ ?_
  refine pu_ 16 103 HT_ ?_
  refine pu_ 17 104 HT_ ?_
  refine pu_ 18 105 HT_ ?_
  refine pn_ 19 106 HT_ ?_
  refine pn_ 20 107 HT_ ?_
  refine pn_ 21 108 HT_ ?_
  refine pn_ 22 109 HT_ ?_
  refine pn_ 23 110 HT_ ?_
  refine pn_ 24 111 HT_ ?_
  refine pn_ 25 112 HT_ ?_
  refine pn_ 26 113 HT_ ?_
  refine pn_ 27 114 HT_ ?_
  refine pn_ 28 115 HT_ ?_
  refine pn_ 29 116 HT_ ?_
  refine pn_ 30 117 HT_ ?_
  refine pn_ 31 118 HT_ ?_
  refine pn_ 32 119 HT_ ?_
  refine pn_ 33 120 HT_ ?_
  refine pu_ 34 121 HT_ ?_
  refine pu_ 35 122 HT_ ?_
  refine pu_ 36 123 HT_ ?_
  refine pu_ 38 125 HT_ ?_
  refine pu_ 40 127 HT_ ?_
  refine on_ 37 124 HT_ (fun K hK => ?_)
  refine goes_ Tryd.func56 (by kernel_rfl) rfl #[.string (⟨#[]⟩ : ByteArray)] (by rfl) rfl rfl lm_ ?_
  with_reducible refine (spec_Digest.calls (⟨#[]⟩ : ByteArray) t771 _ A42.out).mono ?_
  rintro e w47 ⟨rfl, hb⟩
  refine ⟨_, rfl, ?_⟩
  have n0_ := Aside0.mk (Kd.R_below (ra_ HO_3.out) hb)
  have n1_ := Aside0.mk (Kd.S_below (by (with_reducible repeat (first | apply Kd.S_alloc | apply Kd.S_drewN | apply Kd.S_drew)); exact HO_5.out) hb)
  have n2_ := Aside0.mk (Kd.R_below (ra_ HO_7.out) hb)
  have n3_ := Aside0.mk (below_step bl_ hb)
  clear HO_3
  clear HO_5
  clear HO_7
  clear HB
  have HO_3 := n0_
  have HO_5 := n1_
  have HO_7 := n2_
  have HB := n3_
  clear n0_ n1_ n2_ n3_
  (try clear hb)
  (try clear hb2)
  (try clear hk)
  (try clear hi)
  refine hK.out _ _ trivial (fun hHeld => ?_)
  clear hK K
  refine norm_ (a' := ?_) ?_ ?_
  rotate_left
  ·show Act.put _ (some 124) _ = _
   simp only [Act.put, List.setIfInBounds_toArray, List.set_cons_zero, List.set_cons_succ, i64_w, i32_w]
   rfl
  refine on_ 39 126 HT_ (fun K hK => ?_)
  refine goes_ Tryd.func68 (by kernel_rfl) rfl #[.string t771, .slice Ao12 t739.length co12] (by rfl) rfl rfl lm_ ?_
  with_reducible refine (impl_HeadFrom.calls k1 t771 _ _ t739 t772 _ ?side1 ?side2 ?side3 A43.out).mono ?_
  (case side1 => exact cs_ ((Kd.R_reads' HO_3.out).2.2))
  (case side2 => exact (Kd.R_reads' HO_3.out).2.1)
  (case side3 => exact tab_of HT.out bl_)
  rintro e w48 ⟨rfl, hb⟩
  refine ⟨_, rfl, ?_⟩
  have n0_ := Aside0.mk (Kd.R_below (ra_ HO_3.out) hb)
  have n1_ := Aside0.mk (Kd.S_below (by (with_reducible repeat (first | apply Kd.S_alloc | apply Kd.S_drewN | apply Kd.S_drew)); exact HO_5.out) hb)
  have n2_ := Aside0.mk (Kd.R_below (ra_ HO_7.out) hb)
  have n3_ := Aside0.mk (below_step bl_ hb)
  clear HO_3
  clear HO_5
  clear HO_7
  clear HB
  have HO_3 := n0_
  have HO_5 := n1_
  have HO_7 := n2_
  have HB := n3_
  clear n0_ n1_ n2_ n3_
  (try clear hb)
  (try clear hb2)
  (try clear hk)
  (try clear hi)
  refine hK.out _ _ trivial (fun hHeld => ?_)
  clear hK K
  refine norm_ (a' := ?_) ?_ ?_
  rotate_left
  ·show Act.put _ (some 126) _ = _
   simp only [Act.put, List.setIfInBounds_toArray, List.set_cons_zero, List.set_cons_succ, i64_w, i32_w]
   rfl
  refine on_ 41 128 HT_ (fun K hK => ?_)
  refine goes_ Tryd.func65 (by kernel_rfl) rfl #[.slice Ao12 t739.length co12] (by rfl) rfl rfl lm_ ?_
  with_reducible refine (spec_HeadOf.calls k1 _ _ t739 t773 _ ?side1 ?side2 A44.out).mono ?_
  (case side1 => exact cs_ ((Kd.R_reads' HO_3.out).2.2))
  (case side2 => exact (Kd.R_reads' HO_3.out).2.1)
  rintro e w49 ⟨rfl, hb⟩
  refine ⟨_, rfl, ?_⟩
  have n0_ := Aside0.mk (Kd.R_below (ra_ HO_3.out) hb)
  have n1_ := Aside0.mk (Kd.S_below (by (with_reducible repeat (first | apply Kd.S_alloc | apply Kd.S_drewN | apply Kd.S_drew)); exact HO_5.out) hb)
  have n2_ := Aside0.mk (Kd.R_below (ra_ HO_7.out) hb)
  have n3_ := Aside0.mk (below_step bl_ hb)
  clear HO_3
  clear HO_5
  clear HO_7
  clear HB
  have HO_3 := n0_
  have HO_5 := n1_
  have HO_7 := n2_
  have HB := n3_
  clear n0_ n1_ n2_ n3_
  (try clear hb)
  (try clear hb2)
  (try clear hk)
  (try clear hi)
  refine hK.out _ _ trivial (fun hHeld => ?_)
  clear hK K
  refine norm_ (a' := ?_) ?_ ?_
  rotate_left
  ·show Act.put _ (some 128) _ = _
   simp only [Act.put, List.setIfInBounds_toArray, List.set_cons_zero, List.set_cons_succ, i64_w, i32_w]
   rfl
  refine pu_ 42 129 HT_ ?_
  refine pu_ 43 130 HT_ ?_
  refine pu_ 44 2 HT_ ?_
  refine done_ (done_of HT_.out (by kernel_rfl)) ?_
  try go_wp2
  go_ret
  exact ⟨er_, bl_⟩
 rw [if_neg c41] at H
 have c41b0 : ((t739.length : Int) == 0) = false := beq_eq_false_iff_ne.mpr c41
 have c41b1 : ((t739.length : Int) != 0) = true := bne_iff_ne.mpr c41
 have c41b2 : ¬ (t739 = []) := fun h_ => c41 (by rw [h_]; rfl)
 by_cases c50 : (t746.length : Int) > 0
 rotate_left
 ·rw [if_neg c50] at H
  have c50b0 := decide_eq_false c50
  have c50b1 : decide (0 < t746.length) = false := decide_eq_false (by omega)
  clear c50
  exact absurd ((Option.some.inj H).trans HR1.out) (by decide)
 rw [if_pos c50] at H
 have c50b0 := decide_eq_true c50
 have c50b1 : decide (0 < t746.length) = true := decide_eq_true (by omega)
 clear c50
 obtain ⟨ji51, hji51⟩ : ∃ j_ : Int, (wrap64 ((t746.length : Int) - 1)) = j_ := ⟨_, rfl⟩
 replace H : (if 0 ≤ (ji51) then (if (ji51) < (t746.length : Int) then ((spec_HeadOf.f k1 t739).bind fun t775 => (if ((rd_T30 t746 (ji51)).f3).toList = t775.toList then ((spec_Digest.f (⟨#[]⟩ : ByteArray)).bind fun t776 => ((impl_HeadFrom.f k1 t776 t739).bind fun t777 => ((spec_HeadOf.f k1 t739).bind fun t778 => (some (t777.toList == t778.toList))))) else (some false))) else (none)) else (none)) = some r := by first | (rw [hji51] at H; exact H) | (simp only [hji51] at H ⊢; exact H)
 (try rw [hji51] at A38)
 have hji51w : (IntKind.i64.wrap ((t746.length : Int) - 1)) = ji51 := (i64_w _).trans hji51
 by_cases c52 : 0 ≤ (ji51)
 rotate_left
 ·exact nn_ c52 H
 rw [if_pos c52] at H
 have c52b0 := decide_eq_true c52
 clear c52
 by_cases c53 : (ji51) < (t746.length : Int)
 rotate_left
 ·exact nn_ c53 H
 rw [if_pos c53] at H
 have c53b0 := decide_eq_true c53
 clear c53
 replace H := bs_ H
 obtain ⟨t775, A54, H⟩ := H
 try dsimp only at H
 by_cases c55 : ((rd_T30 t746 (ji51)).f3).toList = t775.toList
 rotate_left
 ·rw [if_neg c55] at H
  have c55b0 : (((rd_T30 t746 (ji51)).f3).toList == t775.toList) = false := beq_eq_false_iff_ne.mpr c55
  have c55b1 : (((rd_T30 t746 (ji51)).f3).toList != t775.toList) = true := bne_iff_ne.mpr c55
  exact absurd ((Option.some.inj H).trans HR1.out) (by decide)
 rw [if_pos c55] at H
 have c55b0 : (((rd_T30 t746 (ji51)).f3).toList == t775.toList) = true := beq_iff_eq.mpr c55
 have c55b1 : (((rd_T30 t746 (ji51)).f3).toList != t775.toList) = false := bne_eq_false_iff_eq.mpr c55
 clear c55
 replace H := bs_ H
 obtain ⟨t776, A56, H⟩ := H
 try dsimp only at H
 replace H := bs_ H
 obtain ⟨t777, A57, H⟩ := H
 try dsimp only at H
 replace H := bs_ H
 obtain ⟨t778, A58, H⟩ := H
 try dsimp only at H
 obtain rfl := Option.some.inj H
 try go_wp2
 have n0_ := Aside0.mk (Kd.R_drew HO_3.out)
 have n1_ := Aside0.mk (Kd.S_drew HO_5.out)
 have n2_ := Aside0.mk (Kd.R_drew HO_7.out)
 have n3_ := Aside0.mk (below_drew1 HB.out)
 clear HO_3
 clear HO_5
 clear HO_7
 clear HB
 have HO_3 := n0_
 have HO_5 := n1_
 have HO_7 := n2_
 have HB := n3_
 clear n0_ n1_ n2_ n3_
 obtain ⟨Ao60, co60, eo60⟩ := Kd.R_slice HO_7.out
 (first | subst eo60 | (injection eo60 with f1_ f2_ f3_; have f4_ := f1_.symm; have f5_ := f3_.symm; clear f1_ f2_ f3_; subst f4_; subst f5_))
 have p774 : 0 ≤ ((ji51) : Int) := of_decide_eq_true as_
 have q774 : (ji51) < (t746.length : Int) := of_decide_eq_true as_
 obtain ⟨ad774, A774_2, c774_2, e774, hx774_0, hx774_1, hx774_2, hx774_3, hl774_2, hi774_2⟩ := at_T30 (Kd.S_reads' HO_5.out).2.2 (ji51) p774 q774
 cases e774
 obtain ⟨ce774, hce774, hMe774, hcc774⟩ := Kd.S_get HO_5.out z30 (ji51) p774 (by first | exact q774 | exact of_decide_eq_true as_ | (have e_ := (Kd.S_reads' HO_5.out).1; omega))
 obtain ⟨ve774_2, rfl, ge774_2⟩ := k30_openM hMe774
 have hv774_2 := hcc774 2 _ rfl
 rw [add_field _ _ 2 (by omega)] at hv774_2
 replace hv774_2 := Option.some.inj (hv774_2.symm.trans hx774_2)
 rw [hv774_2] at ge774_2
 have HL774_2 := Aside0.mk (show Kd.R k70 70 _ _ _ _ ((rd_T30 t746 (ji51)).f2) from ge774_2)
 clear hv774_2 ge774_2
 clear hcc774 hce774
 have HR774_2 := Aside0.mk hi774_2
 have HC774_2 := Aside0.mk hl774_2
 clear hi774_2 hl774_2
 replace p774 := eq_true p774
 replace q774 := eq_true q774
 refine start_ (n := 45) (S := fun w' => w'.cell? (ad774.add (((ji51)).toNat * 4)) = some (.int .i64 ((rd_T30 t746 (ji51)).f0)) ∧ w'.cell? ⟨(ad774.add (((ji51)).toNat * 4)).block, (ad774.add (((ji51)).toNat * 4)).off + 1, none⟩ = some (.string ((rd_T30 t746 (ji51)).f1)) ∧ w'.cell? ⟨(ad774.add (((ji51)).toNat * 4)).block, (ad774.add (((ji51)).toNat * 4)).off + 2, none⟩ = some (.slice A774_2 ((rd_T30 t746 (ji51)).f2).length c774_2) ∧ w'.cell? ⟨(ad774.add (((ji51)).toNat * 4)).block, (ad774.add (((ji51)).toNat * 4)).off + 3, none⟩ = some (.string ((rd_T30 t746 (ji51)).f3))) (ds := []) #[false, false, false, false, false, false, false, false, false, false, false, false, false, false, false, false, false, false, false, false, false, false, false, false, false, false, false, false, false, false, false, false, false, false, false, false, false, false, false, false, false, false, false, false, false] (by kernel_rfl) rfl rfl ⟨hx774_0, hx774_1, hx774_2, hx774_3⟩ (fun hHeld => ?_); refine with_tabW laws_FnSegments.tab14 laws_FnSegments.bits14 (fun HT_ HW_ => ?_)
 generalize wr.drew = w59 at HO_3 HO_5 HO_7 HB HL774_2 HR774_2 hx774_0 hx774_1 hx774_2 hx774_3 hHeld ⊢
 refine pu_ 0 87 HT_ ?_
 refine pu_ 1 88 HT_ ?_
 refine pu_ 2 89 HT_ ?_
 refine pu_ 3 90 HT_ ?_
 refine pu_ 4 91 HT_ ?_
 refine pu_ 5 92 HT_ ?_
 refine pu_ 6 93 HT_ ?_
 refine on_ 7 94 HT_ (fun K hK => ?_)
 refine goes_ Tryd.func66 (by kernel_rfl) rfl #[.slice Ao60 t750.length co60, .slice Ao12 t739.length co12] (by rfl) rfl rfl lm_ ?_
 with_reducible refine (laws_sameEntries.calls k1 _ _ t750 _ _ t739 true _ ?side1 ?side2 ?side3 ?side4 A38.out).mono ?_
 (case side1 => exact cs_ ((Kd.R_reads' HO_7.out).2.2))
 (case side2 => exact (Kd.R_reads' HO_7.out).2.1)
 (case side3 => exact cs_ ((Kd.R_reads' HO_3.out).2.2))
 (case side4 => exact (Kd.R_reads' HO_3.out).2.1)
 rintro e w' ⟨rfl, ⟨nd, rfl⟩⟩
 refine ⟨_, rfl, ?_⟩
 refine hK.out _ _ ⟨hHeld.1, hHeld.2.1, hHeld.2.2.1, hHeld.2.2.2⟩ (fun hHeld => ?_)
 clear hK K
 refine norm_ (a' := ?_) ?_ ?_
 rotate_left
 ·show Act.put _ (some 94) _ = _
  simp only [Act.put, List.setIfInBounds_toArray, List.set_cons_zero, List.set_cons_succ, i64_w, i32_w]
  rfl
 refine pu_ 8 95 HT_ ?_
 refine pu_ 9 96 HT_ ?_
 refine pu_ 10 97 HT_ ?_
 refine pu_ 11 98 HT_ ?_
 refine pu_ 12 99 HT_ ?_
 refine pu_ 13 100 HT_ ?_
 refine pu_ 14 101 HT_ ?_
 refine pu_ 15 102 HT_ ?_
 refine pu_ 16 103 HT_ ?_
 refine pu_ 17 104 HT_ ?_
 refine pu_ 18 105 HT_ ?_
 refine pu_ 19 106 HT_ ?_
 refine pu_ 20 107 HT_ ?_
 refine pu_ 21 108 HT_ ?_
 refine pu_ 22 109 HT_ ?_
 refine pu_ 23 110 HT_ ?_
 refine pu_ 24 111 HT_ ?_
 refine pu_ 25 112 HT_ ?_
 refine pu_ 26 113 HT_ ?_
 refine pu_ 27 114 HT_ ?_
 refine pu_ 28 115 HT_ ?_
 refine pu_ 30 117 HT_ ?_
 refine ta_ 29 116 HT_ HW_ hHeld ?_ (r := by rintro w' ⟨s0, s1, s2, s3⟩; go_simp; with_reducible rfl)
 refine on_ 31 118 HT_ (fun K hK => ?_)
 refine goes_ Tryd.func65 (by kernel_rfl) rfl #[.slice Ao12 t739.length co12] (by rfl) rfl rfl lm_ ?_
 with_reducible refine (spec_HeadOf.calls k1 _ _ t739 t775 _ ?side1 ?side2 A54.out).mono ?_
 (case side1 => exact cs_ ((Kd.R_reads' HO_3.out).2.2))
 (case side2 => exact (Kd.R_reads' HO_3.out).2.1)
 rintro e w61 ⟨rfl, hb⟩
 have HS0_ := (hb.cell (World.block_lt_of_cell? _ _ (hHeld.1))).trans (hHeld.1)
 have HS1_ := (hb.cell (World.block_lt_of_cell? _ _ (hHeld.2.1))).trans (hHeld.2.1)
 have HS2_ := (hb.cell (World.block_lt_of_cell? _ _ (hHeld.2.2.1))).trans (hHeld.2.2.1)
 have HS3_ := (hb.cell (World.block_lt_of_cell? _ _ (hHeld.2.2.2))).trans (hHeld.2.2.2)
 refine ⟨_, rfl, ?_⟩
 have n0_ := Aside0.mk (Kd.R_below (ra_ HO_3.out) hb)
 have n1_ := Aside0.mk (Kd.S_below (by (with_reducible repeat (first | apply Kd.S_alloc | apply Kd.S_drewN | apply Kd.S_drew)); exact HO_5.out) hb)
 have n2_ := Aside0.mk (Kd.R_below (ra_ HO_7.out) hb)
 have n3_ := Aside0.mk (Kd.R_below (ra_ HL774_2.out) hb)
 have n4_ := Aside0.mk (Kd.C_below (by repeat (first | (with_reducible exact HR774_2.out) | (with_reducible refine Kd.C_alloc ?_ _) | (with_reducible refine Kd.C_drewN ?_ _) | (with_reducible refine Kd.C_drew ?_) | exact HR774_2.out)) hb)
 have n5_ := Aside0.mk (below_step bl_ hb)
 clear HO_3
 clear HO_5
 clear HO_7
 clear HL774_2
 clear HR774_2
 clear HB
 have HO_3 := n0_
 have HO_5 := n1_
 have HO_7 := n2_
 have HL774_2 := n3_
 have HR774_2 := n4_
 have HB := n5_
 clear n0_ n1_ n2_ n3_ n4_ n5_
 (try clear hb)
 (try clear hb2)
 (try clear hk)
 (try clear hi)
 refine hK.out _ _ ⟨HS0_, HS1_, HS2_, HS3_⟩ (fun hHeld => ?_)
 clear hK K
 refine norm_ (a' := ?_) ?_ ?_
 rotate_left
 ·show Act.put _ (some 118) _ = _
  simp only [Act.put, List.setIfInBounds_toArray, List.set_cons_zero, List.set_cons_succ, i64_w, i32_w]
  rfl
 refine pu_ 32 119 HT_ ?_
 refine pu_ 33 120 HT_ ?_
 refine pu_ 34 121 HT_ ?_
 refine pu_ 35 122 HT_ ?_
 refine pu_ 36 123 HT_ ?_
 refine pu_ 38 125 HT_ ?_
 refine pu_ 40 127 HT_ ?_
 refine on_ 37 124 HT_ (fun K hK => ?_)
 refine goes_ Tryd.func56 (by kernel_rfl) rfl #[.string (⟨#[]⟩ : ByteArray)] (by rfl) rfl rfl lm_ ?_
 with_reducible refine (spec_Digest.calls (⟨#[]⟩ : ByteArray) t776 _ A56.out).mono ?_
 rintro e w62 ⟨rfl, hb⟩
 have HS0_ := (hb.cell (World.block_lt_of_cell? _ _ (hHeld.1))).trans (hHeld.1)
 have HS1_ := (hb.cell (World.block_lt_of_cell? _ _ (hHeld.2.1))).trans (hHeld.2.1)
 have HS2_ := (hb.cell (World.block_lt_of_cell? _ _ (hHeld.2.2.1))).trans (hHeld.2.2.1)
 have HS3_ := (hb.cell (World.block_lt_of_cell? _ _ (hHeld.2.2.2))).trans (hHeld.2.2.2)
 refine ⟨_, rfl, ?_⟩
 have n0_ := Aside0.mk (Kd.R_below (ra_ HO_3.out) hb)
 have n1_ := Aside0.mk (Kd.S_below (by (with_reducible repeat (first | apply Kd.S_alloc | apply Kd.S_drewN | apply Kd.S_drew)); exact HO_5.out) hb)
 have n2_ := Aside0.mk (Kd.R_below (ra_ HO_7.out) hb)
 have n3_ := Aside0.mk (Kd.R_below (ra_ HL774_2.out) hb)
 have n4_ := Aside0.mk (Kd.C_below (by repeat (first | (with_reducible exact HR774_2.out) | (with_reducible refine Kd.C_alloc ?_ _) | (with_reducible refine Kd.C_drewN ?_ _) | (with_reducible refine Kd.C_drew ?_) | exact HR774_2.out)) hb)
 have n5_ := Aside0.mk (below_step bl_ hb)
 clear HO_3
 clear HO_5
 clear HO_7
 clear HL774_2
 clear HR774_2
 clear HB
 have HO_3 := n0_
 have HO_5 := n1_
 have HO_7 := n2_
 have HL774_2 := n3_
 have HR774_2 := n4_
 have HB := n5_
 clear n0_ n1_ n2_ n3_ n4_ n5_
 (try clear hb)
 (try clear hb2)
 (try clear hk)
 (try clear hi)
 refine hK.out _ _ ⟨HS0_, HS1_, HS2_, HS3_⟩ (fun hHeld => ?_)
 clear hK K
 refine norm_ (a' := ?_) ?_ ?_
 rotate_left
 ·show Act.put _ (some 124) _ = _
  simp only [Act.put, List.setIfInBounds_toArray, List.set_cons_zero, List.set_cons_succ, i64_w, i32_w]
  rfl
 refine on_ 39 126 HT_ (fun K hK => ?_)
 refine goes_ Tryd.func68 (by kernel_rfl) rfl #[.string t776, .slice Ao12 t739.length co12] (by rfl) rfl rfl lm_ ?_
 with_reducible refine (impl_HeadFrom.calls k1 t776 _ _ t739 t777 _ ?side1 ?side2 ?side3 A57.out).mono ?_
 (case side1 => exact cs_ ((Kd.R_reads' HO_3.out).2.2))
 (case side2 => exact (Kd.R_reads' HO_3.out).2.1)
 (case side3 => exact tab_of HT.out bl_)
 rintro e w63 ⟨rfl, hb⟩
 have HS0_ := (hb.cell (World.block_lt_of_cell? _ _ (hHeld.1))).trans (hHeld.1)
 have HS1_ := (hb.cell (World.block_lt_of_cell? _ _ (hHeld.2.1))).trans (hHeld.2.1)
 have HS2_ := (hb.cell (World.block_lt_of_cell? _ _ (hHeld.2.2.1))).trans (hHeld.2.2.1)
 have HS3_ := (hb.cell (World.block_lt_of_cell? _ _ (hHeld.2.2.2))).trans (hHeld.2.2.2)
 refine ⟨_, rfl, ?_⟩
 have n0_ := Aside0.mk (Kd.R_below (ra_ HO_3.out) hb)
 have n1_ := Aside0.mk (Kd.S_below (by (with_reducible repeat (first | apply Kd.S_alloc | apply Kd.S_drewN | apply Kd.S_drew)); exact HO_5.out) hb)
 have n2_ := Aside0.mk (Kd.R_below (ra_ HO_7.out) hb)
 have n3_ := Aside0.mk (Kd.R_below (ra_ HL774_2.out) hb)
 have n4_ := Aside0.mk (Kd.C_below (by repeat (first | (with_reducible exact HR774_2.out) | (with_reducible refine Kd.C_alloc ?_ _) | (with_reducible refine Kd.C_drewN ?_ _) | (with_reducible refine Kd.C_drew ?_) | exact HR774_2.out)) hb)
 have n5_ := Aside0.mk (below_step bl_ hb)
 clear HO_3
 clear HO_5
 clear HO_7
 clear HL774_2
 clear HR774_2
 clear HB
 have HO_3 := n0_
 have HO_5 := n1_
 have HO_7 := n2_
 have HL774_2 := n3_
 have HR774_2 := n4_
 have HB := n5_
 clear n0_ n1_ n2_ n3_ n4_ n5_
 (try clear hb)
 (try clear hb2)
 (try clear hk)
 (try clear hi)
 refine hK.out _ _ ⟨HS0_, HS1_, HS2_, HS3_⟩ (fun hHeld => ?_)
 clear hK K
 refine norm_ (a' := ?_) ?_ ?_
 rotate_left
 ·show Act.put _ (some 126) _ = _
  simp only [Act.put, List.setIfInBounds_toArray, List.set_cons_zero, List.set_cons_succ, i64_w, i32_w]
  rfl
 refine on_ 41 128 HT_ (fun K hK => ?_)
 refine goes_ Tryd.func65 (by kernel_rfl) rfl #[.slice Ao12 t739.length co12] (by rfl) rfl rfl lm_ ?_
 with_reducible refine (spec_HeadOf.calls k1 _ _ t739 t778 _ ?side1 ?side2 A58.out).mono ?_
 (case side1 => exact cs_ ((Kd.R_reads' HO_3.out).2.2))
 (case side2 => exact (Kd.R_reads' HO_3.out).2.1)
 rintro e w64 ⟨rfl, hb⟩
 have HS0_ := (hb.cell (World.block_lt_of_cell? _ _ (hHeld.1))).trans (hHeld.1)
 have HS1_ := (hb.cell (World.block_lt_of_cell? _ _ (hHeld.2.1))).trans (hHeld.2.1)
 have HS2_ := (hb.cell (World.block_lt_of_cell? _ _ (hHeld.2.2.1))).trans (hHeld.2.2.1)
 have HS3_ := (hb.cell (World.block_lt_of_cell? _ _ (hHeld.2.2.2))).trans (hHeld.2.2.2)
 refine ⟨_, rfl, ?_⟩
 have n0_ := Aside0.mk (Kd.R_below (ra_ HO_3.out) hb)
 have n1_ := Aside0.mk (Kd.S_below (by (with_reducible repeat (first | apply Kd.S_alloc | apply Kd.S_drewN | apply Kd.S_drew)); exact HO_5.out) hb)
 have n2_ := Aside0.mk (Kd.R_below (ra_ HO_7.out) hb)
 have n3_ := Aside0.mk (Kd.R_below (ra_ HL774_2.out) hb)
 have n4_ := Aside0.mk (Kd.C_below (by repeat (first | (with_reducible exact HR774_2.out) | (with_reducible refine Kd.C_alloc ?_ _) | (with_reducible refine Kd.C_drewN ?_ _) | (with_reducible refine Kd.C_drew ?_) | exact HR774_2.out)) hb)
 have n5_ := Aside0.mk (below_step bl_ hb)
 clear HO_3
 clear HO_5
 clear HO_7
 clear HL774_2
 clear HR774_2
 clear HB
 have HO_3 := n0_
 have HO_5 := n1_
 have HO_7 := n2_
 have HL774_2 := n3_
 have HR774_2 := n4_
 have HB := n5_
 clear n0_ n1_ n2_ n3_ n4_ n5_
 (try clear hb)
 (try clear hb2)
 (try clear hk)
 (try clear hi)
 refine hK.out _ _ ⟨HS0_, HS1_, HS2_, HS3_⟩ (fun hHeld => ?_)
 clear hK K
 refine norm_ (a' := ?_) ?_ ?_
 rotate_left
 ·show Act.put _ (some 128) _ = _
  simp only [Act.put, List.setIfInBounds_toArray, List.set_cons_zero, List.set_cons_succ, i64_w, i32_w]
  rfl
 refine pu_ 42 129 HT_ ?_
 refine pu_ 43 130 HT_ ?_
 refine pu_ 44 2 HT_ ?_
 refine done_ (done_of HT_.out (by kernel_rfl)) ?_
 try go_wp2
 go_ret
 exact ⟨by first | rfl | (simp [errW_none, errW_some] <;> rfl) | (simp only [← hji51]; first | rfl | (simp [errW_none, errW_some] <;> rfl)) | (simp [*, errW_none, errW_some] <;> rfl) | exact False.elim (Bool.noConfusion ((decide_eq_true (of_eq_true (by assumption))).symm.trans (by assumption))), bl_⟩

end Go.Proofs.YtdhjolglbcoijaaDoor.PA
