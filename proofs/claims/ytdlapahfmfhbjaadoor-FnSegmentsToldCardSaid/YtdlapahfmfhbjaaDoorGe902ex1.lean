/- Contracts of functions of the program and of the reference, and plain lemmas on what they compute. No condition. -/
import Derived.Test.YtdlapahfmfhbjaaDoorG523dfx0
import Derived.Test.YtdlapahfmfhbjaaDoorGe902ex0
import Derived.Test.YtdlapahfmfhbjaaDoorG523dfx2
import Derived.Test.YtdlapahfmfhbjaaDoorShortV
set_option maxHeartbeats 8000000
set_option maxRecDepth 100000
namespace Go.Proofs.YtdlapahfmfhbjaaDoor.PA
open Go.RowKit Go.Proofs.YtdlapahfmfhbjaaDoor.Short Go.Proofs.YtdlapahfmfhbjaaDoorW.PrintWords Go.Proofs.YtdlapahfmfhbjaaDoorW.PrintLast Go.Proofs.YtdlapahfmfhbjaaDoorW.PrintMore
attribute [local go_sem] max2_int min2_int max_two min_two max_three min_three max_four min_four   -- for this text's walks alone
set_option linter.unusedVariables false
set_option linter.unusedSimpArgs false

mutual
def impl_ReadFrame.j0 : Nat → ByteArray → Bool → Option (Int × Int × Int × Int × Int × Int × Int × Bool)
 | 0, _, _ => none
 | k + 1, x4, x24 => if x24 = true then (some (0, 0, 0, 0, 0, 0, 0, false)) else ((impl_ReadVar.f k x4 2).bind fun bt724 => (if bt724.2.2 = true then (impl_ReadFrame.j1 k x4 bt724.1 bt724.2.1 (decide ((wrap64 ((x4.size : Int) - bt724.2.1)) < 9))) else (impl_ReadFrame.j1 k x4 bt724.1 bt724.2.1 true)))
def impl_ReadFrame.j1 : Nat → ByteArray → Int → Int → Bool → Option (Int × Int × Int × Int × Int × Int × Int × Bool)
 | 0, _, _, _, _ => none
 | k + 1, x4, x6, x7, x40 => if x40 = true then (some (0, 0, 0, 0, 0, 0, 0, false)) else ((impl_ReadVar.f k x4 (wrap64 (x7 + 9))).bind fun bt727 => (if 0 < (x4.size : Int) then (if 1 < (x4.size : Int) then (if 0 ≤ x7 then (if x7 < (x4.size : Int) then ((impl_fourAt.f x4 (wrap64 (x7 + 1))).bind fun t730 => ((impl_fourAt.f x4 (wrap64 (x7 + 5))).bind fun t731 => (if bt727.2.2 = true then (if bt727.2.1 = (x4.size : Int) then ((impl_FrameOk.f k (wrap64 (bt x4 0)) (wrap64 (bt x4 1)) x6 (wrap64 (bt x4 x7)) t730 t731 bt727.1).bind fun t733 => (if t733 = true then (some (wrap64 (bt x4 0), wrap64 (bt x4 1), x6, wrap64 (bt x4 x7), t730, t731, bt727.1, true)) else (some (0, 0, 0, 0, 0, 0, 0, false)))) else (some (0, 0, 0, 0, 0, 0, 0, false))) else (some (0, 0, 0, 0, 0, 0, 0, false))))) else (none)) else (none)) else (none)) else (none)))
end
def impl_ReadFrame.f (k : Nat) (a0 : ByteArray) : Option (Int × Int × Int × Int × Int × Int × Int × Bool) := (impl_Unsealed.f k a0).bind fun bt722 => (if bt722.2 = true then (impl_ReadFrame.j0 k bt722.1 (decide ((bt722.1.size : Int) < 2))) else (impl_ReadFrame.j0 k bt722.1 true))
theorem impl_ReadFrame.mono_l : ∀ k, (∀ y0 y1, LeO (impl_ReadFrame.j0 k y0 y1) (impl_ReadFrame.j0 (k + 1) y0 y1)) ∧ (∀ y0 y1 y2 y3, LeO (impl_ReadFrame.j1 k y0 y1 y2 y3) (impl_ReadFrame.j1 (k + 1) y0 y1 y2 y3))
 | 0 => ⟨fun _ _ r h => by simp [impl_ReadFrame.j0] at h, fun _ _ _ _ r h => by simp [impl_ReadFrame.j1] at h⟩
 | k + 1 => by
  obtain ⟨ih0, ih1⟩ := impl_ReadFrame.mono_l k
  refine ⟨?_, ?_⟩
  ·intro y0 y1
   unfold impl_ReadFrame.j0
   have m0 := @impl_FrameOk.mono
   have m1 := @impl_ReadVar.mono
   have m2 := @impl_Unsealed.mono
   exact mo_
  ·intro y0 y1 y2 y3
   unfold impl_ReadFrame.j1
   have m0 := @impl_FrameOk.mono
   have m1 := @impl_ReadVar.mono
   have m2 := @impl_Unsealed.mono
   exact mo_
theorem impl_ReadFrame.mono : ∀ a0 k, LeO (impl_ReadFrame.f k a0) (impl_ReadFrame.f (k + 1) a0) := by
 intro a0 k
 obtain ⟨ih0, ih1⟩ := impl_ReadFrame.mono_l k
 unfold impl_ReadFrame.f
 have m0 := @impl_FrameOk.mono
 have m1 := @impl_ReadVar.mono
 have m2 := @impl_Unsealed.mono
 exact mo_
def impl_ReadFrame.T8 : Bool × List (List Nat × List Nat) := (true, [([], []), ([0], [0]), ([1], [1]), ([], []), ([3], [3]), ([4], [4]), ([], []), ([], []), ([], []), ([7, 8], [7, 8]), ([9], [9]), ([], []), ([], []), ([12], [12]), ([11, 13], [11, 13]), ([], []), ([], []), ([16], [16]), ([15, 17, 14], [15, 17]), ([], []), ([10, 14, 18, 19], [10, 14, 18, 19]), ([2, 5, 6, 20], [2, 5, 6, 20]), ([], []), ([22, 21, 18, 0, 1, 2, 3, 4, 5, 6, 7, 8, 9, 10, 11, 12, 13, 14, 15, 16, 17, 18, 19, 20, 21, 22], [21, 22])])
def impl_ReadFrame.B8 : List Nat := [0, 1, 3, 0, 8, 24, 0, 0, 0, 384, 896, 0, 0, 4096, 14336, 0, 0, 65536, 260096, 0, 1048448, 2097151, 0, 8388607]
theorem impl_ReadFrame.tab8 : rtab .any (opsOf Tryd.f76 8) = impl_ReadFrame.T8 := by kernel_rfl
theorem impl_ReadFrame.bits8 : waitsOk impl_ReadFrame.T8.2 impl_ReadFrame.B8 = true := by kernel_rfl
theorem impl_ReadFrame.calls (k : Nat) (a0 : ByteArray) (r1 : Int) (r2 : Int) (r3 : Int) (r4 : Int) (r5 : Int) (r6 : Int) (r7 : Int) (r8 : Bool) (w : World) (h : impl_ReadFrame.f k a0 = some (r1, r2, r3, r4, r5, r6, r7, r8)) :
 Calls Tryd.prog 76 #[.string a0] w fun e w' => e = .returned (.tuple #[.agg #[.int .i64 r1, .int .i64 r2, .int .i64 r3, .int .i64 r4, .int .i64 r5, .int .i64 r6, .int .i64 r7], .bool r8]) ∧ Below w.heap.size w w' := by
 have hu80 := Tryd.underlying80
 have hu25 := Tryd.underlying25
 have HB := Aside0.mk (Below.refl w.heap.size w)
 have H := h
 unfold impl_ReadFrame.f at H
 clear h
 replace H := bs_ H
 obtain ⟨⟨t722, t723⟩, A2, H⟩ := H
 try dsimp only at H
 have HC3 := Aside0.mk H
 clear H
 go_enter Tryd.func76, Tryd.ntmps76
 go_upto_region 2 with (first | ((with_reducible refine gate_dst (N := 2) rfl ?_); (try (refine gate_guard (by rfl) ?_; dsimp only)); refine bx_ 2 80 #[.int .i64 0, .int .i64 0, .int .i64 0, .int .i64 0, .int .i64 0, .int .i64 0, .int .i64 0] ?_; intro gb721 hg w4 hbox hb; have BK721 := Aside0.mk (hbox); have GW721 := Aside0.mk ((hz_ : w.heap.size ≤ gb721)); have GE721 := Aside0.mk ((hz_ : w.heap.size ≤ gb721)); replace HB := Aside0.mk (below_step bl_ hb); clear hb hbox hg) | ((with_reducible refine gate_callee (f := 88) rfl ?_); refine gs_ (some 15) Tryd.func88 #[.string a0] ?_; (with_reducible refine (impl_Unsealed.calls k a0 t722 t723 _ A2.out).mono ?_); rintro e w' ⟨rfl, ⟨nd, rfl⟩⟩; refine ⟨_, rfl, ?_⟩))
 (try simp only [Act.put, List.setIfInBounds_toArray, List.set_cons_zero, List.set_cons_succ])
 go_cut [24] (fun v24 wc => ∃ (kq : Nat) (x24_2 : Bool), v24 = .bool x24_2 ∧ Aside0 (impl_ReadFrame.j0 kq t722 x24_2 = some (r1, r2, r3, r4, r5, r6, r7, r8)) ∧ Aside0 (kq ≤ k) ∧ Aside0 (wc.heap[gb721]? = some (.cells #[.int .i64 0, .int .i64 0, .int .i64 0, .int .i64 0, .int .i64 0, .int .i64 0, .int .i64 0] 80 (0, 0))) ∧ Aside0 (Below w.heap.size w wc))
 case first =>
  have H := HC3.out
  clear HC3
  by_cases c5 : t723 = true
  ·subst c5
   rw [if_pos rfl] at H
   have H' := Aside0.mk H
   clear H
   go_wp2
   go_meet
   case rel => exact ⟨_, (decide ((t722.size : Int) < 2)), (sr_), H', ⟨by first | omega | exact Nat.le_refl _⟩, ⟨bk_ BK721.out⟩, ⟨bl_⟩⟩
  replace c5 := Bool.eq_false_iff.mpr c5
  subst c5
  rw [nf_] at H
  have H' := Aside0.mk H
  clear H
  go_wp2
  go_meet
  case rel => exact ⟨_, (true), (sr_), H', ⟨by first | omega | exact Nat.le_refl _⟩, ⟨bk_ BK721.out⟩, ⟨bl_⟩⟩
 clear HC3
 obtain ⟨kq, x24_2, rfl, HA, HJ2, BK721, HB⟩ := hcut
 cases kq with
 | zero => exact absurd HA.out (by simp [impl_ReadFrame.j0])
 | succ kj2 => ?_
 have H := HA.out
 clear HA
 simp only [impl_ReadFrame.j0] at H
 by_cases c6 : x24_2 = true
 ·subst c6
  rw [if_pos rfl] at H
  simp only [Option.some.injEq, Prod.mk.injEq] at H
  obtain ⟨rfl, rfl, rfl, rfl, rfl, rfl, rfl, rfl⟩ := H
  obtain ⟨hcz7_0, hcz7_1, hcz7_2, hcz7_3, hcz7_4, hcz7_5, hcz7_6, hfz7_0, hfz7_1, hfz7_2, hfz7_3, hfz7_4, hfz7_5, hfz7_6⟩ := cf7_ BK721.out
  go_wp2
  refine bodyPost_ret (results_ct rfl _ _ gb721 80 #[.int .i64 0, .int .i64 0, .int .i64 0, .int .i64 0, .int .i64 0, .int .i64 0, .int .i64 0] (0, 0) _ rfl (bp0_ BK721.out) Tryd.underlying80 rfl (by kernel_rfl)) rfl ?_
  exact ⟨er_, bl_⟩
 replace c6 := Bool.eq_false_iff.mpr c6
 subst c6
 rw [nf_] at H
 replace H := bs_ H
 obtain ⟨⟨t724, t725, t726⟩, A8, H⟩ := H
 try dsimp only at H
 have HC9 := Aside0.mk H
 clear H
 go_upto_region 5 with (first | ((with_reducible refine gate_callee (f := 89) rfl ?_); refine gs_ (some 28) Tryd.func89 #[.string t722, .int .i64 2] ?_; (with_reducible refine (impl_ReadVar.calls kj2 t722 2 t724 t725 t726 _ A8.out).mono ?_); rintro e w10 ⟨rfl, hb⟩; refine ⟨_, rfl, ?_⟩; replace BK721 := Aside0.mk (blk_below (bn0_ BK721.out) hb); replace HB := Aside0.mk (below_step bl_ hb); (try clear hb)))
 (try simp only [Act.put, List.setIfInBounds_toArray, List.set_cons_zero, List.set_cons_succ])
 go_cut [40] (fun v40 wc => ∃ (kq : Nat) (x40_8 : Bool), v40 = .bool x40_8 ∧ Aside0 (impl_ReadFrame.j1 kq t722 t724 t725 x40_8 = some (r1, r2, r3, r4, r5, r6, r7, r8)) ∧ Aside0 (kq ≤ kj2) ∧ Aside0 (wc.heap[gb721]? = some (.cells #[.int .i64 0, .int .i64 0, .int .i64 0, .int .i64 0, .int .i64 0, .int .i64 0, .int .i64 0] 80 (0, 0))) ∧ Aside0 (Below w.heap.size w wc))
 case first =>
  have H := HC9.out
  clear HC9
  by_cases c11 : t726 = true
  ·subst c11
   rw [if_pos rfl] at H
   have H' := Aside0.mk H
   clear H
   go_wp2
   go_meet
   case rel => exact ⟨_, (decide ((wrap64 ((t722.size : Int) - t725)) < 9)), (sr_), H', ⟨by have := HJ2.out; first | omega | exact Nat.le_refl _⟩, ⟨bk_ BK721.out⟩, ⟨bl_⟩⟩
  replace c11 := Bool.eq_false_iff.mpr c11
  subst c11
  rw [nf_] at H
  have H' := Aside0.mk H
  clear H
  go_wp2
  go_meet
  case rel => exact ⟨_, (true), (sr_), H', ⟨by have := HJ2.out; first | omega | exact Nat.le_refl _⟩, ⟨bk_ BK721.out⟩, ⟨bl_⟩⟩
 clear HC9
 try clear c6
 obtain ⟨kq, x40_8, rfl, HA, HJ8, BK721, HB⟩ := hcut
 cases kq with
 | zero => exact absurd HA.out (by simp [impl_ReadFrame.j1])
 | succ kj8 => ?_
 have H := HA.out
 clear HA
 simp only [impl_ReadFrame.j1] at H
 by_cases c12 : x40_8 = true
 ·subst c12
  rw [if_pos rfl] at H
  simp only [Option.some.injEq, Prod.mk.injEq] at H
  obtain ⟨rfl, rfl, rfl, rfl, rfl, rfl, rfl, rfl⟩ := H
  obtain ⟨hcz13_0, hcz13_1, hcz13_2, hcz13_3, hcz13_4, hcz13_5, hcz13_6, hfz13_0, hfz13_1, hfz13_2, hfz13_3, hfz13_4, hfz13_5, hfz13_6⟩ := cf7_ BK721.out
  go_wp2
  refine bodyPost_ret (results_ct rfl _ _ gb721 80 #[.int .i64 0, .int .i64 0, .int .i64 0, .int .i64 0, .int .i64 0, .int .i64 0, .int .i64 0] (0, 0) _ rfl (bp0_ BK721.out) Tryd.underlying80 rfl (by kernel_rfl)) rfl ?_
  exact ⟨er_, bl_⟩
 replace c12 := Bool.eq_false_iff.mpr c12
 subst c12
 rw [nf_] at H
 replace H := bs_ H
 obtain ⟨⟨t727, t728, t729⟩, A14, H⟩ := H
 try dsimp only at H
 by_cases c15 : 0 < (t722.size : Int)
 rotate_left
 ·exact nn_ c15 H
 rw [if_pos c15] at H
 have c15b0 := decide_eq_true c15
 have c15b1 : decide (0 < t722.size) = true := decide_eq_true (by omega)
 clear c15
 by_cases c17 : 1 < (t722.size : Int)
 rotate_left
 ·exact nn_ c17 H
 rw [if_pos c17] at H
 have c17b0 := decide_eq_true c17
 have c17b1 : decide (1 < t722.size) = true := decide_eq_true (by omega)
 clear c17
 by_cases c19 : 0 ≤ t725
 rotate_left
 ·exact nn_ c19 H
 rw [if_pos c19] at H
 have c19b0 := decide_eq_true c19
 clear c19
 by_cases c20 : t725 < (t722.size : Int)
 rotate_left
 ·exact nn_ c20 H
 rw [if_pos c20] at H
 have c20b0 := decide_eq_true c20
 clear c20
 replace H := bs_ H
 obtain ⟨t730, A22, H⟩ := H
 try dsimp only at H
 replace H := bs_ H
 obtain ⟨t731, A23, H⟩ := H
 try dsimp only at H
 have HXX := Aside0.mk H
 clear H
 try go_wp2_with (first | ((with_reducible refine gate_callee (f := 89) rfl ?_); refine gs_ (some 46) Tryd.func89 #[.string t722, .int .i64 (wrap64 (t725 + 9))] ?_; (with_reducible refine (impl_ReadVar.calls kj8 t722 (wrap64 (t725 + 9)) t727 t728 t729 _ A14.out).mono ?_); rintro e w28 ⟨rfl, hb⟩; refine ⟨_, rfl, ?_⟩; replace BK721 := Aside0.mk (blk_below (bn0_ BK721.out) hb); replace HB := Aside0.mk (below_step bl_ hb); (try clear hb)))
 have n0_ := Aside0.mk (blk_drew BK721.out)
 have n1_ := Aside0.mk (below_drew1 HB.out)
 clear BK721
 clear HB
 have BK721 := n0_
 have HB := n1_
 clear n0_ n1_
 have p16 : 0 ≤ (0 : Int) := (by omega)
 have q16 : 0 < t722.size := (by have : (0 : Int) < (t722.size : Int) := of_decide_eq_true as_; omega)
 have hx16 : ∀ h : 0 < t722.size, ((t722[0]'h).toNat : Int) = bt t722 0 := bt_at t722 0
 clear p16
 have qi16 : (0 < (t722.size : Int)) = True := eq_true (of_decide_eq_true as_)
 replace q16 := eq_true q16
 have p18 : 0 ≤ (1 : Int) := (by omega)
 have q18 : 1 < t722.size := (by have : (1 : Int) < (t722.size : Int) := of_decide_eq_true as_; omega)
 have hx18 : ∀ h : 1 < t722.size, ((t722[1]'h).toNat : Int) = bt t722 1 := bt_at t722 1
 clear p18
 have qi18 : (1 < (t722.size : Int)) = True := eq_true (of_decide_eq_true as_)
 replace q18 := eq_true q18
 have p21 : 0 ≤ (t725 : Int) := of_decide_eq_true as_
 have q21 : t725 < (t722.size : Int) := of_decide_eq_true as_
 have hx21 := bt_at t722 t725
 replace p21 := eq_true p21
 replace q21 := eq_true q21
 refine start_ (n := 24) (S := fun w' => True) (ds := []) #[false, false, false, false, false, false, false, false, false, false, false, false, false, false, false, false, false, false, false, false, false, false, false, false] (by kernel_rfl) rfl rfl trivial (fun hHeld => ?_); refine with_tabW impl_ReadFrame.tab8 impl_ReadFrame.bits8 (fun HT_ HW_ => ?_)
 generalize w28.drew = w29 at BK721 HB hHeld ⊢
 refine pu_ 0 50 HT_ ?_
 refine pu_ 3 53 HT_ ?_
 refine pu_ 6 56 HT_ ?_
 refine pu_ 7 57 HT_ ?_
 refine pu_ 8 58 HT_ ?_
 refine pu_ 11 61 HT_ ?_
 refine pu_ 12 62 HT_ ?_
 refine pu_ 13 63 HT_ ?_
 refine pu_ 15 65 HT_ ?_
 refine pu_ 16 66 HT_ ?_
 refine pu_ 17 67 HT_ ?_
 refine pu_ 19 69 HT_ ?_
 refine ta_ 1 51 HT_ HW_ hHeld ?_
 refine pu_ 2 52 HT_ ?_
 refine ta_ 4 54 HT_ HW_ hHeld ?_
 refine pu_ 5 55 HT_ ?_
 refine ta_ 9 59 HT_ HW_ hHeld ?_
 refine pu_ 10 60 HT_ ?_
 refine join_ (σ := Nat) 1 #[true, true, true, true, true, true, true, true, true, true, true, true, true, true, true, true, true, true, true, true, true, true, true, false] (fun s_ => [(64, .int .i64 t730), (68, .int .i64 t731), (12, .pointer (some ⟨s_, 0, none⟩)), (70, .agg #[.int .i64 (wrap64 (bt t722 t725)), .int .i64 t730, .int .i64 t731, .int .i64 t727]), (71, .agg #[.int .i64 (wrap64 (bt t722 0)), .int .i64 (wrap64 (bt t722 1)), .int .i64 t724, .int .i64 (wrap64 (bt t722 t725)), .int .i64 t730, .int .i64 t731, .int .i64 t727])]) (fun s_ w' => (w'.heap[gb721]? = some (.cells #[.int .i64 0, .int .i64 0, .int .i64 0, .int .i64 0, .int .i64 0, .int .i64 0, .int .i64 0] 80 (0, 0))) ∧ (w'.heap[s_]? = some (.cells #[.int .i64 0, .int .i64 0, .int .i64 0, .int .i64 0, .int .i64 0, .int .i64 0, .int .i64 0] 80 (0, 0))) ∧ (w.heap.size ≤ s_) ∧ (w.heap.size ≤ s_) ∧ (gb721 ≠ s_) ∧ (s_ ≠ gb721) ∧ (Below w.heap.size w w')) ?_ ?_
 rotate_left
 ·intro hCont
  refine two_ (i := 14) (j := 22) (Ni := some 64) (Nj := some 12) #[true, true, true, true, true, true, true, true, true, true, true, true, true, true, true, true, true, true, false, true, false, false, false, false] #[true, true, true, true, true, true, true, true, true, true, true, true, true, true, false, true, true, true, false, true, false, false, true, false] rfl rfl rfl rfl (two_of HT_.out (by kernel_rfl)) (by decide) (by decide) (fun K hK => ?_) (fun K hK => ?_)
  ·skip
   refine goes_ Tryd.func105 (by kernel_rfl) rfl #[.string t722, .int .i64 (wrap64 (t725 + 1))] (by rfl) rfl rfl lm_ ?_
   with_reducible refine (impl_fourAt.calls t722 (wrap64 (t725 + 1)) t730 _ A22.out).mono ?_
   rintro e w' ⟨rfl, ⟨nd, rfl⟩⟩
   refine ⟨_, rfl, ?_⟩
   refine hK.out _ _ trivial (fun hHeld => ?_)
   clear hK K
   refine norm_ (a' := ?_) ?_ ?_
   rotate_left
   ·show Act.put _ (some 64) _ = _
    simp only [Act.put, List.setIfInBounds_toArray, List.set_cons_zero, List.set_cons_succ, i64_w, i32_w]
    rfl
   refine two_ (i := 18) (j := 22) (Ni := some 68) (Nj := some 12) #[true, true, true, true, true, true, true, true, true, true, true, true, true, true, true, true, true, true, true, true, false, false, false, false] #[true, true, true, true, true, true, true, true, true, true, true, true, true, true, true, true, true, true, false, true, false, false, true, false] rfl rfl rfl rfl (two_of HT_.out (by kernel_rfl)) (by decide) (by decide) (fun K hK => ?_) (fun K hK => ?_)
   ·skip
    refine goes_ Tryd.func105 (by kernel_rfl) rfl #[.string t722, .int .i64 (wrap64 (t725 + 5))] (by rfl) rfl rfl lm_ ?_
    with_reducible refine (impl_fourAt.calls t722 (wrap64 (t725 + 5)) t731 _ A23.out).mono ?_
    rintro e w' ⟨rfl, ⟨nd, rfl⟩⟩
    refine ⟨_, rfl, ?_⟩
    refine hK.out _ _ trivial (fun hHeld => ?_)
    clear hK K
    refine norm_ (a' := ?_) ?_ ?_
    rotate_left
    ·show Act.put _ (some 68) _ = _
     simp only [Act.put, List.setIfInBounds_toArray, List.set_cons_zero, List.set_cons_succ, i64_w, i32_w]
     rfl
    refine pu_ 20 70 HT_ ?_
    refine pu_ 21 71 HT_ ?_
    refine on_ 22 12 HT_ (fun K hK => ?_)
    refine box_step ?hg (N := 12) ?hd (cs := #[.int .i64 0, .int .i64 0, .int .i64 0, .int .i64 0, .int .i64 0, .int .i64 0, .int .i64 0]) (t := 80) ?hr ?_; (case hd => rfl); (case hg => rfl); (case hr => first | (go_simp; done) | (go_simp; rfl))
    intro gb732 hg w30 hbox hb
    have n0_ := Aside0.mk (blk_below (bn0_ BK721.out) hb)
    have n1_ := Aside0.mk (below_step bl_ hb)
    have n2_ := Aside0.mk (hbox)
    have n3_ := Aside0.mk ((hz_ : w.heap.size ≤ gb732))
    have n4_ := Aside0.mk ((hz_ : w.heap.size ≤ gb732))
    have n5_ := Aside0.mk ((by rw [hg]; exact Nat.ne_of_lt (blk_lt (g := gb721) (o := .cells #[.int .i64 0, .int .i64 0, .int .i64 0, .int .i64 0, .int .i64 0, .int .i64 0, .int .i64 0] 80 (0, 0)) (bk_ BK721.out)) : gb721 ≠ gb732))
    have n6_ := Aside0.mk ((by rw [hg]; exact Nat.ne_of_gt (blk_lt (g := gb721) (o := .cells #[.int .i64 0, .int .i64 0, .int .i64 0, .int .i64 0, .int .i64 0, .int .i64 0, .int .i64 0] 80 (0, 0)) (bk_ BK721.out)) : gb732 ≠ gb721))
    clear BK721
    clear HB
    have BK721 := n0_
    have HB := n1_
    have BK732 := n2_
    have GW732 := n3_
    have GE732 := n4_
    have NB721_732 := n5_
    have NB732_721 := n6_
    clear n0_ n1_ n2_ n3_ n4_ n5_ n6_
    clear hb hbox hg
    refine hK.out _ _ trivial (fun hHeld => ?_)
    clear hK K
    refine norm_ (a' := ?_) ?_ ?_
    rotate_left
    ·show Act.put _ (some 12) _ = _
     simp only [Act.put, List.setIfInBounds_toArray, List.set_cons_zero, List.set_cons_succ, i64_w, i32_w]
     rfl
    exact norm_ (by simp only [putAll, Act.put, List.setIfInBounds_toArray, List.set_cons_zero, List.set_cons_succ]) (hCont (gb732) _ ⟨(bk_ BK721.out), (bk_ BK732.out), GW732.out, GE732.out, NB721_732.out, NB732_721.out, bl_⟩)
   ·skip
    refine box_step ?hg (N := 12) ?hd (cs := #[.int .i64 0, .int .i64 0, .int .i64 0, .int .i64 0, .int .i64 0, .int .i64 0, .int .i64 0]) (t := 80) ?hr ?_; (case hd => rfl); (case hg => rfl); (case hr => first | (go_simp; done) | (go_simp; rfl))
    intro gb732 hg w30 hbox hb
    have n0_ := Aside0.mk (blk_below (bn0_ BK721.out) hb)
    have n1_ := Aside0.mk (below_step bl_ hb)
    have n2_ := Aside0.mk (hbox)
    have n3_ := Aside0.mk ((hz_ : w.heap.size ≤ gb732))
    have n4_ := Aside0.mk ((hz_ : w.heap.size ≤ gb732))
    have n5_ := Aside0.mk ((by rw [hg]; exact Nat.ne_of_lt (blk_lt (g := gb721) (o := .cells #[.int .i64 0, .int .i64 0, .int .i64 0, .int .i64 0, .int .i64 0, .int .i64 0, .int .i64 0] 80 (0, 0)) (bk_ BK721.out)) : gb721 ≠ gb732))
    have n6_ := Aside0.mk ((by rw [hg]; exact Nat.ne_of_gt (blk_lt (g := gb721) (o := .cells #[.int .i64 0, .int .i64 0, .int .i64 0, .int .i64 0, .int .i64 0, .int .i64 0, .int .i64 0] 80 (0, 0)) (bk_ BK721.out)) : gb732 ≠ gb721))
    clear BK721
    clear HB
    have BK721 := n0_
    have HB := n1_
    have BK732 := n2_
    have GW732 := n3_
    have GE732 := n4_
    have NB721_732 := n5_
    have NB732_721 := n6_
    clear n0_ n1_ n2_ n3_ n4_ n5_ n6_
    clear hb hbox hg
    refine hK.out _ _ trivial (fun hHeld => ?_)
    clear hK K
    refine norm_ (a' := ?_) ?_ ?_
    rotate_left
    ·show Act.put _ (some 12) _ = _
     simp only [Act.put, List.setIfInBounds_toArray, List.set_cons_zero, List.set_cons_succ, i64_w, i32_w]
     rfl
    refine on_ 18 68 HT_ (fun K hK => ?_)
    refine goes_ Tryd.func105 (by kernel_rfl) rfl #[.string t722, .int .i64 (wrap64 (t725 + 5))] (by rfl) rfl rfl lm_ ?_
    with_reducible refine (impl_fourAt.calls t722 (wrap64 (t725 + 5)) t731 _ A23.out).mono ?_
    rintro e w' ⟨rfl, ⟨nd, rfl⟩⟩
    refine ⟨_, rfl, ?_⟩
    refine hK.out _ _ trivial (fun hHeld => ?_)
    clear hK K
    refine norm_ (a' := ?_) ?_ ?_
    rotate_left
    ·show Act.put _ (some 68) _ = _
     simp only [Act.put, List.setIfInBounds_toArray, List.set_cons_zero, List.set_cons_succ, i64_w, i32_w]
     rfl
    refine pu_ 20 70 HT_ ?_
    refine pu_ 21 71 HT_ ?_
    exact norm_ (by simp only [putAll, Act.put, List.setIfInBounds_toArray, List.set_cons_zero, List.set_cons_succ]) (hCont (gb732) _ ⟨(bk_ BK721.out), (bk_ BK732.out), GW732.out, GE732.out, NB721_732.out, NB732_721.out, bl_⟩)
  ·skip
   refine box_step ?hg (N := 12) ?hd (cs := #[.int .i64 0, .int .i64 0, .int .i64 0, .int .i64 0, .int .i64 0, .int .i64 0, .int .i64 0]) (t := 80) ?hr ?_; (case hd => rfl); (case hg => rfl); (case hr => first | (go_simp; done) | (go_simp; rfl))
   intro gb732 hg w30 hbox hb
   have n0_ := Aside0.mk (blk_below (bn0_ BK721.out) hb)
   have n1_ := Aside0.mk (below_step bl_ hb)
   have n2_ := Aside0.mk (hbox)
   have n3_ := Aside0.mk ((hz_ : w.heap.size ≤ gb732))
   have n4_ := Aside0.mk ((hz_ : w.heap.size ≤ gb732))
   have n5_ := Aside0.mk ((by rw [hg]; exact Nat.ne_of_lt (blk_lt (g := gb721) (o := .cells #[.int .i64 0, .int .i64 0, .int .i64 0, .int .i64 0, .int .i64 0, .int .i64 0, .int .i64 0] 80 (0, 0)) (bk_ BK721.out)) : gb721 ≠ gb732))
   have n6_ := Aside0.mk ((by rw [hg]; exact Nat.ne_of_gt (blk_lt (g := gb721) (o := .cells #[.int .i64 0, .int .i64 0, .int .i64 0, .int .i64 0, .int .i64 0, .int .i64 0, .int .i64 0] 80 (0, 0)) (bk_ BK721.out)) : gb732 ≠ gb721))
   clear BK721
   clear HB
   have BK721 := n0_
   have HB := n1_
   have BK732 := n2_
   have GW732 := n3_
   have GE732 := n4_
   have NB721_732 := n5_
   have NB732_721 := n6_
   clear n0_ n1_ n2_ n3_ n4_ n5_ n6_
   clear hb hbox hg
   refine hK.out _ _ trivial (fun hHeld => ?_)
   clear hK K
   refine norm_ (a' := ?_) ?_ ?_
   rotate_left
   ·show Act.put _ (some 12) _ = _
    simp only [Act.put, List.setIfInBounds_toArray, List.set_cons_zero, List.set_cons_succ, i64_w, i32_w]
    rfl
   refine on_ 14 64 HT_ (fun K hK => ?_)
   refine goes_ Tryd.func105 (by kernel_rfl) rfl #[.string t722, .int .i64 (wrap64 (t725 + 1))] (by rfl) rfl rfl lm_ ?_
   with_reducible refine (impl_fourAt.calls t722 (wrap64 (t725 + 1)) t730 _ A22.out).mono ?_
   rintro e w' ⟨rfl, ⟨nd, rfl⟩⟩
   refine ⟨_, rfl, ?_⟩
   refine hK.out _ _ trivial (fun hHeld => ?_)
   clear hK K
   refine norm_ (a' := ?_) ?_ ?_
   rotate_left
   ·show Act.put _ (some 64) _ = _
    simp only [Act.put, List.setIfInBounds_toArray, List.set_cons_zero, List.set_cons_succ, i64_w, i32_w]
    rfl
   refine on_ 18 68 HT_ (fun K hK => ?_)
   refine goes_ Tryd.func105 (by kernel_rfl) rfl #[.string t722, .int .i64 (wrap64 (t725 + 5))] (by rfl) rfl rfl lm_ ?_
   with_reducible refine (impl_fourAt.calls t722 (wrap64 (t725 + 5)) t731 _ A23.out).mono ?_
   rintro e w' ⟨rfl, ⟨nd, rfl⟩⟩
   refine ⟨_, rfl, ?_⟩
   refine hK.out _ _ trivial (fun hHeld => ?_)
   clear hK K
   refine norm_ (a' := ?_) ?_ ?_
   rotate_left
   ·show Act.put _ (some 68) _ = _
    simp only [Act.put, List.setIfInBounds_toArray, List.set_cons_zero, List.set_cons_succ, i64_w, i32_w]
    rfl
   refine pu_ 20 70 HT_ ?_
   refine pu_ 21 71 HT_ ?_
   exact norm_ (by simp only [putAll, Act.put, List.setIfInBounds_toArray, List.set_cons_zero, List.set_cons_succ]) (hCont (gb732) _ ⟨(bk_ BK721.out), (bk_ BK732.out), GW732.out, GE732.out, NB721_732.out, NB732_721.out, bl_⟩)
 rintro gb732 w31 ⟨h0_, h1_, h2_, h3_, h4_, h5_, h6_⟩
 have n0_ : Aside0 (w31.heap[gb721]? = some (.cells #[.int .i64 0, .int .i64 0, .int .i64 0, .int .i64 0, .int .i64 0, .int .i64 0, .int .i64 0] 80 (0, 0))) := ⟨h0_⟩
 have n1_ : Aside0 (w31.heap[gb732]? = some (.cells #[.int .i64 0, .int .i64 0, .int .i64 0, .int .i64 0, .int .i64 0, .int .i64 0, .int .i64 0] 80 (0, 0))) := ⟨h1_⟩
 have n2_ : Aside0 (w.heap.size ≤ gb732) := ⟨h2_⟩
 have n3_ : Aside0 (w.heap.size ≤ gb732) := ⟨h3_⟩
 have n4_ : Aside0 (gb721 ≠ gb732) := ⟨h4_⟩
 have n5_ : Aside0 (gb732 ≠ gb721) := ⟨h5_⟩
 have n6_ : Aside0 (Below w.heap.size w w31) := ⟨h6_⟩
 clear BK721
 clear HB
 clear h0_ h1_ h2_ h3_ h4_ h5_ h6_
 have BK721 := n0_
 have BK732 := n1_
 have GW732 := n2_
 have GE732 := n3_
 have NB721_732 := n4_
 have NB732_721 := n5_
 have HB := n6_
 clear n0_ n1_ n2_ n3_ n4_ n5_ n6_
 have hHeld := trivial
 refine norm_ (a' := ?_) ?_ ?_
 rotate_left
 ·simp only [putAll, Act.put, List.setIfInBounds_toArray, List.set_cons_zero, List.set_cons_succ]
  rfl
 refine one_ (i := 23) (N := none) #[true, true, true, true, true, true, true, true, true, true, true, true, true, true, true, true, true, true, true, true, true, true, true, true] rfl rfl (one_of HT_.out (by kernel_rfl)) (by decide) (fun K hK => ?_)
 have hs32 : w31.cell? ⟨gb732, 0, none⟩ = some (.int .i64 0) := (blk_cell BK732.out 0).trans rfl
 have hfs32 := blk_frozen BK732.out 0
 have hns32_0 := NB721_732.out
 have hms32_0 := NB732_721.out
 have hs33 : w31.cell? ⟨gb732, 1, none⟩ = some (.int .i64 0) := (blk_cell BK732.out 1).trans rfl
 have hfs33 := blk_frozen BK732.out 1
 have hns33_0 := NB721_732.out
 have hms33_0 := NB732_721.out
 have hs34 : w31.cell? ⟨gb732, 2, none⟩ = some (.int .i64 0) := (blk_cell BK732.out 2).trans rfl
 have hfs34 := blk_frozen BK732.out 2
 have hns34_0 := NB721_732.out
 have hms34_0 := NB732_721.out
 have hs35 : w31.cell? ⟨gb732, 3, none⟩ = some (.int .i64 0) := (blk_cell BK732.out 3).trans rfl
 have hfs35 := blk_frozen BK732.out 3
 have hns35_0 := NB721_732.out
 have hms35_0 := NB732_721.out
 have hs36 : w31.cell? ⟨gb732, 4, none⟩ = some (.int .i64 0) := (blk_cell BK732.out 4).trans rfl
 have hfs36 := blk_frozen BK732.out 4
 have hns36_0 := NB721_732.out
 have hms36_0 := NB732_721.out
 have hs37 : w31.cell? ⟨gb732, 5, none⟩ = some (.int .i64 0) := (blk_cell BK732.out 5).trans rfl
 have hfs37 := blk_frozen BK732.out 5
 have hns37_0 := NB721_732.out
 have hms37_0 := NB732_721.out
 have hs38 : w31.cell? ⟨gb732, 6, none⟩ = some (.int .i64 0) := (blk_cell BK732.out 6).trans rfl
 have hfs38 := blk_frozen BK732.out 6
 have hns38_0 := NB721_732.out
 have hms38_0 := NB732_721.out
 refine skip_ (w1 := ?_) (by rfl) rfl ?_ ?_
 rotate_left
 ·go_simp
  rfl
 refine hK.out _ _ trivial (fun hHeld => ?_)
 clear hK K
 refine done_ (done_of HT_.out (by kernel_rfl)) ?_
 have H := HXX.out
 clear HXX
 by_cases c24 : t729 = true
 rotate_left
 ·replace c24 := Bool.eq_false_iff.mpr c24
  subst c24
  rw [nf_] at H
  simp only [Option.some.injEq, Prod.mk.injEq] at H
  obtain ⟨rfl, rfl, rfl, rfl, rfl, rfl, rfl, rfl⟩ := H
  have hnb83 := NB721_732.out
  have hnc83 := NB732_721.out
  obtain ⟨hcz84_0, hcz84_1, hcz84_2, hcz84_3, hcz84_4, hcz84_5, hcz84_6, hfz84_0, hfz84_1, hfz84_2, hfz84_3, hfz84_4, hfz84_5, hfz84_6⟩ := cf7_ BK721.out
  try go_wp2
  refine bodyPost_ret (results_ct rfl _ _ gb721 80 #[.int .i64 0, .int .i64 0, .int .i64 0, .int .i64 0, .int .i64 0, .int .i64 0, .int .i64 0] (0, 0) _ rfl (bp1_ BK721.out NB721_732.out) Tryd.underlying80 rfl (by kernel_rfl)) rfl ?_
  exact ⟨er_, bl_⟩
 subst c24
 rw [if_pos rfl] at H
 by_cases c25 : t728 = (t722.size : Int)
 rotate_left
 ·rw [if_neg c25] at H
  have c25b0 : (t728 == (t722.size : Int)) = false := beq_eq_false_iff_ne.mpr c25
  have c25b1 : (t728 != (t722.size : Int)) = true := bne_iff_ne.mpr c25
  simp only [Option.some.injEq, Prod.mk.injEq] at H
  obtain ⟨rfl, rfl, rfl, rfl, rfl, rfl, rfl, rfl⟩ := H
  have hnb70 := NB721_732.out
  have hnc70 := NB732_721.out
  obtain ⟨hcz71_0, hcz71_1, hcz71_2, hcz71_3, hcz71_4, hcz71_5, hcz71_6, hfz71_0, hfz71_1, hfz71_2, hfz71_3, hfz71_4, hfz71_5, hfz71_6⟩ := cf7_ BK721.out
  try go_wp2
  refine bodyPost_ret (results_ct rfl _ _ gb721 80 #[.int .i64 0, .int .i64 0, .int .i64 0, .int .i64 0, .int .i64 0, .int .i64 0, .int .i64 0] (0, 0) _ rfl (bp1_ BK721.out NB721_732.out) Tryd.underlying80 rfl (by kernel_rfl)) rfl ?_
  exact ⟨er_, bl_⟩
 rw [if_pos c25] at H
 have c25b0 : (t728 == (t722.size : Int)) = true := beq_iff_eq.mpr c25
 have c25b1 : (t728 != (t722.size : Int)) = false := bne_eq_false_iff_eq.mpr c25
 clear c25
 replace H := bs_ H
 obtain ⟨t733, A26, H⟩ := H
 try dsimp only at H
 by_cases c27 : t733 = true
 ·subst c27
  rw [if_pos rfl] at H
  simp only [Option.some.injEq, Prod.mk.injEq] at H
  obtain ⟨rfl, rfl, rfl, rfl, rfl, rfl, rfl, rfl⟩ := H
  have hnb39 := NB732_721.out
  have hnc39 := NB721_732.out
  obtain ⟨hcz40_0, hcz40_1, hcz40_2, hcz40_3, hcz40_4, hcz40_5, hcz40_6, hfz40_0, hfz40_1, hfz40_2, hfz40_3, hfz40_4, hfz40_5, hfz40_6⟩ := cf7_ BK732.out
  try go_wp2_with (first | (go_at_call 106; (with_reducible refine (impl_FrameOk.calls kj8 (wrap64 (bt t722 0)) (wrap64 (bt t722 1)) t724 (wrap64 (bt t722 t725)) t730 t731 t727 true _ A26.out).mono ?_); rintro e w41 ⟨rfl, hb⟩; replace BK721 := Aside0.mk (blk_below (bn1_ BK721.out NB721_732.out) hb); replace BK732 := Aside0.mk (blk_below (g := gb732) (o := .cells #[.int .i64 (wrap64 (bt t722 0)), .int .i64 (wrap64 (bt t722 1)), .int .i64 t724, .int .i64 (wrap64 (bt t722 t725)), .int .i64 t730, .int .i64 t731, .int .i64 t727] 80 (0, 0)) (bp0_ BK732.out) hb); replace HB := Aside0.mk (below_step bl_ hb); (try clear hb); obtain ⟨hcz42_0, hcz42_1, hcz42_2, hcz42_3, hcz42_4, hcz42_5, hcz42_6, hfz42_0, hfz42_1, hfz42_2, hfz42_3, hfz42_4, hfz42_5, hfz42_6⟩ := cf7_ BK732.out; obtain ⟨hcz43_0, hcz43_1, hcz43_2, hcz43_3, hcz43_4, hcz43_5, hcz43_6, hfz43_0, hfz43_1, hfz43_2, hfz43_3, hfz43_4, hfz43_5, hfz43_6⟩ := cf7_ BK721.out))
  refine bodyPost_ret (results_ct rfl _ _ gb721 80 #[.int .i64 (wrap64 (bt t722 0)), .int .i64 (wrap64 (bt t722 1)), .int .i64 t724, .int .i64 (wrap64 (bt t722 t725)), .int .i64 t730, .int .i64 t731, .int .i64 t727] (0, 0) _ rfl (bp0_ BK721.out) Tryd.underlying80 rfl (by kernel_rfl)) rfl ?_
  exact ⟨er_, bl_⟩
 replace c27 := Bool.eq_false_iff.mpr c27
 subst c27
 rw [nf_] at H
 simp only [Option.some.injEq, Prod.mk.injEq] at H
 obtain ⟨rfl, rfl, rfl, rfl, rfl, rfl, rfl, rfl⟩ := H
 have hnb55 := NB732_721.out
 have hnc55 := NB721_732.out
 obtain ⟨hcz56_0, hcz56_1, hcz56_2, hcz56_3, hcz56_4, hcz56_5, hcz56_6, hfz56_0, hfz56_1, hfz56_2, hfz56_3, hfz56_4, hfz56_5, hfz56_6⟩ := cf7_ BK732.out
 try go_wp2_with (first | (go_at_call 106; (with_reducible refine (impl_FrameOk.calls kj8 (wrap64 (bt t722 0)) (wrap64 (bt t722 1)) t724 (wrap64 (bt t722 t725)) t730 t731 t727 false _ A26.out).mono ?_); rintro e w57 ⟨rfl, hb⟩; replace BK721 := Aside0.mk (blk_below (bn1_ BK721.out NB721_732.out) hb); replace BK732 := Aside0.mk (blk_below (g := gb732) (o := .cells #[.int .i64 (wrap64 (bt t722 0)), .int .i64 (wrap64 (bt t722 1)), .int .i64 t724, .int .i64 (wrap64 (bt t722 t725)), .int .i64 t730, .int .i64 t731, .int .i64 t727] 80 (0, 0)) (bp0_ BK732.out) hb); replace HB := Aside0.mk (below_step bl_ hb); (try clear hb); obtain ⟨hcz58_0, hcz58_1, hcz58_2, hcz58_3, hcz58_4, hcz58_5, hcz58_6, hfz58_0, hfz58_1, hfz58_2, hfz58_3, hfz58_4, hfz58_5, hfz58_6⟩ := cf7_ BK721.out))
 refine bodyPost_ret (results_ct rfl _ _ gb721 80 #[.int .i64 0, .int .i64 0, .int .i64 0, .int .i64 0, .int .i64 0, .int .i64 0, .int .i64 0] (0, 0) _ rfl (bp0_ BK721.out) Tryd.underlying80 rfl (by kernel_rfl)) rfl ?_
 exact ⟨er_, bl_⟩


def impl_ReadLog.l0 : Nat → ByteArray → List (S27) → Int → Option ((List (S27)) × Bool)
 | 0, _, _, _ => none
 | k + 1, x0, x4, x5 => if x5 < (x0.size : Int) then ((impl_ReadShort.f k x0 x5).bind fun bt737 => ((impl_ReadFrame.f k bt737.1).bind fun bt740 => (if bt737.2.2 = true then (if bt740.2.2.2.2.2.2.2 = true then (if bt740.1 = 1 then (if (x4.length : Int) = 200 then (some ((([] : List (S27))), false)) else (if x4.length < 2932031007402 then (impl_ReadLog.l0 k x0 (x4 ++ [(⟨bt740.2.1, bt740.2.2.1, (⟨bt740.2.2.2.1, bt740.2.2.2.2.1, bt740.2.2.2.2.2.1, bt740.2.2.2.2.2.2.1⟩ : S25)⟩ : S27)]) bt737.2.1) else (none))) else (some ((([] : List (S27))), false))) else (some ((([] : List (S27))), false))) else (some ((([] : List (S27))), false))))) else (some (x4, true))
def impl_ReadLog.f (k : Nat) (a0 : ByteArray) : Option ((List (S27)) × Bool) := impl_ReadLog.l0 k a0 (([] : List (S27))) 0
theorem impl_ReadLog.mono_l : ∀ k, (∀ y0 y1 y2, LeO (impl_ReadLog.l0 k y0 y1 y2) (impl_ReadLog.l0 (k + 1) y0 y1 y2))
 | 0 => fun _ _ _ r h => by simp [impl_ReadLog.l0] at h
 | k + 1 => by
  have ih0 := impl_ReadLog.mono_l k
  ·intro y0 y1 y2
   unfold impl_ReadLog.l0
   have m0 := @impl_ReadFrame.mono
   have m1 := @impl_ReadShort.mono
   exact mo_
theorem impl_ReadLog.mono : ∀ a0 k, LeO (impl_ReadLog.f k a0) (impl_ReadLog.f (k + 1) a0) := by
 intro a0 k
 have ih0 := impl_ReadLog.mono_l k
 unfold impl_ReadLog.f
 have m0 := @impl_ReadFrame.mono
 have m1 := @impl_ReadShort.mono
 exact mo_
theorem impl_ReadLog.calls (k : Nat) (a0 : ByteArray) (r1 : List (S27)) (r2 : Bool) (w : World) (h : impl_ReadLog.f k a0 = some (r1, r2)) :
 Calls Tryd.prog 28 #[.string a0] w fun e w' => ∃ v0_ : Value, e = .returned (.tuple #[v0_, .bool r2]) ∧ Kd.R k27 27 w' w.heap.size (fun _ => True) v0_ r1 ∧ Below w.heap.size w w' := by
 have hu80 := Tryd.underlying80
 have hu25 := Tryd.underlying25
 have hu27 := Tryd.underlying27
 have HB := Aside0.mk (Below.refl w.heap.size w)
 have H := h
 unfold impl_ReadLog.f at H
 clear h
 obtain ⟨y734, hy734⟩ : ∃ y_ : List (S27), y_ = (([] : List (S27))) := ⟨_, rfl⟩
 replace H : (impl_ReadLog.l0 k a0 y734 0) = some (r1, r2) := rp_ H hy734
 have Ny734 := Aside0.mk hy734
 clear hy734
 have H' := Aside0.mk H
 clear H
 go_enter Tryd.func28, Tryd.ntmps28
 go_wp2_with (first | ((with_reducible refine gate_dst (N := 11) rfl ?_); (try (refine gate_guard (by rfl) ?_; dsimp only)); refine Kd.R_lit k27 _ 27 ?hg (N := 11) ?hd (xs := ([] : List (S27))) (inner := []) (ok := fun _ => True) (okp := fun _ => True) ?hr ?hp (fun _ hk => hk) trivial (Below.refl _ _) (Nat.le_refl _) (by simp) ?_; (case hd => rfl); (case hg => rfl); (case hr => first | (go_simp; done) | (go_simp; rfl)); (case hp => exact (Reps.none _ _)); intro v735 w2 ho3 hb hg_ hnew_; clear hg_ hnew_; (first | rw [← Ny734.out] at ho3 | (simp only [Int.reduceToNat] at ho3; rw [← Ny734.out] at ho3)); have HO736 := Aside0.mk (Kd.R_lower ho3 (below_size bl_)); replace HB := Aside0.mk (below_step bl_ hb); clear hb ho3))
 go_loopg [4, 5] k (fun kq v4 v5 w' => ∃ (x4_1 : List (S27)) (x5_1 : Int), v5 = .int .i64 x5_1 ∧ Aside0 (impl_ReadLog.l0 kq a0 x4_1 x5_1 = some (r1, r2)) ∧ Aside0 (kq ≤ k) ∧ Aside0 (Kd.R k27 27 w' w.heap.size (fun _ => True) v4 x4_1) ∧ Aside0 (Below w.heap.size w w'))
 case atStart => exact ⟨(y734), (0), (sr_), H', ⟨Nat.le_refl _⟩, ⟨ra_ HO736.out⟩, ⟨bl_⟩⟩
 clear H'
 obtain ⟨x4_1, x5_1, rfl, HA, HK1, HO_4, HB⟩ := hrel
 cases gk with
 | zero => exact absurd HA.out (by simp [impl_ReadLog.l0])
 | succ k1 => ?_
 have H := HA.out
 clear HA
 simp only [impl_ReadLog.l0] at H
 by_cases c4 : x5_1 < (a0.size : Int)
 rotate_left
 ·rw [if_neg c4] at H
  have c4b0 := decide_eq_false c4
  clear c4
  simp only [Option.some.injEq, Prod.mk.injEq] at H
  obtain ⟨rfl, rfl⟩ := H
  go_wp2
  go_ret2
  exact ⟨_, er_, ra_ HO_4.out, bl_⟩
 rw [if_pos c4] at H
 have c4b0 := decide_eq_true c4
 clear c4
 replace H := bs_ H
 obtain ⟨⟨t737, t738, t739⟩, A5, H⟩ := H
 try dsimp only at H
 replace H := bs_ H
 obtain ⟨⟨t740, t741, t742, t743, t744, t745, t746, t747⟩, A6, H⟩ := H
 try dsimp only at H
 by_cases c7 : t739 = true
 rotate_left
 ·replace c7 := Bool.eq_false_iff.mpr c7
  subst c7
  rw [nf_] at H
  obtain ⟨y761, hy761⟩ : ∃ y_ : List (S27), y_ = (([] : List (S27))) := ⟨_, rfl⟩
  replace H : (some (y761, false)) = some (r1, r2) := rp_ H hy761
  have Ny761 := Aside0.mk hy761
  clear hy761
  simp only [Option.some.injEq, Prod.mk.injEq] at H
  obtain ⟨rfl, rfl⟩ := H
  go_wp2_with (first | ((with_reducible refine gate_callee (f := 75) rfl ?_); refine gs_ (some 19) Tryd.func75 #[.string a0, .int .i64 x5_1] ?_; (with_reducible refine (impl_ReadShort.calls k1 a0 x5_1 t737 t738 false _ A5.out).mono ?_); rintro e w37 ⟨rfl, hb⟩; refine ⟨_, rfl, ?_⟩; replace HO_4 := Aside0.mk (Kd.R_below (ra_ HO_4.out) hb); replace HB := Aside0.mk (below_step bl_ hb); (try clear hb)) | ((with_reducible refine gate_callee (f := 76) rfl ?_); refine gs_ (some 25) Tryd.func76 #[.string t737] ?_; (with_reducible refine (impl_ReadFrame.calls k1 t737 t740 t741 t742 t743 t744 t745 t746 t747 _ A6.out).mono ?_); rintro e w38 ⟨rfl, hb⟩; refine ⟨_, rfl, ?_⟩; replace HO_4 := Aside0.mk (Kd.R_below (ra_ HO_4.out) hb); replace HB := Aside0.mk (below_step bl_ hb); (try clear hb)) | ((with_reducible refine gate_dst (N := 9) rfl ?_); (try (refine gate_guard (by rfl) ?_; dsimp only)); refine bx_ 9 80 #[.int .i64 0, .int .i64 0, .int .i64 0, .int .i64 0, .int .i64 0, .int .i64 0, .int .i64 0] ?_; intro gb748 hg w39 hbox hb; replace HO_4 := Aside0.mk (Kd.R_below (ra_ HO_4.out) hb); have BK748 := Aside0.mk (hbox); have GW748 := Aside0.mk ((hz_ : w.heap.size ≤ gb748)); have GE748 := Aside0.mk ((hz_ : w.heap.size ≤ gb748)); replace HB := Aside0.mk (below_step bl_ hb); clear hb hbox hg; obtain ⟨hcz40_0, hcz40_1, hcz40_2, hcz40_3, hcz40_4, hcz40_5, hcz40_6, hfz40_0, hfz40_1, hfz40_2, hfz40_3, hfz40_4, hfz40_5, hfz40_6⟩ := cf7_ BK748.out) | ((with_reducible refine gate_dst (N := 44) rfl ?_); (try (refine gate_guard (by rfl) ?_; dsimp only)); refine Kd.R_lit k27 _ 27 ?hg (N := 44) ?hd (xs := ([] : List (S27))) (inner := []) (ok := fun _ => True) (okp := fun _ => True) ?hr ?hp (fun _ hk => hk) trivial (Below.refl _ _) (Nat.le_refl _) (by simp) ?_; (case hd => rfl); (case hg => rfl); (case hr => first | (go_simp; done) | (go_simp; rfl)); (case hp => exact (Reps.none _ _)); intro v762 w41 ho42 hb hg_ hnew_; clear hg_ hnew_; (first | rw [← Ny761.out] at ho42 | (simp only [Int.reduceToNat] at ho42; rw [← Ny761.out] at ho42)); have HO763 := Aside0.mk (Kd.R_lower (Kd.R_new' ho42 (Kd.R_lt (rfa_ HO_4.out BK748.out))) (below_size bl_)); replace HO_4 := Aside0.mk (Kd.R_elder' (rfa_ HO_4.out BK748.out) (Kd.R_base ho42) hb); replace BK748 := Aside0.mk (blk_below (g := gb748) (o := .cells #[.int .i64 t740, .int .i64 t741, .int .i64 t742, .int .i64 t743, .int .i64 t744, .int .i64 t745, .int .i64 t746] 80 (0, 0)) (bp0_ BK748.out) hb); replace HB := Aside0.mk (below_step bl_ hb); clear hb ho42))
  go_ret2
  exact ⟨_, er_, by (with_reducible repeat (first | apply Kd.R_alloc | apply Kd.R_drewN | apply Kd.R_drew)); exact Kd.R_mono HO763.out (fun _ hk => trivial), bl_⟩
 subst c7
 rw [if_pos rfl] at H
 by_cases c8 : t747 = true
 rotate_left
 ·replace c8 := Bool.eq_false_iff.mpr c8
  subst c8
  rw [nf_] at H
  obtain ⟨y758, hy758⟩ : ∃ y_ : List (S27), y_ = (([] : List (S27))) := ⟨_, rfl⟩
  replace H : (some (y758, false)) = some (r1, r2) := rp_ H hy758
  have Ny758 := Aside0.mk hy758
  clear hy758
  simp only [Option.some.injEq, Prod.mk.injEq] at H
  obtain ⟨rfl, rfl⟩ := H
  go_wp2_with (first | ((with_reducible refine gate_callee (f := 75) rfl ?_); refine gs_ (some 19) Tryd.func75 #[.string a0, .int .i64 x5_1] ?_; (with_reducible refine (impl_ReadShort.calls k1 a0 x5_1 t737 t738 true _ A5.out).mono ?_); rintro e w31 ⟨rfl, hb⟩; refine ⟨_, rfl, ?_⟩; replace HO_4 := Aside0.mk (Kd.R_below (ra_ HO_4.out) hb); replace HB := Aside0.mk (below_step bl_ hb); (try clear hb)) | ((with_reducible refine gate_callee (f := 76) rfl ?_); refine gs_ (some 25) Tryd.func76 #[.string t737] ?_; (with_reducible refine (impl_ReadFrame.calls k1 t737 t740 t741 t742 t743 t744 t745 t746 false _ A6.out).mono ?_); rintro e w32 ⟨rfl, hb⟩; refine ⟨_, rfl, ?_⟩; replace HO_4 := Aside0.mk (Kd.R_below (ra_ HO_4.out) hb); replace HB := Aside0.mk (below_step bl_ hb); (try clear hb)) | ((with_reducible refine gate_dst (N := 9) rfl ?_); (try (refine gate_guard (by rfl) ?_; dsimp only)); refine bx_ 9 80 #[.int .i64 0, .int .i64 0, .int .i64 0, .int .i64 0, .int .i64 0, .int .i64 0, .int .i64 0] ?_; intro gb748 hg w33 hbox hb; replace HO_4 := Aside0.mk (Kd.R_below (ra_ HO_4.out) hb); have BK748 := Aside0.mk (hbox); have GW748 := Aside0.mk ((hz_ : w.heap.size ≤ gb748)); have GE748 := Aside0.mk ((hz_ : w.heap.size ≤ gb748)); replace HB := Aside0.mk (below_step bl_ hb); clear hb hbox hg; obtain ⟨hcz34_0, hcz34_1, hcz34_2, hcz34_3, hcz34_4, hcz34_5, hcz34_6, hfz34_0, hfz34_1, hfz34_2, hfz34_3, hfz34_4, hfz34_5, hfz34_6⟩ := cf7_ BK748.out) | ((with_reducible refine gate_dst (N := 44) rfl ?_); (try (refine gate_guard (by rfl) ?_; dsimp only)); refine Kd.R_lit k27 _ 27 ?hg (N := 44) ?hd (xs := ([] : List (S27))) (inner := []) (ok := fun _ => True) (okp := fun _ => True) ?hr ?hp (fun _ hk => hk) trivial (Below.refl _ _) (Nat.le_refl _) (by simp) ?_; (case hd => rfl); (case hg => rfl); (case hr => first | (go_simp; done) | (go_simp; rfl)); (case hp => exact (Reps.none _ _)); intro v759 w35 ho36 hb hg_ hnew_; clear hg_ hnew_; (first | rw [← Ny758.out] at ho36 | (simp only [Int.reduceToNat] at ho36; rw [← Ny758.out] at ho36)); have HO760 := Aside0.mk (Kd.R_lower (Kd.R_new' ho36 (Kd.R_lt (rfa_ HO_4.out BK748.out))) (below_size bl_)); replace HO_4 := Aside0.mk (Kd.R_elder' (rfa_ HO_4.out BK748.out) (Kd.R_base ho36) hb); replace BK748 := Aside0.mk (blk_below (g := gb748) (o := .cells #[.int .i64 t740, .int .i64 t741, .int .i64 t742, .int .i64 t743, .int .i64 t744, .int .i64 t745, .int .i64 t746] 80 (0, 0)) (bp0_ BK748.out) hb); replace HB := Aside0.mk (below_step bl_ hb); clear hb ho36))
  go_ret2
  exact ⟨_, er_, by (with_reducible repeat (first | apply Kd.R_alloc | apply Kd.R_drewN | apply Kd.R_drew)); exact Kd.R_mono HO760.out (fun _ hk => trivial), bl_⟩
 subst c8
 rw [if_pos rfl] at H
 by_cases c9 : t740 = 1
 rotate_left
 ·rw [if_neg c9] at H
  have c9b0 : (t740 == 1) = false := beq_eq_false_iff_ne.mpr c9
  have c9b1 : (t740 != 1) = true := bne_iff_ne.mpr c9
  obtain ⟨y755, hy755⟩ : ∃ y_ : List (S27), y_ = (([] : List (S27))) := ⟨_, rfl⟩
  replace H : (some (y755, false)) = some (r1, r2) := rp_ H hy755
  have Ny755 := Aside0.mk hy755
  clear hy755
  simp only [Option.some.injEq, Prod.mk.injEq] at H
  obtain ⟨rfl, rfl⟩ := H
  go_wp2_with (first | ((with_reducible refine gate_callee (f := 75) rfl ?_); refine gs_ (some 19) Tryd.func75 #[.string a0, .int .i64 x5_1] ?_; (with_reducible refine (impl_ReadShort.calls k1 a0 x5_1 t737 t738 true _ A5.out).mono ?_); rintro e w25 ⟨rfl, hb⟩; refine ⟨_, rfl, ?_⟩; replace HO_4 := Aside0.mk (Kd.R_below (ra_ HO_4.out) hb); replace HB := Aside0.mk (below_step bl_ hb); (try clear hb)) | ((with_reducible refine gate_callee (f := 76) rfl ?_); refine gs_ (some 25) Tryd.func76 #[.string t737] ?_; (with_reducible refine (impl_ReadFrame.calls k1 t737 t740 t741 t742 t743 t744 t745 t746 true _ A6.out).mono ?_); rintro e w26 ⟨rfl, hb⟩; refine ⟨_, rfl, ?_⟩; replace HO_4 := Aside0.mk (Kd.R_below (ra_ HO_4.out) hb); replace HB := Aside0.mk (below_step bl_ hb); (try clear hb)) | ((with_reducible refine gate_dst (N := 9) rfl ?_); (try (refine gate_guard (by rfl) ?_; dsimp only)); refine bx_ 9 80 #[.int .i64 0, .int .i64 0, .int .i64 0, .int .i64 0, .int .i64 0, .int .i64 0, .int .i64 0] ?_; intro gb748 hg w27 hbox hb; replace HO_4 := Aside0.mk (Kd.R_below (ra_ HO_4.out) hb); have BK748 := Aside0.mk (hbox); have GW748 := Aside0.mk ((hz_ : w.heap.size ≤ gb748)); have GE748 := Aside0.mk ((hz_ : w.heap.size ≤ gb748)); replace HB := Aside0.mk (below_step bl_ hb); clear hb hbox hg; obtain ⟨hcz28_0, hcz28_1, hcz28_2, hcz28_3, hcz28_4, hcz28_5, hcz28_6, hfz28_0, hfz28_1, hfz28_2, hfz28_3, hfz28_4, hfz28_5, hfz28_6⟩ := cf7_ BK748.out) | ((with_reducible refine gate_dst (N := 44) rfl ?_); (try (refine gate_guard (by rfl) ?_; dsimp only)); refine Kd.R_lit k27 _ 27 ?hg (N := 44) ?hd (xs := ([] : List (S27))) (inner := []) (ok := fun _ => True) (okp := fun _ => True) ?hr ?hp (fun _ hk => hk) trivial (Below.refl _ _) (Nat.le_refl _) (by simp) ?_; (case hd => rfl); (case hg => rfl); (case hr => first | (go_simp; done) | (go_simp; rfl)); (case hp => exact (Reps.none _ _)); intro v756 w29 ho30 hb hg_ hnew_; clear hg_ hnew_; (first | rw [← Ny755.out] at ho30 | (simp only [Int.reduceToNat] at ho30; rw [← Ny755.out] at ho30)); have HO757 := Aside0.mk (Kd.R_lower (Kd.R_new' ho30 (Kd.R_lt (rfa_ HO_4.out BK748.out))) (below_size bl_)); replace HO_4 := Aside0.mk (Kd.R_elder' (rfa_ HO_4.out BK748.out) (Kd.R_base ho30) hb); replace BK748 := Aside0.mk (blk_below (g := gb748) (o := .cells #[.int .i64 t740, .int .i64 t741, .int .i64 t742, .int .i64 t743, .int .i64 t744, .int .i64 t745, .int .i64 t746] 80 (0, 0)) (bp0_ BK748.out) hb); replace HB := Aside0.mk (below_step bl_ hb); clear hb ho30))
  go_ret2
  exact ⟨_, er_, by (with_reducible repeat (first | apply Kd.R_alloc | apply Kd.R_drewN | apply Kd.R_drew)); exact Kd.R_mono HO757.out (fun _ hk => trivial), bl_⟩
 rw [if_pos c9] at H
 have c9b0 : (t740 == 1) = true := beq_iff_eq.mpr c9
 have c9b1 : (t740 != 1) = false := bne_eq_false_iff_eq.mpr c9
 clear c9
 by_cases c10 : (x4_1.length : Int) = 200
 ·rw [if_pos c10] at H
  have c10b0 : ((x4_1.length : Int) == 200) = true := beq_iff_eq.mpr c10
  have c10b1 : ((x4_1.length : Int) != 200) = false := bne_eq_false_iff_eq.mpr c10
  clear c10
  obtain ⟨y749, hy749⟩ : ∃ y_ : List (S27), y_ = (([] : List (S27))) := ⟨_, rfl⟩
  replace H : (some (y749, false)) = some (r1, r2) := rp_ H hy749
  have Ny749 := Aside0.mk hy749
  clear hy749
  simp only [Option.some.injEq, Prod.mk.injEq] at H
  obtain ⟨rfl, rfl⟩ := H
  go_wp2_with (first | ((with_reducible refine gate_callee (f := 75) rfl ?_); refine gs_ (some 19) Tryd.func75 #[.string a0, .int .i64 x5_1] ?_; (with_reducible refine (impl_ReadShort.calls k1 a0 x5_1 t737 t738 true _ A5.out).mono ?_); rintro e w11 ⟨rfl, hb⟩; refine ⟨_, rfl, ?_⟩; replace HO_4 := Aside0.mk (Kd.R_below (ra_ HO_4.out) hb); replace HB := Aside0.mk (below_step bl_ hb); (try clear hb)) | ((with_reducible refine gate_callee (f := 76) rfl ?_); refine gs_ (some 25) Tryd.func76 #[.string t737] ?_; (with_reducible refine (impl_ReadFrame.calls k1 t737 t740 t741 t742 t743 t744 t745 t746 true _ A6.out).mono ?_); rintro e w12 ⟨rfl, hb⟩; refine ⟨_, rfl, ?_⟩; replace HO_4 := Aside0.mk (Kd.R_below (ra_ HO_4.out) hb); replace HB := Aside0.mk (below_step bl_ hb); (try clear hb)) | ((with_reducible refine gate_dst (N := 9) rfl ?_); (try (refine gate_guard (by rfl) ?_; dsimp only)); refine bx_ 9 80 #[.int .i64 0, .int .i64 0, .int .i64 0, .int .i64 0, .int .i64 0, .int .i64 0, .int .i64 0] ?_; intro gb748 hg w13 hbox hb; replace HO_4 := Aside0.mk (Kd.R_below (ra_ HO_4.out) hb); have BK748 := Aside0.mk (hbox); have GW748 := Aside0.mk ((hz_ : w.heap.size ≤ gb748)); have GE748 := Aside0.mk ((hz_ : w.heap.size ≤ gb748)); replace HB := Aside0.mk (below_step bl_ hb); clear hb hbox hg; obtain ⟨hcz14_0, hcz14_1, hcz14_2, hcz14_3, hcz14_4, hcz14_5, hcz14_6, hfz14_0, hfz14_1, hfz14_2, hfz14_3, hfz14_4, hfz14_5, hfz14_6⟩ := cf7_ BK748.out; obtain ⟨Ao15, co15, eo15⟩ := Kd.R_slice HO_4.out; subst eo15) | ((with_reducible refine gate_dst (N := 44) rfl ?_); (try (refine gate_guard (by rfl) ?_; dsimp only)); refine Kd.R_lit k27 _ 27 ?hg (N := 44) ?hd (xs := ([] : List (S27))) (inner := []) (ok := fun _ => True) (okp := fun _ => True) ?hr ?hp (fun _ hk => hk) trivial (Below.refl _ _) (Nat.le_refl _) (by simp) ?_; (case hd => rfl); (case hg => rfl); (case hr => first | (go_simp; done) | (go_simp; rfl)); (case hp => exact (Reps.none _ _)); intro v750 w16 ho17 hb hg_ hnew_; clear hg_ hnew_; (first | rw [← Ny749.out] at ho17 | (simp only [Int.reduceToNat] at ho17; rw [← Ny749.out] at ho17)); have HO751 := Aside0.mk (Kd.R_lower (Kd.R_new' ho17 (Kd.R_lt (rfa_ HO_4.out BK748.out))) (below_size bl_)); replace HO_4 := Aside0.mk (Kd.R_elder' (rfa_ HO_4.out BK748.out) (Kd.R_base ho17) hb); replace BK748 := Aside0.mk (blk_below (g := gb748) (o := .cells #[.int .i64 t740, .int .i64 t741, .int .i64 t742, .int .i64 t743, .int .i64 t744, .int .i64 t745, .int .i64 t746] 80 (0, 0)) (bp0_ BK748.out) hb); replace HB := Aside0.mk (below_step bl_ hb); clear hb ho17))
  go_ret2
  exact ⟨_, er_, by (with_reducible repeat (first | apply Kd.R_alloc | apply Kd.R_drewN | apply Kd.R_drew)); exact Kd.R_mono HO751.out (fun _ hk => trivial), bl_⟩
 rw [if_neg c10] at H
 have c10b0 : ((x4_1.length : Int) == 200) = false := beq_eq_false_iff_ne.mpr c10
 have c10b1 : ((x4_1.length : Int) != 200) = true := bne_iff_ne.mpr c10
 by_cases c18 : x4_1.length < 2932031007402
 rotate_left
 ·exact nn_ c18 H
 rw [if_pos c18] at H
 have LMc18 := Aside0.mk c18
 clear c18
 obtain ⟨y752, hy752⟩ : ∃ y_ : List (S27), y_ = (x4_1 ++ [(⟨t741, t742, (⟨t743, t744, t745, t746⟩ : S25)⟩ : S27)]) := ⟨_, rfl⟩
 replace H : (impl_ReadLog.l0 k1 a0 y752 t738) = some (r1, r2) := rp_ H hy752
 have Ny752 := Aside0.mk hy752
 clear hy752
 have H' := Aside0.mk H
 clear H
 go_wp2_with (first | ((with_reducible refine gate_callee (f := 75) rfl ?_); refine gs_ (some 19) Tryd.func75 #[.string a0, .int .i64 x5_1] ?_; (with_reducible refine (impl_ReadShort.calls k1 a0 x5_1 t737 t738 true _ A5.out).mono ?_); rintro e w19 ⟨rfl, hb⟩; refine ⟨_, rfl, ?_⟩; replace HO_4 := Aside0.mk (Kd.R_below (ra_ HO_4.out) hb); replace HB := Aside0.mk (below_step bl_ hb); (try clear hb)) | ((with_reducible refine gate_callee (f := 76) rfl ?_); refine gs_ (some 25) Tryd.func76 #[.string t737] ?_; (with_reducible refine (impl_ReadFrame.calls k1 t737 t740 t741 t742 t743 t744 t745 t746 true _ A6.out).mono ?_); rintro e w20 ⟨rfl, hb⟩; refine ⟨_, rfl, ?_⟩; replace HO_4 := Aside0.mk (Kd.R_below (ra_ HO_4.out) hb); replace HB := Aside0.mk (below_step bl_ hb); (try clear hb)) | ((with_reducible refine gate_dst (N := 9) rfl ?_); (try (refine gate_guard (by rfl) ?_; dsimp only)); refine bx_ 9 80 #[.int .i64 0, .int .i64 0, .int .i64 0, .int .i64 0, .int .i64 0, .int .i64 0, .int .i64 0] ?_; intro gb748 hg w21 hbox hb; replace HO_4 := Aside0.mk (Kd.R_below (ra_ HO_4.out) hb); have BK748 := Aside0.mk (hbox); have GW748 := Aside0.mk ((hz_ : w.heap.size ≤ gb748)); have GE748 := Aside0.mk ((hz_ : w.heap.size ≤ gb748)); replace HB := Aside0.mk (below_step bl_ hb); clear hb hbox hg; obtain ⟨hcz22_0, hcz22_1, hcz22_2, hcz22_3, hcz22_4, hcz22_5, hcz22_6, hfz22_0, hfz22_1, hfz22_2, hfz22_3, hfz22_4, hfz22_5, hfz22_6⟩ := cf7_ BK748.out; obtain ⟨Ao23, co23, eo23⟩ := Kd.R_slice HO_4.out; subst eo23) | ((with_reducible refine gate_builtin (b := .append) (xs := #[.tmp 45, .tmp 53]) rfl ?_); (try (refine gate_guard (by rfl) ?_; dsimp only)); at_builtin; refine Kd.R_append k27 (w0 := w) w.heap.size rfl (.tmp 45) (.tmp 53) 31 27 (.agg #[(.int .i64 0), (.int .i64 0), (.int .i64 0), (.int .i64 0), (.int .i64 0), (.int .i64 0)]) 48 rfl Tryd.underlying31 info27 rfl (by decide) (by omega) (.slice Ao23 x4_1.length co23) x4_1 (⟨t741, t742, (⟨t743, t744, t745, t746⟩ : S25)⟩ : S27) [.int .i64 t741, .int .i64 t742, .int .i64 t743, .int .i64 t744, .int .i64 t745, .int .i64 t746] (fun _ => True) (fun _ => False) rfl (by first | (go_simp; done) | (go_simp; rfl)) ?aP (fun _ hk => hk.elim) ?aF ?aO ?aB ?aS ?aL ?_; (case aP => exact k27_mkM _ _ _ (⟨t741, t742, (⟨t743, t744, t745, t746⟩ : S25)⟩ : S27)); (case aB => exact bl_); (case aF => exact (fun _ _ => trivial)); (case aO => exact (by (with_reducible repeat (first | apply Kd.R_alloc | apply Kd.R_drewN | apply Kd.R_drew)); exact Kd.R_mono (Kd.R_far (p := ⟨gb748, 6, none⟩) (Kd.R_far (p := ⟨gb748, 5, none⟩) (Kd.R_far (p := ⟨gb748, 4, none⟩) (Kd.R_far (p := ⟨gb748, 3, none⟩) (Kd.R_far (p := ⟨gb748, 2, none⟩) (Kd.R_far (p := ⟨gb748, 1, none⟩) (Kd.R_far (p := ⟨gb748, 0, none⟩) (Kd.R_types HO_4.out BK748.out (by decide)) (fun _ hk => hk.2) (.int .i64 t740)) (fun _ hk => hk.2) (.int .i64 t741)) (fun _ hk => hk.2) (.int .i64 t742)) (fun _ hk => hk.2) (.int .i64 t743)) (fun _ hk => hk.2) (.int .i64 t744)) (fun _ hk => hk.2) (.int .i64 t745)) (fun _ hk => hk.2) (.int .i64 t746)) (fun _ hk => trivial))); (case aS => exact (below_size bl_)); (case aL => have := LMc18.out; omega); intro v753 w24 ho hb hg hat; rw [← Ny752.out] at ho; replace BK748 := Aside0.mk (blk_grown (g := gb748) (o := .cells #[.int .i64 t740, .int .i64 t741, .int .i64 t742, .int .i64 t743, .int .i64 t744, .int .i64 t745, .int .i64 t746] 80 (0, 0)) (bp0_ BK748.out) hg (Kd.R_ne HO_4.out BK748.out (by decide))); replace HB := Aside0.mk (hb); have HO754 := Aside0.mk (ho); clear HO_4; clear ho hb hg hat))
 go_roundg k1
 case measure => have := HK1.out; omega
 case rel => exact ⟨(y752), (t738), (sr_), H', ⟨by have := HK1.out; omega⟩, ⟨ra_ HO754.out⟩, ⟨bl_⟩⟩


mutual
def spec_ReadVar.l0 : Nat → ByteArray → Int → Int → Int → Int → Option (Int × Int × Bool)
 | 0, _, _, _, _, _ => none
 | k + 1, x0, x1, x7, x8, x9 => if x9 < (x0.size : Int) then (spec_ReadVar.j1 k x0 x1 x7 x8 x9 (decide (x9 < (wrap64 (x1 + 5))))) else (spec_ReadVar.j1 k x0 x1 x7 x8 x9 false)
def spec_ReadVar.j1 : Nat → ByteArray → Int → Int → Int → Int → Bool → Option (Int × Int × Bool)
 | 0, _, _, _, _, _, _ => none
 | k + 1, x0, x1, x7, x8, x9, x25 => if x25 = true then (if 0 ≤ x9 then (if x9 < (x0.size : Int) then (if (bt x0 x9) < 128 then (if (wrap64 (x7 + (wrap64 ((Int.tmod (wrap64 (bt x0 x9)) 128) * x8)))) > 1000000000 then (some (0, 0, false)) else ((spec_l01Var.f k (wrap64 (x7 + (wrap64 ((Int.tmod (wrap64 (bt x0 x9)) 128) * x8))))).bind fun t765 => (if 0 ≤ x1 then (if x1 ≤ (wrap64 (x9 + 1)) then (if (wrap64 (x9 + 1)) ≤ (x0.size : Int) then (if t765.toList = (x0.extract (x1 : Int).toNat ((wrap64 (x9 + 1)) : Int).toNat).toList then (some (wrap64 (x7 + (wrap64 ((Int.tmod (wrap64 (bt x0 x9)) 128) * x8))), wrap64 (x9 + 1), true)) else (some (0, 0, false))) else (none)) else (none)) else (none)))) else (spec_ReadVar.l0 k x0 x1 (wrap64 (x7 + (wrap64 ((Int.tmod (wrap64 (bt x0 x9)) 128) * x8)))) (wrap64 (x8 * 128)) (wrap64 (x9 + 1)))) else (none)) else (none)) else (some (0, 0, false))
end
def spec_ReadVar.f (k : Nat) (a0 : ByteArray) (a1 : Int) : Option (Int × Int × Bool) := (spec_l01In.f a1 0 (a0.size : Int)).bind fun t764 => (if t764 = true then (spec_ReadVar.l0 k a0 a1 0 1 a1) else (some (0, 0, false)))
theorem spec_ReadVar.mono_l : ∀ k, (∀ y0 y1 y2 y3 y4, LeO (spec_ReadVar.l0 k y0 y1 y2 y3 y4) (spec_ReadVar.l0 (k + 1) y0 y1 y2 y3 y4)) ∧ (∀ y0 y1 y2 y3 y4 y5, LeO (spec_ReadVar.j1 k y0 y1 y2 y3 y4 y5) (spec_ReadVar.j1 (k + 1) y0 y1 y2 y3 y4 y5))
 | 0 => ⟨fun _ _ _ _ _ r h => by simp [spec_ReadVar.l0] at h, fun _ _ _ _ _ _ r h => by simp [spec_ReadVar.j1] at h⟩
 | k + 1 => by
  obtain ⟨ih0, ih1⟩ := spec_ReadVar.mono_l k
  refine ⟨?_, ?_⟩
  ·intro y0 y1 y2 y3 y4
   unfold spec_ReadVar.l0
   have m0 := @spec_l01Var.mono
   exact mo_
  ·intro y0 y1 y2 y3 y4 y5
   unfold spec_ReadVar.j1
   have m0 := @spec_l01Var.mono
   exact mo_
theorem spec_ReadVar.mono : ∀ a0 a1 k, LeO (spec_ReadVar.f k a0 a1) (spec_ReadVar.f (k + 1) a0 a1) := by
 intro a0 a1 k
 obtain ⟨ih0, ih1⟩ := spec_ReadVar.mono_l k
 unfold spec_ReadVar.f
 have m0 := @spec_l01Var.mono
 exact mo_
def spec_ReadVar.T11 : Bool × List (List Nat × List Nat) := (true, [([], []), ([0], [0]), ([1], [1]), ([2], [2]), ([3, 2, 2], [2, 3]), ([2], [2]), ([2], [2]), ([2], [2]), ([7, 2], [2, 7]), ([5, 6, 8, 2], [2, 5, 6, 8]), ([4, 9, 2], [2, 4, 9]), ([2, 10], [2, 10])])
def spec_ReadVar.B11 : List Nat := [0, 1, 3, 7, 15, 7, 7, 7, 135, 487, 1023, 2047]
theorem spec_ReadVar.tab11 : rtab .any (opsOf Tryd.f91 11) = spec_ReadVar.T11 := by kernel_rfl
theorem spec_ReadVar.bits11 : waitsOk spec_ReadVar.T11.2 spec_ReadVar.B11 = true := by kernel_rfl
theorem spec_ReadVar.calls (k : Nat) (a0 : ByteArray) (a1 : Int) (r1 : Int) (r2 : Int) (r3 : Bool) (w : World) (h : spec_ReadVar.f k a0 a1 = some (r1, r2, r3)) :
 Calls Tryd.prog 91 #[.string a0, .int .i64 a1] w fun e w' => e = .returned (.tuple #[.int .i64 r1, .int .i64 r2, .bool r3]) ∧ Below w.heap.size w w' := by
 have HB := Aside0.mk (Below.refl w.heap.size w)
 have H := h
 unfold spec_ReadVar.f at H
 clear h
 replace H := bs_ H
 obtain ⟨t764, A3, H⟩ := H
 try dsimp only at H
 by_cases c4 : t764 = true
 rotate_left
 ·replace c4 := Bool.eq_false_iff.mpr c4
  subst c4
  rw [nf_] at H
  simp only [Option.some.injEq, Prod.mk.injEq] at H
  obtain ⟨rfl, rfl, rfl⟩ := H
  go_enter Tryd.func91, Tryd.ntmps91
  go_wp2_with (first | ((with_reducible refine gate_callee (f := 62) rfl ?_); refine gs_ (some 13) Tryd.func62 #[.int .i64 a1, .int .i64 0, .int .i64 (a0.size : Int)] ?_; (with_reducible refine (spec_l01In.calls a1 0 (a0.size : Int) false _ A3.out).mono ?_); rintro e w' ⟨rfl, ⟨nd, rfl⟩⟩; refine ⟨_, rfl, ?_⟩))
  go_ret3
  exact ⟨er_, bl_⟩
 subst c4
 rw [if_pos rfl] at H
 have H' := Aside0.mk H
 clear H
 go_enter Tryd.func91, Tryd.ntmps91
 go_wp2_with (first | ((with_reducible refine gate_callee (f := 62) rfl ?_); refine gs_ (some 13) Tryd.func62 #[.int .i64 a1, .int .i64 0, .int .i64 (a0.size : Int)] ?_; (with_reducible refine (spec_l01In.calls a1 0 (a0.size : Int) true _ A3.out).mono ?_); rintro e w' ⟨rfl, ⟨nd, rfl⟩⟩; refine ⟨_, rfl, ?_⟩))
 go_loopg [7, 8, 9] k (fun kq v7 v8 v9 w' => ∃ (x7_1 : Int) (x8_1 : Int) (x9_1 : Int), v7 = .int .i64 x7_1 ∧ v8 = .int .i64 x8_1 ∧ v9 = .int .i64 x9_1 ∧ Aside0 (spec_ReadVar.l0 kq a0 a1 x7_1 x8_1 x9_1 = some (r1, r2, r3)) ∧ Aside0 (kq ≤ k) ∧ Aside0 (Below w.heap.size w w'))
 case atStart => exact ⟨(0), (1), (a1), (sr_), (sr_), (sr_), H', ⟨Nat.le_refl _⟩, ⟨bl_⟩⟩
 clear H'
 try clear c4
 obtain ⟨x7_1, x8_1, x9_1, rfl, rfl, rfl, HA, HK1, HB⟩ := hrel
 cases gk with
 | zero => exact absurd HA.out (by simp [spec_ReadVar.l0])
 | succ k1 => ?_
 have H := HA.out
 clear HA
 simp only [spec_ReadVar.l0] at H
 have HC5 := Aside0.mk H
 clear H
 go_upto_region 6 with (fail)
 go_cut [25] (fun v25 wc => ∃ (kq : Nat) (x25_4 : Bool), v25 = .bool x25_4 ∧ Aside0 (spec_ReadVar.j1 kq a0 a1 x7_1 x8_1 x9_1 x25_4 = some (r1, r2, r3)) ∧ Aside0 (kq ≤ k1) ∧ Aside0 (Below w.heap.size w wc))
 case first =>
  have H := HC5.out
  clear HC5
  by_cases c6 : x9_1 < (a0.size : Int)
  rotate_left
  ·rw [if_neg c6] at H
   have c6b0 := decide_eq_false c6
   clear c6
   (first | rw [c6b0] | (simp only [i64_w, i32_w]; rw [c6b0]) | skip)
   have H' := Aside0.mk H
   clear H
   go_wp2
   go_meet
   case rel => exact ⟨_, (false), (sr_), H', ⟨by have := HK1.out; first | omega | exact Nat.le_refl _⟩, ⟨bl_⟩⟩
  rw [if_pos c6] at H
  have c6b0 := decide_eq_true c6
  clear c6
  (first | rw [c6b0] | (simp only [i64_w, i32_w]; rw [c6b0]) | skip)
  have H' := Aside0.mk H
  clear H
  go_wp2
  go_meet
  case rel => exact ⟨_, (decide (x9_1 < (wrap64 (a1 + 5)))), (sr_), H', ⟨by have := HK1.out; first | omega | exact Nat.le_refl _⟩, ⟨bl_⟩⟩
 clear HC5
 try clear c4
 obtain ⟨kq, x25_4, rfl, HA, HJ4, HB⟩ := hcut
 cases kq with
 | zero => exact absurd HA.out (by simp [spec_ReadVar.j1])
 | succ kj4 => ?_
 have H := HA.out
 clear HA
 simp only [spec_ReadVar.j1] at H
 by_cases c7 : x25_4 = true
 rotate_left
 ·replace c7 := Bool.eq_false_iff.mpr c7
  subst c7
  rw [nf_] at H
  simp only [Option.some.injEq, Prod.mk.injEq] at H
  obtain ⟨rfl, rfl, rfl⟩ := H
  go_wp2
  go_ret3
  exact ⟨er_, bl_⟩
 subst c7
 rw [if_pos rfl] at H
 by_cases c8 : 0 ≤ x9_1
 rotate_left
 ·exact nn_ c8 H
 rw [if_pos c8] at H
 have c8b0 := decide_eq_true c8
 clear c8
 by_cases c9 : x9_1 < (a0.size : Int)
 rotate_left
 ·exact nn_ c9 H
 rw [if_pos c9] at H
 have c9b0 := decide_eq_true c9
 clear c9
 by_cases c12 : (bt a0 x9_1) < 128
 rotate_left
 ·rw [if_neg c12] at H
  have c12b0 := decide_eq_false c12
  clear c12
  have H' := Aside0.mk H
  clear H
  have p10 : 0 ≤ (x9_1 : Int) := of_decide_eq_true as_
  have q10 : x9_1 < (a0.size : Int) := of_decide_eq_true as_
  have hx10 := bt_at a0 x9_1
  replace p10 := eq_true p10
  replace q10 := eq_true q10
  have p11 : 0 ≤ (x9_1 : Int) := of_decide_eq_true as_
  have q11 : x9_1 < (a0.size : Int) := of_decide_eq_true as_
  have hx11 := bt_at a0 x9_1
  replace p11 := eq_true p11
  replace q11 := eq_true q11
  go_wp2
  go_roundg kj4
  case measure => have := HK1.out; have := HJ4.out; omega
  case rel => exact ⟨(wrap64 (x7_1 + (wrap64 ((Int.tmod (wrap64 (bt a0 x9_1)) 128) * x8_1)))), (wrap64 (x8_1 * 128)), (wrap64 (x9_1 + 1)), (sr_), (sr_), (sr_), H', ⟨by have := HK1.out; have := HJ4.out; omega⟩, ⟨bl_⟩⟩
 rw [if_pos c12] at H
 have c12b0 := decide_eq_true c12
 clear c12
 by_cases c13 : (wrap64 (x7_1 + (wrap64 ((Int.tmod (wrap64 (bt a0 x9_1)) 128) * x8_1)))) > 1000000000
 ·rw [if_pos c13] at H
  have c13b0 := decide_eq_true c13
  clear c13
  simp only [Option.some.injEq, Prod.mk.injEq] at H
  obtain ⟨rfl, rfl, rfl⟩ := H
  have p10 : 0 ≤ (x9_1 : Int) := of_decide_eq_true as_
  have q10 : x9_1 < (a0.size : Int) := of_decide_eq_true as_
  have hx10 := bt_at a0 x9_1
  replace p10 := eq_true p10
  replace q10 := eq_true q10
  have p11 : 0 ≤ (x9_1 : Int) := of_decide_eq_true as_
  have q11 : x9_1 < (a0.size : Int) := of_decide_eq_true as_
  have hx11 := bt_at a0 x9_1
  replace p11 := eq_true p11
  replace q11 := eq_true q11
  try go_wp2
  have n0_ := Aside0.mk (below_drew1 HB.out)
  clear HB
  have HB := n0_
  clear n0_
  refine start_ (n := 12) (S := fun w' => True) (ds := []) #[false, false, false, false, false, false, false, false, false, false, false, false] (by kernel_rfl) rfl rfl trivial (fun hHeld => ?_); refine with_tabW spec_ReadVar.tab11 spec_ReadVar.bits11 (fun HT_ HW_ => ?_)
  generalize wc.drew = w14 at HB hHeld ⊢
  refine pu_ 0 43 HT_ ?_
  refine pu_ 1 44 HT_ ?_
  refine pu_ 2 45 HT_ ?_
  refine pn_ 3 46 HT_ ?_
  refine pn_ 4 47 HT_ ?_
  refine pn_ 5 48 HT_ ?_
  refine pn_ 6 49 HT_ ?_
  refine pn_ 7 50 HT_ ?_
  refine pn_ 8 51 HT_ ?_
  refine pn_ 9 52 HT_ ?_
  refine pn_ 10 53 HT_ ?_
  refine pu_ 11 54 HT_ ?_
  refine done_ (done_of HT_.out (by kernel_rfl)) ?_
  try go_wp2
  go_ret3
  exact ⟨er_, bl_⟩
 rw [if_neg c13] at H
 have c13b0 := decide_eq_false c13
 clear c13
 replace H := bs_ H
 obtain ⟨t765, A15, H⟩ := H
 try dsimp only at H
 by_cases c16 : 0 ≤ a1
 rotate_left
 ·exact nn_ c16 H
 rw [if_pos c16] at H
 have c16b0 := eq_true c16
 have c16b1 : decide (0 ≤ a1) = true := decide_eq_true c16
 clear c16
 by_cases c17 : a1 ≤ (wrap64 (x9_1 + 1))
 rotate_left
 ·exact nn_ c17 H
 rw [if_pos c17] at H
 have c17b0 := eq_true c17
 have c17b1 : decide (a1 ≤ (wrap64 (x9_1 + 1))) = true := decide_eq_true c17
 by_cases c18 : (wrap64 (x9_1 + 1)) ≤ (a0.size : Int)
 rotate_left
 ·exact nn_ c18 H
 rw [if_pos c18] at H
 have c18b0 := eq_true c18
 have c18b1 : decide ((wrap64 (x9_1 + 1)) ≤ (a0.size : Int)) = true := decide_eq_true c18
 by_cases c19 : t765.toList = (a0.extract (a1 : Int).toNat ((wrap64 (x9_1 + 1)) : Int).toNat).toList
 rotate_left
 ·rw [if_neg c19] at H
  have c19b0 : (t765.toList == (a0.extract (a1 : Int).toNat ((wrap64 (x9_1 + 1)) : Int).toNat).toList) = false := beq_eq_false_iff_ne.mpr c19
  have c19b1 : (t765.toList != (a0.extract (a1 : Int).toNat ((wrap64 (x9_1 + 1)) : Int).toNat).toList) = true := bne_iff_ne.mpr c19
  simp only [Option.some.injEq, Prod.mk.injEq] at H
  obtain ⟨rfl, rfl, rfl⟩ := H
  have p10 : 0 ≤ (x9_1 : Int) := of_decide_eq_true as_
  have q10 : x9_1 < (a0.size : Int) := of_decide_eq_true as_
  have hx10 := bt_at a0 x9_1
  replace p10 := eq_true p10
  replace q10 := eq_true q10
  have p11 : 0 ≤ (x9_1 : Int) := of_decide_eq_true as_
  have q11 : x9_1 < (a0.size : Int) := of_decide_eq_true as_
  have hx11 := bt_at a0 x9_1
  replace p11 := eq_true p11
  replace q11 := eq_true q11
  try go_wp2
  have n0_ := Aside0.mk (below_drew1 HB.out)
  clear HB
  have HB := n0_
  clear n0_
  refine start_ (n := 12) (S := fun w' => True) (ds := []) #[false, false, false, false, false, false, false, false, false, false, false, false] (by kernel_rfl) rfl rfl trivial (fun hHeld => ?_); refine with_tabW spec_ReadVar.tab11 spec_ReadVar.bits11 (fun HT_ HW_ => ?_)
  generalize wc.drew = w22 at HB hHeld ⊢
  refine pu_ 0 43 HT_ ?_
  refine pu_ 1 44 HT_ ?_
  refine pu_ 2 45 HT_ ?_
  refine pu_ 3 46 HT_ ?_
  refine pu_ 5 48 HT_ ?_
  refine pu_ 6 49 HT_ ?_
  refine pu_ 7 50 HT_ ?_
  refine pu_ 8 51 HT_ ?_
  refine pu_ 9 52 HT_ ?_
  refine on_ 4 47 HT_ (fun K hK => ?_)
  refine goes_ Tryd.func73 (by kernel_rfl) rfl #[.int .i64 (wrap64 (x7_1 + (wrap64 ((Int.tmod (wrap64 (bt a0 x9_1)) 128) * x8_1))))] (by rfl) rfl rfl lm_ ?_
  with_reducible refine (spec_l01Var.calls kj4 (wrap64 (x7_1 + (wrap64 ((Int.tmod (wrap64 (bt a0 x9_1)) 128) * x8_1)))) t765 _ A15.out).mono ?_
  rintro e w23 ⟨rfl, hb⟩
  refine ⟨_, rfl, ?_⟩
  have n0_ := Aside0.mk (below_step bl_ hb)
  clear HB
  have HB := n0_
  clear n0_
  (try clear hb)
  (try clear hb2)
  (try clear hk)
  (try clear hi)
  refine hK.out _ _ trivial (fun hHeld => ?_)
  clear hK K
  refine norm_ (a' := ?_) ?_ ?_
  rotate_left
  ·show Act.put _ (some 47) _ = _
   simp only [Act.put, List.setIfInBounds_toArray, List.set_cons_zero, List.set_cons_succ, i64_w, i32_w]
   rfl
  refine pu_ 10 53 HT_ ?_
  refine pu_ 11 54 HT_ ?_
  refine done_ (done_of HT_.out (by kernel_rfl)) ?_
  try go_wp2
  go_ret3
  exact ⟨er_, bl_⟩
 rw [if_pos c19] at H
 have c19b0 : (t765.toList == (a0.extract (a1 : Int).toNat ((wrap64 (x9_1 + 1)) : Int).toNat).toList) = true := beq_iff_eq.mpr c19
 have c19b1 : (t765.toList != (a0.extract (a1 : Int).toNat ((wrap64 (x9_1 + 1)) : Int).toNat).toList) = false := bne_eq_false_iff_eq.mpr c19
 clear c19
 simp only [Option.some.injEq, Prod.mk.injEq] at H
 obtain ⟨rfl, rfl, rfl⟩ := H
 have p10 : 0 ≤ (x9_1 : Int) := of_decide_eq_true as_
 have q10 : x9_1 < (a0.size : Int) := of_decide_eq_true as_
 have hx10 := bt_at a0 x9_1
 replace p10 := eq_true p10
 replace q10 := eq_true q10
 have p11 : 0 ≤ (x9_1 : Int) := of_decide_eq_true as_
 have q11 : x9_1 < (a0.size : Int) := of_decide_eq_true as_
 have hx11 := bt_at a0 x9_1
 replace p11 := eq_true p11
 replace q11 := eq_true q11
 try go_wp2
 have n0_ := Aside0.mk (below_drew1 HB.out)
 clear HB
 have HB := n0_
 clear n0_
 refine start_ (n := 12) (S := fun w' => True) (ds := []) #[false, false, false, false, false, false, false, false, false, false, false, false] (by kernel_rfl) rfl rfl trivial (fun hHeld => ?_); refine with_tabW spec_ReadVar.tab11 spec_ReadVar.bits11 (fun HT_ HW_ => ?_)
 generalize wc.drew = w20 at HB hHeld ⊢
 refine pu_ 0 43 HT_ ?_
 refine pu_ 1 44 HT_ ?_
 refine pu_ 2 45 HT_ ?_
 refine pu_ 3 46 HT_ ?_
 refine pu_ 5 48 HT_ ?_
 refine pu_ 6 49 HT_ ?_
 refine pu_ 7 50 HT_ ?_
 refine pu_ 8 51 HT_ ?_
 refine pu_ 9 52 HT_ ?_
 refine on_ 4 47 HT_ (fun K hK => ?_)
 refine goes_ Tryd.func73 (by kernel_rfl) rfl #[.int .i64 (wrap64 (x7_1 + (wrap64 ((Int.tmod (wrap64 (bt a0 x9_1)) 128) * x8_1))))] (by rfl) rfl rfl lm_ ?_
 with_reducible refine (spec_l01Var.calls kj4 (wrap64 (x7_1 + (wrap64 ((Int.tmod (wrap64 (bt a0 x9_1)) 128) * x8_1)))) t765 _ A15.out).mono ?_
 rintro e w21 ⟨rfl, hb⟩
 refine ⟨_, rfl, ?_⟩
 have n0_ := Aside0.mk (below_step bl_ hb)
 clear HB
 have HB := n0_
 clear n0_
 (try clear hb)
 (try clear hb2)
 (try clear hk)
 (try clear hi)
 refine hK.out _ _ trivial (fun hHeld => ?_)
 clear hK K
 refine norm_ (a' := ?_) ?_ ?_
 rotate_left
 ·show Act.put _ (some 47) _ = _
  simp only [Act.put, List.setIfInBounds_toArray, List.set_cons_zero, List.set_cons_succ, i64_w, i32_w]
  rfl
 refine pu_ 10 53 HT_ ?_
 refine pu_ 11 54 HT_ ?_
 refine done_ (done_of HT_.out (by kernel_rfl)) ?_
 try go_wp2
 go_ret3
 exact ⟨er_, bl_⟩


def spec_ReadShort.f (k : Nat) (a0 : ByteArray) (a1 : Int) : Option (ByteArray × Int × Bool) := (spec_ReadVar.f k a0 a1).bind fun bt766 => (if bt766.2.2 = true then (if bt766.1 > 20000 then (some ((⟨#[]⟩ : ByteArray), 0, false)) else (if bt766.1 > (wrap64 ((a0.size : Int) - bt766.2.1)) then (some ((⟨#[]⟩ : ByteArray), 0, false)) else (if 0 ≤ bt766.2.1 then (if bt766.2.1 ≤ (wrap64 (bt766.2.1 + bt766.1)) then (if (wrap64 (bt766.2.1 + bt766.1)) ≤ (a0.size : Int) then (some (a0.extract (bt766.2.1 : Int).toNat ((wrap64 (bt766.2.1 + bt766.1)) : Int).toNat, wrap64 (bt766.2.1 + bt766.1), true)) else (none)) else (none)) else (none)))) else (some ((⟨#[]⟩ : ByteArray), 0, false)))
theorem spec_ReadShort.mono : ∀ a0 a1 k, LeO (spec_ReadShort.f k a0 a1) (spec_ReadShort.f (k + 1) a0 a1) := by
 intro a0 a1 k
 unfold spec_ReadShort.f
 have m0 := @spec_ReadVar.mono
 exact mo_
theorem spec_ReadShort.calls (k : Nat) (a0 : ByteArray) (a1 : Int) (r1 : ByteArray) (r2 : Int) (r3 : Bool) (w : World) (h : spec_ReadShort.f k a0 a1 = some (r1, r2, r3)) :
 Calls Tryd.prog 77 #[.string a0, .int .i64 a1] w fun e w' => e = .returned (.tuple #[.string r1, .int .i64 r2, .bool r3]) ∧ Below w.heap.size w w' := by
 have HB := Aside0.mk (Below.refl w.heap.size w)
 have H := h
 unfold spec_ReadShort.f at H
 clear h
 replace H := bs_ H
 obtain ⟨⟨t766, t767, t768⟩, A3, H⟩ := H
 try dsimp only at H
 by_cases c4 : t768 = true
 rotate_left
 ·replace c4 := Bool.eq_false_iff.mpr c4
  subst c4
  rw [nf_] at H
  simp only [Option.some.injEq, Prod.mk.injEq] at H
  obtain ⟨rfl, rfl, rfl⟩ := H
  go_enter Tryd.func77, Tryd.ntmps77
  go_wp2_with (first | ((with_reducible refine gate_callee (f := 91) rfl ?_); refine gs_ (some 13) Tryd.func91 #[.string a0, .int .i64 a1] ?_; (with_reducible refine (spec_ReadVar.calls k a0 a1 t766 t767 false _ A3.out).mono ?_); rintro e w13 ⟨rfl, hb⟩; refine ⟨_, rfl, ?_⟩; replace HB := Aside0.mk (below_step bl_ hb); (try clear hb)))
  go_ret3
  exact ⟨er_, bl_⟩
 subst c4
 rw [if_pos rfl] at H
 by_cases c5 : t766 > 20000
 ·rw [if_pos c5] at H
  have c5b0 := decide_eq_true c5
  clear c5
  simp only [Option.some.injEq, Prod.mk.injEq] at H
  obtain ⟨rfl, rfl, rfl⟩ := H
  go_enter Tryd.func77, Tryd.ntmps77
  go_wp2_with (first | ((with_reducible refine gate_callee (f := 91) rfl ?_); refine gs_ (some 13) Tryd.func91 #[.string a0, .int .i64 a1] ?_; (with_reducible refine (spec_ReadVar.calls k a0 a1 t766 t767 true _ A3.out).mono ?_); rintro e w6 ⟨rfl, hb⟩; refine ⟨_, rfl, ?_⟩; replace HB := Aside0.mk (below_step bl_ hb); (try clear hb)))
  go_ret3
  exact ⟨er_, bl_⟩
 rw [if_neg c5] at H
 have c5b0 := decide_eq_false c5
 clear c5
 by_cases c7 : t766 > (wrap64 ((a0.size : Int) - t767))
 ·rw [if_pos c7] at H
  have c7b0 := decide_eq_true c7
  clear c7
  simp only [Option.some.injEq, Prod.mk.injEq] at H
  obtain ⟨rfl, rfl, rfl⟩ := H
  go_enter Tryd.func77, Tryd.ntmps77
  go_wp2_with (first | ((with_reducible refine gate_callee (f := 91) rfl ?_); refine gs_ (some 13) Tryd.func91 #[.string a0, .int .i64 a1] ?_; (with_reducible refine (spec_ReadVar.calls k a0 a1 t766 t767 true _ A3.out).mono ?_); rintro e w8 ⟨rfl, hb⟩; refine ⟨_, rfl, ?_⟩; replace HB := Aside0.mk (below_step bl_ hb); (try clear hb)))
  go_ret3
  exact ⟨er_, bl_⟩
 rw [if_neg c7] at H
 have c7b0 := decide_eq_false c7
 clear c7
 by_cases c9 : 0 ≤ t767
 rotate_left
 ·exact nn_ c9 H
 rw [if_pos c9] at H
 have c9b0 := eq_true c9
 have c9b1 : decide (0 ≤ t767) = true := decide_eq_true c9
 clear c9
 by_cases c10 : t767 ≤ (wrap64 (t767 + t766))
 rotate_left
 ·exact nn_ c10 H
 rw [if_pos c10] at H
 have c10b0 := eq_true c10
 have c10b1 : decide (t767 ≤ (wrap64 (t767 + t766))) = true := decide_eq_true c10
 by_cases c11 : (wrap64 (t767 + t766)) ≤ (a0.size : Int)
 rotate_left
 ·exact nn_ c11 H
 rw [if_pos c11] at H
 have c11b0 := eq_true c11
 have c11b1 : decide ((wrap64 (t767 + t766)) ≤ (a0.size : Int)) = true := decide_eq_true c11
 simp only [Option.some.injEq, Prod.mk.injEq] at H
 obtain ⟨rfl, rfl, rfl⟩ := H
 go_enter Tryd.func77, Tryd.ntmps77
 go_wp2_with (first | ((with_reducible refine gate_callee (f := 91) rfl ?_); refine gs_ (some 13) Tryd.func91 #[.string a0, .int .i64 a1] ?_; (with_reducible refine (spec_ReadVar.calls k a0 a1 t766 t767 true _ A3.out).mono ?_); rintro e w12 ⟨rfl, hb⟩; refine ⟨_, rfl, ?_⟩; replace HB := Aside0.mk (below_step bl_ hb); (try clear hb)))
 go_ret3
 exact ⟨er_, bl_⟩

end Go.Proofs.YtdlapahfmfhbjaaDoor.PA
