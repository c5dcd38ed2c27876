/- Contracts of functions of the program and of the reference, and plain lemmas on what they compute. No condition. -/
import Derived.Test.YtdhjolglbcoijaaDoorG88178x0
import Derived.Test.YtdhjolglbcoijaaDoorG88178x2
import Derived.Test.YtdhjolglbcoijaaDoorG88178x3
import Derived.Test.YtdhjolglbcoijaaDoorShortV
set_option maxHeartbeats 8000000
set_option maxRecDepth 100000
namespace Go.Proofs.YtdhjolglbcoijaaDoor.PA
open Go.RowKit Go.Proofs.YtdhjolglbcoijaaDoor.Short Go.Proofs.YtdhjolglbcoijaaDoorW.PrintWords Go.Proofs.YtdhjolglbcoijaaDoorW.PrintLast Go.Proofs.YtdhjolglbcoijaaDoorW.PrintMore
attribute [local go_sem] max2_int min2_int max_two min_two max_three min_three max_four min_four   -- for this text's walks alone
set_option linter.unusedVariables false
set_option linter.unusedSimpArgs false

mutual
def impl_ReadSegment.j0 : Nat → ByteArray → ByteArray → Int → Int → Bool → Option (Int × ByteArray × (List (S70)) × ByteArray × Bool)
 | 0, _, _, _, _, _ => none
 | k + 1, x0, x4, x6, x7, x39 => if x39 = true then (some (0, (⟨#[]⟩ : ByteArray), ([] : List (S70)), (⟨#[]⟩ : ByteArray), false)) else ((impl_ReadShort.f k x4 (wrap64 (x7 + 32))).bind fun bt387 => ((impl_ReadLog.f k bt387.1).bind fun bt390 => (if 0 ≤ x7 then (if x7 ≤ (wrap64 (x7 + 32)) then (if (wrap64 (x7 + 32)) ≤ (x4.size : Int) then ((impl_HeadFrom.f k (x4.extract (x7 : Int).toNat ((wrap64 (x7 + 32)) : Int).toNat) bt390.1).bind fun t395 => (if bt387.2.2 = true then (if bt390.2 = true then (impl_ReadSegment.j1 k x0 (bt387.2.1 != (x4.size : Int)) x6 (x4.extract (x7 : Int).toNat ((wrap64 (x7 + 32)) : Int).toNat) bt390.1 t395) else (impl_ReadSegment.j1 k x0 true x6 (x4.extract (x7 : Int).toNat ((wrap64 (x7 + 32)) : Int).toNat) bt390.1 t395)) else (impl_ReadSegment.j1 k x0 true x6 (x4.extract (x7 : Int).toNat ((wrap64 (x7 + 32)) : Int).toNat) bt390.1 t395))) else (none)) else (none)) else (none))))
def impl_ReadSegment.j1 : Nat → ByteArray → Bool → Int → ByteArray → List (S70) → ByteArray → Option (Int × ByteArray × (List (S70)) × ByteArray × Bool)
 | 0, _, _, _, _, _, _ => none
 | k + 1, x0, x78, x395000, x395001, x395002, x395003 => if x78 = true then (some (0, (⟨#[]⟩ : ByteArray), ([] : List (S70)), (⟨#[]⟩ : ByteArray), false)) else ((impl_SegmentText.f k x395000 x395001 x395002 x395003).bind fun bt396 => (if bt396.2 = true then (if bt396.1.toList = x0.toList then (some (x395000, x395001, x395002, x395003, true)) else (some (0, (⟨#[]⟩ : ByteArray), ([] : List (S70)), (⟨#[]⟩ : ByteArray), false))) else (some (0, (⟨#[]⟩ : ByteArray), ([] : List (S70)), (⟨#[]⟩ : ByteArray), false))))
end
def impl_ReadSegment.f (k : Nat) (a0 : ByteArray) : Option (Int × ByteArray × (List (S70)) × ByteArray × Bool) := (impl_Unsealed.f k a0).bind fun bt382 => (if bt382.2 = true then ((impl_ReadVar.f k bt382.1 0).bind fun bt384 => (if bt384.2.2 = true then (impl_ReadSegment.j0 k a0 bt382.1 bt384.1 bt384.2.1 (decide ((wrap64 ((bt382.1.size : Int) - bt384.2.1)) < 32))) else (impl_ReadSegment.j0 k a0 bt382.1 bt384.1 bt384.2.1 true))) else (some (0, (⟨#[]⟩ : ByteArray), ([] : List (S70)), (⟨#[]⟩ : ByteArray), false)))
theorem impl_ReadSegment.mono_l : ∀ k, (∀ y0 y1 y2 y3 y4, LeO (impl_ReadSegment.j0 k y0 y1 y2 y3 y4) (impl_ReadSegment.j0 (k + 1) y0 y1 y2 y3 y4)) ∧ (∀ y0 y1 y2 y3 y4 y5, LeO (impl_ReadSegment.j1 k y0 y1 y2 y3 y4 y5) (impl_ReadSegment.j1 (k + 1) y0 y1 y2 y3 y4 y5))
 | 0 => ⟨fun _ _ _ _ _ r h => by simp [impl_ReadSegment.j0] at h, fun _ _ _ _ _ _ r h => by simp [impl_ReadSegment.j1] at h⟩
 | k + 1 => by
  obtain ⟨ih0, ih1⟩ := impl_ReadSegment.mono_l k
  refine ⟨?_, ?_⟩
  ·intro y0 y1 y2 y3 y4
   unfold impl_ReadSegment.j0
   have m0 := @impl_HeadFrom.mono
   have m1 := @impl_ReadLog.mono
   have m2 := @impl_ReadShort.mono
   have m3 := @impl_ReadVar.mono
   have m4 := @impl_SegmentText.mono
   have m5 := @impl_Unsealed.mono
   exact mo_
  ·intro y0 y1 y2 y3 y4 y5
   unfold impl_ReadSegment.j1
   have m0 := @impl_HeadFrom.mono
   have m1 := @impl_ReadLog.mono
   have m2 := @impl_ReadShort.mono
   have m3 := @impl_ReadVar.mono
   have m4 := @impl_SegmentText.mono
   have m5 := @impl_Unsealed.mono
   exact mo_
theorem impl_ReadSegment.mono : ∀ a0 k, LeO (impl_ReadSegment.f k a0) (impl_ReadSegment.f (k + 1) a0) := by
 intro a0 k
 obtain ⟨ih0, ih1⟩ := impl_ReadSegment.mono_l k
 unfold impl_ReadSegment.f
 have m0 := @impl_HeadFrom.mono
 have m1 := @impl_ReadLog.mono
 have m2 := @impl_ReadShort.mono
 have m3 := @impl_ReadVar.mono
 have m4 := @impl_SegmentText.mono
 have m5 := @impl_Unsealed.mono
 exact mo_
theorem impl_ReadSegment.calls (k : Nat) (a0 : ByteArray) (r1 : Int) (r2 : ByteArray) (r3 : List (S70)) (r4 : ByteArray) (r5 : Bool) (w : World) (hT : Tab w) (h : impl_ReadSegment.f k a0 = some (r1, r2, r3, r4, r5)) :
 Calls Tryd.prog 44 #[.string a0] w fun e w' => ∃ v2_ : Value, e = .returned (.tuple #[.agg #[.int .i64 r1, .string r2, v2_, .string r4], .bool r5]) ∧ Kd.R k70 70 w' w.heap.size (fun _ => True) v2_ r3 ∧ Below w.heap.size w w' := by
 have hu30 := Tryd.underlying30
 have HT := Aside0.mk hT
 clear hT
 have HB := Aside0.mk (Below.refl w.heap.size w)
 have H := h
 unfold impl_ReadSegment.f at H
 clear h
 replace H := bs_ H
 obtain ⟨⟨t382, t383⟩, A2, H⟩ := H
 try dsimp only at H
 by_cases c3 : t383 = true
 rotate_left
 ·replace c3 := Bool.eq_false_iff.mpr c3
  subst c3
  rw [nf_] at H
  simp only [Option.some.injEq, Prod.mk.injEq] at H
  obtain ⟨rfl, rfl, rfl, rfl, rfl⟩ := H
  go_enter Tryd.func44, Tryd.ntmps44
  go_wp2_with (first | ((with_reducible refine gate_dst (N := 2) rfl ?_); (try (refine gate_guard (by rfl) ?_; dsimp only)); refine bx_ 2 30 #[.int .i64 0, .string (⟨#[]⟩ : ByteArray), .slice none 0 0, .string (⟨#[]⟩ : ByteArray)] ?_; intro gb381 hg w47 hbox hb; have BK381 := Aside0.mk (hbox); have GW381 := Aside0.mk ((hz_ : w.heap.size ≤ gb381)); have GE381 := Aside0.mk ((hz_ : w.heap.size ≤ gb381)); replace HB := Aside0.mk (below_step bl_ hb); clear hb hbox hg) | ((with_reducible refine gate_callee (f := 90) rfl ?_); refine gs_ (some 19) Tryd.func90 #[.string a0] ?_; (with_reducible refine (impl_Unsealed.calls k a0 t382 false _ A2.out).mono ?_); rintro e w' ⟨rfl, ⟨nd, rfl⟩⟩; refine ⟨_, rfl, ?_⟩; (try (rw [drewN_self w47]; generalize hq_ : World.drewN w47 _ = w47; have n0_ : Aside0 (w47.heap[gb381]? = some (.cells #[.int .i64 0, .string (⟨#[]⟩ : ByteArray), .slice none 0 0, .string (⟨#[]⟩ : ByteArray)] 30 (0, 0))) := ⟨by rw [← hq_]; exact (bk_ BK381.out)⟩; have n1_ : Aside0 (Below w.heap.size w w47) := ⟨by rw [← hq_]; exact bl_⟩; clear BK381 HB hq_; have BK381 := n0_; have HB := n1_; clear n0_ n1_)); obtain ⟨hcz48_0, hcz48_1, hcz48_2, hcz48_3, hfz48_0, hfz48_1, hfz48_2, hfz48_3⟩ := cf4_ BK381.out))
  refine bodyPost_ret (results_ct rfl _ _ gb381 30 #[.int .i64 0, .string (⟨#[]⟩ : ByteArray), .slice none 0 0, .string (⟨#[]⟩ : ByteArray)] (0, 0) _ rfl (bp0_ BK381.out) Tryd.underlying30 rfl (by kernel_rfl)) rfl ?_
  exact ⟨_, er_, by first | exact Kd.R_nil _ _ _ _ _ | exact Kd.N_nil _ _ _ _ _ | exact Kd.V_nil _ _ _ _ _ | exact Kd.Q_nil _ _ _ _ _ | exact Kd.S_nil _ _ _ _ _, bl_⟩
 subst c3
 rw [if_pos rfl] at H
 replace H := bs_ H
 obtain ⟨⟨t384, t385, t386⟩, A4, H⟩ := H
 try dsimp only at H
 have HC5 := Aside0.mk H
 clear H
 go_enter Tryd.func44, Tryd.ntmps44
 go_upto_region 5 with (first | ((with_reducible refine gate_dst (N := 2) rfl ?_); (try (refine gate_guard (by rfl) ?_; dsimp only)); refine bx_ 2 30 #[.int .i64 0, .string (⟨#[]⟩ : ByteArray), .slice none 0 0, .string (⟨#[]⟩ : ByteArray)] ?_; intro gb381 hg w6 hbox hb; have BK381 := Aside0.mk (hbox); have GW381 := Aside0.mk ((hz_ : w.heap.size ≤ gb381)); have GE381 := Aside0.mk ((hz_ : w.heap.size ≤ gb381)); replace HB := Aside0.mk (below_step bl_ hb); clear hb hbox hg) | ((with_reducible refine gate_callee (f := 90) rfl ?_); refine gs_ (some 19) Tryd.func90 #[.string a0] ?_; (with_reducible refine (impl_Unsealed.calls k a0 t382 true _ A2.out).mono ?_); rintro e w' ⟨rfl, ⟨nd, rfl⟩⟩; refine ⟨_, rfl, ?_⟩) | ((with_reducible refine gate_callee (f := 91) rfl ?_); refine gs_ (some 27) Tryd.func91 #[.string t382, .int .i64 0] ?_; (with_reducible refine (impl_ReadVar.calls k t382 0 t384 t385 t386 _ A4.out).mono ?_); rintro e w7 ⟨rfl, hb⟩; refine ⟨_, rfl, ?_⟩; replace BK381 := Aside0.mk (blk_below (bn0_ BK381.out) hb); replace HB := Aside0.mk (below_step bl_ hb); (try clear hb)))
 (try simp only [Act.put, List.setIfInBounds_toArray, List.set_cons_zero, List.set_cons_succ])
 go_cut [39] (fun v39 wc => ∃ (kq : Nat) (x39_4 : Bool), v39 = .bool x39_4 ∧ Aside0 (impl_ReadSegment.j0 kq a0 t382 t384 t385 x39_4 = some (r1, r2, r3, r4, r5)) ∧ Aside0 (kq ≤ k) ∧ Aside0 (wc.heap[gb381]? = some (.cells #[.int .i64 0, .string (⟨#[]⟩ : ByteArray), (.slice none 0 0), .string (⟨#[]⟩ : ByteArray)] 30 (0, 0))) ∧ Aside0 (Below w.heap.size w wc))
 case first =>
  have H := HC5.out
  clear HC5
  by_cases c8 : t386 = true
  ·subst c8
   rw [if_pos rfl] at H
   have H' := Aside0.mk H
   clear H
   go_wp2
   go_meet
   case rel => exact ⟨_, (decide ((wrap64 ((t382.size : Int) - t385)) < 32)), (sr_), H', ⟨by first | omega | exact Nat.le_refl _⟩, ⟨bk_ BK381.out⟩, ⟨bl_⟩⟩
  replace c8 := Bool.eq_false_iff.mpr c8
  subst c8
  rw [nf_] at H
  have H' := Aside0.mk H
  clear H
  go_wp2
  go_meet
  case rel => exact ⟨_, (true), (sr_), H', ⟨by first | omega | exact Nat.le_refl _⟩, ⟨bk_ BK381.out⟩, ⟨bl_⟩⟩
 clear HC5
 try clear c3
 obtain ⟨kq, x39_4, rfl, HA, HJ4, BK381, HB⟩ := hcut
 cases kq with
 | zero => exact absurd HA.out (by simp [impl_ReadSegment.j0])
 | succ kj4 => ?_
 have H := HA.out
 clear HA
 simp only [impl_ReadSegment.j0] at H
 by_cases c9 : x39_4 = true
 ·subst c9
  rw [if_pos rfl] at H
  simp only [Option.some.injEq, Prod.mk.injEq] at H
  obtain ⟨rfl, rfl, rfl, rfl, rfl⟩ := H
  obtain ⟨hcz10_0, hcz10_1, hcz10_2, hcz10_3, hfz10_0, hfz10_1, hfz10_2, hfz10_3⟩ := cf4_ BK381.out
  go_wp2
  refine bodyPost_ret (results_ct rfl _ _ gb381 30 #[.int .i64 0, .string (⟨#[]⟩ : ByteArray), .slice none 0 0, .string (⟨#[]⟩ : ByteArray)] (0, 0) _ rfl (bp0_ BK381.out) Tryd.underlying30 rfl (by kernel_rfl)) rfl ?_
  exact ⟨_, er_, by first | exact Kd.R_nil _ _ _ _ _ | exact Kd.N_nil _ _ _ _ _ | exact Kd.V_nil _ _ _ _ _ | exact Kd.Q_nil _ _ _ _ _ | exact Kd.S_nil _ _ _ _ _, bl_⟩
 replace c9 := Bool.eq_false_iff.mpr c9
 subst c9
 rw [nf_] at H
 replace H := bs_ H
 obtain ⟨⟨t387, t388, t389⟩, A11, H⟩ := H
 try dsimp only at H
 replace H := bs_ H
 obtain ⟨⟨t390, t391⟩, A12, H⟩ := H
 try dsimp only at H
 by_cases c13 : 0 ≤ t385
 rotate_left
 ·exact nn_ c13 H
 rw [if_pos c13] at H
 have c13b0 := eq_true c13
 have c13b1 : decide (0 ≤ t385) = true := decide_eq_true c13
 clear c13
 by_cases c14 : t385 ≤ (wrap64 (t385 + 32))
 rotate_left
 ·exact nn_ c14 H
 rw [if_pos c14] at H
 have c14b0 := eq_true c14
 have c14b1 : decide (t385 ≤ (wrap64 (t385 + 32))) = true := decide_eq_true c14
 by_cases c15 : (wrap64 (t385 + 32)) ≤ (t382.size : Int)
 rotate_left
 ·exact nn_ c15 H
 rw [if_pos c15] at H
 have c15b0 := eq_true c15
 have c15b1 : decide ((wrap64 (t385 + 32)) ≤ (t382.size : Int)) = true := decide_eq_true c15
 replace H := bs_ H
 obtain ⟨t395, A16, H⟩ := H
 try dsimp only at H
 have HC17 := Aside0.mk H
 clear H
 go_upto_region 11 with (first | ((with_reducible refine gate_callee (f := 92) rfl ?_); refine gs_ (some 45) Tryd.func92 #[.string t382, .int .i64 (wrap64 (t385 + 32))] ?_; (with_reducible refine (impl_ReadShort.calls kj4 t382 (wrap64 (t385 + 32)) t387 t388 t389 _ A11.out).mono ?_); rintro e w18 ⟨rfl, hb⟩; refine ⟨_, rfl, ?_⟩; replace BK381 := Aside0.mk (blk_below (bn0_ BK381.out) hb); replace HB := Aside0.mk (below_step bl_ hb); (try clear hb)) | ((with_reducible refine gate_callee (f := 61) rfl ?_); refine gs_ (some 51) Tryd.func61 #[.string t387] ?_; (with_reducible refine (impl_ReadLog.calls kj4 t387 t390 t391 _ A12.out).mono ?_); rintro e w19 ⟨v392, rfl, ho0, hb⟩; refine ⟨_, rfl, ?_⟩; have HO393 := Aside0.mk (Kd.R_lower ho0 (below_size bl_)); replace BK381 := Aside0.mk (blk_below (bn0_ BK381.out) hb); replace HB := Aside0.mk (below_step bl_ hb); (try clear hb); (try clear ho0); obtain ⟨Ao20, co20, eo20⟩ := Kd.R_slice HO393.out; subst eo20) | ((with_reducible refine gate_dst (N := 14) rfl ?_); (try (refine gate_guard (by rfl) ?_; dsimp only)); refine bx_ 14 30 #[.int .i64 0, .string (⟨#[]⟩ : ByteArray), .slice none 0 0, .string (⟨#[]⟩ : ByteArray)] ?_; intro gb394 hg w21 hbox hb; replace HO393 := Aside0.mk (Kd.R_below (ra_ HO393.out) hb); have BK394 := Aside0.mk (hbox); have GW394 := Aside0.mk ((hz_ : w.heap.size ≤ gb394)); have GE394 := Aside0.mk ((hz_ : w.heap.size ≤ gb394)); replace HB := Aside0.mk (below_step bl_ hb); have NB381_394 := Aside0.mk ((by rw [hg]; exact Nat.ne_of_lt (blk_lt (g := gb381) (o := .cells #[.int .i64 0, .string (⟨#[]⟩ : ByteArray), .slice none 0 0, .string (⟨#[]⟩ : ByteArray)] 30 (0, 0)) (bk_ BK381.out)) : gb381 ≠ gb394)); have NB394_381 := Aside0.mk ((by rw [hg]; exact Nat.ne_of_gt (blk_lt (g := gb381) (o := .cells #[.int .i64 0, .string (⟨#[]⟩ : ByteArray), .slice none 0 0, .string (⟨#[]⟩ : ByteArray)] 30 (0, 0)) (bk_ BK381.out)) : gb394 ≠ gb381)); replace BK381 := Aside0.mk (blk_below (bn0_ BK381.out) hb); clear hb hbox hg; have hnb22 := NB394_381.out; have hnc22 := NB381_394.out; obtain ⟨hcz23_0, hcz23_1, hcz23_2, hcz23_3, hfz23_0, hfz23_1, hfz23_2, hfz23_3⟩ := cf4_ BK394.out) | ((with_reducible refine gate_callee (f := 68) rfl ?_); refine gs_ (some 65) Tryd.func68 #[.string (t382.extract (t385 : Int).toNat ((wrap64 (t385 + 32)) : Int).toNat), .slice Ao20 t390.length co20] ?_; (with_reducible refine (impl_HeadFrom.calls kj4 (t382.extract (t385 : Int).toNat ((wrap64 (t385 + 32)) : Int).toNat) _ _ t390 t395 _ ?side1 ?side2 ?side3 A16.out).mono ?_); (case side1 => refine (Kd.R_reads' (e := 70) (base := w.heap.size) (ok := fun k_ => True) (n := t390.length) (c := co20) ?_).2.2; exact (rfa_ HO393.out BK394.out)); (case side2 => exact (Kd.R_reads' HO393.out).2.1); (case side3 => exact tab_of HT.out bl_); rintro e w24 ⟨rfl, hb⟩; refine ⟨_, rfl, ?_⟩; replace HO393 := Aside0.mk (Kd.R_below (rfa_ HO393.out BK394.out) hb); replace BK381 := Aside0.mk (blk_below (bn1_ BK381.out NB381_394.out) hb); replace BK394 := Aside0.mk (blk_below (g := gb394) (o := .cells #[.int .i64 t384, .string (t382.extract (t385 : Int).toNat ((wrap64 (t385 + 32)) : Int).toNat), .slice Ao20 t390.length co20, .string (⟨#[]⟩ : ByteArray)] 30 (0, 0)) (bp0_ BK394.out) hb); replace HB := Aside0.mk (below_step bl_ hb); (try clear hb); obtain ⟨hcz25_0, hcz25_1, hcz25_2, hcz25_3, hfz25_0, hfz25_1, hfz25_2, hfz25_3⟩ := cf4_ BK394.out))
 (try simp only [Act.put, List.setIfInBounds_toArray, List.set_cons_zero, List.set_cons_succ])
 go_cut [78] (fun v78 wc => ∃ (kq : Nat) (x78_16 : Bool), v78 = .bool x78_16 ∧ Aside0 (impl_ReadSegment.j1 kq a0 x78_16 t384 (t382.extract (t385 : Int).toNat ((wrap64 (t385 + 32)) : Int).toNat) t390 t395 = some (r1, r2, r3, r4, r5)) ∧ Aside0 (kq ≤ kj4) ∧ Aside0 (Kd.R k70 70 wc w.heap.size (fun _ => True) (.slice Ao20 t390.length co20) t390) ∧ Aside0 (wc.heap[gb381]? = some (.cells #[.int .i64 0, .string (⟨#[]⟩ : ByteArray), (.slice none 0 0), .string (⟨#[]⟩ : ByteArray)] 30 (0, 0))) ∧ Aside0 (wc.heap[gb394]? = some (.cells #[.int .i64 t384, .string (t382.extract (t385 : Int).toNat ((wrap64 (t385 + 32)) : Int).toNat), (.slice Ao20 t390.length co20), .string t395] 30 (0, 0))) ∧ Aside0 (Below w.heap.size w wc))
 case first =>
  have H := HC17.out
  clear HC17
  by_cases c26 : t389 = true
  rotate_left
  ·replace c26 := Bool.eq_false_iff.mpr c26
   subst c26
   rw [nf_] at H
   have H' := Aside0.mk H
   clear H
   go_wp2
   go_meet
   case rel => exact ⟨_, (true), (sr_), H', ⟨by have := HJ4.out; first | omega | exact Nat.le_refl _⟩, ⟨by (with_reducible repeat (first | apply Kd.R_alloc | apply Kd.R_drewN | apply Kd.R_drew)); exact Kd.R_mono (Kd.R_far (p := ⟨gb394, 3, none⟩) (Kd.R_types HO393.out BK394.out (by decide)) (fun _ hk => hk.2) (.string t395)) (fun _ hk => trivial)⟩, ⟨bp1_ BK381.out NB381_394.out⟩, ⟨bp0_ BK394.out⟩, ⟨bl_⟩⟩
  subst c26
  rw [if_pos rfl] at H
  by_cases c27 : t391 = true
  ·subst c27
   rw [if_pos rfl] at H
   have H' := Aside0.mk H
   clear H
   go_wp2
   go_meet
   case rel => exact ⟨_, ((t388 != (t382.size : Int))), (sr_), H', ⟨by have := HJ4.out; first | omega | exact Nat.le_refl _⟩, ⟨by (with_reducible repeat (first | apply Kd.R_alloc | apply Kd.R_drewN | apply Kd.R_drew)); exact Kd.R_mono (Kd.R_far (p := ⟨gb394, 3, none⟩) (Kd.R_types HO393.out BK394.out (by decide)) (fun _ hk => hk.2) (.string t395)) (fun _ hk => trivial)⟩, ⟨bp1_ BK381.out NB381_394.out⟩, ⟨bp0_ BK394.out⟩, ⟨bl_⟩⟩
  replace c27 := Bool.eq_false_iff.mpr c27
  subst c27
  rw [nf_] at H
  have H' := Aside0.mk H
  clear H
  go_wp2
  go_meet
  case rel => exact ⟨_, (true), (sr_), H', ⟨by have := HJ4.out; first | omega | exact Nat.le_refl _⟩, ⟨by (with_reducible repeat (first | apply Kd.R_alloc | apply Kd.R_drewN | apply Kd.R_drew)); exact Kd.R_mono (Kd.R_far (p := ⟨gb394, 3, none⟩) (Kd.R_types HO393.out BK394.out (by decide)) (fun _ hk => hk.2) (.string t395)) (fun _ hk => trivial)⟩, ⟨bp1_ BK381.out NB381_394.out⟩, ⟨bp0_ BK394.out⟩, ⟨bl_⟩⟩
 clear HC17
 try clear c3
 try clear c9
 try clear c13
 try clear c13b0
 try clear c13b1
 try clear c14
 try clear c14b0
 try clear c14b1
 try clear c15
 try clear c15b0
 try clear c15b1
 try clear hcz23_0
 try clear hcz23_1
 try clear hcz23_2
 try clear hcz23_3
 try clear hcz25_0
 try clear hcz25_1
 try clear hcz25_2
 try clear hcz25_3
 try clear hfz23_0
 try clear hfz23_1
 try clear hfz23_2
 try clear hfz23_3
 try clear hfz25_0
 try clear hfz25_1
 try clear hfz25_2
 try clear hfz25_3
 obtain ⟨kq, x78_16, rfl, HA, HJ16, HO_395002, BK381, BK394, HB⟩ := hcut
 cases kq with
 | zero => exact absurd HA.out (by simp [impl_ReadSegment.j1])
 | succ kj16 => ?_
 have H := HA.out
 clear HA
 simp only [impl_ReadSegment.j1] at H
 by_cases c28 : x78_16 = true
 ·subst c28
  rw [if_pos rfl] at H
  simp only [Option.some.injEq, Prod.mk.injEq] at H
  obtain ⟨rfl, rfl, rfl, rfl, rfl⟩ := H
  have hnb29 := NB381_394.out
  have hnc29 := NB394_381.out
  obtain ⟨hcz30_0, hcz30_1, hcz30_2, hcz30_3, hfz30_0, hfz30_1, hfz30_2, hfz30_3⟩ := cf4_ BK381.out
  go_wp2
  refine bodyPost_ret (results_ct rfl _ _ gb381 30 #[.int .i64 0, .string (⟨#[]⟩ : ByteArray), .slice none 0 0, .string (⟨#[]⟩ : ByteArray)] (0, 0) _ rfl (bp0_ BK381.out) Tryd.underlying30 rfl (by kernel_rfl)) rfl ?_
  exact ⟨_, er_, by first | exact Kd.R_nil _ _ _ _ _ | exact Kd.N_nil _ _ _ _ _ | exact Kd.V_nil _ _ _ _ _ | exact Kd.Q_nil _ _ _ _ _ | exact Kd.S_nil _ _ _ _ _, bl_⟩
 replace c28 := Bool.eq_false_iff.mpr c28
 subst c28
 rw [nf_] at H
 replace H := bs_ H
 obtain ⟨⟨t396, t397⟩, A31, H⟩ := H
 try dsimp only at H
 by_cases c32 : t397 = true
 rotate_left
 ·replace c32 := Bool.eq_false_iff.mpr c32
  subst c32
  rw [nf_] at H
  simp only [Option.some.injEq, Prod.mk.injEq] at H
  obtain ⟨rfl, rfl, rfl, rfl, rfl⟩ := H
  have hnb43 := NB394_381.out
  have hnc43 := NB381_394.out
  obtain ⟨hcz44_0, hcz44_1, hcz44_2, hcz44_3, hfz44_0, hfz44_1, hfz44_2, hfz44_3⟩ := cf4_ BK394.out
  go_wp2_with (first | ((with_reducible refine gate_callee (f := 23) rfl ?_); refine gs_ (some 82) Tryd.func23 #[.agg #[.int .i64 t384, .string (t382.extract (t385 : Int).toNat ((wrap64 (t385 + 32)) : Int).toNat), .slice Ao20 t390.length co20, .string t395]] ?_; (with_reducible refine (impl_SegmentText.calls kj16 t384 (t382.extract (t385 : Int).toNat ((wrap64 (t385 + 32)) : Int).toNat) _ _ t390 t395 t396 false _ ?side1 ?side2 ?side3 A31.out).mono ?_); (case side1 => exact cs_ ((Kd.R_reads' HO_395002.out).2.2)); (case side2 => exact (Kd.R_reads' HO_395002.out).2.1); (case side3 => exact tab_of HT.out bl_); rintro e w45 ⟨rfl, hb⟩; refine ⟨_, rfl, ?_⟩; replace HO_395002 := Aside0.mk (Kd.R_below (ra_ HO_395002.out) hb); replace BK381 := Aside0.mk (blk_below (bn0_ BK381.out) hb); replace BK394 := Aside0.mk (blk_below (bn0_ BK394.out) hb); replace HB := Aside0.mk (below_step bl_ hb); (try clear hb); obtain ⟨hcz46_0, hcz46_1, hcz46_2, hcz46_3, hfz46_0, hfz46_1, hfz46_2, hfz46_3⟩ := cf4_ BK381.out))
  refine bodyPost_ret (results_ct rfl _ _ gb381 30 #[.int .i64 0, .string (⟨#[]⟩ : ByteArray), .slice none 0 0, .string (⟨#[]⟩ : ByteArray)] (0, 0) _ rfl (bp0_ BK381.out) Tryd.underlying30 rfl (by kernel_rfl)) rfl ?_
  exact ⟨_, er_, by first | exact Kd.R_nil _ _ _ _ _ | exact Kd.N_nil _ _ _ _ _ | exact Kd.V_nil _ _ _ _ _ | exact Kd.Q_nil _ _ _ _ _ | exact Kd.S_nil _ _ _ _ _, bl_⟩
 subst c32
 rw [if_pos rfl] at H
 by_cases c33 : t396.toList = a0.toList
 rotate_left
 ·rw [if_neg c33] at H
  have c33b0 : (t396.toList == a0.toList) = false := beq_eq_false_iff_ne.mpr c33
  have c33b1 : (t396.toList != a0.toList) = true := bne_iff_ne.mpr c33
  simp only [Option.some.injEq, Prod.mk.injEq] at H
  obtain ⟨rfl, rfl, rfl, rfl, rfl⟩ := H
  have hnb39 := NB394_381.out
  have hnc39 := NB381_394.out
  obtain ⟨hcz40_0, hcz40_1, hcz40_2, hcz40_3, hfz40_0, hfz40_1, hfz40_2, hfz40_3⟩ := cf4_ BK394.out
  go_wp2_with (first | ((with_reducible refine gate_callee (f := 23) rfl ?_); refine gs_ (some 82) Tryd.func23 #[.agg #[.int .i64 t384, .string (t382.extract (t385 : Int).toNat ((wrap64 (t385 + 32)) : Int).toNat), .slice Ao20 t390.length co20, .string t395]] ?_; (with_reducible refine (impl_SegmentText.calls kj16 t384 (t382.extract (t385 : Int).toNat ((wrap64 (t385 + 32)) : Int).toNat) _ _ t390 t395 t396 true _ ?side1 ?side2 ?side3 A31.out).mono ?_); (case side1 => exact cs_ ((Kd.R_reads' HO_395002.out).2.2)); (case side2 => exact (Kd.R_reads' HO_395002.out).2.1); (case side3 => exact tab_of HT.out bl_); rintro e w41 ⟨rfl, hb⟩; refine ⟨_, rfl, ?_⟩; replace HO_395002 := Aside0.mk (Kd.R_below (ra_ HO_395002.out) hb); replace BK381 := Aside0.mk (blk_below (bn0_ BK381.out) hb); replace BK394 := Aside0.mk (blk_below (bn0_ BK394.out) hb); replace HB := Aside0.mk (below_step bl_ hb); (try clear hb); obtain ⟨hcz42_0, hcz42_1, hcz42_2, hcz42_3, hfz42_0, hfz42_1, hfz42_2, hfz42_3⟩ := cf4_ BK381.out))
  refine bodyPost_ret (results_ct rfl _ _ gb381 30 #[.int .i64 0, .string (⟨#[]⟩ : ByteArray), .slice none 0 0, .string (⟨#[]⟩ : ByteArray)] (0, 0) _ rfl (bp0_ BK381.out) Tryd.underlying30 rfl (by kernel_rfl)) rfl ?_
  exact ⟨_, er_, by first | exact Kd.R_nil _ _ _ _ _ | exact Kd.N_nil _ _ _ _ _ | exact Kd.V_nil _ _ _ _ _ | exact Kd.Q_nil _ _ _ _ _ | exact Kd.S_nil _ _ _ _ _, bl_⟩
 rw [if_pos c33] at H
 have c33b0 : (t396.toList == a0.toList) = true := beq_iff_eq.mpr c33
 have c33b1 : (t396.toList != a0.toList) = false := bne_eq_false_iff_eq.mpr c33
 clear c33
 simp only [Option.some.injEq, Prod.mk.injEq] at H
 obtain ⟨rfl, rfl, rfl, rfl, rfl⟩ := H
 have hnb34 := NB394_381.out
 have hnc34 := NB381_394.out
 obtain ⟨hcz35_0, hcz35_1, hcz35_2, hcz35_3, hfz35_0, hfz35_1, hfz35_2, hfz35_3⟩ := cf4_ BK394.out
 go_wp2_with (first | ((with_reducible refine gate_callee (f := 23) rfl ?_); refine gs_ (some 82) Tryd.func23 #[.agg #[.int .i64 t384, .string (t382.extract (t385 : Int).toNat ((wrap64 (t385 + 32)) : Int).toNat), .slice Ao20 t390.length co20, .string t395]] ?_; (with_reducible refine (impl_SegmentText.calls kj16 t384 (t382.extract (t385 : Int).toNat ((wrap64 (t385 + 32)) : Int).toNat) _ _ t390 t395 t396 true _ ?side1 ?side2 ?side3 A31.out).mono ?_); (case side1 => exact cs_ ((Kd.R_reads' HO_395002.out).2.2)); (case side2 => exact (Kd.R_reads' HO_395002.out).2.1); (case side3 => exact tab_of HT.out bl_); rintro e w36 ⟨rfl, hb⟩; refine ⟨_, rfl, ?_⟩; replace HO_395002 := Aside0.mk (Kd.R_below (ra_ HO_395002.out) hb); replace BK381 := Aside0.mk (blk_below (bn0_ BK381.out) hb); replace BK394 := Aside0.mk (blk_below (bn0_ BK394.out) hb); replace HB := Aside0.mk (below_step bl_ hb); (try clear hb); obtain ⟨hcz37_0, hcz37_1, hcz37_2, hcz37_3, hfz37_0, hfz37_1, hfz37_2, hfz37_3⟩ := cf4_ BK394.out; obtain ⟨hcz38_0, hcz38_1, hcz38_2, hcz38_3, hfz38_0, hfz38_1, hfz38_2, hfz38_3⟩ := cf4_ BK381.out))
 refine bodyPost_ret (results_ct rfl _ _ gb381 30 #[.int .i64 t384, .string (t382.extract (t385 : Int).toNat ((wrap64 (t385 + 32)) : Int).toNat), .slice Ao20 t390.length co20, .string t395] (0, 0) _ rfl (bp0_ BK381.out) Tryd.underlying30 rfl (by kernel_rfl)) rfl ?_
 exact ⟨_, er_, by (with_reducible repeat (first | apply Kd.R_alloc | apply Kd.R_drewN | apply Kd.R_drew)); exact Kd.R_mono (Kd.R_far (p := ⟨gb381, 3, none⟩) (Kd.R_far (p := ⟨gb381, 2, none⟩) (Kd.R_far (p := ⟨gb381, 1, none⟩) (Kd.R_far (p := ⟨gb381, 0, none⟩) (Kd.R_types HO_395002.out BK381.out (by decide)) (fun _ hk => hk.2) (.int .i64 t384)) (fun _ hk => hk.2) (.string (t382.extract (t385 : Int).toNat ((wrap64 (t385 + 32)) : Int).toNat))) (fun _ hk => hk.2) (.slice Ao20 t390.length co20)) (fun _ hk => hk.2) (.string t395)) (fun _ hk => trivial), bl_⟩

end Go.Proofs.YtdhjolglbcoijaaDoor.PA
