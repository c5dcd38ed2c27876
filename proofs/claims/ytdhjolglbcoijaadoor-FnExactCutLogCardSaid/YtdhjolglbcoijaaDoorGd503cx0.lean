/- Contracts of functions of the program and of the reference, and plain lemmas on what they compute. No condition. -/
import Derived.Test.YtdhjolglbcoijaaDoorGe1c07x0
import Derived.Test.YtdhjolglbcoijaaDoorG8b2f3x0
import Derived.Test.YtdhjolglbcoijaaDoorG64108x0
import Derived.Test.YtdhjolglbcoijaaDoorShortV
set_option maxHeartbeats 8000000
set_option maxRecDepth 100000
namespace Go.Proofs.YtdhjolglbcoijaaDoor.PA
open Go.RowKit Go.Proofs.YtdhjolglbcoijaaDoor.Short Go.Proofs.YtdhjolglbcoijaaDoorW.PrintWords Go.Proofs.YtdhjolglbcoijaaDoorW.PrintLast Go.Proofs.YtdhjolglbcoijaaDoorW.PrintMore
attribute [local go_sem] max2_int min2_int max_two min_two max_three min_three max_four min_four   -- for this text's walks alone
set_option linter.unusedVariables false
set_option linter.unusedSimpArgs false

mutual
def impl_CutLog.j0 : Nat → List (S70) → Int → List (S30) → Bool → Option ((List (S30)) × Bool)
 | 0, _, _, _, _ => none
 | k + 1, x0, x1, x6, x19 => if x19 = true then (some (x6, false)) else ((impl_Digest.f k (⟨#[]⟩ : ByteArray)).bind fun t295 => (impl_CutLog.l0 k x0 x1 x6 t295 0))
def impl_CutLog.l0 : Nat → List (S70) → Int → List (S30) → ByteArray → Int → Option ((List (S30)) × Bool)
 | 0, _, _, _, _, _ => none
 | k + 1, x0, x1, x6, x7, x8 => if x8 < (x0.length : Int) then ((some (([] : List (S70)) : List (S70))).bind fun y296 => (if 0 ≤ x8 then (if x8 ≤ (mn (wrap64 (x8 + x1)) (x0.length : Int)) then (if (mn (wrap64 (x8 + x1)) (x0.length : Int)) ≤ (x0.length : Int) then ((some ((x0.take ((mn (wrap64 (x8 + x1)) (x0.length : Int)) : Int).toNat).drop (x8 : Int).toNat : List (S70))).bind fun y299 => (if y296.length + y299.length < 2932031007402 then ((some (y296 ++ y299 : List (S70))).bind fun y303 => ((impl_HeadFrom.f k x7 y303).bind fun t306 => (if x6.length < 2199023255552 then (impl_CutLog.l0 k x0 x1 (x6 ++ [(⟨x8, x7, y303, t306⟩ : S30)]) t306 (wrap64 (x8 + x1))) else (none)))) else (none))) else (none)) else (none)) else (none))) else (some (x6, true))
end
def impl_CutLog.f (k : Nat) (l0 : List (S70)) (a1 : Int) : Option ((List (S30)) × Bool) := (some (([] : List (S30)) : List (S30))).bind fun y291 => ((impl_within.f a1 1 200).bind fun t294 => (if t294 = true then (impl_CutLog.j0 k l0 a1 y291 (decide ((l0.length : Int) > 200))) else (impl_CutLog.j0 k l0 a1 y291 true)))
theorem impl_CutLog.mono_l : ∀ k, (∀ y0 y1 y2 y3, LeO (impl_CutLog.j0 k y0 y1 y2 y3) (impl_CutLog.j0 (k + 1) y0 y1 y2 y3)) ∧ (∀ y0 y1 y2 y3 y4, LeO (impl_CutLog.l0 k y0 y1 y2 y3 y4) (impl_CutLog.l0 (k + 1) y0 y1 y2 y3 y4))
 | 0 => ⟨fun _ _ _ _ r h => by simp [impl_CutLog.j0] at h, fun _ _ _ _ _ r h => by simp [impl_CutLog.l0] at h⟩
 | k + 1 => by
  obtain ⟨ih0, ih1⟩ := impl_CutLog.mono_l k
  refine ⟨?_, ?_⟩
  ·intro y0 y1 y2 y3
   unfold impl_CutLog.j0
   have m0 := @impl_Digest.mono
   have m1 := @impl_HeadFrom.mono
   exact mo_
  ·intro y0 y1 y2 y3 y4
   unfold impl_CutLog.l0
   have m0 := @impl_Digest.mono
   have m1 := @impl_HeadFrom.mono
   exact mo_
theorem impl_CutLog.mono : ∀ a0 a1 k, LeO (impl_CutLog.f k a0 a1) (impl_CutLog.f (k + 1) a0 a1) := by
 intro a0 a1 k
 obtain ⟨ih0, ih1⟩ := impl_CutLog.mono_l k
 unfold impl_CutLog.f
 have m0 := @impl_Digest.mono
 have m1 := @impl_HeadFrom.mono
 exact mo_
theorem impl_CutLog.calls (k : Nat) (A0 : Option Addr) (c0 : Nat) (l0 : List (S70)) (a1 : Int) (r1 : List (S30)) (r2 : Bool) (w : World) (hr0 : Kd.C k70 w A0 l0.length l0) (hc0 : l0.length ≤ c0) (hT : Tab w) (h : impl_CutLog.f k l0 a1 = some (r1, r2)) :
 Calls Tryd.prog 34 #[.slice A0 l0.length c0, .int .i64 a1] w fun e w' => ∃ v0_ : Value, e = .returned (.tuple #[v0_, .bool r2]) ∧ Kd.S k30 30 w' w.heap.size (fun _ => True) v0_ r1 ∧ Below w.heap.size w w' := by
 have hu30 := Tryd.underlying30
 have HR0 := Aside0.mk hr0
 have HC0 := Aside0.mk hc0
 clear hr0 hc0
 have HT := Aside0.mk hT
 clear hT
 have HB := Aside0.mk (Below.refl w.heap.size w)
 have H := h
 unfold impl_CutLog.f at H
 clear h
 obtain ⟨y291, hy291⟩ : ∃ y_ : List (S30), y_ = (([] : List (S30))) := ⟨_, rfl⟩
 replace H : ((impl_within.f a1 1 200).bind fun t294 => (if t294 = true then (impl_CutLog.j0 k l0 a1 y291 (decide ((l0.length : Int) > 200))) else (impl_CutLog.j0 k l0 a1 y291 true))) = some (r1, r2) := rp_ H hy291
 have Ny291 := Aside0.mk hy291
 clear hy291
 have HC3 := Aside0.mk H
 clear H
 go_enter Tryd.func34, Tryd.ntmps34
 go_upto_region 2 with (first | ((with_reducible refine gate_dst (N := 11) rfl ?_); (try (refine gate_guard (by rfl) ?_; dsimp only)); refine Kd.S_lit k30 _ 30 ?hg (N := 11) ?hd (xs := ([] : List (S30))) (inner := []) (ok := fun _ => True) (okp := fun _ => True) ?hr ?hp (fun _ hk => hk) trivial (Below.refl _ _) (Nat.le_refl _) (by simp) ?_; (case hd => rfl); (case hg => rfl); (case hr => first | (go_simp; done) | (go_simp; rfl)); (case hp => exact (Reps.none _ _)); intro v292 w4 ho5 hb hg_ hnew_; clear hg_ hnew_; (first | rw [← Ny291.out] at ho5 | (simp only [Int.reduceToNat] at ho5; rw [← Ny291.out] at ho5)); have HO293 := Aside0.mk (Kd.S_lower ho5 (below_size bl_)); replace HB := Aside0.mk (below_step bl_ hb); clear hb ho5))
 (try simp only [Act.put, List.setIfInBounds_toArray, List.set_cons_zero, List.set_cons_succ])
 go_cut [19] (fun v19 wc => ∃ (kq : Nat) (x19_2 : Bool), v19 = .bool x19_2 ∧ Aside0 (impl_CutLog.j0 kq l0 a1 y291 x19_2 = some (r1, r2)) ∧ Aside0 (kq ≤ k) ∧ Aside0 (Kd.S k30 30 wc w.heap.size (fun _ => True) v292 y291) ∧ Aside0 (Below w.heap.size w wc))
 case first =>
  have H := HC3.out
  clear HC3
  replace H := bs_ H
  obtain ⟨t294, A6, H⟩ := H
  try dsimp only at H
  by_cases c7 : t294 = true
  ·subst c7
   rw [if_pos rfl] at H
   have H' := Aside0.mk H
   clear H
   go_wp2_with (first | ((with_reducible refine gate_callee (f := 72) rfl ?_); refine gs_ (some 13) Tryd.func72 #[.int .i64 a1, .int .i64 1, .int .i64 200] ?_; (with_reducible refine (impl_within.calls a1 1 200 true _ A6.out).mono ?_); rintro e w' ⟨rfl, ⟨nd, rfl⟩⟩; refine ⟨_, rfl, ?_⟩))
   go_meet
   case rel => exact ⟨_, (decide ((l0.length : Int) > 200)), (sr_), H', ⟨by first | omega | exact Nat.le_refl _⟩, ⟨by (with_reducible repeat (first | apply Kd.S_alloc | apply Kd.S_drewN | apply Kd.S_drew)); exact HO293.out⟩, ⟨bl_⟩⟩
  replace c7 := Bool.eq_false_iff.mpr c7
  subst c7
  rw [nf_] at H
  have H' := Aside0.mk H
  clear H
  go_wp2_with (first | ((with_reducible refine gate_callee (f := 72) rfl ?_); refine gs_ (some 13) Tryd.func72 #[.int .i64 a1, .int .i64 1, .int .i64 200] ?_; (with_reducible refine (impl_within.calls a1 1 200 false _ A6.out).mono ?_); rintro e w' ⟨rfl, ⟨nd, rfl⟩⟩; refine ⟨_, rfl, ?_⟩))
  go_meet
  case rel => exact ⟨_, (true), (sr_), H', ⟨by first | omega | exact Nat.le_refl _⟩, ⟨by (with_reducible repeat (first | apply Kd.S_alloc | apply Kd.S_drewN | apply Kd.S_drew)); exact HO293.out⟩, ⟨bl_⟩⟩
 clear HC3
 obtain ⟨kq, x19_2, rfl, HA, HJ2, HO_6, HB⟩ := hcut
 cases kq with
 | zero => exact absurd HA.out (by simp [impl_CutLog.j0])
 | succ kj2 => ?_
 have H := HA.out
 clear HA
 simp only [impl_CutLog.j0] at H
 by_cases c8 : x19_2 = true
 ·subst c8
  rw [if_pos rfl] at H
  simp only [Option.some.injEq, Prod.mk.injEq] at H
  obtain ⟨rfl, rfl⟩ := H
  go_wp2
  go_ret2
  exact ⟨_, er_, by (with_reducible repeat (first | apply Kd.S_alloc | apply Kd.S_drewN | apply Kd.S_drew)); exact HO_6.out, bl_⟩
 replace c8 := Bool.eq_false_iff.mpr c8
 subst c8
 rw [nf_] at H
 replace H := bs_ H
 obtain ⟨t295, A9, H⟩ := H
 try dsimp only at H
 have H' := Aside0.mk H
 clear H
 go_wp2_with (first | ((with_reducible refine gate_callee (f := 86) rfl ?_); refine gs_ (some 21) Tryd.func86 #[.string (⟨#[]⟩ : ByteArray)] ?_; (with_reducible refine (impl_Digest.calls kj2 (⟨#[]⟩ : ByteArray) t295 _ ?side1 A9.out).mono ?_); (case side1 => exact tab_of HT.out bl_); rintro e w10 ⟨rfl, hb⟩; refine ⟨_, rfl, ?_⟩; replace HO_6 := Aside0.mk (Kd.S_below (by (with_reducible repeat (first | apply Kd.S_alloc | apply Kd.S_drewN | apply Kd.S_drew)); exact HO_6.out) hb); replace HB := Aside0.mk (below_step bl_ hb); (try clear hb)))
 go_loopg [6, 7, 8] kj2 (fun kq v6 v7 v8 w' => ∃ (x6_2 : List (S30)) (x7_2 : ByteArray) (x8_2 : Int), v7 = .string x7_2 ∧ v8 = .int .i64 x8_2 ∧ Aside0 (impl_CutLog.l0 kq l0 a1 x6_2 x7_2 x8_2 = some (r1, r2)) ∧ Aside0 (kq ≤ kj2) ∧ Aside0 (Kd.S k30 30 w' w.heap.size (fun _ => True) v6 x6_2) ∧ Aside0 (Below w.heap.size w w'))
 case atStart => exact ⟨(y291), (t295), (0), (sr_), (sr_), H', ⟨Nat.le_refl _⟩, ⟨by (with_reducible repeat (first | apply Kd.S_alloc | apply Kd.S_drewN | apply Kd.S_drew)); exact HO_6.out⟩, ⟨bl_⟩⟩
 clear H'
 try clear c8
 obtain ⟨x6_2, x7_2, x8_2, rfl, rfl, HA, HK2, HO_6, HB⟩ := hrel
 cases gk with
 | zero => exact absurd HA.out (by simp [impl_CutLog.l0])
 | succ k2 => ?_
 have H := HA.out
 clear HA
 simp only [impl_CutLog.l0] at H
 by_cases c11 : x8_2 < (l0.length : Int)
 rotate_left
 ·rw [if_neg c11] at H
  have c11b0 := decide_eq_false c11
  clear c11
  simp only [Option.some.injEq, Prod.mk.injEq] at H
  obtain ⟨rfl, rfl⟩ := H
  go_wp2
  go_ret2
  exact ⟨_, er_, by (with_reducible repeat (first | apply Kd.S_alloc | apply Kd.S_drewN | apply Kd.S_drew)); exact HO_6.out, bl_⟩
 rw [if_pos c11] at H
 have c11b0 := decide_eq_true c11
 clear c11
 obtain ⟨y296, hy296⟩ : ∃ y_ : List (S70), y_ = (([] : List (S70))) := ⟨_, rfl⟩
 replace H : (if 0 ≤ x8_2 then (if x8_2 ≤ (mn (wrap64 (x8_2 + a1)) (l0.length : Int)) then (if (mn (wrap64 (x8_2 + a1)) (l0.length : Int)) ≤ (l0.length : Int) then ((some ((l0.take ((mn (wrap64 (x8_2 + a1)) (l0.length : Int)) : Int).toNat).drop (x8_2 : Int).toNat : List (S70))).bind fun y299 => (if y296.length + y299.length < 2932031007402 then ((some (y296 ++ y299 : List (S70))).bind fun y303 => ((impl_HeadFrom.f k2 x7_2 y303).bind fun t306 => (if x6_2.length < 2199023255552 then (impl_CutLog.l0 k2 l0 a1 (x6_2 ++ [(⟨x8_2, x7_2, y303, t306⟩ : S30)]) t306 (wrap64 (x8_2 + a1))) else (none)))) else (none))) else (none)) else (none)) else (none)) = some (r1, r2) := rp_ H hy296
 have Ny296 := Aside0.mk hy296
 clear hy296
 obtain ⟨ji12, hji12⟩ : ∃ j_ : Int, (mn (wrap64 (x8_2 + a1)) (l0.length : Int)) = j_ := ⟨_, rfl⟩
 replace H : (if 0 ≤ x8_2 then (if x8_2 ≤ (ji12) then (if (ji12) ≤ (l0.length : Int) then ((some ((l0.take ((ji12) : Int).toNat).drop (x8_2 : Int).toNat : List (S70))).bind fun y299 => (if y296.length + y299.length < 2932031007402 then ((some (y296 ++ y299 : List (S70))).bind fun y303 => ((impl_HeadFrom.f k2 x7_2 y303).bind fun t306 => (if x6_2.length < 2199023255552 then (impl_CutLog.l0 k2 l0 a1 (x6_2 ++ [(⟨x8_2, x7_2, y303, t306⟩ : S30)]) t306 (wrap64 (x8_2 + a1))) else (none)))) else (none))) else (none)) else (none)) else (none)) = some (r1, r2) := by first | (rw [hji12] at H; exact H) | (simp only [hji12] at H ⊢; exact H)
 have hji12_ : (if (l0.length : Int) < (wrap64 (x8_2 + a1)) then (l0.length : Int) else (wrap64 (x8_2 + a1))) = ji12 := hji12
 by_cases c13 : 0 ≤ x8_2
 rotate_left
 ·exact nn_ c13 H
 rw [if_pos c13] at H
 have c13b0 := eq_true c13
 have c13b1 : decide (0 ≤ x8_2) = true := decide_eq_true c13
 clear c13
 by_cases c14 : x8_2 ≤ (ji12)
 rotate_left
 ·exact nn_ c14 H
 rw [if_pos c14] at H
 have c14b0 := eq_true c14
 have c14b1 : decide (x8_2 ≤ (ji12)) = true := decide_eq_true c14
 clear c14
 by_cases c15 : (ji12) ≤ (l0.length : Int)
 rotate_left
 ·exact nn_ c15 H
 rw [if_pos c15] at H
 have c15b0 := eq_true c15
 have c15b1 : decide ((ji12) ≤ (l0.length : Int)) = true := decide_eq_true c15
 clear c15
 obtain ⟨y299, hy299⟩ : ∃ y_ : List (S70), y_ = ((l0.take ((ji12) : Int).toNat).drop (x8_2 : Int).toNat) := ⟨_, rfl⟩
 replace H : (if y296.length + y299.length < 2932031007402 then ((some (y296 ++ y299 : List (S70))).bind fun y303 => ((impl_HeadFrom.f k2 x7_2 y303).bind fun t306 => (if x6_2.length < 2199023255552 then (impl_CutLog.l0 k2 l0 a1 (x6_2 ++ [(⟨x8_2, x7_2, y303, t306⟩ : S30)]) t306 (wrap64 (x8_2 + a1))) else (none)))) else (none)) = some (r1, r2) := rp_ H hy299
 have Ny299 := Aside0.mk hy299
 clear hy299
 by_cases c16 : y296.length + y299.length < 2932031007402
 rotate_left
 ·exact nn_ c16 H
 rw [if_pos c16] at H
 have LMc16 := Aside0.mk c16
 clear c16
 obtain ⟨y303, hy303⟩ : ∃ y_ : List (S70), y_ = (y296 ++ y299) := ⟨_, rfl⟩
 replace H : ((impl_HeadFrom.f k2 x7_2 y303).bind fun t306 => (if x6_2.length < 2199023255552 then (impl_CutLog.l0 k2 l0 a1 (x6_2 ++ [(⟨x8_2, x7_2, y303, t306⟩ : S30)]) t306 (wrap64 (x8_2 + a1))) else (none))) = some (r1, r2) := rp_ H hy303
 have Ny303 := Aside0.mk hy303
 clear hy303
 replace H := bs_ H
 obtain ⟨t306, A17, H⟩ := H
 try dsimp only at H
 by_cases c18 : x6_2.length < 2199023255552
 rotate_left
 ·exact nn_ c18 H
 rw [if_pos c18] at H
 have LMc18 := Aside0.mk c18
 clear c18
 obtain ⟨y307, hy307⟩ : ∃ y_ : List (S30), y_ = (x6_2 ++ [(⟨x8_2, x7_2, y303, t306⟩ : S30)]) := ⟨_, rfl⟩
 replace H : (impl_CutLog.l0 k2 l0 a1 y307 t306 (wrap64 (x8_2 + a1))) = some (r1, r2) := rp_ H hy307
 have Ny307 := Aside0.mk hy307
 clear hy307
 have H' := Aside0.mk H
 clear H
 go_wp2_with (first | ((with_reducible refine gate_dst (N := 29) rfl ?_); (try (refine gate_guard (by rfl) ?_; dsimp only)); refine Kd.R_lit k70 _ 70 ?hg (N := 29) ?hd (xs := ([] : List (S70))) (inner := []) (ok := fun _ => True) (okp := fun _ => True) ?hr ?hp (fun _ hk => hk) trivial (Below.refl _ _) (Nat.le_refl _) (by simp) ?_; (case hd => rfl); (case hg => rfl); (case hr => first | (go_simp; done) | (go_simp; rfl)); (case hp => exact (Reps.none _ _)); intro v297 w19 ho20 hb hg_ hnew_; clear hg_ hnew_; (first | rw [← Ny296.out] at ho20 | (simp only [Int.reduceToNat] at ho20; rw [← Ny296.out] at ho20)); replace HO_6 := Aside0.mk (Kd.S_elder' (by (with_reducible repeat (first | apply Kd.S_alloc | apply Kd.S_drewN | apply Kd.S_drew)); exact HO_6.out) (Kd.R_base ho20) hb); have HO298 := Aside0.mk (Kd.R_lower ho20 (below_size bl_)); replace HB := Aside0.mk (below_step bl_ hb); clear hb ho20; have q21 : ((ji12) : Int) ≤ ((l0.length : Int) : Int) := of_decide_eq_true as_; obtain ⟨i021, hi021, _, hsz21, _⟩ := info_parts info70; have hroom21 : l0.length ≤ c0 := HC0.out; have hC21 : Kd.C k70 _ A0 l0.length l0 := HR0.out; have ql21 : (x8_2 : Int) ≤ ((ji12) : Int) := of_decide_eq_true as_; have q021 : (0 : Int) ≤ (x8_2 : Int) := of_decide_eq_true as_; have hcut21 := cut_mid (P := Tryd.prog) 28 70 .i64 .i64 Tryd.underlying28 hi021 6 hsz21 A0 l0.length c0 x8_2 (ji12) q021 ql21 q21 hroom21; have hr21 := Kd.C_mid (lo := (x8_2 : Int).toNat) (hi := ((ji12) : Int).toNat) (c := c0) hC21 (by omega) (by omega) hroom21; obtain ⟨A21, hA21⟩ : ∃ A1, A1 = (if c0 = (x8_2 : Int).toNat then A0 else (A0 : Option Addr).map (·.add ((x8_2 : Int).toNat * 6))) := ⟨_, rfl⟩; obtain ⟨c21, hc21⟩ : ∃ c1, c1 = c0 - (x8_2 : Int).toNat := ⟨_, rfl⟩; have hy21 : y299.length = ((ji12) : Int).toNat - (x8_2 : Int).toNat := (by rw [Ny299.out, List.length_drop, List.length_take] <;> omega); rw [show ((l0).take ((ji12) : Int).toNat).drop (x8_2 : Int).toNat = y299 from Ny299.out.symm] at hr21; replace hr21 : Kd.C k70 _ A21 y299.length y299 := (by rw [hA21]; exact hr21); rw [← hy21, ← hA21, ← hc21] at hcut21; have HR302 := Aside0.mk hr21; have HC302 := Aside0.mk (show y299.length ≤ c21 from by rw [hy21, hc21]; exact Nat.sub_le_sub_right (Nat.le_trans (by omega) hroom21) _); clear hr21 hC21 hroom21 hi021 hsz21 hc21; have KY21 := Aside0.mk hy21; have KA21 := Aside0.mk hA21; clear hy21 hA21; replace q21 := eq_true q21) | ((with_reducible refine gate_builtin (b := .append) (xs := #[.tmp 29, .tmp 38]) rfl ?_); (try (refine gate_guard (by rfl) ?_; dsimp only)); at_builtin; refine Kd.R_append_rows k70 (w0 := w) w.heap.size rfl (.tmp 29) (.tmp 38) 28 70 (.agg #[(.int .i64 0), (.int .i64 0), (.int .i64 0), (.int .i64 0), (.int .i64 0), (.int .i64 0)]) 48 rfl Tryd.underlying28 info70 rfl (by decide) (by omega) v297 y296 y299 _ _ _ (fun _ => True) (fun _ => False) rfl rfl ?aO ?aR (fun _ _ h => h) (fun _ h => h.elim) ?aF ?aB ?aS ?aL ?_; (case aR => repeat (first | exact (Kd.C_below HR302.out HB.out) | exact HR302.out | (with_reducible refine Kd.C_alloc ?_ _) | (with_reducible refine Kd.C_drewN ?_ _) | (with_reducible refine Kd.C_drew ?_))); (case aB => exact bl_); (case aF => exact (fun _ _ => trivial)); (case aO => exact (ra_ HO298.out)); (case aS => exact (below_size bl_)); (case aL => have := LMc16.out; omega); intro v304 w22 ho hb hg hat; rw [← Ny303.out] at ho; replace HO_6 := Aside0.mk (Kd.S_after (ok := (fun _ => True)) (by (with_reducible repeat (first | apply Kd.S_alloc | apply Kd.S_drewN | apply Kd.S_drew)); exact HO_6.out) hg hat); replace HB := Aside0.mk (hb); have HO305 := Aside0.mk (ho); clear HO298; clear ho hb hg hat; obtain ⟨Ao23, co23, eo23⟩ := Kd.R_slice HO305.out; subst eo23) | ((with_reducible refine gate_callee (f := 68) rfl ?_); refine gs_ (some 42) Tryd.func68 #[.string x7_2, .slice Ao23 y303.length co23] ?_; (with_reducible refine (impl_HeadFrom.calls k2 x7_2 _ _ y303 t306 _ ?side1 ?side2 ?side3 A17.out).mono ?_); (case side1 => exact cs_ ((Kd.R_reads' HO305.out).2.2)); (case side2 => exact (Kd.R_reads' HO305.out).2.1); (case side3 => exact tab_of HT.out bl_); rintro e w24 ⟨rfl, hb⟩; refine ⟨_, rfl, ?_⟩; replace HO_6 := Aside0.mk (Kd.S_below (by (with_reducible repeat (first | apply Kd.S_alloc | apply Kd.S_drewN | apply Kd.S_drew)); exact HO_6.out) hb); replace HO305 := Aside0.mk (Kd.R_below (ra_ HO305.out) hb); replace HB := Aside0.mk (below_step bl_ hb); (try clear hb)) | ((with_reducible refine gate_builtin (b := .append) (xs := #[.tmp 43, .tmp 49]) rfl ?_); (try (refine gate_guard (by rfl) ?_; dsimp only)); at_builtin; refine Kd.S_append k30 (w0 := w) w.heap.size rfl (.tmp 43) (.tmp 49) 46 30 (.agg #[(.int .i64 0), (.string ⟨#[]⟩), (.slice none 0 0), (.string ⟨#[]⟩)]) 64 rfl Tryd.underlying46 info30 rfl (by decide) (by omega) u6 x6_2 (⟨x8_2, x7_2, y303, t306⟩ : S30) [.int .i64 x8_2, .string x7_2, .slice Ao23 y303.length co23, .string t306] (fun _ => True) (fun k_ => some k_ = (.slice Ao23 y303.length co23 : Value).ownBlock) rfl rfl ?aP (fun k_ hk_ => ((Kd.R_mono (ok' := fun k_ => ((fun _ => True)) k_ ∧ some k_ ≠ (u6 : Value).ownBlock) (Kd.R_apart' (HO305.out) (Kd.S_typed HO_6.out) (by decide)) (fun k_ hk => ⟨trivial, hk.2⟩))).1 k_ hk_.symm) ?aF ?aO ?aB ?aS ?aL ?_; (case aP => exact k30_mkM _ _ _ (⟨x8_2, x7_2, y303, t306⟩ : S30) (Kd.R_mono (Kd.R_tight rfl (Kd.R_mono (ok' := fun k_ => ((fun _ => True)) k_ ∧ some k_ ≠ (u6 : Value).ownBlock) (Kd.R_apart' (HO305.out) (Kd.S_typed HO_6.out) (by decide)) (fun k_ hk => ⟨trivial, hk.2⟩))) (fun _ h_ => h_))); (case aB => exact bl_); (case aF => exact (fun _ _ => trivial)); (case aO => exact (by (with_reducible repeat (first | apply Kd.S_alloc | apply Kd.S_drewN | apply Kd.S_drew)); exact Kd.S_mono HO_6.out (fun k_ hk => ⟨trivial, fun e_ => hk.2 e_⟩))); (case aS => exact (below_size bl_)); (case aL => have := LMc18.out; omega); intro v308 w25 ho hb hg hat; rw [← Ny307.out] at ho; replace HB := Aside0.mk (hb); have HO309 := Aside0.mk (ho); clear HO_6 HO305; clear ho hb hg hat))
 go_roundg k2
 case measure => have := HJ2.out; have := HK2.out; omega
 case rel => exact ⟨(y307), (t306), (wrap64 (x8_2 + a1)), (sr_), (sr_), H', ⟨by have := HJ2.out; have := HK2.out; omega⟩, ⟨by (with_reducible repeat (first | apply Kd.S_alloc | apply Kd.S_drewN | apply Kd.S_drew)); exact HO309.out⟩, ⟨bl_⟩⟩

end Go.Proofs.YtdhjolglbcoijaaDoor.PA
