/- Contracts of functions of the program and of the reference, and plain lemmas on what they compute: a part of the proof of the law FnSegments. No condition. -/
import Derived.Test.YtdhjolglbcoijaaDoorG88178x0
import Derived.Test.YtdhjolglbcoijaaDoorG88178x1
import Derived.Test.YtdhjolglbcoijaaDoorG88178x2
import Derived.Test.YtdhjolglbcoijaaDoorShortV
set_option maxHeartbeats 8000000
set_option maxRecDepth 100000
namespace Go.Proofs.YtdhjolglbcoijaaDoor.PA
open Go.RowKit Go.Proofs.YtdhjolglbcoijaaDoor.Short Go.Proofs.YtdhjolglbcoijaaDoorW.PrintWords Go.Proofs.YtdhjolglbcoijaaDoorW.PrintLast Go.Proofs.YtdhjolglbcoijaaDoorW.PrintMore
attribute [local go_sem] max2_int min2_int max_two min_two max_three min_three max_four min_four   -- for this text's walks alone
set_option linter.unusedVariables false
set_option linter.unusedSimpArgs false

mutual
def impl_CutLog.j0 : Nat → List (S70) → Int → List (S30) → Bool → Option ((List (S30)) × Bool)
 | 0, _, _, _, _ => none
 | k + 1, x0, x1, x6, x19 => if x19 = true then (some (x6, false)) else ((impl_Digest.f k (⟨#[]⟩ : ByteArray)).bind fun t505 => (impl_CutLog.l0 k x0 x1 x6 t505 0))
def impl_CutLog.l0 : Nat → List (S70) → Int → List (S30) → ByteArray → Int → Option ((List (S30)) × Bool)
 | 0, _, _, _, _, _ => none
 | k + 1, x0, x1, x6, x7, x8 => if x8 < (x0.length : Int) then ((some (([] : List (S70)) : List (S70))).bind fun y506 => (if 0 ≤ x8 then (if x8 ≤ (mn (wrap64 (x8 + x1)) (x0.length : Int)) then (if (mn (wrap64 (x8 + x1)) (x0.length : Int)) ≤ (x0.length : Int) then ((some ((x0.take ((mn (wrap64 (x8 + x1)) (x0.length : Int)) : Int).toNat).drop (x8 : Int).toNat : List (S70))).bind fun y509 => (if y506.length + y509.length < 2932031007402 then ((some (y506 ++ y509 : List (S70))).bind fun y513 => ((impl_HeadFrom.f k x7 y513).bind fun t516 => (if x6.length < 2199023255552 then (impl_CutLog.l0 k x0 x1 (x6 ++ [(⟨x8, x7, y513, t516⟩ : S30)]) t516 (wrap64 (x8 + x1))) else (none)))) else (none))) else (none)) else (none)) else (none))) else (some (x6, true))
end
def impl_CutLog.f (k : Nat) (l0 : List (S70)) (a1 : Int) : Option ((List (S30)) × Bool) := (some (([] : List (S30)) : List (S30))).bind fun y501 => ((impl_within.f a1 1 200).bind fun t504 => (if t504 = true then (impl_CutLog.j0 k l0 a1 y501 (decide ((l0.length : Int) > 200))) else (impl_CutLog.j0 k l0 a1 y501 true)))
theorem impl_CutLog.mono_l : ∀ k, (∀ y0 y1 y2 y3, LeO (impl_CutLog.j0 k y0 y1 y2 y3) (impl_CutLog.j0 (k + 1) y0 y1 y2 y3)) ∧ (∀ y0 y1 y2 y3 y4, LeO (impl_CutLog.l0 k y0 y1 y2 y3 y4) (impl_CutLog.l0 (k + 1) y0 y1 y2 y3 y4))
 | 0 => ⟨fun _ _ _ _ r h => by simp [impl_CutLog.j0] at h, fun _ _ _ _ _ r h => by simp [impl_CutLog.l0] at h⟩
 | k + 1 => by
  obtain ⟨ih0, ih1⟩ := impl_CutLog.mono_l k
  refine ⟨?_, ?_⟩
  ·intro y0 y1 y2 y3
   unfold impl_CutLog.j0
   have m0 := @impl_Digest.mono
   have m1 := @impl_HeadFrom.mono
   exact mo_
  ·intro y0 y1 y2 y3 y4
   unfold impl_CutLog.l0
   have m0 := @impl_Digest.mono
   have m1 := @impl_HeadFrom.mono
   exact mo_
theorem impl_CutLog.mono : ∀ a0 a1 k, LeO (impl_CutLog.f k a0 a1) (impl_CutLog.f (k + 1) a0 a1) := by
 intro a0 a1 k
 obtain ⟨ih0, ih1⟩ := impl_CutLog.mono_l k
 unfold impl_CutLog.f
 have m0 := @impl_Digest.mono
 have m1 := @impl_HeadFrom.mono
 exact mo_
theorem impl_CutLog.calls (k : Nat) (A0 : Option Addr) (c0 : Nat) (l0 : List (S70)) (a1 : Int) (r1 : List (S30)) (r2 : Bool) (w : World) (hr0 : Kd.C k70 w A0 l0.length l0) (hc0 : l0.length ≤ c0) (hT : Tab w) (h : impl_CutLog.f k l0 a1 = some (r1, r2)) :
 Calls Tryd.prog 34 #[.slice A0 l0.length c0, .int .i64 a1] w fun e w' => ∃ v0_ : Value, e = .returned (.tuple #[v0_, .bool r2]) ∧ Kd.S k30 30 w' w.heap.size (fun _ => True) v0_ r1 ∧ Below w.heap.size w w' := by
 have hu30 := Tryd.underlying30
 have HR0 := Aside0.mk hr0
 have HC0 := Aside0.mk hc0
 clear hr0 hc0
 have HT := Aside0.mk hT
 clear hT
 have HB := Aside0.mk (Below.refl w.heap.size w)
 have H := h
 unfold impl_CutLog.f at H
 clear h
 obtain ⟨y501, hy501⟩ : ∃ y_ : List (S30), y_ = (([] : List (S30))) := ⟨_, rfl⟩
 replace H : ((impl_within.f a1 1 200).bind fun t504 => (if t504 = true then (impl_CutLog.j0 k l0 a1 y501 (decide ((l0.length : Int) > 200))) else (impl_CutLog.j0 k l0 a1 y501 true))) = some (r1, r2) := rp_ H hy501
 have Ny501 := Aside0.mk hy501
 clear hy501
 have HC3 := Aside0.mk H
 clear H
 go_enter Tryd.func34, Tryd.ntmps34
 go_upto_region 2 with (first | ((with_reducible refine gate_dst (N := 11) rfl ?_); (try (refine gate_guard (by rfl) ?_; dsimp only)); refine Kd.S_lit k30 _ 30 ?hg (N := 11) ?hd (xs := ([] : List (S30))) (inner := []) (ok := fun _ => True) (okp := fun _ => True) ?hr ?hp (fun _ hk => hk) trivial (Below.refl _ _) (Nat.le_refl _) (by simp) ?_; (case hd => rfl); (case hg => rfl); (case hr => first | (go_simp; done) | (go_simp; rfl)); (case hp => exact (Reps.none _ _)); intro v502 w4 ho5 hb hg_ hnew_; clear hg_ hnew_; (first | rw [← Ny501.out] at ho5 | (simp only [Int.reduceToNat] at ho5; rw [← Ny501.out] at ho5)); have HO503 := Aside0.mk (Kd.S_lower ho5 (below_size bl_)); replace HB := Aside0.mk (below_step bl_ hb); clear hb ho5))
 (try simp only [Act.put, List.setIfInBounds_toArray, List.set_cons_zero, List.set_cons_succ])
 go_cut [19] (fun v19 wc => ∃ (kq : Nat) (x19_2 : Bool), v19 = .bool x19_2 ∧ Aside0 (impl_CutLog.j0 kq l0 a1 y501 x19_2 = some (r1, r2)) ∧ Aside0 (kq ≤ k) ∧ Aside0 (Kd.S k30 30 wc w.heap.size (fun _ => True) v502 y501) ∧ Aside0 (Below w.heap.size w wc))
 case first =>
  have H := HC3.out
  clear HC3
  replace H := bs_ H
  obtain ⟨t504, A6, H⟩ := H
  try dsimp only at H
  by_cases c7 : t504 = true
  ·subst c7
   rw [if_pos rfl] at H
   have H' := Aside0.mk H
   clear H
   go_wp2_with (first | ((with_reducible refine gate_callee (f := 72) rfl ?_); refine gs_ (some 13) Tryd.func72 #[.int .i64 a1, .int .i64 1, .int .i64 200] ?_; (with_reducible refine (impl_within.calls a1 1 200 true _ A6.out).mono ?_); rintro e w' ⟨rfl, ⟨nd, rfl⟩⟩; refine ⟨_, rfl, ?_⟩))
   go_meet
   case rel => exact ⟨_, (decide ((l0.length : Int) > 200)), (sr_), H', ⟨by first | omega | exact Nat.le_refl _⟩, ⟨by (with_reducible repeat (first | apply Kd.S_alloc | apply Kd.S_drewN | apply Kd.S_drew)); exact HO503.out⟩, ⟨bl_⟩⟩
  replace c7 := Bool.eq_false_iff.mpr c7
  subst c7
  rw [nf_] at H
  have H' := Aside0.mk H
  clear H
  go_wp2_with (first | ((with_reducible refine gate_callee (f := 72) rfl ?_); refine gs_ (some 13) Tryd.func72 #[.int .i64 a1, .int .i64 1, .int .i64 200] ?_; (with_reducible refine (impl_within.calls a1 1 200 false _ A6.out).mono ?_); rintro e w' ⟨rfl, ⟨nd, rfl⟩⟩; refine ⟨_, rfl, ?_⟩))
  go_meet
  case rel => exact ⟨_, (true), (sr_), H', ⟨by first | omega | exact Nat.le_refl _⟩, ⟨by (with_reducible repeat (first | apply Kd.S_alloc | apply Kd.S_drewN | apply Kd.S_drew)); exact HO503.out⟩, ⟨bl_⟩⟩
 clear HC3
 obtain ⟨kq, x19_2, rfl, HA, HJ2, HO_6, HB⟩ := hcut
 cases kq with
 | zero => exact absurd HA.out (by simp [impl_CutLog.j0])
 | succ kj2 => ?_
 have H := HA.out
 clear HA
 simp only [impl_CutLog.j0] at H
 by_cases c8 : x19_2 = true
 ·subst c8
  rw [if_pos rfl] at H
  simp only [Option.some.injEq, Prod.mk.injEq] at H
  obtain ⟨rfl, rfl⟩ := H
  go_wp2
  go_ret2
  exact ⟨_, er_, by (with_reducible repeat (first | apply Kd.S_alloc | apply Kd.S_drewN | apply Kd.S_drew)); exact HO_6.out, bl_⟩
 replace c8 := Bool.eq_false_iff.mpr c8
 subst c8
 rw [nf_] at H
 replace H := bs_ H
 obtain ⟨t505, A9, H⟩ := H
 try dsimp only at H
 have H' := Aside0.mk H
 clear H
 go_wp2_with (first | ((with_reducible refine gate_callee (f := 86) rfl ?_); refine gs_ (some 21) Tryd.func86 #[.string (⟨#[]⟩ : ByteArray)] ?_; (with_reducible refine (impl_Digest.calls kj2 (⟨#[]⟩ : ByteArray) t505 _ ?side1 A9.out).mono ?_); (case side1 => exact tab_of HT.out bl_); rintro e w10 ⟨rfl, hb⟩; refine ⟨_, rfl, ?_⟩; replace HO_6 := Aside0.mk (Kd.S_below (by (with_reducible repeat (first | apply Kd.S_alloc | apply Kd.S_drewN | apply Kd.S_drew)); exact HO_6.out) hb); replace HB := Aside0.mk (below_step bl_ hb); (try clear hb)))
 go_loopg [6, 7, 8] kj2 (fun kq v6 v7 v8 w' => ∃ (x6_2 : List (S30)) (x7_2 : ByteArray) (x8_2 : Int), v7 = .string x7_2 ∧ v8 = .int .i64 x8_2 ∧ Aside0 (impl_CutLog.l0 kq l0 a1 x6_2 x7_2 x8_2 = some (r1, r2)) ∧ Aside0 (kq ≤ kj2) ∧ Aside0 (Kd.S k30 30 w' w.heap.size (fun _ => True) v6 x6_2) ∧ Aside0 (Below w.heap.size w w'))
 case atStart => exact ⟨(y501), (t505), (0), (sr_), (sr_), H', ⟨Nat.le_refl _⟩, ⟨by (with_reducible repeat (first | apply Kd.S_alloc | apply Kd.S_drewN | apply Kd.S_drew)); exact HO_6.out⟩, ⟨bl_⟩⟩
 clear H'
 try clear c8
 obtain ⟨x6_2, x7_2, x8_2, rfl, rfl, HA, HK2, HO_6, HB⟩ := hrel
 cases gk with
 | zero => exact absurd HA.out (by simp [impl_CutLog.l0])
 | succ k2 => ?_
 have H := HA.out
 clear HA
 simp only [impl_CutLog.l0] at H
 by_cases c11 : x8_2 < (l0.length : Int)
 rotate_left
 ·rw [if_neg c11] at H
  have c11b0 := decide_eq_false c11
  clear c11
  simp only [Option.some.injEq, Prod.mk.injEq] at H
  obtain ⟨rfl, rfl⟩ := H
  go_wp2
  go_ret2
  exact ⟨_, er_, by (with_reducible repeat (first | apply Kd.S_alloc | apply Kd.S_drewN | apply Kd.S_drew)); exact HO_6.out, bl_⟩
 rw [if_pos c11] at H
 have c11b0 := decide_eq_true c11
 clear c11
 obtain ⟨y506, hy506⟩ : ∃ y_ : List (S70), y_ = (([] : List (S70))) := ⟨_, rfl⟩
 replace H : (if 0 ≤ x8_2 then (if x8_2 ≤ (mn (wrap64 (x8_2 + a1)) (l0.length : Int)) then (if (mn (wrap64 (x8_2 + a1)) (l0.length : Int)) ≤ (l0.length : Int) then ((some ((l0.take ((mn (wrap64 (x8_2 + a1)) (l0.length : Int)) : Int).toNat).drop (x8_2 : Int).toNat : List (S70))).bind fun y509 => (if y506.length + y509.length < 2932031007402 then ((some (y506 ++ y509 : List (S70))).bind fun y513 => ((impl_HeadFrom.f k2 x7_2 y513).bind fun t516 => (if x6_2.length < 2199023255552 then (impl_CutLog.l0 k2 l0 a1 (x6_2 ++ [(⟨x8_2, x7_2, y513, t516⟩ : S30)]) t516 (wrap64 (x8_2 + a1))) else (none)))) else (none))) else (none)) else (none)) else (none)) = some (r1, r2) := rp_ H hy506
 have Ny506 := Aside0.mk hy506
 clear hy506
 obtain ⟨ji12, hji12⟩ : ∃ j_ : Int, (mn (wrap64 (x8_2 + a1)) (l0.length : Int)) = j_ := ⟨_, rfl⟩
 replace H : (if 0 ≤ x8_2 then (if x8_2 ≤ (ji12) then (if (ji12) ≤ (l0.length : Int) then ((some ((l0.take ((ji12) : Int).toNat).drop (x8_2 : Int).toNat : List (S70))).bind fun y509 => (if y506.length + y509.length < 2932031007402 then ((some (y506 ++ y509 : List (S70))).bind fun y513 => ((impl_HeadFrom.f k2 x7_2 y513).bind fun t516 => (if x6_2.length < 2199023255552 then (impl_CutLog.l0 k2 l0 a1 (x6_2 ++ [(⟨x8_2, x7_2, y513, t516⟩ : S30)]) t516 (wrap64 (x8_2 + a1))) else (none)))) else (none))) else (none)) else (none)) else (none)) = some (r1, r2) := by first | (rw [hji12] at H; exact H) | (simp only [hji12] at H ⊢; exact H)
 have hji12_ : (if (l0.length : Int) < (wrap64 (x8_2 + a1)) then (l0.length : Int) else (wrap64 (x8_2 + a1))) = ji12 := hji12
 by_cases c13 : 0 ≤ x8_2
 rotate_left
 ·exact nn_ c13 H
 rw [if_pos c13] at H
 have c13b0 := eq_true c13
 have c13b1 : decide (0 ≤ x8_2) = true := decide_eq_true c13
 clear c13
 by_cases c14 : x8_2 ≤ (ji12)
 rotate_left
 ·exact nn_ c14 H
 rw [if_pos c14] at H
 have c14b0 := eq_true c14
 have c14b1 : decide (x8_2 ≤ (ji12)) = true := decide_eq_true c14
 clear c14
 by_cases c15 : (ji12) ≤ (l0.length : Int)
 rotate_left
 ·exact nn_ c15 H
 rw [if_pos c15] at H
 have c15b0 := eq_true c15
 have c15b1 : decide ((ji12) ≤ (l0.length : Int)) = true := decide_eq_true c15
 clear c15
 obtain ⟨y509, hy509⟩ : ∃ y_ : List (S70), y_ = ((l0.take ((ji12) : Int).toNat).drop (x8_2 : Int).toNat) := ⟨_, rfl⟩
 replace H : (if y506.length + y509.length < 2932031007402 then ((some (y506 ++ y509 : List (S70))).bind fun y513 => ((impl_HeadFrom.f k2 x7_2 y513).bind fun t516 => (if x6_2.length < 2199023255552 then (impl_CutLog.l0 k2 l0 a1 (x6_2 ++ [(⟨x8_2, x7_2, y513, t516⟩ : S30)]) t516 (wrap64 (x8_2 + a1))) else (none)))) else (none)) = some (r1, r2) := rp_ H hy509
 have Ny509 := Aside0.mk hy509
 clear hy509
 by_cases c16 : y506.length + y509.length < 2932031007402
 rotate_left
 ·exact nn_ c16 H
 rw [if_pos c16] at H
 have LMc16 := Aside0.mk c16
 clear c16
 obtain ⟨y513, hy513⟩ : ∃ y_ : List (S70), y_ = (y506 ++ y509) := ⟨_, rfl⟩
 replace H : ((impl_HeadFrom.f k2 x7_2 y513).bind fun t516 => (if x6_2.length < 2199023255552 then (impl_CutLog.l0 k2 l0 a1 (x6_2 ++ [(⟨x8_2, x7_2, y513, t516⟩ : S30)]) t516 (wrap64 (x8_2 + a1))) else (none))) = some (r1, r2) := rp_ H hy513
 have Ny513 := Aside0.mk hy513
 clear hy513
 replace H := bs_ H
 obtain ⟨t516, A17, H⟩ := H
 try dsimp only at H
 by_cases c18 : x6_2.length < 2199023255552
 rotate_left
 ·exact nn_ c18 H
 rw [if_pos c18] at H
 have LMc18 := Aside0.mk c18
 clear c18
 obtain ⟨y517, hy517⟩ : ∃ y_ : List (S30), y_ = (x6_2 ++ [(⟨x8_2, x7_2, y513, t516⟩ : S30)]) := ⟨_, rfl⟩
 replace H : (impl_CutLog.l0 k2 l0 a1 y517 t516 (wrap64 (x8_2 + a1))) = some (r1, r2) := rp_ H hy517
 have Ny517 := Aside0.mk hy517
 clear hy517
 have H' := Aside0.mk H
 clear H
 go_wp2_with (first | ((with_reducible refine gate_dst (N := 29) rfl ?_); (try (refine gate_guard (by rfl) ?_; dsimp only)); refine Kd.R_lit k70 _ 70 ?hg (N := 29) ?hd (xs := ([] : List (S70))) (inner := []) (ok := fun _ => True) (okp := fun _ => True) ?hr ?hp (fun _ hk => hk) trivial (Below.refl _ _) (Nat.le_refl _) (by simp) ?_; (case hd => rfl); (case hg => rfl); (case hr => first | (go_simp; done) | (go_simp; rfl)); (case hp => exact (Reps.none _ _)); intro v507 w19 ho20 hb hg_ hnew_; clear hg_ hnew_; (first | rw [← Ny506.out] at ho20 | (simp only [Int.reduceToNat] at ho20; rw [← Ny506.out] at ho20)); replace HO_6 := Aside0.mk (Kd.S_elder' (by (with_reducible repeat (first | apply Kd.S_alloc | apply Kd.S_drewN | apply Kd.S_drew)); exact HO_6.out) (Kd.R_base ho20) hb); have HO508 := Aside0.mk (Kd.R_lower ho20 (below_size bl_)); replace HB := Aside0.mk (below_step bl_ hb); clear hb ho20; have q21 : ((ji12) : Int) ≤ ((l0.length : Int) : Int) := of_decide_eq_true as_; obtain ⟨i021, hi021, _, hsz21, _⟩ := info_parts info70; have hroom21 : l0.length ≤ c0 := HC0.out; have hC21 : Kd.C k70 _ A0 l0.length l0 := HR0.out; have ql21 : (x8_2 : Int) ≤ ((ji12) : Int) := of_decide_eq_true as_; have q021 : (0 : Int) ≤ (x8_2 : Int) := of_decide_eq_true as_; have hcut21 := cut_mid (P := Tryd.prog) 28 70 .i64 .i64 Tryd.underlying28 hi021 6 hsz21 A0 l0.length c0 x8_2 (ji12) q021 ql21 q21 hroom21; have hr21 := Kd.C_mid (lo := (x8_2 : Int).toNat) (hi := ((ji12) : Int).toNat) (c := c0) hC21 (by omega) (by omega) hroom21; obtain ⟨A21, hA21⟩ : ∃ A1, A1 = (if c0 = (x8_2 : Int).toNat then A0 else (A0 : Option Addr).map (·.add ((x8_2 : Int).toNat * 6))) := ⟨_, rfl⟩; obtain ⟨c21, hc21⟩ : ∃ c1, c1 = c0 - (x8_2 : Int).toNat := ⟨_, rfl⟩; have hy21 : y509.length = ((ji12) : Int).toNat - (x8_2 : Int).toNat := (by rw [Ny509.out, List.length_drop, List.length_take] <;> omega); rw [show ((l0).take ((ji12) : Int).toNat).drop (x8_2 : Int).toNat = y509 from Ny509.out.symm] at hr21; replace hr21 : Kd.C k70 _ A21 y509.length y509 := (by rw [hA21]; exact hr21); rw [← hy21, ← hA21, ← hc21] at hcut21; have HR512 := Aside0.mk hr21; have HC512 := Aside0.mk (show y509.length ≤ c21 from by rw [hy21, hc21]; exact Nat.sub_le_sub_right (Nat.le_trans (by omega) hroom21) _); clear hr21 hC21 hroom21 hi021 hsz21 hc21; have KY21 := Aside0.mk hy21; have KA21 := Aside0.mk hA21; clear hy21 hA21; replace q21 := eq_true q21) | ((with_reducible refine gate_builtin (b := .append) (xs := #[.tmp 29, .tmp 38]) rfl ?_); (try (refine gate_guard (by rfl) ?_; dsimp only)); at_builtin; refine Kd.R_append_rows k70 (w0 := w) w.heap.size rfl (.tmp 29) (.tmp 38) 28 70 (.agg #[(.int .i64 0), (.int .i64 0), (.int .i64 0), (.int .i64 0), (.int .i64 0), (.int .i64 0)]) 48 rfl Tryd.underlying28 info70 rfl (by decide) (by omega) v507 y506 y509 _ _ _ (fun _ => True) (fun _ => False) rfl rfl ?aO ?aR (fun _ _ h => h) (fun _ h => h.elim) ?aF ?aB ?aS ?aL ?_; (case aR => repeat (first | exact (Kd.C_below HR512.out HB.out) | exact HR512.out | (with_reducible refine Kd.C_alloc ?_ _) | (with_reducible refine Kd.C_drewN ?_ _) | (with_reducible refine Kd.C_drew ?_))); (case aB => exact bl_); (case aF => exact (fun _ _ => trivial)); (case aO => exact (ra_ HO508.out)); (case aS => exact (below_size bl_)); (case aL => have := LMc16.out; omega); intro v514 w22 ho hb hg hat; rw [← Ny513.out] at ho; replace HO_6 := Aside0.mk (Kd.S_after (ok := (fun _ => True)) (by (with_reducible repeat (first | apply Kd.S_alloc | apply Kd.S_drewN | apply Kd.S_drew)); exact HO_6.out) hg hat); replace HB := Aside0.mk (hb); have HO515 := Aside0.mk (ho); clear HO508; clear ho hb hg hat; obtain ⟨Ao23, co23, eo23⟩ := Kd.R_slice HO515.out; subst eo23) | ((with_reducible refine gate_callee (f := 68) rfl ?_); refine gs_ (some 42) Tryd.func68 #[.string x7_2, .slice Ao23 y513.length co23] ?_; (with_reducible refine (impl_HeadFrom.calls k2 x7_2 _ _ y513 t516 _ ?side1 ?side2 ?side3 A17.out).mono ?_); (case side1 => exact cs_ ((Kd.R_reads' HO515.out).2.2)); (case side2 => exact (Kd.R_reads' HO515.out).2.1); (case side3 => exact tab_of HT.out bl_); rintro e w24 ⟨rfl, hb⟩; refine ⟨_, rfl, ?_⟩; replace HO_6 := Aside0.mk (Kd.S_below (by (with_reducible repeat (first | apply Kd.S_alloc | apply Kd.S_drewN | apply Kd.S_drew)); exact HO_6.out) hb); replace HO515 := Aside0.mk (Kd.R_below (ra_ HO515.out) hb); replace HB := Aside0.mk (below_step bl_ hb); (try clear hb)) | ((with_reducible refine gate_builtin (b := .append) (xs := #[.tmp 43, .tmp 49]) rfl ?_); (try (refine gate_guard (by rfl) ?_; dsimp only)); at_builtin; refine Kd.S_append k30 (w0 := w) w.heap.size rfl (.tmp 43) (.tmp 49) 46 30 (.agg #[(.int .i64 0), (.string ⟨#[]⟩), (.slice none 0 0), (.string ⟨#[]⟩)]) 64 rfl Tryd.underlying46 info30 rfl (by decide) (by omega) u6 x6_2 (⟨x8_2, x7_2, y513, t516⟩ : S30) [.int .i64 x8_2, .string x7_2, .slice Ao23 y513.length co23, .string t516] (fun _ => True) (fun k_ => some k_ = (.slice Ao23 y513.length co23 : Value).ownBlock) rfl rfl ?aP (fun k_ hk_ => ((Kd.R_mono (ok' := fun k_ => ((fun _ => True)) k_ ∧ some k_ ≠ (u6 : Value).ownBlock) (Kd.R_apart' (HO515.out) (Kd.S_typed HO_6.out) (by decide)) (fun k_ hk => ⟨trivial, hk.2⟩))).1 k_ hk_.symm) ?aF ?aO ?aB ?aS ?aL ?_; (case aP => exact k30_mkM _ _ _ (⟨x8_2, x7_2, y513, t516⟩ : S30) (Kd.R_mono (Kd.R_tight rfl (Kd.R_mono (ok' := fun k_ => ((fun _ => True)) k_ ∧ some k_ ≠ (u6 : Value).ownBlock) (Kd.R_apart' (HO515.out) (Kd.S_typed HO_6.out) (by decide)) (fun k_ hk => ⟨trivial, hk.2⟩))) (fun _ h_ => h_))); (case aB => exact bl_); (case aF => exact (fun _ _ => trivial)); (case aO => exact (by (with_reducible repeat (first | apply Kd.S_alloc | apply Kd.S_drewN | apply Kd.S_drew)); exact Kd.S_mono HO_6.out (fun k_ hk => ⟨trivial, fun e_ => hk.2 e_⟩))); (case aS => exact (below_size bl_)); (case aL => have := LMc18.out; omega); intro v518 w25 ho hb hg hat; rw [← Ny517.out] at ho; replace HB := Aside0.mk (hb); have HO519 := Aside0.mk (ho); clear HO_6 HO515; clear ho hb hg hat))
 go_roundg k2
 case measure => have := HJ2.out; have := HK2.out; omega
 case rel => exact ⟨(y517), (t516), (wrap64 (x8_2 + a1)), (sr_), (sr_), H', ⟨by have := HJ2.out; have := HK2.out; omega⟩, ⟨by (with_reducible repeat (first | apply Kd.S_alloc | apply Kd.S_drewN | apply Kd.S_drew)); exact HO519.out⟩, ⟨bl_⟩⟩


def impl_JoinSegments.l0 : Nat → List (S70) → ByteArray → List (S30) → Int → Int → Option ((List (S70)) × Bool)
 | 0, _, _, _, _, _ => none
 | k + 1, x4, x5, x10, x11, x12 => if x12 < x11 then (if 0 ≤ x12 then (if x12 < (x10.length : Int) then ((impl_SegmentOk.f k ((rd_T30 x10 x12).f0) ((rd_T30 x10 x12).f1) ((rd_T30 x10 x12).f2) ((rd_T30 x10 x12).f3)).bind fun t602 => (if t602 = true then (if ((rd_T30 x10 x12).f0) = (x4.length : Int) then (if ((rd_T30 x10 x12).f1).toList = x5.toList then (if x4.length + ((rd_T30 x10 x12).f2).length < 2932031007402 then (impl_JoinSegments.l0 k (x4 ++ ((rd_T30 x10 x12).f2)) ((rd_T30 x10 x12).f3) x10 x11 (wrap64 (x12 + 1))) else (none)) else (some ((([] : List (S70))), false))) else (some ((([] : List (S70))), false))) else (some ((([] : List (S70))), false)))) else (none)) else (none)) else (some (x4, true))
def impl_JoinSegments.f (k : Nat) (l0 : List (S30)) : Option ((List (S70)) × Bool) := (impl_Digest.f k (⟨#[]⟩ : ByteArray)).bind fun t599 => (impl_JoinSegments.l0 k (([] : List (S70))) t599 l0 (l0.length : Int) 0)
theorem impl_JoinSegments.mono_l : ∀ k, (∀ y0 y1 y2 y3 y4, LeO (impl_JoinSegments.l0 k y0 y1 y2 y3 y4) (impl_JoinSegments.l0 (k + 1) y0 y1 y2 y3 y4))
 | 0 => fun _ _ _ _ _ r h => by simp [impl_JoinSegments.l0] at h
 | k + 1 => by
  have ih0 := impl_JoinSegments.mono_l k
  ·intro y0 y1 y2 y3 y4
   unfold impl_JoinSegments.l0
   have m0 := @impl_Digest.mono
   have m1 := @impl_SegmentOk.mono
   exact mo_
theorem impl_JoinSegments.mono : ∀ a0 k, LeO (impl_JoinSegments.f k a0) (impl_JoinSegments.f (k + 1) a0) := by
 intro a0 k
 have ih0 := impl_JoinSegments.mono_l k
 unfold impl_JoinSegments.f
 have m0 := @impl_Digest.mono
 have m1 := @impl_SegmentOk.mono
 exact mo_
theorem impl_JoinSegments.calls (k : Nat) (A0 : Option Addr) (c0 : Nat) (l0 : List (S30)) (r1 : List (S70)) (r2 : Bool) (w : World) (hr0 : Kd.C k30 w A0 l0.length l0) (hc0 : l0.length ≤ c0) (hT : Tab w) (h : impl_JoinSegments.f k l0 = some (r1, r2)) :
 Calls Tryd.prog 41 #[.slice A0 l0.length c0] w fun e w' => ∃ v0_ : Value, e = .returned (.tuple #[v0_, .bool r2]) ∧ Kd.R k70 70 w' w.heap.size (fun _ => True) v0_ r1 ∧ Below w.heap.size w w' := by
 have hu30 := Tryd.underlying30
 have HR0 := Aside0.mk hr0
 have HC0 := Aside0.mk hc0
 clear hr0 hc0
 have HT := Aside0.mk hT
 clear hT
 have HB := Aside0.mk (Below.refl w.heap.size w)
 have H := h
 unfold impl_JoinSegments.f at H
 clear h
 obtain ⟨y596, hy596⟩ : ∃ y_ : List (S70), y_ = (([] : List (S70))) := ⟨_, rfl⟩
 replace H : ((impl_Digest.f k (⟨#[]⟩ : ByteArray)).bind fun t599 => (impl_JoinSegments.l0 k y596 t599 l0 (l0.length : Int) 0)) = some (r1, r2) := rp_ H hy596
 have Ny596 := Aside0.mk hy596
 clear hy596
 replace H := bs_ H
 obtain ⟨t599, A2, H⟩ := H
 try dsimp only at H
 have H' := Aside0.mk H
 clear H
 go_enter Tryd.func41, Tryd.ntmps41
 go_wp2_with (first | ((with_reducible refine gate_dst (N := 8) rfl ?_); (try (refine gate_guard (by rfl) ?_; dsimp only)); refine Kd.R_lit k70 _ 70 ?hg (N := 8) ?hd (xs := ([] : List (S70))) (inner := []) (ok := fun _ => True) (okp := fun _ => True) ?hr ?hp (fun _ hk => hk) trivial (Below.refl _ _) (Nat.le_refl _) (by simp) ?_; (case hd => rfl); (case hg => rfl); (case hr => first | (go_simp; done) | (go_simp; rfl)); (case hp => exact (Reps.none _ _)); intro v597 w3 ho4 hb hg_ hnew_; clear hg_ hnew_; (first | rw [← Ny596.out] at ho4 | (simp only [Int.reduceToNat] at ho4; rw [← Ny596.out] at ho4)); have HO598 := Aside0.mk (Kd.R_lower ho4 (below_size bl_)); replace HB := Aside0.mk (below_step bl_ hb); clear hb ho4) | ((with_reducible refine gate_callee (f := 86) rfl ?_); refine gs_ (some 9) Tryd.func86 #[.string (⟨#[]⟩ : ByteArray)] ?_; (with_reducible refine (impl_Digest.calls k (⟨#[]⟩ : ByteArray) t599 _ ?side1 A2.out).mono ?_); (case side1 => exact tab_of HT.out bl_); rintro e w5 ⟨rfl, hb⟩; refine ⟨_, rfl, ?_⟩; replace HO598 := Aside0.mk (Kd.R_below (ra_ HO598.out) hb); replace HB := Aside0.mk (below_step bl_ hb); (try clear hb)))
 go_loopg [4, 5, 12] k (fun kq v4 v5 v12 w' => ∃ (x4_1 : List (S70)) (x5_1 : ByteArray) (x12_1 : Int), v5 = .string x5_1 ∧ v12 = .int .i64 x12_1 ∧ Aside0 (impl_JoinSegments.l0 kq x4_1 x5_1 l0 (l0.length : Int) x12_1 = some (r1, r2)) ∧ Aside0 (kq ≤ k) ∧ Aside0 (Kd.R k70 70 w' w.heap.size (fun _ => True) v4 x4_1) ∧ Aside0 (Below w.heap.size w w'))
 case atStart => exact ⟨(y596), (t599), (0), (sr_), (sr_), H', ⟨Nat.le_refl _⟩, ⟨ra_ HO598.out⟩, ⟨bl_⟩⟩
 clear H'
 obtain ⟨x4_1, x5_1, x12_1, rfl, rfl, HA, HK1, HO_4, HB⟩ := hrel
 cases gk with
 | zero => exact absurd HA.out (by simp [impl_JoinSegments.l0])
 | succ k1 => ?_
 have H := HA.out
 clear HA
 simp only [impl_JoinSegments.l0] at H
 by_cases c6 : x12_1 < (l0.length : Int)
 rotate_left
 ·rw [if_neg c6] at H
  have c6b0 := decide_eq_false c6
  clear c6
  simp only [Option.some.injEq, Prod.mk.injEq] at H
  obtain ⟨rfl, rfl⟩ := H
  go_wp2
  go_ret2
  exact ⟨_, er_, ra_ HO_4.out, bl_⟩
 rw [if_pos c6] at H
 have c6b0 := decide_eq_true c6
 clear c6
 by_cases c7 : 0 ≤ x12_1
 rotate_left
 ·exact nn_ c7 H
 rw [if_pos c7] at H
 have c7b0 := decide_eq_true c7
 clear c7
 by_cases c8 : x12_1 < (l0.length : Int)
 rotate_left
 ·exact nn_ c8 H
 rw [if_pos c8] at H
 have c8b0 := decide_eq_true c8
 clear c8
 replace H := bs_ H
 obtain ⟨t602, A9, H⟩ := H
 try dsimp only at H
 by_cases c10 : t602 = true
 rotate_left
 ·replace c10 := Bool.eq_false_iff.mpr c10
  subst c10
  rw [nf_] at H
  obtain ⟨y612, hy612⟩ : ∃ y_ : List (S70), y_ = (([] : List (S70))) := ⟨_, rfl⟩
  replace H : (some (y612, false)) = some (r1, r2) := rp_ H hy612
  have Ny612 := Aside0.mk hy612
  clear hy612
  simp only [Option.some.injEq, Prod.mk.injEq] at H
  obtain ⟨rfl, rfl⟩ := H
  have p600 : 0 ≤ (x12_1 : Int) := of_decide_eq_true as_
  have q600 : x12_1 < (l0.length : Int) := of_decide_eq_true as_
  obtain ⟨ad600, A600_2, c600_2, e600, hx600_0, hx600_1, hx600_2, hx600_3, hl600_2, hi600_2⟩ := at_T30 HR0.out x12_1 p600 q600
  cases e600
  replace hx600_0 := (HB.out.cell (World.block_lt_of_cell? w _ hx600_0)).trans hx600_0
  replace hx600_1 := (HB.out.cell (World.block_lt_of_cell? w _ hx600_1)).trans hx600_1
  replace hx600_2 := (HB.out.cell (World.block_lt_of_cell? w _ hx600_2)).trans hx600_2
  replace hx600_3 := (HB.out.cell (World.block_lt_of_cell? w _ hx600_3)).trans hx600_3
  have HR600_2 := Aside0.mk hi600_2
  have HC600_2 := Aside0.mk hl600_2
  clear hi600_2 hl600_2
  replace p600 := eq_true p600
  replace q600 := eq_true q600
  go_wp2_with (first | ((with_reducible refine gate_dst (N := 7) rfl ?_); (try (refine gate_guard (by rfl) ?_; dsimp only)); refine bx_ 7 30 #[.int .i64 0, .string (⟨#[]⟩ : ByteArray), .slice none 0 0, .string (⟨#[]⟩ : ByteArray)] ?_; intro gb601 hg w35 hbox hb; replace HO_4 := Aside0.mk (Kd.R_below (ra_ HO_4.out) hb); have BK601 := Aside0.mk (hbox); have GW601 := Aside0.mk ((hz_ : w.heap.size ≤ gb601)); have GE601 := Aside0.mk ((hz_ : w.heap.size ≤ gb601)); replace HB := Aside0.mk (below_step bl_ hb); clear hb hbox hg; obtain ⟨hcz36_0, hcz36_1, hcz36_2, hcz36_3, hfz36_0, hfz36_1, hfz36_2, hfz36_3⟩ := cf4_ BK601.out) | ((with_reducible refine gate_callee (f := 20) rfl ?_); refine gs_ (some 17) Tryd.func20 #[.agg #[.int .i64 ((rd_T30 l0 x12_1).f0), .string ((rd_T30 l0 x12_1).f1), .slice A600_2 ((rd_T30 l0 x12_1).f2).length c600_2, .string ((rd_T30 l0 x12_1).f3)]] ?_; (with_reducible refine (impl_SegmentOk.calls k1 ((rd_T30 l0 x12_1).f0) ((rd_T30 l0 x12_1).f1) _ _ ((rd_T30 l0 x12_1).f2) ((rd_T30 l0 x12_1).f3) false _ ?side1 ?side2 ?side3 A9.out).mono ?_); (case side1 => exact Kd.C_below HR600_2.out bl_); (case side2 => exact HC600_2.out); (case side3 => exact tab_of HT.out bl_); rintro e w37 ⟨rfl, hb⟩; refine ⟨_, rfl, ?_⟩; replace HO_4 := Aside0.mk (Kd.R_below (rfa_ HO_4.out BK601.out) hb); replace BK601 := Aside0.mk (blk_below (g := gb601) (o := .cells #[.int .i64 ((rd_T30 l0 x12_1).f0), .string ((rd_T30 l0 x12_1).f1), .slice A600_2 ((rd_T30 l0 x12_1).f2).length c600_2, .string ((rd_T30 l0 x12_1).f3)] 30 (0, 0)) (bp0_ BK601.out) hb); replace HB := Aside0.mk (below_step bl_ hb); (try clear hb)) | ((with_reducible refine gate_dst (N := 32) rfl ?_); (try (refine gate_guard (by rfl) ?_; dsimp only)); refine Kd.R_lit k70 _ 70 ?hg (N := 32) ?hd (xs := ([] : List (S70))) (inner := []) (ok := fun _ => True) (okp := fun _ => True) ?hr ?hp (fun _ hk => hk) trivial (Below.refl _ _) (Nat.le_refl _) (by simp) ?_; (case hd => rfl); (case hg => rfl); (case hr => first | (go_simp; done) | (go_simp; rfl)); (case hp => exact (Reps.none _ _)); intro v613 w38 ho39 hb hg_ hnew_; clear hg_ hnew_; (first | rw [← Ny612.out] at ho39 | (simp only [Int.reduceToNat] at ho39; rw [← Ny612.out] at ho39)); have HO614 := Aside0.mk (Kd.R_lower (Kd.R_new' ho39 (Kd.R_lt (ra_ HO_4.out))) (below_size bl_)); replace HO_4 := Aside0.mk (Kd.R_elder' (ra_ HO_4.out) (Kd.R_base ho39) hb); replace BK601 := Aside0.mk (blk_below (bn0_ BK601.out) hb); replace HB := Aside0.mk (below_step bl_ hb); clear hb ho39))
  go_ret2
  exact ⟨_, er_, by (with_reducible repeat (first | apply Kd.R_alloc | apply Kd.R_drewN | apply Kd.R_drew)); exact Kd.R_mono HO614.out (fun _ hk => trivial), bl_⟩
 subst c10
 rw [if_pos rfl] at H
 by_cases c11 : ((rd_T30 l0 x12_1).f0) = (x4_1.length : Int)
 rotate_left
 ·rw [if_neg c11] at H
  have c11b0 : (((rd_T30 l0 x12_1).f0) == (x4_1.length : Int)) = false := beq_eq_false_iff_ne.mpr c11
  have c11b1 : (((rd_T30 l0 x12_1).f0) != (x4_1.length : Int)) = true := bne_iff_ne.mpr c11
  obtain ⟨y609, hy609⟩ : ∃ y_ : List (S70), y_ = (([] : List (S70))) := ⟨_, rfl⟩
  replace H : (some (y609, false)) = some (r1, r2) := rp_ H hy609
  have Ny609 := Aside0.mk hy609
  clear hy609
  simp only [Option.some.injEq, Prod.mk.injEq] at H
  obtain ⟨rfl, rfl⟩ := H
  have p600 : 0 ≤ (x12_1 : Int) := of_decide_eq_true as_
  have q600 : x12_1 < (l0.length : Int) := of_decide_eq_true as_
  obtain ⟨ad600, A600_2, c600_2, e600, hx600_0, hx600_1, hx600_2, hx600_3, hl600_2, hi600_2⟩ := at_T30 HR0.out x12_1 p600 q600
  cases e600
  replace hx600_0 := (HB.out.cell (World.block_lt_of_cell? w _ hx600_0)).trans hx600_0
  replace hx600_1 := (HB.out.cell (World.block_lt_of_cell? w _ hx600_1)).trans hx600_1
  replace hx600_2 := (HB.out.cell (World.block_lt_of_cell? w _ hx600_2)).trans hx600_2
  replace hx600_3 := (HB.out.cell (World.block_lt_of_cell? w _ hx600_3)).trans hx600_3
  have HR600_2 := Aside0.mk hi600_2
  have HC600_2 := Aside0.mk hl600_2
  clear hi600_2 hl600_2
  replace p600 := eq_true p600
  replace q600 := eq_true q600
  go_wp2_with (first | ((with_reducible refine gate_dst (N := 7) rfl ?_); (try (refine gate_guard (by rfl) ?_; dsimp only)); refine bx_ 7 30 #[.int .i64 0, .string (⟨#[]⟩ : ByteArray), .slice none 0 0, .string (⟨#[]⟩ : ByteArray)] ?_; intro gb601 hg w28 hbox hb; replace HO_4 := Aside0.mk (Kd.R_below (ra_ HO_4.out) hb); have BK601 := Aside0.mk (hbox); have GW601 := Aside0.mk ((hz_ : w.heap.size ≤ gb601)); have GE601 := Aside0.mk ((hz_ : w.heap.size ≤ gb601)); replace HB := Aside0.mk (below_step bl_ hb); clear hb hbox hg; obtain ⟨hcz29_0, hcz29_1, hcz29_2, hcz29_3, hfz29_0, hfz29_1, hfz29_2, hfz29_3⟩ := cf4_ BK601.out) | ((with_reducible refine gate_callee (f := 20) rfl ?_); refine gs_ (some 17) Tryd.func20 #[.agg #[.int .i64 ((rd_T30 l0 x12_1).f0), .string ((rd_T30 l0 x12_1).f1), .slice A600_2 ((rd_T30 l0 x12_1).f2).length c600_2, .string ((rd_T30 l0 x12_1).f3)]] ?_; (with_reducible refine (impl_SegmentOk.calls k1 ((rd_T30 l0 x12_1).f0) ((rd_T30 l0 x12_1).f1) _ _ ((rd_T30 l0 x12_1).f2) ((rd_T30 l0 x12_1).f3) true _ ?side1 ?side2 ?side3 A9.out).mono ?_); (case side1 => exact Kd.C_below HR600_2.out bl_); (case side2 => exact HC600_2.out); (case side3 => exact tab_of HT.out bl_); rintro e w30 ⟨rfl, hb⟩; refine ⟨_, rfl, ?_⟩; replace HO_4 := Aside0.mk (Kd.R_below (rfa_ HO_4.out BK601.out) hb); replace BK601 := Aside0.mk (blk_below (g := gb601) (o := .cells #[.int .i64 ((rd_T30 l0 x12_1).f0), .string ((rd_T30 l0 x12_1).f1), .slice A600_2 ((rd_T30 l0 x12_1).f2).length c600_2, .string ((rd_T30 l0 x12_1).f3)] 30 (0, 0)) (bp0_ BK601.out) hb); replace HB := Aside0.mk (below_step bl_ hb); (try clear hb); obtain ⟨hcz31_0, hcz31_1, hcz31_2, hcz31_3, hfz31_0, hfz31_1, hfz31_2, hfz31_3⟩ := cf4_ BK601.out; obtain ⟨Ao32, co32, eo32⟩ := Kd.R_slice HO_4.out; subst eo32) | ((with_reducible refine gate_dst (N := 32) rfl ?_); (try (refine gate_guard (by rfl) ?_; dsimp only)); refine Kd.R_lit k70 _ 70 ?hg (N := 32) ?hd (xs := ([] : List (S70))) (inner := []) (ok := fun _ => True) (okp := fun _ => True) ?hr ?hp (fun _ hk => hk) trivial (Below.refl _ _) (Nat.le_refl _) (by simp) ?_; (case hd => rfl); (case hg => rfl); (case hr => first | (go_simp; done) | (go_simp; rfl)); (case hp => exact (Reps.none _ _)); intro v610 w33 ho34 hb hg_ hnew_; clear hg_ hnew_; (first | rw [← Ny609.out] at ho34 | (simp only [Int.reduceToNat] at ho34; rw [← Ny609.out] at ho34)); have HO611 := Aside0.mk (Kd.R_lower (Kd.R_new' ho34 (Kd.R_lt (ra_ HO_4.out))) (below_size bl_)); replace HO_4 := Aside0.mk (Kd.R_elder' (ra_ HO_4.out) (Kd.R_base ho34) hb); replace BK601 := Aside0.mk (blk_below (bn0_ BK601.out) hb); replace HB := Aside0.mk (below_step bl_ hb); clear hb ho34))
  go_ret2
  exact ⟨_, er_, by (with_reducible repeat (first | apply Kd.R_alloc | apply Kd.R_drewN | apply Kd.R_drew)); exact Kd.R_mono HO611.out (fun _ hk => trivial), bl_⟩
 rw [if_pos c11] at H
 have c11b0 : (((rd_T30 l0 x12_1).f0) == (x4_1.length : Int)) = true := beq_iff_eq.mpr c11
 have c11b1 : (((rd_T30 l0 x12_1).f0) != (x4_1.length : Int)) = false := bne_eq_false_iff_eq.mpr c11
 clear c11
 by_cases c12 : ((rd_T30 l0 x12_1).f1).toList = x5_1.toList
 rotate_left
 ·rw [if_neg c12] at H
  have c12b0 : (((rd_T30 l0 x12_1).f1).toList == x5_1.toList) = false := beq_eq_false_iff_ne.mpr c12
  have c12b1 : (((rd_T30 l0 x12_1).f1).toList != x5_1.toList) = true := bne_iff_ne.mpr c12
  obtain ⟨y606, hy606⟩ : ∃ y_ : List (S70), y_ = (([] : List (S70))) := ⟨_, rfl⟩
  replace H : (some (y606, false)) = some (r1, r2) := rp_ H hy606
  have Ny606 := Aside0.mk hy606
  clear hy606
  simp only [Option.some.injEq, Prod.mk.injEq] at H
  obtain ⟨rfl, rfl⟩ := H
  have p600 : 0 ≤ (x12_1 : Int) := of_decide_eq_true as_
  have q600 : x12_1 < (l0.length : Int) := of_decide_eq_true as_
  obtain ⟨ad600, A600_2, c600_2, e600, hx600_0, hx600_1, hx600_2, hx600_3, hl600_2, hi600_2⟩ := at_T30 HR0.out x12_1 p600 q600
  cases e600
  replace hx600_0 := (HB.out.cell (World.block_lt_of_cell? w _ hx600_0)).trans hx600_0
  replace hx600_1 := (HB.out.cell (World.block_lt_of_cell? w _ hx600_1)).trans hx600_1
  replace hx600_2 := (HB.out.cell (World.block_lt_of_cell? w _ hx600_2)).trans hx600_2
  replace hx600_3 := (HB.out.cell (World.block_lt_of_cell? w _ hx600_3)).trans hx600_3
  have HR600_2 := Aside0.mk hi600_2
  have HC600_2 := Aside0.mk hl600_2
  clear hi600_2 hl600_2
  replace p600 := eq_true p600
  replace q600 := eq_true q600
  go_wp2_with (first | ((with_reducible refine gate_dst (N := 7) rfl ?_); (try (refine gate_guard (by rfl) ?_; dsimp only)); refine bx_ 7 30 #[.int .i64 0, .string (⟨#[]⟩ : ByteArray), .slice none 0 0, .string (⟨#[]⟩ : ByteArray)] ?_; intro gb601 hg w21 hbox hb; replace HO_4 := Aside0.mk (Kd.R_below (ra_ HO_4.out) hb); have BK601 := Aside0.mk (hbox); have GW601 := Aside0.mk ((hz_ : w.heap.size ≤ gb601)); have GE601 := Aside0.mk ((hz_ : w.heap.size ≤ gb601)); replace HB := Aside0.mk (below_step bl_ hb); clear hb hbox hg; obtain ⟨hcz22_0, hcz22_1, hcz22_2, hcz22_3, hfz22_0, hfz22_1, hfz22_2, hfz22_3⟩ := cf4_ BK601.out) | ((with_reducible refine gate_callee (f := 20) rfl ?_); refine gs_ (some 17) Tryd.func20 #[.agg #[.int .i64 ((rd_T30 l0 x12_1).f0), .string ((rd_T30 l0 x12_1).f1), .slice A600_2 ((rd_T30 l0 x12_1).f2).length c600_2, .string ((rd_T30 l0 x12_1).f3)]] ?_; (with_reducible refine (impl_SegmentOk.calls k1 ((rd_T30 l0 x12_1).f0) ((rd_T30 l0 x12_1).f1) _ _ ((rd_T30 l0 x12_1).f2) ((rd_T30 l0 x12_1).f3) true _ ?side1 ?side2 ?side3 A9.out).mono ?_); (case side1 => exact Kd.C_below HR600_2.out bl_); (case side2 => exact HC600_2.out); (case side3 => exact tab_of HT.out bl_); rintro e w23 ⟨rfl, hb⟩; refine ⟨_, rfl, ?_⟩; replace HO_4 := Aside0.mk (Kd.R_below (rfa_ HO_4.out BK601.out) hb); replace BK601 := Aside0.mk (blk_below (g := gb601) (o := .cells #[.int .i64 ((rd_T30 l0 x12_1).f0), .string ((rd_T30 l0 x12_1).f1), .slice A600_2 ((rd_T30 l0 x12_1).f2).length c600_2, .string ((rd_T30 l0 x12_1).f3)] 30 (0, 0)) (bp0_ BK601.out) hb); replace HB := Aside0.mk (below_step bl_ hb); (try clear hb); obtain ⟨hcz24_0, hcz24_1, hcz24_2, hcz24_3, hfz24_0, hfz24_1, hfz24_2, hfz24_3⟩ := cf4_ BK601.out; obtain ⟨Ao25, co25, eo25⟩ := Kd.R_slice HO_4.out; subst eo25) | ((with_reducible refine gate_dst (N := 32) rfl ?_); (try (refine gate_guard (by rfl) ?_; dsimp only)); refine Kd.R_lit k70 _ 70 ?hg (N := 32) ?hd (xs := ([] : List (S70))) (inner := []) (ok := fun _ => True) (okp := fun _ => True) ?hr ?hp (fun _ hk => hk) trivial (Below.refl _ _) (Nat.le_refl _) (by simp) ?_; (case hd => rfl); (case hg => rfl); (case hr => first | (go_simp; done) | (go_simp; rfl)); (case hp => exact (Reps.none _ _)); intro v607 w26 ho27 hb hg_ hnew_; clear hg_ hnew_; (first | rw [← Ny606.out] at ho27 | (simp only [Int.reduceToNat] at ho27; rw [← Ny606.out] at ho27)); have HO608 := Aside0.mk (Kd.R_lower (Kd.R_new' ho27 (Kd.R_lt (ra_ HO_4.out))) (below_size bl_)); replace HO_4 := Aside0.mk (Kd.R_elder' (ra_ HO_4.out) (Kd.R_base ho27) hb); replace BK601 := Aside0.mk (blk_below (bn0_ BK601.out) hb); replace HB := Aside0.mk (below_step bl_ hb); clear hb ho27))
  go_ret2
  exact ⟨_, er_, by (with_reducible repeat (first | apply Kd.R_alloc | apply Kd.R_drewN | apply Kd.R_drew)); exact Kd.R_mono HO608.out (fun _ hk => trivial), bl_⟩
 rw [if_pos c12] at H
 have c12b0 : (((rd_T30 l0 x12_1).f1).toList == x5_1.toList) = true := beq_iff_eq.mpr c12
 have c12b1 : (((rd_T30 l0 x12_1).f1).toList != x5_1.toList) = false := bne_eq_false_iff_eq.mpr c12
 clear c12
 by_cases c13 : x4_1.length + ((rd_T30 l0 x12_1).f2).length < 2932031007402
 rotate_left
 ·exact nn_ c13 H
 rw [if_pos c13] at H
 have LMc13 := Aside0.mk c13
 clear c13
 obtain ⟨y603, hy603⟩ : ∃ y_ : List (S70), y_ = (x4_1 ++ ((rd_T30 l0 x12_1).f2)) := ⟨_, rfl⟩
 replace H : (impl_JoinSegments.l0 k1 y603 ((rd_T30 l0 x12_1).f3) l0 (l0.length : Int) (wrap64 (x12_1 + 1))) = some (r1, r2) := rp_ H hy603
 have Ny603 := Aside0.mk hy603
 clear hy603
 have H' := Aside0.mk H
 clear H
 have p600 : 0 ≤ (x12_1 : Int) := of_decide_eq_true as_
 have q600 : x12_1 < (l0.length : Int) := of_decide_eq_true as_
 obtain ⟨ad600, A600_2, c600_2, e600, hx600_0, hx600_1, hx600_2, hx600_3, hl600_2, hi600_2⟩ := at_T30 HR0.out x12_1 p600 q600
 cases e600
 replace hx600_0 := (HB.out.cell (World.block_lt_of_cell? w _ hx600_0)).trans hx600_0
 replace hx600_1 := (HB.out.cell (World.block_lt_of_cell? w _ hx600_1)).trans hx600_1
 replace hx600_2 := (HB.out.cell (World.block_lt_of_cell? w _ hx600_2)).trans hx600_2
 replace hx600_3 := (HB.out.cell (World.block_lt_of_cell? w _ hx600_3)).trans hx600_3
 have HR600_2 := Aside0.mk hi600_2
 have HC600_2 := Aside0.mk hl600_2
 clear hi600_2 hl600_2
 replace p600 := eq_true p600
 replace q600 := eq_true q600
 go_wp2_with (first | ((with_reducible refine gate_dst (N := 7) rfl ?_); (try (refine gate_guard (by rfl) ?_; dsimp only)); refine bx_ 7 30 #[.int .i64 0, .string (⟨#[]⟩ : ByteArray), .slice none 0 0, .string (⟨#[]⟩ : ByteArray)] ?_; intro gb601 hg w14 hbox hb; replace HO_4 := Aside0.mk (Kd.R_below (ra_ HO_4.out) hb); have BK601 := Aside0.mk (hbox); have GW601 := Aside0.mk ((hz_ : w.heap.size ≤ gb601)); have GE601 := Aside0.mk ((hz_ : w.heap.size ≤ gb601)); replace HB := Aside0.mk (below_step bl_ hb); clear hb hbox hg; obtain ⟨hcz15_0, hcz15_1, hcz15_2, hcz15_3, hfz15_0, hfz15_1, hfz15_2, hfz15_3⟩ := cf4_ BK601.out) | ((with_reducible refine gate_callee (f := 20) rfl ?_); refine gs_ (some 17) Tryd.func20 #[.agg #[.int .i64 ((rd_T30 l0 x12_1).f0), .string ((rd_T30 l0 x12_1).f1), .slice A600_2 ((rd_T30 l0 x12_1).f2).length c600_2, .string ((rd_T30 l0 x12_1).f3)]] ?_; (with_reducible refine (impl_SegmentOk.calls k1 ((rd_T30 l0 x12_1).f0) ((rd_T30 l0 x12_1).f1) _ _ ((rd_T30 l0 x12_1).f2) ((rd_T30 l0 x12_1).f3) true _ ?side1 ?side2 ?side3 A9.out).mono ?_); (case side1 => exact Kd.C_below HR600_2.out bl_); (case side2 => exact HC600_2.out); (case side3 => exact tab_of HT.out bl_); rintro e w16 ⟨rfl, hb⟩; refine ⟨_, rfl, ?_⟩; replace HO_4 := Aside0.mk (Kd.R_below (rfa_ HO_4.out BK601.out) hb); replace BK601 := Aside0.mk (blk_below (g := gb601) (o := .cells #[.int .i64 ((rd_T30 l0 x12_1).f0), .string ((rd_T30 l0 x12_1).f1), .slice A600_2 ((rd_T30 l0 x12_1).f2).length c600_2, .string ((rd_T30 l0 x12_1).f3)] 30 (0, 0)) (bp0_ BK601.out) hb); replace HB := Aside0.mk (below_step bl_ hb); (try clear hb); obtain ⟨hcz17_0, hcz17_1, hcz17_2, hcz17_3, hfz17_0, hfz17_1, hfz17_2, hfz17_3⟩ := cf4_ BK601.out; obtain ⟨Ao18, co18, eo18⟩ := Kd.R_slice HO_4.out; subst eo18) | ((with_reducible refine gate_builtin (b := .append) (xs := #[.tmp 33, .tmp 35]) rfl ?_); (try (refine gate_guard (by rfl) ?_; dsimp only)); at_builtin; refine Kd.R_append_rows k70 (w0 := w) w.heap.size rfl (.tmp 33) (.tmp 35) 28 70 (.agg #[(.int .i64 0), (.int .i64 0), (.int .i64 0), (.int .i64 0), (.int .i64 0), (.int .i64 0)]) 48 rfl Tryd.underlying28 info70 rfl (by decide) (by omega) (.slice Ao18 x4_1.length co18) x4_1 ((rd_T30 l0 x12_1).f2) _ _ _ (fun _ => True) (fun _ => False) rfl rfl ?aO ?aR (fun _ _ h => h) (fun _ h => h.elim) ?aF ?aB ?aS ?aL ?_; (case aR => repeat (first | exact (Kd.C_below HR600_2.out HB.out) | exact HR600_2.out | (with_reducible refine Kd.C_alloc ?_ _) | (with_reducible refine Kd.C_drewN ?_ _) | (with_reducible refine Kd.C_drew ?_))); (case aB => exact bl_); (case aF => exact (fun _ _ => trivial)); (case aO => exact (ra_ HO_4.out)); (case aS => exact (below_size bl_)); (case aL => have := LMc13.out; omega); intro v604 w19 ho hb hg hat; rw [← Ny603.out] at ho; replace BK601 := Aside0.mk (blk_grown (g := gb601) (o := .cells #[.int .i64 ((rd_T30 l0 x12_1).f0), .string ((rd_T30 l0 x12_1).f1), .slice A600_2 ((rd_T30 l0 x12_1).f2).length c600_2, .string ((rd_T30 l0 x12_1).f3)] 30 (0, 0)) (bk_ BK601.out) hg (Kd.R_ne HO_4.out BK601.out (by decide))); replace HB := Aside0.mk (hb); have HO605 := Aside0.mk (ho); clear HO_4; clear ho hb hg hat; obtain ⟨hcz20_0, hcz20_1, hcz20_2, hcz20_3, hfz20_0, hfz20_1, hfz20_2, hfz20_3⟩ := cf4_ BK601.out))
 go_roundg k1
 case measure => have := HK1.out; omega
 case rel => exact ⟨(y603), ((rd_T30 l0 x12_1).f3), (wrap64 (x12_1 + 1)), (sr_), (sr_), H', ⟨by have := HK1.out; omega⟩, ⟨ra_ HO605.out⟩, ⟨bl_⟩⟩


def laws_big.f (l0 : List Int) : Option (Bool) := some (decide ((l0.length : Int) > 1048576))
theorem laws_big.calls (A0 : Option Addr) (c0 : Nat) (l0 : List Int) (r : Bool) (w : World) (hr0 : Kd.C (Kd.int .u8) w A0 l0.length l0) (hc0 : l0.length ≤ c0) (h : laws_big.f l0 = some r) :
 Calls Tryd.prog 47 #[.slice A0 l0.length c0] w fun e w' => e = .returned (.bool r) ∧ Drawn0 w w' := by
 have HR0 := Aside0.mk hr0
 have HC0 := Aside0.mk hc0
 clear hr0 hc0
 have H := h
 unfold laws_big.f at H
 clear h
 obtain rfl := Option.some.inj H
 go_enter Tryd.func47, Tryd.ntmps47
 go_wp2
 go_ret
 exact ⟨sr_, by repeat (first | exact Drawn0.refl _ | apply Drawn0.step)⟩


def IsS130 (w0 W : World) (g : Nat) (f0 : List Int) (f1 : Int) (f2 : Int) : Prop := ∃ A0 c0, W.heap[g]? = some (.cells #[.slice A0 f0.length c0, .int .i64 f1, .int .i64 f2] 130 (0, 0)) ∧ w0.heap.size ≤ g ∧ Kd.C (Kd.int .u8) w0 A0 f0.length f0
theorem IsS130.grown {w0 W : World} {g : Nat} {f0 : List Int} {f1 : Int} {f2 : Int} {W1 : World} {row : Option Nat} (h : IsS130 w0 W g f0 f1 f2) (hw : W.grownBy W1 row) (hne : some g ≠ row) : IsS130 w0 W1 g f0 f1 f2 := by
 obtain ⟨A0, c0, hb, hg, hr0⟩ := h
 exact ⟨A0, c0, blk_grown hb hw hne, hg, hr0⟩
theorem IsS130.own_neN {w0 W : World} {g : Nat} {f0 : List Int} {f1 : Int} {f2 : Int} {α : Type} {d : Kd α} {e : Nat} {base : Nat} {ok : Nat → Prop} {v : Value} {xs : List α} (h : IsS130 w0 W g f0 f1 f2) (ho : Kd.N d e W base ok v xs) (ht : e ≠ 130) : some g ≠ v.ownBlock := by
 obtain ⟨A0, c0, hb, hg, hr0⟩ := h
 exact Kd.N_ne ho hb ht
theorem IsS130.fresh {w0 W : World} {g : Nat} {f0 : List Int} {f1 : Int} {f2 : Int} (h : IsS130 w0 W g f0 f1 f2) : ∀ k, W.heap.size ≤ k → k ≠ g := by
 obtain ⟨A0, c0, hb, hg, hr0⟩ := h
 exact Kd.freshB hb
theorem IsS130.kept {w0 W : World} {g : Nat} {f0 : List Int} {f1 : Int} {f2 : Int} {W1 : World} {S : Nat → Prop} (h : IsS130 w0 W g f0 f1 f2) (hk : Kept W W1 S) (hne : ¬ S g) : IsS130 w0 W1 g f0 f1 f2 := by
 obtain ⟨A0, c0, hb, hg, hr0⟩ := h
 exact ⟨A0, c0, blk_kept hb hk hne, hg, hr0⟩
theorem IsS130.below {w0 W : World} {g : Nat} {f0 : List Int} {f1 : Int} {f2 : Int} {W1 : World} (h : IsS130 w0 W g f0 f1 f2) (hw : Below W.heap.size W W1) : IsS130 w0 W1 g f0 f1 f2 := h.grown (grown_of_below hw none) (by simp)
theorem IsS130.alloc {w0 W : World} {g : Nat} {f0 : List Int} {f1 : Int} {f2 : Int} (h : IsS130 w0 W g f0 f1 f2) (o : Obj) : IsS130 w0 (W.alloc o) g f0 f1 f2 := h.below (below_alloc (Below.refl _ _) o)
theorem IsS130.drewN {w0 W : World} {g : Nat} {f0 : List Int} {f1 : Int} {f2 : Int} (h : IsS130 w0 W g f0 f1 f2) (m : Nat) : IsS130 w0 (W.drewN m) g f0 f1 f2 := h
theorem IsS130.drew {w0 W : World} {g : Nat} {f0 : List Int} {f1 : Int} {f2 : Int} (h : IsS130 w0 W g f0 f1 f2) : IsS130 w0 W.drew g f0 f1 f2 := h
theorem IsS130.at_ {w0 W : World} {g : Nat} {f0 : List Int} {f1 : Int} {f2 : Int} {w' : World} {m : Nat} (hq : W.drewN m = w') (h : IsS130 w0 W g f0 f1 f2) : IsS130 w0 w' g f0 f1 f2 := by subst hq; exact IsS130.drewN h m
theorem IsS130.apart {w0 W : World} {g : Nat} {f0 : List Int} {f1 : Int} {f2 : Int} {α : Type} {d : Kd α} {e : Nat} {base : Nat} {ok : Nat → Prop} {v : Value} {xs : List α} (h : IsS130 w0 W g f0 f1 f2) (ho : d.R e W base ok v xs) (ht : ∀ q, q ∈ e :: d.E → q ≠ 130) : d.R e W base (fun k => ok k ∧ k ≠ g) v xs := by
 obtain ⟨A0, c0, hb, hg, hr0⟩ := h
 exact Kd.R_types ho hb ht
theorem IsS130.own_ne {w0 W : World} {g : Nat} {f0 : List Int} {f1 : Int} {f2 : Int} {α : Type} {d : Kd α} {e : Nat} {base : Nat} {ok : Nat → Prop} {v : Value} {xs : List α} (h : IsS130 w0 W g f0 f1 f2) (ho : d.R e W base ok v xs) (ht : e ≠ 130) : some g ≠ v.ownBlock := by
 obtain ⟨A0, c0, hb, hg, hr0⟩ := h
 exact Kd.R_ne ho hb ht
theorem IsS130.apartQ {w0 W : World} {g : Nat} {f0 : List Int} {f1 : Int} {f2 : Int} {α : Type} {d : Kd α} {e : Nat} {base : Nat} {ok : Nat → Prop} {v : Value} {xs : List α} (h : IsS130 w0 W g f0 f1 f2) (ho : d.Q e W base ok v xs) (ht : ∀ q, q ∈ e :: d.E → q ≠ 130) : d.Q e W base (fun k => ok k ∧ k ≠ g) v xs := by
 obtain ⟨A0, c0, hb, hg, hr0⟩ := h
 exact Kd.Q_types ho hb ht
theorem IsS130.own_neQ {w0 W : World} {g : Nat} {f0 : List Int} {f1 : Int} {f2 : Int} {α : Type} {d : Kd α} {e : Nat} {base : Nat} {ok : Nat → Prop} {v : Value} {xs : List α} (h : IsS130 w0 W g f0 f1 f2) (ho : d.Q e W base ok v xs) (ht : e ≠ 130) : some g ≠ v.ownBlock := by
 obtain ⟨A0, c0, hb, hg, hr0⟩ := h
 exact Kd.Q_ne ho hb ht
theorem IsS130.apartS {w0 W : World} {g : Nat} {f0 : List Int} {f1 : Int} {f2 : Int} {α : Type} {d : Kd α} {e : Nat} {base : Nat} {ok : Nat → Prop} {v : Value} {xs : List α} (h : IsS130 w0 W g f0 f1 f2) (ho : d.S e W base ok v xs) (ht : ∀ q, q ∈ e :: d.E → q ≠ 130) : d.S e W base (fun k => ok k ∧ k ≠ g) v xs := by
 obtain ⟨A0, c0, hb, hg, hr0⟩ := h
 exact Kd.S_types ho hb ht
theorem IsS130.own_neS {w0 W : World} {g : Nat} {f0 : List Int} {f1 : Int} {f2 : Int} {α : Type} {d : Kd α} {e : Nat} {base : Nat} {ok : Nat → Prop} {v : Value} {xs : List α} (h : IsS130 w0 W g f0 f1 f2) (ho : d.S e W base ok v xs) (ht : e ≠ 130) : some g ≠ v.ownBlock := by
 obtain ⟨A0, c0, hb, hg, hr0⟩ := h
 exact Kd.S_ne ho hb ht
theorem IsS130.lt {w0 W : World} {g : Nat} {f0 : List Int} {f1 : Int} {f2 : Int} (h : IsS130 w0 W g f0 f1 f2) : g < W.heap.size := by
 obtain ⟨A0, c0, hb, hg, hr0⟩ := h
 exact blk_lt hb
theorem IsS130.ge {w0 W : World} {g : Nat} {f0 : List Int} {f1 : Int} {f2 : Int} (h : IsS130 w0 W g f0 f1 f2) : w0.heap.size ≤ g := by
 obtain ⟨A0, c0, hb, hg, hr0⟩ := h
 exact hg
theorem IsS130.ne_blk {w0 W : World} {g : Nat} {f0 : List Int} {f1 : Int} {f2 : Int} {a : Nat} {cs : Array Value} {t : TypeId} {fr : Nat × Nat} (h : IsS130 w0 W g f0 f1 f2) (hb2 : W.heap[a]? = some (.cells cs t fr)) (ht : t ≠ 130) : g ≠ a := by
 obtain ⟨A0, c0, hb, hg, hr0⟩ := h
 rintro rfl
 rw [hb] at hb2
 injection hb2 with hb2
 injection hb2 with _ ht2
 exact ht ht2.symm
theorem IsS130.far {w0 W : World} {g : Nat} {f0 : List Int} {f1 : Int} {f2 : Int} {p : Addr} (h : IsS130 w0 W g f0 f1 f2) (hne : g ≠ p.block) (u : Value) : IsS130 w0 (W.setCell p u) g f0 f1 f2 := by
 obtain ⟨A0, c0, hb, hg, hr0⟩ := h
 exact ⟨A0, c0, blk_far hb hne u, hg, hr0⟩
theorem cellS130_0 {W : World} {g : Nat} {A0 : Option Addr} {c0 : Nat} {f0 : List Int} {f1 : Int} {f2 : Int} (h : W.heap[g]? = some (.cells #[.slice A0 f0.length c0, .int .i64 f1, .int .i64 f2] 130 (0, 0))) : W.cell? ⟨g, 0, none⟩ = some (.slice A0 f0.length c0) := (blk_cell h 0).trans rfl
theorem cellS130_1 {W : World} {g : Nat} {A0 : Option Addr} {c0 : Nat} {f0 : List Int} {f1 : Int} {f2 : Int} (h : W.heap[g]? = some (.cells #[.slice A0 f0.length c0, .int .i64 f1, .int .i64 f2] 130 (0, 0))) : W.cell? ⟨g, 1, none⟩ = some (.int .i64 f1) := (blk_cell h 1).trans rfl
theorem IsS130.set_1 {w0 W : World} {g : Nat} {f0 : List Int} {f1 : Int} {f2 : Int} (h : IsS130 w0 W g f0 f1 f2) (x : Int) : IsS130 w0 (W.setCell ⟨g, 1, none⟩ (.int .i64 x)) g f0 x f2 := by
 obtain ⟨A0, c0, hb, hg, hr0⟩ := h
 exact ⟨A0, c0, by simpa using blk_set hb 1 (.int .i64 x), hg, hr0⟩
theorem cellS130_2 {W : World} {g : Nat} {A0 : Option Addr} {c0 : Nat} {f0 : List Int} {f1 : Int} {f2 : Int} (h : W.heap[g]? = some (.cells #[.slice A0 f0.length c0, .int .i64 f1, .int .i64 f2] 130 (0, 0))) : W.cell? ⟨g, 2, none⟩ = some (.int .i64 f2) := (blk_cell h 2).trans rfl
theorem IsS130.set_2 {w0 W : World} {g : Nat} {f0 : List Int} {f1 : Int} {f2 : Int} (h : IsS130 w0 W g f0 f1 f2) (x : Int) : IsS130 w0 (W.setCell ⟨g, 2, none⟩ (.int .i64 x)) g f0 f1 x := by
 obtain ⟨A0, c0, hb, hg, hr0⟩ := h
 exact ⟨A0, c0, by simpa using blk_set hb 2 (.int .i64 x), hg, hr0⟩
theorem IsS130.new (w0 W : World) (A0 : Option Addr) (c0 : Nat) (f0 : List Int) (f1 : Int) (f2 : Int) (hB : Below w0.heap.size w0 W) (hr0 : Kd.C (Kd.int .u8) w0 A0 f0.length f0) : IsS130 w0 (W.alloc (.cells #[.slice A0 f0.length c0, .int .i64 f1, .int .i64 f2] 130)) W.heap.size f0 f1 f2 := ⟨A0, c0, by simpa using heap_alloc_new W _, hB.size, hr0⟩

def spec_l01Byte.f (s0_0 : List Int) (s0_1 : Int) (s0_2 : Int) : Option (Int × Int × Int) := if s0_1 < (s0_0.length : Int) then (if 0 ≤ s0_1 then (some (Go.bits .and .i64 (wrap64 ((Go.bits .and .i64 (Go.bits .xor .i64 ((wrap64 ((wrap64 (s0_2 * 6364136223846793005)) + 1442695040888963407)) / 8589934592) ((wrap64 ((wrap64 (s0_2 * 6364136223846793005)) + 1442695040888963407)) / 35184372088832)) 255) + (wrap64 (rd s0_0 s0_1)))) 255, wrap64 (s0_1 + 1), wrap64 ((wrap64 (s0_2 * 6364136223846793005)) + 1442695040888963407))) else (none)) else (some (Go.bits .and .i64 (Go.bits .xor .i64 ((wrap64 ((wrap64 (s0_2 * 6364136223846793005)) + 1442695040888963407)) / 8589934592) ((wrap64 ((wrap64 (s0_2 * 6364136223846793005)) + 1442695040888963407)) / 35184372088832)) 255, s0_1, wrap64 ((wrap64 (s0_2 * 6364136223846793005)) + 1442695040888963407)))
theorem spec_l01Byte.calls (g : Nat) (s0_0 : List Int) (s0_1 : Int) (s0_2 : Int) (r1 : Int) (r2 : Int) (r3 : Int) (w0 w : World) (hI : IsS130 w0 w g s0_0 s0_1 s0_2) (hB : Below w0.heap.size w0 w) (h : spec_l01Byte.f s0_0 s0_1 s0_2 = some (r1, r2, r3)) :
 Calls Tryd.prog 104 #[.pointer (some ⟨g, 0, none⟩)] w fun e w' => e = .returned (.int .i64 r1) ∧ IsS130 w0 w' g s0_0 r2 r3 ∧ Below w0.heap.size w0 w' ∧ KeepBut w w' g none := by
 have HI0 := Aside0.mk hI
 have HK := Aside0.mk (KeepBut.refl w g none)
 have HL := Aside0.mk hB.size
 clear hI
 have HW0 := Aside0.mk hB.size
 have HB := Aside0.mk hB
 clear hB
 have H := h
 unfold spec_l01Byte.f at H
 clear h
 by_cases c2 : s0_1 < (s0_0.length : Int)
 rotate_left
 ·rw [if_neg c2] at H
  have c2b0 := decide_eq_false c2
  clear c2
  simp only [Option.some.injEq, Prod.mk.injEq] at H
  obtain ⟨rfl, rfl, rfl⟩ := H
  obtain ⟨ASz5_0, cSz5_0, HGz5, hgz5, HSz5_0⟩ := HI0.out
  have hcz5_0 := cellS130_0 HGz5
  have hcz5_1 := cellS130_1 HGz5
  have hcz5_2 := cellS130_2 HGz5
  have hfz5_1 := blk_frozen HGz5 1
  have hfz5_2 := blk_frozen HGz5 2
  clear HGz5 hgz5
  go_enter Tryd.func104, Tryd.ntmps104
  go_wp2
  repeat (go_quiet (fail); try go_wp2)
  go_ret
  exact ⟨er_, is0_, bi0_, hk_⟩
 rw [if_pos c2] at H
 have c2b0 := decide_eq_true c2
 clear c2
 by_cases c3 : 0 ≤ s0_1
 rotate_left
 ·exact nn_ c3 H
 rw [if_pos c3] at H
 have c3b0 := decide_eq_true c3
 clear c3
 simp only [Option.some.injEq, Prod.mk.injEq] at H
 obtain ⟨rfl, rfl, rfl⟩ := H
 obtain ⟨ASz4_0, cSz4_0, HGz4, hgz4, HSz4_0⟩ := HI0.out
 have hcz4_0 := cellS130_0 HGz4
 have hcz4_1 := cellS130_1 HGz4
 have hcz4_2 := cellS130_2 HGz4
 have hfz4_1 := blk_frozen HGz4 1
 have hfz4_2 := blk_frozen HGz4 2
 clear HGz4 hgz4
 have p635 : 0 ≤ (s0_1 : Int) := of_decide_eq_true as_
 have q635 : s0_1 < (s0_0.length : Int) := of_decide_eq_true as_
 obtain ⟨ad635, e635, hx635_0⟩ := Kd.at_int HSz4_0 s0_1 p635 q635
 cases e635
 have hn635_0 : ad635.block ≠ g := Nat.ne_of_lt (Nat.lt_of_lt_of_le (by have := World.block_lt_of_cell? _ _ hx635_0; first | rwa [add_block] at this | exact this) (IsS130.ge HI0.out))
 replace hx635_0 := pw_cell_below HB.out hx635_0
 replace hx635_0 := (cell_far (p := ⟨g, 2, none⟩) (by first | (rw [add_block]; exact hn635_0) | (show (Addr.add _ _).block ≠ _; rw [add_block]; exact hn635_0) | exact hn635_0) (.int .i64 (wrap64 ((wrap64 (s0_2 * 6364136223846793005)) + 1442695040888963407)))).trans hx635_0
 (try have hy635_0 := fun (n_ : Nat) => (show (((w.drewN n_).setCell ⟨g, 2, none⟩ (.int .i64 (wrap64 ((wrap64 (s0_2 * 6364136223846793005)) + 1442695040888963407))))).cell? _ = some _ from hx635_0))
 clear hn635_0
 replace p635 := eq_true p635
 replace q635 := eq_true q635
 go_enter Tryd.func104, Tryd.ntmps104
 go_wp2
 repeat (go_quiet (fail); try go_wp2)
 go_ret
 exact ⟨er_, is0_, bi0_, hk_⟩


def spec_l01Below.f (s0_0 : List Int) (s0_1 : Int) (s0_2 : Int) (a1 : Int) : Option (Int × Int × Int) := if a1 ≤ 0 then (some (0, s0_1, s0_2)) else (if a1 ≤ 256 then ((spec_l01Byte.f s0_0 s0_1 s0_2).bind fun bt636 => (if a1 = 0 then (none) else (some (Int.tmod bt636.1 a1, bt636.2.1, bt636.2.2)))) else ((spec_l01Byte.f s0_0 s0_1 s0_2).bind fun bt639 => ((spec_l01Byte.f s0_0 bt639.2.1 bt639.2.2).bind fun bt642 => ((spec_l01Byte.f s0_0 bt642.2.1 bt642.2.2).bind fun bt645 => ((spec_l01Byte.f s0_0 bt645.2.1 bt645.2.2).bind fun bt648 => (if a1 = 0 then (none) else (some (Int.tmod (wrap64 ((wrap64 ((wrap64 ((wrap64 (bt639.1 * 16777216)) + (wrap64 (bt642.1 * 65536)))) + (wrap64 (bt645.1 * 256)))) + bt648.1)) a1, bt648.2.1, bt648.2.2))))))))
theorem spec_l01Below.calls (g : Nat) (s0_0 : List Int) (s0_1 : Int) (s0_2 : Int) (a1 : Int) (r1 : Int) (r2 : Int) (r3 : Int) (w0 w : World) (hI : IsS130 w0 w g s0_0 s0_1 s0_2) (hB : Below w0.heap.size w0 w) (h : spec_l01Below.f s0_0 s0_1 s0_2 a1 = some (r1, r2, r3)) :
 Calls Tryd.prog 105 #[.pointer (some ⟨g, 0, none⟩), .int .i64 a1] w fun e w' => e = .returned (.int .i64 r1) ∧ IsS130 w0 w' g s0_0 r2 r3 ∧ Below w0.heap.size w0 w' ∧ KeepBut w w' g none := by
 have HI0 := Aside0.mk hI
 have HK := Aside0.mk (KeepBut.refl w g none)
 have HL := Aside0.mk hB.size
 clear hI
 have HW0 := Aside0.mk hB.size
 have HB := Aside0.mk hB
 clear hB
 have H := h
 unfold spec_l01Below.f at H
 clear h
 by_cases c3 : a1 ≤ 0
 ·rw [if_pos c3] at H
  have c3b0 := decide_eq_true c3
  clear c3
  simp only [Option.some.injEq, Prod.mk.injEq] at H
  obtain ⟨rfl, rfl, rfl⟩ := H
  go_enter Tryd.func105, Tryd.ntmps105
  go_wp2
  go_ret
  exact ⟨er_, is0_, bi0_, hk_⟩
 rw [if_neg c3] at H
 have c3b0 := decide_eq_false c3
 clear c3
 by_cases c4 : a1 ≤ 256
 ·rw [if_pos c4] at H
  have c4b0 := decide_eq_true c4
  clear c4
  replace H := bs_ H
  obtain ⟨⟨t636, t637, t638⟩, A5, H⟩ := H
  try dsimp only at H
  by_cases c6 : a1 = 0
  ·exact np_ c6 H
  rw [if_neg c6] at H
  have c6b0 : (a1 == 0) = false := beq_eq_false_iff_ne.mpr c6
  have c6b1 : (a1 != 0) = true := bne_iff_ne.mpr c6
  simp only [Option.some.injEq, Prod.mk.injEq] at H
  obtain ⟨rfl, rfl, rfl⟩ := H
  go_enter Tryd.func105, Tryd.ntmps105
  go_wp2_with (first | ((with_reducible refine gate_callee (f := 104) rfl ?_); refine gs_ (some 14) Tryd.func104 #[.pointer (some ⟨g, 0, none⟩)] ?_; (with_reducible refine (spec_l01Byte.calls g s0_0 s0_1 s0_2 t636 t637 t638 w0 _ ?side1 ?side2 A5.out).mono ?_); (case side1 => exact is0_); (case side2 => exact bi0_); rintro e w7 ⟨rfl, hi, hb, hk⟩; refine ⟨_, rfl, ?_⟩; replace HK := Aside0.mk (KeepBut.trans hk_ hk (.inl rfl)); replace HB := Aside0.mk (hb); replace HI0 := Aside0.mk (hi); (try clear hb); (try clear hk); (try clear hi)))
  go_ret
  exact ⟨er_, is0_, bi0_, hk_⟩
 rw [if_neg c4] at H
 have c4b0 := decide_eq_false c4
 clear c4
 replace H := bs_ H
 obtain ⟨⟨t639, t640, t641⟩, A8, H⟩ := H
 try dsimp only at H
 replace H := bs_ H
 obtain ⟨⟨t642, t643, t644⟩, A9, H⟩ := H
 try dsimp only at H
 replace H := bs_ H
 obtain ⟨⟨t645, t646, t647⟩, A10, H⟩ := H
 try dsimp only at H
 replace H := bs_ H
 obtain ⟨⟨t648, t649, t650⟩, A11, H⟩ := H
 try dsimp only at H
 by_cases c12 : a1 = 0
 ·exact np_ c12 H
 rw [if_neg c12] at H
 have c12b0 : (a1 == 0) = false := beq_eq_false_iff_ne.mpr c12
 have c12b1 : (a1 != 0) = true := bne_iff_ne.mpr c12
 simp only [Option.some.injEq, Prod.mk.injEq] at H
 obtain ⟨rfl, rfl, rfl⟩ := H
 go_enter Tryd.func105, Tryd.ntmps105
 go_wp2_with (first | ((with_reducible refine gate_callee (f := 104) rfl ?_); refine gs_ (some 18) Tryd.func104 #[.pointer (some ⟨g, 0, none⟩)] ?_; (with_reducible refine (spec_l01Byte.calls g s0_0 s0_1 s0_2 t639 t640 t641 w0 _ ?side1 ?side2 A8.out).mono ?_); (case side1 => exact is0_); (case side2 => exact bi0_); rintro e w13 ⟨rfl, hi, hb, hk⟩; refine ⟨_, rfl, ?_⟩; replace HK := Aside0.mk (KeepBut.trans hk_ hk (.inl rfl)); replace HB := Aside0.mk (hb); replace HI0 := Aside0.mk (hi); (try clear hb); (try clear hk); (try clear hi)) | ((with_reducible refine gate_callee (f := 104) rfl ?_); refine gs_ (some 20) Tryd.func104 #[.pointer (some ⟨g, 0, none⟩)] ?_; (with_reducible refine (spec_l01Byte.calls g s0_0 t640 t641 t642 t643 t644 w0 _ ?side1 ?side2 A9.out).mono ?_); (case side1 => exact is0_); (case side2 => exact bi0_); rintro e w14 ⟨rfl, hi, hb, hk⟩; refine ⟨_, rfl, ?_⟩; replace HK := Aside0.mk (KeepBut.trans hk_ hk (.inl rfl)); replace HB := Aside0.mk (hb); replace HI0 := Aside0.mk (hi); (try clear hb); (try clear hk); (try clear hi)) | ((with_reducible refine gate_callee (f := 104) rfl ?_); refine gs_ (some 22) Tryd.func104 #[.pointer (some ⟨g, 0, none⟩)] ?_; (with_reducible refine (spec_l01Byte.calls g s0_0 t643 t644 t645 t646 t647 w0 _ ?side1 ?side2 A10.out).mono ?_); (case side1 => exact is0_); (case side2 => exact bi0_); rintro e w15 ⟨rfl, hi, hb, hk⟩; refine ⟨_, rfl, ?_⟩; replace HK := Aside0.mk (KeepBut.trans hk_ hk (.inl rfl)); replace HB := Aside0.mk (hb); replace HI0 := Aside0.mk (hi); (try clear hb); (try clear hk); (try clear hi)) | ((with_reducible refine gate_callee (f := 104) rfl ?_); refine gs_ (some 24) Tryd.func104 #[.pointer (some ⟨g, 0, none⟩)] ?_; (with_reducible refine (spec_l01Byte.calls g s0_0 t646 t647 t648 t649 t650 w0 _ ?side1 ?side2 A11.out).mono ?_); (case side1 => exact is0_); (case side2 => exact bi0_); rintro e w16 ⟨rfl, hi, hb, hk⟩; refine ⟨_, rfl, ?_⟩; replace HK := Aside0.mk (KeepBut.trans hk_ hk (.inl rfl)); replace HB := Aside0.mk (hb); replace HI0 := Aside0.mk (hi); (try clear hb); (try clear hk); (try clear hi)))
 go_ret
 exact ⟨er_, is0_, bi0_, hk_⟩


def spec_l01Once.f (s0_0 : List Int) (s0_1 : Int) (s0_2 : Int) (a1 : Int) : Option (Bool × Int × Int) := (spec_l01Below.f s0_0 s0_1 s0_2 a1).bind fun bt651 => (some ((bt651.1 == 0), bt651.2.1, bt651.2.2))
theorem spec_l01Once.calls (g : Nat) (s0_0 : List Int) (s0_1 : Int) (s0_2 : Int) (a1 : Int) (r1 : Bool) (r2 : Int) (r3 : Int) (w0 w : World) (hI : IsS130 w0 w g s0_0 s0_1 s0_2) (hB : Below w0.heap.size w0 w) (h : spec_l01Once.f s0_0 s0_1 s0_2 a1 = some (r1, r2, r3)) :
 Calls Tryd.prog 108 #[.pointer (some ⟨g, 0, none⟩), .int .i64 a1] w fun e w' => e = .returned (.bool r1) ∧ IsS130 w0 w' g s0_0 r2 r3 ∧ Below w0.heap.size w0 w' ∧ KeepBut w w' g none := by
 have HI0 := Aside0.mk hI
 have HK := Aside0.mk (KeepBut.refl w g none)
 have HL := Aside0.mk hB.size
 clear hI
 have HW0 := Aside0.mk hB.size
 have HB := Aside0.mk hB
 clear hB
 have H := h
 unfold spec_l01Once.f at H
 clear h
 replace H := bs_ H
 obtain ⟨⟨t651, t652, t653⟩, A3, H⟩ := H
 try dsimp only at H
 simp only [Option.some.injEq, Prod.mk.injEq] at H
 obtain ⟨rfl, rfl, rfl⟩ := H
 go_enter Tryd.func108, Tryd.ntmps108
 go_wp2_with (first | ((with_reducible refine gate_callee (f := 105) rfl ?_); refine gs_ (some 7) Tryd.func105 #[.pointer (some ⟨g, 0, none⟩), .int .i64 a1] ?_; (with_reducible refine (spec_l01Below.calls g s0_0 s0_1 s0_2 a1 t651 t652 t653 w0 _ ?side1 ?side2 A3.out).mono ?_); (case side1 => exact is0_); (case side2 => exact bi0_); rintro e w4 ⟨rfl, hi, hb, hk⟩; refine ⟨_, rfl, ?_⟩; replace HK := Aside0.mk (KeepBut.trans hk_ hk (.inl rfl)); replace HB := Aside0.mk (hb); replace HI0 := Aside0.mk (hi); (try clear hb); (try clear hk); (try clear hi)))
 go_ret
 exact ⟨er_, is0_, bi0_, hk_⟩


def spec_l01PickInt.f (s0_0 : List Int) (s0_1 : Int) (s0_2 : Int) (l1 : List Int) : Option (Int × Int × Int) := (spec_l01Below.f s0_0 s0_1 s0_2 (l1.length : Int)).bind fun bt654 => (if 0 ≤ bt654.1 then (if bt654.1 < (l1.length : Int) then (some (rd l1 bt654.1, bt654.2.1, bt654.2.2)) else (none)) else (none))
theorem spec_l01PickInt.calls (g : Nat) (s0_0 : List Int) (s0_1 : Int) (s0_2 : Int) (A1 : Option Addr) (c1 : Nat) (l1 : List Int) (r1 : Int) (r2 : Int) (r3 : Int) (w0 w : World) (hI : IsS130 w0 w g s0_0 s0_1 s0_2) (hB : Below w0.heap.size w0 w) (hr1 : Kd.C (Kd.int .i64) w A1 l1.length l1) (hc1 : l1.length ≤ c1) (hf1 : ∀ ad, A1 = some ad → 0 < l1.length → ad.block ≠ g) (h : spec_l01PickInt.f s0_0 s0_1 s0_2 l1 = some (r1, r2, r3)) :
 Calls Tryd.prog 137 #[.pointer (some ⟨g, 0, none⟩), .slice A1 l1.length c1] w fun e w' => e = .returned (.int .i64 r1) ∧ IsS130 w0 w' g s0_0 r2 r3 ∧ Below w0.heap.size w0 w' ∧ KeepBut w w' g none := by
 have HR1 := Aside0.mk hr1
 have HC1 := Aside0.mk hc1
 clear hr1 hc1
 have HI0 := Aside0.mk hI
 have HK := Aside0.mk (KeepBut.refl w g none)
 have HL := Aside0.mk hB.size
 clear hI
 have HW0 := Aside0.mk hB.size
 have HB := Aside0.mk hB
 clear hB
 have H := h
 unfold spec_l01PickInt.f at H
 clear h
 replace H := bs_ H
 obtain ⟨⟨t654, t655, t656⟩, A3, H⟩ := H
 try dsimp only at H
 by_cases c4 : 0 ≤ t654
 rotate_left
 ·exact nn_ c4 H
 rw [if_pos c4] at H
 have c4b0 := decide_eq_true c4
 clear c4
 by_cases c5 : t654 < (l1.length : Int)
 rotate_left
 ·exact nn_ c5 H
 rw [if_pos c5] at H
 have c5b0 := decide_eq_true c5
 clear c5
 simp only [Option.some.injEq, Prod.mk.injEq] at H
 obtain ⟨rfl, rfl, rfl⟩ := H
 go_enter Tryd.func137, Tryd.ntmps137
 go_wp2_with (first | ((with_reducible refine gate_callee (f := 105) rfl ?_); refine gs_ (some 9) Tryd.func105 #[.pointer (some ⟨g, 0, none⟩), .int .i64 (l1.length : Int)] ?_; (with_reducible refine (spec_l01Below.calls g s0_0 s0_1 s0_2 (l1.length : Int) t654 t655 t656 w0 _ ?side1 ?side2 A3.out).mono ?_); (case side1 => exact is0_); (case side2 => exact bi0_); rintro e w6 ⟨rfl, hi, hb, hk⟩; refine ⟨_, rfl, ?_⟩; replace HK := Aside0.mk (KeepBut.trans hk_ hk (.inl rfl)); replace HB := Aside0.mk (hb); replace HI0 := Aside0.mk (hi); (try clear hb); (try clear hk); (try clear hi); have p657 : 0 ≤ (t654 : Int) := of_decide_eq_true as_; have q657 : t654 < (l1.length : Int) := of_decide_eq_true as_; obtain ⟨ad657, e657, hx657_0⟩ := Kd.at_int HR1.out t654 p657 q657; cases e657; replace hx657_0 := keep_cell HK.out hx657_0 (by first | (rw [add_block]; exact hf1 _ rfl (by omega)) | exact hf1 _ rfl (by omega) | exact hf1 ad657 rfl (by omega)); replace p657 := eq_true p657; replace q657 := eq_true q657))
 go_ret
 exact ⟨er_, is0_, bi0_, hk_⟩


def spec_l04Half.f (s0_0 : List Int) (s0_1 : Int) (s0_2 : Int) : Option (Int × Int × Int) := (spec_l01Below.f s0_0 s0_1 s0_2 12).bind fun bt658 => ((spec_l01PickInt.f s0_0 bt658.2.1 bt658.2.2 (([0, 1, 2, 3, 5, 7, 255, 4294967295, 2147483648, bt658.1] : List Int))).bind fun bt664 => (some (bt664.1, bt664.2.1, bt664.2.2)))
theorem spec_l04Half.calls (g : Nat) (s0_0 : List Int) (s0_1 : Int) (s0_2 : Int) (r1 : Int) (r2 : Int) (r3 : Int) (w0 w : World) (hI : IsS130 w0 w g s0_0 s0_1 s0_2) (hB : Below w0.heap.size w0 w) (h : spec_l04Half.f s0_0 s0_1 s0_2 = some (r1, r2, r3)) :
 Calls Tryd.prog 133 #[.pointer (some ⟨g, 0, none⟩)] w fun e w' => e = .returned (.int .i64 r1) ∧ IsS130 w0 w' g s0_0 r2 r3 ∧ Below w0.heap.size w0 w' ∧ KeepBut w w' g none := by
 have HI0 := Aside0.mk hI
 have HK := Aside0.mk (KeepBut.refl w g none)
 have HL := Aside0.mk hB.size
 clear hI
 have HW0 := Aside0.mk hB.size
 have HB := Aside0.mk hB
 clear hB
 have H := h
 unfold spec_l04Half.f at H
 clear h
 replace H := bs_ H
 obtain ⟨⟨t658, t659, t660⟩, A2, H⟩ := H
 try dsimp only at H
 obtain ⟨y661, hy661⟩ : ∃ y_ : List Int, y_ = (([0, 1, 2, 3, 5, 7, 255, 4294967295, 2147483648, t658] : List Int)) := ⟨_, rfl⟩
 replace H : ((spec_l01PickInt.f s0_0 t659 t660 y661).bind fun bt664 => (some (bt664.1, bt664.2.1, bt664.2.2))) = some (r1, r2, r3) := rp_ H hy661
 have Ny661 := Aside0.mk hy661
 clear hy661
 replace H := bs_ H
 obtain ⟨⟨t664, t665, t666⟩, A3, H⟩ := H
 try dsimp only at H
 simp only [Option.some.injEq, Prod.mk.injEq] at H
 obtain ⟨rfl, rfl, rfl⟩ := H
 go_enter Tryd.func133, Tryd.ntmps133
 go_wp2_with (first | ((with_reducible refine gate_callee (f := 105) rfl ?_); refine gs_ (some 5) Tryd.func105 #[.pointer (some ⟨g, 0, none⟩), .int .i64 12] ?_; (with_reducible refine (spec_l01Below.calls g s0_0 s0_1 s0_2 12 t658 t659 t660 w0 _ ?side1 ?side2 A2.out).mono ?_); (case side1 => exact is0_); (case side2 => exact bi0_); rintro e w4 ⟨rfl, hi, hb, hk⟩; refine ⟨_, rfl, ?_⟩; replace HK := Aside0.mk (KeepBut.trans hk_ hk (.inl rfl)); replace HB := Aside0.mk (hb); replace HI0 := Aside0.mk (hi); (try clear hb); (try clear hk); (try clear hi)) | ((with_reducible refine gate_dst (N := 6) rfl ?_); refine Kd.R_lit (Kd.int .i64) _ 3 ?hg (N := 6) ?hd (xs := ([0, 1, 2, 3, 5, 7, 255, 4294967295, 2147483648, t658] : List Int)) (inner := [.int .i64 0, .int .i64 1, .int .i64 2, .int .i64 3, .int .i64 5, .int .i64 7, .int .i64 255, .int .i64 4294967295, .int .i64 2147483648, .int .i64 t658]) (ok := fun _ => True) (okp := fun _ => True) ?hr ?hp (fun _ hk => hk) trivial (Below.refl _ _) (Nat.le_refl _) (by simp) ?_; (case hd => rfl); (case hg => rfl); (case hr => first | (go_simp; done) | (go_simp; rfl)); (case hp => exact (Reps.one (show Kd.M (Kd.int .i64) _ _ _ 0 [.int .i64 0] from rfl) (Reps.one (show Kd.M (Kd.int .i64) _ _ _ 1 [.int .i64 1] from rfl) (Reps.one (show Kd.M (Kd.int .i64) _ _ _ 2 [.int .i64 2] from rfl) (Reps.one (show Kd.M (Kd.int .i64) _ _ _ 3 [.int .i64 3] from rfl) (Reps.one (show Kd.M (Kd.int .i64) _ _ _ 5 [.int .i64 5] from rfl) (Reps.one (show Kd.M (Kd.int .i64) _ _ _ 7 [.int .i64 7] from rfl) (Reps.one (show Kd.M (Kd.int .i64) _ _ _ 255 [.int .i64 255] from rfl) (Reps.one (show Kd.M (Kd.int .i64) _ _ _ 4294967295 [.int .i64 4294967295] from rfl) (Reps.one (show Kd.M (Kd.int .i64) _ _ _ 2147483648 [.int .i64 2147483648] from rfl) (Reps.one (show Kd.M (Kd.int .i64) _ _ _ t658 [.int .i64 t658] from rfl) (Reps.none _ _)))))))))))); intro v662 w5 ho6 hb hg_ hnew_; clear hg_ hnew_; (first | rw [← Ny661.out] at ho6 | (simp only [Int.reduceToNat] at ho6; rw [← Ny661.out] at ho6)); have HO663 := Aside0.mk (Kd.R_lower ho6 (keep_size (w := w) (g := g) (row := none) hk_)); replace HK := Aside0.mk (KeepBut.trans hk_ (KeepBut.of_below hb g none) (.inl rfl)); replace HB := Aside0.mk (below_step bi0_ hb); replace HI0 := Aside0.mk (IsS130.below is0_ hb); clear hb ho6; obtain ⟨Ao7, co7, eo7⟩ := Kd.R_slice HO663.out; subst eo7) | ((with_reducible refine gate_callee (f := 137) rfl ?_); refine gs_ (some 7) Tryd.func137 #[.pointer (some ⟨g, 0, none⟩), .slice Ao7 y661.length co7] ?_; (with_reducible refine (spec_l01PickInt.calls g s0_0 t659 t660 _ _ y661 t664 t665 t666 w0 _ ?side1 ?side2 ?side3 ?side4 ?side5 A3.out).mono ?_); (case side1 => exact is0_); (case side2 => exact bi0_); (case side3 => exact cs_ ((Kd.R_reads' HO663.out).2.2)); (case side4 => exact (Kd.R_reads' HO663.out).2.1); (case side5 => exact far_slice (IsS130.own_ne HI0.out HO663.out (by decide))); rintro e w8 ⟨rfl, hi, hb, hk⟩; refine ⟨_, rfl, ?_⟩; replace HO663 := Aside0.mk (Kd.R_mono (Kd.R_keep (IsS130.apart (show IsS130 w0 _ g s0_0 t659 t660 from is0_) (ra_ HO663.out) (by decide)) hk (fun _ h => h.2)) (fun _ h => h.1)); replace HK := Aside0.mk (KeepBut.trans hk_ hk (.inl rfl)); replace HB := Aside0.mk (hb); replace HI0 := Aside0.mk (hi); (try clear hb); (try clear hk); (try clear hi)))
 go_ret
 exact ⟨er_, is0_, bi0_, hk_⟩


def spec_l17Item.f (s0_0 : List Int) (s0_1 : Int) (s0_2 : Int) : Option (Int × Int × Int × Int × Int × Int) := (spec_l01Once.f s0_0 s0_1 s0_2 3).bind fun bt668 => (if bt668.1 = true then ((spec_l01Below.f s0_0 bt668.2.1 bt668.2.2 5).bind fun bt671 => (some (2, 0, 0, wrap64 (1 + bt671.1), bt671.2.1, bt671.2.2))) else ((spec_l01Below.f s0_0 bt668.2.1 bt668.2.2 9).bind fun bt674 => ((spec_l04Half.f s0_0 bt674.2.1 bt674.2.2).bind fun bt677 => (some (1, bt674.1, bt677.1, 0, bt677.2.1, bt677.2.2)))))
theorem spec_l17Item.calls (g : Nat) (s0_0 : List Int) (s0_1 : Int) (s0_2 : Int) (r1 : Int) (r2 : Int) (r3 : Int) (r4 : Int) (r5 : Int) (r6 : Int) (w0 w : World) (hI : IsS130 w0 w g s0_0 s0_1 s0_2) (hB : Below w0.heap.size w0 w) (h : spec_l17Item.f s0_0 s0_1 s0_2 = some (r1, r2, r3, r4, r5, r6)) :
 Calls Tryd.prog 123 #[.pointer (some ⟨g, 0, none⟩)] w fun e w' => e = .returned (.agg #[.int .i64 r1, .int .i64 r2, .int .i64 r3, .int .i64 r4]) ∧ IsS130 w0 w' g s0_0 r5 r6 ∧ Below w0.heap.size w0 w' ∧ KeepBut w w' g none := by
 have hu68 := Tryd.underlying68
 have HI0 := Aside0.mk hI
 have HK := Aside0.mk (KeepBut.refl w g none)
 have HL := Aside0.mk hB.size
 clear hI
 have HW0 := Aside0.mk hB.size
 have HB := Aside0.mk hB
 clear hB
 have H := h
 unfold spec_l17Item.f at H
 clear h
 replace H := bs_ H
 obtain ⟨⟨t668, t669, t670⟩, A2, H⟩ := H
 try dsimp only at H
 by_cases c3 : t668 = true
 ·subst c3
  rw [if_pos rfl] at H
  replace H := bs_ H
  obtain ⟨⟨t671, t672, t673⟩, A4, H⟩ := H
  try dsimp only at H
  simp only [Option.some.injEq, Prod.mk.injEq] at H
  obtain ⟨rfl, rfl, rfl, rfl, rfl, rfl⟩ := H
  go_enter Tryd.func123, Tryd.ntmps123
  go_wp2_with (first | ((with_reducible refine gate_dst (N := 2) rfl ?_); refine bx_ 2 68 #[.int .i64 0, .int .i64 0, .int .i64 0, .int .i64 0] ?_; intro gb667 hg w5 hbox hb; replace HB := Aside0.mk (below_step bi0_ hb); have BK667 := Aside0.mk (hbox); have GW667 := Aside0.mk ((by rw [hg]; exact (keep_size (w := w) (g := g) (row := none) hk_) : w.heap.size ≤ gb667)); have GE667 := Aside0.mk ((Nat.le_trans HW0.out (by rw [hg]; exact (keep_size (w := w) (g := g) (row := none) hk_) : w.heap.size ≤ gb667) : w0.heap.size ≤ gb667)); replace HK := Aside0.mk (KeepBut.trans hk_ (KeepBut.of_below hb g none) (.inl rfl)); have NB0_667 := Aside0.mk ((by rw [hg]; exact Nat.ne_of_lt (IsS130.lt (show IsS130 w0 _ g s0_0 s0_1 s0_2 from is0_)) : g ≠ gb667)); have NB667_0 := Aside0.mk ((by rw [hg]; exact Nat.ne_of_gt (IsS130.lt (show IsS130 w0 _ g s0_0 s0_1 s0_2 from is0_)) : gb667 ≠ g)); replace HI0 := Aside0.mk (IsS130.below is0_ hb); clear hb hbox hg) | ((with_reducible refine gate_callee (f := 108) rfl ?_); refine gs_ (some 4) Tryd.func108 #[.pointer (some ⟨g, 0, none⟩), .int .i64 3] ?_; (with_reducible refine (spec_l01Once.calls g s0_0 s0_1 s0_2 3 true t669 t670 w0 _ ?side1 ?side2 A2.out).mono ?_); (case side1 => exact is0_); (case side2 => exact bi0_); rintro e w6 ⟨rfl, hi, hb, hk⟩; refine ⟨_, rfl, ?_⟩; replace BK667 := Aside0.mk (KeepBut.blk hk (g' := gb667) (o := .cells #[.int .i64 0, .int .i64 0, .int .i64 0, .int .i64 0] 68 (0, 0)) (bk_ BK667.out) NB667_0.out (by simp)); replace HK := Aside0.mk (KeepBut.trans (by repeat (first | (with_reducible first | exact HK.out | apply KeepBut.set_ | apply keep_drewN | apply keep_drew | apply keep_alloc | refine keep_far ?_ GW667.out _) | exact HK.out)) hk (.inl rfl)); replace HB := Aside0.mk (hb); replace HI0 := Aside0.mk (hi); (try clear hb); (try clear hk); (try clear hi)) | ((with_reducible refine gate_callee (f := 105) rfl ?_); refine gs_ (some 6) Tryd.func105 #[.pointer (some ⟨g, 0, none⟩), .int .i64 5] ?_; (with_reducible refine (spec_l01Below.calls g s0_0 t669 t670 5 t671 t672 t673 w0 _ ?side1 ?side2 A4.out).mono ?_); (case side1 => exact is0_); (case side2 => exact bi0_); rintro e w7 ⟨rfl, hi, hb, hk⟩; refine ⟨_, rfl, ?_⟩; replace BK667 := Aside0.mk (KeepBut.blk hk (g' := gb667) (o := .cells #[.int .i64 0, .int .i64 0, .int .i64 0, .int .i64 0] 68 (0, 0)) (bk_ BK667.out) NB667_0.out (by simp)); replace HK := Aside0.mk (KeepBut.trans (by repeat (first | (with_reducible first | exact HK.out | apply KeepBut.set_ | apply keep_drewN | apply keep_drew | apply keep_alloc | refine keep_far ?_ GW667.out _) | exact HK.out)) hk (.inl rfl)); replace HB := Aside0.mk (hb); replace HI0 := Aside0.mk (hi); (try clear hb); (try clear hk); (try clear hi); have hnb8 := NB667_0.out; have hnc8 := NB0_667.out; obtain ⟨hcz9_0, hcz9_1, hcz9_2, hcz9_3, hfz9_0, hfz9_1, hfz9_2, hfz9_3⟩ := cf4_ BK667.out))
  refine bodyPost_ret (results_cell_row rfl _ _ gb667 68 #[.int .i64 2, .int .i64 0, .int .i64 0, .int .i64 (wrap64 (1 + t671))] (0, 0) _ rfl (bp0_ BK667.out) Tryd.underlying68 rfl (by kernel_rfl)) rfl ?_
  exact ⟨er_, is0_, bi0_, hk_⟩
 replace c3 := Bool.eq_false_iff.mpr c3
 subst c3
 rw [nf_] at H
 replace H := bs_ H
 obtain ⟨⟨t674, t675, t676⟩, A10, H⟩ := H
 try dsimp only at H
 replace H := bs_ H
 obtain ⟨⟨t677, t678, t679⟩, A11, H⟩ := H
 try dsimp only at H
 simp only [Option.some.injEq, Prod.mk.injEq] at H
 obtain ⟨rfl, rfl, rfl, rfl, rfl, rfl⟩ := H
 go_enter Tryd.func123, Tryd.ntmps123
 go_wp2_with (first | ((with_reducible refine gate_dst (N := 2) rfl ?_); refine bx_ 2 68 #[.int .i64 0, .int .i64 0, .int .i64 0, .int .i64 0] ?_; intro gb667 hg w12 hbox hb; replace HB := Aside0.mk (below_step bi0_ hb); have BK667 := Aside0.mk (hbox); have GW667 := Aside0.mk ((by rw [hg]; exact (keep_size (w := w) (g := g) (row := none) hk_) : w.heap.size ≤ gb667)); have GE667 := Aside0.mk ((Nat.le_trans HW0.out (by rw [hg]; exact (keep_size (w := w) (g := g) (row := none) hk_) : w.heap.size ≤ gb667) : w0.heap.size ≤ gb667)); replace HK := Aside0.mk (KeepBut.trans hk_ (KeepBut.of_below hb g none) (.inl rfl)); have NB0_667 := Aside0.mk ((by rw [hg]; exact Nat.ne_of_lt (IsS130.lt (show IsS130 w0 _ g s0_0 s0_1 s0_2 from is0_)) : g ≠ gb667)); have NB667_0 := Aside0.mk ((by rw [hg]; exact Nat.ne_of_gt (IsS130.lt (show IsS130 w0 _ g s0_0 s0_1 s0_2 from is0_)) : gb667 ≠ g)); replace HI0 := Aside0.mk (IsS130.below is0_ hb); clear hb hbox hg) | ((with_reducible refine gate_callee (f := 108) rfl ?_); refine gs_ (some 4) Tryd.func108 #[.pointer (some ⟨g, 0, none⟩), .int .i64 3] ?_; (with_reducible refine (spec_l01Once.calls g s0_0 s0_1 s0_2 3 false t669 t670 w0 _ ?side1 ?side2 A2.out).mono ?_); (case side1 => exact is0_); (case side2 => exact bi0_); rintro e w13 ⟨rfl, hi, hb, hk⟩; refine ⟨_, rfl, ?_⟩; replace BK667 := Aside0.mk (KeepBut.blk hk (g' := gb667) (o := .cells #[.int .i64 0, .int .i64 0, .int .i64 0, .int .i64 0] 68 (0, 0)) (bk_ BK667.out) NB667_0.out (by simp)); replace HK := Aside0.mk (KeepBut.trans (by repeat (first | (with_reducible first | exact HK.out | apply KeepBut.set_ | apply keep_drewN | apply keep_drew | apply keep_alloc | refine keep_far ?_ GW667.out _) | exact HK.out)) hk (.inl rfl)); replace HB := Aside0.mk (hb); replace HI0 := Aside0.mk (hi); (try clear hb); (try clear hk); (try clear hi)) | ((with_reducible refine gate_callee (f := 105) rfl ?_); refine gs_ (some 10) Tryd.func105 #[.pointer (some ⟨g, 0, none⟩), .int .i64 9] ?_; (with_reducible refine (spec_l01Below.calls g s0_0 t669 t670 9 t674 t675 t676 w0 _ ?side1 ?side2 A10.out).mono ?_); (case side1 => exact is0_); (case side2 => exact bi0_); rintro e w14 ⟨rfl, hi, hb, hk⟩; refine ⟨_, rfl, ?_⟩; replace BK667 := Aside0.mk (KeepBut.blk hk (g' := gb667) (o := .cells #[.int .i64 0, .int .i64 0, .int .i64 0, .int .i64 0] 68 (0, 0)) (bk_ BK667.out) NB667_0.out (by simp)); replace HK := Aside0.mk (KeepBut.trans (by repeat (first | (with_reducible first | exact HK.out | apply KeepBut.set_ | apply keep_drewN | apply keep_drew | apply keep_alloc | refine keep_far ?_ GW667.out _) | exact HK.out)) hk (.inl rfl)); replace HB := Aside0.mk (hb); replace HI0 := Aside0.mk (hi); (try clear hb); (try clear hk); (try clear hi)) | ((with_reducible refine gate_callee (f := 133) rfl ?_); refine gs_ (some 12) Tryd.func133 #[.pointer (some ⟨g, 0, none⟩)] ?_; (with_reducible refine (spec_l04Half.calls g s0_0 t675 t676 t677 t678 t679 w0 _ ?side1 ?side2 A11.out).mono ?_); (case side1 => exact is0_); (case side2 => exact bi0_); rintro e w15 ⟨rfl, hi, hb, hk⟩; refine ⟨_, rfl, ?_⟩; replace BK667 := Aside0.mk (KeepBut.blk hk (g' := gb667) (o := .cells #[.int .i64 0, .int .i64 0, .int .i64 0, .int .i64 0] 68 (0, 0)) (bk_ BK667.out) NB667_0.out (by simp)); replace HK := Aside0.mk (KeepBut.trans (by repeat (first | (with_reducible first | exact HK.out | apply KeepBut.set_ | apply keep_drewN | apply keep_drew | apply keep_alloc | refine keep_far ?_ GW667.out _) | exact HK.out)) hk (.inl rfl)); replace HB := Aside0.mk (hb); replace HI0 := Aside0.mk (hi); (try clear hb); (try clear hk); (try clear hi); have hnb16 := NB667_0.out; have hnc16 := NB0_667.out; obtain ⟨hcz17_0, hcz17_1, hcz17_2, hcz17_3, hfz17_0, hfz17_1, hfz17_2, hfz17_3⟩ := cf4_ BK667.out))
 refine bodyPost_ret (results_cell_row rfl _ _ gb667 68 #[.int .i64 1, .int .i64 t674, .int .i64 t677, .int .i64 0] (0, 0) _ rfl (bp0_ BK667.out) Tryd.underlying68 rfl (by kernel_rfl)) rfl ?_
 exact ⟨er_, is0_, bi0_, hk_⟩


def spec_l19Entries.l0 : Nat → List (S70) → Int → List Int → Int → Int → Option ((List (S70)) × Int × Int)
 | 0, _, _, _, _, _ => none
 | k + 1, x3, x4, x1000, x1001, x1002 => (spec_l01Below.f x1000 x1001 x1002 6).bind fun bt683 => (if x4 < bt683.1 then ((spec_l01Below.f x1000 bt683.2.1 bt683.2.2 3).bind fun bt686 => ((spec_l01Below.f x1000 bt686.2.1 bt686.2.2 5).bind fun bt689 => ((spec_l17Item.f x1000 bt689.2.1 bt689.2.2).bind fun bt692 => (if x3.length < 2932031007402 then (spec_l19Entries.l0 k (x3 ++ [(⟨bt686.1, wrap64 (1 + bt689.1), (⟨bt692.1, bt692.2.1, bt692.2.2.1, bt692.2.2.2.1⟩ : S68)⟩ : S70)]) (wrap64 (x4 + 1)) x1000 bt692.2.2.2.2.1 bt692.2.2.2.2.2) else (none))))) else (some (x3, bt683.2.1, bt683.2.2)))
def spec_l19Entries.f (k : Nat) (s0_0 : List Int) (s0_1 : Int) (s0_2 : Int) : Option ((List (S70)) × Int × Int) := spec_l19Entries.l0 k (([] : List (S70))) 0 s0_0 s0_1 s0_2
theorem spec_l19Entries.mono_l : ∀ k, (∀ y0 y1 y2 y3 y4, LeO (spec_l19Entries.l0 k y0 y1 y2 y3 y4) (spec_l19Entries.l0 (k + 1) y0 y1 y2 y3 y4))
 | 0 => fun _ _ _ _ _ r h => by simp [spec_l19Entries.l0] at h
 | k + 1 => by
  have ih0 := spec_l19Entries.mono_l k
  ·intro y0 y1 y2 y3 y4
   unfold spec_l19Entries.l0
   exact mo_
theorem spec_l19Entries.mono : ∀ a0 a1 a2 k, LeO (spec_l19Entries.f k a0 a1 a2) (spec_l19Entries.f (k + 1) a0 a1 a2) := by
 intro a0 a1 a2 k
 have ih0 := spec_l19Entries.mono_l k
 unfold spec_l19Entries.f
 exact mo_
theorem spec_l19Entries.calls (k : Nat) (g : Nat) (s0_0 : List Int) (s0_1 : Int) (s0_2 : Int) (r1 : List (S70)) (r2 : Int) (r3 : Int) (w0 w : World) (hI : IsS130 w0 w g s0_0 s0_1 s0_2) (hB : Below w0.heap.size w0 w) (h : spec_l19Entries.f k s0_0 s0_1 s0_2 = some (r1, r2, r3)) :
 Calls Tryd.prog 93 #[.pointer (some ⟨g, 0, none⟩)] w fun e w' => ∃ v0_ : Value, e = .returned (v0_) ∧ Kd.R k70 70 w' w.heap.size (fun _ => True) v0_ r1 ∧ IsS130 w0 w' g s0_0 r2 r3 ∧ Below w0.heap.size w0 w' ∧ KeepBut w w' g none := by
 have hu70 := Tryd.underlying70
 have HI0 := Aside0.mk hI
 have HK := Aside0.mk (KeepBut.refl w g none)
 have HL := Aside0.mk hB.size
 clear hI
 have HW0 := Aside0.mk hB.size
 have HB := Aside0.mk hB
 clear hB
 have H := h
 unfold spec_l19Entries.f at H
 clear h
 obtain ⟨y680, hy680⟩ : ∃ y_ : List (S70), y_ = (([] : List (S70))) := ⟨_, rfl⟩
 replace H : (spec_l19Entries.l0 k y680 0 s0_0 s0_1 s0_2) = some (r1, r2, r3) := rp_ H hy680
 have Ny680 := Aside0.mk hy680
 clear hy680
 have H' := Aside0.mk H
 clear H
 go_enter Tryd.func93, Tryd.ntmps93
 go_wp2_with (first | ((with_reducible refine gate_dst (N := 5) rfl ?_); refine Kd.R_lit k70 _ 70 ?hg (N := 5) ?hd (xs := ([] : List (S70))) (inner := []) (ok := fun _ => True) (okp := fun _ => True) ?hr ?hp (fun _ hk => hk) trivial (Below.refl _ _) (Nat.le_refl _) (by simp) ?_; (case hd => rfl); (case hg => rfl); (case hr => first | (go_simp; done) | (go_simp; rfl)); (case hp => exact (Reps.none _ _)); intro v681 w2 ho3 hb hg_ hnew_; clear hg_ hnew_; (first | rw [← Ny680.out] at ho3 | (simp only [Int.reduceToNat] at ho3; rw [← Ny680.out] at ho3)); have HO682 := Aside0.mk (Kd.R_lower ho3 (keep_size (w := w) (g := g) (row := none) hk_)); replace HK := Aside0.mk (KeepBut.trans hk_ (KeepBut.of_below hb g none) (.inl rfl)); replace HB := Aside0.mk (below_step bi0_ hb); replace HI0 := Aside0.mk (IsS130.below is0_ hb); clear hb ho3))
 go_loopg [3, 4] k (fun kq v3 v4 w' => ∃ (x3_1 : List (S70)) (x4_1 : Int) (x1001_1 : Int) (x1002_1 : Int), v4 = .int .i64 x4_1 ∧ Aside0 (spec_l19Entries.l0 kq x3_1 x4_1 s0_0 x1001_1 x1002_1 = some (r1, r2, r3)) ∧ Aside0 (kq ≤ k) ∧ Aside0 (Kd.R k70 70 w' w.heap.size (fun _ => True) v3 x3_1) ∧ Aside0 (IsS130 w0 w' g s0_0 x1001_1 x1002_1) ∧ Aside0 (KeepBut w w' g none) ∧ Aside0 (Below w0.heap.size w0 w'))
 case atStart => exact ⟨(y680), (0), (s0_1), (s0_2), (sr_), H', ⟨Nat.le_refl _⟩, ⟨ra_ HO682.out⟩, ⟨is0_⟩, ⟨hk_⟩, ⟨bi0_⟩⟩
 clear H'
 obtain ⟨x3_1, x4_1, x1001_1, x1002_1, rfl, HA, HK1, HO_3, HI0, HK, HB⟩ := hrel
 cases gk with
 | zero => exact absurd HA.out (by simp [spec_l19Entries.l0])
 | succ k1 => ?_
 have H := HA.out
 clear HA
 simp only [spec_l19Entries.l0] at H
 replace H := bs_ H
 obtain ⟨⟨t683, t684, t685⟩, A4, H⟩ := H
 try dsimp only at H
 by_cases c5 : x4_1 < t683
 rotate_left
 ·rw [if_neg c5] at H
  have c5b0 := decide_eq_false c5
  clear c5
  simp only [Option.some.injEq, Prod.mk.injEq] at H
  obtain ⟨rfl, rfl, rfl⟩ := H
  go_wp2_with (first | ((with_reducible refine gate_callee (f := 105) rfl ?_); refine gs_ (some 8) Tryd.func105 #[.pointer (some ⟨g, 0, none⟩), .int .i64 6] ?_; (with_reducible refine (spec_l01Below.calls g s0_0 x1001_1 x1002_1 6 t683 t684 t685 w0 _ ?side1 ?side2 A4.out).mono ?_); (case side1 => exact is0_); (case side2 => exact bi0_); rintro e w15 ⟨rfl, hi, hb, hk⟩; refine ⟨_, rfl, ?_⟩; replace HO_3 := Aside0.mk (Kd.R_mono (Kd.R_keep (IsS130.apart (show IsS130 w0 _ g s0_0 x1001_1 x1002_1 from is0_) (ra_ HO_3.out) (by decide)) hk (fun _ h => h.2)) (fun _ h => h.1)); replace HK := Aside0.mk (KeepBut.trans hk_ hk (.inl rfl)); replace HB := Aside0.mk (hb); replace HI0 := Aside0.mk (hi); (try clear hb); (try clear hk); (try clear hi)))
  go_ret
  exact ⟨_, er_, ra_ HO_3.out, is0_, bi0_, hk_⟩
 rw [if_pos c5] at H
 have c5b0 := decide_eq_true c5
 clear c5
 replace H := bs_ H
 obtain ⟨⟨t686, t687, t688⟩, A6, H⟩ := H
 try dsimp only at H
 replace H := bs_ H
 obtain ⟨⟨t689, t690, t691⟩, A7, H⟩ := H
 try dsimp only at H
 replace H := bs_ H
 obtain ⟨⟨t692, t693, t694, t695, t696, t697⟩, A8, H⟩ := H
 try dsimp only at H
 by_cases c9 : x3_1.length < 2932031007402
 rotate_left
 ·exact nn_ c9 H
 rw [if_pos c9] at H
 have LMc9 := Aside0.mk c9
 clear c9
 obtain ⟨y698, hy698⟩ : ∃ y_ : List (S70), y_ = (x3_1 ++ [(⟨t686, wrap64 (1 + t689), (⟨t692, t693, t694, t695⟩ : S68)⟩ : S70)]) := ⟨_, rfl⟩
 replace H : (spec_l19Entries.l0 k1 y698 (wrap64 (x4_1 + 1)) s0_0 t696 t697) = some (r1, r2, r3) := rp_ H hy698
 have Ny698 := Aside0.mk hy698
 clear hy698
 have H' := Aside0.mk H
 clear H
 go_wp2_with (first | ((with_reducible refine gate_callee (f := 105) rfl ?_); refine gs_ (some 8) Tryd.func105 #[.pointer (some ⟨g, 0, none⟩), .int .i64 6] ?_; (with_reducible refine (spec_l01Below.calls g s0_0 x1001_1 x1002_1 6 t683 t684 t685 w0 _ ?side1 ?side2 A4.out).mono ?_); (case side1 => exact is0_); (case side2 => exact bi0_); rintro e w10 ⟨rfl, hi, hb, hk⟩; refine ⟨_, rfl, ?_⟩; replace HO_3 := Aside0.mk (Kd.R_mono (Kd.R_keep (IsS130.apart (show IsS130 w0 _ g s0_0 x1001_1 x1002_1 from is0_) (ra_ HO_3.out) (by decide)) hk (fun _ h => h.2)) (fun _ h => h.1)); replace HK := Aside0.mk (KeepBut.trans hk_ hk (.inl rfl)); replace HB := Aside0.mk (hb); replace HI0 := Aside0.mk (hi); (try clear hb); (try clear hk); (try clear hi)) | ((with_reducible refine gate_callee (f := 105) rfl ?_); refine gs_ (some 14) Tryd.func105 #[.pointer (some ⟨g, 0, none⟩), .int .i64 3] ?_; (with_reducible refine (spec_l01Below.calls g s0_0 t684 t685 3 t686 t687 t688 w0 _ ?side1 ?side2 A6.out).mono ?_); (case side1 => exact is0_); (case side2 => exact bi0_); rintro e w11 ⟨rfl, hi, hb, hk⟩; refine ⟨_, rfl, ?_⟩; replace HO_3 := Aside0.mk (Kd.R_mono (Kd.R_keep (IsS130.apart (show IsS130 w0 _ g s0_0 t684 t685 from is0_) (ra_ HO_3.out) (by decide)) hk (fun _ h => h.2)) (fun _ h => h.1)); replace HK := Aside0.mk (KeepBut.trans hk_ hk (.inl rfl)); replace HB := Aside0.mk (hb); replace HI0 := Aside0.mk (hi); (try clear hb); (try clear hk); (try clear hi)) | ((with_reducible refine gate_callee (f := 105) rfl ?_); refine gs_ (some 16) Tryd.func105 #[.pointer (some ⟨g, 0, none⟩), .int .i64 5] ?_; (with_reducible refine (spec_l01Below.calls g s0_0 t687 t688 5 t689 t690 t691 w0 _ ?side1 ?side2 A7.out).mono ?_); (case side1 => exact is0_); (case side2 => exact bi0_); rintro e w12 ⟨rfl, hi, hb, hk⟩; refine ⟨_, rfl, ?_⟩; replace HO_3 := Aside0.mk (Kd.R_mono (Kd.R_keep (IsS130.apart (show IsS130 w0 _ g s0_0 t687 t688 from is0_) (ra_ HO_3.out) (by decide)) hk (fun _ h => h.2)) (fun _ h => h.1)); replace HK := Aside0.mk (KeepBut.trans hk_ hk (.inl rfl)); replace HB := Aside0.mk (hb); replace HI0 := Aside0.mk (hi); (try clear hb); (try clear hk); (try clear hi)) | ((with_reducible refine gate_callee (f := 123) rfl ?_); refine gs_ (some 19) Tryd.func123 #[.pointer (some ⟨g, 0, none⟩)] ?_; (with_reducible refine (spec_l17Item.calls g s0_0 t690 t691 t692 t693 t694 t695 t696 t697 w0 _ ?side1 ?side2 A8.out).mono ?_); (case side1 => exact is0_); (case side2 => exact bi0_); rintro e w13 ⟨rfl, hi, hb, hk⟩; refine ⟨_, rfl, ?_⟩; replace HO_3 := Aside0.mk (Kd.R_mono (Kd.R_keep (IsS130.apart (show IsS130 w0 _ g s0_0 t690 t691 from is0_) (ra_ HO_3.out) (by decide)) hk (fun _ h => h.2)) (fun _ h => h.1)); replace HK := Aside0.mk (KeepBut.trans hk_ hk (.inl rfl)); replace HB := Aside0.mk (hb); replace HI0 := Aside0.mk (hi); (try clear hb); (try clear hk); (try clear hi)) | ((with_reducible refine gate_builtin (b := .append) (xs := #[.tmp 12, .tmp 21]) rfl ?_); at_builtin; refine Kd.R_append k70 w.heap.size rfl (.tmp 12) (.tmp 21) 28 70 (.agg #[(.int .i64 0), (.int .i64 0), (.int .i64 0), (.int .i64 0), (.int .i64 0), (.int .i64 0)]) 48 rfl Tryd.underlying28 info70 rfl (by decide) (by omega) u3 x3_1 (⟨t686, wrap64 (1 + t689), (⟨t692, t693, t694, t695⟩ : S68)⟩ : S70) [.int .i64 t686, .int .i64 (wrap64 (1 + t689)), .int .i64 t692, .int .i64 t693, .int .i64 t694, .int .i64 t695] (fun _ => True) (fun _ => False) rfl rfl ?aP (fun _ hk => hk.elim) ?aF ?aO (Below.refl _ _) ?aS ?aL ?_; (case aP => exact k70_mkM _ _ _ (⟨t686, wrap64 (1 + t689), (⟨t692, t693, t694, t695⟩ : S68)⟩ : S70)); (case aF => exact (fun _ _ => trivial)); (case aO => exact (ra_ HO_3.out)); (case aS => exact (keep_size (w := w) (g := g) (row := none) hk_)); (case aL => have := LMc9.out; omega); intro v699 w14 ho hb hg hat; rw [← Ny698.out] at ho; replace HB := Aside0.mk (below_weaken bi0_ HL.out hb); replace HI0 := Aside0.mk (IsS130.grown (show IsS130 w0 _ g s0_0 t696 t697 from is0_) hg (IsS130.own_ne HI0.out HO_3.out (by decide))); replace HK := Aside0.mk (KeepBut.trans hk_ (KeepBut.of_grown hg g) (Kd.R_base2 HO_3.out)); have HO700 := Aside0.mk (ho); clear HO_3; clear ho hb hg hat))
 go_roundg k1
 case measure => have := HK1.out; omega
 case rel => exact ⟨(y698), (wrap64 (x4_1 + 1)), (t696), (t697), (sr_), H', ⟨by have := HK1.out; omega⟩, ⟨ra_ HO700.out⟩, ⟨is0_⟩, ⟨hk_⟩, ⟨bi0_⟩⟩


def spec_l01New.l0 : Nat → List Int → Int → Int → Option (List Int × Int × Int)
 | 0, _, _, _ => none
 | k + 1, x0, x3, x4 => if x4 < (x0.length : Int) then (if x4 < 4000 then (if 0 ≤ x4 then (spec_l01New.l0 k x0 (Go.bits .and .i64 (wrap64 ((wrap64 ((wrap64 (x3 * 131)) + (wrap64 (rd x0 x4)))) + 7)) 1073741823) (wrap64 (x4 + 1))) else (none)) else (some (x0, 0, x3))) else (some (x0, 0, x3))
def spec_l01New.f (k : Nat) (l0 : List Int) : Option (List Int × Int × Int) := spec_l01New.l0 k l0 (wrap64 (78801 + (l0.length : Int))) 0
theorem spec_l01New.mono_l : ∀ k, (∀ y0 y1 y2, LeO (spec_l01New.l0 k y0 y1 y2) (spec_l01New.l0 (k + 1) y0 y1 y2))
 | 0 => fun _ _ _ r h => by simp [spec_l01New.l0] at h
 | k + 1 => by
  have ih0 := spec_l01New.mono_l k
  ·intro y0 y1 y2
   unfold spec_l01New.l0
   exact mo_
theorem spec_l01New.mono : ∀ a0 k, LeO (spec_l01New.f k a0) (spec_l01New.f (k + 1) a0) := by
 intro a0 k
 have ih0 := spec_l01New.mono_l k
 unfold spec_l01New.f
 exact mo_
theorem spec_l01New.calls (k : Nat) (A0 : Option Addr) (c0 : Nat) (l0 : List Int) (r1 : List Int) (r2 : Int) (r3 : Int) (w0 w : World) (hB : Below w0.heap.size w0 w) (hr0 : Kd.C (Kd.int .u8) w0 A0 l0.length l0) (hc0 : l0.length ≤ c0) (h : spec_l01New.f k l0 = some (r1, r2, r3)) :
 Calls Tryd.prog 94 #[.slice A0 l0.length c0] w fun e w' => ∃ g_ : Nat, e = .returned (.pointer (some ⟨g_, 0, none⟩)) ∧ IsS130 w0 w' g_ r1 r2 r3 ∧ Below w0.heap.size w0 w' ∧ Below w.heap.size w w' := by
 have hu130 := Tryd.underlying130
 have HR0 := Aside0.mk hr0
 have HC0 := Aside0.mk hc0
 clear hr0 hc0
 have HBW := Aside0.mk (Below.refl w.heap.size w)
 have HW0 := Aside0.mk hB.size
 have HB := Aside0.mk hB
 clear hB
 have H := h
 unfold spec_l01New.f at H
 clear h
 have H' := Aside0.mk H
 clear H
 go_enter Tryd.func94, Tryd.ntmps94
 go_wp2
 go_loopg [3, 4] k (fun kq v3 v4 w' => ∃ (x3_1 : Int) (x4_1 : Int), v3 = .int .i64 x3_1 ∧ v4 = .int .i64 x4_1 ∧ Aside0 (spec_l01New.l0 kq l0 x3_1 x4_1 = some (r1, r2, r3)) ∧ Aside0 (kq ≤ k) ∧ Aside0 (Below w0.heap.size w0 w') ∧ Aside0 (Below w.heap.size w w'))
 case atStart => exact ⟨(wrap64 (78801 + (l0.length : Int))), (0), (sr_), (sr_), H', ⟨Nat.le_refl _⟩, ⟨bl_⟩, ⟨by repeat (first | (with_reducible first | exact HBW.out | apply below_alloc | apply pw_below_drewN | apply below_drew1) | exact HBW.out)⟩⟩
 clear H'
 obtain ⟨x3_1, x4_1, rfl, rfl, HA, HK1, HB, HBW⟩ := hrel
 cases gk with
 | zero => exact absurd HA.out (by simp [spec_l01New.l0])
 | succ k1 => ?_
 have H := HA.out
 clear HA
 simp only [spec_l01New.l0] at H
 by_cases c2 : x4_1 < (l0.length : Int)
 rotate_left
 ·rw [if_neg c2] at H
  have c2b0 := decide_eq_false c2
  clear c2
  simp only [Option.some.injEq, Prod.mk.injEq] at H
  obtain ⟨rfl, rfl, rfl⟩ := H
  go_wp2_with (first | ((with_reducible refine gate_dst (N := 31) rfl ?_); refine bx_ 31 130 #[.slice A0 l0.length c0, .int .i64 0, .int .i64 x3_1] ?_; intro gb703 hg w6 hbox hb; replace HB := Aside0.mk (below_step bl_ hb); have BK703 := Aside0.mk (hbox); have GW703 := Aside0.mk ((by rw [hg]; exact (below_size (by repeat (first | (with_reducible first | exact HBW.out | apply below_alloc | apply pw_below_drewN | apply below_drew1) | exact HBW.out))) : w.heap.size ≤ gb703)); have GE703 := Aside0.mk ((Nat.le_trans HW0.out (by rw [hg]; exact (below_size (by repeat (first | (with_reducible first | exact HBW.out | apply below_alloc | apply pw_below_drewN | apply below_drew1) | exact HBW.out))) : w.heap.size ≤ gb703) : w0.heap.size ≤ gb703)); replace HBW := Aside0.mk (below_step HBW.out hb); clear hb hbox hg))
  go_ret
  exact ⟨_, rfl, (show IsS130 w0 _ gb703 l0 0 x3_1 from ⟨_, _, bk_ BK703.out, GE703.out, HR0.out⟩), bl_, by repeat (first | (with_reducible first | exact HBW.out | apply below_alloc | apply pw_below_drewN | apply below_drew1 | refine below_set ?_ GW703.out) | exact HBW.out)⟩
 rw [if_pos c2] at H
 have c2b0 := decide_eq_true c2
 clear c2
 by_cases c3 : x4_1 < 4000
 rotate_left
 ·rw [if_neg c3] at H
  have c3b0 := decide_eq_false c3
  clear c3
  simp only [Option.some.injEq, Prod.mk.injEq] at H
  obtain ⟨rfl, rfl, rfl⟩ := H
  go_wp2_with (first | ((with_reducible refine gate_dst (N := 31) rfl ?_); refine bx_ 31 130 #[.slice A0 l0.length c0, .int .i64 0, .int .i64 x3_1] ?_; intro gb702 hg w5 hbox hb; replace HB := Aside0.mk (below_step bl_ hb); have BK702 := Aside0.mk (hbox); have GW702 := Aside0.mk ((by rw [hg]; exact (below_size (by repeat (first | (with_reducible first | exact HBW.out | apply below_alloc | apply pw_below_drewN | apply below_drew1) | exact HBW.out))) : w.heap.size ≤ gb702)); have GE702 := Aside0.mk ((Nat.le_trans HW0.out (by rw [hg]; exact (below_size (by repeat (first | (with_reducible first | exact HBW.out | apply below_alloc | apply pw_below_drewN | apply below_drew1) | exact HBW.out))) : w.heap.size ≤ gb702) : w0.heap.size ≤ gb702)); replace HBW := Aside0.mk (below_step HBW.out hb); clear hb hbox hg))
  go_ret
  exact ⟨_, rfl, (show IsS130 w0 _ gb702 l0 0 x3_1 from ⟨_, _, bk_ BK702.out, GE702.out, HR0.out⟩), bl_, by repeat (first | (with_reducible first | exact HBW.out | apply below_alloc | apply pw_below_drewN | apply below_drew1 | refine below_set ?_ GW702.out) | exact HBW.out)⟩
 rw [if_pos c3] at H
 have c3b0 := decide_eq_true c3
 clear c3
 by_cases c4 : 0 ≤ x4_1
 rotate_left
 ·exact nn_ c4 H
 rw [if_pos c4] at H
 have c4b0 := decide_eq_true c4
 clear c4
 have H' := Aside0.mk H
 clear H
 have p701 : 0 ≤ (x4_1 : Int) := of_decide_eq_true as_
 have q701 : x4_1 < (l0.length : Int) := of_decide_eq_true as_
 obtain ⟨ad701, e701, hx701_0⟩ := Kd.at_int HR0.out x4_1 p701 q701
 cases e701
 replace hx701_0 := pw_cell_below HB.out hx701_0
 replace p701 := eq_true p701
 replace q701 := eq_true q701
 go_wp2
 go_roundg k1
 case measure => have := HK1.out; omega
 case rel => exact ⟨(Go.bits .and .i64 (wrap64 ((wrap64 ((wrap64 (x3_1 * 131)) + (wrap64 (rd l0 x4_1)))) + 7)) 1073741823), (wrap64 (x4_1 + 1)), (sr_), (sr_), H', ⟨by have := HK1.out; omega⟩, ⟨bl_⟩, ⟨by repeat (first | (with_reducible first | exact HBW.out | apply below_alloc | apply pw_below_drewN | apply below_drew1) | exact HBW.out)⟩⟩


def spec_DrawEntries.f (k : Nat) (l0 : List Int) : Option ((List (S70))) := (spec_l01New.f k l0).bind fun bt704 => ((spec_l19Entries.f k bt704.1 bt704.2.1 bt704.2.2).bind fun bt708 => (some bt708.1))
theorem spec_DrawEntries.mono : ∀ a0 k, LeO (spec_DrawEntries.f k a0) (spec_DrawEntries.f (k + 1) a0) := by
 intro a0 k
 unfold spec_DrawEntries.f
 have m0 := @spec_l01New.mono
 have m1 := @spec_l19Entries.mono
 exact mo_
theorem spec_DrawEntries.calls (k : Nat) (A0 : Option Addr) (c0 : Nat) (l0 : List Int) (r : List (S70)) (w : World) (hr0 : Kd.C (Kd.int .u8) w A0 l0.length l0) (hc0 : l0.length ≤ c0) (h : spec_DrawEntries.f k l0 = some r) :
 Calls Tryd.prog 48 #[.slice A0 l0.length c0] w fun e w' => ∃ v0_ : Value, e = .returned (v0_) ∧ Kd.R k70 70 w' w.heap.size (fun _ => True) v0_ r ∧ Below w.heap.size w w' := by
 have HR0 := Aside0.mk hr0
 have HC0 := Aside0.mk hc0
 clear hr0 hc0
 have HB := Aside0.mk (Below.refl w.heap.size w)
 have H := h
 unfold spec_DrawEntries.f at H
 clear h
 replace H := bs_ H
 obtain ⟨⟨t704, t705, t706⟩, A2, H⟩ := H
 try dsimp only at H
 replace H := bs_ H
 obtain ⟨⟨t708, t711, t712⟩, A3, H⟩ := H
 try dsimp only at H
 obtain rfl := Option.some.inj H
 go_enter Tryd.func48, Tryd.ntmps48
 go_wp2_with (first | ((with_reducible refine gate_callee (f := 94) rfl ?_); refine gs_ (some 4) Tryd.func94 #[.slice A0 l0.length c0] ?_; (with_reducible refine (spec_l01New.calls k _ _ l0 t704 t705 t706 w _ ?side1 ?side2 ?side3 A2.out).mono ?_); (case side1 => repeat (first | (with_reducible first | exact HB.out | apply below_alloc | apply pw_below_drewN | apply below_drew1) | exact HB.out)); (case side2 => exact HR0.out); (case side3 => exact HC0.out); rintro e w4 ⟨g707, rfl, hi, hb, hb2⟩; refine ⟨_, rfl, ?_⟩; replace HB := Aside0.mk (hb); have HI707 := Aside0.mk (hi); (try clear hb); (try clear hb2); (try clear hi)) | ((with_reducible refine gate_callee (f := 93) rfl ?_); refine gs_ (some 5) Tryd.func93 #[.pointer (some ⟨g707, 0, none⟩)] ?_; (with_reducible refine (spec_l19Entries.calls k g707 t704 t705 t706 t708 t711 t712 w _ ?side1 ?side2 A3.out).mono ?_); (case side1 => exact is1_); (case side2 => exact bi1_); rintro e w5 ⟨v709, rfl, ho0, hi, hb, hk⟩; refine ⟨_, rfl, ?_⟩; have HO710 := Aside0.mk (Kd.R_lower ho0 (below_size bi1_)); replace HB := Aside0.mk (hb); replace HI707 := Aside0.mk (hi); (try clear hb); (try clear hk); (try clear hi); (try clear ho0)))
 go_ret
 exact ⟨_, er_, ra_ HO710.out, bi1_⟩


def spec_DrawPlaces.l0 : Nat → List Int → Int → List Int → Int → Int → Option (List Int)
 | 0, _, _, _, _, _ => none
 | k + 1, x4, x5, x717000, x717001, x717002 => if x5 < 12 then ((spec_l01Below.f x717000 x717001 x717002 10000).bind fun bt723 => (if x4.length < 17592186044416 then (spec_DrawPlaces.l0 k (x4 ++ [bt723.1]) (wrap64 (x5 + 1)) x717000 bt723.2.1 bt723.2.2) else (none))) else (some x4)
def spec_DrawPlaces.f (k : Nat) (l0 : List Int) : Option (List Int) := (spec_l01New.f k l0).bind fun bt713 => ((spec_l01Byte.f bt713.1 bt713.2.1 bt713.2.2).bind fun bt717 => (spec_DrawPlaces.l0 k (([] : List Int)) 0 bt713.1 bt717.2.1 bt717.2.2))
theorem spec_DrawPlaces.mono_l : ∀ k, (∀ y0 y1 y2 y3 y4, LeO (spec_DrawPlaces.l0 k y0 y1 y2 y3 y4) (spec_DrawPlaces.l0 (k + 1) y0 y1 y2 y3 y4))
 | 0 => fun _ _ _ _ _ r h => by simp [spec_DrawPlaces.l0] at h
 | k + 1 => by
  have ih0 := spec_DrawPlaces.mono_l k
  ·intro y0 y1 y2 y3 y4
   unfold spec_DrawPlaces.l0
   have m0 := @spec_l01New.mono
   exact mo_
theorem spec_DrawPlaces.mono : ∀ a0 k, LeO (spec_DrawPlaces.f k a0) (spec_DrawPlaces.f (k + 1) a0) := by
 intro a0 k
 have ih0 := spec_DrawPlaces.mono_l k
 unfold spec_DrawPlaces.f
 have m0 := @spec_l01New.mono
 exact mo_
theorem spec_DrawPlaces.calls (k : Nat) (A0 : Option Addr) (c0 : Nat) (l0 : List Int) (r : List Int) (w : World) (hr0 : Kd.C (Kd.int .u8) w A0 l0.length l0) (hc0 : l0.length ≤ c0) (h : spec_DrawPlaces.f k l0 = some r) :
 Calls Tryd.prog 58 #[.slice A0 l0.length c0] w fun e w' => ∃ v0_ : Value, e = .returned (v0_) ∧ Kd.R (Kd.int .i64) 3 w' w.heap.size (fun _ => True) v0_ r ∧ Below w.heap.size w w' := by
 have HR0 := Aside0.mk hr0
 have HC0 := Aside0.mk hc0
 clear hr0 hc0
 have HB := Aside0.mk (Below.refl w.heap.size w)
 have H := h
 unfold spec_DrawPlaces.f at H
 clear h
 replace H := bs_ H
 obtain ⟨⟨t713, t714, t715⟩, A2, H⟩ := H
 try dsimp only at H
 replace H := bs_ H
 obtain ⟨⟨t717, t718, t719⟩, A3, H⟩ := H
 try dsimp only at H
 obtain ⟨y720, hy720⟩ : ∃ y_ : List Int, y_ = (([] : List Int)) := ⟨_, rfl⟩
 replace H : (spec_DrawPlaces.l0 k y720 0 t713 t718 t719) = some r := rp_ H hy720
 have Ny720 := Aside0.mk hy720
 clear hy720
 have H' := Aside0.mk H
 clear H
 go_enter Tryd.func58, Tryd.ntmps58
 go_wp2_with (first | ((with_reducible refine gate_callee (f := 94) rfl ?_); refine gs_ (some 7) Tryd.func94 #[.slice A0 l0.length c0] ?_; (with_reducible refine (spec_l01New.calls k _ _ l0 t713 t714 t715 w _ ?side1 ?side2 ?side3 A2.out).mono ?_); (case side1 => repeat (first | (with_reducible first | exact HB.out | apply below_alloc | apply pw_below_drewN | apply below_drew1) | exact HB.out)); (case side2 => exact HR0.out); (case side3 => exact HC0.out); rintro e w4 ⟨g716, rfl, hi, hb, hb2⟩; refine ⟨_, rfl, ?_⟩; replace HB := Aside0.mk (hb); have HI716 := Aside0.mk (hi); (try clear hb); (try clear hb2); (try clear hi)) | ((with_reducible refine gate_callee (f := 104) rfl ?_); refine gs_ (some 9) Tryd.func104 #[.pointer (some ⟨g716, 0, none⟩)] ?_; (with_reducible refine (spec_l01Byte.calls g716 t713 t714 t715 t717 t718 t719 w _ ?side1 ?side2 A3.out).mono ?_); (case side1 => exact is2_); (case side2 => exact bi2_); rintro e w5 ⟨rfl, hi, hb, hk⟩; refine ⟨_, rfl, ?_⟩; replace HB := Aside0.mk (hb); replace HI716 := Aside0.mk (hi); (try clear hb); (try clear hk); (try clear hi)) | ((with_reducible refine gate_dst (N := 10) rfl ?_); refine Kd.R_lit (Kd.int .i64) _ 3 ?hg (N := 10) ?hd (xs := ([] : List Int)) (inner := []) (ok := fun _ => True) (okp := fun _ => True) ?hr ?hp (fun _ hk => hk) trivial (Below.refl _ _) (Nat.le_refl _) (by simp) ?_; (case hd => rfl); (case hg => rfl); (case hr => first | (go_simp; done) | (go_simp; rfl)); (case hp => exact (Reps.none _ _)); intro v721 w6 ho7 hb hg_ hnew_; clear hg_ hnew_; (first | rw [← Ny720.out] at ho7 | (simp only [Int.reduceToNat] at ho7; rw [← Ny720.out] at ho7)); have HO722 := Aside0.mk (Kd.R_lower ho7 (below_size bi2_)); replace HB := Aside0.mk (below_step bi2_ hb); replace HI716 := Aside0.mk (IsS130.below is2_ hb); clear hb ho7))
 go_loopg [4, 5] k (fun kq v4 v5 w' => ∃ (x4_1 : List Int) (x5_1 : Int) (x717001_1 : Int) (x717002_1 : Int), v5 = .int .i64 x5_1 ∧ Aside0 (spec_DrawPlaces.l0 kq x4_1 x5_1 t713 x717001_1 x717002_1 = some r) ∧ Aside0 (kq ≤ k) ∧ Aside0 (Kd.R (Kd.int .i64) 3 w' w.heap.size (fun _ => True) v4 x4_1) ∧ Aside0 (IsS130 w w' g716 t713 x717001_1 x717002_1) ∧ Aside0 (Below w.heap.size w w'))
 case atStart => exact ⟨(y720), (0), (t718), (t719), (sr_), H', ⟨Nat.le_refl _⟩, ⟨ra_ HO722.out⟩, ⟨is2_⟩, ⟨bi2_⟩⟩
 clear H'
 obtain ⟨x4_1, x5_1, x717001_1, x717002_1, rfl, HA, HK1, HO_4, HI716, HB⟩ := hrel
 cases gk with
 | zero => exact absurd HA.out (by simp [spec_DrawPlaces.l0])
 | succ k1 => ?_
 have H := HA.out
 clear HA
 simp only [spec_DrawPlaces.l0] at H
 by_cases c8 : x5_1 < 12
 rotate_left
 ·rw [if_neg c8] at H
  have c8b0 := decide_eq_false c8
  clear c8
  obtain rfl := Option.some.inj H
  go_wp2
  go_ret
  exact ⟨_, er_, ra_ HO_4.out, bi2_⟩
 rw [if_pos c8] at H
 have c8b0 := decide_eq_true c8
 clear c8
 replace H := bs_ H
 obtain ⟨⟨t723, t724, t725⟩, A9, H⟩ := H
 try dsimp only at H
 by_cases c10 : x4_1.length < 17592186044416
 rotate_left
 ·exact nn_ c10 H
 rw [if_pos c10] at H
 have LMc10 := Aside0.mk c10
 clear c10
 obtain ⟨y726, hy726⟩ : ∃ y_ : List Int, y_ = (x4_1 ++ [t723]) := ⟨_, rfl⟩
 replace H : (spec_DrawPlaces.l0 k1 y726 (wrap64 (x5_1 + 1)) t713 t724 t725) = some r := rp_ H hy726
 have Ny726 := Aside0.mk hy726
 clear hy726
 have H' := Aside0.mk H
 clear H
 go_wp2_with (first | ((with_reducible refine gate_callee (f := 105) rfl ?_); refine gs_ (some 17) Tryd.func105 #[.pointer (some ⟨g716, 0, none⟩), .int .i64 10000] ?_; (with_reducible refine (spec_l01Below.calls g716 t713 x717001_1 x717002_1 10000 t723 t724 t725 w _ ?side1 ?side2 A9.out).mono ?_); (case side1 => exact is2_); (case side2 => exact bi2_); rintro e w11 ⟨rfl, hi, hb, hk⟩; refine ⟨_, rfl, ?_⟩; replace HO_4 := Aside0.mk (Kd.R_mono (Kd.R_keep (IsS130.apart (show IsS130 w _ g716 t713 x717001_1 x717002_1 from is2_) (ra_ HO_4.out) (by decide)) hk (fun _ h => h.2)) (fun _ h => h.1)); replace HB := Aside0.mk (hb); replace HI716 := Aside0.mk (hi); (try clear hb); (try clear hk); (try clear hi)) | ((with_reducible refine gate_builtin (b := .append) (xs := #[.tmp 15, .tmp 18]) rfl ?_); at_builtin; refine Kd.R_append (Kd.int .i64) (w0 := w) w.heap.size rfl (.tmp 15) (.tmp 18) 74 3 (.int .i64 0) 8 rfl Tryd.underlying74 info3 rfl (by decide) (by omega) u4 x4_1 t723 [.int .i64 t723] (fun _ => True) (fun _ => False) rfl rfl ?aP (fun _ hk => hk.elim) ?aF ?aO ?aB ?aS ?aL ?_; (case aP => exact rfl); (case aB => exact bi2_); (case aF => exact (fun _ _ => trivial)); (case aO => exact (ra_ HO_4.out)); (case aS => exact (below_size bi2_)); (case aL => have := LMc10.out; omega); intro v727 w12 ho hb hg hat; rw [← Ny726.out] at ho; replace HI716 := Aside0.mk (IsS130.grown (show IsS130 w _ g716 t713 t724 t725 from is2_) hg (IsS130.own_ne HI716.out HO_4.out (by decide))); replace HB := Aside0.mk (hb); have HO728 := Aside0.mk (ho); clear HO_4; clear ho hb hg hat))
 go_roundg k1
 case measure => have := HK1.out; omega
 case rel => exact ⟨(y726), (wrap64 (x5_1 + 1)), (t724), (t725), (sr_), H', ⟨by have := HK1.out; omega⟩, ⟨ra_ HO728.out⟩, ⟨is2_⟩, ⟨bi2_⟩⟩


def spec_HeadOf.l0 : Nat → List (S70) → ByteArray → Int → Option (ByteArray)
 | 0, _, _, _ => none
 | k + 1, x0, x3, x4 => if x4 < (x0.length : Int) then (if 0 ≤ x4 then ((spec_EntryText.f k ((rd_T70 x0 x4).f0) ((rd_T70 x0 x4).f1) ((rd_T70 x0 x4).f2.f0) ((rd_T70 x0 x4).f2.f1) ((rd_T70 x0 x4).f2.f2) ((rd_T70 x0 x4).f2.f3)).bind fun t731 => (if x3.size + t731.size ≤ 9223372036854775807 then ((spec_Digest.f (x3 ++ t731)).bind fun t732 => (spec_HeadOf.l0 k x0 t732 (wrap64 (x4 + 1)))) else (none))) else (none)) else (some x3)
def spec_HeadOf.f (k : Nat) (l0 : List (S70)) : Option (ByteArray) := (spec_Digest.f (⟨#[]⟩ : ByteArray)).bind fun t729 => (spec_HeadOf.l0 k l0 t729 0)
theorem spec_HeadOf.mono_l : ∀ k, (∀ y0 y1 y2, LeO (spec_HeadOf.l0 k y0 y1 y2) (spec_HeadOf.l0 (k + 1) y0 y1 y2))
 | 0 => fun _ _ _ r h => by simp [spec_HeadOf.l0] at h
 | k + 1 => by
  have ih0 := spec_HeadOf.mono_l k
  ·intro y0 y1 y2
   unfold spec_HeadOf.l0
   have m0 := @spec_EntryText.mono
   exact mo_
theorem spec_HeadOf.mono : ∀ a0 k, LeO (spec_HeadOf.f k a0) (spec_HeadOf.f (k + 1) a0) := by
 intro a0 k
 have ih0 := spec_HeadOf.mono_l k
 unfold spec_HeadOf.f
 have m0 := @spec_EntryText.mono
 exact mo_
theorem spec_HeadOf.calls (k : Nat) (A0 : Option Addr) (c0 : Nat) (l0 : List (S70)) (r : ByteArray) (w : World) (hr0 : Kd.C k70 w A0 l0.length l0) (hc0 : l0.length ≤ c0) (h : spec_HeadOf.f k l0 = some r) :
 Calls Tryd.prog 65 #[.slice A0 l0.length c0] w fun e w' => e = .returned (.string r) ∧ Below w.heap.size w w' := by
 have hu70 := Tryd.underlying70
 have HR0 := Aside0.mk hr0
 have HC0 := Aside0.mk hc0
 clear hr0 hc0
 have HB := Aside0.mk (Below.refl w.heap.size w)
 have H := h
 unfold spec_HeadOf.f at H
 clear h
 replace H := bs_ H
 obtain ⟨t729, A2, H⟩ := H
 try dsimp only at H
 have H' := Aside0.mk H
 clear H
 go_enter Tryd.func65, Tryd.ntmps65
 go_wp2_with (first | ((with_reducible refine gate_callee (f := 56) rfl ?_); refine gs_ (some 5) Tryd.func56 #[.string (⟨#[]⟩ : ByteArray)] ?_; (with_reducible refine (spec_Digest.calls (⟨#[]⟩ : ByteArray) t729 _ A2.out).mono ?_); rintro e w3 ⟨rfl, hb⟩; refine ⟨_, rfl, ?_⟩; replace HB := Aside0.mk (below_step bl_ hb); (try clear hb)))
 go_loopg [3, 4] k (fun kq v3 v4 w' => ∃ (x3_1 : ByteArray) (x4_1 : Int), v3 = .string x3_1 ∧ v4 = .int .i64 x4_1 ∧ Aside0 (spec_HeadOf.l0 kq l0 x3_1 x4_1 = some r) ∧ Aside0 (kq ≤ k) ∧ Aside0 (Below w.heap.size w w'))
 case atStart => exact ⟨(t729), (0), (sr_), (sr_), H', ⟨Nat.le_refl _⟩, ⟨bl_⟩⟩
 clear H'
 obtain ⟨x3_1, x4_1, rfl, rfl, HA, HK1, HB⟩ := hrel
 cases gk with
 | zero => exact absurd HA.out (by simp [spec_HeadOf.l0])
 | succ k1 => ?_
 have H := HA.out
 clear HA
 simp only [spec_HeadOf.l0] at H
 by_cases c4 : x4_1 < (l0.length : Int)
 rotate_left
 ·rw [if_neg c4] at H
  have c4b0 := decide_eq_false c4
  clear c4
  obtain rfl := Option.some.inj H
  go_wp2
  go_ret
  exact ⟨er_, bl_⟩
 rw [if_pos c4] at H
 have c4b0 := decide_eq_true c4
 clear c4
 by_cases c5 : 0 ≤ x4_1
 rotate_left
 ·exact nn_ c5 H
 rw [if_pos c5] at H
 have c5b0 := decide_eq_true c5
 clear c5
 replace H := bs_ H
 obtain ⟨t731, A6, H⟩ := H
 try dsimp only at H
 by_cases c7 : x3_1.size + t731.size ≤ 9223372036854775807
 rotate_left
 ·exact nn_ c7 H
 rw [if_pos c7] at H
 have c7b0 := eq_true c7
 have c7b1 : decide (x3_1.size + t731.size ≤ 9223372036854775807) = true := decide_eq_true c7
 try have c7b2 : (9223372036854775807 < x3_1.size + t731.size) = False := eq_false (Nat.not_lt.2 c7)
 replace H := bs_ H
 obtain ⟨t732, A8, H⟩ := H
 try dsimp only at H
 have H' := Aside0.mk H
 clear H
 have p730 : 0 ≤ (x4_1 : Int) := of_decide_eq_true as_
 have q730 : x4_1 < (l0.length : Int) := of_decide_eq_true as_
 obtain ⟨ad730, e730, hx730_0, hx730_1, hx730_2, hx730_3, hx730_4, hx730_5⟩ := at_T70 HR0.out x4_1 p730 q730
 cases e730
 replace hx730_0 := (HB.out.cell (World.block_lt_of_cell? w _ hx730_0)).trans hx730_0
 replace hx730_1 := (HB.out.cell (World.block_lt_of_cell? w _ hx730_1)).trans hx730_1
 replace hx730_2 := (HB.out.cell (World.block_lt_of_cell? w _ hx730_2)).trans hx730_2
 replace hx730_3 := (HB.out.cell (World.block_lt_of_cell? w _ hx730_3)).trans hx730_3
 replace hx730_4 := (HB.out.cell (World.block_lt_of_cell? w _ hx730_4)).trans hx730_4
 replace hx730_5 := (HB.out.cell (World.block_lt_of_cell? w _ hx730_5)).trans hx730_5
 replace p730 := eq_true p730
 replace q730 := eq_true q730
 go_wp2_with (first | ((with_reducible refine gate_callee (f := 64) rfl ?_); refine gs_ (some 17) Tryd.func64 #[.agg #[.int .i64 ((rd_T70 l0 x4_1).f0), .int .i64 ((rd_T70 l0 x4_1).f1), .int .i64 ((rd_T70 l0 x4_1).f2.f0), .int .i64 ((rd_T70 l0 x4_1).f2.f1), .int .i64 ((rd_T70 l0 x4_1).f2.f2), .int .i64 ((rd_T70 l0 x4_1).f2.f3)]] ?_; (with_reducible refine (spec_EntryText.calls k1 ((rd_T70 l0 x4_1).f0) ((rd_T70 l0 x4_1).f1) ((rd_T70 l0 x4_1).f2.f0) ((rd_T70 l0 x4_1).f2.f1) ((rd_T70 l0 x4_1).f2.f2) ((rd_T70 l0 x4_1).f2.f3) t731 _ A6.out).mono ?_); rintro e w9 ⟨rfl, hb⟩; refine ⟨_, rfl, ?_⟩; replace HB := Aside0.mk (below_step bl_ hb); (try clear hb)) | ((with_reducible refine gate_callee (f := 56) rfl ?_); refine gs_ (some 19) Tryd.func56 #[.string (x3_1 ++ t731)] ?_; (with_reducible refine (spec_Digest.calls (x3_1 ++ t731) t732 _ A8.out).mono ?_); rintro e w10 ⟨rfl, hb⟩; refine ⟨_, rfl, ?_⟩; replace HB := Aside0.mk (below_step bl_ hb); (try clear hb)))
 go_roundg k1
 case measure => have := HK1.out; omega
 case rel => exact ⟨(t732), (wrap64 (x4_1 + 1)), (sr_), (sr_), H', ⟨by have := HK1.out; omega⟩, ⟨bl_⟩⟩

end Go.Proofs.YtdhjolglbcoijaaDoor.PA

namespace Go.Proofs.YtdhjolglbcoijaaDoor.PA
open Go.RowKit Go.Proofs.YtdhjolglbcoijaaDoorW.PrintWords Go.Proofs.YtdhjolglbcoijaaDoorW.PrintLast Go.Proofs.YtdhjolglbcoijaaDoorW.PrintMore
attribute [local go_sem] max2_int min2_int max_two min_two max_three min_three max_four min_four   -- for this text's walks alone
set_option linter.unusedVariables false
set_option linter.unusedSimpArgs false

theorem eqA70 (d : Nat) (w : World) (x0 y0 : Int) (x1 y1 : Int) (x2 y2 : Int) (x3 y3 : Int) (x4 y4 : Int) (x5 y5 : Int) :
 (Op.equalIn (d + 3) 70 (.agg #[.int .i64 x0, .int .i64 x1, .int .i64 x2, .int .i64 x3, .int .i64 x4, .int .i64 x5]) (.agg #[.int .i64 y0, .int .i64 y1, .int .i64 y2, .int .i64 y3, .int .i64 y4, .int .i64 y5])).run Tryd.prog w = .ok (x0 == y0 && (x1 == y1 && ((x2 == y2 && (x3 == y3 && (x4 == y4 && (x5 == y5))))))) w := by
 refine eqA_of Tryd.underlying70 (by kernel_rfl) ?_
 refine eqf_cons (by rfl) (by go_simp; rfl) (by go_simp; rfl) (by go_simp) ?_
 refine eqf_cons (by rfl) (by go_simp; rfl) (by go_simp; rfl) (by go_simp) ?_
 exact eqf_last (by rfl) (by go_simp) (by go_simp) (eqA68 (d + 0) w _ _ _ _ _ _ _ _)
end Go.Proofs.YtdhjolglbcoijaaDoor.PA
