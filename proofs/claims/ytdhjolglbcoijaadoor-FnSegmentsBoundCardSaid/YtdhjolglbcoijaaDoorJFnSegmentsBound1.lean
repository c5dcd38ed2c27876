/- Contracts of functions of the program and of the reference, and plain lemmas on what they compute: a part of the proof of the law FnSegmentsBound. No condition. -/
import Derived.Test.YtdhjolglbcoijaaDoorG7ebe2x0
import Derived.Test.YtdhjolglbcoijaaDoorG2d3dax0
import Derived.Test.YtdhjolglbcoijaaDoorGee5d4x0
import Derived.Test.YtdhjolglbcoijaaDoorShort
namespace Go.Proofs.YtdhjolglbcoijaaDoor.PA
open Go.RowKit Go.Proofs.YtdhjolglbcoijaaDoor.Short Go.Proofs.YtdhjolglbcoijaaDoorW.PrintWords Go.Proofs.YtdhjolglbcoijaaDoorW.PrintLast Go.Proofs.YtdhjolglbcoijaaDoorW.PrintMore
attribute [local go_sem] max2_int min2_int max_two min_two max_three min_three max_four min_four   -- for this text's walks alone
set_option linter.unusedVariables false
set_option linter.unusedSimpArgs false

/-! ### spec_l28Entries: function 85 -/
def spec_l28Entries.f (l0 : List (S70)) : Option ((List (S70))) := (some (([] : List (S70)) : List (S70))).bind fun y634 => (if y634.length + l0.length < 2932031007402 then (some (y634 ++ l0)) else (none))
set_option maxHeartbeats 8000000 in
set_option maxRecDepth 100000 in
theorem spec_l28Entries.calls (A0 : Option Addr) (c0 : Nat) (l0 : List (S70)) (r : List (S70)) (w : World) (hr0 : Kd.C k70 w A0 l0.length l0) (hc0 : l0.length ≤ c0) (h : spec_l28Entries.f l0 = some r) :
 Calls Tryd.prog 85 #[.slice A0 l0.length c0] w fun e w' => ∃ v0_ : Value, e = .returned (v0_) ∧ Kd.R k70 70 w' w.heap.size (fun _ => True) v0_ r ∧ Below w.heap.size w w' := by
 have HR0 := Aside0.mk hr0
 have HC0 := Aside0.mk hc0
 clear hr0 hc0
 have HB := Aside0.mk (Below.refl w.heap.size w)
 have H : ((some (([] : List (S70)) : List (S70))).bind fun y634 => (if y634.length + l0.length < 2932031007402 then (some (y634 ++ l0)) else (none))) = some r := h
 clear h
 obtain ⟨y634, hy634⟩ : ∃ y_ : List (S70), y_ = (([] : List (S70))) := ⟨_, rfl⟩
 replace H : (if y634.length + l0.length < 2932031007402 then (some (y634 ++ l0)) else (none)) = some r := by first | (rw [hy634]; with_reducible exact H) | (have H2_ := (Option.bind_some _ _).symm.trans H; rw [hy634]; with_reducible exact H2_) | (have H2_ := (Option.bind_some _ _).symm.trans H; with_reducible exact H2_) | with_reducible exact H | (rw [hy634]; exact H) | exact H
 have Ny634 := Aside0.mk hy634
 clear hy634
 by_cases c2 : y634.length + l0.length < 2932031007402
 ·rw [if_pos c2] at H
  have LMc2 := Aside0.mk c2
  clear c2
  obtain ⟨y637, hy637⟩ : ∃ y_ : List (S70), y_ = (y634 ++ l0) := ⟨_, rfl⟩
  replace H : (some y637) = some r := by first | (rw [hy637]; with_reducible exact H) | (have H2_ := (Option.bind_some _ _).symm.trans H; rw [hy637]; with_reducible exact H2_) | (have H2_ := (Option.bind_some _ _).symm.trans H; with_reducible exact H2_) | with_reducible exact H | (rw [hy637]; exact H) | exact H
  have Ny637 := Aside0.mk hy637
  clear hy637
  obtain rfl := Option.some.inj H
  go_enter Tryd.func85, Tryd.ntmps85
  go_wp2_with (first | ((with_reducible refine gate_dst (N := 3) rfl ?_); refine Kd.R_lit k70 _ 70 ?hg (N := 3) ?hd (xs := ([] : List (S70))) (inner := []) (ok := fun _ => True) (okp := fun _ => True) ?hr ?hp (fun _ hk => hk) trivial (Below.refl _ _) (Nat.le_refl _) (by simp) ?_; (case hd => rfl); (case hg => rfl); (case hr => first | (go_simp; done) | (go_simp; rfl)); (case hp => exact (Reps.none _ _)); intro v635 w3 ho4 hb hg_ hnew_; clear hg_ hnew_; (first | rw [← Ny634.out] at ho4 | (simp only [Int.reduceToNat] at ho4; rw [← Ny634.out] at ho4)); have n0_ := Aside0.mk (Kd.R_lower ho4 (below_size bl_)); have n1_ := Aside0.mk (below_step bl_ hb); clear HB; have HO636 := n0_; have HB := n1_; clear n0_ n1_; clear hb ho4) | ((with_reducible refine gate_builtin (b := .append) (xs := #[.tmp 3, .tmp 4]) rfl ?_); at_builtin; refine Kd.R_append_rows k70 (w0 := w) w.heap.size rfl (.tmp 3) (.tmp 4) 28 70 (.agg #[(.int .i64 0), (.int .i64 0), (.int .i64 0), (.int .i64 0), (.int .i64 0), (.int .i64 0)]) 48 rfl Tryd.underlying28 info70 rfl (by decide) (by omega) v635 y634 l0 _ _ _ (fun _ => True) (fun _ => False) rfl rfl ?aO ?aR (fun _ _ h => h) (fun _ h => h.elim) ?aF ?aB ?aS ?aL ?_; (case aR => repeat (first | exact (Kd.C_below HR0.out HB.out) | exact HR0.out | (with_reducible refine Kd.C_alloc ?_ _) | (with_reducible refine Kd.C_drewN ?_ _) | (with_reducible refine Kd.C_drew ?_))); (case aB => exact bl_); (case aF => exact (fun _ _ => trivial)); (case aO => exact (ra_ HO636.out)); (case aS => exact (below_size bl_)); (case aL => have := LMc2.out; omega); intro v638 w5 ho hb hg hat; rw [← Ny637.out] at ho; have n0_ := Aside0.mk (hb); have n1_ := Aside0.mk (ho); clear HB; clear HO636; have HB := n0_; have HO639 := n1_; clear n0_ n1_; clear ho hb hg hat))
  go_ret
  exact ⟨_, by first | rfl | (simp [errW_none, errW_some] <;> rfl) | (simp [*, errW_none, errW_some] <;> rfl), ra_ HO639.out, bl_⟩
 ·rw [if_neg c2] at H
  exact absurd H (by simp)


/-! ### spec_CutLog: function 33 -/
mutual
def spec_CutLog.j0 : Nat → List (S70) → Int → List (S30) → Bool → Option ((List (S30)) × Bool)
 | 0, _, _, _, _ => none
 | k + 1, x0, x1, x6, x19 => if x19 = true then (some (x6, false)) else ((spec_Digest.f (⟨#[]⟩ : ByteArray)).bind fun t644 => (spec_CutLog.l0 k x0 x1 x6 t644 0))
def spec_CutLog.l0 : Nat → List (S70) → Int → List (S30) → ByteArray → Int → Option ((List (S30)) × Bool)
 | 0, _, _, _, _, _ => none
 | k + 1, x0, x1, x6, x7, x8 => if x8 < (x0.length : Int) then (if (wrap64 (x8 + x1)) > (x0.length : Int) then (if 0 ≤ x8 then (if x8 ≤ (x0.length : Int) then (if (x0.length : Int) ≤ (x0.length : Int) then ((spec_l28Entries.f ((x0.take ((x0.length : Int) : Int).toNat).drop (x8 : Int).toNat)).bind fun t649 => ((spec_HeadFrom.f k x7 t649).bind fun t653 => (if x6.length < 2199023255552 then (spec_CutLog.l0 k x0 x1 (x6 ++ [(⟨x8, x7, t649, t653⟩ : S30)]) t653 (wrap64 (x8 + x1))) else (none)))) else (none)) else (none)) else (none)) else (if 0 ≤ x8 then (if x8 ≤ (wrap64 (x8 + x1)) then (if (wrap64 (x8 + x1)) ≤ (x0.length : Int) then ((spec_l28Entries.f ((x0.take ((wrap64 (x8 + x1)) : Int).toNat).drop (x8 : Int).toNat)).bind fun t661 => ((spec_HeadFrom.f k x7 t661).bind fun t665 => (if x6.length < 2199023255552 then (spec_CutLog.l0 k x0 x1 (x6 ++ [(⟨x8, x7, t661, t665⟩ : S30)]) t665 (wrap64 (x8 + x1))) else (none)))) else (none)) else (none)) else (none))) else (some (x6, true))
end
def spec_CutLog.f (k : Nat) (l0 : List (S70)) (a1 : Int) : Option ((List (S30)) × Bool) := (some (([] : List (S30)) : List (S30))).bind fun y640 => ((spec_l01In.f a1 1 200).bind fun t643 => (if t643 = true then (spec_CutLog.j0 k l0 a1 y640 (decide ((l0.length : Int) > 200))) else (spec_CutLog.j0 k l0 a1 y640 true)))
theorem spec_CutLog.mono_l : ∀ k, (∀ y0 y1 y2 y3, LeO (spec_CutLog.j0 k y0 y1 y2 y3) (spec_CutLog.j0 (k + 1) y0 y1 y2 y3)) ∧ (∀ y0 y1 y2 y3 y4, LeO (spec_CutLog.l0 k y0 y1 y2 y3 y4) (spec_CutLog.l0 (k + 1) y0 y1 y2 y3 y4))
 | 0 => ⟨fun _ _ _ _ r h => by simp [spec_CutLog.j0] at h, fun _ _ _ _ _ r h => by simp [spec_CutLog.l0] at h⟩
 | k + 1 => by
  obtain ⟨ih0, ih1⟩ := spec_CutLog.mono_l k
  refine ⟨?_, ?_⟩
  ·intro y0 y1 y2 y3
   unfold spec_CutLog.j0
   repeat' first
   | (with_reducible exact ih0 _ _ _ _)
   | (with_reducible exact ih1 _ _ _ _ _)
   | (with_reducible exact spec_HeadFrom.mono _ _ _)
   | (with_reducible exact LeO.refl _)
   | (with_reducible exact LeO.none _)
   | (with_reducible refine LeO.ite ?_ ?_)
   | (with_reducible refine LeO.bind ?_ (fun _ => ?_))
   | exact ih0 _ _ _ _
   | exact ih1 _ _ _ _ _
   | exact spec_HeadFrom.mono _ _ _
   | exact LeO.none _
   | refine LeO.ite ?_ ?_
   | refine LeO.bind ?_ (fun _ => ?_)
  ·intro y0 y1 y2 y3 y4
   unfold spec_CutLog.l0
   repeat' first
   | (with_reducible exact ih0 _ _ _ _)
   | (with_reducible exact ih1 _ _ _ _ _)
   | (with_reducible exact spec_HeadFrom.mono _ _ _)
   | (with_reducible exact LeO.refl _)
   | (with_reducible exact LeO.none _)
   | (with_reducible refine LeO.ite ?_ ?_)
   | (with_reducible refine LeO.bind ?_ (fun _ => ?_))
   | exact ih0 _ _ _ _
   | exact ih1 _ _ _ _ _
   | exact spec_HeadFrom.mono _ _ _
   | exact LeO.none _
   | refine LeO.ite ?_ ?_
   | refine LeO.bind ?_ (fun _ => ?_)
theorem spec_CutLog.mono : ∀ a0 a1 k, LeO (spec_CutLog.f k a0 a1) (spec_CutLog.f (k + 1) a0 a1) := by
 intro a0 a1 k
 obtain ⟨ih0, ih1⟩ := spec_CutLog.mono_l k
 unfold spec_CutLog.f
 repeat' first
  | (with_reducible exact ih0 _ _ _ _)
  | (with_reducible exact ih1 _ _ _ _ _)
  | (with_reducible exact spec_HeadFrom.mono _ _ _)
  | (with_reducible exact LeO.refl _)
  | (with_reducible exact LeO.none _)
  | (with_reducible refine LeO.ite ?_ ?_)
  | (with_reducible refine LeO.bind ?_ (fun _ => ?_))
  | exact ih0 _ _ _ _
  | exact ih1 _ _ _ _ _
  | exact spec_HeadFrom.mono _ _ _
  | exact LeO.none _
  | refine LeO.ite ?_ ?_
  | refine LeO.bind ?_ (fun _ => ?_)
set_option maxHeartbeats 8000000 in
set_option maxRecDepth 100000 in
theorem spec_CutLog.calls (k : Nat) (A0 : Option Addr) (c0 : Nat) (l0 : List (S70)) (a1 : Int) (r1 : List (S30)) (r2 : Bool) (w : World) (hr0 : Kd.C k70 w A0 l0.length l0) (hc0 : l0.length ≤ c0) (h : spec_CutLog.f k l0 a1 = some (r1, r2)) :
 Calls Tryd.prog 33 #[.slice A0 l0.length c0, .int .i64 a1] w fun e w' => ∃ v0_ : Value, e = .returned (.tuple #[v0_, .bool r2]) ∧ Kd.S k30 30 w' w.heap.size (fun _ => True) v0_ r1 ∧ Below w.heap.size w w' := by
 have hu30 := Tryd.underlying30
 have HR0 := Aside0.mk hr0
 have HC0 := Aside0.mk hc0
 clear hr0 hc0
 have HB := Aside0.mk (Below.refl w.heap.size w)
 have H : ((some (([] : List (S30)) : List (S30))).bind fun y640 => ((spec_l01In.f a1 1 200).bind fun t643 => (if t643 = true then (spec_CutLog.j0 k l0 a1 y640 (decide ((l0.length : Int) > 200))) else (spec_CutLog.j0 k l0 a1 y640 true)))) = some (r1, r2) := h
 clear h
 obtain ⟨y640, hy640⟩ : ∃ y_ : List (S30), y_ = (([] : List (S30))) := ⟨_, rfl⟩
 replace H : ((spec_l01In.f a1 1 200).bind fun t643 => (if t643 = true then (spec_CutLog.j0 k l0 a1 y640 (decide ((l0.length : Int) > 200))) else (spec_CutLog.j0 k l0 a1 y640 true))) = some (r1, r2) := by first | (rw [hy640]; with_reducible exact H) | (have H2_ := (Option.bind_some _ _).symm.trans H; rw [hy640]; with_reducible exact H2_) | (have H2_ := (Option.bind_some _ _).symm.trans H; with_reducible exact H2_) | with_reducible exact H | (rw [hy640]; exact H) | exact H
 have Ny640 := Aside0.mk hy640
 clear hy640
 have HC3 := Aside0.mk H
 clear H
 go_enter Tryd.func33, Tryd.ntmps33
 go_upto_region 2 with (first | ((with_reducible refine gate_dst (N := 11) rfl ?_); (try (refine gate_guard (by rfl) ?_; dsimp only)); refine Kd.S_lit k30 _ 30 ?hg (N := 11) ?hd (xs := ([] : List (S30))) (inner := []) (ok := fun _ => True) (okp := fun _ => True) ?hr ?hp (fun _ hk => hk) trivial (Below.refl _ _) (Nat.le_refl _) (by simp) ?_; (case hd => rfl); (case hg => rfl); (case hr => first | (go_simp; done) | (go_simp; rfl)); (case hp => exact (Reps.none _ _)); intro v641 w4 ho5 hb hg_ hnew_; clear hg_ hnew_; (first | rw [← Ny640.out] at ho5 | (simp only [Int.reduceToNat] at ho5; rw [← Ny640.out] at ho5)); have n0_ := Aside0.mk (Kd.S_lower ho5 (below_size bl_)); have n1_ := Aside0.mk (below_step bl_ hb); clear HB; have HO642 := n0_; have HB := n1_; clear n0_ n1_; clear hb ho5))
 (try simp only [Act.put, List.setIfInBounds_toArray, List.set_cons_zero, List.set_cons_succ])
 go_cut [19] (fun v19 wc => ∃ (kq : Nat) (x19_2 : Bool), v19 = .bool x19_2 ∧ Aside0 (spec_CutLog.j0 kq l0 a1 y640 x19_2 = some (r1, r2)) ∧ Aside0 (kq ≤ k) ∧ Aside0 (Kd.S k30 30 wc w.heap.size (fun _ => True) v641 y640) ∧ Aside0 (Below w.heap.size w wc))
 case first =>
  have H := HC3.out
  clear HC3
  replace H := Option.bind_eq_some_iff.mp H
  obtain ⟨t643, A60, H⟩ := H
  replace H : (if t643 = true then (spec_CutLog.j0 k l0 a1 y640 (decide ((l0.length : Int) > 200))) else (spec_CutLog.j0 k l0 a1 y640 true)) = some (r1, r2) := H
  have A6 := Aside0.mk A60
  clear A60
  by_cases c7 : t643 = true
  ·subst c7
   have H1 : (spec_CutLog.j0 k l0 a1 y640 (decide ((l0.length : Int) > 200))) = some (r1, r2) := by rw [if_pos rfl] at H; exact H
   clear H
   have H := H1
   clear H1
   have H' := Aside0.mk H
   clear H
   go_wp2_with (first | ((with_reducible refine gate_callee (f := 70) rfl ?_); refine goesL_ (some 13) rfl rfl Tryd.func70 (by kernel_rfl) rfl #[.int .i64 a1, .int .i64 1, .int .i64 200] rfl lm_ ?_; (with_reducible refine (spec_l01In.calls a1 1 200 true _ A6.out).mono ?_); rintro e w' ⟨rfl, ⟨nd, rfl⟩⟩; refine ⟨_, rfl, ?_⟩))
   go_meet
   case rel => exact ⟨_, (decide ((l0.length : Int) > 200)), (by first | rfl | (simp; done) | (simp [*]; done)), H', ⟨by first | omega | exact Nat.le_refl _⟩, ⟨by (with_reducible repeat (first | apply Kd.S_alloc | apply Kd.S_drewN | apply Kd.S_drew)); exact HO642.out⟩, ⟨bl_⟩⟩
  ·replace c7 := Bool.eq_false_iff.mpr c7
   subst c7
   have H1 : (spec_CutLog.j0 k l0 a1 y640 true) = some (r1, r2) := by rw [if_neg (show ¬ (false = true) by decide)] at H; exact H
   clear H
   have H := H1
   clear H1
   have H' := Aside0.mk H
   clear H
   go_wp2_with (first | ((with_reducible refine gate_callee (f := 70) rfl ?_); refine goesL_ (some 13) rfl rfl Tryd.func70 (by kernel_rfl) rfl #[.int .i64 a1, .int .i64 1, .int .i64 200] rfl lm_ ?_; (with_reducible refine (spec_l01In.calls a1 1 200 false _ A6.out).mono ?_); rintro e w' ⟨rfl, ⟨nd, rfl⟩⟩; refine ⟨_, rfl, ?_⟩))
   go_meet
   case rel => exact ⟨_, (true), (by first | rfl | (simp; done) | (simp [*]; done)), H', ⟨by first | omega | exact Nat.le_refl _⟩, ⟨by (with_reducible repeat (first | apply Kd.S_alloc | apply Kd.S_drewN | apply Kd.S_drew)); exact HO642.out⟩, ⟨bl_⟩⟩
 case rest =>
  clear HC3
  try clear p2
  try clear c3
  try clear c7
  obtain ⟨kq, x19_2, rfl, HA, HJ2, HO_6, HB⟩ := hcut
  cases kq with
  | zero => exact absurd HA.out (by simp [spec_CutLog.j0])
  | succ kj2 =>
   have H := HA.out
   clear HA
   simp only [spec_CutLog.j0] at H
   by_cases c8 : x19_2 = true
   ·subst c8
    have H1 : (some (y640, false)) = some (r1, r2) := by rw [if_pos rfl] at H; exact H
    clear H
    have H := H1
    clear H1
    simp only [Option.some.injEq, Prod.mk.injEq] at H
    obtain ⟨rfl, rfl⟩ := H
    go_wp2
    go_ret2
    exact ⟨_, by first | rfl | (simp [errW_none, errW_some] <;> rfl) | (simp [*, errW_none, errW_some] <;> rfl), by (with_reducible repeat (first | apply Kd.S_alloc | apply Kd.S_drewN | apply Kd.S_drew)); exact HO_6.out, bl_⟩
   ·replace c8 := Bool.eq_false_iff.mpr c8
    subst c8
    have H1 : ((spec_Digest.f (⟨#[]⟩ : ByteArray)).bind fun t644 => (spec_CutLog.l0 kj2 l0 a1 y640 t644 0)) = some (r1, r2) := by rw [if_neg (show ¬ (false = true) by decide)] at H; exact H
    clear H
    have H := H1
    clear H1
    replace H := Option.bind_eq_some_iff.mp H
    obtain ⟨t644, A90, H⟩ := H
    replace H : (spec_CutLog.l0 kj2 l0 a1 y640 t644 0) = some (r1, r2) := H
    have A9 := Aside0.mk A90
    clear A90
    have H' := Aside0.mk H
    clear H
    go_wp2_with (first | ((with_reducible refine gate_callee (f := 56) rfl ?_); refine goesL_ (some 21) rfl rfl Tryd.func56 (by kernel_rfl) rfl #[.string (⟨#[]⟩ : ByteArray)] rfl lm_ ?_; (with_reducible refine (spec_Digest.calls (⟨#[]⟩ : ByteArray) t644 _ A9.out).mono ?_); rintro e w10 ⟨rfl, hb⟩; refine ⟨_, rfl, ?_⟩; have n0_ := Aside0.mk (Kd.S_below (by (with_reducible repeat (first | apply Kd.S_alloc | apply Kd.S_drewN | apply Kd.S_drew)); exact HO_6.out) hb); have n1_ := Aside0.mk (below_step bl_ hb); clear HO_6; clear HB; have HO_6 := n0_; have HB := n1_; clear n0_ n1_; (try clear hb); (try clear hb2); (try clear hk); (try clear hi)))
    go_loopg [6, 7, 8] kj2 (fun kq v6 v7 v8 w' => ∃ (x6_2 : List (S30)) (x7_2 : ByteArray) (x8_2 : Int), v7 = .string x7_2 ∧ v8 = .int .i64 x8_2 ∧ Aside0 (spec_CutLog.l0 kq l0 a1 x6_2 x7_2 x8_2 = some (r1, r2)) ∧ Aside0 (kq ≤ kj2) ∧ Aside0 (Kd.S k30 30 w' w.heap.size (fun _ => True) v6 x6_2) ∧ Aside0 (Below w.heap.size w w'))
    case atStart => exact ⟨(y640), (t644), (0), (by first | rfl | (simp; done) | (simp [*]; done)), (by first | rfl | (simp; done) | (simp [*]; done)), H', ⟨Nat.le_refl _⟩, ⟨by (with_reducible repeat (first | apply Kd.S_alloc | apply Kd.S_drewN | apply Kd.S_drew)); exact HO_6.out⟩, ⟨bl_⟩⟩
    case round =>
     clear H'
     try clear p2
     try clear c3
     try clear c5
     try clear c7
     try clear c8
     try clear p2
     obtain ⟨x6_2, x7_2, x8_2, rfl, rfl, HA, HK2, HO_6, HB⟩ := hrel
     cases gk with
     | zero => exact absurd HA.out (by simp [spec_CutLog.l0])
     | succ k2 =>
      have H := HA.out
      clear HA
      simp only [spec_CutLog.l0] at H
      by_cases c11 : x8_2 < (l0.length : Int)
      ·rw [if_pos c11] at H
       have c11b0 : decide (x8_2 < (l0.length : Int)) = true := decide_eq_true c11
       clear c11
       by_cases c12 : (wrap64 (x8_2 + a1)) > (l0.length : Int)
       ·rw [if_pos c12] at H
        have c12b0 : decide ((l0.length : Int) < (wrap64 (x8_2 + a1))) = true := decide_eq_true c12
        clear c12
        by_cases c13 : 0 ≤ x8_2
        ·rw [if_pos c13] at H
         have c13b0 := eq_true c13
         have c13b1 : decide (0 ≤ x8_2) = true := decide_eq_true c13
         clear c13
         by_cases c14 : x8_2 ≤ (l0.length : Int)
         ·rw [if_pos c14] at H
          have c14b0 := eq_true c14
          have c14b1 : decide (x8_2 ≤ (l0.length : Int)) = true := decide_eq_true c14
          clear c14
          by_cases c15 : (l0.length : Int) ≤ (l0.length : Int)
          ·rw [if_pos c15] at H
           have c15b0 := eq_true c15
           have c15b1 : decide ((l0.length : Int) ≤ (l0.length : Int)) = true := decide_eq_true c15
           clear c15
           obtain ⟨y645, hy645⟩ : ∃ y_ : List (S70), y_ = ((l0.take ((l0.length : Int) : Int).toNat).drop (x8_2 : Int).toNat) := ⟨_, rfl⟩
           replace H : ((spec_l28Entries.f y645).bind fun t649 => ((spec_HeadFrom.f k2 x7_2 t649).bind fun t653 => (if x6_2.length < 2199023255552 then (spec_CutLog.l0 k2 l0 a1 (x6_2 ++ [(⟨x8_2, x7_2, t649, t653⟩ : S30)]) t653 (wrap64 (x8_2 + a1))) else (none)))) = some (r1, r2) := by first | (rw [hy645]; with_reducible exact H) | (have H2_ := (Option.bind_some _ _).symm.trans H; rw [hy645]; with_reducible exact H2_) | (have H2_ := (Option.bind_some _ _).symm.trans H; with_reducible exact H2_) | with_reducible exact H | (rw [hy645]; exact H) | exact H
           have Ny645 := Aside0.mk hy645
           clear hy645
           replace H := Option.bind_eq_some_iff.mp H
           obtain ⟨t649, A160, H⟩ := H
           replace H : ((spec_HeadFrom.f k2 x7_2 t649).bind fun t653 => (if x6_2.length < 2199023255552 then (spec_CutLog.l0 k2 l0 a1 (x6_2 ++ [(⟨x8_2, x7_2, t649, t653⟩ : S30)]) t653 (wrap64 (x8_2 + a1))) else (none))) = some (r1, r2) := H
           have A16 := Aside0.mk A160
           clear A160
           replace H := Option.bind_eq_some_iff.mp H
           obtain ⟨t653, A170, H⟩ := H
           replace H : (if x6_2.length < 2199023255552 then (spec_CutLog.l0 k2 l0 a1 (x6_2 ++ [(⟨x8_2, x7_2, t649, t653⟩ : S30)]) t653 (wrap64 (x8_2 + a1))) else (none)) = some (r1, r2) := H
           have A17 := Aside0.mk A170
           clear A170
           by_cases c18 : x6_2.length < 2199023255552
           ·rw [if_pos c18] at H
            have LMc18 := Aside0.mk c18
            clear c18
            obtain ⟨y654, hy654⟩ : ∃ y_ : List (S30), y_ = (x6_2 ++ [(⟨x8_2, x7_2, t649, t653⟩ : S30)]) := ⟨_, rfl⟩
            replace H : (spec_CutLog.l0 k2 l0 a1 y654 t653 (wrap64 (x8_2 + a1))) = some (r1, r2) := by first | (rw [hy654]; with_reducible exact H) | (have H2_ := (Option.bind_some _ _).symm.trans H; rw [hy654]; with_reducible exact H2_) | (have H2_ := (Option.bind_some _ _).symm.trans H; with_reducible exact H2_) | with_reducible exact H | (rw [hy654]; exact H) | exact H
            have Ny654 := Aside0.mk hy654
            clear hy654
            have H' := Aside0.mk H
            clear H
            have q19 : ((l0.length : Int) : Int) ≤ ((l0.length : Int) : Int) := of_decide_eq_true as_
            obtain ⟨i019, hi019, _, hsz19, _⟩ := info_parts info70
            have hroom19 : l0.length ≤ c0 := HC0.out
            have hC19 : Kd.C k70 _ A0 l0.length l0 := HR0.out
            have ql19 : (x8_2 : Int) ≤ ((l0.length : Int) : Int) := of_decide_eq_true as_
            have q019 : (0 : Int) ≤ (x8_2 : Int) := of_decide_eq_true as_
            have hcut19 := cut_mid (P := Tryd.prog) 28 70 .i64 .i64 Tryd.underlying28 hi019 6 hsz19 A0 l0.length c0 x8_2 (l0.length : Int) q019 ql19 q19 hroom19
            have hr19 := Kd.C_mid (lo := (x8_2 : Int).toNat) (hi := ((l0.length : Int) : Int).toNat) (c := c0) hC19 (by omega) (by omega) hroom19
            obtain ⟨A19, hA19⟩ : ∃ A1, A1 = (if c0 = (x8_2 : Int).toNat then A0 else (A0 : Option Addr).map (·.add ((x8_2 : Int).toNat * 6))) := ⟨_, rfl⟩
            obtain ⟨c19, hc19⟩ : ∃ c1, c1 = c0 - (x8_2 : Int).toNat := ⟨_, rfl⟩
            have hy19 : y645.length = ((l0.length : Int) : Int).toNat - (x8_2 : Int).toNat := (by rw [Ny645.out, List.length_drop, List.length_take] <;> omega)
            rw [show ((l0).take ((l0.length : Int) : Int).toNat).drop (x8_2 : Int).toNat = y645 from Ny645.out.symm] at hr19
            replace hr19 : Kd.C k70 _ A19 y645.length y645 := (by rw [hA19]; exact hr19)
            rw [← hy19, ← hA19, ← hc19] at hcut19
            have HR648 := Aside0.mk hr19
            have HC648 := Aside0.mk (show y645.length ≤ c19 from by rw [hy19, hc19]; exact Nat.sub_le_sub_right (Nat.le_trans (by omega) hroom19) _)
            clear hr19 hC19 hroom19 hi019 hsz19 hc19
            have KY19 := Aside0.mk hy19
            have KA19 := Aside0.mk hA19
            clear hy19 hA19
            replace q19 := eq_true q19
            go_wp2_with (first | ((with_reducible refine gate_callee (f := 85) rfl ?_); refine goesL_ (some 44) rfl rfl Tryd.func85 (by kernel_rfl) rfl #[.slice A19 y645.length c19] rfl lm_ ?_; (with_reducible refine (spec_l28Entries.calls _ _ y645 t649 _ ?side1 ?side2 A16.out).mono ?_); (case side1 => repeat (first | exact (Kd.C_below HR648.out HB.out) | exact HR648.out | (with_reducible refine Kd.C_alloc ?_ _) | (with_reducible refine Kd.C_drewN ?_ _) | (with_reducible refine Kd.C_drew ?_))); (case side2 => exact HC648.out); rintro e w20 ⟨v650, rfl, ho0, hb⟩; refine ⟨_, rfl, ?_⟩; have n0_ := Aside0.mk (Kd.S_elder' (by (with_reducible repeat (first | apply Kd.S_alloc | apply Kd.S_drewN | apply Kd.S_drew)); exact HO_6.out) (Kd.R_base ho0) hb); have n1_ := Aside0.mk (Kd.R_lower ho0 (below_size bl_)); have n2_ := Aside0.mk (below_step bl_ hb); clear HO_6; clear HB; have HO_6 := n0_; have HO651 := n1_; have HB := n2_; clear n0_ n1_ n2_; (try clear hb); (try clear hb2); (try clear hk); (try clear hi); (try clear ho0); obtain ⟨Ao21, co21, eo21⟩ := Kd.R_slice HO651.out; subst eo21) | ((with_reducible refine gate_dst (N := 10) rfl ?_); (try (refine gate_guard (by rfl) ?_; dsimp only)); refine box_event ?hg (N := 10) ?hd (cs := #[.int .i64 0, .string (⟨#[]⟩ : ByteArray), .slice none 0 0, .string (⟨#[]⟩ : ByteArray)]) (t := 30) ?hr ?_; (case hd => rfl); (case hg => rfl); (case hr => first | (go_simp; done) | (go_simp; rfl)); intro gb652 hg w22 hbox hb; have n0_ := Aside0.mk (Kd.S_below (Kd.S_elderB (by (with_reducible repeat (first | apply Kd.S_alloc | apply Kd.S_drewN | apply Kd.S_drew)); exact HO_6.out) gb652 (Nat.le_of_eq hg.symm)) hb); have n1_ := Aside0.mk (Kd.R_below (ra_ HO651.out) hb); have n2_ := Aside0.mk (below_step bl_ hb); have n3_ := Aside0.mk (hbox); have n4_ := Aside0.mk ((hz_ : w.heap.size ≤ gb652)); have n5_ := Aside0.mk ((hz_ : w.heap.size ≤ gb652)); clear HO_6; clear HO651; clear HB; have HO_6 := n0_; have HO651 := n1_; have HB := n2_; have BK652 := n3_; have GW652 := n4_; have GE652 := n5_; clear n0_ n1_ n2_ n3_ n4_ n5_; clear hb hbox hg; have hcz23_0 : w22.cell? ⟨gb652, 0, none⟩ = some (.int .i64 0) := (blk_cell BK652.out 0).trans rfl; have hcz23_1 : w22.cell? ⟨gb652, 1, none⟩ = some (.string (⟨#[]⟩ : ByteArray)) := (blk_cell BK652.out 1).trans rfl; have hcz23_2 : w22.cell? ⟨gb652, 2, none⟩ = some (.slice none 0 0) := (blk_cell BK652.out 2).trans rfl; have hcz23_3 : w22.cell? ⟨gb652, 3, none⟩ = some (.string (⟨#[]⟩ : ByteArray)) := (blk_cell BK652.out 3).trans rfl; have hfz23_0 := blk_frozen BK652.out 0; have hfz23_1 := blk_frozen BK652.out 1; have hfz23_2 := blk_frozen BK652.out 2; have hfz23_3 := blk_frozen BK652.out 3) | ((with_reducible refine gate_callee (f := 71) rfl ?_); refine goesL_ (some 49) rfl rfl Tryd.func71 (by kernel_rfl) rfl #[.string x7_2, .slice Ao21 t649.length co21] rfl lm_ ?_; (with_reducible refine (spec_HeadFrom.calls k2 x7_2 _ _ t649 t653 _ ?side1 ?side2 A17.out).mono ?_); (case side1 => refine (Kd.R_reads' (e := 70) (base := w.heap.size) (ok := fun k_ => True) (n := t649.length) (c := co21) ?_).2.2; exact (by (with_reducible repeat (first | apply Kd.R_alloc | apply Kd.R_drewN | apply Kd.R_drew)); exact (Kd.R_mono (Kd.R_far (p := ⟨gb652, 3, none⟩) (Kd.R_far (p := ⟨gb652, 2, none⟩) (Kd.R_far (p := ⟨gb652, 1, none⟩) (Kd.R_far (p := ⟨gb652, 0, none⟩) (Kd.R_types HO651.out BK652.out (by decide)) (fun _ hk => hk.2) (.int .i64 x8_2)) (fun _ hk => hk.2) (.string x7_2)) (fun _ hk => hk.2) (.slice Ao21 t649.length co21)) (fun _ hk => hk.2) (.string (⟨#[]⟩ : ByteArray))) (fun _ h_ => h_.1)))); (case side2 => exact (Kd.R_reads' HO651.out).2.1); rintro e w24 ⟨rfl, hb⟩; refine ⟨_, rfl, ?_⟩; have n0_ := Aside0.mk (Kd.S_below (by (with_reducible repeat (first | apply Kd.S_alloc | apply Kd.S_drewN | apply Kd.S_drew)); exact (Kd.S_mono (Kd.S_far (p := ⟨gb652, 3, none⟩) (Kd.S_far (p := ⟨gb652, 2, none⟩) (Kd.S_far (p := ⟨gb652, 1, none⟩) (Kd.S_far (p := ⟨gb652, 0, none⟩) (Kd.S_mono HO_6.out (fun k_ hk => (⟨hk, hk.2⟩ : _ ∧ k_ ≠ gb652))) (fun _ hk => hk.2) (.int .i64 x8_2)) (fun _ hk => hk.2) (.string x7_2)) (fun _ hk => hk.2) (.slice Ao21 t649.length co21)) (fun _ hk => hk.2) (.string (⟨#[]⟩ : ByteArray))) (fun _ h_ => h_.1))) hb); have n1_ := Aside0.mk (Kd.R_below (by (with_reducible repeat (first | apply Kd.R_alloc | apply Kd.R_drewN | apply Kd.R_drew)); exact (Kd.R_mono (Kd.R_far (p := ⟨gb652, 3, none⟩) (Kd.R_far (p := ⟨gb652, 2, none⟩) (Kd.R_far (p := ⟨gb652, 1, none⟩) (Kd.R_far (p := ⟨gb652, 0, none⟩) (Kd.R_types HO651.out BK652.out (by decide)) (fun _ hk => hk.2) (.int .i64 x8_2)) (fun _ hk => hk.2) (.string x7_2)) (fun _ hk => hk.2) (.slice Ao21 t649.length co21)) (fun _ hk => hk.2) (.string (⟨#[]⟩ : ByteArray))) (fun _ h_ => h_.1))) hb); have n2_ := Aside0.mk (blk_below (g := gb652) (o := .cells #[.int .i64 x8_2, .string x7_2, .slice Ao21 t649.length co21, .string (⟨#[]⟩ : ByteArray)] 30 (0, 0)) (by (with_reducible repeat (first | refine blk_drewN ?_ _ | refine blk_drew ?_ | refine blk_alloc ?_ _)); refine blk_put (cs := #[.int .i64 x8_2, .string x7_2, .slice Ao21 t649.length co21, .string (⟨#[]⟩ : ByteArray)]) ?_ 3 _ rfl; (with_reducible repeat (first | refine blk_drewN ?_ _ | refine blk_drew ?_ | refine blk_alloc ?_ _)); refine blk_put (cs := #[.int .i64 x8_2, .string x7_2, .slice none 0 0, .string (⟨#[]⟩ : ByteArray)]) ?_ 2 _ rfl; (with_reducible repeat (first | refine blk_drewN ?_ _ | refine blk_drew ?_ | refine blk_alloc ?_ _)); refine blk_put (cs := #[.int .i64 x8_2, .string (⟨#[]⟩ : ByteArray), .slice none 0 0, .string (⟨#[]⟩ : ByteArray)]) ?_ 1 _ rfl; (with_reducible repeat (first | refine blk_drewN ?_ _ | refine blk_drew ?_ | refine blk_alloc ?_ _)); refine blk_put (cs := #[.int .i64 0, .string (⟨#[]⟩ : ByteArray), .slice none 0 0, .string (⟨#[]⟩ : ByteArray)]) ?_ 0 _ rfl; (with_reducible repeat (first | refine blk_drewN ?_ _ | refine blk_drew ?_ | refine blk_alloc ?_ _)); exact BK652.out) hb); have n3_ := Aside0.mk (below_step bl_ hb); clear HO_6; clear HO651; clear BK652; clear HB; have HO_6 := n0_; have HO651 := n1_; have BK652 := n2_; have HB := n3_; clear n0_ n1_ n2_ n3_; (try clear hb); (try clear hb2); (try clear hk); (try clear hi); have hcz25_0 : w24.cell? ⟨gb652, 0, none⟩ = some (.int .i64 x8_2) := (blk_cell BK652.out 0).trans rfl; have hcz25_1 : w24.cell? ⟨gb652, 1, none⟩ = some (.string x7_2) := (blk_cell BK652.out 1).trans rfl; have hcz25_2 : w24.cell? ⟨gb652, 2, none⟩ = some (.slice Ao21 t649.length co21) := (blk_cell BK652.out 2).trans rfl; have hcz25_3 : w24.cell? ⟨gb652, 3, none⟩ = some (.string (⟨#[]⟩ : ByteArray)) := (blk_cell BK652.out 3).trans rfl; have hfz25_0 := blk_frozen BK652.out 0; have hfz25_1 := blk_frozen BK652.out 1; have hfz25_2 := blk_frozen BK652.out 2; have hfz25_3 := blk_frozen BK652.out 3) | ((with_reducible refine gate_store (t := 9) (p := 51) rfl ?_); refine store_event (t := 9) (p := 51) (v := ?vo_w26) (w1 := (w24.setCell ⟨gb652, 3, none⟩ (.string t653))) ?hg ?ho ?hn ?hr ?_; (case ho => rfl); (case hg => rfl); (case hn => rfl); (case hr => first | (go_simp; done) | (go_simp; rfl)); intro w26 hw; have n0_ : Aside0 (Kd.S k30 30 w26 w.heap.size (fun k_ => some k_ ≠ (.slice Ao21 t649.length co21 : Value).ownBlock ∧ k_ ≠ gb652) u6 x6_2) := ⟨(by rw [hw]; exact (by (with_reducible repeat (first | apply Kd.S_alloc | apply Kd.S_drewN | apply Kd.S_drew)); exact Kd.S_mono (Kd.S_far (p := ⟨gb652, 3, none⟩) (Kd.S_mono HO_6.out (fun k_ hk => (⟨hk, hk.2⟩ : _ ∧ k_ ≠ gb652))) (fun _ hk => hk.2) (.string t653)) (fun _ hk => ⟨hk.1.1.2, hk.1.2⟩)))⟩; have n1_ : Aside0 (Kd.R k70 70 w26 w.heap.size (fun _ => True) (.slice Ao21 t649.length co21) t649) := ⟨(by rw [hw]; exact (by (with_reducible repeat (first | apply Kd.R_alloc | apply Kd.R_drewN | apply Kd.R_drew)); exact Kd.R_mono (Kd.R_far (p := ⟨gb652, 3, none⟩) (Kd.R_types HO651.out BK652.out (by decide)) (fun _ hk => hk.2) (.string t653)) (fun _ hk => trivial)))⟩; have n2_ : Aside0 (w26.heap[gb652]? = some (.cells #[.int .i64 x8_2, .string x7_2, .slice Ao21 t649.length co21, .string t653] 30 (0, 0))) := ⟨(by rw [hw]; exact (by (with_reducible repeat (first | refine blk_drewN ?_ _ | refine blk_drew ?_ | refine blk_alloc ?_ _)); refine blk_put (cs := #[.int .i64 x8_2, .string x7_2, .slice Ao21 t649.length co21, .string (⟨#[]⟩ : ByteArray)]) ?_ 3 _ rfl; (with_reducible repeat (first | refine blk_drewN ?_ _ | refine blk_drew ?_ | refine blk_alloc ?_ _)); exact BK652.out))⟩; have n3_ : Aside0 (Below w.heap.size w w26) := ⟨(by rw [hw]; exact bl_)⟩; clear hw; clear HO_6; clear HO651; clear BK652; clear HB; have HO_6 := n0_; have HO651 := n1_; have BK652 := n2_; have HB := n3_; clear n0_ n1_ n2_ n3_; have hcz27_0 : w26.cell? ⟨gb652, 0, none⟩ = some (.int .i64 x8_2) := (blk_cell BK652.out 0).trans rfl; have hcz27_1 : w26.cell? ⟨gb652, 1, none⟩ = some (.string x7_2) := (blk_cell BK652.out 1).trans rfl; have hcz27_2 : w26.cell? ⟨gb652, 2, none⟩ = some (.slice Ao21 t649.length co21) := (blk_cell BK652.out 2).trans rfl; have hcz27_3 : w26.cell? ⟨gb652, 3, none⟩ = some (.string t653) := (blk_cell BK652.out 3).trans rfl; have hfz27_0 := blk_frozen BK652.out 0; have hfz27_1 := blk_frozen BK652.out 1; have hfz27_2 := blk_frozen BK652.out 2; have hfz27_3 := blk_frozen BK652.out 3) | ((with_reducible refine gate_builtin (b := .append) (xs := #[.tmp 52, .tmp 54]) rfl ?_); (try (refine gate_guard (by rfl) ?_; dsimp only)); at_builtin; refine Kd.S_append k30 (w0 := w) w.heap.size rfl (.tmp 52) (.tmp 54) 46 30 (.agg #[(.int .i64 0), (.string ⟨#[]⟩), (.slice none 0 0), (.string ⟨#[]⟩)]) 64 rfl Tryd.underlying46 info30 rfl (by decide) (by omega) u6 x6_2 (⟨x8_2, x7_2, t649, t653⟩ : S30) [.int .i64 x8_2, .string x7_2, .slice Ao21 t649.length co21, .string t653] (fun k_ => k_ ≠ gb652) (fun k_ => some k_ = (.slice Ao21 t649.length co21 : Value).ownBlock) rfl rfl ?aP (fun k_ hk_ => ((Kd.R_mono (ok' := fun k_ => ((fun k_ => k_ ≠ gb652)) k_ ∧ some k_ ≠ (u6 : Value).ownBlock) (Kd.R_types (Kd.R_apart' (HO651.out) (Kd.S_typed HO_6.out) (by decide)) BK652.out (by decide)) (fun k_ hk => ⟨hk.2, hk.1.2⟩))).1 k_ hk_.symm) ?aF ?aO ?aB ?aS ?aL ?_; (case aP => exact k30_mkM _ _ _ (⟨x8_2, x7_2, t649, t653⟩ : S30) (Kd.R_mono (Kd.R_tight rfl (Kd.R_mono (ok' := fun k_ => ((fun k_ => k_ ≠ gb652)) k_ ∧ some k_ ≠ (u6 : Value).ownBlock) (Kd.R_types (Kd.R_apart' (HO651.out) (Kd.S_typed HO_6.out) (by decide)) BK652.out (by decide)) (fun k_ hk => ⟨hk.2, hk.1.2⟩))) (fun _ h_ => h_))); (case aB => exact bl_); (case aF => exact (fun k_ hk => Kd.freshB (g := gb652) (o := .cells #[.int .i64 x8_2, .string x7_2, .slice Ao21 t649.length co21, .string t653] 30 (0, 0)) (bk_ BK652.out) k_ hk)); (case aO => exact (by (with_reducible repeat (first | apply Kd.S_alloc | apply Kd.S_drewN | apply Kd.S_drew)); exact Kd.S_mono HO_6.out (fun k_ hk => ⟨hk.2, fun e_ => hk.1 e_⟩))); (case aS => exact (below_size bl_)); (case aL => have := LMc18.out; omega); intro v655 w28 ho hb hg hat; rw [← Ny654.out] at ho; have n0_ := Aside0.mk (blk_grown (g := gb652) (o := .cells #[.int .i64 x8_2, .string x7_2, .slice Ao21 t649.length co21, .string t653] 30 (0, 0)) (bk_ BK652.out) hg (Kd.S_away HO_6.out (fun _ hk => hk.2))); have n1_ := Aside0.mk (hb); have n2_ := Aside0.mk (ho); clear BK652; clear HB; clear HO_6; clear HO651; have BK652 := n0_; have HB := n1_; have HO656 := n2_; clear n0_ n1_ n2_; clear ho hb hg hat))
            go_roundg k2
            case measure => have := HJ2.out; have := HK2.out; omega
            case rel => exact ⟨(y654), (t653), (wrap64 (x8_2 + a1)), (by first | rfl | (simp; done) | (simp [*]; done)), (by first | rfl | (simp; done) | (simp [*]; done)), H', ⟨by have := HJ2.out; have := HK2.out; omega⟩, ⟨by (with_reducible repeat (first | apply Kd.S_alloc | apply Kd.S_drewN | apply Kd.S_drew)); exact Kd.S_mono HO656.out (fun _ hk => trivial)⟩, ⟨bl_⟩⟩
           ·rw [if_neg c18] at H
            exact absurd H (by simp)
          ·rw [if_neg c15] at H
           exact absurd H (by simp)
         ·rw [if_neg c14] at H
          exact absurd H (by simp)
        ·rw [if_neg c13] at H
         exact absurd H (by simp)
       ·rw [if_neg c12] at H
        have c12b0 : decide ((l0.length : Int) < (wrap64 (x8_2 + a1))) = false := decide_eq_false c12
        clear c12
        by_cases c29 : 0 ≤ x8_2
        ·rw [if_pos c29] at H
         have c29b0 := eq_true c29
         have c29b1 : decide (0 ≤ x8_2) = true := decide_eq_true c29
         clear c29
         by_cases c30 : x8_2 ≤ (wrap64 (x8_2 + a1))
         ·rw [if_pos c30] at H
          have c30b0 := eq_true c30
          have c30b1 : decide (x8_2 ≤ (wrap64 (x8_2 + a1))) = true := decide_eq_true c30
          by_cases c31 : (wrap64 (x8_2 + a1)) ≤ (l0.length : Int)
          ·rw [if_pos c31] at H
           have c31b0 := eq_true c31
           have c31b1 : decide ((wrap64 (x8_2 + a1)) ≤ (l0.length : Int)) = true := decide_eq_true c31
           obtain ⟨y657, hy657⟩ : ∃ y_ : List (S70), y_ = ((l0.take ((wrap64 (x8_2 + a1)) : Int).toNat).drop (x8_2 : Int).toNat) := ⟨_, rfl⟩
           replace H : ((spec_l28Entries.f y657).bind fun t661 => ((spec_HeadFrom.f k2 x7_2 t661).bind fun t665 => (if x6_2.length < 2199023255552 then (spec_CutLog.l0 k2 l0 a1 (x6_2 ++ [(⟨x8_2, x7_2, t661, t665⟩ : S30)]) t665 (wrap64 (x8_2 + a1))) else (none)))) = some (r1, r2) := by first | (rw [hy657]; with_reducible exact H) | (have H2_ := (Option.bind_some _ _).symm.trans H; rw [hy657]; with_reducible exact H2_) | (have H2_ := (Option.bind_some _ _).symm.trans H; with_reducible exact H2_) | with_reducible exact H | (rw [hy657]; exact H) | exact H
           have Ny657 := Aside0.mk hy657
           clear hy657
           replace H := Option.bind_eq_some_iff.mp H
           obtain ⟨t661, A320, H⟩ := H
           replace H : ((spec_HeadFrom.f k2 x7_2 t661).bind fun t665 => (if x6_2.length < 2199023255552 then (spec_CutLog.l0 k2 l0 a1 (x6_2 ++ [(⟨x8_2, x7_2, t661, t665⟩ : S30)]) t665 (wrap64 (x8_2 + a1))) else (none))) = some (r1, r2) := H
           have A32 := Aside0.mk A320
           clear A320
           replace H := Option.bind_eq_some_iff.mp H
           obtain ⟨t665, A330, H⟩ := H
           replace H : (if x6_2.length < 2199023255552 then (spec_CutLog.l0 k2 l0 a1 (x6_2 ++ [(⟨x8_2, x7_2, t661, t665⟩ : S30)]) t665 (wrap64 (x8_2 + a1))) else (none)) = some (r1, r2) := H
           have A33 := Aside0.mk A330
           clear A330
           by_cases c34 : x6_2.length < 2199023255552
           ·rw [if_pos c34] at H
            have LMc34 := Aside0.mk c34
            clear c34
            obtain ⟨y666, hy666⟩ : ∃ y_ : List (S30), y_ = (x6_2 ++ [(⟨x8_2, x7_2, t661, t665⟩ : S30)]) := ⟨_, rfl⟩
            replace H : (spec_CutLog.l0 k2 l0 a1 y666 t665 (wrap64 (x8_2 + a1))) = some (r1, r2) := by first | (rw [hy666]; with_reducible exact H) | (have H2_ := (Option.bind_some _ _).symm.trans H; rw [hy666]; with_reducible exact H2_) | (have H2_ := (Option.bind_some _ _).symm.trans H; with_reducible exact H2_) | with_reducible exact H | (rw [hy666]; exact H) | exact H
            have Ny666 := Aside0.mk hy666
            clear hy666
            have H' := Aside0.mk H
            clear H
            have q35 : ((wrap64 (x8_2 + a1)) : Int) ≤ ((l0.length : Int) : Int) := of_decide_eq_true as_
            obtain ⟨i035, hi035, _, hsz35, _⟩ := info_parts info70
            have hroom35 : l0.length ≤ c0 := HC0.out
            have hC35 : Kd.C k70 _ A0 l0.length l0 := HR0.out
            have ql35 : (x8_2 : Int) ≤ ((wrap64 (x8_2 + a1)) : Int) := of_decide_eq_true as_
            have q035 : (0 : Int) ≤ (x8_2 : Int) := of_decide_eq_true as_
            have hcut35 := cut_mid (P := Tryd.prog) 28 70 .i64 .i64 Tryd.underlying28 hi035 6 hsz35 A0 l0.length c0 x8_2 (wrap64 (x8_2 + a1)) q035 ql35 q35 hroom35
            have hr35 := Kd.C_mid (lo := (x8_2 : Int).toNat) (hi := ((wrap64 (x8_2 + a1)) : Int).toNat) (c := c0) hC35 (by omega) (by omega) hroom35
            obtain ⟨A35, hA35⟩ : ∃ A1, A1 = (if c0 = (x8_2 : Int).toNat then A0 else (A0 : Option Addr).map (·.add ((x8_2 : Int).toNat * 6))) := ⟨_, rfl⟩
            obtain ⟨c35, hc35⟩ : ∃ c1, c1 = c0 - (x8_2 : Int).toNat := ⟨_, rfl⟩
            have hy35 : y657.length = ((wrap64 (x8_2 + a1)) : Int).toNat - (x8_2 : Int).toNat := (by rw [Ny657.out, List.length_drop, List.length_take] <;> omega)
            rw [show ((l0).take ((wrap64 (x8_2 + a1)) : Int).toNat).drop (x8_2 : Int).toNat = y657 from Ny657.out.symm] at hr35
            replace hr35 : Kd.C k70 _ A35 y657.length y657 := (by rw [hA35]; exact hr35)
            rw [← hy35, ← hA35, ← hc35] at hcut35
            have HR660 := Aside0.mk hr35
            have HC660 := Aside0.mk (show y657.length ≤ c35 from by rw [hy35, hc35]; exact Nat.sub_le_sub_right (Nat.le_trans (by omega) hroom35) _)
            clear hr35 hC35 hroom35 hi035 hsz35 hc35
            have KY35 := Aside0.mk hy35
            have KA35 := Aside0.mk hA35
            clear hy35 hA35
            replace q35 := eq_true q35
            go_wp2_with (first | ((with_reducible refine gate_callee (f := 85) rfl ?_); refine goesL_ (some 44) rfl rfl Tryd.func85 (by kernel_rfl) rfl #[.slice A35 y657.length c35] rfl lm_ ?_; (with_reducible refine (spec_l28Entries.calls _ _ y657 t661 _ ?side1 ?side2 A32.out).mono ?_); (case side1 => repeat (first | exact (Kd.C_below HR660.out HB.out) | exact HR660.out | (with_reducible refine Kd.C_alloc ?_ _) | (with_reducible refine Kd.C_drewN ?_ _) | (with_reducible refine Kd.C_drew ?_))); (case side2 => exact HC660.out); rintro e w36 ⟨v662, rfl, ho0, hb⟩; refine ⟨_, rfl, ?_⟩; have n0_ := Aside0.mk (Kd.S_elder' (by (with_reducible repeat (first | apply Kd.S_alloc | apply Kd.S_drewN | apply Kd.S_drew)); exact HO_6.out) (Kd.R_base ho0) hb); have n1_ := Aside0.mk (Kd.R_lower ho0 (below_size bl_)); have n2_ := Aside0.mk (below_step bl_ hb); clear HO_6; clear HB; have HO_6 := n0_; have HO663 := n1_; have HB := n2_; clear n0_ n1_ n2_; (try clear hb); (try clear hb2); (try clear hk); (try clear hi); (try clear ho0); obtain ⟨Ao37, co37, eo37⟩ := Kd.R_slice HO663.out; subst eo37) | ((with_reducible refine gate_dst (N := 10) rfl ?_); (try (refine gate_guard (by rfl) ?_; dsimp only)); refine box_event ?hg (N := 10) ?hd (cs := #[.int .i64 0, .string (⟨#[]⟩ : ByteArray), .slice none 0 0, .string (⟨#[]⟩ : ByteArray)]) (t := 30) ?hr ?_; (case hd => rfl); (case hg => rfl); (case hr => first | (go_simp; done) | (go_simp; rfl)); intro gb664 hg w38 hbox hb; have n0_ := Aside0.mk (Kd.S_below (Kd.S_elderB (by (with_reducible repeat (first | apply Kd.S_alloc | apply Kd.S_drewN | apply Kd.S_drew)); exact HO_6.out) gb664 (Nat.le_of_eq hg.symm)) hb); have n1_ := Aside0.mk (Kd.R_below (ra_ HO663.out) hb); have n2_ := Aside0.mk (below_step bl_ hb); have n3_ := Aside0.mk (hbox); have n4_ := Aside0.mk ((hz_ : w.heap.size ≤ gb664)); have n5_ := Aside0.mk ((hz_ : w.heap.size ≤ gb664)); clear HO_6; clear HO663; clear HB; have HO_6 := n0_; have HO663 := n1_; have HB := n2_; have BK664 := n3_; have GW664 := n4_; have GE664 := n5_; clear n0_ n1_ n2_ n3_ n4_ n5_; clear hb hbox hg; have hcz39_0 : w38.cell? ⟨gb664, 0, none⟩ = some (.int .i64 0) := (blk_cell BK664.out 0).trans rfl; have hcz39_1 : w38.cell? ⟨gb664, 1, none⟩ = some (.string (⟨#[]⟩ : ByteArray)) := (blk_cell BK664.out 1).trans rfl; have hcz39_2 : w38.cell? ⟨gb664, 2, none⟩ = some (.slice none 0 0) := (blk_cell BK664.out 2).trans rfl; have hcz39_3 : w38.cell? ⟨gb664, 3, none⟩ = some (.string (⟨#[]⟩ : ByteArray)) := (blk_cell BK664.out 3).trans rfl; have hfz39_0 := blk_frozen BK664.out 0; have hfz39_1 := blk_frozen BK664.out 1; have hfz39_2 := blk_frozen BK664.out 2; have hfz39_3 := blk_frozen BK664.out 3) | ((with_reducible refine gate_callee (f := 71) rfl ?_); refine goesL_ (some 49) rfl rfl Tryd.func71 (by kernel_rfl) rfl #[.string x7_2, .slice Ao37 t661.length co37] rfl lm_ ?_; (with_reducible refine (spec_HeadFrom.calls k2 x7_2 _ _ t661 t665 _ ?side1 ?side2 A33.out).mono ?_); (case side1 => refine (Kd.R_reads' (e := 70) (base := w.heap.size) (ok := fun k_ => True) (n := t661.length) (c := co37) ?_).2.2; exact (by (with_reducible repeat (first | apply Kd.R_alloc | apply Kd.R_drewN | apply Kd.R_drew)); exact (Kd.R_mono (Kd.R_far (p := ⟨gb664, 3, none⟩) (Kd.R_far (p := ⟨gb664, 2, none⟩) (Kd.R_far (p := ⟨gb664, 1, none⟩) (Kd.R_far (p := ⟨gb664, 0, none⟩) (Kd.R_types HO663.out BK664.out (by decide)) (fun _ hk => hk.2) (.int .i64 x8_2)) (fun _ hk => hk.2) (.string x7_2)) (fun _ hk => hk.2) (.slice Ao37 t661.length co37)) (fun _ hk => hk.2) (.string (⟨#[]⟩ : ByteArray))) (fun _ h_ => h_.1)))); (case side2 => exact (Kd.R_reads' HO663.out).2.1); rintro e w40 ⟨rfl, hb⟩; refine ⟨_, rfl, ?_⟩; have n0_ := Aside0.mk (Kd.S_below (by (with_reducible repeat (first | apply Kd.S_alloc | apply Kd.S_drewN | apply Kd.S_drew)); exact (Kd.S_mono (Kd.S_far (p := ⟨gb664, 3, none⟩) (Kd.S_far (p := ⟨gb664, 2, none⟩) (Kd.S_far (p := ⟨gb664, 1, none⟩) (Kd.S_far (p := ⟨gb664, 0, none⟩) (Kd.S_mono HO_6.out (fun k_ hk => (⟨hk, hk.2⟩ : _ ∧ k_ ≠ gb664))) (fun _ hk => hk.2) (.int .i64 x8_2)) (fun _ hk => hk.2) (.string x7_2)) (fun _ hk => hk.2) (.slice Ao37 t661.length co37)) (fun _ hk => hk.2) (.string (⟨#[]⟩ : ByteArray))) (fun _ h_ => h_.1))) hb); have n1_ := Aside0.mk (Kd.R_below (by (with_reducible repeat (first | apply Kd.R_alloc | apply Kd.R_drewN | apply Kd.R_drew)); exact (Kd.R_mono (Kd.R_far (p := ⟨gb664, 3, none⟩) (Kd.R_far (p := ⟨gb664, 2, none⟩) (Kd.R_far (p := ⟨gb664, 1, none⟩) (Kd.R_far (p := ⟨gb664, 0, none⟩) (Kd.R_types HO663.out BK664.out (by decide)) (fun _ hk => hk.2) (.int .i64 x8_2)) (fun _ hk => hk.2) (.string x7_2)) (fun _ hk => hk.2) (.slice Ao37 t661.length co37)) (fun _ hk => hk.2) (.string (⟨#[]⟩ : ByteArray))) (fun _ h_ => h_.1))) hb); have n2_ := Aside0.mk (blk_below (g := gb664) (o := .cells #[.int .i64 x8_2, .string x7_2, .slice Ao37 t661.length co37, .string (⟨#[]⟩ : ByteArray)] 30 (0, 0)) (by (with_reducible repeat (first | refine blk_drewN ?_ _ | refine blk_drew ?_ | refine blk_alloc ?_ _)); refine blk_put (cs := #[.int .i64 x8_2, .string x7_2, .slice Ao37 t661.length co37, .string (⟨#[]⟩ : ByteArray)]) ?_ 3 _ rfl; (with_reducible repeat (first | refine blk_drewN ?_ _ | refine blk_drew ?_ | refine blk_alloc ?_ _)); refine blk_put (cs := #[.int .i64 x8_2, .string x7_2, .slice none 0 0, .string (⟨#[]⟩ : ByteArray)]) ?_ 2 _ rfl; (with_reducible repeat (first | refine blk_drewN ?_ _ | refine blk_drew ?_ | refine blk_alloc ?_ _)); refine blk_put (cs := #[.int .i64 x8_2, .string (⟨#[]⟩ : ByteArray), .slice none 0 0, .string (⟨#[]⟩ : ByteArray)]) ?_ 1 _ rfl; (with_reducible repeat (first | refine blk_drewN ?_ _ | refine blk_drew ?_ | refine blk_alloc ?_ _)); refine blk_put (cs := #[.int .i64 0, .string (⟨#[]⟩ : ByteArray), .slice none 0 0, .string (⟨#[]⟩ : ByteArray)]) ?_ 0 _ rfl; (with_reducible repeat (first | refine blk_drewN ?_ _ | refine blk_drew ?_ | refine blk_alloc ?_ _)); exact BK664.out) hb); have n3_ := Aside0.mk (below_step bl_ hb); clear HO_6; clear HO663; clear BK664; clear HB; have HO_6 := n0_; have HO663 := n1_; have BK664 := n2_; have HB := n3_; clear n0_ n1_ n2_ n3_; (try clear hb); (try clear hb2); (try clear hk); (try clear hi); have hcz41_0 : w40.cell? ⟨gb664, 0, none⟩ = some (.int .i64 x8_2) := (blk_cell BK664.out 0).trans rfl; have hcz41_1 : w40.cell? ⟨gb664, 1, none⟩ = some (.string x7_2) := (blk_cell BK664.out 1).trans rfl; have hcz41_2 : w40.cell? ⟨gb664, 2, none⟩ = some (.slice Ao37 t661.length co37) := (blk_cell BK664.out 2).trans rfl; have hcz41_3 : w40.cell? ⟨gb664, 3, none⟩ = some (.string (⟨#[]⟩ : ByteArray)) := (blk_cell BK664.out 3).trans rfl; have hfz41_0 := blk_frozen BK664.out 0; have hfz41_1 := blk_frozen BK664.out 1; have hfz41_2 := blk_frozen BK664.out 2; have hfz41_3 := blk_frozen BK664.out 3) | ((with_reducible refine gate_store (t := 9) (p := 51) rfl ?_); refine store_event (t := 9) (p := 51) (v := ?vo_w42) (w1 := (w40.setCell ⟨gb664, 3, none⟩ (.string t665))) ?hg ?ho ?hn ?hr ?_; (case ho => rfl); (case hg => rfl); (case hn => rfl); (case hr => first | (go_simp; done) | (go_simp; rfl)); intro w42 hw; have n0_ : Aside0 (Kd.S k30 30 w42 w.heap.size (fun k_ => some k_ ≠ (.slice Ao37 t661.length co37 : Value).ownBlock ∧ k_ ≠ gb664) u6 x6_2) := ⟨(by rw [hw]; exact (by (with_reducible repeat (first | apply Kd.S_alloc | apply Kd.S_drewN | apply Kd.S_drew)); exact Kd.S_mono (Kd.S_far (p := ⟨gb664, 3, none⟩) (Kd.S_mono HO_6.out (fun k_ hk => (⟨hk, hk.2⟩ : _ ∧ k_ ≠ gb664))) (fun _ hk => hk.2) (.string t665)) (fun _ hk => ⟨hk.1.1.2, hk.1.2⟩)))⟩; have n1_ : Aside0 (Kd.R k70 70 w42 w.heap.size (fun _ => True) (.slice Ao37 t661.length co37) t661) := ⟨(by rw [hw]; exact (by (with_reducible repeat (first | apply Kd.R_alloc | apply Kd.R_drewN | apply Kd.R_drew)); exact Kd.R_mono (Kd.R_far (p := ⟨gb664, 3, none⟩) (Kd.R_types HO663.out BK664.out (by decide)) (fun _ hk => hk.2) (.string t665)) (fun _ hk => trivial)))⟩; have n2_ : Aside0 (w42.heap[gb664]? = some (.cells #[.int .i64 x8_2, .string x7_2, .slice Ao37 t661.length co37, .string t665] 30 (0, 0))) := ⟨(by rw [hw]; exact (by (with_reducible repeat (first | refine blk_drewN ?_ _ | refine blk_drew ?_ | refine blk_alloc ?_ _)); refine blk_put (cs := #[.int .i64 x8_2, .string x7_2, .slice Ao37 t661.length co37, .string (⟨#[]⟩ : ByteArray)]) ?_ 3 _ rfl; (with_reducible repeat (first | refine blk_drewN ?_ _ | refine blk_drew ?_ | refine blk_alloc ?_ _)); exact BK664.out))⟩; have n3_ : Aside0 (Below w.heap.size w w42) := ⟨(by rw [hw]; exact bl_)⟩; clear hw; clear HO_6; clear HO663; clear BK664; clear HB; have HO_6 := n0_; have HO663 := n1_; have BK664 := n2_; have HB := n3_; clear n0_ n1_ n2_ n3_; have hcz43_0 : w42.cell? ⟨gb664, 0, none⟩ = some (.int .i64 x8_2) := (blk_cell BK664.out 0).trans rfl; have hcz43_1 : w42.cell? ⟨gb664, 1, none⟩ = some (.string x7_2) := (blk_cell BK664.out 1).trans rfl; have hcz43_2 : w42.cell? ⟨gb664, 2, none⟩ = some (.slice Ao37 t661.length co37) := (blk_cell BK664.out 2).trans rfl; have hcz43_3 : w42.cell? ⟨gb664, 3, none⟩ = some (.string t665) := (blk_cell BK664.out 3).trans rfl; have hfz43_0 := blk_frozen BK664.out 0; have hfz43_1 := blk_frozen BK664.out 1; have hfz43_2 := blk_frozen BK664.out 2; have hfz43_3 := blk_frozen BK664.out 3) | ((with_reducible refine gate_builtin (b := .append) (xs := #[.tmp 52, .tmp 54]) rfl ?_); (try (refine gate_guard (by rfl) ?_; dsimp only)); at_builtin; refine Kd.S_append k30 (w0 := w) w.heap.size rfl (.tmp 52) (.tmp 54) 46 30 (.agg #[(.int .i64 0), (.string ⟨#[]⟩), (.slice none 0 0), (.string ⟨#[]⟩)]) 64 rfl Tryd.underlying46 info30 rfl (by decide) (by omega) u6 x6_2 (⟨x8_2, x7_2, t661, t665⟩ : S30) [.int .i64 x8_2, .string x7_2, .slice Ao37 t661.length co37, .string t665] (fun k_ => k_ ≠ gb664) (fun k_ => some k_ = (.slice Ao37 t661.length co37 : Value).ownBlock) rfl rfl ?aP (fun k_ hk_ => ((Kd.R_mono (ok' := fun k_ => ((fun k_ => k_ ≠ gb664)) k_ ∧ some k_ ≠ (u6 : Value).ownBlock) (Kd.R_types (Kd.R_apart' (HO663.out) (Kd.S_typed HO_6.out) (by decide)) BK664.out (by decide)) (fun k_ hk => ⟨hk.2, hk.1.2⟩))).1 k_ hk_.symm) ?aF ?aO ?aB ?aS ?aL ?_; (case aP => exact k30_mkM _ _ _ (⟨x8_2, x7_2, t661, t665⟩ : S30) (Kd.R_mono (Kd.R_tight rfl (Kd.R_mono (ok' := fun k_ => ((fun k_ => k_ ≠ gb664)) k_ ∧ some k_ ≠ (u6 : Value).ownBlock) (Kd.R_types (Kd.R_apart' (HO663.out) (Kd.S_typed HO_6.out) (by decide)) BK664.out (by decide)) (fun k_ hk => ⟨hk.2, hk.1.2⟩))) (fun _ h_ => h_))); (case aB => exact bl_); (case aF => exact (fun k_ hk => Kd.freshB (g := gb664) (o := .cells #[.int .i64 x8_2, .string x7_2, .slice Ao37 t661.length co37, .string t665] 30 (0, 0)) (bk_ BK664.out) k_ hk)); (case aO => exact (by (with_reducible repeat (first | apply Kd.S_alloc | apply Kd.S_drewN | apply Kd.S_drew)); exact Kd.S_mono HO_6.out (fun k_ hk => ⟨hk.2, fun e_ => hk.1 e_⟩))); (case aS => exact (below_size bl_)); (case aL => have := LMc34.out; omega); intro v667 w44 ho hb hg hat; rw [← Ny666.out] at ho; have n0_ := Aside0.mk (blk_grown (g := gb664) (o := .cells #[.int .i64 x8_2, .string x7_2, .slice Ao37 t661.length co37, .string t665] 30 (0, 0)) (bk_ BK664.out) hg (Kd.S_away HO_6.out (fun _ hk => hk.2))); have n1_ := Aside0.mk (hb); have n2_ := Aside0.mk (ho); clear BK664; clear HB; clear HO_6; clear HO663; have BK664 := n0_; have HB := n1_; have HO668 := n2_; clear n0_ n1_ n2_; clear ho hb hg hat))
            go_roundg k2
            case measure => have := HJ2.out; have := HK2.out; omega
            case rel => exact ⟨(y666), (t665), (wrap64 (x8_2 + a1)), (by first | rfl | (simp; done) | (simp [*]; done)), (by first | rfl | (simp; done) | (simp [*]; done)), H', ⟨by have := HJ2.out; have := HK2.out; omega⟩, ⟨by (with_reducible repeat (first | apply Kd.S_alloc | apply Kd.S_drewN | apply Kd.S_drew)); exact Kd.S_mono HO668.out (fun _ hk => trivial)⟩, ⟨bl_⟩⟩
           ·rw [if_neg c34] at H
            exact absurd H (by simp)
          ·rw [if_neg c31] at H
           exact absurd H (by simp)
         ·rw [if_neg c30] at H
          exact absurd H (by simp)
        ·rw [if_neg c29] at H
         exact absurd H (by simp)
      ·rw [if_neg c11] at H
       have c11b0 : decide (x8_2 < (l0.length : Int)) = false := decide_eq_false c11
       clear c11
       simp only [Option.some.injEq, Prod.mk.injEq] at H
       obtain ⟨rfl, rfl⟩ := H
       go_wp2
       go_ret2
       exact ⟨_, by first | rfl | (simp [errW_none, errW_some] <;> rfl) | (simp [*, errW_none, errW_some] <;> rfl), by (with_reducible repeat (first | apply Kd.S_alloc | apply Kd.S_drewN | apply Kd.S_drew)); exact HO_6.out, bl_⟩


/-! ### spec_l28Segments: function 103 -/
def spec_l28Segments.f (k : Nat) (s0_0 : List Int) (s0_1 : Int) (s0_2 : Int) : Option ((List (S30)) × Int × Int) := (spec_l19Entries.f k s0_0 s0_1 s0_2).bind fun bt1058 => ((spec_l19Entries.f k s0_0 bt1058.2.1 bt1058.2.2).bind fun bt1063 => (if bt1058.1.length + bt1063.1.length < 2932031007402 then ((spec_l01Below.f s0_0 bt1063.2.1 bt1063.2.2 4).bind fun bt1071 => ((spec_CutLog.f k (bt1058.1 ++ bt1063.1) (wrap64 (1 + bt1071.1))).bind fun bt1074 => (some (bt1074.1, bt1071.2.1, bt1071.2.2)))) else (none)))
theorem spec_l28Segments.mono : ∀ a0 a1 a2 k, LeO (spec_l28Segments.f k a0 a1 a2) (spec_l28Segments.f (k + 1) a0 a1 a2) := by
 intro a0 a1 a2 k
 unfold spec_l28Segments.f
 repeat' first
  | (with_reducible exact spec_CutLog.mono _ _ _)
  | (with_reducible exact spec_l19Entries.mono _ _ _ _)
  | (with_reducible exact LeO.refl _)
  | (with_reducible exact LeO.none _)
  | (with_reducible refine LeO.ite ?_ ?_)
  | (with_reducible refine LeO.bind ?_ (fun _ => ?_))
  | exact spec_CutLog.mono _ _ _
  | exact spec_l19Entries.mono _ _ _ _
  | exact LeO.none _
  | refine LeO.ite ?_ ?_
  | refine LeO.bind ?_ (fun _ => ?_)
set_option maxHeartbeats 8000000 in
set_option maxRecDepth 100000 in
theorem spec_l28Segments.calls (k : Nat) (g : Nat) (s0_0 : List Int) (s0_1 : Int) (s0_2 : Int) (r1 : List (S30)) (r2 : Int) (r3 : Int) (w0 w : World) (hI : IsS130 w0 w g s0_0 s0_1 s0_2) (hB : Below w0.heap.size w0 w) (h : spec_l28Segments.f k s0_0 s0_1 s0_2 = some (r1, r2, r3)) :
 Calls Tryd.prog 103 #[.pointer (some ⟨g, 0, none⟩)] w fun e w' => ∃ v0_ : Value, e = .returned (v0_) ∧ Kd.S k30 30 w' w.heap.size (fun _ => True) v0_ r1 ∧ IsS130 w0 w' g s0_0 r2 r3 ∧ Below w0.heap.size w0 w' ∧ KeepBut w w' g none := by
 have HI0 := Aside0.mk hI
 have HK := Aside0.mk (KeepBut.refl w g none)
 have HL := Aside0.mk hB.size
 clear hI
 have HW0 := Aside0.mk hB.size
 have HB := Aside0.mk hB
 clear hB
 have H : ((spec_l19Entries.f k s0_0 s0_1 s0_2).bind fun bt1058 => ((spec_l19Entries.f k s0_0 bt1058.2.1 bt1058.2.2).bind fun bt1063 => (if bt1058.1.length + bt1063.1.length < 2932031007402 then ((spec_l01Below.f s0_0 bt1063.2.1 bt1063.2.2 4).bind fun bt1071 => ((spec_CutLog.f k (bt1058.1 ++ bt1063.1) (wrap64 (1 + bt1071.1))).bind fun bt1074 => (some (bt1074.1, bt1071.2.1, bt1071.2.2)))) else (none)))) = some (r1, r2, r3) := h
 clear h
 replace H := Option.bind_eq_some_iff.mp H
 obtain ⟨⟨t1058, t1061, t1062⟩, A20, H⟩ := H
 replace H : ((spec_l19Entries.f k s0_0 t1061 t1062).bind fun bt1063 => (if t1058.length + bt1063.1.length < 2932031007402 then ((spec_l01Below.f s0_0 bt1063.2.1 bt1063.2.2 4).bind fun bt1071 => ((spec_CutLog.f k (t1058 ++ bt1063.1) (wrap64 (1 + bt1071.1))).bind fun bt1074 => (some (bt1074.1, bt1071.2.1, bt1071.2.2)))) else (none))) = some (r1, r2, r3) := H
 have A2 := Aside0.mk A20
 clear A20
 replace H := Option.bind_eq_some_iff.mp H
 obtain ⟨⟨t1063, t1066, t1067⟩, A30, H⟩ := H
 replace H : (if t1058.length + t1063.length < 2932031007402 then ((spec_l01Below.f s0_0 t1066 t1067 4).bind fun bt1071 => ((spec_CutLog.f k (t1058 ++ t1063) (wrap64 (1 + bt1071.1))).bind fun bt1074 => (some (bt1074.1, bt1071.2.1, bt1071.2.2)))) else (none)) = some (r1, r2, r3) := H
 have A3 := Aside0.mk A30
 clear A30
 by_cases c4 : t1058.length + t1063.length < 2932031007402
 ·rw [if_pos c4] at H
  have LMc4 := Aside0.mk c4
  clear c4
  obtain ⟨y1068, hy1068⟩ : ∃ y_ : List (S70), y_ = (t1058 ++ t1063) := ⟨_, rfl⟩
  replace H : ((spec_l01Below.f s0_0 t1066 t1067 4).bind fun bt1071 => ((spec_CutLog.f k y1068 (wrap64 (1 + bt1071.1))).bind fun bt1074 => (some (bt1074.1, bt1071.2.1, bt1071.2.2)))) = some (r1, r2, r3) := by first | (rw [hy1068]; with_reducible exact H) | (have H2_ := (Option.bind_some _ _).symm.trans H; rw [hy1068]; with_reducible exact H2_) | (have H2_ := (Option.bind_some _ _).symm.trans H; with_reducible exact H2_) | with_reducible exact H | (rw [hy1068]; exact H) | exact H
  have Ny1068 := Aside0.mk hy1068
  clear hy1068
  replace H := Option.bind_eq_some_iff.mp H
  obtain ⟨⟨t1071, t1072, t1073⟩, A50, H⟩ := H
  replace H : ((spec_CutLog.f k y1068 (wrap64 (1 + t1071))).bind fun bt1074 => (some (bt1074.1, t1072, t1073))) = some (r1, r2, r3) := H
  have A5 := Aside0.mk A50
  clear A50
  replace H := Option.bind_eq_some_iff.mp H
  obtain ⟨⟨t1074, t1075⟩, A60, H⟩ := H
  replace H : (some (t1074, t1072, t1073)) = some (r1, r2, r3) := H
  have A6 := Aside0.mk A60
  clear A60
  simp only [Option.some.injEq, Prod.mk.injEq] at H
  obtain ⟨rfl, rfl, rfl⟩ := H
  go_enter Tryd.func103, Tryd.ntmps103
  go_wp2_with (first | ((with_reducible refine gate_callee (f := 93) rfl ?_); refine goesL_ (some 7) rfl rfl Tryd.func93 (by kernel_rfl) rfl #[.pointer (some ⟨g, 0, none⟩)] rfl lm_ ?_; (with_reducible refine (spec_l19Entries.calls k g s0_0 s0_1 s0_2 t1058 t1061 t1062 w0 _ ?side1 ?side2 A2.out).mono ?_); (case side1 => repeat (first | (with_reducible first | exact HI0.out | apply IsS130.alloc | apply IsS130.drewN | apply IsS130.drew | apply IsS130.set_1 | apply IsS130.set_2) | exact HI0.out)); (case side2 => repeat (first | (with_reducible first | exact HB.out | apply below_alloc | apply pw_below_drewN | apply below_drew1 | refine below_set ?_ (IsS130.ge HI0.out)) | exact HB.out)); rintro e w7 ⟨v1059, rfl, ho0, hi, hb, hk⟩; refine ⟨_, rfl, ?_⟩; have n0_ := Aside0.mk (Kd.R_lower ho0 (keep_size (w := w) (g := g) (row := none) (by repeat (first | (with_reducible first | exact HK.out | apply KeepBut.set_ | apply keep_drewN | apply keep_drew | apply keep_alloc) | exact HK.out)))); have n1_ := Aside0.mk (KeepBut.trans (by repeat (first | (with_reducible first | exact HK.out | apply KeepBut.set_ | apply keep_drewN | apply keep_drew | apply keep_alloc) | exact HK.out)) hk (.inl rfl)); have n2_ := Aside0.mk (hb); have n3_ := Aside0.mk (hi); clear HK; clear HB; clear HI0; have HO1060 := n0_; have HK := n1_; have HB := n2_; have HI0 := n3_; clear n0_ n1_ n2_ n3_; (try clear hb); (try clear hb2); (try clear hk); (try clear hi); (try clear ho0)) | ((with_reducible refine gate_callee (f := 93) rfl ?_); refine goesL_ (some 9) rfl rfl Tryd.func93 (by kernel_rfl) rfl #[.pointer (some ⟨g, 0, none⟩)] rfl lm_ ?_; (with_reducible refine (spec_l19Entries.calls k g s0_0 t1061 t1062 t1063 t1066 t1067 w0 _ ?side1 ?side2 A3.out).mono ?_); (case side1 => repeat (first | (with_reducible first | exact HI0.out | apply IsS130.alloc | apply IsS130.drewN | apply IsS130.drew | apply IsS130.set_1 | apply IsS130.set_2) | exact HI0.out)); (case side2 => repeat (first | (with_reducible first | exact HB.out | apply below_alloc | apply pw_below_drewN | apply below_drew1 | refine below_set ?_ (IsS130.ge HI0.out)) | exact HB.out)); rintro e w8 ⟨v1064, rfl, ho0, hi, hb, hk⟩; refine ⟨_, rfl, ?_⟩; have n0_ := Aside0.mk (Kd.R_mono (Kd.R_told (Kd.R_oldK (IsS130.apart (show IsS130 w0 _ g s0_0 t1061 t1062 from by repeat (first | (with_reducible first | exact HI0.out | apply IsS130.alloc | apply IsS130.drewN | apply IsS130.drew | apply IsS130.set_1 | apply IsS130.set_2) | exact HI0.out)) (ra_ HO1060.out) (by decide)) hk) (Kd.R_base ho0)) (fun _ h_ => h_.1)); have n1_ := Aside0.mk (Kd.R_lower (Kd.R_new' ho0 (Kd.R_lt (ra_ HO1060.out))) (keep_size (w := w) (g := g) (row := none) (by repeat (first | (with_reducible first | exact HK.out | apply KeepBut.set_ | apply keep_drewN | apply keep_drew | apply keep_alloc) | exact HK.out)))); have n2_ := Aside0.mk (KeepBut.trans (by repeat (first | (with_reducible first | exact HK.out | apply KeepBut.set_ | apply keep_drewN | apply keep_drew | apply keep_alloc) | exact HK.out)) hk (.inl rfl)); have n3_ := Aside0.mk (hb); have n4_ := Aside0.mk (hi); clear HO1060; clear HK; clear HB; clear HI0; have HO1060 := n0_; have HO1065 := n1_; have HK := n2_; have HB := n3_; have HI0 := n4_; clear n0_ n1_ n2_ n3_ n4_; (try clear hb); (try clear hb2); (try clear hk); (try clear hi); (try clear ho0); obtain ⟨Ao10, co10, eo10⟩ := Kd.R_slice HO1065.out; subst eo10) | ((with_reducible refine gate_builtin (b := .append) (xs := #[.tmp 7, .tmp 9]) rfl ?_); at_builtin; refine Kd.R_append_rows k70 w.heap.size rfl (.tmp 7) (.tmp 9) 28 70 (.agg #[(.int .i64 0), (.int .i64 0), (.int .i64 0), (.int .i64 0), (.int .i64 0), (.int .i64 0)]) 48 rfl Tryd.underlying28 info70 rfl (by decide) (by omega) v1059 t1058 t1063 _ _ _ (fun k_ => some k_ ≠ (.slice Ao10 t1063.length co10 : Value).ownBlock) (fun _ => False) rfl rfl ?aO ?aR (fun _ _ h => h) (fun _ h => h.elim) ?aF (Below.refl _ _) ?aS ?aL ?_; (case aR => repeat (first | exact (Kd.R_reads' HO1065.out).2.2 | (with_reducible refine Kd.C_alloc ?_ _) | (with_reducible refine Kd.C_drewN ?_ _) | (with_reducible refine Kd.C_drew ?_))); (case aF => exact (fun k_ hk => Kd.fresh' (Kd.R_lt (ra_ HO1065.out)) k_ hk)); (case aO => exact (by (with_reducible repeat (first | apply Kd.R_alloc | apply Kd.R_drewN | apply Kd.R_drew)); exact Kd.R_mono HO1060.out (fun _ hk => hk.2))); (case aS => exact (keep_size (w := w) (g := g) (row := none) (by repeat (first | (with_reducible first | exact HK.out | apply KeepBut.set_ | apply keep_drewN | apply keep_drew | apply keep_alloc) | exact HK.out)))); (case aL => have := LMc4.out; omega); intro v1069 w9 ho hb hg hat; rw [← Ny1068.out] at ho; have n0_ := Aside0.mk (IsS130.grown (by repeat (first | (with_reducible first | exact HI0.out | apply IsS130.alloc | apply IsS130.drewN | apply IsS130.drew | apply IsS130.set_1 | apply IsS130.set_2) | exact HI0.out)) hg (IsS130.own_ne HI0.out HO1060.out (by decide))); have n1_ := Aside0.mk (Kd.R_after (ok := (fun _ => True)) (ra_ HO1065.out) hg hat); have n2_ := Aside0.mk (below_weaken (by repeat (first | (with_reducible first | exact HB.out | apply below_alloc | apply pw_below_drewN | apply below_drew1 | refine below_set ?_ (IsS130.ge HI0.out)) | exact HB.out)) HL.out hb); have n3_ := Aside0.mk (KeepBut.trans (by repeat (first | (with_reducible first | exact HK.out | apply KeepBut.set_ | apply keep_drewN | apply keep_drew | apply keep_alloc) | exact HK.out)) (KeepBut.of_grown hg g) (Kd.R_base2 HO1060.out)); have n4_ := Aside0.mk (ho); clear HI0; clear HO1065; clear HB; clear HK; clear HO1060; have HI0 := n0_; have HO1065 := n1_; have HB := n2_; have HK := n3_; have HO1070 := n4_; clear n0_ n1_ n2_ n3_ n4_; clear ho hb hg hat) | ((with_reducible refine gate_callee (f := 105) rfl ?_); refine goesL_ (some 14) rfl rfl Tryd.func105 (by kernel_rfl) rfl #[.pointer (some ⟨g, 0, none⟩), .int .i64 4] rfl lm_ ?_; (with_reducible refine (spec_l01Below.calls g s0_0 t1066 t1067 4 t1071 t1072 t1073 w0 _ ?side1 ?side2 A5.out).mono ?_); (case side1 => repeat (first | (with_reducible first | exact HI0.out | apply IsS130.alloc | apply IsS130.drewN | apply IsS130.drew | apply IsS130.set_1 | apply IsS130.set_2) | exact HI0.out)); (case side2 => repeat (first | (with_reducible first | exact HB.out | apply below_alloc | apply pw_below_drewN | apply below_drew1 | refine below_set ?_ (IsS130.ge HI0.out)) | exact HB.out)); rintro e w11 ⟨rfl, hi, hb, hk⟩; refine ⟨_, rfl, ?_⟩; have n0_ := Aside0.mk (Kd.R_mono (Kd.R_keep (IsS130.apart (show IsS130 w0 _ g s0_0 t1066 t1067 from by repeat (first | (with_reducible first | exact HI0.out | apply IsS130.alloc | apply IsS130.drewN | apply IsS130.drew | apply IsS130.set_1 | apply IsS130.set_2) | exact HI0.out)) (ra_ HO1065.out) (by decide)) hk (fun _ h => h.2)) (fun _ h => h.1)); have n1_ := Aside0.mk (Kd.R_mono (Kd.R_keep (IsS130.apart (show IsS130 w0 _ g s0_0 t1066 t1067 from by repeat (first | (with_reducible first | exact HI0.out | apply IsS130.alloc | apply IsS130.drewN | apply IsS130.drew | apply IsS130.set_1 | apply IsS130.set_2) | exact HI0.out)) (ra_ HO1070.out) (by decide)) hk (fun _ h => h.2)) (fun _ h => h.1)); have n2_ := Aside0.mk (KeepBut.trans (by repeat (first | (with_reducible first | exact HK.out | apply KeepBut.set_ | apply keep_drewN | apply keep_drew | apply keep_alloc) | exact HK.out)) hk (.inl rfl)); have n3_ := Aside0.mk (hb); have n4_ := Aside0.mk (hi); clear HO1065; clear HO1070; clear HK; clear HB; clear HI0; have HO1065 := n0_; have HO1070 := n1_; have HK := n2_; have HB := n3_; have HI0 := n4_; clear n0_ n1_ n2_ n3_ n4_; (try clear hb); (try clear hb2); (try clear hk); (try clear hi); obtain ⟨Ao12, co12, eo12⟩ := Kd.R_slice HO1070.out; subst eo12) | ((with_reducible refine gate_callee (f := 33) rfl ?_); refine goesL_ (some 16) rfl rfl Tryd.func33 (by kernel_rfl) rfl #[.slice Ao12 y1068.length co12, .int .i64 (wrap64 (1 + t1071))] rfl lm_ ?_; (with_reducible refine (spec_CutLog.calls k _ _ y1068 (wrap64 (1 + t1071)) t1074 t1075 _ ?side1 ?side2 A6.out).mono ?_); (case side1 => repeat (first | exact (Kd.R_reads' HO1070.out).2.2 | (with_reducible refine Kd.C_alloc ?_ _) | (with_reducible refine Kd.C_drewN ?_ _) | (with_reducible refine Kd.C_drew ?_))); (case side2 => exact (Kd.R_reads' HO1070.out).2.1); rintro e w13 ⟨v1076, rfl, ho0, hb⟩; refine ⟨_, rfl, ?_⟩; have n0_ := Aside0.mk (Kd.R_below (ra_ HO1065.out) hb); have n1_ := Aside0.mk (Kd.R_below (ra_ HO1070.out) hb); have n2_ := Aside0.mk (Kd.S_lower (Kd.S_new' (Kd.S_new' ho0 (Kd.R_lt (ra_ HO1065.out))) (Kd.R_lt (ra_ HO1070.out))) (keep_size (w := w) (g := g) (row := none) (by repeat (first | (with_reducible first | exact HK.out | apply KeepBut.set_ | apply keep_drewN | apply keep_drew | apply keep_alloc) | exact HK.out)))); have n3_ := Aside0.mk (IsS130.below (by repeat (first | (with_reducible first | exact HI0.out | apply IsS130.alloc | apply IsS130.drewN | apply IsS130.drew | apply IsS130.set_1 | apply IsS130.set_2) | exact HI0.out)) hb); have n4_ := Aside0.mk (KeepBut.trans (by repeat (first | (with_reducible first | exact HK.out | apply KeepBut.set_ | apply keep_drewN | apply keep_drew | apply keep_alloc) | exact HK.out)) (KeepBut.of_below hb g none) (.inl rfl)); have n5_ := Aside0.mk (below_step (by repeat (first | (with_reducible first | exact HB.out | apply below_alloc | apply pw_below_drewN | apply below_drew1 | refine below_set ?_ (IsS130.ge HI0.out)) | exact HB.out)) hb); clear HO1065; clear HO1070; clear HI0; clear HK; clear HB; have HO1065 := n0_; have HO1070 := n1_; have HO1077 := n2_; have HI0 := n3_; have HK := n4_; have HB := n5_; clear n0_ n1_ n2_ n3_ n4_ n5_; (try clear hb); (try clear hb2); (try clear hk); (try clear hi); (try clear ho0)))
  go_ret
  exact ⟨_, by first | rfl | (simp [errW_none, errW_some] <;> rfl) | (simp [*, errW_none, errW_some] <;> rfl), by (with_reducible repeat (first | apply Kd.S_alloc | apply Kd.S_drewN | apply Kd.S_drew)); exact Kd.S_mono HO1077.out (fun _ hk => trivial), by repeat (first | (with_reducible first | exact HI0.out | apply IsS130.alloc | apply IsS130.drewN | apply IsS130.drew | apply IsS130.set_1 | apply IsS130.set_2) | exact HI0.out), by repeat (first | (with_reducible first | exact HB.out | apply below_alloc | apply pw_below_drewN | apply below_drew1 | refine below_set ?_ (IsS130.ge HI0.out)) | exact HB.out), by repeat (first | (with_reducible first | exact HK.out | apply KeepBut.set_ | apply keep_drewN | apply keep_drew | apply keep_alloc) | exact HK.out)⟩
 ·rw [if_neg c4] at H
  exact absurd H (by simp)


/-! ### spec_DrawSegments: function 57 -/
def spec_DrawSegments.f (k : Nat) (l0 : List Int) : Option ((List (S30))) := (spec_l01New.f k l0).bind fun bt1078 => ((spec_l28Segments.f k bt1078.1 bt1078.2.1 bt1078.2.2).bind fun bt1082 => (some bt1082.1))
theorem spec_DrawSegments.mono : ∀ a0 k, LeO (spec_DrawSegments.f k a0) (spec_DrawSegments.f (k + 1) a0) := by
 intro a0 k
 unfold spec_DrawSegments.f
 repeat' first
  | (with_reducible exact spec_l01New.mono _ _)
  | (with_reducible exact spec_l28Segments.mono _ _ _ _)
  | (with_reducible exact LeO.refl _)
  | (with_reducible exact LeO.none _)
  | (with_reducible refine LeO.ite ?_ ?_)
  | (with_reducible refine LeO.bind ?_ (fun _ => ?_))
  | exact spec_l01New.mono _ _
  | exact spec_l28Segments.mono _ _ _ _
  | exact LeO.none _
  | refine LeO.ite ?_ ?_
  | refine LeO.bind ?_ (fun _ => ?_)
set_option maxHeartbeats 8000000 in
set_option maxRecDepth 100000 in
theorem spec_DrawSegments.calls (k : Nat) (A0 : Option Addr) (c0 : Nat) (l0 : List Int) (r : List (S30)) (w : World) (hr0 : Kd.C (Kd.int .u8) w A0 l0.length l0) (hc0 : l0.length ≤ c0) (h : spec_DrawSegments.f k l0 = some r) :
 Calls Tryd.prog 57 #[.slice A0 l0.length c0] w fun e w' => ∃ v0_ : Value, e = .returned (v0_) ∧ Kd.S k30 30 w' w.heap.size (fun _ => True) v0_ r ∧ Below w.heap.size w w' := by
 have HR0 := Aside0.mk hr0
 have HC0 := Aside0.mk hc0
 clear hr0 hc0
 have HB := Aside0.mk (Below.refl w.heap.size w)
 have H : ((spec_l01New.f k l0).bind fun bt1078 => ((spec_l28Segments.f k bt1078.1 bt1078.2.1 bt1078.2.2).bind fun bt1082 => (some bt1082.1))) = some r := h
 clear h
 replace H := Option.bind_eq_some_iff.mp H
 obtain ⟨⟨t1078, t1079, t1080⟩, A20, H⟩ := H
 replace H : ((spec_l28Segments.f k t1078 t1079 t1080).bind fun bt1082 => (some bt1082.1)) = some r := H
 have A2 := Aside0.mk A20
 clear A20
 replace H := Option.bind_eq_some_iff.mp H
 obtain ⟨⟨t1082, t1085, t1086⟩, A30, H⟩ := H
 replace H : (some t1082) = some r := H
 have A3 := Aside0.mk A30
 clear A30
 obtain rfl := Option.some.inj H
 go_enter Tryd.func57, Tryd.ntmps57
 go_wp2_with (first | ((with_reducible refine gate_callee (f := 94) rfl ?_); refine goesL_ (some 4) rfl rfl Tryd.func94 (by kernel_rfl) rfl #[.slice A0 l0.length c0] rfl lm_ ?_; (with_reducible refine (spec_l01New.calls k _ _ l0 t1078 t1079 t1080 w _ ?side1 ?side2 ?side3 A2.out).mono ?_); (case side1 => repeat (first | (with_reducible first | exact HB.out | apply below_alloc | apply pw_below_drewN | apply below_drew1) | exact HB.out)); (case side2 => exact HR0.out); (case side3 => exact HC0.out); rintro e w4 ⟨g1081, rfl, hi, hb, hb2⟩; refine ⟨_, rfl, ?_⟩; have n0_ := Aside0.mk (hb); have n1_ := Aside0.mk (hi); clear HB; have HB := n0_; have HI1081 := n1_; clear n0_ n1_; (try clear hb); (try clear hb2); (try clear hk); (try clear hi)) | ((with_reducible refine gate_callee (f := 103) rfl ?_); refine goesL_ (some 5) rfl rfl Tryd.func103 (by kernel_rfl) rfl #[.pointer (some ⟨g1081, 0, none⟩)] rfl lm_ ?_; (with_reducible refine (spec_l28Segments.calls k g1081 t1078 t1079 t1080 t1082 t1085 t1086 w _ ?side1 ?side2 A3.out).mono ?_); (case side1 => repeat (first | (with_reducible first | exact HI1081.out | apply IsS130.alloc | apply IsS130.drewN | apply IsS130.drew | apply IsS130.set_1 | apply IsS130.set_2) | exact HI1081.out)); (case side2 => repeat (first | (with_reducible first | exact HB.out | apply below_alloc | apply pw_below_drewN | apply below_drew1 | refine below_set ?_ (IsS130.ge HI1081.out)) | exact HB.out)); rintro e w5 ⟨v1083, rfl, ho0, hi, hb, hk⟩; refine ⟨_, rfl, ?_⟩; have n0_ := Aside0.mk (Kd.S_lower ho0 (below_size (by repeat (first | (with_reducible first | exact HB.out | apply below_alloc | apply pw_below_drewN | apply below_drew1 | refine below_set ?_ (IsS130.ge HI1081.out)) | exact HB.out)))); have n1_ := Aside0.mk (hb); have n2_ := Aside0.mk (hi); clear HB; clear HI1081; have HO1084 := n0_; have HB := n1_; have HI1081 := n2_; clear n0_ n1_ n2_; (try clear hb); (try clear hb2); (try clear hk); (try clear hi); (try clear ho0)))
 go_ret
 exact ⟨_, by first | rfl | (simp [errW_none, errW_some] <;> rfl) | (simp [*, errW_none, errW_some] <;> rfl), by (with_reducible repeat (first | apply Kd.S_alloc | apply Kd.S_drewN | apply Kd.S_drew)); exact HO1084.out, by repeat (first | (with_reducible first | exact HB.out | apply below_alloc | apply pw_below_drewN | apply below_drew1 | refine below_set ?_ (IsS130.ge HI1081.out)) | exact HB.out)⟩

end Go.Proofs.YtdhjolglbcoijaaDoor.PA
