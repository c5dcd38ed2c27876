/- Contracts of functions of the program and of the reference, and plain lemmas on what they compute. No condition. -/
import Derived.Test.YtdhjolglbcoijaaDoorGe1c07x0
import Derived.Test.YtdhjolglbcoijaaDoorGd11e3x0
import Derived.Test.YtdhjolglbcoijaaDoorG19953x0
import Derived.Test.YtdhjolglbcoijaaDoorShortV
set_option maxHeartbeats 8000000
set_option maxRecDepth 100000
namespace Go.Proofs.YtdhjolglbcoijaaDoor.PA
open Go.RowKit Go.Proofs.YtdhjolglbcoijaaDoor.Short Go.Proofs.YtdhjolglbcoijaaDoorW.PrintWords Go.Proofs.YtdhjolglbcoijaaDoorW.PrintLast Go.Proofs.YtdhjolglbcoijaaDoorW.PrintMore
attribute [local go_sem] max2_int min2_int max_two min_two max_three min_three max_four min_four   -- for this text's walks alone
set_option linter.unusedVariables false
set_option linter.unusedSimpArgs false

mutual
def spec_CutLog.j0 : Nat → List (S70) → Int → List (S30) → Bool → Option ((List (S30)) × Bool)
 | 0, _, _, _, _ => none
 | k + 1, x0, x1, x6, x19 => if x19 = true then (some (x6, false)) else ((spec_Digest.f (⟨#[]⟩ : ByteArray)).bind fun t200 => (spec_CutLog.l0 k x0 x1 x6 t200 0))
def spec_CutLog.l0 : Nat → List (S70) → Int → List (S30) → ByteArray → Int → Option ((List (S30)) × Bool)
 | 0, _, _, _, _, _ => none
 | k + 1, x0, x1, x6, x7, x8 => if x8 < (x0.length : Int) then (if (wrap64 (x8 + x1)) > (x0.length : Int) then (if 0 ≤ x8 then (if x8 ≤ (x0.length : Int) then (if (x0.length : Int) ≤ (x0.length : Int) then ((spec_l28Entries.f ((x0.take ((x0.length : Int) : Int).toNat).drop (x8 : Int).toNat)).bind fun t205 => ((spec_HeadFrom.f k x7 t205).bind fun t209 => (if x6.length < 2199023255552 then (spec_CutLog.l0 k x0 x1 (x6 ++ [(⟨x8, x7, t205, t209⟩ : S30)]) t209 (wrap64 (x8 + x1))) else (none)))) else (none)) else (none)) else (none)) else (if 0 ≤ x8 then (if x8 ≤ (wrap64 (x8 + x1)) then (if (wrap64 (x8 + x1)) ≤ (x0.length : Int) then ((spec_l28Entries.f ((x0.take ((wrap64 (x8 + x1)) : Int).toNat).drop (x8 : Int).toNat)).bind fun t217 => ((spec_HeadFrom.f k x7 t217).bind fun t221 => (if x6.length < 2199023255552 then (spec_CutLog.l0 k x0 x1 (x6 ++ [(⟨x8, x7, t217, t221⟩ : S30)]) t221 (wrap64 (x8 + x1))) else (none)))) else (none)) else (none)) else (none))) else (some (x6, true))
end
def spec_CutLog.f (k : Nat) (l0 : List (S70)) (a1 : Int) : Option ((List (S30)) × Bool) := (some (([] : List (S30)) : List (S30))).bind fun y196 => ((spec_l01In.f a1 1 200).bind fun t199 => (if t199 = true then (spec_CutLog.j0 k l0 a1 y196 (decide ((l0.length : Int) > 200))) else (spec_CutLog.j0 k l0 a1 y196 true)))
theorem spec_CutLog.mono_l : ∀ k, (∀ y0 y1 y2 y3, LeO (spec_CutLog.j0 k y0 y1 y2 y3) (spec_CutLog.j0 (k + 1) y0 y1 y2 y3)) ∧ (∀ y0 y1 y2 y3 y4, LeO (spec_CutLog.l0 k y0 y1 y2 y3 y4) (spec_CutLog.l0 (k + 1) y0 y1 y2 y3 y4))
 | 0 => ⟨fun _ _ _ _ r h => by simp [spec_CutLog.j0] at h, fun _ _ _ _ _ r h => by simp [spec_CutLog.l0] at h⟩
 | k + 1 => by
  obtain ⟨ih0, ih1⟩ := spec_CutLog.mono_l k
  refine ⟨?_, ?_⟩
  ·intro y0 y1 y2 y3
   unfold spec_CutLog.j0
   have m0 := @spec_HeadFrom.mono
   exact mo_
  ·intro y0 y1 y2 y3 y4
   unfold spec_CutLog.l0
   have m0 := @spec_HeadFrom.mono
   exact mo_
theorem spec_CutLog.mono : ∀ a0 a1 k, LeO (spec_CutLog.f k a0 a1) (spec_CutLog.f (k + 1) a0 a1) := by
 intro a0 a1 k
 obtain ⟨ih0, ih1⟩ := spec_CutLog.mono_l k
 unfold spec_CutLog.f
 have m0 := @spec_HeadFrom.mono
 exact mo_
theorem spec_CutLog.calls (k : Nat) (A0 : Option Addr) (c0 : Nat) (l0 : List (S70)) (a1 : Int) (r1 : List (S30)) (r2 : Bool) (w : World) (hr0 : Kd.C k70 w A0 l0.length l0) (hc0 : l0.length ≤ c0) (h : spec_CutLog.f k l0 a1 = some (r1, r2)) :
 Calls Tryd.prog 33 #[.slice A0 l0.length c0, .int .i64 a1] w fun e w' => ∃ v0_ : Value, e = .returned (.tuple #[v0_, .bool r2]) ∧ Kd.S k30 30 w' w.heap.size (fun _ => True) v0_ r1 ∧ Below w.heap.size w w' := by
 have hu30 := Tryd.underlying30
 have HR0 := Aside0.mk hr0
 have HC0 := Aside0.mk hc0
 clear hr0 hc0
 have HB := Aside0.mk (Below.refl w.heap.size w)
 have H := h
 unfold spec_CutLog.f at H
 clear h
 obtain ⟨y196, hy196⟩ : ∃ y_ : List (S30), y_ = (([] : List (S30))) := ⟨_, rfl⟩
 replace H : ((spec_l01In.f a1 1 200).bind fun t199 => (if t199 = true then (spec_CutLog.j0 k l0 a1 y196 (decide ((l0.length : Int) > 200))) else (spec_CutLog.j0 k l0 a1 y196 true))) = some (r1, r2) := rp_ H hy196
 have Ny196 := Aside0.mk hy196
 clear hy196
 have HC3 := Aside0.mk H
 clear H
 go_enter Tryd.func33, Tryd.ntmps33
 go_upto_region 2 with (first | ((with_reducible refine gate_dst (N := 11) rfl ?_); (try (refine gate_guard (by rfl) ?_; dsimp only)); refine Kd.S_lit k30 _ 30 ?hg (N := 11) ?hd (xs := ([] : List (S30))) (inner := []) (ok := fun _ => True) (okp := fun _ => True) ?hr ?hp (fun _ hk => hk) trivial (Below.refl _ _) (Nat.le_refl _) (by simp) ?_; (case hd => rfl); (case hg => rfl); (case hr => first | (go_simp; done) | (go_simp; rfl)); (case hp => exact (Reps.none _ _)); intro v197 w4 ho5 hb hg_ hnew_; clear hg_ hnew_; (first | rw [← Ny196.out] at ho5 | (simp only [Int.reduceToNat] at ho5; rw [← Ny196.out] at ho5)); have HO198 := Aside0.mk (Kd.S_lower ho5 (below_size bl_)); replace HB := Aside0.mk (below_step bl_ hb); clear hb ho5))
 (try simp only [Act.put, List.setIfInBounds_toArray, List.set_cons_zero, List.set_cons_succ])
 go_cut [19] (fun v19 wc => ∃ (kq : Nat) (x19_2 : Bool), v19 = .bool x19_2 ∧ Aside0 (spec_CutLog.j0 kq l0 a1 y196 x19_2 = some (r1, r2)) ∧ Aside0 (kq ≤ k) ∧ Aside0 (Kd.S k30 30 wc w.heap.size (fun _ => True) v197 y196) ∧ Aside0 (Below w.heap.size w wc))
 case first =>
  have H := HC3.out
  clear HC3
  replace H := bs_ H
  obtain ⟨t199, A6, H⟩ := H
  try dsimp only at H
  by_cases c7 : t199 = true
  ·subst c7
   rw [if_pos rfl] at H
   have H' := Aside0.mk H
   clear H
   go_wp2_with (first | ((with_reducible refine gate_callee (f := 70) rfl ?_); refine gs_ (some 13) Tryd.func70 #[.int .i64 a1, .int .i64 1, .int .i64 200] ?_; (with_reducible refine (spec_l01In.calls a1 1 200 true _ A6.out).mono ?_); rintro e w' ⟨rfl, ⟨nd, rfl⟩⟩; refine ⟨_, rfl, ?_⟩))
   go_meet
   case rel => exact ⟨_, (decide ((l0.length : Int) > 200)), (sr_), H', ⟨by first | omega | exact Nat.le_refl _⟩, ⟨by (with_reducible repeat (first | apply Kd.S_alloc | apply Kd.S_drewN | apply Kd.S_drew)); exact HO198.out⟩, ⟨bl_⟩⟩
  replace c7 := Bool.eq_false_iff.mpr c7
  subst c7
  rw [nf_] at H
  have H' := Aside0.mk H
  clear H
  go_wp2_with (first | ((with_reducible refine gate_callee (f := 70) rfl ?_); refine gs_ (some 13) Tryd.func70 #[.int .i64 a1, .int .i64 1, .int .i64 200] ?_; (with_reducible refine (spec_l01In.calls a1 1 200 false _ A6.out).mono ?_); rintro e w' ⟨rfl, ⟨nd, rfl⟩⟩; refine ⟨_, rfl, ?_⟩))
  go_meet
  case rel => exact ⟨_, (true), (sr_), H', ⟨by first | omega | exact Nat.le_refl _⟩, ⟨by (with_reducible repeat (first | apply Kd.S_alloc | apply Kd.S_drewN | apply Kd.S_drew)); exact HO198.out⟩, ⟨bl_⟩⟩
 clear HC3
 obtain ⟨kq, x19_2, rfl, HA, HJ2, HO_6, HB⟩ := hcut
 cases kq with
 | zero => exact absurd HA.out (by simp [spec_CutLog.j0])
 | succ kj2 => ?_
 have H := HA.out
 clear HA
 simp only [spec_CutLog.j0] at H
 by_cases c8 : x19_2 = true
 ·subst c8
  rw [if_pos rfl] at H
  simp only [Option.some.injEq, Prod.mk.injEq] at H
  obtain ⟨rfl, rfl⟩ := H
  go_wp2
  go_ret2
  exact ⟨_, er_, by (with_reducible repeat (first | apply Kd.S_alloc | apply Kd.S_drewN | apply Kd.S_drew)); exact HO_6.out, bl_⟩
 replace c8 := Bool.eq_false_iff.mpr c8
 subst c8
 rw [nf_] at H
 replace H := bs_ H
 obtain ⟨t200, A9, H⟩ := H
 try dsimp only at H
 have H' := Aside0.mk H
 clear H
 go_wp2_with (first | ((with_reducible refine gate_callee (f := 56) rfl ?_); refine gs_ (some 21) Tryd.func56 #[.string (⟨#[]⟩ : ByteArray)] ?_; (with_reducible refine (spec_Digest.calls (⟨#[]⟩ : ByteArray) t200 _ A9.out).mono ?_); rintro e w10 ⟨rfl, hb⟩; refine ⟨_, rfl, ?_⟩; replace HO_6 := Aside0.mk (Kd.S_below (by (with_reducible repeat (first | apply Kd.S_alloc | apply Kd.S_drewN | apply Kd.S_drew)); exact HO_6.out) hb); replace HB := Aside0.mk (below_step bl_ hb); (try clear hb)))
 go_loopg [6, 7, 8] kj2 (fun kq v6 v7 v8 w' => ∃ (x6_2 : List (S30)) (x7_2 : ByteArray) (x8_2 : Int), v7 = .string x7_2 ∧ v8 = .int .i64 x8_2 ∧ Aside0 (spec_CutLog.l0 kq l0 a1 x6_2 x7_2 x8_2 = some (r1, r2)) ∧ Aside0 (kq ≤ kj2) ∧ Aside0 (Kd.S k30 30 w' w.heap.size (fun _ => True) v6 x6_2) ∧ Aside0 (Below w.heap.size w w'))
 case atStart => exact ⟨(y196), (t200), (0), (sr_), (sr_), H', ⟨Nat.le_refl _⟩, ⟨by (with_reducible repeat (first | apply Kd.S_alloc | apply Kd.S_drewN | apply Kd.S_drew)); exact HO_6.out⟩, ⟨bl_⟩⟩
 clear H'
 try clear c8
 obtain ⟨x6_2, x7_2, x8_2, rfl, rfl, HA, HK2, HO_6, HB⟩ := hrel
 cases gk with
 | zero => exact absurd HA.out (by simp [spec_CutLog.l0])
 | succ k2 => ?_
 have H := HA.out
 clear HA
 simp only [spec_CutLog.l0] at H
 by_cases c11 : x8_2 < (l0.length : Int)
 rotate_left
 ·rw [if_neg c11] at H
  have c11b0 := decide_eq_false c11
  clear c11
  simp only [Option.some.injEq, Prod.mk.injEq] at H
  obtain ⟨rfl, rfl⟩ := H
  go_wp2
  go_ret2
  exact ⟨_, er_, by (with_reducible repeat (first | apply Kd.S_alloc | apply Kd.S_drewN | apply Kd.S_drew)); exact HO_6.out, bl_⟩
 rw [if_pos c11] at H
 have c11b0 := decide_eq_true c11
 clear c11
 by_cases c12 : (wrap64 (x8_2 + a1)) > (l0.length : Int)
 rotate_left
 ·rw [if_neg c12] at H
  have c12b0 := decide_eq_false c12
  clear c12
  by_cases c29 : 0 ≤ x8_2
  rotate_left
  ·exact nn_ c29 H
  rw [if_pos c29] at H
  have c29b0 := eq_true c29
  have c29b1 : decide (0 ≤ x8_2) = true := decide_eq_true c29
  clear c29
  by_cases c30 : x8_2 ≤ (wrap64 (x8_2 + a1))
  rotate_left
  ·exact nn_ c30 H
  rw [if_pos c30] at H
  have c30b0 := eq_true c30
  have c30b1 : decide (x8_2 ≤ (wrap64 (x8_2 + a1))) = true := decide_eq_true c30
  by_cases c31 : (wrap64 (x8_2 + a1)) ≤ (l0.length : Int)
  rotate_left
  ·exact nn_ c31 H
  rw [if_pos c31] at H
  have c31b0 := eq_true c31
  have c31b1 : decide ((wrap64 (x8_2 + a1)) ≤ (l0.length : Int)) = true := decide_eq_true c31
  obtain ⟨y213, hy213⟩ : ∃ y_ : List (S70), y_ = ((l0.take ((wrap64 (x8_2 + a1)) : Int).toNat).drop (x8_2 : Int).toNat) := ⟨_, rfl⟩
  replace H : ((spec_l28Entries.f y213).bind fun t217 => ((spec_HeadFrom.f k2 x7_2 t217).bind fun t221 => (if x6_2.length < 2199023255552 then (spec_CutLog.l0 k2 l0 a1 (x6_2 ++ [(⟨x8_2, x7_2, t217, t221⟩ : S30)]) t221 (wrap64 (x8_2 + a1))) else (none)))) = some (r1, r2) := rp_ H hy213
  have Ny213 := Aside0.mk hy213
  clear hy213
  replace H := bs_ H
  obtain ⟨t217, A32, H⟩ := H
  try dsimp only at H
  replace H := bs_ H
  obtain ⟨t221, A33, H⟩ := H
  try dsimp only at H
  by_cases c34 : x6_2.length < 2199023255552
  rotate_left
  ·exact nn_ c34 H
  rw [if_pos c34] at H
  have LMc34 := Aside0.mk c34
  clear c34
  obtain ⟨y222, hy222⟩ : ∃ y_ : List (S30), y_ = (x6_2 ++ [(⟨x8_2, x7_2, t217, t221⟩ : S30)]) := ⟨_, rfl⟩
  replace H : (spec_CutLog.l0 k2 l0 a1 y222 t221 (wrap64 (x8_2 + a1))) = some (r1, r2) := rp_ H hy222
  have Ny222 := Aside0.mk hy222
  clear hy222
  have H' := Aside0.mk H
  clear H
  have q35 : ((wrap64 (x8_2 + a1)) : Int) ≤ ((l0.length : Int) : Int) := of_decide_eq_true as_
  obtain ⟨i035, hi035, _, hsz35, _⟩ := info_parts info70
  have hroom35 : l0.length ≤ c0 := HC0.out
  have hC35 : Kd.C k70 _ A0 l0.length l0 := HR0.out
  have ql35 : (x8_2 : Int) ≤ ((wrap64 (x8_2 + a1)) : Int) := of_decide_eq_true as_
  have q035 : (0 : Int) ≤ (x8_2 : Int) := of_decide_eq_true as_
  have hcut35 := cut_mid (P := Tryd.prog) 28 70 .i64 .i64 Tryd.underlying28 hi035 6 hsz35 A0 l0.length c0 x8_2 (wrap64 (x8_2 + a1)) q035 ql35 q35 hroom35
  have hr35 := Kd.C_mid (lo := (x8_2 : Int).toNat) (hi := ((wrap64 (x8_2 + a1)) : Int).toNat) (c := c0) hC35 (by omega) (by omega) hroom35
  obtain ⟨A35, hA35⟩ : ∃ A1, A1 = (if c0 = (x8_2 : Int).toNat then A0 else (A0 : Option Addr).map (·.add ((x8_2 : Int).toNat * 6))) := ⟨_, rfl⟩
  obtain ⟨c35, hc35⟩ : ∃ c1, c1 = c0 - (x8_2 : Int).toNat := ⟨_, rfl⟩
  have hy35 : y213.length = ((wrap64 (x8_2 + a1)) : Int).toNat - (x8_2 : Int).toNat := (by rw [Ny213.out, List.length_drop, List.length_take] <;> omega)
  rw [show ((l0).take ((wrap64 (x8_2 + a1)) : Int).toNat).drop (x8_2 : Int).toNat = y213 from Ny213.out.symm] at hr35
  replace hr35 : Kd.C k70 _ A35 y213.length y213 := (by rw [hA35]; exact hr35)
  rw [← hy35, ← hA35, ← hc35] at hcut35
  have HR216 := Aside0.mk hr35
  have HC216 := Aside0.mk (show y213.length ≤ c35 from by rw [hy35, hc35]; exact Nat.sub_le_sub_right (Nat.le_trans (by omega) hroom35) _)
  clear hr35 hC35 hroom35 hi035 hsz35 hc35
  have KY35 := Aside0.mk hy35
  have KA35 := Aside0.mk hA35
  clear hy35 hA35
  replace q35 := eq_true q35
  go_wp2_with (first | ((with_reducible refine gate_callee (f := 85) rfl ?_); refine gs_ (some 44) Tryd.func85 #[.slice A35 y213.length c35] ?_; (with_reducible refine (spec_l28Entries.calls _ _ y213 t217 _ ?side1 ?side2 A32.out).mono ?_); (case side1 => exact cb_ HR216.out HB.out); (case side2 => exact HC216.out); rintro e w36 ⟨v218, rfl, ho0, hb⟩; refine ⟨_, rfl, ?_⟩; replace HO_6 := Aside0.mk (Kd.S_elder' (by (with_reducible repeat (first | apply Kd.S_alloc | apply Kd.S_drewN | apply Kd.S_drew)); exact HO_6.out) (Kd.R_base ho0) hb); have HO219 := Aside0.mk (Kd.R_lower ho0 (below_size bl_)); replace HB := Aside0.mk (below_step bl_ hb); (try clear hb); (try clear ho0); obtain ⟨Ao37, co37, eo37⟩ := Kd.R_slice HO219.out; subst eo37) | ((with_reducible refine gate_dst (N := 10) rfl ?_); (try (refine gate_guard (by rfl) ?_; dsimp only)); refine bx_ 10 30 #[.int .i64 0, .string (⟨#[]⟩ : ByteArray), .slice none 0 0, .string (⟨#[]⟩ : ByteArray)] ?_; intro gb220 hg w38 hbox hb; replace HO_6 := Aside0.mk (Kd.S_below (Kd.S_elderB (by (with_reducible repeat (first | apply Kd.S_alloc | apply Kd.S_drewN | apply Kd.S_drew)); exact HO_6.out) gb220 (Nat.le_of_eq hg.symm)) hb); replace HO219 := Aside0.mk (Kd.R_below (ra_ HO219.out) hb); have BK220 := Aside0.mk (hbox); have GW220 := Aside0.mk ((hz_ : w.heap.size ≤ gb220)); have GE220 := Aside0.mk ((hz_ : w.heap.size ≤ gb220)); replace HB := Aside0.mk (below_step bl_ hb); clear hb hbox hg; obtain ⟨hcz39_0, hcz39_1, hcz39_2, hcz39_3, hfz39_0, hfz39_1, hfz39_2, hfz39_3⟩ := cf4_ BK220.out) | ((with_reducible refine gate_callee (f := 71) rfl ?_); refine gs_ (some 49) Tryd.func71 #[.string x7_2, .slice Ao37 t217.length co37] ?_; (with_reducible refine (spec_HeadFrom.calls k2 x7_2 _ _ t217 t221 _ ?side1 ?side2 A33.out).mono ?_); (case side1 => refine (Kd.R_reads' (e := 70) (base := w.heap.size) (ok := fun k_ => True) (n := t217.length) (c := co37) ?_).2.2; exact (rfa_ HO219.out BK220.out)); (case side2 => exact (Kd.R_reads' HO219.out).2.1); rintro e w40 ⟨rfl, hb⟩; refine ⟨_, rfl, ?_⟩; replace HO_6 := Aside0.mk (Kd.S_below (by (with_reducible repeat (first | apply Kd.S_alloc | apply Kd.S_drewN | apply Kd.S_drew)); exact (Kd.S_mono (Kd.S_far (p := ⟨gb220, 3, none⟩) (Kd.S_far (p := ⟨gb220, 2, none⟩) (Kd.S_far (p := ⟨gb220, 1, none⟩) (Kd.S_far (p := ⟨gb220, 0, none⟩) (Kd.S_mono HO_6.out (fun k_ hk => (⟨hk, hk.2⟩ : _ ∧ k_ ≠ gb220))) (fun _ hk => hk.2) (.int .i64 x8_2)) (fun _ hk => hk.2) (.string x7_2)) (fun _ hk => hk.2) (.slice Ao37 t217.length co37)) (fun _ hk => hk.2) (.string (⟨#[]⟩ : ByteArray))) (fun _ h_ => h_.1))) hb); replace HO219 := Aside0.mk (Kd.R_below (rfa_ HO219.out BK220.out) hb); replace BK220 := Aside0.mk (blk_below (g := gb220) (o := .cells #[.int .i64 x8_2, .string x7_2, .slice Ao37 t217.length co37, .string (⟨#[]⟩ : ByteArray)] 30 (0, 0)) (bp0_ BK220.out) hb); replace HB := Aside0.mk (below_step bl_ hb); (try clear hb); obtain ⟨hcz41_0, hcz41_1, hcz41_2, hcz41_3, hfz41_0, hfz41_1, hfz41_2, hfz41_3⟩ := cf4_ BK220.out) | ((with_reducible refine gate_store (t := 9) (p := 51) rfl ?_); refine store_event (t := 9) (p := 51) (v := ?vo_w42) (w1 := (w40.setCell ⟨gb220, 3, none⟩ (.string t221))) ?hg ?ho ?hn ?hr ?_; (case ho => rfl); (case hg => rfl); (case hn => rfl); (case hr => first | (go_simp; done) | (go_simp; rfl)); intro w42 hw; have n0_ : Aside0 (Kd.S k30 30 w42 w.heap.size (fun k_ => some k_ ≠ (.slice Ao37 t217.length co37 : Value).ownBlock ∧ k_ ≠ gb220) u6 x6_2) := ⟨(by rw [hw]; exact (by (with_reducible repeat (first | apply Kd.S_alloc | apply Kd.S_drewN | apply Kd.S_drew)); exact Kd.S_mono (Kd.S_far (p := ⟨gb220, 3, none⟩) (Kd.S_mono HO_6.out (fun k_ hk => (⟨hk, hk.2⟩ : _ ∧ k_ ≠ gb220))) (fun _ hk => hk.2) (.string t221)) (fun _ hk => ⟨hk.1.1.2, hk.1.2⟩)))⟩; have n1_ : Aside0 (Kd.R k70 70 w42 w.heap.size (fun _ => True) (.slice Ao37 t217.length co37) t217) := ⟨(by rw [hw]; exact (by (with_reducible repeat (first | apply Kd.R_alloc | apply Kd.R_drewN | apply Kd.R_drew)); exact Kd.R_mono (Kd.R_far (p := ⟨gb220, 3, none⟩) (Kd.R_types HO219.out BK220.out (by decide)) (fun _ hk => hk.2) (.string t221)) (fun _ hk => trivial)))⟩; have n2_ : Aside0 (w42.heap[gb220]? = some (.cells #[.int .i64 x8_2, .string x7_2, .slice Ao37 t217.length co37, .string t221] 30 (0, 0))) := ⟨(by rw [hw]; exact (bp0_ BK220.out))⟩; have n3_ : Aside0 (Below w.heap.size w w42) := ⟨(by rw [hw]; exact bl_)⟩; clear hw; clear HO_6; clear HO219; clear BK220; clear HB; have HO_6 := n0_; have HO219 := n1_; have BK220 := n2_; have HB := n3_; clear n0_ n1_ n2_ n3_; obtain ⟨hcz43_0, hcz43_1, hcz43_2, hcz43_3, hfz43_0, hfz43_1, hfz43_2, hfz43_3⟩ := cf4_ BK220.out) | ((with_reducible refine gate_builtin (b := .append) (xs := #[.tmp 52, .tmp 54]) rfl ?_); (try (refine gate_guard (by rfl) ?_; dsimp only)); at_builtin; refine Kd.S_append k30 (w0 := w) w.heap.size rfl (.tmp 52) (.tmp 54) 46 30 (.agg #[(.int .i64 0), (.string ⟨#[]⟩), (.slice none 0 0), (.string ⟨#[]⟩)]) 64 rfl Tryd.underlying46 info30 rfl (by decide) (by omega) u6 x6_2 (⟨x8_2, x7_2, t217, t221⟩ : S30) [.int .i64 x8_2, .string x7_2, .slice Ao37 t217.length co37, .string t221] (fun k_ => k_ ≠ gb220) (fun k_ => some k_ = (.slice Ao37 t217.length co37 : Value).ownBlock) rfl rfl ?aP (fun k_ hk_ => ((Kd.R_mono (ok' := fun k_ => ((fun k_ => k_ ≠ gb220)) k_ ∧ some k_ ≠ (u6 : Value).ownBlock) (Kd.R_types (Kd.R_apart' (HO219.out) (Kd.S_typed HO_6.out) (by decide)) BK220.out (by decide)) (fun k_ hk => ⟨hk.2, hk.1.2⟩))).1 k_ hk_.symm) ?aF ?aO ?aB ?aS ?aL ?_; (case aP => exact k30_mkM _ _ _ (⟨x8_2, x7_2, t217, t221⟩ : S30) (Kd.R_mono (Kd.R_tight rfl (Kd.R_mono (ok' := fun k_ => ((fun k_ => k_ ≠ gb220)) k_ ∧ some k_ ≠ (u6 : Value).ownBlock) (Kd.R_types (Kd.R_apart' (HO219.out) (Kd.S_typed HO_6.out) (by decide)) BK220.out (by decide)) (fun k_ hk => ⟨hk.2, hk.1.2⟩))) (fun _ h_ => h_))); (case aB => exact bl_); (case aF => exact (fun k_ hk => Kd.freshB (g := gb220) (o := .cells #[.int .i64 x8_2, .string x7_2, .slice Ao37 t217.length co37, .string t221] 30 (0, 0)) (bk_ BK220.out) k_ hk)); (case aO => exact (by (with_reducible repeat (first | apply Kd.S_alloc | apply Kd.S_drewN | apply Kd.S_drew)); exact Kd.S_mono HO_6.out (fun k_ hk => ⟨hk.2, fun e_ => hk.1 e_⟩))); (case aS => exact (below_size bl_)); (case aL => have := LMc34.out; omega); intro v223 w44 ho hb hg hat; rw [← Ny222.out] at ho; replace BK220 := Aside0.mk (blk_grown (g := gb220) (o := .cells #[.int .i64 x8_2, .string x7_2, .slice Ao37 t217.length co37, .string t221] 30 (0, 0)) (bk_ BK220.out) hg (Kd.S_away HO_6.out (fun _ hk => hk.2))); replace HB := Aside0.mk (hb); have HO224 := Aside0.mk (ho); clear HO_6 HO219; clear ho hb hg hat))
  go_roundg k2
  case measure => have := HJ2.out; have := HK2.out; omega
  case rel => exact ⟨(y222), (t221), (wrap64 (x8_2 + a1)), (sr_), (sr_), H', ⟨by have := HJ2.out; have := HK2.out; omega⟩, ⟨by (with_reducible repeat (first | apply Kd.S_alloc | apply Kd.S_drewN | apply Kd.S_drew)); exact Kd.S_mono HO224.out (fun _ hk => trivial)⟩, ⟨bl_⟩⟩
 rw [if_pos c12] at H
 have c12b0 := decide_eq_true c12
 clear c12
 by_cases c13 : 0 ≤ x8_2
 rotate_left
 ·exact nn_ c13 H
 rw [if_pos c13] at H
 have c13b0 := eq_true c13
 have c13b1 : decide (0 ≤ x8_2) = true := decide_eq_true c13
 clear c13
 by_cases c14 : x8_2 ≤ (l0.length : Int)
 rotate_left
 ·exact nn_ c14 H
 rw [if_pos c14] at H
 have c14b0 := eq_true c14
 have c14b1 : decide (x8_2 ≤ (l0.length : Int)) = true := decide_eq_true c14
 clear c14
 by_cases c15 : (l0.length : Int) ≤ (l0.length : Int)
 rotate_left
 ·exact nn_ c15 H
 rw [if_pos c15] at H
 have c15b0 := eq_true c15
 have c15b1 : decide ((l0.length : Int) ≤ (l0.length : Int)) = true := decide_eq_true c15
 clear c15
 obtain ⟨y201, hy201⟩ : ∃ y_ : List (S70), y_ = ((l0.take ((l0.length : Int) : Int).toNat).drop (x8_2 : Int).toNat) := ⟨_, rfl⟩
 replace H : ((spec_l28Entries.f y201).bind fun t205 => ((spec_HeadFrom.f k2 x7_2 t205).bind fun t209 => (if x6_2.length < 2199023255552 then (spec_CutLog.l0 k2 l0 a1 (x6_2 ++ [(⟨x8_2, x7_2, t205, t209⟩ : S30)]) t209 (wrap64 (x8_2 + a1))) else (none)))) = some (r1, r2) := rp_ H hy201
 have Ny201 := Aside0.mk hy201
 clear hy201
 replace H := bs_ H
 obtain ⟨t205, A16, H⟩ := H
 try dsimp only at H
 replace H := bs_ H
 obtain ⟨t209, A17, H⟩ := H
 try dsimp only at H
 by_cases c18 : x6_2.length < 2199023255552
 rotate_left
 ·exact nn_ c18 H
 rw [if_pos c18] at H
 have LMc18 := Aside0.mk c18
 clear c18
 obtain ⟨y210, hy210⟩ : ∃ y_ : List (S30), y_ = (x6_2 ++ [(⟨x8_2, x7_2, t205, t209⟩ : S30)]) := ⟨_, rfl⟩
 replace H : (spec_CutLog.l0 k2 l0 a1 y210 t209 (wrap64 (x8_2 + a1))) = some (r1, r2) := rp_ H hy210
 have Ny210 := Aside0.mk hy210
 clear hy210
 have H' := Aside0.mk H
 clear H
 have q19 : ((l0.length : Int) : Int) ≤ ((l0.length : Int) : Int) := of_decide_eq_true as_
 obtain ⟨i019, hi019, _, hsz19, _⟩ := info_parts info70
 have hroom19 : l0.length ≤ c0 := HC0.out
 have hC19 : Kd.C k70 _ A0 l0.length l0 := HR0.out
 have ql19 : (x8_2 : Int) ≤ ((l0.length : Int) : Int) := of_decide_eq_true as_
 have q019 : (0 : Int) ≤ (x8_2 : Int) := of_decide_eq_true as_
 have hcut19 := cut_mid (P := Tryd.prog) 28 70 .i64 .i64 Tryd.underlying28 hi019 6 hsz19 A0 l0.length c0 x8_2 (l0.length : Int) q019 ql19 q19 hroom19
 have hr19 := Kd.C_mid (lo := (x8_2 : Int).toNat) (hi := ((l0.length : Int) : Int).toNat) (c := c0) hC19 (by omega) (by omega) hroom19
 obtain ⟨A19, hA19⟩ : ∃ A1, A1 = (if c0 = (x8_2 : Int).toNat then A0 else (A0 : Option Addr).map (·.add ((x8_2 : Int).toNat * 6))) := ⟨_, rfl⟩
 obtain ⟨c19, hc19⟩ : ∃ c1, c1 = c0 - (x8_2 : Int).toNat := ⟨_, rfl⟩
 have hy19 : y201.length = ((l0.length : Int) : Int).toNat - (x8_2 : Int).toNat := (by rw [Ny201.out, List.length_drop, List.length_take] <;> omega)
 rw [show ((l0).take ((l0.length : Int) : Int).toNat).drop (x8_2 : Int).toNat = y201 from Ny201.out.symm] at hr19
 replace hr19 : Kd.C k70 _ A19 y201.length y201 := (by rw [hA19]; exact hr19)
 rw [← hy19, ← hA19, ← hc19] at hcut19
 have HR204 := Aside0.mk hr19
 have HC204 := Aside0.mk (show y201.length ≤ c19 from by rw [hy19, hc19]; exact Nat.sub_le_sub_right (Nat.le_trans (by omega) hroom19) _)
 clear hr19 hC19 hroom19 hi019 hsz19 hc19
 have KY19 := Aside0.mk hy19
 have KA19 := Aside0.mk hA19
 clear hy19 hA19
 replace q19 := eq_true q19
 go_wp2_with (first | ((with_reducible refine gate_callee (f := 85) rfl ?_); refine gs_ (some 44) Tryd.func85 #[.slice A19 y201.length c19] ?_; (with_reducible refine (spec_l28Entries.calls _ _ y201 t205 _ ?side1 ?side2 A16.out).mono ?_); (case side1 => exact cb_ HR204.out HB.out); (case side2 => exact HC204.out); rintro e w20 ⟨v206, rfl, ho0, hb⟩; refine ⟨_, rfl, ?_⟩; replace HO_6 := Aside0.mk (Kd.S_elder' (by (with_reducible repeat (first | apply Kd.S_alloc | apply Kd.S_drewN | apply Kd.S_drew)); exact HO_6.out) (Kd.R_base ho0) hb); have HO207 := Aside0.mk (Kd.R_lower ho0 (below_size bl_)); replace HB := Aside0.mk (below_step bl_ hb); (try clear hb); (try clear ho0); obtain ⟨Ao21, co21, eo21⟩ := Kd.R_slice HO207.out; subst eo21) | ((with_reducible refine gate_dst (N := 10) rfl ?_); (try (refine gate_guard (by rfl) ?_; dsimp only)); refine bx_ 10 30 #[.int .i64 0, .string (⟨#[]⟩ : ByteArray), .slice none 0 0, .string (⟨#[]⟩ : ByteArray)] ?_; intro gb208 hg w22 hbox hb; replace HO_6 := Aside0.mk (Kd.S_below (Kd.S_elderB (by (with_reducible repeat (first | apply Kd.S_alloc | apply Kd.S_drewN | apply Kd.S_drew)); exact HO_6.out) gb208 (Nat.le_of_eq hg.symm)) hb); replace HO207 := Aside0.mk (Kd.R_below (ra_ HO207.out) hb); have BK208 := Aside0.mk (hbox); have GW208 := Aside0.mk ((hz_ : w.heap.size ≤ gb208)); have GE208 := Aside0.mk ((hz_ : w.heap.size ≤ gb208)); replace HB := Aside0.mk (below_step bl_ hb); clear hb hbox hg; obtain ⟨hcz23_0, hcz23_1, hcz23_2, hcz23_3, hfz23_0, hfz23_1, hfz23_2, hfz23_3⟩ := cf4_ BK208.out) | ((with_reducible refine gate_callee (f := 71) rfl ?_); refine gs_ (some 49) Tryd.func71 #[.string x7_2, .slice Ao21 t205.length co21] ?_; (with_reducible refine (spec_HeadFrom.calls k2 x7_2 _ _ t205 t209 _ ?side1 ?side2 A17.out).mono ?_); (case side1 => refine (Kd.R_reads' (e := 70) (base := w.heap.size) (ok := fun k_ => True) (n := t205.length) (c := co21) ?_).2.2; exact (rfa_ HO207.out BK208.out)); (case side2 => exact (Kd.R_reads' HO207.out).2.1); rintro e w24 ⟨rfl, hb⟩; refine ⟨_, rfl, ?_⟩; replace HO_6 := Aside0.mk (Kd.S_below (by (with_reducible repeat (first | apply Kd.S_alloc | apply Kd.S_drewN | apply Kd.S_drew)); exact (Kd.S_mono (Kd.S_far (p := ⟨gb208, 3, none⟩) (Kd.S_far (p := ⟨gb208, 2, none⟩) (Kd.S_far (p := ⟨gb208, 1, none⟩) (Kd.S_far (p := ⟨gb208, 0, none⟩) (Kd.S_mono HO_6.out (fun k_ hk => (⟨hk, hk.2⟩ : _ ∧ k_ ≠ gb208))) (fun _ hk => hk.2) (.int .i64 x8_2)) (fun _ hk => hk.2) (.string x7_2)) (fun _ hk => hk.2) (.slice Ao21 t205.length co21)) (fun _ hk => hk.2) (.string (⟨#[]⟩ : ByteArray))) (fun _ h_ => h_.1))) hb); replace HO207 := Aside0.mk (Kd.R_below (rfa_ HO207.out BK208.out) hb); replace BK208 := Aside0.mk (blk_below (g := gb208) (o := .cells #[.int .i64 x8_2, .string x7_2, .slice Ao21 t205.length co21, .string (⟨#[]⟩ : ByteArray)] 30 (0, 0)) (bp0_ BK208.out) hb); replace HB := Aside0.mk (below_step bl_ hb); (try clear hb); obtain ⟨hcz25_0, hcz25_1, hcz25_2, hcz25_3, hfz25_0, hfz25_1, hfz25_2, hfz25_3⟩ := cf4_ BK208.out) | ((with_reducible refine gate_store (t := 9) (p := 51) rfl ?_); refine store_event (t := 9) (p := 51) (v := ?vo_w26) (w1 := (w24.setCell ⟨gb208, 3, none⟩ (.string t209))) ?hg ?ho ?hn ?hr ?_; (case ho => rfl); (case hg => rfl); (case hn => rfl); (case hr => first | (go_simp; done) | (go_simp; rfl)); intro w26 hw; have n0_ : Aside0 (Kd.S k30 30 w26 w.heap.size (fun k_ => some k_ ≠ (.slice Ao21 t205.length co21 : Value).ownBlock ∧ k_ ≠ gb208) u6 x6_2) := ⟨(by rw [hw]; exact (by (with_reducible repeat (first | apply Kd.S_alloc | apply Kd.S_drewN | apply Kd.S_drew)); exact Kd.S_mono (Kd.S_far (p := ⟨gb208, 3, none⟩) (Kd.S_mono HO_6.out (fun k_ hk => (⟨hk, hk.2⟩ : _ ∧ k_ ≠ gb208))) (fun _ hk => hk.2) (.string t209)) (fun _ hk => ⟨hk.1.1.2, hk.1.2⟩)))⟩; have n1_ : Aside0 (Kd.R k70 70 w26 w.heap.size (fun _ => True) (.slice Ao21 t205.length co21) t205) := ⟨(by rw [hw]; exact (by (with_reducible repeat (first | apply Kd.R_alloc | apply Kd.R_drewN | apply Kd.R_drew)); exact Kd.R_mono (Kd.R_far (p := ⟨gb208, 3, none⟩) (Kd.R_types HO207.out BK208.out (by decide)) (fun _ hk => hk.2) (.string t209)) (fun _ hk => trivial)))⟩; have n2_ : Aside0 (w26.heap[gb208]? = some (.cells #[.int .i64 x8_2, .string x7_2, .slice Ao21 t205.length co21, .string t209] 30 (0, 0))) := ⟨(by rw [hw]; exact (bp0_ BK208.out))⟩; have n3_ : Aside0 (Below w.heap.size w w26) := ⟨(by rw [hw]; exact bl_)⟩; clear hw; clear HO_6; clear HO207; clear BK208; clear HB; have HO_6 := n0_; have HO207 := n1_; have BK208 := n2_; have HB := n3_; clear n0_ n1_ n2_ n3_; obtain ⟨hcz27_0, hcz27_1, hcz27_2, hcz27_3, hfz27_0, hfz27_1, hfz27_2, hfz27_3⟩ := cf4_ BK208.out) | ((with_reducible refine gate_builtin (b := .append) (xs := #[.tmp 52, .tmp 54]) rfl ?_); (try (refine gate_guard (by rfl) ?_; dsimp only)); at_builtin; refine Kd.S_append k30 (w0 := w) w.heap.size rfl (.tmp 52) (.tmp 54) 46 30 (.agg #[(.int .i64 0), (.string ⟨#[]⟩), (.slice none 0 0), (.string ⟨#[]⟩)]) 64 rfl Tryd.underlying46 info30 rfl (by decide) (by omega) u6 x6_2 (⟨x8_2, x7_2, t205, t209⟩ : S30) [.int .i64 x8_2, .string x7_2, .slice Ao21 t205.length co21, .string t209] (fun k_ => k_ ≠ gb208) (fun k_ => some k_ = (.slice Ao21 t205.length co21 : Value).ownBlock) rfl rfl ?aP (fun k_ hk_ => ((Kd.R_mono (ok' := fun k_ => ((fun k_ => k_ ≠ gb208)) k_ ∧ some k_ ≠ (u6 : Value).ownBlock) (Kd.R_types (Kd.R_apart' (HO207.out) (Kd.S_typed HO_6.out) (by decide)) BK208.out (by decide)) (fun k_ hk => ⟨hk.2, hk.1.2⟩))).1 k_ hk_.symm) ?aF ?aO ?aB ?aS ?aL ?_; (case aP => exact k30_mkM _ _ _ (⟨x8_2, x7_2, t205, t209⟩ : S30) (Kd.R_mono (Kd.R_tight rfl (Kd.R_mono (ok' := fun k_ => ((fun k_ => k_ ≠ gb208)) k_ ∧ some k_ ≠ (u6 : Value).ownBlock) (Kd.R_types (Kd.R_apart' (HO207.out) (Kd.S_typed HO_6.out) (by decide)) BK208.out (by decide)) (fun k_ hk => ⟨hk.2, hk.1.2⟩))) (fun _ h_ => h_))); (case aB => exact bl_); (case aF => exact (fun k_ hk => Kd.freshB (g := gb208) (o := .cells #[.int .i64 x8_2, .string x7_2, .slice Ao21 t205.length co21, .string t209] 30 (0, 0)) (bk_ BK208.out) k_ hk)); (case aO => exact (by (with_reducible repeat (first | apply Kd.S_alloc | apply Kd.S_drewN | apply Kd.S_drew)); exact Kd.S_mono HO_6.out (fun k_ hk => ⟨hk.2, fun e_ => hk.1 e_⟩))); (case aS => exact (below_size bl_)); (case aL => have := LMc18.out; omega); intro v211 w28 ho hb hg hat; rw [← Ny210.out] at ho; replace BK208 := Aside0.mk (blk_grown (g := gb208) (o := .cells #[.int .i64 x8_2, .string x7_2, .slice Ao21 t205.length co21, .string t209] 30 (0, 0)) (bk_ BK208.out) hg (Kd.S_away HO_6.out (fun _ hk => hk.2))); replace HB := Aside0.mk (hb); have HO212 := Aside0.mk (ho); clear HO_6 HO207; clear ho hb hg hat))
 go_roundg k2
 case measure => have := HJ2.out; have := HK2.out; omega
 case rel => exact ⟨(y210), (t209), (wrap64 (x8_2 + a1)), (sr_), (sr_), H', ⟨by have := HJ2.out; have := HK2.out; omega⟩, ⟨by (with_reducible repeat (first | apply Kd.S_alloc | apply Kd.S_drewN | apply Kd.S_drew)); exact Kd.S_mono HO212.out (fun _ hk => trivial)⟩, ⟨bl_⟩⟩

end Go.Proofs.YtdhjolglbcoijaaDoor.PA
