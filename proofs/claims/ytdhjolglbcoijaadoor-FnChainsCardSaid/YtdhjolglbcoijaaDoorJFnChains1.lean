/- Contracts of functions of the program and of the reference, and plain lemmas on what they compute: a part of the proof of the law FnChains. No condition. -/
import Derived.Test.YtdhjolglbcoijaaDoorG7ebe2x0
import Derived.Test.YtdhjolglbcoijaaDoorGee5d4x0
import Derived.Test.YtdhjolglbcoijaaDoorG7ebe2x1
import Derived.Test.YtdhjolglbcoijaaDoorG7ebe2x2
import Derived.Test.YtdhjolglbcoijaaDoorShortV
namespace Go.Proofs.YtdhjolglbcoijaaDoor.PA
open Go.RowKit Go.Proofs.YtdhjolglbcoijaaDoor.Short Go.Proofs.YtdhjolglbcoijaaDoorW.PrintWords Go.Proofs.YtdhjolglbcoijaaDoorW.PrintLast Go.Proofs.YtdhjolglbcoijaaDoorW.PrintMore
attribute [local go_sem] max2_int min2_int max_two min_two max_three min_three max_four min_four   -- for this text's walks alone
set_option linter.unusedVariables false
set_option linter.unusedSimpArgs false

/-! ### spec_l19Any: function 107 -/
def spec_l19Any.f (k : Nat) (s0_0 : List Int) (s0_1 : Int) (s0_2 : Int) : Option ((List (S70)) × Int × Int) := (spec_l01Below.f s0_0 s0_1 s0_2 10).bind fun bt1167 => ((some (([] : List (S70)) : List (S70))).bind fun y1170 => ((spec_l19Entries.f k s0_0 bt1167.2.1 bt1167.2.2).bind fun bt1173 => (if y1170.length + bt1173.1.length < 2932031007402 then ((some (y1170 ++ bt1173.1 : List (S70))).bind fun y1178 => (if bt1167.1 = 0 then (if y1178.length < 2932031007402 then (some ((y1178 ++ [(⟨5, 1, (⟨0, 0, 0, 0⟩ : S68)⟩ : S70)]), bt1173.2.1, bt1173.2.2)) else (none)) else (if bt1167.1 = 1 then (if y1178.length < 2932031007402 then (some ((y1178 ++ [(⟨0, 0, (⟨0, 0, 0, 0⟩ : S68)⟩ : S70)]), bt1173.2.1, bt1173.2.2)) else (none)) else (some (y1178, bt1173.2.1, bt1173.2.2))))) else (none))))
theorem spec_l19Any.mono : ∀ a0 a1 a2 k, LeO (spec_l19Any.f k a0 a1 a2) (spec_l19Any.f (k + 1) a0 a1 a2) := by
 intro a0 a1 a2 k
 unfold spec_l19Any.f
 repeat' first
  | (with_reducible exact spec_l19Entries.mono _ _ _ _)
  | (with_reducible exact LeO.refl _)
  | (with_reducible exact LeO.none _)
  | (with_reducible refine LeO.ite ?_ ?_)
  | (with_reducible refine LeO.bind ?_ (fun _ => ?_))
  | exact spec_l19Entries.mono _ _ _ _
  | exact LeO.none _
  | refine LeO.ite ?_ ?_
  | refine LeO.bind ?_ (fun _ => ?_)
set_option maxHeartbeats 8000000 in
set_option maxRecDepth 100000 in
theorem spec_l19Any.calls (k : Nat) (g : Nat) (s0_0 : List Int) (s0_1 : Int) (s0_2 : Int) (r1 : List (S70)) (r2 : Int) (r3 : Int) (w0 w : World) (hI : IsS130 w0 w g s0_0 s0_1 s0_2) (hB : Below w0.heap.size w0 w) (h : spec_l19Any.f k s0_0 s0_1 s0_2 = some (r1, r2, r3)) :
 Calls Tryd.prog 107 #[.pointer (some ⟨g, 0, none⟩)] w fun e w' => ∃ v0_ : Value, e = .returned (v0_) ∧ Kd.R k70 70 w' w.heap.size (fun _ => True) v0_ r1 ∧ IsS130 w0 w' g s0_0 r2 r3 ∧ Below w0.heap.size w0 w' ∧ KeepBut w w' g none := by
 have hu70 := Tryd.underlying70
 have HI0 := Aside0.mk hI
 have HK := Aside0.mk (KeepBut.refl w g none)
 have HL := Aside0.mk hB.size
 clear hI
 have HW0 := Aside0.mk hB.size
 have HB := Aside0.mk hB
 clear hB
 have H : ((spec_l01Below.f s0_0 s0_1 s0_2 10).bind fun bt1167 => ((some (([] : List (S70)) : List (S70))).bind fun y1170 => ((spec_l19Entries.f k s0_0 bt1167.2.1 bt1167.2.2).bind fun bt1173 => (if y1170.length + bt1173.1.length < 2932031007402 then ((some (y1170 ++ bt1173.1 : List (S70))).bind fun y1178 => (if bt1167.1 = 0 then (if y1178.length < 2932031007402 then (some ((y1178 ++ [(⟨5, 1, (⟨0, 0, 0, 0⟩ : S68)⟩ : S70)]), bt1173.2.1, bt1173.2.2)) else (none)) else (if bt1167.1 = 1 then (if y1178.length < 2932031007402 then (some ((y1178 ++ [(⟨0, 0, (⟨0, 0, 0, 0⟩ : S68)⟩ : S70)]), bt1173.2.1, bt1173.2.2)) else (none)) else (some (y1178, bt1173.2.1, bt1173.2.2))))) else (none))))) = some (r1, r2, r3) := h
 clear h
 replace H := Option.bind_eq_some_iff.mp H
 obtain ⟨⟨t1167, t1168, t1169⟩, A20, H⟩ := H
 replace H : ((some (([] : List (S70)) : List (S70))).bind fun y1170 => ((spec_l19Entries.f k s0_0 t1168 t1169).bind fun bt1173 => (if y1170.length + bt1173.1.length < 2932031007402 then ((some (y1170 ++ bt1173.1 : List (S70))).bind fun y1178 => (if t1167 = 0 then (if y1178.length < 2932031007402 then (some ((y1178 ++ [(⟨5, 1, (⟨0, 0, 0, 0⟩ : S68)⟩ : S70)]), bt1173.2.1, bt1173.2.2)) else (none)) else (if t1167 = 1 then (if y1178.length < 2932031007402 then (some ((y1178 ++ [(⟨0, 0, (⟨0, 0, 0, 0⟩ : S68)⟩ : S70)]), bt1173.2.1, bt1173.2.2)) else (none)) else (some (y1178, bt1173.2.1, bt1173.2.2))))) else (none)))) = some (r1, r2, r3) := H
 have A2 := Aside0.mk A20
 clear A20
 obtain ⟨y1170, hy1170⟩ : ∃ y_ : List (S70), y_ = (([] : List (S70))) := ⟨_, rfl⟩
 replace H : ((spec_l19Entries.f k s0_0 t1168 t1169).bind fun bt1173 => (if y1170.length + bt1173.1.length < 2932031007402 then ((some (y1170 ++ bt1173.1 : List (S70))).bind fun y1178 => (if t1167 = 0 then (if y1178.length < 2932031007402 then (some ((y1178 ++ [(⟨5, 1, (⟨0, 0, 0, 0⟩ : S68)⟩ : S70)]), bt1173.2.1, bt1173.2.2)) else (none)) else (if t1167 = 1 then (if y1178.length < 2932031007402 then (some ((y1178 ++ [(⟨0, 0, (⟨0, 0, 0, 0⟩ : S68)⟩ : S70)]), bt1173.2.1, bt1173.2.2)) else (none)) else (some (y1178, bt1173.2.1, bt1173.2.2))))) else (none))) = some (r1, r2, r3) := by first | (rw [hy1170]; with_reducible exact H) | (have H2_ := (Option.bind_some _ _).symm.trans H; rw [hy1170]; with_reducible exact H2_) | (have H2_ := (Option.bind_some _ _).symm.trans H; with_reducible exact H2_) | with_reducible exact H | (rw [hy1170]; exact H) | exact H
 have Ny1170 := Aside0.mk hy1170
 clear hy1170
 replace H := Option.bind_eq_some_iff.mp H
 obtain ⟨⟨t1173, t1176, t1177⟩, A30, H⟩ := H
 replace H : (if y1170.length + t1173.length < 2932031007402 then ((some (y1170 ++ t1173 : List (S70))).bind fun y1178 => (if t1167 = 0 then (if y1178.length < 2932031007402 then (some ((y1178 ++ [(⟨5, 1, (⟨0, 0, 0, 0⟩ : S68)⟩ : S70)]), t1176, t1177)) else (none)) else (if t1167 = 1 then (if y1178.length < 2932031007402 then (some ((y1178 ++ [(⟨0, 0, (⟨0, 0, 0, 0⟩ : S68)⟩ : S70)]), t1176, t1177)) else (none)) else (some (y1178, t1176, t1177))))) else (none)) = some (r1, r2, r3) := H
 have A3 := Aside0.mk A30
 clear A30
 by_cases c4 : y1170.length + t1173.length < 2932031007402
 ·rw [if_pos c4] at H
  have LMc4 := Aside0.mk c4
  clear c4
  obtain ⟨y1178, hy1178⟩ : ∃ y_ : List (S70), y_ = (y1170 ++ t1173) := ⟨_, rfl⟩
  replace H : (if t1167 = 0 then (if y1178.length < 2932031007402 then (some ((y1178 ++ [(⟨5, 1, (⟨0, 0, 0, 0⟩ : S68)⟩ : S70)]), t1176, t1177)) else (none)) else (if t1167 = 1 then (if y1178.length < 2932031007402 then (some ((y1178 ++ [(⟨0, 0, (⟨0, 0, 0, 0⟩ : S68)⟩ : S70)]), t1176, t1177)) else (none)) else (some (y1178, t1176, t1177)))) = some (r1, r2, r3) := by first | (rw [hy1178]; with_reducible exact H) | (have H2_ := (Option.bind_some _ _).symm.trans H; rw [hy1178]; with_reducible exact H2_) | (have H2_ := (Option.bind_some _ _).symm.trans H; with_reducible exact H2_) | with_reducible exact H | (rw [hy1178]; exact H) | exact H
  have Ny1178 := Aside0.mk hy1178
  clear hy1178
  by_cases c5 : t1167 = 0
  ·rw [if_pos c5] at H
   have c5b0 : (t1167 == 0) = true := beq_iff_eq.mpr c5
   have c5b1 : (t1167 != 0) = false := bne_eq_false_iff_eq.mpr c5
   clear c5
   by_cases c6 : y1178.length < 2932031007402
   ·rw [if_pos c6] at H
    have LMc6 := Aside0.mk c6
    clear c6
    obtain ⟨y1181, hy1181⟩ : ∃ y_ : List (S70), y_ = (y1178 ++ [(⟨5, 1, (⟨0, 0, 0, 0⟩ : S68)⟩ : S70)]) := ⟨_, rfl⟩
    replace H : (some (y1181, t1176, t1177)) = some (r1, r2, r3) := by first | (rw [hy1181]; with_reducible exact H) | (have H2_ := (Option.bind_some _ _).symm.trans H; rw [hy1181]; with_reducible exact H2_) | (have H2_ := (Option.bind_some _ _).symm.trans H; with_reducible exact H2_) | with_reducible exact H | (rw [hy1181]; exact H) | exact H
    have Ny1181 := Aside0.mk hy1181
    clear hy1181
    simp only [Option.some.injEq, Prod.mk.injEq] at H
    obtain ⟨rfl, rfl, rfl⟩ := H
    go_enter Tryd.func107, Tryd.ntmps107
    go_wp2_with (first | ((with_reducible refine gate_callee (f := 105) rfl ?_); refine goesL_ (some 6) rfl rfl Tryd.func105 (by kernel_rfl) rfl #[.pointer (some ⟨g, 0, none⟩), .int .i64 10] rfl lm_ ?_; (with_reducible refine (spec_l01Below.calls g s0_0 s0_1 s0_2 10 t1167 t1168 t1169 w0 _ ?side1 ?side2 A2.out).mono ?_); (case side1 => repeat (first | (with_reducible first | exact HI0.out | apply IsS130.alloc | apply IsS130.drewN | apply IsS130.drew | apply IsS130.set_1 | apply IsS130.set_2) | exact HI0.out)); (case side2 => repeat (first | (with_reducible first | exact HB.out | apply below_alloc | apply pw_below_drewN | apply below_drew1 | refine below_set ?_ (IsS130.ge HI0.out)) | exact HB.out)); rintro e w7 ⟨rfl, hi, hb, hk⟩; refine ⟨_, rfl, ?_⟩; have n0_ := Aside0.mk (KeepBut.trans (by repeat (first | (with_reducible first | exact HK.out | apply KeepBut.set_ | apply keep_drewN | apply keep_drew | apply keep_alloc) | exact HK.out)) hk (.inl rfl)); have n1_ := Aside0.mk (hb); have n2_ := Aside0.mk (hi); clear HK; clear HB; clear HI0; have HK := n0_; have HB := n1_; have HI0 := n2_; clear n0_ n1_ n2_; (try clear hb); (try clear hb2); (try clear hk); (try clear hi)) | ((with_reducible refine gate_dst (N := 7) rfl ?_); refine Kd.R_lit k70 _ 70 ?hg (N := 7) ?hd (xs := ([] : List (S70))) (inner := []) (ok := fun _ => True) (okp := fun _ => True) ?hr ?hp (fun _ hk => hk) trivial (Below.refl _ _) (Nat.le_refl _) (by simp) ?_; (case hd => rfl); (case hg => rfl); (case hr => first | (go_simp; done) | (go_simp; rfl)); (case hp => exact (Reps.none _ _)); intro v1171 w8 ho9 hb hg_ hnew_; clear hg_ hnew_; (first | rw [← Ny1170.out] at ho9 | (simp only [Int.reduceToNat] at ho9; rw [← Ny1170.out] at ho9)); have n0_ := Aside0.mk (Kd.R_lower ho9 (keep_size (w := w) (g := g) (row := none) (by repeat (first | (with_reducible first | exact HK.out | apply KeepBut.set_ | apply keep_drewN | apply keep_drew | apply keep_alloc) | exact HK.out)))); have n1_ := Aside0.mk (IsS130.below (by repeat (first | (with_reducible first | exact HI0.out | apply IsS130.alloc | apply IsS130.drewN | apply IsS130.drew | apply IsS130.set_1 | apply IsS130.set_2) | exact HI0.out)) hb); have n2_ := Aside0.mk (KeepBut.trans (by repeat (first | (with_reducible first | exact HK.out | apply KeepBut.set_ | apply keep_drewN | apply keep_drew | apply keep_alloc) | exact HK.out)) (KeepBut.of_below hb g none) (.inl rfl)); have n3_ := Aside0.mk (below_step (by repeat (first | (with_reducible first | exact HB.out | apply below_alloc | apply pw_below_drewN | apply below_drew1 | refine below_set ?_ (IsS130.ge HI0.out)) | exact HB.out)) hb); clear HI0; clear HK; clear HB; have HO1172 := n0_; have HI0 := n1_; have HK := n2_; have HB := n3_; clear n0_ n1_ n2_ n3_; clear hb ho9) | ((with_reducible refine gate_callee (f := 93) rfl ?_); refine goesL_ (some 9) rfl rfl Tryd.func93 (by kernel_rfl) rfl #[.pointer (some ⟨g, 0, none⟩)] rfl lm_ ?_; (with_reducible refine (spec_l19Entries.calls k g s0_0 t1168 t1169 t1173 t1176 t1177 w0 _ ?side1 ?side2 A3.out).mono ?_); (case side1 => repeat (first | (with_reducible first | exact HI0.out | apply IsS130.alloc | apply IsS130.drewN | apply IsS130.drew | apply IsS130.set_1 | apply IsS130.set_2) | exact HI0.out)); (case side2 => repeat (first | (with_reducible first | exact HB.out | apply below_alloc | apply pw_below_drewN | apply below_drew1 | refine below_set ?_ (IsS130.ge HI0.out)) | exact HB.out)); rintro e w10 ⟨v1174, rfl, ho0, hi, hb, hk⟩; refine ⟨_, rfl, ?_⟩; have n0_ := Aside0.mk (Kd.R_mono (Kd.R_told (Kd.R_oldK (IsS130.apart (show IsS130 w0 _ g s0_0 t1168 t1169 from by repeat (first | (with_reducible first | exact HI0.out | apply IsS130.alloc | apply IsS130.drewN | apply IsS130.drew | apply IsS130.set_1 | apply IsS130.set_2) | exact HI0.out)) (ra_ HO1172.out) (by decide)) hk) (Kd.R_base ho0)) (fun _ h_ => h_.1)); have n1_ := Aside0.mk (Kd.R_lower (Kd.R_new' ho0 (Kd.R_lt (ra_ HO1172.out))) (keep_size (w := w) (g := g) (row := none) (by repeat (first | (with_reducible first | exact HK.out | apply KeepBut.set_ | apply keep_drewN | apply keep_drew | apply keep_alloc) | exact HK.out)))); have n2_ := Aside0.mk (KeepBut.trans (by repeat (first | (with_reducible first | exact HK.out | apply KeepBut.set_ | apply keep_drewN | apply keep_drew | apply keep_alloc) | exact HK.out)) hk (.inl rfl)); have n3_ := Aside0.mk (hb); have n4_ := Aside0.mk (hi); clear HO1172; clear HK; clear HB; clear HI0; have HO1172 := n0_; have HO1175 := n1_; have HK := n2_; have HB := n3_; have HI0 := n4_; clear n0_ n1_ n2_ n3_ n4_; (try clear hb); (try clear hb2); (try clear hk); (try clear hi); (try clear ho0); obtain ⟨Ao12, co12, eo12⟩ := Kd.R_slice HO1175.out; subst eo12) | ((with_reducible refine gate_builtin (b := .append) (xs := #[.tmp 7, .tmp 9]) rfl ?_); at_builtin; refine Kd.R_append_rows k70 w.heap.size rfl (.tmp 7) (.tmp 9) 28 70 (.agg #[(.int .i64 0), (.int .i64 0), (.int .i64 0), (.int .i64 0), (.int .i64 0), (.int .i64 0)]) 48 rfl Tryd.underlying28 info70 rfl (by decide) (by omega) v1171 y1170 t1173 _ _ _ (fun k_ => some k_ ≠ (.slice Ao12 t1173.length co12 : Value).ownBlock) (fun _ => False) rfl rfl ?aO ?aR (fun _ _ h => h) (fun _ h => h.elim) ?aF (Below.refl _ _) ?aS ?aL ?_; (case aR => repeat (first | exact (Kd.R_reads' HO1175.out).2.2 | (with_reducible refine Kd.C_alloc ?_ _) | (with_reducible refine Kd.C_drewN ?_ _) | (with_reducible refine Kd.C_drew ?_))); (case aF => exact (fun k_ hk => Kd.fresh' (Kd.R_lt (ra_ HO1175.out)) k_ hk)); (case aO => exact (by (with_reducible repeat (first | apply Kd.R_alloc | apply Kd.R_drewN | apply Kd.R_drew)); exact Kd.R_mono HO1172.out (fun _ hk => hk.2))); (case aS => exact (keep_size (w := w) (g := g) (row := none) (by repeat (first | (with_reducible first | exact HK.out | apply KeepBut.set_ | apply keep_drewN | apply keep_drew | apply keep_alloc) | exact HK.out)))); (case aL => have := LMc4.out; omega); intro v1179 w11 ho hb hg hat; rw [← Ny1178.out] at ho; have n0_ := Aside0.mk (IsS130.grown (by repeat (first | (with_reducible first | exact HI0.out | apply IsS130.alloc | apply IsS130.drewN | apply IsS130.drew | apply IsS130.set_1 | apply IsS130.set_2) | exact HI0.out)) hg (IsS130.own_ne HI0.out HO1172.out (by decide))); have n1_ := Aside0.mk (Kd.R_after (ok := (fun _ => True)) (ra_ HO1175.out) hg hat); have n2_ := Aside0.mk (below_weaken (by repeat (first | (with_reducible first | exact HB.out | apply below_alloc | apply pw_below_drewN | apply below_drew1 | refine below_set ?_ (IsS130.ge HI0.out)) | exact HB.out)) HL.out hb); have n3_ := Aside0.mk (KeepBut.trans (by repeat (first | (with_reducible first | exact HK.out | apply KeepBut.set_ | apply keep_drewN | apply keep_drew | apply keep_alloc) | exact HK.out)) (KeepBut.of_grown hg g) (Kd.R_base2 HO1172.out)); have n4_ := Aside0.mk (ho); clear HI0; clear HO1175; clear HB; clear HK; clear HO1172; have HI0 := n0_; have HO1175 := n1_; have HB := n2_; have HK := n3_; have HO1180 := n4_; clear n0_ n1_ n2_ n3_ n4_; clear ho hb hg hat) | ((with_reducible refine gate_builtin (b := .append) (xs := #[.tmp 14, .tmp 16]) rfl ?_); at_builtin; refine Kd.R_append k70 w.heap.size rfl (.tmp 14) (.tmp 16) 28 70 (.agg #[(.int .i64 0), (.int .i64 0), (.int .i64 0), (.int .i64 0), (.int .i64 0), (.int .i64 0)]) 48 rfl Tryd.underlying28 info70 rfl (by decide) (by omega) v1179 y1178 (⟨5, 1, (⟨0, 0, 0, 0⟩ : S68)⟩ : S70) [.int .i64 5, .int .i64 1, .int .i64 0, .int .i64 0, .int .i64 0, .int .i64 0] (fun k_ => some k_ ≠ (.slice Ao12 t1173.length co12 : Value).ownBlock) (fun _ => False) rfl rfl ?aP (fun _ hk => hk.elim) ?aF ?aO (Below.refl _ _) ?aS ?aL ?_; (case aP => exact k70_mkM _ _ _ (⟨5, 1, (⟨0, 0, 0, 0⟩ : S68)⟩ : S70)); (case aF => exact (fun k_ hk => Kd.fresh' (Kd.R_lt (ra_ HO1175.out)) k_ hk)); (case aO => exact (ra_ HO1180.out)); (case aS => exact (keep_size (w := w) (g := g) (row := none) (by repeat (first | (with_reducible first | exact HK.out | apply KeepBut.set_ | apply keep_drewN | apply keep_drew | apply keep_alloc) | exact HK.out)))); (case aL => have := LMc6.out; omega); intro v1182 w13 ho hb hg hat; rw [← Ny1181.out] at ho; have n0_ := Aside0.mk (IsS130.grown (by repeat (first | (with_reducible first | exact HI0.out | apply IsS130.alloc | apply IsS130.drewN | apply IsS130.drew | apply IsS130.set_1 | apply IsS130.set_2) | exact HI0.out)) hg (IsS130.own_ne HI0.out HO1180.out (by decide))); have n1_ := Aside0.mk (Kd.R_after (ok := (fun _ => True)) (ra_ HO1175.out) hg hat); have n2_ := Aside0.mk (below_weaken (by repeat (first | (with_reducible first | exact HB.out | apply below_alloc | apply pw_below_drewN | apply below_drew1 | refine below_set ?_ (IsS130.ge HI0.out)) | exact HB.out)) HL.out hb); have n3_ := Aside0.mk (KeepBut.trans (by repeat (first | (with_reducible first | exact HK.out | apply KeepBut.set_ | apply keep_drewN | apply keep_drew | apply keep_alloc) | exact HK.out)) (KeepBut.of_grown hg g) (Kd.R_base2 HO1180.out)); have n4_ := Aside0.mk (ho); clear HI0; clear HO1175; clear HB; clear HK; clear HO1180; have HI0 := n0_; have HO1175 := n1_; have HB := n2_; have HK := n3_; have HO1183 := n4_; clear n0_ n1_ n2_ n3_ n4_; clear ho hb hg hat))
    go_ret
    exact ⟨_, by first | rfl | (simp [errW_none, errW_some] <;> rfl) | (simp [*, errW_none, errW_some] <;> rfl), by (with_reducible repeat (first | apply Kd.R_alloc | apply Kd.R_drewN | apply Kd.R_drew)); exact Kd.R_mono HO1183.out (fun _ hk => trivial), by repeat (first | (with_reducible first | exact HI0.out | apply IsS130.alloc | apply IsS130.drewN | apply IsS130.drew | apply IsS130.set_1 | apply IsS130.set_2) | exact HI0.out), by repeat (first | (with_reducible first | exact HB.out | apply below_alloc | apply pw_below_drewN | apply below_drew1 | refine below_set ?_ (IsS130.ge HI0.out)) | exact HB.out), by repeat (first | (with_reducible first | exact HK.out | apply KeepBut.set_ | apply keep_drewN | apply keep_drew | apply keep_alloc) | exact HK.out)⟩
   ·rw [if_neg c6] at H
    exact absurd H (by simp)
  ·rw [if_neg c5] at H
   have c5b0 : (t1167 == 0) = false := beq_eq_false_iff_ne.mpr c5
   have c5b1 : (t1167 != 0) = true := bne_iff_ne.mpr c5
   by_cases c14 : t1167 = 1
   ·rw [if_pos c14] at H
    have c14b0 : (t1167 == 1) = true := beq_iff_eq.mpr c14
    have c14b1 : (t1167 != 1) = false := bne_eq_false_iff_eq.mpr c14
    clear c14
    by_cases c15 : y1178.length < 2932031007402
    ·rw [if_pos c15] at H
     have LMc15 := Aside0.mk c15
     clear c15
     obtain ⟨y1184, hy1184⟩ : ∃ y_ : List (S70), y_ = (y1178 ++ [(⟨0, 0, (⟨0, 0, 0, 0⟩ : S68)⟩ : S70)]) := ⟨_, rfl⟩
     replace H : (some (y1184, t1176, t1177)) = some (r1, r2, r3) := by first | (rw [hy1184]; with_reducible exact H) | (have H2_ := (Option.bind_some _ _).symm.trans H; rw [hy1184]; with_reducible exact H2_) | (have H2_ := (Option.bind_some _ _).symm.trans H; with_reducible exact H2_) | with_reducible exact H | (rw [hy1184]; exact H) | exact H
     have Ny1184 := Aside0.mk hy1184
     clear hy1184
     simp only [Option.some.injEq, Prod.mk.injEq] at H
     obtain ⟨rfl, rfl, rfl⟩ := H
     go_enter Tryd.func107, Tryd.ntmps107
     go_wp2_with (first | ((with_reducible refine gate_callee (f := 105) rfl ?_); refine goesL_ (some 6) rfl rfl Tryd.func105 (by kernel_rfl) rfl #[.pointer (some ⟨g, 0, none⟩), .int .i64 10] rfl lm_ ?_; (with_reducible refine (spec_l01Below.calls g s0_0 s0_1 s0_2 10 t1167 t1168 t1169 w0 _ ?side1 ?side2 A2.out).mono ?_); (case side1 => repeat (first | (with_reducible first | exact HI0.out | apply IsS130.alloc | apply IsS130.drewN | apply IsS130.drew | apply IsS130.set_1 | apply IsS130.set_2) | exact HI0.out)); (case side2 => repeat (first | (with_reducible first | exact HB.out | apply below_alloc | apply pw_below_drewN | apply below_drew1 | refine below_set ?_ (IsS130.ge HI0.out)) | exact HB.out)); rintro e w16 ⟨rfl, hi, hb, hk⟩; refine ⟨_, rfl, ?_⟩; have n0_ := Aside0.mk (KeepBut.trans (by repeat (first | (with_reducible first | exact HK.out | apply KeepBut.set_ | apply keep_drewN | apply keep_drew | apply keep_alloc) | exact HK.out)) hk (.inl rfl)); have n1_ := Aside0.mk (hb); have n2_ := Aside0.mk (hi); clear HK; clear HB; clear HI0; have HK := n0_; have HB := n1_; have HI0 := n2_; clear n0_ n1_ n2_; (try clear hb); (try clear hb2); (try clear hk); (try clear hi)) | ((with_reducible refine gate_dst (N := 7) rfl ?_); refine Kd.R_lit k70 _ 70 ?hg (N := 7) ?hd (xs := ([] : List (S70))) (inner := []) (ok := fun _ => True) (okp := fun _ => True) ?hr ?hp (fun _ hk => hk) trivial (Below.refl _ _) (Nat.le_refl _) (by simp) ?_; (case hd => rfl); (case hg => rfl); (case hr => first | (go_simp; done) | (go_simp; rfl)); (case hp => exact (Reps.none _ _)); intro v1171 w17 ho18 hb hg_ hnew_; clear hg_ hnew_; (first | rw [← Ny1170.out] at ho18 | (simp only [Int.reduceToNat] at ho18; rw [← Ny1170.out] at ho18)); have n0_ := Aside0.mk (Kd.R_lower ho18 (keep_size (w := w) (g := g) (row := none) (by repeat (first | (with_reducible first | exact HK.out | apply KeepBut.set_ | apply keep_drewN | apply keep_drew | apply keep_alloc) | exact HK.out)))); have n1_ := Aside0.mk (IsS130.below (by repeat (first | (with_reducible first | exact HI0.out | apply IsS130.alloc | apply IsS130.drewN | apply IsS130.drew | apply IsS130.set_1 | apply IsS130.set_2) | exact HI0.out)) hb); have n2_ := Aside0.mk (KeepBut.trans (by repeat (first | (with_reducible first | exact HK.out | apply KeepBut.set_ | apply keep_drewN | apply keep_drew | apply keep_alloc) | exact HK.out)) (KeepBut.of_below hb g none) (.inl rfl)); have n3_ := Aside0.mk (below_step (by repeat (first | (with_reducible first | exact HB.out | apply below_alloc | apply pw_below_drewN | apply below_drew1 | refine below_set ?_ (IsS130.ge HI0.out)) | exact HB.out)) hb); clear HI0; clear HK; clear HB; have HO1172 := n0_; have HI0 := n1_; have HK := n2_; have HB := n3_; clear n0_ n1_ n2_ n3_; clear hb ho18) | ((with_reducible refine gate_callee (f := 93) rfl ?_); refine goesL_ (some 9) rfl rfl Tryd.func93 (by kernel_rfl) rfl #[.pointer (some ⟨g, 0, none⟩)] rfl lm_ ?_; (with_reducible refine (spec_l19Entries.calls k g s0_0 t1168 t1169 t1173 t1176 t1177 w0 _ ?side1 ?side2 A3.out).mono ?_); (case side1 => repeat (first | (with_reducible first | exact HI0.out | apply IsS130.alloc | apply IsS130.drewN | apply IsS130.drew | apply IsS130.set_1 | apply IsS130.set_2) | exact HI0.out)); (case side2 => repeat (first | (with_reducible first | exact HB.out | apply below_alloc | apply pw_below_drewN | apply below_drew1 | refine below_set ?_ (IsS130.ge HI0.out)) | exact HB.out)); rintro e w19 ⟨v1174, rfl, ho0, hi, hb, hk⟩; refine ⟨_, rfl, ?_⟩; have n0_ := Aside0.mk (Kd.R_mono (Kd.R_told (Kd.R_oldK (IsS130.apart (show IsS130 w0 _ g s0_0 t1168 t1169 from by repeat (first | (with_reducible first | exact HI0.out | apply IsS130.alloc | apply IsS130.drewN | apply IsS130.drew | apply IsS130.set_1 | apply IsS130.set_2) | exact HI0.out)) (ra_ HO1172.out) (by decide)) hk) (Kd.R_base ho0)) (fun _ h_ => h_.1)); have n1_ := Aside0.mk (Kd.R_lower (Kd.R_new' ho0 (Kd.R_lt (ra_ HO1172.out))) (keep_size (w := w) (g := g) (row := none) (by repeat (first | (with_reducible first | exact HK.out | apply KeepBut.set_ | apply keep_drewN | apply keep_drew | apply keep_alloc) | exact HK.out)))); have n2_ := Aside0.mk (KeepBut.trans (by repeat (first | (with_reducible first | exact HK.out | apply KeepBut.set_ | apply keep_drewN | apply keep_drew | apply keep_alloc) | exact HK.out)) hk (.inl rfl)); have n3_ := Aside0.mk (hb); have n4_ := Aside0.mk (hi); clear HO1172; clear HK; clear HB; clear HI0; have HO1172 := n0_; have HO1175 := n1_; have HK := n2_; have HB := n3_; have HI0 := n4_; clear n0_ n1_ n2_ n3_ n4_; (try clear hb); (try clear hb2); (try clear hk); (try clear hi); (try clear ho0); obtain ⟨Ao21, co21, eo21⟩ := Kd.R_slice HO1175.out; subst eo21) | ((with_reducible refine gate_builtin (b := .append) (xs := #[.tmp 7, .tmp 9]) rfl ?_); at_builtin; refine Kd.R_append_rows k70 w.heap.size rfl (.tmp 7) (.tmp 9) 28 70 (.agg #[(.int .i64 0), (.int .i64 0), (.int .i64 0), (.int .i64 0), (.int .i64 0), (.int .i64 0)]) 48 rfl Tryd.underlying28 info70 rfl (by decide) (by omega) v1171 y1170 t1173 _ _ _ (fun k_ => some k_ ≠ (.slice Ao21 t1173.length co21 : Value).ownBlock) (fun _ => False) rfl rfl ?aO ?aR (fun _ _ h => h) (fun _ h => h.elim) ?aF (Below.refl _ _) ?aS ?aL ?_; (case aR => repeat (first | exact (Kd.R_reads' HO1175.out).2.2 | (with_reducible refine Kd.C_alloc ?_ _) | (with_reducible refine Kd.C_drewN ?_ _) | (with_reducible refine Kd.C_drew ?_))); (case aF => exact (fun k_ hk => Kd.fresh' (Kd.R_lt (ra_ HO1175.out)) k_ hk)); (case aO => exact (by (with_reducible repeat (first | apply Kd.R_alloc | apply Kd.R_drewN | apply Kd.R_drew)); exact Kd.R_mono HO1172.out (fun _ hk => hk.2))); (case aS => exact (keep_size (w := w) (g := g) (row := none) (by repeat (first | (with_reducible first | exact HK.out | apply KeepBut.set_ | apply keep_drewN | apply keep_drew | apply keep_alloc) | exact HK.out)))); (case aL => have := LMc4.out; omega); intro v1179 w20 ho hb hg hat; rw [← Ny1178.out] at ho; have n0_ := Aside0.mk (IsS130.grown (by repeat (first | (with_reducible first | exact HI0.out | apply IsS130.alloc | apply IsS130.drewN | apply IsS130.drew | apply IsS130.set_1 | apply IsS130.set_2) | exact HI0.out)) hg (IsS130.own_ne HI0.out HO1172.out (by decide))); have n1_ := Aside0.mk (Kd.R_after (ok := (fun _ => True)) (ra_ HO1175.out) hg hat); have n2_ := Aside0.mk (below_weaken (by repeat (first | (with_reducible first | exact HB.out | apply below_alloc | apply pw_below_drewN | apply below_drew1 | refine below_set ?_ (IsS130.ge HI0.out)) | exact HB.out)) HL.out hb); have n3_ := Aside0.mk (KeepBut.trans (by repeat (first | (with_reducible first | exact HK.out | apply KeepBut.set_ | apply keep_drewN | apply keep_drew | apply keep_alloc) | exact HK.out)) (KeepBut.of_grown hg g) (Kd.R_base2 HO1172.out)); have n4_ := Aside0.mk (ho); clear HI0; clear HO1175; clear HB; clear HK; clear HO1172; have HI0 := n0_; have HO1175 := n1_; have HB := n2_; have HK := n3_; have HO1180 := n4_; clear n0_ n1_ n2_ n3_ n4_; clear ho hb hg hat) | ((with_reducible refine gate_builtin (b := .append) (xs := #[.tmp 20, .tmp 22]) rfl ?_); at_builtin; refine Kd.R_append k70 w.heap.size rfl (.tmp 20) (.tmp 22) 28 70 (.agg #[(.int .i64 0), (.int .i64 0), (.int .i64 0), (.int .i64 0), (.int .i64 0), (.int .i64 0)]) 48 rfl Tryd.underlying28 info70 rfl (by decide) (by omega) v1179 y1178 (⟨0, 0, (⟨0, 0, 0, 0⟩ : S68)⟩ : S70) [.int .i64 0, .int .i64 0, .int .i64 0, .int .i64 0, .int .i64 0, .int .i64 0] (fun k_ => some k_ ≠ (.slice Ao21 t1173.length co21 : Value).ownBlock) (fun _ => False) rfl rfl ?aP (fun _ hk => hk.elim) ?aF ?aO (Below.refl _ _) ?aS ?aL ?_; (case aP => exact k70_mkM _ _ _ (⟨0, 0, (⟨0, 0, 0, 0⟩ : S68)⟩ : S70)); (case aF => exact (fun k_ hk => Kd.fresh' (Kd.R_lt (ra_ HO1175.out)) k_ hk)); (case aO => exact (ra_ HO1180.out)); (case aS => exact (keep_size (w := w) (g := g) (row := none) (by repeat (first | (with_reducible first | exact HK.out | apply KeepBut.set_ | apply keep_drewN | apply keep_drew | apply keep_alloc) | exact HK.out)))); (case aL => have := LMc15.out; omega); intro v1185 w22 ho hb hg hat; rw [← Ny1184.out] at ho; have n0_ := Aside0.mk (IsS130.grown (by repeat (first | (with_reducible first | exact HI0.out | apply IsS130.alloc | apply IsS130.drewN | apply IsS130.drew | apply IsS130.set_1 | apply IsS130.set_2) | exact HI0.out)) hg (IsS130.own_ne HI0.out HO1180.out (by decide))); have n1_ := Aside0.mk (Kd.R_after (ok := (fun _ => True)) (ra_ HO1175.out) hg hat); have n2_ := Aside0.mk (below_weaken (by repeat (first | (with_reducible first | exact HB.out | apply below_alloc | apply pw_below_drewN | apply below_drew1 | refine below_set ?_ (IsS130.ge HI0.out)) | exact HB.out)) HL.out hb); have n3_ := Aside0.mk (KeepBut.trans (by repeat (first | (with_reducible first | exact HK.out | apply KeepBut.set_ | apply keep_drewN | apply keep_drew | apply keep_alloc) | exact HK.out)) (KeepBut.of_grown hg g) (Kd.R_base2 HO1180.out)); have n4_ := Aside0.mk (ho); clear HI0; clear HO1175; clear HB; clear HK; clear HO1180; have HI0 := n0_; have HO1175 := n1_; have HB := n2_; have HK := n3_; have HO1186 := n4_; clear n0_ n1_ n2_ n3_ n4_; clear ho hb hg hat))
     go_ret
     exact ⟨_, by first | rfl | (simp [errW_none, errW_some] <;> rfl) | (simp [*, errW_none, errW_some] <;> rfl), by (with_reducible repeat (first | apply Kd.R_alloc | apply Kd.R_drewN | apply Kd.R_drew)); exact Kd.R_mono HO1186.out (fun _ hk => trivial), by repeat (first | (with_reducible first | exact HI0.out | apply IsS130.alloc | apply IsS130.drewN | apply IsS130.drew | apply IsS130.set_1 | apply IsS130.set_2) | exact HI0.out), by repeat (first | (with_reducible first | exact HB.out | apply below_alloc | apply pw_below_drewN | apply below_drew1 | refine below_set ?_ (IsS130.ge HI0.out)) | exact HB.out), by repeat (first | (with_reducible first | exact HK.out | apply KeepBut.set_ | apply keep_drewN | apply keep_drew | apply keep_alloc) | exact HK.out)⟩
    ·rw [if_neg c15] at H
     exact absurd H (by simp)
   ·rw [if_neg c14] at H
    have c14b0 : (t1167 == 1) = false := beq_eq_false_iff_ne.mpr c14
    have c14b1 : (t1167 != 1) = true := bne_iff_ne.mpr c14
    simp only [Option.some.injEq, Prod.mk.injEq] at H
    obtain ⟨rfl, rfl, rfl⟩ := H
    go_enter Tryd.func107, Tryd.ntmps107
    go_wp2_with (first | ((with_reducible refine gate_callee (f := 105) rfl ?_); refine goesL_ (some 6) rfl rfl Tryd.func105 (by kernel_rfl) rfl #[.pointer (some ⟨g, 0, none⟩), .int .i64 10] rfl lm_ ?_; (with_reducible refine (spec_l01Below.calls g s0_0 s0_1 s0_2 10 t1167 t1168 t1169 w0 _ ?side1 ?side2 A2.out).mono ?_); (case side1 => repeat (first | (with_reducible first | exact HI0.out | apply IsS130.alloc | apply IsS130.drewN | apply IsS130.drew | apply IsS130.set_1 | apply IsS130.set_2) | exact HI0.out)); (case side2 => repeat (first | (with_reducible first | exact HB.out | apply below_alloc | apply pw_below_drewN | apply below_drew1 | refine below_set ?_ (IsS130.ge HI0.out)) | exact HB.out)); rintro e w23 ⟨rfl, hi, hb, hk⟩; refine ⟨_, rfl, ?_⟩; have n0_ := Aside0.mk (KeepBut.trans (by repeat (first | (with_reducible first | exact HK.out | apply KeepBut.set_ | apply keep_drewN | apply keep_drew | apply keep_alloc) | exact HK.out)) hk (.inl rfl)); have n1_ := Aside0.mk (hb); have n2_ := Aside0.mk (hi); clear HK; clear HB; clear HI0; have HK := n0_; have HB := n1_; have HI0 := n2_; clear n0_ n1_ n2_; (try clear hb); (try clear hb2); (try clear hk); (try clear hi)) | ((with_reducible refine gate_dst (N := 7) rfl ?_); refine Kd.R_lit k70 _ 70 ?hg (N := 7) ?hd (xs := ([] : List (S70))) (inner := []) (ok := fun _ => True) (okp := fun _ => True) ?hr ?hp (fun _ hk => hk) trivial (Below.refl _ _) (Nat.le_refl _) (by simp) ?_; (case hd => rfl); (case hg => rfl); (case hr => first | (go_simp; done) | (go_simp; rfl)); (case hp => exact (Reps.none _ _)); intro v1171 w24 ho25 hb hg_ hnew_; clear hg_ hnew_; (first | rw [← Ny1170.out] at ho25 | (simp only [Int.reduceToNat] at ho25; rw [← Ny1170.out] at ho25)); have n0_ := Aside0.mk (Kd.R_lower ho25 (keep_size (w := w) (g := g) (row := none) (by repeat (first | (with_reducible first | exact HK.out | apply KeepBut.set_ | apply keep_drewN | apply keep_drew | apply keep_alloc) | exact HK.out)))); have n1_ := Aside0.mk (IsS130.below (by repeat (first | (with_reducible first | exact HI0.out | apply IsS130.alloc | apply IsS130.drewN | apply IsS130.drew | apply IsS130.set_1 | apply IsS130.set_2) | exact HI0.out)) hb); have n2_ := Aside0.mk (KeepBut.trans (by repeat (first | (with_reducible first | exact HK.out | apply KeepBut.set_ | apply keep_drewN | apply keep_drew | apply keep_alloc) | exact HK.out)) (KeepBut.of_below hb g none) (.inl rfl)); have n3_ := Aside0.mk (below_step (by repeat (first | (with_reducible first | exact HB.out | apply below_alloc | apply pw_below_drewN | apply below_drew1 | refine below_set ?_ (IsS130.ge HI0.out)) | exact HB.out)) hb); clear HI0; clear HK; clear HB; have HO1172 := n0_; have HI0 := n1_; have HK := n2_; have HB := n3_; clear n0_ n1_ n2_ n3_; clear hb ho25) | ((with_reducible refine gate_callee (f := 93) rfl ?_); refine goesL_ (some 9) rfl rfl Tryd.func93 (by kernel_rfl) rfl #[.pointer (some ⟨g, 0, none⟩)] rfl lm_ ?_; (with_reducible refine (spec_l19Entries.calls k g s0_0 t1168 t1169 t1173 t1176 t1177 w0 _ ?side1 ?side2 A3.out).mono ?_); (case side1 => repeat (first | (with_reducible first | exact HI0.out | apply IsS130.alloc | apply IsS130.drewN | apply IsS130.drew | apply IsS130.set_1 | apply IsS130.set_2) | exact HI0.out)); (case side2 => repeat (first | (with_reducible first | exact HB.out | apply below_alloc | apply pw_below_drewN | apply below_drew1 | refine below_set ?_ (IsS130.ge HI0.out)) | exact HB.out)); rintro e w26 ⟨v1174, rfl, ho0, hi, hb, hk⟩; refine ⟨_, rfl, ?_⟩; have n0_ := Aside0.mk (Kd.R_mono (Kd.R_told (Kd.R_oldK (IsS130.apart (show IsS130 w0 _ g s0_0 t1168 t1169 from by repeat (first | (with_reducible first | exact HI0.out | apply IsS130.alloc | apply IsS130.drewN | apply IsS130.drew | apply IsS130.set_1 | apply IsS130.set_2) | exact HI0.out)) (ra_ HO1172.out) (by decide)) hk) (Kd.R_base ho0)) (fun _ h_ => h_.1)); have n1_ := Aside0.mk (Kd.R_lower (Kd.R_new' ho0 (Kd.R_lt (ra_ HO1172.out))) (keep_size (w := w) (g := g) (row := none) (by repeat (first | (with_reducible first | exact HK.out | apply KeepBut.set_ | apply keep_drewN | apply keep_drew | apply keep_alloc) | exact HK.out)))); have n2_ := Aside0.mk (KeepBut.trans (by repeat (first | (with_reducible first | exact HK.out | apply KeepBut.set_ | apply keep_drewN | apply keep_drew | apply keep_alloc) | exact HK.out)) hk (.inl rfl)); have n3_ := Aside0.mk (hb); have n4_ := Aside0.mk (hi); clear HO1172; clear HK; clear HB; clear HI0; have HO1172 := n0_; have HO1175 := n1_; have HK := n2_; have HB := n3_; have HI0 := n4_; clear n0_ n1_ n2_ n3_ n4_; (try clear hb); (try clear hb2); (try clear hk); (try clear hi); (try clear ho0); obtain ⟨Ao28, co28, eo28⟩ := Kd.R_slice HO1175.out; subst eo28) | ((with_reducible refine gate_builtin (b := .append) (xs := #[.tmp 7, .tmp 9]) rfl ?_); at_builtin; refine Kd.R_append_rows k70 w.heap.size rfl (.tmp 7) (.tmp 9) 28 70 (.agg #[(.int .i64 0), (.int .i64 0), (.int .i64 0), (.int .i64 0), (.int .i64 0), (.int .i64 0)]) 48 rfl Tryd.underlying28 info70 rfl (by decide) (by omega) v1171 y1170 t1173 _ _ _ (fun k_ => some k_ ≠ (.slice Ao28 t1173.length co28 : Value).ownBlock) (fun _ => False) rfl rfl ?aO ?aR (fun _ _ h => h) (fun _ h => h.elim) ?aF (Below.refl _ _) ?aS ?aL ?_; (case aR => repeat (first | exact (Kd.R_reads' HO1175.out).2.2 | (with_reducible refine Kd.C_alloc ?_ _) | (with_reducible refine Kd.C_drewN ?_ _) | (with_reducible refine Kd.C_drew ?_))); (case aF => exact (fun k_ hk => Kd.fresh' (Kd.R_lt (ra_ HO1175.out)) k_ hk)); (case aO => exact (by (with_reducible repeat (first | apply Kd.R_alloc | apply Kd.R_drewN | apply Kd.R_drew)); exact Kd.R_mono HO1172.out (fun _ hk => hk.2))); (case aS => exact (keep_size (w := w) (g := g) (row := none) (by repeat (first | (with_reducible first | exact HK.out | apply KeepBut.set_ | apply keep_drewN | apply keep_drew | apply keep_alloc) | exact HK.out)))); (case aL => have := LMc4.out; omega); intro v1179 w27 ho hb hg hat; rw [← Ny1178.out] at ho; have n0_ := Aside0.mk (IsS130.grown (by repeat (first | (with_reducible first | exact HI0.out | apply IsS130.alloc | apply IsS130.drewN | apply IsS130.drew | apply IsS130.set_1 | apply IsS130.set_2) | exact HI0.out)) hg (IsS130.own_ne HI0.out HO1172.out (by decide))); have n1_ := Aside0.mk (Kd.R_after (ok := (fun _ => True)) (ra_ HO1175.out) hg hat); have n2_ := Aside0.mk (below_weaken (by repeat (first | (with_reducible first | exact HB.out | apply below_alloc | apply pw_below_drewN | apply below_drew1 | refine below_set ?_ (IsS130.ge HI0.out)) | exact HB.out)) HL.out hb); have n3_ := Aside0.mk (KeepBut.trans (by repeat (first | (with_reducible first | exact HK.out | apply KeepBut.set_ | apply keep_drewN | apply keep_drew | apply keep_alloc) | exact HK.out)) (KeepBut.of_grown hg g) (Kd.R_base2 HO1172.out)); have n4_ := Aside0.mk (ho); clear HI0; clear HO1175; clear HB; clear HK; clear HO1172; have HI0 := n0_; have HO1175 := n1_; have HB := n2_; have HK := n3_; have HO1180 := n4_; clear n0_ n1_ n2_ n3_ n4_; clear ho hb hg hat))
    go_ret
    exact ⟨_, by first | rfl | (simp [errW_none, errW_some] <;> rfl) | (simp [*, errW_none, errW_some] <;> rfl), by (with_reducible repeat (first | apply Kd.R_alloc | apply Kd.R_drewN | apply Kd.R_drew)); exact Kd.R_mono HO1180.out (fun _ hk => trivial), by repeat (first | (with_reducible first | exact HI0.out | apply IsS130.alloc | apply IsS130.drewN | apply IsS130.drew | apply IsS130.set_1 | apply IsS130.set_2) | exact HI0.out), by repeat (first | (with_reducible first | exact HB.out | apply below_alloc | apply pw_below_drewN | apply below_drew1 | refine below_set ?_ (IsS130.ge HI0.out)) | exact HB.out), by repeat (first | (with_reducible first | exact HK.out | apply KeepBut.set_ | apply keep_drewN | apply keep_drew | apply keep_alloc) | exact HK.out)⟩
 ·rw [if_neg c4] at H
  exact absurd H (by simp)


/-! ### spec_DrawParted: function 62 -/
def spec_DrawParted.j0 : Nat → List (S70) → Bool → List Int → Int → Int → Option ((List (S70)) × (List (S70)))
 | 0, _, _, _, _, _ => none
 | k + 1, x5, x23, x1191000, x1191001, x1191002 => if x23 = true then ((some (([] : List (S70)) : List (S70))).bind fun y1208 => (if y1208.length + x5.length < 2932031007402 then ((some (y1208 ++ x5 : List (S70))).bind fun y1211 => ((spec_l01Below.f x1191000 x1191001 x1191002 (y1211.length : Int)).bind fun bt1214 => (if 0 ≤ bt1214.1 then (if bt1214.1 < (y1211.length : Int) then (some (x5, (y1211.set (bt1214.1 : Int).toNat (⟨(rd_T70 y1211 bt1214.1).f0, 7, (⟨(rd_T70 y1211 bt1214.1).f2.f0, (rd_T70 y1211 bt1214.1).f2.f1, (rd_T70 y1211 bt1214.1).f2.f2, (rd_T70 y1211 bt1214.1).f2.f3⟩ : S68)⟩ : S70)))) else (none)) else (none)))) else (none))) else ((spec_l19Any.f k x1191000 x1191001 x1191002).bind fun bt1218 => (some (x5, bt1218.1)))
def spec_DrawParted.f (k : Nat) (l0 : List Int) : Option ((List (S70)) × (List (S70))) := (spec_l01New.f k l0).bind fun bt1187 => ((spec_l19Any.f k bt1187.1 bt1187.2.1 bt1187.2.2).bind fun bt1191 => ((spec_l01Once.f bt1187.1 bt1191.2.1 bt1191.2.2 3).bind fun bt1196 => (if bt1196.1 = true then ((some (([] : List (S70)) : List (S70))).bind fun y1199 => (if y1199.length + bt1191.1.length < 2932031007402 then (some (bt1191.1, (y1199 ++ bt1191.1))) else (none))) else (if (bt1191.1.length : Int) > 0 then ((spec_l01Once.f bt1187.1 bt1196.2.1 bt1196.2.2 2).bind fun bt1205 => (spec_DrawParted.j0 k bt1191.1 bt1205.1 bt1187.1 bt1205.2.1 bt1205.2.2)) else (spec_DrawParted.j0 k bt1191.1 false bt1187.1 bt1196.2.1 bt1196.2.2)))))
theorem spec_DrawParted.mono_l : ∀ k, (∀ y0 y1 y2 y3 y4, LeO (spec_DrawParted.j0 k y0 y1 y2 y3 y4) (spec_DrawParted.j0 (k + 1) y0 y1 y2 y3 y4))
 | 0 => fun _ _ _ _ _ r h => by simp [spec_DrawParted.j0] at h
 | k + 1 => by
  have ih0 := spec_DrawParted.mono_l k
  ·intro y0 y1 y2 y3 y4
   unfold spec_DrawParted.j0
   repeat' first
   | (with_reducible exact ih0 _ _ _ _ _)
   | (with_reducible exact spec_l01New.mono _ _)
   | (with_reducible exact spec_l19Any.mono _ _ _ _)
   | (with_reducible exact LeO.refl _)
   | (with_reducible exact LeO.none _)
   | (with_reducible refine LeO.ite ?_ ?_)
   | (with_reducible refine LeO.bind ?_ (fun _ => ?_))
   | exact ih0 _ _ _ _ _
   | exact spec_l01New.mono _ _
   | exact spec_l19Any.mono _ _ _ _
   | exact LeO.none _
   | refine LeO.ite ?_ ?_
   | refine LeO.bind ?_ (fun _ => ?_)
theorem spec_DrawParted.mono : ∀ a0 k, LeO (spec_DrawParted.f k a0) (spec_DrawParted.f (k + 1) a0) := by
 intro a0 k
 have ih0 := spec_DrawParted.mono_l k
 unfold spec_DrawParted.f
 repeat' first
  | (with_reducible exact ih0 _ _ _ _ _)
  | (with_reducible exact spec_l01New.mono _ _)
  | (with_reducible exact spec_l19Any.mono _ _ _ _)
  | (with_reducible exact LeO.refl _)
  | (with_reducible exact LeO.none _)
  | (with_reducible refine LeO.ite ?_ ?_)
  | (with_reducible refine LeO.bind ?_ (fun _ => ?_))
  | exact ih0 _ _ _ _ _
  | exact spec_l01New.mono _ _
  | exact spec_l19Any.mono _ _ _ _
  | exact LeO.none _
  | refine LeO.ite ?_ ?_
  | refine LeO.bind ?_ (fun _ => ?_)
set_option maxHeartbeats 8000000 in
set_option maxRecDepth 100000 in
theorem spec_DrawParted.calls (k : Nat) (A0 : Option Addr) (c0 : Nat) (l0 : List Int) (r1 : List (S70)) (r2 : List (S70)) (w : World) (hr0 : Kd.C (Kd.int .u8) w A0 l0.length l0) (hc0 : l0.length ≤ c0) (h : spec_DrawParted.f k l0 = some (r1, r2)) :
 Calls Tryd.prog 62 #[.slice A0 l0.length c0] w fun e w' => ∃ v0_ v1_ : Value, e = .returned (.tuple #[v0_, v1_]) ∧ Kd.R k70 70 w' w.heap.size (fun k_ => some k_ ≠ (v1_ : Value).ownBlock) v0_ r1 ∧ Kd.R k70 70 w' w.heap.size (fun k_ => some k_ ≠ (v0_ : Value).ownBlock) v1_ r2 ∧ Below w.heap.size w w' := by
 have HR0 := Aside0.mk hr0
 have HC0 := Aside0.mk hc0
 clear hr0 hc0
 have HB := Aside0.mk (Below.refl w.heap.size w)
 have H : ((spec_l01New.f k l0).bind fun bt1187 => ((spec_l19Any.f k bt1187.1 bt1187.2.1 bt1187.2.2).bind fun bt1191 => ((spec_l01Once.f bt1187.1 bt1191.2.1 bt1191.2.2 3).bind fun bt1196 => (if bt1196.1 = true then ((some (([] : List (S70)) : List (S70))).bind fun y1199 => (if y1199.length + bt1191.1.length < 2932031007402 then (some (bt1191.1, (y1199 ++ bt1191.1))) else (none))) else (if (bt1191.1.length : Int) > 0 then ((spec_l01Once.f bt1187.1 bt1196.2.1 bt1196.2.2 2).bind fun bt1205 => (spec_DrawParted.j0 k bt1191.1 bt1205.1 bt1187.1 bt1205.2.1 bt1205.2.2)) else (spec_DrawParted.j0 k bt1191.1 false bt1187.1 bt1196.2.1 bt1196.2.2)))))) = some (r1, r2) := h
 clear h
 replace H := Option.bind_eq_some_iff.mp H
 obtain ⟨⟨t1187, t1188, t1189⟩, A20, H⟩ := H
 replace H : ((spec_l19Any.f k t1187 t1188 t1189).bind fun bt1191 => ((spec_l01Once.f t1187 bt1191.2.1 bt1191.2.2 3).bind fun bt1196 => (if bt1196.1 = true then ((some (([] : List (S70)) : List (S70))).bind fun y1199 => (if y1199.length + bt1191.1.length < 2932031007402 then (some (bt1191.1, (y1199 ++ bt1191.1))) else (none))) else (if (bt1191.1.length : Int) > 0 then ((spec_l01Once.f t1187 bt1196.2.1 bt1196.2.2 2).bind fun bt1205 => (spec_DrawParted.j0 k bt1191.1 bt1205.1 t1187 bt1205.2.1 bt1205.2.2)) else (spec_DrawParted.j0 k bt1191.1 false t1187 bt1196.2.1 bt1196.2.2))))) = some (r1, r2) := H
 have A2 := Aside0.mk A20
 clear A20
 replace H := Option.bind_eq_some_iff.mp H
 obtain ⟨⟨t1191, t1194, t1195⟩, A30, H⟩ := H
 replace H : ((spec_l01Once.f t1187 t1194 t1195 3).bind fun bt1196 => (if bt1196.1 = true then ((some (([] : List (S70)) : List (S70))).bind fun y1199 => (if y1199.length + t1191.length < 2932031007402 then (some (t1191, (y1199 ++ t1191))) else (none))) else (if (t1191.length : Int) > 0 then ((spec_l01Once.f t1187 bt1196.2.1 bt1196.2.2 2).bind fun bt1205 => (spec_DrawParted.j0 k t1191 bt1205.1 t1187 bt1205.2.1 bt1205.2.2)) else (spec_DrawParted.j0 k t1191 false t1187 bt1196.2.1 bt1196.2.2)))) = some (r1, r2) := H
 have A3 := Aside0.mk A30
 clear A30
 replace H := Option.bind_eq_some_iff.mp H
 obtain ⟨⟨t1196, t1197, t1198⟩, A40, H⟩ := H
 replace H : (if t1196 = true then ((some (([] : List (S70)) : List (S70))).bind fun y1199 => (if y1199.length + t1191.length < 2932031007402 then (some (t1191, (y1199 ++ t1191))) else (none))) else (if (t1191.length : Int) > 0 then ((spec_l01Once.f t1187 t1197 t1198 2).bind fun bt1205 => (spec_DrawParted.j0 k t1191 bt1205.1 t1187 bt1205.2.1 bt1205.2.2)) else (spec_DrawParted.j0 k t1191 false t1187 t1197 t1198))) = some (r1, r2) := H
 have A4 := Aside0.mk A40
 clear A40
 by_cases c5 : t1196 = true
 ·subst c5
  have H1 : ((some (([] : List (S70)) : List (S70))).bind fun y1199 => (if y1199.length + t1191.length < 2932031007402 then (some (t1191, (y1199 ++ t1191))) else (none))) = some (r1, r2) := by rw [if_pos rfl] at H; exact H
  clear H
  have H := H1
  clear H1
  obtain ⟨y1199, hy1199⟩ : ∃ y_ : List (S70), y_ = (([] : List (S70))) := ⟨_, rfl⟩
  replace H : (if y1199.length + t1191.length < 2932031007402 then (some (t1191, (y1199 ++ t1191))) else (none)) = some (r1, r2) := by first | (rw [hy1199]; with_reducible exact H) | (have H2_ := (Option.bind_some _ _).symm.trans H; rw [hy1199]; with_reducible exact H2_) | (have H2_ := (Option.bind_some _ _).symm.trans H; with_reducible exact H2_) | with_reducible exact H | (rw [hy1199]; exact H) | exact H
  have Ny1199 := Aside0.mk hy1199
  clear hy1199
  by_cases c6 : y1199.length + t1191.length < 2932031007402
  ·rw [if_pos c6] at H
   have LMc6 := Aside0.mk c6
   clear c6
   obtain ⟨y1202, hy1202⟩ : ∃ y_ : List (S70), y_ = (y1199 ++ t1191) := ⟨_, rfl⟩
   replace H : (some (t1191, y1202)) = some (r1, r2) := by first | (rw [hy1202]; with_reducible exact H) | (have H2_ := (Option.bind_some _ _).symm.trans H; rw [hy1202]; with_reducible exact H2_) | (have H2_ := (Option.bind_some _ _).symm.trans H; with_reducible exact H2_) | with_reducible exact H | (rw [hy1202]; exact H) | exact H
   have Ny1202 := Aside0.mk hy1202
   clear hy1202
   simp only [Option.some.injEq, Prod.mk.injEq] at H
   obtain ⟨rfl, rfl⟩ := H
   go_enter Tryd.func62, Tryd.ntmps62
   go_wp2_with (first | ((with_reducible refine gate_callee (f := 94) rfl ?_); refine goesL_ (some 8) rfl rfl Tryd.func94 (by kernel_rfl) rfl #[.slice A0 l0.length c0] rfl lm_ ?_; (with_reducible refine (spec_l01New.calls k _ _ l0 t1187 t1188 t1189 w _ ?side1 ?side2 ?side3 A2.out).mono ?_); (case side1 => repeat (first | (with_reducible first | exact HB.out | apply below_alloc | apply pw_below_drewN | apply below_drew1) | exact HB.out)); (case side2 => exact HR0.out); (case side3 => exact HC0.out); rintro e w7 ⟨g1190, rfl, hi, hb, hb2⟩; refine ⟨_, rfl, ?_⟩; have n0_ := Aside0.mk (hb); have n1_ := Aside0.mk (hi); clear HB; have HB := n0_; have HI1190 := n1_; clear n0_ n1_; (try clear hb); (try clear hb2); (try clear hk); (try clear hi)) | ((with_reducible refine gate_callee (f := 107) rfl ?_); refine goesL_ (some 10) rfl rfl Tryd.func107 (by kernel_rfl) rfl #[.pointer (some ⟨g1190, 0, none⟩)] rfl lm_ ?_; (with_reducible refine (spec_l19Any.calls k g1190 t1187 t1188 t1189 t1191 t1194 t1195 w _ ?side1 ?side2 A3.out).mono ?_); (case side1 => repeat (first | (with_reducible first | exact HI1190.out | apply IsS130.alloc | apply IsS130.drewN | apply IsS130.drew | apply IsS130.set_1 | apply IsS130.set_2) | exact HI1190.out)); (case side2 => repeat (first | (with_reducible first | exact HB.out | apply below_alloc | apply pw_below_drewN | apply below_drew1 | refine below_set ?_ (IsS130.ge HI1190.out)) | exact HB.out)); rintro e w8 ⟨v1192, rfl, ho0, hi, hb, hk⟩; refine ⟨_, rfl, ?_⟩; have n0_ := Aside0.mk (Kd.R_lower ho0 (below_size (by repeat (first | (with_reducible first | exact HB.out | apply below_alloc | apply pw_below_drewN | apply below_drew1 | refine below_set ?_ (IsS130.ge HI1190.out)) | exact HB.out)))); have n1_ := Aside0.mk (hb); have n2_ := Aside0.mk (hi); clear HB; clear HI1190; have HO1193 := n0_; have HB := n1_; have HI1190 := n2_; clear n0_ n1_ n2_; (try clear hb); (try clear hb2); (try clear hk); (try clear hi); (try clear ho0)) | ((with_reducible refine gate_callee (f := 108) rfl ?_); refine goesL_ (some 12) rfl rfl Tryd.func108 (by kernel_rfl) rfl #[.pointer (some ⟨g1190, 0, none⟩), .int .i64 3] rfl lm_ ?_; (with_reducible refine (spec_l01Once.calls g1190 t1187 t1194 t1195 3 true t1197 t1198 w _ ?side1 ?side2 A4.out).mono ?_); (case side1 => repeat (first | (with_reducible first | exact HI1190.out | apply IsS130.alloc | apply IsS130.drewN | apply IsS130.drew | apply IsS130.set_1 | apply IsS130.set_2) | exact HI1190.out)); (case side2 => repeat (first | (with_reducible first | exact HB.out | apply below_alloc | apply pw_below_drewN | apply below_drew1 | refine below_set ?_ (IsS130.ge HI1190.out)) | exact HB.out)); rintro e w9 ⟨rfl, hi, hb, hk⟩; refine ⟨_, rfl, ?_⟩; have n0_ := Aside0.mk (Kd.R_mono (Kd.R_keep (IsS130.apart (show IsS130 w _ g1190 t1187 t1194 t1195 from by repeat (first | (with_reducible first | exact HI1190.out | apply IsS130.alloc | apply IsS130.drewN | apply IsS130.drew | apply IsS130.set_1 | apply IsS130.set_2) | exact HI1190.out)) (ra_ HO1193.out) (by decide)) hk (fun _ h => h.2)) (fun _ h => h.1)); have n1_ := Aside0.mk (hb); have n2_ := Aside0.mk (hi); clear HO1193; clear HB; clear HI1190; have HO1193 := n0_; have HB := n1_; have HI1190 := n2_; clear n0_ n1_ n2_; (try clear hb); (try clear hb2); (try clear hk); (try clear hi)) | ((with_reducible refine gate_dst (N := 14) rfl ?_); refine Kd.R_lit k70 _ 70 ?hg (N := 14) ?hd (xs := ([] : List (S70))) (inner := []) (ok := fun _ => True) (okp := fun _ => True) ?hr ?hp (fun _ hk => hk) trivial (Below.refl _ _) (Nat.le_refl _) (by simp) ?_; (case hd => rfl); (case hg => rfl); (case hr => first | (go_simp; done) | (go_simp; rfl)); (case hp => exact (Reps.none _ _)); intro v1200 w10 ho11 hb hg_ hnew_; clear hg_ hnew_; (first | rw [← Ny1199.out] at ho11 | (simp only [Int.reduceToNat] at ho11; rw [← Ny1199.out] at ho11)); have n0_ := Aside0.mk (Kd.R_elder' (ra_ HO1193.out) (Kd.R_base ho11) hb); have n1_ := Aside0.mk (Kd.R_lower (Kd.R_new' ho11 (Kd.R_lt (ra_ HO1193.out))) (below_size (by repeat (first | (with_reducible first | exact HB.out | apply below_alloc | apply pw_below_drewN | apply below_drew1 | refine below_set ?_ (IsS130.ge HI1190.out)) | exact HB.out)))); have n2_ := Aside0.mk (IsS130.below (by repeat (first | (with_reducible first | exact HI1190.out | apply IsS130.alloc | apply IsS130.drewN | apply IsS130.drew | apply IsS130.set_1 | apply IsS130.set_2) | exact HI1190.out)) hb); have n3_ := Aside0.mk (below_step (by repeat (first | (with_reducible first | exact HB.out | apply below_alloc | apply pw_below_drewN | apply below_drew1 | refine below_set ?_ (IsS130.ge HI1190.out)) | exact HB.out)) hb); clear HO1193; clear HI1190; clear HB; have HO1193 := n0_; have HO1201 := n1_; have HI1190 := n2_; have HB := n3_; clear n0_ n1_ n2_ n3_; clear hb ho11; obtain ⟨Ao13, co13, eo13⟩ := Kd.R_slice HO1193.out; subst eo13) | ((with_reducible refine gate_builtin (b := .append) (xs := #[.tmp 14, .tmp 15]) rfl ?_); at_builtin; refine Kd.R_append_rows k70 (w0 := w) w.heap.size rfl (.tmp 14) (.tmp 15) 28 70 (.agg #[(.int .i64 0), (.int .i64 0), (.int .i64 0), (.int .i64 0), (.int .i64 0), (.int .i64 0)]) 48 rfl Tryd.underlying28 info70 rfl (by decide) (by omega) v1200 y1199 t1191 _ _ _ (fun k_ => some k_ ≠ (.slice Ao13 t1191.length co13 : Value).ownBlock) (fun _ => False) rfl rfl ?aO ?aR (fun _ _ h => h) (fun _ h => h.elim) ?aF ?aB ?aS ?aL ?_; (case aR => repeat (first | exact (Kd.R_reads' HO1193.out).2.2 | (with_reducible refine Kd.C_alloc ?_ _) | (with_reducible refine Kd.C_drewN ?_ _) | (with_reducible refine Kd.C_drew ?_))); (case aB => exact (by repeat (first | (with_reducible first | exact HB.out | apply below_alloc | apply pw_below_drewN | apply below_drew1 | refine below_set ?_ (IsS130.ge HI1190.out)) | exact HB.out))); (case aF => exact (fun k_ hk => Kd.fresh' (Kd.R_lt (ra_ HO1193.out)) k_ hk)); (case aO => exact (by (with_reducible repeat (first | apply Kd.R_alloc | apply Kd.R_drewN | apply Kd.R_drew)); exact Kd.R_mono HO1201.out (fun _ hk => hk.2))); (case aS => exact (below_size (by repeat (first | (with_reducible first | exact HB.out | apply below_alloc | apply pw_below_drewN | apply below_drew1 | refine below_set ?_ (IsS130.ge HI1190.out)) | exact HB.out)))); (case aL => have := LMc6.out; omega); intro v1203 w12 ho hb hg hat; rw [← Ny1202.out] at ho; have n0_ := Aside0.mk (IsS130.grown (by repeat (first | (with_reducible first | exact HI1190.out | apply IsS130.alloc | apply IsS130.drewN | apply IsS130.drew | apply IsS130.set_1 | apply IsS130.set_2) | exact HI1190.out)) hg (IsS130.own_ne HI1190.out HO1201.out (by decide))); have n1_ := Aside0.mk (Kd.R_after (ok := (fun _ => True)) (ra_ HO1193.out) hg hat); have n2_ := Aside0.mk (hb); have n3_ := Aside0.mk (ho); clear HI1190; clear HO1193; clear HB; clear HO1201; have HI1190 := n0_; have HO1193 := n1_; have HB := n2_; have HO1204 := n3_; clear n0_ n1_ n2_ n3_; clear ho hb hg hat))
   go_ret2
   exact ⟨_, _, by first | rfl | (simp [errW_none, errW_some] <;> rfl) | (simp [*, errW_none, errW_some] <;> rfl), by (with_reducible repeat (first | apply Kd.R_alloc | apply Kd.R_drewN | apply Kd.R_drew)); exact Kd.R_mono HO1193.out (fun _ hk => hk.2), ra_ HO1204.out, by repeat (first | (with_reducible first | exact HB.out | apply below_alloc | apply pw_below_drewN | apply below_drew1 | refine below_set ?_ (IsS130.ge HI1190.out)) | exact HB.out)⟩
  ·rw [if_neg c6] at H
   exact absurd H (by simp)
 ·replace c5 := Bool.eq_false_iff.mpr c5
  subst c5
  have H1 : (if (t1191.length : Int) > 0 then ((spec_l01Once.f t1187 t1197 t1198 2).bind fun bt1205 => (spec_DrawParted.j0 k t1191 bt1205.1 t1187 bt1205.2.1 bt1205.2.2)) else (spec_DrawParted.j0 k t1191 false t1187 t1197 t1198)) = some (r1, r2) := by rw [if_neg (show ¬ (false = true) by decide)] at H; exact H
  clear H
  have H := H1
  clear H1
  have HC14 := Aside0.mk H
  clear H
  go_enter Tryd.func62, Tryd.ntmps62
  go_upto_region 5 with (first | ((with_reducible refine gate_callee (f := 94) rfl ?_); refine goesL_ (some 8) rfl rfl Tryd.func94 (by kernel_rfl) rfl #[.slice A0 l0.length c0] rfl lm_ ?_; (with_reducible refine (spec_l01New.calls k _ _ l0 t1187 t1188 t1189 w _ ?side1 ?side2 ?side3 A2.out).mono ?_); (case side1 => repeat (first | (with_reducible first | exact HB.out | apply below_alloc | apply pw_below_drewN | apply below_drew1) | exact HB.out)); (case side2 => exact HR0.out); (case side3 => exact HC0.out); rintro e w15 ⟨g1190, rfl, hi, hb, hb2⟩; refine ⟨_, rfl, ?_⟩; have n0_ := Aside0.mk (hb); have n1_ := Aside0.mk (hi); clear HB; have HB := n0_; have HI1190 := n1_; clear n0_ n1_; (try clear hb); (try clear hb2); (try clear hk); (try clear hi)) | ((with_reducible refine gate_callee (f := 107) rfl ?_); refine goesL_ (some 10) rfl rfl Tryd.func107 (by kernel_rfl) rfl #[.pointer (some ⟨g1190, 0, none⟩)] rfl lm_ ?_; (with_reducible refine (spec_l19Any.calls k g1190 t1187 t1188 t1189 t1191 t1194 t1195 w _ ?side1 ?side2 A3.out).mono ?_); (case side1 => repeat (first | (with_reducible first | exact HI1190.out | apply IsS130.alloc | apply IsS130.drewN | apply IsS130.drew | apply IsS130.set_1 | apply IsS130.set_2) | exact HI1190.out)); (case side2 => repeat (first | (with_reducible first | exact HB.out | apply below_alloc | apply pw_below_drewN | apply below_drew1 | refine below_set ?_ (IsS130.ge HI1190.out)) | exact HB.out)); rintro e w16 ⟨v1192, rfl, ho0, hi, hb, hk⟩; refine ⟨_, rfl, ?_⟩; have n0_ := Aside0.mk (Kd.R_lower ho0 (below_size (by repeat (first | (with_reducible first | exact HB.out | apply below_alloc | apply pw_below_drewN | apply below_drew1 | refine below_set ?_ (IsS130.ge HI1190.out)) | exact HB.out)))); have n1_ := Aside0.mk (hb); have n2_ := Aside0.mk (hi); clear HB; clear HI1190; have HO1193 := n0_; have HB := n1_; have HI1190 := n2_; clear n0_ n1_ n2_; (try clear hb); (try clear hb2); (try clear hk); (try clear hi); (try clear ho0)) | ((with_reducible refine gate_callee (f := 108) rfl ?_); refine goesL_ (some 12) rfl rfl Tryd.func108 (by kernel_rfl) rfl #[.pointer (some ⟨g1190, 0, none⟩), .int .i64 3] rfl lm_ ?_; (with_reducible refine (spec_l01Once.calls g1190 t1187 t1194 t1195 3 false t1197 t1198 w _ ?side1 ?side2 A4.out).mono ?_); (case side1 => repeat (first | (with_reducible first | exact HI1190.out | apply IsS130.alloc | apply IsS130.drewN | apply IsS130.drew | apply IsS130.set_1 | apply IsS130.set_2) | exact HI1190.out)); (case side2 => repeat (first | (with_reducible first | exact HB.out | apply below_alloc | apply pw_below_drewN | apply below_drew1 | refine below_set ?_ (IsS130.ge HI1190.out)) | exact HB.out)); rintro e w17 ⟨rfl, hi, hb, hk⟩; refine ⟨_, rfl, ?_⟩; have n0_ := Aside0.mk (Kd.R_mono (Kd.R_keep (IsS130.apart (show IsS130 w _ g1190 t1187 t1194 t1195 from by repeat (first | (with_reducible first | exact HI1190.out | apply IsS130.alloc | apply IsS130.drewN | apply IsS130.drew | apply IsS130.set_1 | apply IsS130.set_2) | exact HI1190.out)) (ra_ HO1193.out) (by decide)) hk (fun _ h => h.2)) (fun _ h => h.1)); have n1_ := Aside0.mk (hb); have n2_ := Aside0.mk (hi); clear HO1193; clear HB; clear HI1190; have HO1193 := n0_; have HB := n1_; have HI1190 := n2_; clear n0_ n1_ n2_; (try clear hb); (try clear hb2); (try clear hk); (try clear hi)))
  (try simp only [Act.put, List.setIfInBounds_toArray, List.set_cons_zero, List.set_cons_succ])
  go_cut [23] (fun v23 wc => ∃ (kq : Nat) (x23_13 : Bool) (x1191001_13 : Int) (x1191002_13 : Int), v23 = .bool x23_13 ∧ Aside0 (spec_DrawParted.j0 kq t1191 x23_13 t1187 x1191001_13 x1191002_13 = some (r1, r2)) ∧ Aside0 (kq ≤ k) ∧ Aside0 (Kd.R k70 70 wc w.heap.size (fun _ => True) v1192 t1191) ∧ Aside0 (IsS130 w wc g1190 t1187 x1191001_13 x1191002_13) ∧ Aside0 (Below w.heap.size w wc))
  case first =>
   have H := HC14.out
   clear HC14
   by_cases c18 : (t1191.length : Int) > 0
   ·rw [if_pos c18] at H
    have c18b0 : decide (0 < (t1191.length : Int)) = true := decide_eq_true c18
    have c18b1 : decide (0 < t1191.length) = true := decide_eq_true (by omega)
    clear c18
    (first | rw [c18b0] | (simp only [i64_w, i32_w]; rw [c18b0]) | skip)
    replace H := Option.bind_eq_some_iff.mp H
    obtain ⟨⟨t1205, t1206, t1207⟩, A190, H⟩ := H
    replace H : (spec_DrawParted.j0 k t1191 t1205 t1187 t1206 t1207) = some (r1, r2) := H
    have A19 := Aside0.mk A190
    clear A190
    have H' := Aside0.mk H
    clear H
    obtain ⟨Ao20, co20, eo20⟩ := Kd.R_slice HO1193.out
    subst eo20
    go_wp2_with (first | (go_at_call 108; (with_reducible refine (spec_l01Once.calls g1190 t1187 t1197 t1198 2 t1205 t1206 t1207 w _ ?side1 ?side2 A19.out).mono ?_); (case side1 => repeat (first | (with_reducible first | exact HI1190.out | apply IsS130.alloc | apply IsS130.drewN | apply IsS130.drew | apply IsS130.set_1 | apply IsS130.set_2) | exact HI1190.out)); (case side2 => repeat (first | (with_reducible first | exact HB.out | apply below_alloc | apply pw_below_drewN | apply below_drew1 | refine below_set ?_ (IsS130.ge HI1190.out)) | exact HB.out)); rintro e w21 ⟨rfl, hi, hb, hk⟩; have n0_ := Aside0.mk (Kd.R_mono (Kd.R_keep (IsS130.apart (show IsS130 w _ g1190 t1187 t1197 t1198 from by repeat (first | (with_reducible first | exact HI1190.out | apply IsS130.alloc | apply IsS130.drewN | apply IsS130.drew | apply IsS130.set_1 | apply IsS130.set_2) | exact HI1190.out)) (ra_ HO1193.out) (by decide)) hk (fun _ h => h.2)) (fun _ h => h.1)); have n1_ := Aside0.mk (hb); have n2_ := Aside0.mk (hi); clear HO1193; clear HB; clear HI1190; have HO1193 := n0_; have HB := n1_; have HI1190 := n2_; clear n0_ n1_ n2_; (try clear hb); (try clear hb2); (try clear hk); (try clear hi)))
    go_meet
    case rel => exact ⟨_, (t1205), (t1206), (t1207), (by first | rfl | (simp; done) | (simp [*]; done)), H', ⟨by first | omega | exact Nat.le_refl _⟩, ⟨ra_ HO1193.out⟩, ⟨by repeat (first | (with_reducible first | exact HI1190.out | apply IsS130.alloc | apply IsS130.drewN | apply IsS130.drew | apply IsS130.set_1 | apply IsS130.set_2) | exact HI1190.out)⟩, ⟨by repeat (first | (with_reducible first | exact HB.out | apply below_alloc | apply pw_below_drewN | apply below_drew1 | refine below_set ?_ (IsS130.ge HI1190.out)) | exact HB.out)⟩⟩
   ·rw [if_neg c18] at H
    have c18b0 : decide (0 < (t1191.length : Int)) = false := decide_eq_false c18
    have c18b1 : decide (0 < t1191.length) = false := decide_eq_false (by omega)
    clear c18
    (first | rw [c18b0] | (simp only [i64_w, i32_w]; rw [c18b0]) | skip)
    have H' := Aside0.mk H
    clear H
    obtain ⟨Ao22, co22, eo22⟩ := Kd.R_slice HO1193.out
    subst eo22
    go_wp2
    go_meet
    case rel => exact ⟨_, (false), (t1197), (t1198), (by first | rfl | (simp; done) | (simp [*]; done)), H', ⟨by first | omega | exact Nat.le_refl _⟩, ⟨ra_ HO1193.out⟩, ⟨by repeat (first | (with_reducible first | exact HI1190.out | apply IsS130.alloc | apply IsS130.drewN | apply IsS130.drew | apply IsS130.set_1 | apply IsS130.set_2) | exact HI1190.out)⟩, ⟨by repeat (first | (with_reducible first | exact HB.out | apply below_alloc | apply pw_below_drewN | apply below_drew1 | refine below_set ?_ (IsS130.ge HI1190.out)) | exact HB.out)⟩⟩
  case rest =>
   clear HC14
   try clear c1
   try clear p2
   try clear c5
   try clear c6
   try clear c9
   try clear c10
   try clear c18
   try clear c18b0
   try clear c18b1
   obtain ⟨kq, x23_13, x1191001_13, x1191002_13, rfl, HA, HJ13, HO_5, HI1190, HB⟩ := hcut
   cases kq with
   | zero => exact absurd HA.out (by simp [spec_DrawParted.j0])
   | succ kj13 =>
    have H := HA.out
    clear HA
    simp only [spec_DrawParted.j0] at H
    by_cases c23 : x23_13 = true
    ·subst c23
     have H1 : ((some (([] : List (S70)) : List (S70))).bind fun y1208 => (if y1208.length + t1191.length < 2932031007402 then ((some (y1208 ++ t1191 : List (S70))).bind fun y1211 => ((spec_l01Below.f t1187 x1191001_13 x1191002_13 (y1211.length : Int)).bind fun bt1214 => (if 0 ≤ bt1214.1 then (if bt1214.1 < (y1211.length : Int) then (some (t1191, (y1211.set (bt1214.1 : Int).toNat (⟨(rd_T70 y1211 bt1214.1).f0, 7, (⟨(rd_T70 y1211 bt1214.1).f2.f0, (rd_T70 y1211 bt1214.1).f2.f1, (rd_T70 y1211 bt1214.1).f2.f2, (rd_T70 y1211 bt1214.1).f2.f3⟩ : S68)⟩ : S70)))) else (none)) else (none)))) else (none))) = some (r1, r2) := by rw [if_pos rfl] at H; exact H
     clear H
     have H := H1
     clear H1
     obtain ⟨y1208, hy1208⟩ : ∃ y_ : List (S70), y_ = (([] : List (S70))) := ⟨_, rfl⟩
     replace H : (if y1208.length + t1191.length < 2932031007402 then ((some (y1208 ++ t1191 : List (S70))).bind fun y1211 => ((spec_l01Below.f t1187 x1191001_13 x1191002_13 (y1211.length : Int)).bind fun bt1214 => (if 0 ≤ bt1214.1 then (if bt1214.1 < (y1211.length : Int) then (some (t1191, (y1211.set (bt1214.1 : Int).toNat (⟨(rd_T70 y1211 bt1214.1).f0, 7, (⟨(rd_T70 y1211 bt1214.1).f2.f0, (rd_T70 y1211 bt1214.1).f2.f1, (rd_T70 y1211 bt1214.1).f2.f2, (rd_T70 y1211 bt1214.1).f2.f3⟩ : S68)⟩ : S70)))) else (none)) else (none)))) else (none)) = some (r1, r2) := by first | (rw [hy1208]; with_reducible exact H) | (have H2_ := (Option.bind_some _ _).symm.trans H; rw [hy1208]; with_reducible exact H2_) | (have H2_ := (Option.bind_some _ _).symm.trans H; with_reducible exact H2_) | with_reducible exact H | (rw [hy1208]; exact H) | exact H
     have Ny1208 := Aside0.mk hy1208
     clear hy1208
     by_cases c24 : y1208.length + t1191.length < 2932031007402
     ·rw [if_pos c24] at H
      have LMc24 := Aside0.mk c24
      clear c24
      obtain ⟨y1211, hy1211⟩ : ∃ y_ : List (S70), y_ = (y1208 ++ t1191) := ⟨_, rfl⟩
      replace H : ((spec_l01Below.f t1187 x1191001_13 x1191002_13 (y1211.length : Int)).bind fun bt1214 => (if 0 ≤ bt1214.1 then (if bt1214.1 < (y1211.length : Int) then (some (t1191, (y1211.set (bt1214.1 : Int).toNat (⟨(rd_T70 y1211 bt1214.1).f0, 7, (⟨(rd_T70 y1211 bt1214.1).f2.f0, (rd_T70 y1211 bt1214.1).f2.f1, (rd_T70 y1211 bt1214.1).f2.f2, (rd_T70 y1211 bt1214.1).f2.f3⟩ : S68)⟩ : S70)))) else (none)) else (none))) = some (r1, r2) := by first | (rw [hy1211]; with_reducible exact H) | (have H2_ := (Option.bind_some _ _).symm.trans H; rw [hy1211]; with_reducible exact H2_) | (have H2_ := (Option.bind_some _ _).symm.trans H; with_reducible exact H2_) | with_reducible exact H | (rw [hy1211]; exact H) | exact H
      have Ny1211 := Aside0.mk hy1211
      clear hy1211
      replace H := Option.bind_eq_some_iff.mp H
      obtain ⟨⟨t1214, t1215, t1216⟩, A250, H⟩ := H
      replace H : (if 0 ≤ t1214 then (if t1214 < (y1211.length : Int) then (some (t1191, (y1211.set (t1214 : Int).toNat (⟨(rd_T70 y1211 t1214).f0, 7, (⟨(rd_T70 y1211 t1214).f2.f0, (rd_T70 y1211 t1214).f2.f1, (rd_T70 y1211 t1214).f2.f2, (rd_T70 y1211 t1214).f2.f3⟩ : S68)⟩ : S70)))) else (none)) else (none)) = some (r1, r2) := H
      have A25 := Aside0.mk A250
      clear A250
      by_cases c26 : 0 ≤ t1214
      ·rw [if_pos c26] at H
       have c26b0 : decide (0 ≤ t1214) = true := decide_eq_true c26
       clear c26
       by_cases c27 : t1214 < (y1211.length : Int)
       ·rw [if_pos c27] at H
        have c27b0 : decide (t1214 < (y1211.length : Int)) = true := decide_eq_true c27
        clear c27
        obtain ⟨y1217, hy1217⟩ : ∃ y_ : List (S70), y_ = (y1211.set (t1214 : Int).toNat (⟨(rd_T70 y1211 t1214).f0, 7, (⟨(rd_T70 y1211 t1214).f2.f0, (rd_T70 y1211 t1214).f2.f1, (rd_T70 y1211 t1214).f2.f2, (rd_T70 y1211 t1214).f2.f3⟩ : S68)⟩ : S70)) := ⟨_, rfl⟩
        replace H : (some (t1191, y1217)) = some (r1, r2) := by first | (rw [hy1217]; with_reducible exact H) | (have H2_ := (Option.bind_some _ _).symm.trans H; rw [hy1217]; with_reducible exact H2_) | (have H2_ := (Option.bind_some _ _).symm.trans H; with_reducible exact H2_) | with_reducible exact H | (rw [hy1217]; exact H) | exact H
        have Ny1217 := Aside0.mk hy1217
        clear hy1217
        simp only [Option.some.injEq, Prod.mk.injEq] at H
        obtain ⟨rfl, rfl⟩ := H
        go_wp2_with (first | ((with_reducible refine gate_dst (N := 24) rfl ?_); refine Kd.R_lit k70 _ 70 ?hg (N := 24) ?hd (xs := ([] : List (S70))) (inner := []) (ok := fun _ => True) (okp := fun _ => True) ?hr ?hp (fun _ hk => hk) trivial (Below.refl _ _) (Nat.le_refl _) (by simp) ?_; (case hd => rfl); (case hg => rfl); (case hr => first | (go_simp; done) | (go_simp; rfl)); (case hp => exact (Reps.none _ _)); intro v1209 w29 ho30 hb hg_ hnew_; clear hg_ hnew_; (first | rw [← Ny1208.out] at ho30 | (simp only [Int.reduceToNat] at ho30; rw [← Ny1208.out] at ho30)); have n0_ := Aside0.mk (Kd.R_elder' (ra_ HO_5.out) (Kd.R_base ho30) hb); have n1_ := Aside0.mk (Kd.R_lower (Kd.R_new' ho30 (Kd.R_lt (ra_ HO_5.out))) (below_size (by repeat (first | (with_reducible first | exact HB.out | apply below_alloc | apply pw_below_drewN | apply below_drew1 | refine below_set ?_ (IsS130.ge HI1190.out)) | exact HB.out)))); have n2_ := Aside0.mk (IsS130.below (by repeat (first | (with_reducible first | exact HI1190.out | apply IsS130.alloc | apply IsS130.drewN | apply IsS130.drew | apply IsS130.set_1 | apply IsS130.set_2) | exact HI1190.out)) hb); have n3_ := Aside0.mk (below_step (by repeat (first | (with_reducible first | exact HB.out | apply below_alloc | apply pw_below_drewN | apply below_drew1 | refine below_set ?_ (IsS130.ge HI1190.out)) | exact HB.out)) hb); clear HO_5; clear HI1190; clear HB; have HO_5 := n0_; have HO1210 := n1_; have HI1190 := n2_; have HB := n3_; clear n0_ n1_ n2_ n3_; clear hb ho30; obtain ⟨Ao32, co32, eo32⟩ := Kd.R_slice HO_5.out; subst eo32) | ((with_reducible refine gate_builtin (b := .append) (xs := #[.tmp 24, .tmp 25]) rfl ?_); at_builtin; refine Kd.R_append_rows k70 (w0 := w) w.heap.size rfl (.tmp 24) (.tmp 25) 28 70 (.agg #[(.int .i64 0), (.int .i64 0), (.int .i64 0), (.int .i64 0), (.int .i64 0), (.int .i64 0)]) 48 rfl Tryd.underlying28 info70 rfl (by decide) (by omega) v1209 y1208 t1191 _ _ _ (fun k_ => some k_ ≠ (.slice Ao32 t1191.length co32 : Value).ownBlock) (fun _ => False) rfl rfl ?aO ?aR (fun _ _ h => h) (fun _ h => h.elim) ?aF ?aB ?aS ?aL ?_; (case aR => repeat (first | exact (Kd.R_reads' HO_5.out).2.2 | (with_reducible refine Kd.C_alloc ?_ _) | (with_reducible refine Kd.C_drewN ?_ _) | (with_reducible refine Kd.C_drew ?_))); (case aB => exact (by repeat (first | (with_reducible first | exact HB.out | apply below_alloc | apply pw_below_drewN | apply below_drew1 | refine below_set ?_ (IsS130.ge HI1190.out)) | exact HB.out))); (case aF => exact (fun k_ hk => Kd.fresh' (Kd.R_lt (ra_ HO_5.out)) k_ hk)); (case aO => exact (by (with_reducible repeat (first | apply Kd.R_alloc | apply Kd.R_drewN | apply Kd.R_drew)); exact Kd.R_mono HO1210.out (fun _ hk => hk.2))); (case aS => exact (below_size (by repeat (first | (with_reducible first | exact HB.out | apply below_alloc | apply pw_below_drewN | apply below_drew1 | refine below_set ?_ (IsS130.ge HI1190.out)) | exact HB.out)))); (case aL => have := LMc24.out; omega); intro v1212 w31 ho hb hg hat; rw [← Ny1211.out] at ho; have n0_ := Aside0.mk (Kd.R_after (ok := (fun _ => True)) (ra_ HO_5.out) hg hat); have n1_ := Aside0.mk (IsS130.grown (by repeat (first | (with_reducible first | exact HI1190.out | apply IsS130.alloc | apply IsS130.drewN | apply IsS130.drew | apply IsS130.set_1 | apply IsS130.set_2) | exact HI1190.out)) hg (IsS130.own_ne HI1190.out HO1210.out (by decide))); have n2_ := Aside0.mk (hb); have n3_ := Aside0.mk (ho); clear HO_5; clear HI1190; clear HB; clear HO1210; have HO_5 := n0_; have HI1190 := n1_; have HB := n2_; have HO1213 := n3_; clear n0_ n1_ n2_ n3_; clear ho hb hg hat; obtain ⟨Ao33, co33, eo33⟩ := Kd.R_slice HO1213.out; subst eo33) | ((with_reducible refine gate_callee (f := 105) rfl ?_); refine goesL_ (some 31) rfl rfl Tryd.func105 (by kernel_rfl) rfl #[.pointer (some ⟨g1190, 0, none⟩), .int .i64 (y1211.length : Int)] rfl lm_ ?_; (with_reducible refine (spec_l01Below.calls g1190 t1187 x1191001_13 x1191002_13 (y1211.length : Int) t1214 t1215 t1216 w _ ?side1 ?side2 A25.out).mono ?_); (case side1 => repeat (first | (with_reducible first | exact HI1190.out | apply IsS130.alloc | apply IsS130.drewN | apply IsS130.drew | apply IsS130.set_1 | apply IsS130.set_2) | exact HI1190.out)); (case side2 => repeat (first | (with_reducible first | exact HB.out | apply below_alloc | apply pw_below_drewN | apply below_drew1 | refine below_set ?_ (IsS130.ge HI1190.out)) | exact HB.out)); rintro e w34 ⟨rfl, hi, hb, hk⟩; refine ⟨_, rfl, ?_⟩; have n0_ := Aside0.mk (Kd.R_mono (Kd.R_keep (IsS130.apart (show IsS130 w _ g1190 t1187 x1191001_13 x1191002_13 from by repeat (first | (with_reducible first | exact HI1190.out | apply IsS130.alloc | apply IsS130.drewN | apply IsS130.drew | apply IsS130.set_1 | apply IsS130.set_2) | exact HI1190.out)) (ra_ HO_5.out) (by decide)) hk (fun _ h => h.2)) (fun _ h => h.1)); have n1_ := Aside0.mk (Kd.R_mono (Kd.R_keep (IsS130.apart (show IsS130 w _ g1190 t1187 x1191001_13 x1191002_13 from by repeat (first | (with_reducible first | exact HI1190.out | apply IsS130.alloc | apply IsS130.drewN | apply IsS130.drew | apply IsS130.set_1 | apply IsS130.set_2) | exact HI1190.out)) (ra_ HO1213.out) (by decide)) hk (fun _ h => h.2)) (fun _ h => h.1)); have n2_ := Aside0.mk (hb); have n3_ := Aside0.mk (hi); clear HO_5; clear HO1213; clear HB; clear HI1190; have HO_5 := n0_; have HO1213 := n1_; have HB := n2_; have HI1190 := n3_; clear n0_ n1_ n2_ n3_; (try clear hb); (try clear hb2); (try clear hk); (try clear hi); have p28 : 0 ≤ (t1214 : Int) := of_decide_eq_true as_; have q28 : (t1214 : Int) < ((y1211.length : Int) : Int) := of_decide_eq_true as_; obtain ⟨go28, co28, eo28, gb28, gl28, cl28, HG28⟩ := Kd.R_form HO1213.out (by omega); (first | cases eo28 | (injection eo28 with ea_ en_ ec_; (first | subst ea_ | (injection ea_ with ea_; subst ea_)); subst ec_; clear en_)); have GB28 := Aside0.mk gb28; have GG28 := Aside0.mk HG28; clear gb28 gl28 HG28; obtain ⟨ce28, hcl28, hM28, hcc28, hfr28⟩ := Kd.R_elem HO1213.out z70 (t1214 : Int) p28 q28; obtain rfl := k70_openM hM28; have hx28_0 : w34.cell? ⟨go28, (t1214 : Int).toNat * 6, none⟩ = some (.int .i64 ((rd_T70 y1211 t1214).f0)) := hcc28 0 _ rfl; have hx28_1 : w34.cell? ⟨go28, (t1214 : Int).toNat * 6 + 1, none⟩ = some (.int .i64 ((rd_T70 y1211 t1214).f1)) := hcc28 1 _ rfl; have hx28_2 : w34.cell? ⟨go28, (t1214 : Int).toNat * 6 + 2, none⟩ = some (.int .i64 ((rd_T70 y1211 t1214).f2.f0)) := hcc28 2 _ rfl; have hx28_3 : w34.cell? ⟨go28, (t1214 : Int).toNat * 6 + 3, none⟩ = some (.int .i64 ((rd_T70 y1211 t1214).f2.f1)) := hcc28 3 _ rfl; have hx28_4 : w34.cell? ⟨go28, (t1214 : Int).toNat * 6 + 4, none⟩ = some (.int .i64 ((rd_T70 y1211 t1214).f2.f2)) := hcc28 4 _ rfl; have hx28_5 : w34.cell? ⟨go28, (t1214 : Int).toNat * 6 + 5, none⟩ = some (.int .i64 ((rd_T70 y1211 t1214).f2.f3)) := hcc28 5 _ rfl; have hf28_0 : w34.frozen? ⟨go28, (t1214 : Int).toNat * 6, none⟩ = false := hfr28 0; have hf28_1 : w34.frozen? ⟨go28, (t1214 : Int).toNat * 6 + 1, none⟩ = false := hfr28 1; have hf28_2 : w34.frozen? ⟨go28, (t1214 : Int).toNat * 6 + 2, none⟩ = false := hfr28 2; have hf28_3 : w34.frozen? ⟨go28, (t1214 : Int).toNat * 6 + 3, none⟩ = false := hfr28 3; have hf28_4 : w34.frozen? ⟨go28, (t1214 : Int).toNat * 6 + 4, none⟩ = false := hfr28 4; have hf28_5 : w34.frozen? ⟨go28, (t1214 : Int).toNat * 6 + 5, none⟩ = false := hfr28 5; clear hcl28 hcc28 hfr28 hM28; replace p28 := eq_true p28; replace q28 := eq_true q28; have HX35 := Aside0.mk (show Kd.R k70 70 w34 w.heap.size (fun k_ => some k_ ≠ (.slice Ao32 t1191.length co32 : Value).ownBlock) (.slice (some ⟨go28, 0, none⟩) y1211.length co33) y1211 from (ra_ HO1213.out)); obtain ⟨ce35, hcl35, hM35, hcc35, hfr35⟩ := Kd.R_elem HX35.out z70 (t1214 : Int) (of_decide_eq_true as_) (by have h_ : (t1214 : Int) < ((y1211.length : Int) : Int) := of_decide_eq_true as_; first | exact h_ | (have e_ := (Kd.R_reads' HO1213.out).1; omega) | simpa using h_); obtain rfl := k70_openM hM35; have HP35 := Kd.R_seg HX35.out (t1214 : Int) (of_decide_eq_true as_) (by have h_ : (t1214 : Int) < ((y1211.length : Int) : Int) := of_decide_eq_true as_; first | exact h_ | (have e_ := (Kd.R_reads' HO1213.out).1; omega) | simpa using h_) (seg := [.int .i64 7]) (j := 1) hcl35 hcc35 (show 2 ≤ 6 from by decide) (x' := (⟨(rd_T70 y1211 t1214).f0, 7, (⟨(rd_T70 y1211 t1214).f2.f0, (rd_T70 y1211 t1214).f2.f1, (rd_T70 y1211 t1214).f2.f2, (rd_T70 y1211 t1214).f2.f3⟩ : S68)⟩ : S70)) (k70_mkM _ _ _ (⟨(rd_T70 y1211 t1214).f0, 7, (⟨(rd_T70 y1211 t1214).f2.f0, (rd_T70 y1211 t1214).f2.f1, (rd_T70 y1211 t1214).f2.f2, (rd_T70 y1211 t1214).f2.f3⟩ : S68)⟩ : S70) ) (fun _ hk => hk); have hx35_1 := hcc35 1 _ rfl; (try simp only [show (k70).sz = 6 from rfl, Nat.mul_one, Nat.add_zero] at hx35_1); have hf35_1 := hfr35 1; (try simp only [show (k70).sz = 6 from rfl, Nat.mul_one, Nat.add_zero] at hf35_1); clear hcl35 hcc35 hfr35 hM35) | ((with_reducible refine gate_store (t := 3) (p := 33) rfl ?_); refine store_event (t := 3) (p := 33) (v := ?vo_w36) (w1 := (w34.setCell ⟨go28, (t1214 : Int).toNat * 6 + 1, none⟩ (.int .i64 7))) ?hg ?ho ?hn ?hr ?_; (case ho => rfl); (case hg => rfl); (case hn => rfl); (case hr => first | (go_simp; done) | (go_simp; rfl)); intro w36 hw; have hg : w34.grownBy w36 (some go28) := (by rw [hw]; exact HP35.2); have hp_ : Kd.R k70 70 w36 w.heap.size (fun k_ => some k_ ≠ (.slice Ao32 t1191.length co32 : Value).ownBlock) (.slice (some ⟨go28, 0, none⟩) y1211.length co33) y1217 := (by rw [hw, Ny1217.out]; exact HP35.1); clear HP35; have n0_ := Aside0.mk (Kd.R_after (v := (.slice (some ⟨go28, 0, none⟩) y1211.length co33)) (v1 := (.slice (some ⟨go28, 0, none⟩) y1211.length co33)) (ok := (fun _ => True)) (ra_ HO_5.out) hg (.inl rfl)); have n1_ := Aside0.mk (IsS130.grown (by repeat (first | (with_reducible first | exact HI1190.out | apply IsS130.alloc | apply IsS130.drewN | apply IsS130.drew | apply IsS130.set_1 | apply IsS130.set_2) | exact HI1190.out)) hg (IsS130.own_ne HI1190.out HO1213.out (by decide))); have n2_ := Aside0.mk (hp_); have n3_ := Aside0.mk ((by rw [hw]; exact below_set (HB.out) GB28.out : Below w.heap.size w w36)); clear HO_5; clear HI1190; clear HO1213; clear HB; have HO_5 := n0_; have HI1190 := n1_; have HO1213 := n2_; have HB := n3_; clear n0_ n1_ n2_ n3_; clear hg hw hp_))
        go_ret2
        exact ⟨_, _, by first | rfl | (simp [errW_none, errW_some] <;> rfl) | (simp [*, errW_none, errW_some] <;> rfl), by (with_reducible repeat (first | apply Kd.R_alloc | apply Kd.R_drewN | apply Kd.R_drew)); exact Kd.R_mono HO_5.out (fun _ hk => hk.2), ra_ HO1213.out, by repeat (first | (with_reducible first | exact HB.out | apply below_alloc | apply pw_below_drewN | apply below_drew1 | refine below_set ?_ (IsS130.ge HI1190.out)) | exact HB.out)⟩
       ·rw [if_neg c27] at H
        exact absurd H (by simp)
      ·rw [if_neg c26] at H
       exact absurd H (by simp)
     ·rw [if_neg c24] at H
      exact absurd H (by simp)
    ·replace c23 := Bool.eq_false_iff.mpr c23
     subst c23
     have H1 : ((spec_l19Any.f kj13 t1187 x1191001_13 x1191002_13).bind fun bt1218 => (some (t1191, bt1218.1))) = some (r1, r2) := by rw [if_neg (show ¬ (false = true) by decide)] at H; exact H
     clear H
     have H := H1
     clear H1
     replace H := Option.bind_eq_some_iff.mp H
     obtain ⟨⟨t1218, t1221, t1222⟩, A370, H⟩ := H
     replace H : (some (t1191, t1218)) = some (r1, r2) := H
     have A37 := Aside0.mk A370
     clear A370
     simp only [Option.some.injEq, Prod.mk.injEq] at H
     obtain ⟨rfl, rfl⟩ := H
     go_wp2_with (first | ((with_reducible refine gate_callee (f := 107) rfl ?_); refine goesL_ (some 38) rfl rfl Tryd.func107 (by kernel_rfl) rfl #[.pointer (some ⟨g1190, 0, none⟩)] rfl lm_ ?_; (with_reducible refine (spec_l19Any.calls kj13 g1190 t1187 x1191001_13 x1191002_13 t1218 t1221 t1222 w _ ?side1 ?side2 A37.out).mono ?_); (case side1 => repeat (first | (with_reducible first | exact HI1190.out | apply IsS130.alloc | apply IsS130.drewN | apply IsS130.drew | apply IsS130.set_1 | apply IsS130.set_2) | exact HI1190.out)); (case side2 => repeat (first | (with_reducible first | exact HB.out | apply below_alloc | apply pw_below_drewN | apply below_drew1 | refine below_set ?_ (IsS130.ge HI1190.out)) | exact HB.out)); rintro e w38 ⟨v1219, rfl, ho0, hi, hb, hk⟩; refine ⟨_, rfl, ?_⟩; have n0_ := Aside0.mk (Kd.R_mono (Kd.R_told (Kd.R_oldK (IsS130.apart (show IsS130 w _ g1190 t1187 x1191001_13 x1191002_13 from by repeat (first | (with_reducible first | exact HI1190.out | apply IsS130.alloc | apply IsS130.drewN | apply IsS130.drew | apply IsS130.set_1 | apply IsS130.set_2) | exact HI1190.out)) (ra_ HO_5.out) (by decide)) hk) (Kd.R_base ho0)) (fun _ h_ => h_.1)); have n1_ := Aside0.mk (Kd.R_lower (Kd.R_new' ho0 (Kd.R_lt (ra_ HO_5.out))) (below_size (by repeat (first | (with_reducible first | exact HB.out | apply below_alloc | apply pw_below_drewN | apply below_drew1 | refine below_set ?_ (IsS130.ge HI1190.out)) | exact HB.out)))); have n2_ := Aside0.mk (hb); have n3_ := Aside0.mk (hi); clear HO_5; clear HB; clear HI1190; have HO_5 := n0_; have HO1220 := n1_; have HB := n2_; have HI1190 := n3_; clear n0_ n1_ n2_ n3_; (try clear hb); (try clear hb2); (try clear hk); (try clear hi); (try clear ho0)))
     go_ret2
     exact ⟨_, _, by first | rfl | (simp [errW_none, errW_some] <;> rfl) | (simp [*, errW_none, errW_some] <;> rfl), by (with_reducible repeat (first | apply Kd.R_alloc | apply Kd.R_drewN | apply Kd.R_drew)); exact Kd.R_mono HO_5.out (fun _ hk => hk.2), by (with_reducible repeat (first | apply Kd.R_alloc | apply Kd.R_drewN | apply Kd.R_drew)); exact Kd.R_mono HO1220.out (fun _ hk => hk.2), by repeat (first | (with_reducible first | exact HB.out | apply below_alloc | apply pw_below_drewN | apply below_drew1 | refine below_set ?_ (IsS130.ge HI1190.out)) | exact HB.out)⟩


/-! ### impl_chained: function 109 -/
def impl_chained.l0 : Nat → List ByteArray → ByteArray → List (S70) → Int → Int → Option (List ByteArray)
 | 0, _, _, _, _, _ => none
 | k + 1, x3, x4, x10, x11, x12 => if x12 < x11 then (if 0 ≤ x12 then (if x12 < (x10.length : Int) then ((impl_EntryText.f k ((rd_T70 x10 x12).f0) ((rd_T70 x10 x12).f1) ((rd_T70 x10 x12).f2.f0) ((rd_T70 x10 x12).f2.f1) ((rd_T70 x10 x12).f2.f2) ((rd_T70 x10 x12).f2.f3)).bind fun t1229 => (if x4.size + t1229.size ≤ 9223372036854775807 then (if x3.length < 8796093022208 then ((impl_Digest.f k (x4 ++ t1229)).bind fun t1233 => (impl_chained.l0 k (x3 ++ [x4 ++ t1229]) t1233 x10 x11 (wrap64 (x12 + 1)))) else (none)) else (none))) else (none)) else (none)) else (some x3)
def impl_chained.f (k : Nat) (l0 : List (S70)) : Option (List ByteArray) := (impl_Digest.f k (⟨#[]⟩ : ByteArray)).bind fun t1226 => (impl_chained.l0 k (([] : List ByteArray)) t1226 l0 (l0.length : Int) 0)
theorem impl_chained.mono_l : ∀ k, (∀ y0 y1 y2 y3 y4, LeO (impl_chained.l0 k y0 y1 y2 y3 y4) (impl_chained.l0 (k + 1) y0 y1 y2 y3 y4))
 | 0 => fun _ _ _ _ _ r h => by simp [impl_chained.l0] at h
 | k + 1 => by
  have ih0 := impl_chained.mono_l k
  ·intro y0 y1 y2 y3 y4
   unfold impl_chained.l0
   repeat' first
   | (with_reducible exact ih0 _ _ _ _ _)
   | (with_reducible exact impl_Digest.mono _ _)
   | (with_reducible exact impl_EntryText.mono _ _ _ _ _ _ _)
   | (with_reducible exact LeO.refl _)
   | (with_reducible exact LeO.none _)
   | (with_reducible refine LeO.ite ?_ ?_)
   | (with_reducible refine LeO.bind ?_ (fun _ => ?_))
   | exact ih0 _ _ _ _ _
   | exact impl_Digest.mono _ _
   | exact impl_EntryText.mono _ _ _ _ _ _ _
   | exact LeO.none _
   | refine LeO.ite ?_ ?_
   | refine LeO.bind ?_ (fun _ => ?_)
theorem impl_chained.mono : ∀ a0 k, LeO (impl_chained.f k a0) (impl_chained.f (k + 1) a0) := by
 intro a0 k
 have ih0 := impl_chained.mono_l k
 unfold impl_chained.f
 repeat' first
  | (with_reducible exact ih0 _ _ _ _ _)
  | (with_reducible exact impl_Digest.mono _ _)
  | (with_reducible exact impl_EntryText.mono _ _ _ _ _ _ _)
  | (with_reducible exact LeO.refl _)
  | (with_reducible exact LeO.none _)
  | (with_reducible refine LeO.ite ?_ ?_)
  | (with_reducible refine LeO.bind ?_ (fun _ => ?_))
  | exact ih0 _ _ _ _ _
  | exact impl_Digest.mono _ _
  | exact impl_EntryText.mono _ _ _ _ _ _ _
  | exact LeO.none _
  | refine LeO.ite ?_ ?_
  | refine LeO.bind ?_ (fun _ => ?_)
set_option maxHeartbeats 8000000 in
set_option maxRecDepth 100000 in
theorem impl_chained.calls (k : Nat) (A0 : Option Addr) (c0 : Nat) (l0 : List (S70)) (r : List ByteArray) (w : World) (hr0 : Kd.C k70 w A0 l0.length l0) (hc0 : l0.length ≤ c0) (hT : Tab w) (h : impl_chained.f k l0 = some r) :
 Calls Tryd.prog 109 #[.slice A0 l0.length c0] w fun e w' => ∃ v0_ : Value, e = .returned (v0_) ∧ Kd.R Kd.string 9 w' w.heap.size (fun _ => True) v0_ r ∧ Below w.heap.size w w' := by
 have hu70 := Tryd.underlying70
 have HR0 := Aside0.mk hr0
 have HC0 := Aside0.mk hc0
 clear hr0 hc0
 have HT := Aside0.mk hT
 clear hT
 have HB := Aside0.mk (Below.refl w.heap.size w)
 have H : ((impl_Digest.f k (⟨#[]⟩ : ByteArray)).bind fun t1226 => (impl_chained.l0 k (([] : List ByteArray)) t1226 l0 (l0.length : Int) 0)) = some r := h
 clear h
 obtain ⟨y1223, hy1223⟩ : ∃ y_ : List ByteArray, y_ = (([] : List ByteArray)) := ⟨_, rfl⟩
 replace H : ((impl_Digest.f k (⟨#[]⟩ : ByteArray)).bind fun t1226 => (impl_chained.l0 k y1223 t1226 l0 (l0.length : Int) 0)) = some r := by first | (rw [hy1223]; with_reducible exact H) | (have H2_ := (Option.bind_some _ _).symm.trans H; rw [hy1223]; with_reducible exact H2_) | (have H2_ := (Option.bind_some _ _).symm.trans H; with_reducible exact H2_) | with_reducible exact H | (rw [hy1223]; exact H) | exact H
 have Ny1223 := Aside0.mk hy1223
 clear hy1223
 replace H := Option.bind_eq_some_iff.mp H
 obtain ⟨t1226, A20, H⟩ := H
 replace H : (impl_chained.l0 k y1223 t1226 l0 (l0.length : Int) 0) = some r := H
 have A2 := Aside0.mk A20
 clear A20
 have H' := Aside0.mk H
 clear H
 go_enter Tryd.func109, Tryd.ntmps109
 go_wp2_with (first | ((with_reducible refine gate_dst (N := 8) rfl ?_); refine Kd.R_lit Kd.string _ 9 ?hg (N := 8) ?hd (xs := ([] : List ByteArray)) (inner := []) (ok := fun _ => True) (okp := fun _ => True) ?hr ?hp (fun _ hk => hk) trivial (Below.refl _ _) (Nat.le_refl _) (by simp) ?_; (case hd => rfl); (case hg => rfl); (case hr => first | (go_simp; done) | (go_simp; rfl)); (case hp => exact (Reps.none _ _)); intro v1224 w3 ho4 hb hg_ hnew_; clear hg_ hnew_; (first | rw [← Ny1223.out] at ho4 | (simp only [Int.reduceToNat] at ho4; rw [← Ny1223.out] at ho4)); have n0_ := Aside0.mk (Kd.R_lower ho4 (below_size bl_)); have n1_ := Aside0.mk (below_step bl_ hb); clear HB; have HO1225 := n0_; have HB := n1_; clear n0_ n1_; clear hb ho4) | ((with_reducible refine gate_callee (f := 86) rfl ?_); refine goesL_ (some 9) rfl rfl Tryd.func86 (by kernel_rfl) rfl #[.string (⟨#[]⟩ : ByteArray)] rfl lm_ ?_; (with_reducible refine (impl_Digest.calls k (⟨#[]⟩ : ByteArray) t1226 _ ?side1 A2.out).mono ?_); (case side1 => exact tab_of HT.out bl_); rintro e w5 ⟨rfl, hb⟩; refine ⟨_, rfl, ?_⟩; have n0_ := Aside0.mk (Kd.R_below (ra_ HO1225.out) hb); have n1_ := Aside0.mk (below_step bl_ hb); clear HO1225; clear HB; have HO1225 := n0_; have HB := n1_; clear n0_ n1_; (try clear hb); (try clear hb2); (try clear hk); (try clear hi)))
 go_loopg [3, 4, 12] k (fun kq v3 v4 v12 w' => ∃ (x3_1 : List ByteArray) (x4_1 : ByteArray) (x12_1 : Int), v4 = .string x4_1 ∧ v12 = .int .i64 x12_1 ∧ Aside0 (impl_chained.l0 kq x3_1 x4_1 l0 (l0.length : Int) x12_1 = some r) ∧ Aside0 (kq ≤ k) ∧ Aside0 (Kd.R Kd.string 9 w' w.heap.size (fun _ => True) v3 x3_1) ∧ Aside0 (Below w.heap.size w w'))
 case atStart => exact ⟨(y1223), (t1226), (0), (by first | rfl | (simp; done) | (simp [*]; done)), (by first | rfl | (simp; done) | (simp [*]; done)), H', ⟨Nat.le_refl _⟩, ⟨ra_ HO1225.out⟩, ⟨bl_⟩⟩
 case round =>
  clear H'
  try clear c1
  try clear p2
  obtain ⟨x3_1, x4_1, x12_1, rfl, rfl, HA, HK1, HO_3, HB⟩ := hrel
  cases gk with
  | zero => exact absurd HA.out (by simp [impl_chained.l0])
  | succ k1 =>
   have H := HA.out
   clear HA
   simp only [impl_chained.l0] at H
   by_cases c6 : x12_1 < (l0.length : Int)
   ·rw [if_pos c6] at H
    have c6b0 : decide (x12_1 < (l0.length : Int)) = true := decide_eq_true c6
    clear c6
    by_cases c7 : 0 ≤ x12_1
    ·rw [if_pos c7] at H
     have c7b0 : decide (0 ≤ x12_1) = true := decide_eq_true c7
     clear c7
     by_cases c8 : x12_1 < (l0.length : Int)
     ·rw [if_pos c8] at H
      have c8b0 : decide (x12_1 < (l0.length : Int)) = true := decide_eq_true c8
      clear c8
      replace H := Option.bind_eq_some_iff.mp H
      obtain ⟨t1229, A90, H⟩ := H
      replace H : (if x4_1.size + t1229.size ≤ 9223372036854775807 then (if x3_1.length < 8796093022208 then ((impl_Digest.f k1 (x4_1 ++ t1229)).bind fun t1233 => (impl_chained.l0 k1 (x3_1 ++ [x4_1 ++ t1229]) t1233 l0 (l0.length : Int) (wrap64 (x12_1 + 1)))) else (none)) else (none)) = some r := H
      have A9 := Aside0.mk A90
      clear A90
      by_cases c10 : x4_1.size + t1229.size ≤ 9223372036854775807
      ·rw [if_pos c10] at H
       have c10b0 := eq_true c10
       have c10b1 : decide (x4_1.size + t1229.size ≤ 9223372036854775807) = true := decide_eq_true c10
       try have c10b2 : (9223372036854775807 < x4_1.size + t1229.size) = False := eq_false (Nat.not_lt.2 c10)
       by_cases c11 : x3_1.length < 8796093022208
       ·rw [if_pos c11] at H
        have LMc11 := Aside0.mk c11
        clear c11
        obtain ⟨y1230, hy1230⟩ : ∃ y_ : List ByteArray, y_ = (x3_1 ++ [x4_1 ++ t1229]) := ⟨_, rfl⟩
        replace H : ((impl_Digest.f k1 (x4_1 ++ t1229)).bind fun t1233 => (impl_chained.l0 k1 y1230 t1233 l0 (l0.length : Int) (wrap64 (x12_1 + 1)))) = some r := by first | (rw [hy1230]; with_reducible exact H) | (have H2_ := (Option.bind_some _ _).symm.trans H; rw [hy1230]; with_reducible exact H2_) | (have H2_ := (Option.bind_some _ _).symm.trans H; with_reducible exact H2_) | with_reducible exact H | (rw [hy1230]; exact H) | exact H
        have Ny1230 := Aside0.mk hy1230
        clear hy1230
        replace H := Option.bind_eq_some_iff.mp H
        obtain ⟨t1233, A120, H⟩ := H
        replace H : (impl_chained.l0 k1 y1230 t1233 l0 (l0.length : Int) (wrap64 (x12_1 + 1))) = some r := H
        have A12 := Aside0.mk A120
        clear A120
        have H' := Aside0.mk H
        clear H
        have p1227 : 0 ≤ (x12_1 : Int) := of_decide_eq_true as_
        have q1227 : x12_1 < (l0.length : Int) := of_decide_eq_true as_
        obtain ⟨ad1227, e1227, hx1227_0, hx1227_1, hx1227_2, hx1227_3, hx1227_4, hx1227_5⟩ := at_T70 HR0.out x12_1 p1227 q1227
        cases e1227
        replace hx1227_0 := (HB.out.cell (World.block_lt_of_cell? w _ hx1227_0)).trans hx1227_0
        replace hx1227_1 := (HB.out.cell (World.block_lt_of_cell? w _ hx1227_1)).trans hx1227_1
        replace hx1227_2 := (HB.out.cell (World.block_lt_of_cell? w _ hx1227_2)).trans hx1227_2
        replace hx1227_3 := (HB.out.cell (World.block_lt_of_cell? w _ hx1227_3)).trans hx1227_3
        replace hx1227_4 := (HB.out.cell (World.block_lt_of_cell? w _ hx1227_4)).trans hx1227_4
        replace hx1227_5 := (HB.out.cell (World.block_lt_of_cell? w _ hx1227_5)).trans hx1227_5
        replace p1227 := eq_true p1227
        replace q1227 := eq_true q1227
        go_wp2_with (first | ((with_reducible refine gate_dst (N := 6) rfl ?_); refine box_event ?hg (N := 6) ?hd (cs := #[.int .i64 0, .int .i64 0, .int .i64 0, .int .i64 0, .int .i64 0, .int .i64 0]) (t := 70) ?hr ?_; (case hd => rfl); (case hg => rfl); (case hr => first | (go_simp; done) | (go_simp; rfl)); intro gb1228 hg w13 hbox hb; have n0_ := Aside0.mk (Kd.R_below (ra_ HO_3.out) hb); have n1_ := Aside0.mk (below_step bl_ hb); have n2_ := Aside0.mk (hbox); have n3_ := Aside0.mk ((hz_ : w.heap.size ≤ gb1228)); have n4_ := Aside0.mk ((hz_ : w.heap.size ≤ gb1228)); clear HO_3; clear HB; have HO_3 := n0_; have HB := n1_; have BK1228 := n2_; have GW1228 := n3_; have GE1228 := n4_; clear n0_ n1_ n2_ n3_ n4_; clear hb hbox hg; have hcz14_0 : w13.cell? ⟨gb1228, 0, none⟩ = some (.int .i64 0) := (blk_cell BK1228.out 0).trans rfl; have hcz14_1 : w13.cell? ⟨gb1228, 1, none⟩ = some (.int .i64 0) := (blk_cell BK1228.out 1).trans rfl; have hcz14_2 : w13.cell? ⟨gb1228, 2, none⟩ = some (.int .i64 0) := (blk_cell BK1228.out 2).trans rfl; have hcz14_3 : w13.cell? ⟨gb1228, 3, none⟩ = some (.int .i64 0) := (blk_cell BK1228.out 3).trans rfl; have hcz14_4 : w13.cell? ⟨gb1228, 4, none⟩ = some (.int .i64 0) := (blk_cell BK1228.out 4).trans rfl; have hcz14_5 : w13.cell? ⟨gb1228, 5, none⟩ = some (.int .i64 0) := (blk_cell BK1228.out 5).trans rfl; have hfz14_0 := blk_frozen BK1228.out 0; have hfz14_1 := blk_frozen BK1228.out 1; have hfz14_2 := blk_frozen BK1228.out 2; have hfz14_3 := blk_frozen BK1228.out 3; have hfz14_4 := blk_frozen BK1228.out 4; have hfz14_5 := blk_frozen BK1228.out 5) | ((with_reducible refine gate_callee (f := 73) rfl ?_); refine goesL_ (some 18) rfl rfl Tryd.func73 (by kernel_rfl) rfl #[.agg #[.int .i64 ((rd_T70 l0 x12_1).f0), .int .i64 ((rd_T70 l0 x12_1).f1), .int .i64 ((rd_T70 l0 x12_1).f2.f0), .int .i64 ((rd_T70 l0 x12_1).f2.f1), .int .i64 ((rd_T70 l0 x12_1).f2.f2), .int .i64 ((rd_T70 l0 x12_1).f2.f3)]] rfl lm_ ?_; (with_reducible refine (impl_EntryText.calls k1 ((rd_T70 l0 x12_1).f0) ((rd_T70 l0 x12_1).f1) ((rd_T70 l0 x12_1).f2.f0) ((rd_T70 l0 x12_1).f2.f1) ((rd_T70 l0 x12_1).f2.f2) ((rd_T70 l0 x12_1).f2.f3) t1229 _ A9.out).mono ?_); rintro e w15 ⟨rfl, hb⟩; refine ⟨_, rfl, ?_⟩; have n0_ := Aside0.mk (Kd.R_below (by (with_reducible repeat (first | apply Kd.R_alloc | apply Kd.R_drewN | apply Kd.R_drew)); exact (Kd.R_mono (Kd.R_far (p := ⟨gb1228, 5, none⟩) (Kd.R_far (p := ⟨gb1228, 4, none⟩) (Kd.R_far (p := ⟨gb1228, 3, none⟩) (Kd.R_far (p := ⟨gb1228, 2, none⟩) (Kd.R_far (p := ⟨gb1228, 1, none⟩) (Kd.R_far (p := ⟨gb1228, 0, none⟩) (Kd.R_types HO_3.out BK1228.out (by decide)) (fun _ hk => hk.2) (.int .i64 ((rd_T70 l0 x12_1).f0))) (fun _ hk => hk.2) (.int .i64 ((rd_T70 l0 x12_1).f1))) (fun _ hk => hk.2) (.int .i64 ((rd_T70 l0 x12_1).f2.f0))) (fun _ hk => hk.2) (.int .i64 ((rd_T70 l0 x12_1).f2.f1))) (fun _ hk => hk.2) (.int .i64 ((rd_T70 l0 x12_1).f2.f2))) (fun _ hk => hk.2) (.int .i64 ((rd_T70 l0 x12_1).f2.f3))) (fun _ h_ => h_.1))) hb); have n1_ := Aside0.mk (blk_below (g := gb1228) (o := .cells #[.int .i64 ((rd_T70 l0 x12_1).f0), .int .i64 ((rd_T70 l0 x12_1).f1), .int .i64 ((rd_T70 l0 x12_1).f2.f0), .int .i64 ((rd_T70 l0 x12_1).f2.f1), .int .i64 ((rd_T70 l0 x12_1).f2.f2), .int .i64 ((rd_T70 l0 x12_1).f2.f3)] 70 (0, 0)) (by (with_reducible repeat (first | refine blk_drewN ?_ _ | refine blk_drew ?_ | refine blk_alloc ?_ _)); refine blk_put (cs := #[.int .i64 ((rd_T70 l0 x12_1).f0), .int .i64 ((rd_T70 l0 x12_1).f1), .int .i64 ((rd_T70 l0 x12_1).f2.f0), .int .i64 ((rd_T70 l0 x12_1).f2.f1), .int .i64 ((rd_T70 l0 x12_1).f2.f2), .int .i64 0]) ?_ 5 _ rfl; (with_reducible repeat (first | refine blk_drewN ?_ _ | refine blk_drew ?_ | refine blk_alloc ?_ _)); refine blk_put (cs := #[.int .i64 ((rd_T70 l0 x12_1).f0), .int .i64 ((rd_T70 l0 x12_1).f1), .int .i64 ((rd_T70 l0 x12_1).f2.f0), .int .i64 ((rd_T70 l0 x12_1).f2.f1), .int .i64 0, .int .i64 0]) ?_ 4 _ rfl; (with_reducible repeat (first | refine blk_drewN ?_ _ | refine blk_drew ?_ | refine blk_alloc ?_ _)); refine blk_put (cs := #[.int .i64 ((rd_T70 l0 x12_1).f0), .int .i64 ((rd_T70 l0 x12_1).f1), .int .i64 ((rd_T70 l0 x12_1).f2.f0), .int .i64 0, .int .i64 0, .int .i64 0]) ?_ 3 _ rfl; (with_reducible repeat (first | refine blk_drewN ?_ _ | refine blk_drew ?_ | refine blk_alloc ?_ _)); refine blk_put (cs := #[.int .i64 ((rd_T70 l0 x12_1).f0), .int .i64 ((rd_T70 l0 x12_1).f1), .int .i64 0, .int .i64 0, .int .i64 0, .int .i64 0]) ?_ 2 _ rfl; (with_reducible repeat (first | refine blk_drewN ?_ _ | refine blk_drew ?_ | refine blk_alloc ?_ _)); refine blk_put (cs := #[.int .i64 ((rd_T70 l0 x12_1).f0), .int .i64 0, .int .i64 0, .int .i64 0, .int .i64 0, .int .i64 0]) ?_ 1 _ rfl; (with_reducible repeat (first | refine blk_drewN ?_ _ | refine blk_drew ?_ | refine blk_alloc ?_ _)); refine blk_put (cs := #[.int .i64 0, .int .i64 0, .int .i64 0, .int .i64 0, .int .i64 0, .int .i64 0]) ?_ 0 _ rfl; (with_reducible repeat (first | refine blk_drewN ?_ _ | refine blk_drew ?_ | refine blk_alloc ?_ _)); exact BK1228.out) hb); have n2_ := Aside0.mk (below_step bl_ hb); clear HO_3; clear BK1228; clear HB; have HO_3 := n0_; have BK1228 := n1_; have HB := n2_; clear n0_ n1_ n2_; (try clear hb); (try clear hb2); (try clear hk); (try clear hi)) | ((with_reducible refine gate_builtin (b := .append) (xs := #[.tmp 20, .tmp 22]) rfl ?_); at_builtin; refine Kd.R_append Kd.string (w0 := w) w.heap.size rfl (.tmp 20) (.tmp 22) 37 9 (.string ⟨#[]⟩) 16 rfl Tryd.underlying37 info9 rfl (by decide) (by omega) u3 x3_1 (x4_1 ++ t1229) [.string (x4_1 ++ t1229)] (fun _ => True) (fun _ => False) rfl rfl ?aP (fun _ hk => hk.elim) ?aF ?aO ?aB ?aS ?aL ?_; (case aP => exact rfl); (case aB => exact bl_); (case aF => exact (fun _ _ => trivial)); (case aO => exact (ra_ HO_3.out)); (case aS => exact (below_size bl_)); (case aL => have := LMc11.out; omega); intro v1231 w16 ho hb hg hat; rw [← Ny1230.out] at ho; have n0_ := Aside0.mk (blk_grown (g := gb1228) (o := .cells #[.int .i64 ((rd_T70 l0 x12_1).f0), .int .i64 ((rd_T70 l0 x12_1).f1), .int .i64 ((rd_T70 l0 x12_1).f2.f0), .int .i64 ((rd_T70 l0 x12_1).f2.f1), .int .i64 ((rd_T70 l0 x12_1).f2.f2), .int .i64 ((rd_T70 l0 x12_1).f2.f3)] 70 (0, 0)) (bk_ BK1228.out) hg (Kd.R_ne HO_3.out BK1228.out (by decide))); have n1_ := Aside0.mk (hb); have n2_ := Aside0.mk (ho); clear BK1228; clear HB; clear HO_3; have BK1228 := n0_; have HB := n1_; have HO1232 := n2_; clear n0_ n1_ n2_; clear ho hb hg hat) | ((with_reducible refine gate_callee (f := 86) rfl ?_); refine goesL_ (some 25) rfl rfl Tryd.func86 (by kernel_rfl) rfl #[.string (x4_1 ++ t1229)] rfl lm_ ?_; (with_reducible refine (impl_Digest.calls k1 (x4_1 ++ t1229) t1233 _ ?side1 A12.out).mono ?_); (case side1 => exact tab_of HT.out bl_); rintro e w17 ⟨rfl, hb⟩; refine ⟨_, rfl, ?_⟩; have n0_ := Aside0.mk (Kd.R_below (ra_ HO1232.out) hb); have n1_ := Aside0.mk (blk_below (g := gb1228) (o := .cells #[.int .i64 ((rd_T70 l0 x12_1).f0), .int .i64 ((rd_T70 l0 x12_1).f1), .int .i64 ((rd_T70 l0 x12_1).f2.f0), .int .i64 ((rd_T70 l0 x12_1).f2.f1), .int .i64 ((rd_T70 l0 x12_1).f2.f2), .int .i64 ((rd_T70 l0 x12_1).f2.f3)] 70 (0, 0)) (bk_ BK1228.out) hb); have n2_ := Aside0.mk (below_step bl_ hb); clear HO1232; clear BK1228; clear HB; have HO1232 := n0_; have BK1228 := n1_; have HB := n2_; clear n0_ n1_ n2_; (try clear hb); (try clear hb2); (try clear hk); (try clear hi)))
        go_roundg k1
        case measure => have := HK1.out; omega
        case rel => exact ⟨(y1230), (t1233), (wrap64 (x12_1 + 1)), (by first | rfl | (simp; done) | (simp [*]; done)), (by first | rfl | (simp; done) | (simp [*]; done)), H', ⟨by have := HK1.out; omega⟩, ⟨ra_ HO1232.out⟩, ⟨bl_⟩⟩
       ·rw [if_neg c11] at H
        exact absurd H (by simp)
      ·rw [if_neg c10] at H
       exact absurd H (by simp)
     ·rw [if_neg c8] at H
      exact absurd H (by simp)
    ·rw [if_neg c7] at H
     exact absurd H (by simp)
   ·rw [if_neg c6] at H
    have c6b0 : decide (x12_1 < (l0.length : Int)) = false := decide_eq_false c6
    clear c6
    obtain rfl := Option.some.inj H
    go_wp2
    go_ret
    exact ⟨_, by first | rfl | (simp [errW_none, errW_some] <;> rfl) | (simp [*, errW_none, errW_some] <;> rfl), ra_ HO_3.out, bl_⟩


/-! ### impl_Parted: function 63 -/
def impl_Parted.l0 : Nat → List ByteArray → List ByteArray → Int → Option (ByteArray × ByteArray × Bool)
 | 0, _, _, _ => none
 | k + 1, x7, x8, x9 => if x9 ≥ 0 then (if 0 ≤ x9 then (if x9 < (x7.length : Int) then (if x9 < (x8.length : Int) then (if (rdOf ByteArray.empty x7 x9).toList = (rdOf ByteArray.empty x8 x9).toList then (impl_Parted.l0 k x7 x8 (wrap64 (x9 - 1))) else ((impl_Digest.f k (rdOf ByteArray.empty x7 x9)).bind fun t1245 => ((impl_Digest.f k (rdOf ByteArray.empty x8 x9)).bind fun t1247 => (some (rdOf ByteArray.empty x7 x9, rdOf ByteArray.empty x8 x9, (t1245.toList == t1247.toList)))))) else (none)) else (none)) else (none)) else (some ((⟨#[]⟩ : ByteArray), (⟨#[]⟩ : ByteArray), false))
def impl_Parted.f (k : Nat) (l0 : List (S70)) (l1 : List (S70)) : Option (ByteArray × ByteArray × Bool) := if (l0.length : Int) = (l1.length : Int) then ((impl_chained.f k l0).bind fun t1234 => ((impl_chained.f k l1).bind fun t1237 => (impl_Parted.l0 k t1234 t1237 (wrap64 ((t1234.length : Int) - 1))))) else (some ((⟨#[]⟩ : ByteArray), (⟨#[]⟩ : ByteArray), false))
theorem impl_Parted.mono_l : ∀ k, (∀ y0 y1 y2, LeO (impl_Parted.l0 k y0 y1 y2) (impl_Parted.l0 (k + 1) y0 y1 y2))
 | 0 => fun _ _ _ r h => by simp [impl_Parted.l0] at h
 | k + 1 => by
  have ih0 := impl_Parted.mono_l k
  ·intro y0 y1 y2
   unfold impl_Parted.l0
   repeat' first
   | (with_reducible exact ih0 _ _ _)
   | (with_reducible exact impl_Digest.mono _ _)
   | (with_reducible exact impl_chained.mono _ _)
   | (with_reducible exact LeO.refl _)
   | (with_reducible exact LeO.none _)
   | (with_reducible refine LeO.ite ?_ ?_)
   | (with_reducible refine LeO.bind ?_ (fun _ => ?_))
   | exact ih0 _ _ _
   | exact impl_Digest.mono _ _
   | exact impl_chained.mono _ _
   | exact LeO.none _
   | refine LeO.ite ?_ ?_
   | refine LeO.bind ?_ (fun _ => ?_)
theorem impl_Parted.mono : ∀ a0 a1 k, LeO (impl_Parted.f k a0 a1) (impl_Parted.f (k + 1) a0 a1) := by
 intro a0 a1 k
 have ih0 := impl_Parted.mono_l k
 unfold impl_Parted.f
 repeat' first
  | (with_reducible exact ih0 _ _ _)
  | (with_reducible exact impl_Digest.mono _ _)
  | (with_reducible exact impl_chained.mono _ _)
  | (with_reducible exact LeO.refl _)
  | (with_reducible exact LeO.none _)
  | (with_reducible refine LeO.ite ?_ ?_)
  | (with_reducible refine LeO.bind ?_ (fun _ => ?_))
  | exact ih0 _ _ _
  | exact impl_Digest.mono _ _
  | exact impl_chained.mono _ _
  | exact LeO.none _
  | refine LeO.ite ?_ ?_
  | refine LeO.bind ?_ (fun _ => ?_)
def impl_Parted.T7 : Bool × List (List Nat × List Nat) := (true, [([], []), ([], []), ([0, 1], [0, 1]), ([2], [2]), ([], []), ([], []), ([4, 5], [4, 5]), ([6], [6]), ([3, 7], [3, 7])])
def impl_Parted.B7 : List Nat := [0, 0, 3, 7, 0, 0, 48, 112, 255]
theorem impl_Parted.tab7 : rtab .any (opsOf Tryd.f63 7) = impl_Parted.T7 := by kernel_rfl
theorem impl_Parted.bits7 : waitsOk impl_Parted.T7.2 impl_Parted.B7 = true := by kernel_rfl
def impl_Parted.T8 : Bool × List (List Nat × List Nat) := (true, [([], []), ([], []), ([0, 1], [0, 1]), ([2], [2]), ([], []), ([], []), ([4, 5], [4, 5]), ([6], [6]), ([], []), ([], []), ([8, 9], [8, 9]), ([10], [10]), ([11], [11]), ([], []), ([], []), ([13, 14], [13, 14]), ([15], [15]), ([16, 12], [16]), ([12, 17], [12, 17]), ([3, 17, 0, 1, 2, 3], [3]), ([7, 19, 0, 1, 2, 3, 4, 5, 6, 7, 19], [7]), ([18, 20, 0, 1, 2, 3, 4, 5, 6, 7, 8, 9, 10, 11, 12, 13, 14, 15, 16, 17, 18, 19, 20], [18])])
def impl_Parted.B8 : List Nat := [0, 0, 3, 7, 0, 0, 48, 112, 0, 0, 768, 1792, 3840, 0, 0, 24576, 57344, 130816, 261888, 261903, 786431, 2097151]
theorem impl_Parted.tab8 : rtab .any (opsOf Tryd.f63 8) = impl_Parted.T8 := by kernel_rfl
theorem impl_Parted.bits8 : waitsOk impl_Parted.T8.2 impl_Parted.B8 = true := by kernel_rfl
set_option maxHeartbeats 8000000 in
set_option maxRecDepth 100000 in
theorem impl_Parted.calls (k : Nat) (A0 : Option Addr) (c0 : Nat) (l0 : List (S70)) (A1 : Option Addr) (c1 : Nat) (l1 : List (S70)) (r1 : ByteArray) (r2 : ByteArray) (r3 : Bool) (w : World) (hr0 : Kd.C k70 w A0 l0.length l0) (hc0 : l0.length ≤ c0) (hr1 : Kd.C k70 w A1 l1.length l1) (hc1 : l1.length ≤ c1) (hT : Tab w) (h : impl_Parted.f k l0 l1 = some (r1, r2, r3)) :
 Calls Tryd.prog 63 #[.slice A0 l0.length c0, .slice A1 l1.length c1] w fun e w' => e = .returned (.tuple #[.string r1, .string r2, .bool r3]) ∧ Below w.heap.size w w' := by
 have HR0 := Aside0.mk hr0
 have HC0 := Aside0.mk hc0
 clear hr0 hc0
 have HR1 := Aside0.mk hr1
 have HC1 := Aside0.mk hc1
 clear hr1 hc1
 have HT := Aside0.mk hT
 clear hT
 have HB := Aside0.mk (Below.refl w.heap.size w)
 have H : (if (l0.length : Int) = (l1.length : Int) then ((impl_chained.f k l0).bind fun t1234 => ((impl_chained.f k l1).bind fun t1237 => (impl_Parted.l0 k t1234 t1237 (wrap64 ((t1234.length : Int) - 1))))) else (some ((⟨#[]⟩ : ByteArray), (⟨#[]⟩ : ByteArray), false))) = some (r1, r2, r3) := h
 clear h
 by_cases c3 : (l0.length : Int) = (l1.length : Int)
 ·rw [if_pos c3] at H
  have c3b0 : ((l0.length : Int) == (l1.length : Int)) = true := beq_iff_eq.mpr c3
  have c3b1 : ((l0.length : Int) != (l1.length : Int)) = false := bne_eq_false_iff_eq.mpr c3
  have c3b2 : (l0.length == l1.length) = true := by first | simpa using c3 | (simp at c3 ⊢; omega)
  clear c3
  replace H := Option.bind_eq_some_iff.mp H
  obtain ⟨t1234, A40, H⟩ := H
  replace H : ((impl_chained.f k l1).bind fun t1237 => (impl_Parted.l0 k t1234 t1237 (wrap64 ((t1234.length : Int) - 1)))) = some (r1, r2, r3) := H
  have A4 := Aside0.mk A40
  clear A40
  replace H := Option.bind_eq_some_iff.mp H
  obtain ⟨t1237, A50, H⟩ := H
  replace H : (impl_Parted.l0 k t1234 t1237 (wrap64 ((t1234.length : Int) - 1))) = some (r1, r2, r3) := H
  have A5 := Aside0.mk A50
  clear A50
  have H' := Aside0.mk H
  clear H
  go_enter Tryd.func63, Tryd.ntmps63
  go_wp2_with (first | ((with_reducible refine gate_callee (f := 109) rfl ?_); refine goesL_ (some 16) rfl rfl Tryd.func109 (by kernel_rfl) rfl #[.slice A0 l0.length c0] rfl lm_ ?_; (with_reducible refine (impl_chained.calls k _ _ l0 t1234 _ ?side1 ?side2 ?side3 A4.out).mono ?_); (case side1 => repeat (first | exact HR0.out | (with_reducible refine Kd.C_alloc ?_ _) | (with_reducible refine Kd.C_drewN ?_ _) | (with_reducible refine Kd.C_drew ?_))); (case side2 => exact HC0.out); (case side3 => exact tab_of HT.out bl_); rintro e w6 ⟨v1235, rfl, ho0, hb⟩; refine ⟨_, rfl, ?_⟩; have n0_ := Aside0.mk (Kd.R_lower ho0 (below_size bl_)); have n1_ := Aside0.mk (below_step bl_ hb); clear HB; have HO1236 := n0_; have HB := n1_; clear n0_ n1_; (try clear hb); (try clear hb2); (try clear hk); (try clear hi); (try clear ho0)) | ((with_reducible refine gate_callee (f := 109) rfl ?_); refine goesL_ (some 18) rfl rfl Tryd.func109 (by kernel_rfl) rfl #[.slice A1 l1.length c1] rfl lm_ ?_; (with_reducible refine (impl_chained.calls k _ _ l1 t1237 _ ?side1 ?side2 ?side3 A5.out).mono ?_); (case side1 => repeat (first | exact (Kd.C_below HR1.out HB.out) | exact HR1.out | (with_reducible refine Kd.C_alloc ?_ _) | (with_reducible refine Kd.C_drewN ?_ _) | (with_reducible refine Kd.C_drew ?_))); (case side2 => exact HC1.out); (case side3 => exact tab_of HT.out bl_); rintro e w7 ⟨v1238, rfl, ho0, hb⟩; refine ⟨_, rfl, ?_⟩; have n0_ := Aside0.mk (Kd.R_elder' (ra_ HO1236.out) (Kd.R_base ho0) hb); have n1_ := Aside0.mk (Kd.R_lower (Kd.R_new' ho0 (Kd.R_lt (ra_ HO1236.out))) (below_size bl_)); have n2_ := Aside0.mk (below_step bl_ hb); clear HO1236; clear HB; have HO1236 := n0_; have HO1239 := n1_; have HB := n2_; clear n0_ n1_ n2_; (try clear hb); (try clear hb2); (try clear hk); (try clear hi); (try clear ho0); obtain ⟨Ao8, co8, eo8⟩ := Kd.R_slice HO1236.out; subst eo8))
  go_loopg [9] k (fun kq v9 w' => ∃ (x9_1 : Int), v9 = .int .i64 x9_1 ∧ Aside0 (impl_Parted.l0 kq t1234 t1237 x9_1 = some (r1, r2, r3)) ∧ Aside0 (kq ≤ k) ∧ Aside0 (Kd.R Kd.string 9 w' w.heap.size (fun k_ => some k_ ≠ (v1238 : Value).ownBlock) (.slice Ao8 t1234.length co8) t1234) ∧ Aside0 (Kd.R Kd.string 9 w' w.heap.size (fun k_ => some k_ ≠ ((.slice Ao8 t1234.length co8) : Value).ownBlock) v1238 t1237) ∧ Aside0 (Below w.heap.size w w'))
  case atStart => exact ⟨(wrap64 ((t1234.length : Int) - 1)), (by first | rfl | (simp; done) | (simp [*]; done)), H', ⟨Nat.le_refl _⟩, ⟨by (with_reducible repeat (first | apply Kd.R_alloc | apply Kd.R_drewN | apply Kd.R_drew)); exact Kd.R_mono HO1236.out (fun _ hk => hk.2)⟩, ⟨by (with_reducible repeat (first | apply Kd.R_alloc | apply Kd.R_drewN | apply Kd.R_drew)); exact Kd.R_mono HO1239.out (fun _ hk => hk.2)⟩, ⟨bl_⟩⟩
  case round =>
   clear H'
   try clear c1
   try clear p2
   try clear c3
   try clear c3b0
   try clear c3b1
   try clear c3b2
   try clear c6
   try clear p6
   obtain ⟨x9_1, rfl, HA, HK1, HO_7, HO_8, HB⟩ := hrel
   cases gk with
   | zero => exact absurd HA.out (by simp [impl_Parted.l0])
   | succ k1 =>
    have H := HA.out
    clear HA
    simp only [impl_Parted.l0] at H
    by_cases c9 : x9_1 ≥ 0
    ·rw [if_pos c9] at H
     have c9b0 : decide (0 ≤ x9_1) = true := decide_eq_true c9
     clear c9
     by_cases c10 : 0 ≤ x9_1
     ·rw [if_pos c10] at H
      have c10b0 : decide (0 ≤ x9_1) = true := decide_eq_true c10
      clear c10
      by_cases c11 : x9_1 < (t1234.length : Int)
      ·rw [if_pos c11] at H
       have c11b0 : decide (x9_1 < (t1234.length : Int)) = true := decide_eq_true c11
       clear c11
       by_cases c12 : x9_1 < (t1237.length : Int)
       ·rw [if_pos c12] at H
        have c12b0 : decide (x9_1 < (t1237.length : Int)) = true := decide_eq_true c12
        clear c12
        by_cases c13 : (rdOf ByteArray.empty t1234 x9_1).toList = (rdOf ByteArray.empty t1237 x9_1).toList
        ·rw [if_pos c13] at H
         have c13b0 : ((rdOf ByteArray.empty t1234 x9_1).toList == (rdOf ByteArray.empty t1237 x9_1).toList) = true := beq_iff_eq.mpr c13
         have c13b1 : ((rdOf ByteArray.empty t1234 x9_1).toList != (rdOf ByteArray.empty t1237 x9_1).toList) = false := bne_eq_false_iff_eq.mpr c13
         clear c13
         have H' := Aside0.mk H
         clear H
         try go_wp2
         have n0_ := Aside0.mk (Kd.R_drew HO_7.out)
         have n1_ := Aside0.mk (Kd.R_drew HO_8.out)
         have n2_ := Aside0.mk (below_drew1 HB.out)
         clear HO_7
         clear HO_8
         clear HB
         have HO_7 := n0_
         have HO_8 := n1_
         have HB := n2_
         clear n0_ n1_ n2_
         have p1240 : 0 ≤ (x9_1 : Int) := of_decide_eq_true as_
         have q1240 : x9_1 < (t1234.length : Int) := of_decide_eq_true as_
         obtain ⟨ad1240, e1240, hx1240_0⟩ := Kd.at_string (Kd.R_reads' HO_7.out).2.2 x9_1 p1240 q1240
         cases e1240
         replace p1240 := eq_true p1240
         replace q1240 := eq_true q1240
         obtain ⟨Ao15, co15, eo15⟩ := Kd.R_slice HO_8.out
         (first | subst eo15 | (injection eo15 with f1_ f2_ f3_; have f4_ := f1_.symm; have f5_ := f3_.symm; clear f1_ f2_ f3_; subst f4_; subst f5_))
         have p1241 : 0 ≤ (x9_1 : Int) := of_decide_eq_true as_
         have q1241 : x9_1 < (t1237.length : Int) := of_decide_eq_true as_
         obtain ⟨ad1241, e1241, hx1241_0⟩ := Kd.at_string (Kd.R_reads' HO_8.out).2.2 x9_1 p1241 q1241
         cases e1241
         replace p1241 := eq_true p1241
         replace q1241 := eq_true q1241
         refine start_ (n := 9) (S := fun w' => w'.cell? (ad1240.add (x9_1).toNat) = some (.string (rdOf ByteArray.empty t1234 x9_1)) ∧ w'.cell? (ad1241.add (x9_1).toNat) = some (.string (rdOf ByteArray.empty t1237 x9_1))) (ds := []) #[false, false, false, false, false, false, false, false, false] (by kernel_rfl) rfl rfl ⟨hx1240_0, hx1241_0⟩ (fun hHeld => ?_); refine with_tabW impl_Parted.tab7 impl_Parted.bits7 (fun HT_ HW_ => ?_)
         generalize wr.drew = w14 at HO_7 HO_8 HB hx1240_0 hx1241_0 hHeld ⊢
         refine pure_ (i := 0) (N := some 26) (v := ?_) (a' := ?_) #[true, false, false, false, false, false, false, false, false] rfl rfl (any_of HT_.out (by kernel_rfl)) (fun _ _ _ h => h) (Or.inl ⟨by rfl, ?_⟩) ?_ ?_
         rotate_left
         ·intro w'
          go_simp
          with_reducible rfl
         rotate_left
         ·simp only [Act.put, List.setIfInBounds_toArray, List.set_cons_zero, List.set_cons_succ, i64_w, i32_w]
          rfl
         refine pure_ (i := 1) (N := some 27) (v := ?_) (a' := ?_) #[true, true, false, false, false, false, false, false, false] rfl rfl (any_of HT_.out (by kernel_rfl)) (fun _ _ _ h => h) (Or.inl ⟨by rfl, ?_⟩) ?_ ?_
         rotate_left
         ·intro w'
          go_simp
          with_reducible rfl
         rotate_left
         ·simp only [Act.put, List.setIfInBounds_toArray, List.set_cons_zero, List.set_cons_succ, i64_w, i32_w]
          rfl
         refine pure_ (i := 2) (N := some 28) (v := ?_) (a' := ?_) #[true, true, true, false, false, false, false, false, false] rfl rfl (any_of HT_.out (by kernel_rfl)) (fun _ _ _ h => h) (Or.inl ⟨by rfl, ?_⟩) ?_ ?_
         rotate_left
         ·intro w'
          go_simp
          with_reducible rfl
         rotate_left
         ·simp only [Act.put, List.setIfInBounds_toArray, List.set_cons_zero, List.set_cons_succ, i64_w, i32_w]
          rfl
         refine pure_ (i := 4) (N := some 30) (v := ?_) (a' := ?_) #[true, true, true, false, true, false, false, false, false] rfl rfl (any_of HT_.out (by kernel_rfl)) (fun _ _ _ h => h) (Or.inl ⟨by rfl, ?_⟩) ?_ ?_
         rotate_left
         ·intro w'
          go_simp
          with_reducible rfl
         rotate_left
         ·simp only [Act.put, List.setIfInBounds_toArray, List.set_cons_zero, List.set_cons_succ, i64_w, i32_w]
          rfl
         refine pure_ (i := 5) (N := some 31) (v := ?_) (a' := ?_) #[true, true, true, false, true, true, false, false, false] rfl rfl (any_of HT_.out (by kernel_rfl)) (fun _ _ _ h => h) (Or.inl ⟨by rfl, ?_⟩) ?_ ?_
         rotate_left
         ·intro w'
          go_simp
          with_reducible rfl
         rotate_left
         ·simp only [Act.put, List.setIfInBounds_toArray, List.set_cons_zero, List.set_cons_succ, i64_w, i32_w]
          rfl
         refine pure_ (i := 6) (N := some 32) (v := ?_) (a' := ?_) #[true, true, true, false, true, true, true, false, false] rfl rfl (any_of HT_.out (by kernel_rfl)) (fun _ _ _ h => h) (Or.inl ⟨by rfl, ?_⟩) ?_ ?_
         rotate_left
         ·intro w'
          go_simp
          with_reducible rfl
         rotate_left
         ·simp only [Act.put, List.setIfInBounds_toArray, List.set_cons_zero, List.set_cons_succ, i64_w, i32_w]
          rfl
         refine take_ (i := 3) (N := some 29) (v := ?_) (a' := ?_) #[true, true, true, true, true, true, true, false, false] rfl rfl (take_ofW HT_.out HW_.out (by kernel_rfl)) (fun _ _ _ h => h) (Or.inl ⟨by rfl, ?_⟩) hHeld ?_ ?_
         rotate_left
         ·rintro w' ⟨s0, s1⟩
          go_simp
          with_reducible rfl
         rotate_left
         ·simp only [Act.put, List.setIfInBounds_toArray, List.set_cons_zero, List.set_cons_succ, i64_w, i32_w]
          rfl
         refine take_ (i := 7) (N := some 33) (v := ?_) (a' := ?_) #[true, true, true, true, true, true, true, true, false] rfl rfl (take_ofW HT_.out HW_.out (by kernel_rfl)) (fun _ _ _ h => h) (Or.inl ⟨by rfl, ?_⟩) hHeld ?_ ?_
         rotate_left
         ·rintro w' ⟨s0, s1⟩
          go_simp
          with_reducible rfl
         rotate_left
         ·simp only [Act.put, List.setIfInBounds_toArray, List.set_cons_zero, List.set_cons_succ, i64_w, i32_w]
          rfl
         refine pure_ (i := 8) (N := some 34) (v := ?_) (a' := ?_) #[true, true, true, true, true, true, true, true, true] rfl rfl (any_of HT_.out (by kernel_rfl)) (fun _ _ _ h => h) (Or.inl ⟨by rfl, ?_⟩) ?_ ?_
         rotate_left
         ·intro w'
          go_simp
          with_reducible rfl
         rotate_left
         ·simp only [Act.put, List.setIfInBounds_toArray, List.set_cons_zero, List.set_cons_succ, i64_w, i32_w]
          rfl
         refine done_ (done_of HT_.out (by kernel_rfl)) ?_
         try go_wp2
         go_roundg k1
         case measure => have := HK1.out; omega
         case rel => exact ⟨(wrap64 (x9_1 - 1)), (by first | rfl | (simp; done) | (simp [*]; done)), H', ⟨by have := HK1.out; omega⟩, ⟨ra_ HO_7.out⟩, ⟨ra_ HO_8.out⟩, ⟨bl_⟩⟩
        ·rw [if_neg c13] at H
         have c13b0 : ((rdOf ByteArray.empty t1234 x9_1).toList == (rdOf ByteArray.empty t1237 x9_1).toList) = false := beq_eq_false_iff_ne.mpr c13
         have c13b1 : ((rdOf ByteArray.empty t1234 x9_1).toList != (rdOf ByteArray.empty t1237 x9_1).toList) = true := bne_iff_ne.mpr c13
         replace H := Option.bind_eq_some_iff.mp H
         obtain ⟨t1245, A160, H⟩ := H
         replace H : ((impl_Digest.f k1 (rdOf ByteArray.empty t1237 x9_1)).bind fun t1247 => (some (rdOf ByteArray.empty t1234 x9_1, rdOf ByteArray.empty t1237 x9_1, (t1245.toList == t1247.toList)))) = some (r1, r2, r3) := H
         have A16 := Aside0.mk A160
         clear A160
         replace H := Option.bind_eq_some_iff.mp H
         obtain ⟨t1247, A170, H⟩ := H
         replace H : (some (rdOf ByteArray.empty t1234 x9_1, rdOf ByteArray.empty t1237 x9_1, (t1245.toList == t1247.toList))) = some (r1, r2, r3) := H
         have A17 := Aside0.mk A170
         clear A170
         simp only [Option.some.injEq, Prod.mk.injEq] at H
         obtain ⟨rfl, rfl, rfl⟩ := H
         try go_wp2
         have n0_ := Aside0.mk (Kd.R_drew HO_7.out)
         have n1_ := Aside0.mk (Kd.R_drew HO_8.out)
         have n2_ := Aside0.mk (below_drew1 HB.out)
         clear HO_7
         clear HO_8
         clear HB
         have HO_7 := n0_
         have HO_8 := n1_
         have HB := n2_
         clear n0_ n1_ n2_
         have p1240 : 0 ≤ (x9_1 : Int) := of_decide_eq_true as_
         have q1240 : x9_1 < (t1234.length : Int) := of_decide_eq_true as_
         obtain ⟨ad1240, e1240, hx1240_0⟩ := Kd.at_string (Kd.R_reads' HO_7.out).2.2 x9_1 p1240 q1240
         cases e1240
         replace p1240 := eq_true p1240
         replace q1240 := eq_true q1240
         obtain ⟨Ao19, co19, eo19⟩ := Kd.R_slice HO_8.out
         (first | subst eo19 | (injection eo19 with f1_ f2_ f3_; have f4_ := f1_.symm; have f5_ := f3_.symm; clear f1_ f2_ f3_; subst f4_; subst f5_))
         have p1241 : 0 ≤ (x9_1 : Int) := of_decide_eq_true as_
         have q1241 : x9_1 < (t1237.length : Int) := of_decide_eq_true as_
         obtain ⟨ad1241, e1241, hx1241_0⟩ := Kd.at_string (Kd.R_reads' HO_8.out).2.2 x9_1 p1241 q1241
         cases e1241
         replace p1241 := eq_true p1241
         replace q1241 := eq_true q1241
         refine start_ (n := 9) (S := fun w' => w'.cell? (ad1240.add (x9_1).toNat) = some (.string (rdOf ByteArray.empty t1234 x9_1)) ∧ w'.cell? (ad1241.add (x9_1).toNat) = some (.string (rdOf ByteArray.empty t1237 x9_1))) (ds := []) #[false, false, false, false, false, false, false, false, false] (by kernel_rfl) rfl rfl ⟨hx1240_0, hx1241_0⟩ (fun hHeld => ?_); refine with_tabW impl_Parted.tab7 impl_Parted.bits7 (fun HT_ HW_ => ?_)
         generalize wr.drew = w18 at HO_7 HO_8 HB hx1240_0 hx1241_0 hHeld ⊢
         refine pure_ (i := 0) (N := some 26) (v := ?_) (a' := ?_) #[true, false, false, false, false, false, false, false, false] rfl rfl (any_of HT_.out (by kernel_rfl)) (fun _ _ _ h => h) (Or.inl ⟨by rfl, ?_⟩) ?_ ?_
         rotate_left
         ·intro w'
          go_simp
          with_reducible rfl
         rotate_left
         ·simp only [Act.put, List.setIfInBounds_toArray, List.set_cons_zero, List.set_cons_succ, i64_w, i32_w]
          rfl
         refine pure_ (i := 1) (N := some 27) (v := ?_) (a' := ?_) #[true, true, false, false, false, false, false, false, false] rfl rfl (any_of HT_.out (by kernel_rfl)) (fun _ _ _ h => h) (Or.inl ⟨by rfl, ?_⟩) ?_ ?_
         rotate_left
         ·intro w'
          go_simp
          with_reducible rfl
         rotate_left
         ·simp only [Act.put, List.setIfInBounds_toArray, List.set_cons_zero, List.set_cons_succ, i64_w, i32_w]
          rfl
         refine pure_ (i := 2) (N := some 28) (v := ?_) (a' := ?_) #[true, true, true, false, false, false, false, false, false] rfl rfl (any_of HT_.out (by kernel_rfl)) (fun _ _ _ h => h) (Or.inl ⟨by rfl, ?_⟩) ?_ ?_
         rotate_left
         ·intro w'
          go_simp
          with_reducible rfl
         rotate_left
         ·simp only [Act.put, List.setIfInBounds_toArray, List.set_cons_zero, List.set_cons_succ, i64_w, i32_w]
          rfl
         refine pure_ (i := 4) (N := some 30) (v := ?_) (a' := ?_) #[true, true, true, false, true, false, false, false, false] rfl rfl (any_of HT_.out (by kernel_rfl)) (fun _ _ _ h => h) (Or.inl ⟨by rfl, ?_⟩) ?_ ?_
         rotate_left
         ·intro w'
          go_simp
          with_reducible rfl
         rotate_left
         ·simp only [Act.put, List.setIfInBounds_toArray, List.set_cons_zero, List.set_cons_succ, i64_w, i32_w]
          rfl
         refine pure_ (i := 5) (N := some 31) (v := ?_) (a' := ?_) #[true, true, true, false, true, true, false, false, false] rfl rfl (any_of HT_.out (by kernel_rfl)) (fun _ _ _ h => h) (Or.inl ⟨by rfl, ?_⟩) ?_ ?_
         rotate_left
         ·intro w'
          go_simp
          with_reducible rfl
         rotate_left
         ·simp only [Act.put, List.setIfInBounds_toArray, List.set_cons_zero, List.set_cons_succ, i64_w, i32_w]
          rfl
         refine pure_ (i := 6) (N := some 32) (v := ?_) (a' := ?_) #[true, true, true, false, true, true, true, false, false] rfl rfl (any_of HT_.out (by kernel_rfl)) (fun _ _ _ h => h) (Or.inl ⟨by rfl, ?_⟩) ?_ ?_
         rotate_left
         ·intro w'
          go_simp
          with_reducible rfl
         rotate_left
         ·simp only [Act.put, List.setIfInBounds_toArray, List.set_cons_zero, List.set_cons_succ, i64_w, i32_w]
          rfl
         refine take_ (i := 3) (N := some 29) (v := ?_) (a' := ?_) #[true, true, true, true, true, true, true, false, false] rfl rfl (take_ofW HT_.out HW_.out (by kernel_rfl)) (fun _ _ _ h => h) (Or.inl ⟨by rfl, ?_⟩) hHeld ?_ ?_
         rotate_left
         ·rintro w' ⟨s0, s1⟩
          go_simp
          with_reducible rfl
         rotate_left
         ·simp only [Act.put, List.setIfInBounds_toArray, List.set_cons_zero, List.set_cons_succ, i64_w, i32_w]
          rfl
         refine take_ (i := 7) (N := some 33) (v := ?_) (a' := ?_) #[true, true, true, true, true, true, true, true, false] rfl rfl (take_ofW HT_.out HW_.out (by kernel_rfl)) (fun _ _ _ h => h) (Or.inl ⟨by rfl, ?_⟩) hHeld ?_ ?_
         rotate_left
         ·rintro w' ⟨s0, s1⟩
          go_simp
          with_reducible rfl
         rotate_left
         ·simp only [Act.put, List.setIfInBounds_toArray, List.set_cons_zero, List.set_cons_succ, i64_w, i32_w]
          rfl
         refine pure_ (i := 8) (N := some 34) (v := ?_) (a' := ?_) #[true, true, true, true, true, true, true, true, true] rfl rfl (any_of HT_.out (by kernel_rfl)) (fun _ _ _ h => h) (Or.inl ⟨by rfl, ?_⟩) ?_ ?_
         rotate_left
         ·intro w'
          go_simp
          with_reducible rfl
         rotate_left
         ·simp only [Act.put, List.setIfInBounds_toArray, List.set_cons_zero, List.set_cons_succ, i64_w, i32_w]
          rfl
         refine done_ (done_of HT_.out (by kernel_rfl)) ?_
         try go_wp2
         have n0_ := Aside0.mk (Kd.R_drew HO_7.out)
         have n1_ := Aside0.mk (Kd.R_drew HO_8.out)
         have n2_ := Aside0.mk (below_drew1 HB.out)
         clear HO_7
         clear HO_8
         clear HB
         have HO_7 := n0_
         have HO_8 := n1_
         have HB := n2_
         clear n0_ n1_ n2_
         have p1242 : 0 ≤ (x9_1 : Int) := of_decide_eq_true as_
         have q1242 : x9_1 < (t1234.length : Int) := of_decide_eq_true as_
         obtain ⟨ad1242, e1242, hx1242_0⟩ := Kd.at_string (Kd.R_reads' HO_7.out).2.2 x9_1 p1242 q1242
         obtain rfl : ad1240 = ad1242 := (by injection e1242)
         replace p1242 := eq_true p1242
         replace q1242 := eq_true q1242
         have p1243 : 0 ≤ (x9_1 : Int) := of_decide_eq_true as_
         have q1243 : x9_1 < (t1237.length : Int) := of_decide_eq_true as_
         obtain ⟨ad1243, e1243, hx1243_0⟩ := Kd.at_string (Kd.R_reads' HO_8.out).2.2 x9_1 p1243 q1243
         obtain rfl : ad1241 = ad1243 := (by injection e1243)
         replace p1243 := eq_true p1243
         replace q1243 := eq_true q1243
         have p1244 : 0 ≤ (x9_1 : Int) := of_decide_eq_true as_
         have q1244 : x9_1 < (t1234.length : Int) := of_decide_eq_true as_
         obtain ⟨ad1244, e1244, hx1244_0⟩ := Kd.at_string (Kd.R_reads' HO_7.out).2.2 x9_1 p1244 q1244
         obtain rfl : ad1240 = ad1244 := (by injection e1244)
         replace p1244 := eq_true p1244
         replace q1244 := eq_true q1244
         have p1246 : 0 ≤ (x9_1 : Int) := of_decide_eq_true as_
         have q1246 : x9_1 < (t1237.length : Int) := of_decide_eq_true as_
         obtain ⟨ad1246, e1246, hx1246_0⟩ := Kd.at_string (Kd.R_reads' HO_8.out).2.2 x9_1 p1246 q1246
         obtain rfl : ad1241 = ad1246 := (by injection e1246)
         replace p1246 := eq_true p1246
         replace q1246 := eq_true q1246
         refine start_ (n := 22) (S := fun w' => w'.cell? (ad1240.add (x9_1).toNat) = some (.string (rdOf ByteArray.empty t1234 x9_1)) ∧ w'.cell? (ad1241.add (x9_1).toNat) = some (.string (rdOf ByteArray.empty t1237 x9_1)) ∧ w'.cell? (ad1240.add (x9_1).toNat) = some (.string (rdOf ByteArray.empty t1234 x9_1)) ∧ w'.cell? (ad1241.add (x9_1).toNat) = some (.string (rdOf ByteArray.empty t1237 x9_1))) (ds := []) #[false, false, false, false, false, false, false, false, false, false, false, false, false, false, false, false, false, false, false, false, false, false] (by kernel_rfl) rfl rfl ⟨hx1242_0, hx1243_0, hx1244_0, hx1246_0⟩ (fun hHeld => ?_); refine with_tabW impl_Parted.tab8 impl_Parted.bits8 (fun HT_ HW_ => ?_)
         generalize w18.drew = w20 at HO_7 HO_8 HB hx1242_0 hx1243_0 hx1244_0 hx1246_0 hHeld ⊢
         refine pure_ (i := 0) (N := some 35) (v := ?_) (a' := ?_) #[true, false, false, false, false, false, false, false, false, false, false, false, false, false, false, false, false, false, false, false, false, false] rfl rfl (any_of HT_.out (by kernel_rfl)) (fun _ _ _ h => h) (Or.inl ⟨by rfl, ?_⟩) ?_ ?_
         rotate_left
         ·intro w'
          go_simp
          with_reducible rfl
         rotate_left
         ·simp only [Act.put, List.setIfInBounds_toArray, List.set_cons_zero, List.set_cons_succ, i64_w, i32_w]
          rfl
         refine pure_ (i := 1) (N := some 36) (v := ?_) (a' := ?_) #[true, true, false, false, false, false, false, false, false, false, false, false, false, false, false, false, false, false, false, false, false, false] rfl rfl (any_of HT_.out (by kernel_rfl)) (fun _ _ _ h => h) (Or.inl ⟨by rfl, ?_⟩) ?_ ?_
         rotate_left
         ·intro w'
          go_simp
          with_reducible rfl
         rotate_left
         ·simp only [Act.put, List.setIfInBounds_toArray, List.set_cons_zero, List.set_cons_succ, i64_w, i32_w]
          rfl
         refine pure_ (i := 2) (N := some 37) (v := ?_) (a' := ?_) #[true, true, true, false, false, false, false, false, false, false, false, false, false, false, false, false, false, false, false, false, false, false] rfl rfl (any_of HT_.out (by kernel_rfl)) (fun _ _ _ h => h) (Or.inl ⟨by rfl, ?_⟩) ?_ ?_
         rotate_left
         ·intro w'
          go_simp
          with_reducible rfl
         rotate_left
         ·simp only [Act.put, List.setIfInBounds_toArray, List.set_cons_zero, List.set_cons_succ, i64_w, i32_w]
          rfl
         refine pure_ (i := 4) (N := some 39) (v := ?_) (a' := ?_) #[true, true, true, false, true, false, false, false, false, false, false, false, false, false, false, false, false, false, false, false, false, false] rfl rfl (any_of HT_.out (by kernel_rfl)) (fun _ _ _ h => h) (Or.inl ⟨by rfl, ?_⟩) ?_ ?_
         rotate_left
         ·intro w'
          go_simp
          with_reducible rfl
         rotate_left
         ·simp only [Act.put, List.setIfInBounds_toArray, List.set_cons_zero, List.set_cons_succ, i64_w, i32_w]
          rfl
         refine pure_ (i := 5) (N := some 40) (v := ?_) (a' := ?_) #[true, true, true, false, true, true, false, false, false, false, false, false, false, false, false, false, false, false, false, false, false, false] rfl rfl (any_of HT_.out (by kernel_rfl)) (fun _ _ _ h => h) (Or.inl ⟨by rfl, ?_⟩) ?_ ?_
         rotate_left
         ·intro w'
          go_simp
          with_reducible rfl
         rotate_left
         ·simp only [Act.put, List.setIfInBounds_toArray, List.set_cons_zero, List.set_cons_succ, i64_w, i32_w]
          rfl
         refine pure_ (i := 6) (N := some 41) (v := ?_) (a' := ?_) #[true, true, true, false, true, true, true, false, false, false, false, false, false, false, false, false, false, false, false, false, false, false] rfl rfl (any_of HT_.out (by kernel_rfl)) (fun _ _ _ h => h) (Or.inl ⟨by rfl, ?_⟩) ?_ ?_
         rotate_left
         ·intro w'
          go_simp
          with_reducible rfl
         rotate_left
         ·simp only [Act.put, List.setIfInBounds_toArray, List.set_cons_zero, List.set_cons_succ, i64_w, i32_w]
          rfl
         refine pure_ (i := 8) (N := some 43) (v := ?_) (a' := ?_) #[true, true, true, false, true, true, true, false, true, false, false, false, false, false, false, false, false, false, false, false, false, false] rfl rfl (any_of HT_.out (by kernel_rfl)) (fun _ _ _ h => h) (Or.inl ⟨by rfl, ?_⟩) ?_ ?_
         rotate_left
         ·intro w'
          go_simp
          with_reducible rfl
         rotate_left
         ·simp only [Act.put, List.setIfInBounds_toArray, List.set_cons_zero, List.set_cons_succ, i64_w, i32_w]
          rfl
         refine pure_ (i := 9) (N := some 44) (v := ?_) (a' := ?_) #[true, true, true, false, true, true, true, false, true, true, false, false, false, false, false, false, false, false, false, false, false, false] rfl rfl (any_of HT_.out (by kernel_rfl)) (fun _ _ _ h => h) (Or.inl ⟨by rfl, ?_⟩) ?_ ?_
         rotate_left
         ·intro w'
          go_simp
          with_reducible rfl
         rotate_left
         ·simp only [Act.put, List.setIfInBounds_toArray, List.set_cons_zero, List.set_cons_succ, i64_w, i32_w]
          rfl
         refine pure_ (i := 10) (N := some 45) (v := ?_) (a' := ?_) #[true, true, true, false, true, true, true, false, true, true, true, false, false, false, false, false, false, false, false, false, false, false] rfl rfl (any_of HT_.out (by kernel_rfl)) (fun _ _ _ h => h) (Or.inl ⟨by rfl, ?_⟩) ?_ ?_
         rotate_left
         ·intro w'
          go_simp
          with_reducible rfl
         rotate_left
         ·simp only [Act.put, List.setIfInBounds_toArray, List.set_cons_zero, List.set_cons_succ, i64_w, i32_w]
          rfl
         refine pure_ (i := 13) (N := some 48) (v := ?_) (a' := ?_) #[true, true, true, false, true, true, true, false, true, true, true, false, false, true, false, false, false, false, false, false, false, false] rfl rfl (any_of HT_.out (by kernel_rfl)) (fun _ _ _ h => h) (Or.inl ⟨by rfl, ?_⟩) ?_ ?_
         rotate_left
         ·intro w'
          go_simp
          with_reducible rfl
         rotate_left
         ·simp only [Act.put, List.setIfInBounds_toArray, List.set_cons_zero, List.set_cons_succ, i64_w, i32_w]
          rfl
         refine pure_ (i := 14) (N := some 49) (v := ?_) (a' := ?_) #[true, true, true, false, true, true, true, false, true, true, true, false, false, true, true, false, false, false, false, false, false, false] rfl rfl (any_of HT_.out (by kernel_rfl)) (fun _ _ _ h => h) (Or.inl ⟨by rfl, ?_⟩) ?_ ?_
         rotate_left
         ·intro w'
          go_simp
          with_reducible rfl
         rotate_left
         ·simp only [Act.put, List.setIfInBounds_toArray, List.set_cons_zero, List.set_cons_succ, i64_w, i32_w]
          rfl
         refine pure_ (i := 15) (N := some 50) (v := ?_) (a' := ?_) #[true, true, true, false, true, true, true, false, true, true, true, false, false, true, true, true, false, false, false, false, false, false] rfl rfl (any_of HT_.out (by kernel_rfl)) (fun _ _ _ h => h) (Or.inl ⟨by rfl, ?_⟩) ?_ ?_
         rotate_left
         ·intro w'
          go_simp
          with_reducible rfl
         rotate_left
         ·simp only [Act.put, List.setIfInBounds_toArray, List.set_cons_zero, List.set_cons_succ, i64_w, i32_w]
          rfl
         refine take_ (i := 3) (N := some 38) (v := ?_) (a' := ?_) #[true, true, true, true, true, true, true, false, true, true, true, false, false, true, true, true, false, false, false, false, false, false] rfl rfl (take_ofW HT_.out HW_.out (by kernel_rfl)) (fun _ _ _ h => h) (Or.inl ⟨by rfl, ?_⟩) hHeld ?_ ?_
         rotate_left
         ·rintro w' ⟨s0, s1, s2, s3⟩
          go_simp
          with_reducible rfl
         rotate_left
         ·simp only [Act.put, List.setIfInBounds_toArray, List.set_cons_zero, List.set_cons_succ, i64_w, i32_w]
          rfl
         refine take_ (i := 7) (N := some 42) (v := ?_) (a' := ?_) #[true, true, true, true, true, true, true, true, true, true, true, false, false, true, true, true, false, false, false, false, false, false] rfl rfl (take_ofW HT_.out HW_.out (by kernel_rfl)) (fun _ _ _ h => h) (Or.inl ⟨by rfl, ?_⟩) hHeld ?_ ?_
         rotate_left
         ·rintro w' ⟨s0, s1, s2, s3⟩
          go_simp
          with_reducible rfl
         rotate_left
         ·simp only [Act.put, List.setIfInBounds_toArray, List.set_cons_zero, List.set_cons_succ, i64_w, i32_w]
          rfl
         refine take_ (i := 11) (N := some 46) (v := ?_) (a' := ?_) #[true, true, true, true, true, true, true, true, true, true, true, true, false, true, true, true, false, false, false, false, false, false] rfl rfl (take_ofW HT_.out HW_.out (by kernel_rfl)) (fun _ _ _ h => h) (Or.inl ⟨by rfl, ?_⟩) hHeld ?_ ?_
         rotate_left
         ·rintro w' ⟨s0, s1, s2, s3⟩
          go_simp
          with_reducible rfl
         rotate_left
         ·simp only [Act.put, List.setIfInBounds_toArray, List.set_cons_zero, List.set_cons_succ, i64_w, i32_w]
          rfl
         refine take_ (i := 16) (N := some 51) (v := ?_) (a' := ?_) #[true, true, true, true, true, true, true, true, true, true, true, true, false, true, true, true, true, false, false, false, false, false] rfl rfl (take_ofW HT_.out HW_.out (by kernel_rfl)) (fun _ _ _ h => h) (Or.inl ⟨by rfl, ?_⟩) hHeld ?_ ?_
         rotate_left
         ·rintro w' ⟨s0, s1, s2, s3⟩
          go_simp
          with_reducible rfl
         rotate_left
         ·simp only [Act.put, List.setIfInBounds_toArray, List.set_cons_zero, List.set_cons_succ, i64_w, i32_w]
          rfl
         refine one_ (i := 12) (N := some 47) #[true, true, true, true, true, true, true, true, true, true, true, true, true, true, true, true, true, false, false, false, false, false] rfl rfl (one_of HT_.out (by kernel_rfl)) (by decide) (fun K hK => ?_)
         refine goes_ Tryd.func86 (by kernel_rfl) rfl #[.string (rdOf ByteArray.empty t1234 x9_1)] (by rfl) rfl rfl lm_ ?_
         with_reducible refine (impl_Digest.calls k1 (rdOf ByteArray.empty t1234 x9_1) t1245 _ ?side1 A16.out).mono ?_
         (case side1 => exact tab_of HT.out bl_)
         rintro e w21 ⟨rfl, hb⟩
         have HS0_ := (hb.cell (World.block_lt_of_cell? _ _ (hHeld.1))).trans (hHeld.1)
         have HS1_ := (hb.cell (World.block_lt_of_cell? _ _ (hHeld.2.1))).trans (hHeld.2.1)
         have HS2_ := (hb.cell (World.block_lt_of_cell? _ _ (hHeld.2.2.1))).trans (hHeld.2.2.1)
         have HS3_ := (hb.cell (World.block_lt_of_cell? _ _ (hHeld.2.2.2))).trans (hHeld.2.2.2)
         refine ⟨_, rfl, ?_⟩
         have n0_ := Aside0.mk (Kd.R_below (ra_ HO_7.out) hb)
         have n1_ := Aside0.mk (Kd.R_below (ra_ HO_8.out) hb)
         have n2_ := Aside0.mk (below_step bl_ hb)
         clear HO_7
         clear HO_8
         clear HB
         have HO_7 := n0_
         have HO_8 := n1_
         have HB := n2_
         clear n0_ n1_ n2_
         (try clear hb)
         (try clear hb2)
         (try clear hk)
         (try clear hi)
         refine hK.out _ _ ⟨HS0_, HS1_, HS2_, HS3_⟩ (fun hHeld => ?_)
         clear hK K
         refine norm_ (a' := ?_) ?_ ?_
         rotate_left
         ·show Act.put _ (some 47) _ = _
          simp only [Act.put, List.setIfInBounds_toArray, List.set_cons_zero, List.set_cons_succ, i64_w, i32_w]
          rfl
         refine one_ (i := 17) (N := some 52) #[true, true, true, true, true, true, true, true, true, true, true, true, true, true, true, true, true, true, false, false, false, false] rfl rfl (one_of HT_.out (by kernel_rfl)) (by decide) (fun K hK => ?_)
         refine goes_ Tryd.func86 (by kernel_rfl) rfl #[.string (rdOf ByteArray.empty t1237 x9_1)] (by rfl) rfl rfl lm_ ?_
         with_reducible refine (impl_Digest.calls k1 (rdOf ByteArray.empty t1237 x9_1) t1247 _ ?side1 A17.out).mono ?_
         (case side1 => exact tab_of HT.out bl_)
         rintro e w22 ⟨rfl, hb⟩
         have HS0_ := (hb.cell (World.block_lt_of_cell? _ _ (hHeld.1))).trans (hHeld.1)
         have HS1_ := (hb.cell (World.block_lt_of_cell? _ _ (hHeld.2.1))).trans (hHeld.2.1)
         have HS2_ := (hb.cell (World.block_lt_of_cell? _ _ (hHeld.2.2.1))).trans (hHeld.2.2.1)
         have HS3_ := (hb.cell (World.block_lt_of_cell? _ _ (hHeld.2.2.2))).trans (hHeld.2.2.2)
         refine ⟨_, rfl, ?_⟩
         have n0_ := Aside0.mk (Kd.R_below (ra_ HO_7.out) hb)
         have n1_ := Aside0.mk (Kd.R_below (ra_ HO_8.out) hb)
         have n2_ := Aside0.mk (below_step bl_ hb)
         clear HO_7
         clear HO_8
         clear HB
         have HO_7 := n0_
         have HO_8 := n1_
         have HB := n2_
         clear n0_ n1_ n2_
         (try clear hb)
         (try clear hb2)
         (try clear hk)
         (try clear hi)
         refine hK.out _ _ ⟨HS0_, HS1_, HS2_, HS3_⟩ (fun hHeld => ?_)
         clear hK K
         refine norm_ (a' := ?_) ?_ ?_
         rotate_left
         ·show Act.put _ (some 52) _ = _
          simp only [Act.put, List.setIfInBounds_toArray, List.set_cons_zero, List.set_cons_succ, i64_w, i32_w]
          rfl
         refine pure_ (i := 18) (N := some 53) (v := ?_) (a' := ?_) #[true, true, true, true, true, true, true, true, true, true, true, true, true, true, true, true, true, true, true, false, false, false] rfl rfl (any_of HT_.out (by kernel_rfl)) (fun _ _ _ h => h) (Or.inl ⟨by rfl, ?_⟩) ?_ ?_
         rotate_left
         ·intro w'
          go_simp
          with_reducible rfl
         rotate_left
         ·simp only [Act.put, List.setIfInBounds_toArray, List.set_cons_zero, List.set_cons_succ, i64_w, i32_w]
          rfl
         refine pure_ (i := 19) (N := some 4) (v := ?_) (a' := ?_) #[true, true, true, true, true, true, true, true, true, true, true, true, true, true, true, true, true, true, true, true, false, false] rfl rfl (any_of HT_.out (by kernel_rfl)) (fun _ _ _ h => h) (Or.inl ⟨by rfl, ?_⟩) ?_ ?_
         rotate_left
         ·intro w'
          go_simp
          with_reducible rfl
         rotate_left
         ·simp only [Act.put, List.setIfInBounds_toArray, List.set_cons_zero, List.set_cons_succ, i64_w, i32_w]
          rfl
         refine pure_ (i := 20) (N := some 5) (v := ?_) (a' := ?_) #[true, true, true, true, true, true, true, true, true, true, true, true, true, true, true, true, true, true, true, true, true, false] rfl rfl (any_of HT_.out (by kernel_rfl)) (fun _ _ _ h => h) (Or.inl ⟨by rfl, ?_⟩) ?_ ?_
         rotate_left
         ·intro w'
          go_simp
          with_reducible rfl
         rotate_left
         ·simp only [Act.put, List.setIfInBounds_toArray, List.set_cons_zero, List.set_cons_succ, i64_w, i32_w]
          rfl
         refine pure_ (i := 21) (N := some 6) (v := ?_) (a' := ?_) #[true, true, true, true, true, true, true, true, true, true, true, true, true, true, true, true, true, true, true, true, true, true] rfl rfl (any_of HT_.out (by kernel_rfl)) (fun _ _ _ h => h) (Or.inl ⟨by rfl, ?_⟩) ?_ ?_
         rotate_left
         ·intro w'
          go_simp
          with_reducible rfl
         rotate_left
         ·simp only [Act.put, List.setIfInBounds_toArray, List.set_cons_zero, List.set_cons_succ, i64_w, i32_w]
          rfl
         refine done_ (done_of HT_.out (by kernel_rfl)) ?_
         try go_wp2
         go_ret3
         exact ⟨by first | rfl | (simp [errW_none, errW_some] <;> rfl) | (simp [*, errW_none, errW_some] <;> rfl), bl_⟩
       ·rw [if_neg c12] at H
        exact absurd H (by simp)
      ·rw [if_neg c11] at H
       exact absurd H (by simp)
     ·rw [if_neg c10] at H
      exact absurd H (by simp)
    ·rw [if_neg c9] at H
     have c9b0 : decide (0 ≤ x9_1) = false := decide_eq_false c9
     clear c9
     simp only [Option.some.injEq, Prod.mk.injEq] at H
     obtain ⟨rfl, rfl, rfl⟩ := H
     go_wp2
     go_ret3
     exact ⟨by first | rfl | (simp [errW_none, errW_some] <;> rfl) | (simp [*, errW_none, errW_some] <;> rfl), bl_⟩
 ·rw [if_neg c3] at H
  have c3b0 : ((l0.length : Int) == (l1.length : Int)) = false := beq_eq_false_iff_ne.mpr c3
  have c3b1 : ((l0.length : Int) != (l1.length : Int)) = true := bne_iff_ne.mpr c3
  have c3b2 : (l0.length == l1.length) = false := by first | simpa using c3 | (simp at c3 ⊢; omega)
  simp only [Option.some.injEq, Prod.mk.injEq] at H
  obtain ⟨rfl, rfl, rfl⟩ := H
  go_enter Tryd.func63, Tryd.ntmps63
  go_wp2
  go_ret3
  exact ⟨by first | rfl | (simp [errW_none, errW_some] <;> rfl) | (simp [*, errW_none, errW_some] <;> rfl), bl_⟩

end Go.Proofs.YtdhjolglbcoijaaDoor.PA
