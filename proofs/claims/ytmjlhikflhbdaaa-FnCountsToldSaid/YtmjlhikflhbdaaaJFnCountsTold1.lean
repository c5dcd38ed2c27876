/- Contracts of functions of the program and of the reference, and plain lemmas on what they compute: a part of the proof of the law FnCountsTold. No condition. -/
import Derived.Test.YtmjlhikflhbdaaaGabbbex0
import Derived.Test.YtmjlhikflhbdaaaGe172dx0
import Derived.Test.YtmjlhikflhbdaaaGc3972x0
import Derived.Test.YtmjlhikflhbdaaaGd53c9x0
import Derived.Test.YtmjlhikflhbdaaaG518b3x0
import Derived.Test.YtmjlhikflhbdaaaG06b76x0
import Derived.Test.YtmjlhikflhbdaaaGe4ebax0
import Derived.Test.YtmjlhikflhbdaaaG679a5x0
import Derived.Test.YtmjlhikflhbdaaaG330b6x0
import Derived.Test.YtmjlhikflhbdaaaV0
import Derived.Test.YtmjlhikflhbdaaaShortV
namespace Go.Proofs.Ytmjlhikflhbdaaa.PA
open Go.RowKit Go.Proofs.Ytmjlhikflhbdaaa.Short Go.Proofs.YtmjlhikflhbdaaaW.PrintWords Go.Proofs.YtmjlhikflhbdaaaW.PrintLast Go.Proofs.YtmjlhikflhbdaaaW.PrintMore
attribute [local go_sem] max2_int min2_int max_two min_two max_three min_three max_four min_four   -- for this text's walks alone
set_option linter.unusedVariables false
set_option linter.unusedSimpArgs false

/-! ### spec_l19Any: function 178 -/
def spec_l19Any.f (k : Nat) (s0_0 : List Int) (s0_1 : Int) (s0_2 : Int) : Option ((List (S131)) × Int × Int) := (spec_l01Below.f s0_0 s0_1 s0_2 10).bind fun bt1223 => ((some (([] : List (S131)) : List (S131))).bind fun y1226 => ((spec_l19Entries.f k s0_0 bt1223.2.1 bt1223.2.2).bind fun bt1229 => (if y1226.length + bt1229.1.length < 2932031007402 then ((some (y1226 ++ bt1229.1 : List (S131))).bind fun y1234 => (if bt1223.1 = 0 then (if y1234.length < 2932031007402 then (some ((y1234 ++ [(⟨5, 1, (⟨0, 0, 0, 0⟩ : S129)⟩ : S131)]), bt1229.2.1, bt1229.2.2)) else (none)) else (if bt1223.1 = 1 then (if y1234.length < 2932031007402 then (some ((y1234 ++ [(⟨0, 0, (⟨0, 0, 0, 0⟩ : S129)⟩ : S131)]), bt1229.2.1, bt1229.2.2)) else (none)) else (some (y1234, bt1229.2.1, bt1229.2.2))))) else (none))))
theorem spec_l19Any.mono : ∀ a0 a1 a2 k, LeO (spec_l19Any.f k a0 a1 a2) (spec_l19Any.f (k + 1) a0 a1 a2) := by
 intro a0 a1 a2 k
 unfold spec_l19Any.f
 repeat' first
  | (with_reducible exact spec_l19Entries.mono _ _ _ _)
  | (with_reducible exact LeO.refl _)
  | (with_reducible exact LeO.none _)
  | (with_reducible refine LeO.ite ?_ ?_)
  | (with_reducible refine LeO.bind ?_ (fun _ => ?_))
  | exact spec_l19Entries.mono _ _ _ _
  | exact LeO.none _
  | refine LeO.ite ?_ ?_
  | refine LeO.bind ?_ (fun _ => ?_)
set_option maxHeartbeats 8000000 in
set_option maxRecDepth 100000 in
theorem spec_l19Any.calls (k : Nat) (g : Nat) (s0_0 : List Int) (s0_1 : Int) (s0_2 : Int) (r1 : List (S131)) (r2 : Int) (r3 : Int) (w0 w : World) (hI : IsS163 w0 w g s0_0 s0_1 s0_2) (hB : Below w0.heap.size w0 w) (h : spec_l19Any.f k s0_0 s0_1 s0_2 = some (r1, r2, r3)) :
 Calls Try.prog 178 #[.pointer (some ⟨g, 0, none⟩)] w fun e w' => ∃ v0_ : Value, e = .returned (v0_) ∧ Kd.R k131 131 w' w.heap.size (fun _ => True) v0_ r1 ∧ IsS163 w0 w' g s0_0 r2 r3 ∧ Below w0.heap.size w0 w' ∧ KeepBut w w' g none := by
 have hu131 := Try.underlying131
 have HI0 := Aside0.mk hI
 have HK := Aside0.mk (KeepBut.refl w g none)
 have HL := Aside0.mk hB.size
 clear hI
 have HW0 := Aside0.mk hB.size
 have HB := Aside0.mk hB
 clear hB
 have H : ((spec_l01Below.f s0_0 s0_1 s0_2 10).bind fun bt1223 => ((some (([] : List (S131)) : List (S131))).bind fun y1226 => ((spec_l19Entries.f k s0_0 bt1223.2.1 bt1223.2.2).bind fun bt1229 => (if y1226.length + bt1229.1.length < 2932031007402 then ((some (y1226 ++ bt1229.1 : List (S131))).bind fun y1234 => (if bt1223.1 = 0 then (if y1234.length < 2932031007402 then (some ((y1234 ++ [(⟨5, 1, (⟨0, 0, 0, 0⟩ : S129)⟩ : S131)]), bt1229.2.1, bt1229.2.2)) else (none)) else (if bt1223.1 = 1 then (if y1234.length < 2932031007402 then (some ((y1234 ++ [(⟨0, 0, (⟨0, 0, 0, 0⟩ : S129)⟩ : S131)]), bt1229.2.1, bt1229.2.2)) else (none)) else (some (y1234, bt1229.2.1, bt1229.2.2))))) else (none))))) = some (r1, r2, r3) := h
 clear h
 replace H := Option.bind_eq_some_iff.mp H
 obtain ⟨⟨t1223, t1224, t1225⟩, A20, H⟩ := H
 try dsimp only at H
 have A2 := Aside0.mk A20
 clear A20
 obtain ⟨y1226, hy1226⟩ : ∃ y_ : List (S131), y_ = (([] : List (S131))) := ⟨_, rfl⟩
 replace H : ((spec_l19Entries.f k s0_0 t1224 t1225).bind fun bt1229 => (if y1226.length + bt1229.1.length < 2932031007402 then ((some (y1226 ++ bt1229.1 : List (S131))).bind fun y1234 => (if t1223 = 0 then (if y1234.length < 2932031007402 then (some ((y1234 ++ [(⟨5, 1, (⟨0, 0, 0, 0⟩ : S129)⟩ : S131)]), bt1229.2.1, bt1229.2.2)) else (none)) else (if t1223 = 1 then (if y1234.length < 2932031007402 then (some ((y1234 ++ [(⟨0, 0, (⟨0, 0, 0, 0⟩ : S129)⟩ : S131)]), bt1229.2.1, bt1229.2.2)) else (none)) else (some (y1234, bt1229.2.1, bt1229.2.2))))) else (none))) = some (r1, r2, r3) := by first | (rw [hy1226]; with_reducible exact H) | (have H2_ := (Option.bind_some _ _).symm.trans H; rw [hy1226]; with_reducible exact H2_) | (have H2_ := (Option.bind_some _ _).symm.trans H; with_reducible exact H2_) | with_reducible exact H | (rw [hy1226]; exact H) | exact H
 have Ny1226 := Aside0.mk hy1226
 clear hy1226
 replace H := Option.bind_eq_some_iff.mp H
 obtain ⟨⟨t1229, t1232, t1233⟩, A30, H⟩ := H
 try dsimp only at H
 have A3 := Aside0.mk A30
 clear A30
 by_cases c4 : y1226.length + t1229.length < 2932031007402
 ·rw [if_pos c4] at H
  have LMc4 := Aside0.mk c4
  clear c4
  obtain ⟨y1234, hy1234⟩ : ∃ y_ : List (S131), y_ = (y1226 ++ t1229) := ⟨_, rfl⟩
  replace H : (if t1223 = 0 then (if y1234.length < 2932031007402 then (some ((y1234 ++ [(⟨5, 1, (⟨0, 0, 0, 0⟩ : S129)⟩ : S131)]), t1232, t1233)) else (none)) else (if t1223 = 1 then (if y1234.length < 2932031007402 then (some ((y1234 ++ [(⟨0, 0, (⟨0, 0, 0, 0⟩ : S129)⟩ : S131)]), t1232, t1233)) else (none)) else (some (y1234, t1232, t1233)))) = some (r1, r2, r3) := by first | (rw [hy1234]; with_reducible exact H) | (have H2_ := (Option.bind_some _ _).symm.trans H; rw [hy1234]; with_reducible exact H2_) | (have H2_ := (Option.bind_some _ _).symm.trans H; with_reducible exact H2_) | with_reducible exact H | (rw [hy1234]; exact H) | exact H
  have Ny1234 := Aside0.mk hy1234
  clear hy1234
  by_cases c5 : t1223 = 0
  ·rw [if_pos c5] at H
   have c5b0 : (t1223 == 0) = true := beq_iff_eq.mpr c5
   have c5b1 : (t1223 != 0) = false := bne_eq_false_iff_eq.mpr c5
   clear c5
   by_cases c6 : y1234.length < 2932031007402
   ·rw [if_pos c6] at H
    have LMc6 := Aside0.mk c6
    clear c6
    obtain ⟨y1237, hy1237⟩ : ∃ y_ : List (S131), y_ = (y1234 ++ [(⟨5, 1, (⟨0, 0, 0, 0⟩ : S129)⟩ : S131)]) := ⟨_, rfl⟩
    replace H : (some (y1237, t1232, t1233)) = some (r1, r2, r3) := by first | (rw [hy1237]; with_reducible exact H) | (have H2_ := (Option.bind_some _ _).symm.trans H; rw [hy1237]; with_reducible exact H2_) | (have H2_ := (Option.bind_some _ _).symm.trans H; with_reducible exact H2_) | with_reducible exact H | (rw [hy1237]; exact H) | exact H
    have Ny1237 := Aside0.mk hy1237
    clear hy1237
    simp only [Option.some.injEq, Prod.mk.injEq] at H
    obtain ⟨rfl, rfl, rfl⟩ := H
    go_enter Try.func178, Try.ntmps178
    go_wp2_with (first | ((with_reducible refine gate_callee (f := 133) rfl ?_); refine goesL_ (some 6) rfl rfl Try.func133 (by kernel_rfl) rfl #[.pointer (some ⟨g, 0, none⟩), .int .i64 10] rfl lm_ ?_; (with_reducible refine (spec_l01Below.calls g s0_0 s0_1 s0_2 10 t1223 t1224 t1225 w0 _ ?side1 ?side2 A2.out).mono ?_); (case side1 => exact is0_); (case side2 => exact bi0_); rintro e w7 ⟨rfl, hi, hb, hk⟩; refine ⟨_, rfl, ?_⟩; have n0_ := Aside0.mk (KeepBut.trans hk_ hk (.inl rfl)); have n1_ := Aside0.mk (hb); have n2_ := Aside0.mk (hi); clear HK; clear HB; clear HI0; have HK := n0_; have HB := n1_; have HI0 := n2_; clear n0_ n1_ n2_; (try clear hb); (try clear hb2); (try clear hk); (try clear hi)) | ((with_reducible refine gate_dst (N := 7) rfl ?_); refine Kd.R_lit k131 _ 131 ?hg (N := 7) ?hd (xs := ([] : List (S131))) (inner := []) (ok := fun _ => True) (okp := fun _ => True) ?hr ?hp (fun _ hk => hk) trivial (Below.refl _ _) (Nat.le_refl _) (by simp) ?_; (case hd => rfl); (case hg => rfl); (case hr => first | (go_simp; done) | (go_simp; rfl)); (case hp => exact (Reps.none _ _)); intro v1227 w8 ho9 hb hg_ hnew_; clear hg_ hnew_; (first | rw [← Ny1226.out] at ho9 | (simp only [Int.reduceToNat] at ho9; rw [← Ny1226.out] at ho9)); have n0_ := Aside0.mk (Kd.R_lower ho9 (keep_size (w := w) (g := g) (row := none) hk_)); have n1_ := Aside0.mk (IsS163.below is0_ hb); have n2_ := Aside0.mk (KeepBut.trans hk_ (KeepBut.of_below hb g none) (.inl rfl)); have n3_ := Aside0.mk (below_step bi0_ hb); clear HI0; clear HK; clear HB; have HO1228 := n0_; have HI0 := n1_; have HK := n2_; have HB := n3_; clear n0_ n1_ n2_ n3_; clear hb ho9) | ((with_reducible refine gate_callee (f := 131) rfl ?_); refine goesL_ (some 9) rfl rfl Try.func131 (by kernel_rfl) rfl #[.pointer (some ⟨g, 0, none⟩)] rfl lm_ ?_; (with_reducible refine (spec_l19Entries.calls k g s0_0 t1224 t1225 t1229 t1232 t1233 w0 _ ?side1 ?side2 A3.out).mono ?_); (case side1 => exact is0_); (case side2 => exact bi0_); rintro e w10 ⟨v1230, rfl, ho0, hi, hb, hk⟩; refine ⟨_, rfl, ?_⟩; have n0_ := Aside0.mk (Kd.R_mono (Kd.R_told (Kd.R_oldK (IsS163.apart (show IsS163 w0 _ g s0_0 t1224 t1225 from is0_) (ra_ HO1228.out) (by decide)) hk) (Kd.R_base ho0)) (fun _ h_ => h_.1)); have n1_ := Aside0.mk (Kd.R_lower (Kd.R_new' ho0 (Kd.R_lt (ra_ HO1228.out))) (keep_size (w := w) (g := g) (row := none) hk_)); have n2_ := Aside0.mk (KeepBut.trans hk_ hk (.inl rfl)); have n3_ := Aside0.mk (hb); have n4_ := Aside0.mk (hi); clear HO1228; clear HK; clear HB; clear HI0; have HO1228 := n0_; have HO1231 := n1_; have HK := n2_; have HB := n3_; have HI0 := n4_; clear n0_ n1_ n2_ n3_ n4_; (try clear hb); (try clear hb2); (try clear hk); (try clear hi); (try clear ho0); obtain ⟨Ao12, co12, eo12⟩ := Kd.R_slice HO1231.out; subst eo12) | ((with_reducible refine gate_builtin (b := .append) (xs := #[.tmp 7, .tmp 9]) rfl ?_); at_builtin; refine Kd.R_append_rows k131 w.heap.size rfl (.tmp 7) (.tmp 9) 50 131 (.agg #[(.int .i64 0), (.int .i64 0), (.int .i64 0), (.int .i64 0), (.int .i64 0), (.int .i64 0)]) 48 rfl Try.underlying50 info131 rfl (by decide) (by omega) v1227 y1226 t1229 _ _ _ (fun k_ => some k_ ≠ (.slice Ao12 t1229.length co12 : Value).ownBlock) (fun _ => False) rfl rfl ?aO ?aR (fun _ _ h => h) (fun _ h => h.elim) ?aF (Below.refl _ _) ?aS ?aL ?_; (case aR => repeat (first | exact (Kd.R_reads' HO1231.out).2.2 | (with_reducible refine Kd.C_alloc ?_ _) | (with_reducible refine Kd.C_drewN ?_ _) | (with_reducible refine Kd.C_drew ?_))); (case aF => exact (fun k_ hk => Kd.fresh' (Kd.R_lt (ra_ HO1231.out)) k_ hk)); (case aO => exact (by (with_reducible repeat (first | apply Kd.R_alloc | apply Kd.R_drewN | apply Kd.R_drew)); exact Kd.R_mono HO1228.out (fun _ hk => hk.2))); (case aS => exact (keep_size (w := w) (g := g) (row := none) hk_)); (case aL => have := LMc4.out; omega); intro v1235 w11 ho hb hg hat; rw [← Ny1234.out] at ho; have n0_ := Aside0.mk (IsS163.grown (show IsS163 w0 _ g s0_0 t1232 t1233 from is0_) hg (IsS163.own_ne HI0.out HO1228.out (by decide))); have n1_ := Aside0.mk (Kd.R_after (ok := (fun _ => True)) (ra_ HO1231.out) hg hat); have n2_ := Aside0.mk (below_weaken bi0_ HL.out hb); have n3_ := Aside0.mk (KeepBut.trans hk_ (KeepBut.of_grown hg g) (Kd.R_base2 HO1228.out)); have n4_ := Aside0.mk (ho); clear HI0; clear HO1231; clear HB; clear HK; clear HO1228; have HI0 := n0_; have HO1231 := n1_; have HB := n2_; have HK := n3_; have HO1236 := n4_; clear n0_ n1_ n2_ n3_ n4_; clear ho hb hg hat) | ((with_reducible refine gate_builtin (b := .append) (xs := #[.tmp 14, .tmp 16]) rfl ?_); at_builtin; refine Kd.R_append k131 w.heap.size rfl (.tmp 14) (.tmp 16) 50 131 (.agg #[(.int .i64 0), (.int .i64 0), (.int .i64 0), (.int .i64 0), (.int .i64 0), (.int .i64 0)]) 48 rfl Try.underlying50 info131 rfl (by decide) (by omega) v1235 y1234 (⟨5, 1, (⟨0, 0, 0, 0⟩ : S129)⟩ : S131) [.int .i64 5, .int .i64 1, .int .i64 0, .int .i64 0, .int .i64 0, .int .i64 0] (fun k_ => some k_ ≠ (.slice Ao12 t1229.length co12 : Value).ownBlock) (fun _ => False) rfl rfl ?aP (fun _ hk => hk.elim) ?aF ?aO (Below.refl _ _) ?aS ?aL ?_; (case aP => exact k131_mkM _ _ _ (⟨5, 1, (⟨0, 0, 0, 0⟩ : S129)⟩ : S131)); (case aF => exact (fun k_ hk => Kd.fresh' (Kd.R_lt (ra_ HO1231.out)) k_ hk)); (case aO => exact (ra_ HO1236.out)); (case aS => exact (keep_size (w := w) (g := g) (row := none) hk_)); (case aL => have := LMc6.out; omega); intro v1238 w13 ho hb hg hat; rw [← Ny1237.out] at ho; have n0_ := Aside0.mk (IsS163.grown (show IsS163 w0 _ g s0_0 t1232 t1233 from is0_) hg (IsS163.own_ne HI0.out HO1236.out (by decide))); have n1_ := Aside0.mk (Kd.R_after (ok := (fun _ => True)) (ra_ HO1231.out) hg hat); have n2_ := Aside0.mk (below_weaken bi0_ HL.out hb); have n3_ := Aside0.mk (KeepBut.trans hk_ (KeepBut.of_grown hg g) (Kd.R_base2 HO1236.out)); have n4_ := Aside0.mk (ho); clear HI0; clear HO1231; clear HB; clear HK; clear HO1236; have HI0 := n0_; have HO1231 := n1_; have HB := n2_; have HK := n3_; have HO1239 := n4_; clear n0_ n1_ n2_ n3_ n4_; clear ho hb hg hat))
    go_ret
    exact ⟨_, by first | rfl | (simp [errW_none, errW_some] <;> rfl) | (simp [*, errW_none, errW_some] <;> rfl) | exact False.elim (Bool.noConfusion ((decide_eq_true (of_eq_true (by assumption))).symm.trans (by assumption))), by (with_reducible repeat (first | apply Kd.R_alloc | apply Kd.R_drewN | apply Kd.R_drew)); exact Kd.R_mono HO1239.out (fun _ hk => trivial), is0_, bi0_, hk_⟩
   ·rw [if_neg c6] at H
    exact absurd H (by simp)
  ·rw [if_neg c5] at H
   have c5b0 : (t1223 == 0) = false := beq_eq_false_iff_ne.mpr c5
   have c5b1 : (t1223 != 0) = true := bne_iff_ne.mpr c5
   by_cases c14 : t1223 = 1
   ·rw [if_pos c14] at H
    have c14b0 : (t1223 == 1) = true := beq_iff_eq.mpr c14
    have c14b1 : (t1223 != 1) = false := bne_eq_false_iff_eq.mpr c14
    clear c14
    by_cases c15 : y1234.length < 2932031007402
    ·rw [if_pos c15] at H
     have LMc15 := Aside0.mk c15
     clear c15
     obtain ⟨y1240, hy1240⟩ : ∃ y_ : List (S131), y_ = (y1234 ++ [(⟨0, 0, (⟨0, 0, 0, 0⟩ : S129)⟩ : S131)]) := ⟨_, rfl⟩
     replace H : (some (y1240, t1232, t1233)) = some (r1, r2, r3) := by first | (rw [hy1240]; with_reducible exact H) | (have H2_ := (Option.bind_some _ _).symm.trans H; rw [hy1240]; with_reducible exact H2_) | (have H2_ := (Option.bind_some _ _).symm.trans H; with_reducible exact H2_) | with_reducible exact H | (rw [hy1240]; exact H) | exact H
     have Ny1240 := Aside0.mk hy1240
     clear hy1240
     simp only [Option.some.injEq, Prod.mk.injEq] at H
     obtain ⟨rfl, rfl, rfl⟩ := H
     go_enter Try.func178, Try.ntmps178
     go_wp2_with (first | ((with_reducible refine gate_callee (f := 133) rfl ?_); refine goesL_ (some 6) rfl rfl Try.func133 (by kernel_rfl) rfl #[.pointer (some ⟨g, 0, none⟩), .int .i64 10] rfl lm_ ?_; (with_reducible refine (spec_l01Below.calls g s0_0 s0_1 s0_2 10 t1223 t1224 t1225 w0 _ ?side1 ?side2 A2.out).mono ?_); (case side1 => exact is0_); (case side2 => exact bi0_); rintro e w16 ⟨rfl, hi, hb, hk⟩; refine ⟨_, rfl, ?_⟩; have n0_ := Aside0.mk (KeepBut.trans hk_ hk (.inl rfl)); have n1_ := Aside0.mk (hb); have n2_ := Aside0.mk (hi); clear HK; clear HB; clear HI0; have HK := n0_; have HB := n1_; have HI0 := n2_; clear n0_ n1_ n2_; (try clear hb); (try clear hb2); (try clear hk); (try clear hi)) | ((with_reducible refine gate_dst (N := 7) rfl ?_); refine Kd.R_lit k131 _ 131 ?hg (N := 7) ?hd (xs := ([] : List (S131))) (inner := []) (ok := fun _ => True) (okp := fun _ => True) ?hr ?hp (fun _ hk => hk) trivial (Below.refl _ _) (Nat.le_refl _) (by simp) ?_; (case hd => rfl); (case hg => rfl); (case hr => first | (go_simp; done) | (go_simp; rfl)); (case hp => exact (Reps.none _ _)); intro v1227 w17 ho18 hb hg_ hnew_; clear hg_ hnew_; (first | rw [← Ny1226.out] at ho18 | (simp only [Int.reduceToNat] at ho18; rw [← Ny1226.out] at ho18)); have n0_ := Aside0.mk (Kd.R_lower ho18 (keep_size (w := w) (g := g) (row := none) hk_)); have n1_ := Aside0.mk (IsS163.below is0_ hb); have n2_ := Aside0.mk (KeepBut.trans hk_ (KeepBut.of_below hb g none) (.inl rfl)); have n3_ := Aside0.mk (below_step bi0_ hb); clear HI0; clear HK; clear HB; have HO1228 := n0_; have HI0 := n1_; have HK := n2_; have HB := n3_; clear n0_ n1_ n2_ n3_; clear hb ho18) | ((with_reducible refine gate_callee (f := 131) rfl ?_); refine goesL_ (some 9) rfl rfl Try.func131 (by kernel_rfl) rfl #[.pointer (some ⟨g, 0, none⟩)] rfl lm_ ?_; (with_reducible refine (spec_l19Entries.calls k g s0_0 t1224 t1225 t1229 t1232 t1233 w0 _ ?side1 ?side2 A3.out).mono ?_); (case side1 => exact is0_); (case side2 => exact bi0_); rintro e w19 ⟨v1230, rfl, ho0, hi, hb, hk⟩; refine ⟨_, rfl, ?_⟩; have n0_ := Aside0.mk (Kd.R_mono (Kd.R_told (Kd.R_oldK (IsS163.apart (show IsS163 w0 _ g s0_0 t1224 t1225 from is0_) (ra_ HO1228.out) (by decide)) hk) (Kd.R_base ho0)) (fun _ h_ => h_.1)); have n1_ := Aside0.mk (Kd.R_lower (Kd.R_new' ho0 (Kd.R_lt (ra_ HO1228.out))) (keep_size (w := w) (g := g) (row := none) hk_)); have n2_ := Aside0.mk (KeepBut.trans hk_ hk (.inl rfl)); have n3_ := Aside0.mk (hb); have n4_ := Aside0.mk (hi); clear HO1228; clear HK; clear HB; clear HI0; have HO1228 := n0_; have HO1231 := n1_; have HK := n2_; have HB := n3_; have HI0 := n4_; clear n0_ n1_ n2_ n3_ n4_; (try clear hb); (try clear hb2); (try clear hk); (try clear hi); (try clear ho0); obtain ⟨Ao21, co21, eo21⟩ := Kd.R_slice HO1231.out; subst eo21) | ((with_reducible refine gate_builtin (b := .append) (xs := #[.tmp 7, .tmp 9]) rfl ?_); at_builtin; refine Kd.R_append_rows k131 w.heap.size rfl (.tmp 7) (.tmp 9) 50 131 (.agg #[(.int .i64 0), (.int .i64 0), (.int .i64 0), (.int .i64 0), (.int .i64 0), (.int .i64 0)]) 48 rfl Try.underlying50 info131 rfl (by decide) (by omega) v1227 y1226 t1229 _ _ _ (fun k_ => some k_ ≠ (.slice Ao21 t1229.length co21 : Value).ownBlock) (fun _ => False) rfl rfl ?aO ?aR (fun _ _ h => h) (fun _ h => h.elim) ?aF (Below.refl _ _) ?aS ?aL ?_; (case aR => repeat (first | exact (Kd.R_reads' HO1231.out).2.2 | (with_reducible refine Kd.C_alloc ?_ _) | (with_reducible refine Kd.C_drewN ?_ _) | (with_reducible refine Kd.C_drew ?_))); (case aF => exact (fun k_ hk => Kd.fresh' (Kd.R_lt (ra_ HO1231.out)) k_ hk)); (case aO => exact (by (with_reducible repeat (first | apply Kd.R_alloc | apply Kd.R_drewN | apply Kd.R_drew)); exact Kd.R_mono HO1228.out (fun _ hk => hk.2))); (case aS => exact (keep_size (w := w) (g := g) (row := none) hk_)); (case aL => have := LMc4.out; omega); intro v1235 w20 ho hb hg hat; rw [← Ny1234.out] at ho; have n0_ := Aside0.mk (IsS163.grown (show IsS163 w0 _ g s0_0 t1232 t1233 from is0_) hg (IsS163.own_ne HI0.out HO1228.out (by decide))); have n1_ := Aside0.mk (Kd.R_after (ok := (fun _ => True)) (ra_ HO1231.out) hg hat); have n2_ := Aside0.mk (below_weaken bi0_ HL.out hb); have n3_ := Aside0.mk (KeepBut.trans hk_ (KeepBut.of_grown hg g) (Kd.R_base2 HO1228.out)); have n4_ := Aside0.mk (ho); clear HI0; clear HO1231; clear HB; clear HK; clear HO1228; have HI0 := n0_; have HO1231 := n1_; have HB := n2_; have HK := n3_; have HO1236 := n4_; clear n0_ n1_ n2_ n3_ n4_; clear ho hb hg hat) | ((with_reducible refine gate_builtin (b := .append) (xs := #[.tmp 20, .tmp 22]) rfl ?_); at_builtin; refine Kd.R_append k131 w.heap.size rfl (.tmp 20) (.tmp 22) 50 131 (.agg #[(.int .i64 0), (.int .i64 0), (.int .i64 0), (.int .i64 0), (.int .i64 0), (.int .i64 0)]) 48 rfl Try.underlying50 info131 rfl (by decide) (by omega) v1235 y1234 (⟨0, 0, (⟨0, 0, 0, 0⟩ : S129)⟩ : S131) [.int .i64 0, .int .i64 0, .int .i64 0, .int .i64 0, .int .i64 0, .int .i64 0] (fun k_ => some k_ ≠ (.slice Ao21 t1229.length co21 : Value).ownBlock) (fun _ => False) rfl rfl ?aP (fun _ hk => hk.elim) ?aF ?aO (Below.refl _ _) ?aS ?aL ?_; (case aP => exact k131_mkM _ _ _ (⟨0, 0, (⟨0, 0, 0, 0⟩ : S129)⟩ : S131)); (case aF => exact (fun k_ hk => Kd.fresh' (Kd.R_lt (ra_ HO1231.out)) k_ hk)); (case aO => exact (ra_ HO1236.out)); (case aS => exact (keep_size (w := w) (g := g) (row := none) hk_)); (case aL => have := LMc15.out; omega); intro v1241 w22 ho hb hg hat; rw [← Ny1240.out] at ho; have n0_ := Aside0.mk (IsS163.grown (show IsS163 w0 _ g s0_0 t1232 t1233 from is0_) hg (IsS163.own_ne HI0.out HO1236.out (by decide))); have n1_ := Aside0.mk (Kd.R_after (ok := (fun _ => True)) (ra_ HO1231.out) hg hat); have n2_ := Aside0.mk (below_weaken bi0_ HL.out hb); have n3_ := Aside0.mk (KeepBut.trans hk_ (KeepBut.of_grown hg g) (Kd.R_base2 HO1236.out)); have n4_ := Aside0.mk (ho); clear HI0; clear HO1231; clear HB; clear HK; clear HO1236; have HI0 := n0_; have HO1231 := n1_; have HB := n2_; have HK := n3_; have HO1242 := n4_; clear n0_ n1_ n2_ n3_ n4_; clear ho hb hg hat))
     go_ret
     exact ⟨_, by first | rfl | (simp [errW_none, errW_some] <;> rfl) | (simp [*, errW_none, errW_some] <;> rfl) | exact False.elim (Bool.noConfusion ((decide_eq_true (of_eq_true (by assumption))).symm.trans (by assumption))), by (with_reducible repeat (first | apply Kd.R_alloc | apply Kd.R_drewN | apply Kd.R_drew)); exact Kd.R_mono HO1242.out (fun _ hk => trivial), is0_, bi0_, hk_⟩
    ·rw [if_neg c15] at H
     exact absurd H (by simp)
   ·rw [if_neg c14] at H
    have c14b0 : (t1223 == 1) = false := beq_eq_false_iff_ne.mpr c14
    have c14b1 : (t1223 != 1) = true := bne_iff_ne.mpr c14
    simp only [Option.some.injEq, Prod.mk.injEq] at H
    obtain ⟨rfl, rfl, rfl⟩ := H
    go_enter Try.func178, Try.ntmps178
    go_wp2_with (first | ((with_reducible refine gate_callee (f := 133) rfl ?_); refine goesL_ (some 6) rfl rfl Try.func133 (by kernel_rfl) rfl #[.pointer (some ⟨g, 0, none⟩), .int .i64 10] rfl lm_ ?_; (with_reducible refine (spec_l01Below.calls g s0_0 s0_1 s0_2 10 t1223 t1224 t1225 w0 _ ?side1 ?side2 A2.out).mono ?_); (case side1 => exact is0_); (case side2 => exact bi0_); rintro e w23 ⟨rfl, hi, hb, hk⟩; refine ⟨_, rfl, ?_⟩; have n0_ := Aside0.mk (KeepBut.trans hk_ hk (.inl rfl)); have n1_ := Aside0.mk (hb); have n2_ := Aside0.mk (hi); clear HK; clear HB; clear HI0; have HK := n0_; have HB := n1_; have HI0 := n2_; clear n0_ n1_ n2_; (try clear hb); (try clear hb2); (try clear hk); (try clear hi)) | ((with_reducible refine gate_dst (N := 7) rfl ?_); refine Kd.R_lit k131 _ 131 ?hg (N := 7) ?hd (xs := ([] : List (S131))) (inner := []) (ok := fun _ => True) (okp := fun _ => True) ?hr ?hp (fun _ hk => hk) trivial (Below.refl _ _) (Nat.le_refl _) (by simp) ?_; (case hd => rfl); (case hg => rfl); (case hr => first | (go_simp; done) | (go_simp; rfl)); (case hp => exact (Reps.none _ _)); intro v1227 w24 ho25 hb hg_ hnew_; clear hg_ hnew_; (first | rw [← Ny1226.out] at ho25 | (simp only [Int.reduceToNat] at ho25; rw [← Ny1226.out] at ho25)); have n0_ := Aside0.mk (Kd.R_lower ho25 (keep_size (w := w) (g := g) (row := none) hk_)); have n1_ := Aside0.mk (IsS163.below is0_ hb); have n2_ := Aside0.mk (KeepBut.trans hk_ (KeepBut.of_below hb g none) (.inl rfl)); have n3_ := Aside0.mk (below_step bi0_ hb); clear HI0; clear HK; clear HB; have HO1228 := n0_; have HI0 := n1_; have HK := n2_; have HB := n3_; clear n0_ n1_ n2_ n3_; clear hb ho25) | ((with_reducible refine gate_callee (f := 131) rfl ?_); refine goesL_ (some 9) rfl rfl Try.func131 (by kernel_rfl) rfl #[.pointer (some ⟨g, 0, none⟩)] rfl lm_ ?_; (with_reducible refine (spec_l19Entries.calls k g s0_0 t1224 t1225 t1229 t1232 t1233 w0 _ ?side1 ?side2 A3.out).mono ?_); (case side1 => exact is0_); (case side2 => exact bi0_); rintro e w26 ⟨v1230, rfl, ho0, hi, hb, hk⟩; refine ⟨_, rfl, ?_⟩; have n0_ := Aside0.mk (Kd.R_mono (Kd.R_told (Kd.R_oldK (IsS163.apart (show IsS163 w0 _ g s0_0 t1224 t1225 from is0_) (ra_ HO1228.out) (by decide)) hk) (Kd.R_base ho0)) (fun _ h_ => h_.1)); have n1_ := Aside0.mk (Kd.R_lower (Kd.R_new' ho0 (Kd.R_lt (ra_ HO1228.out))) (keep_size (w := w) (g := g) (row := none) hk_)); have n2_ := Aside0.mk (KeepBut.trans hk_ hk (.inl rfl)); have n3_ := Aside0.mk (hb); have n4_ := Aside0.mk (hi); clear HO1228; clear HK; clear HB; clear HI0; have HO1228 := n0_; have HO1231 := n1_; have HK := n2_; have HB := n3_; have HI0 := n4_; clear n0_ n1_ n2_ n3_ n4_; (try clear hb); (try clear hb2); (try clear hk); (try clear hi); (try clear ho0); obtain ⟨Ao28, co28, eo28⟩ := Kd.R_slice HO1231.out; subst eo28) | ((with_reducible refine gate_builtin (b := .append) (xs := #[.tmp 7, .tmp 9]) rfl ?_); at_builtin; refine Kd.R_append_rows k131 w.heap.size rfl (.tmp 7) (.tmp 9) 50 131 (.agg #[(.int .i64 0), (.int .i64 0), (.int .i64 0), (.int .i64 0), (.int .i64 0), (.int .i64 0)]) 48 rfl Try.underlying50 info131 rfl (by decide) (by omega) v1227 y1226 t1229 _ _ _ (fun k_ => some k_ ≠ (.slice Ao28 t1229.length co28 : Value).ownBlock) (fun _ => False) rfl rfl ?aO ?aR (fun _ _ h => h) (fun _ h => h.elim) ?aF (Below.refl _ _) ?aS ?aL ?_; (case aR => repeat (first | exact (Kd.R_reads' HO1231.out).2.2 | (with_reducible refine Kd.C_alloc ?_ _) | (with_reducible refine Kd.C_drewN ?_ _) | (with_reducible refine Kd.C_drew ?_))); (case aF => exact (fun k_ hk => Kd.fresh' (Kd.R_lt (ra_ HO1231.out)) k_ hk)); (case aO => exact (by (with_reducible repeat (first | apply Kd.R_alloc | apply Kd.R_drewN | apply Kd.R_drew)); exact Kd.R_mono HO1228.out (fun _ hk => hk.2))); (case aS => exact (keep_size (w := w) (g := g) (row := none) hk_)); (case aL => have := LMc4.out; omega); intro v1235 w27 ho hb hg hat; rw [← Ny1234.out] at ho; have n0_ := Aside0.mk (IsS163.grown (show IsS163 w0 _ g s0_0 t1232 t1233 from is0_) hg (IsS163.own_ne HI0.out HO1228.out (by decide))); have n1_ := Aside0.mk (Kd.R_after (ok := (fun _ => True)) (ra_ HO1231.out) hg hat); have n2_ := Aside0.mk (below_weaken bi0_ HL.out hb); have n3_ := Aside0.mk (KeepBut.trans hk_ (KeepBut.of_grown hg g) (Kd.R_base2 HO1228.out)); have n4_ := Aside0.mk (ho); clear HI0; clear HO1231; clear HB; clear HK; clear HO1228; have HI0 := n0_; have HO1231 := n1_; have HB := n2_; have HK := n3_; have HO1236 := n4_; clear n0_ n1_ n2_ n3_ n4_; clear ho hb hg hat))
    go_ret
    exact ⟨_, by first | rfl | (simp [errW_none, errW_some] <;> rfl) | (simp [*, errW_none, errW_some] <;> rfl) | exact False.elim (Bool.noConfusion ((decide_eq_true (of_eq_true (by assumption))).symm.trans (by assumption))), by (with_reducible repeat (first | apply Kd.R_alloc | apply Kd.R_drewN | apply Kd.R_drew)); exact Kd.R_mono HO1236.out (fun _ hk => trivial), is0_, bi0_, hk_⟩
 ·rw [if_neg c4] at H
  exact absurd H (by simp)


/-! ### spec_l26Draw: function 134 -/
def spec_l26Draw.f (k : Nat) (l0 : List Int) : Option ((List (S131)) × Int) := (spec_l01New.f k l0).bind fun bt1243 => ((spec_l01Below.f bt1243.1 bt1243.2.1 bt1243.2.2 5).bind fun bt1247 => ((spec_l19Any.f k bt1243.1 bt1247.2.1 bt1247.2.2).bind fun bt1250 => ((spec_l19Entries.f k bt1243.1 bt1250.2.1 bt1250.2.2).bind fun bt1255 => (if bt1250.1.length + bt1255.1.length < 2932031007402 then (some ((bt1250.1 ++ bt1255.1), wrap64 (bt1247.1 - 1))) else (none)))))
theorem spec_l26Draw.mono : ∀ a0 k, LeO (spec_l26Draw.f k a0) (spec_l26Draw.f (k + 1) a0) := by
 intro a0 k
 unfold spec_l26Draw.f
 repeat' first
  | (with_reducible exact spec_l01New.mono _ _)
  | (with_reducible exact spec_l19Any.mono _ _ _ _)
  | (with_reducible exact spec_l19Entries.mono _ _ _ _)
  | (with_reducible exact LeO.refl _)
  | (with_reducible exact LeO.none _)
  | (with_reducible refine LeO.ite ?_ ?_)
  | (with_reducible refine LeO.bind ?_ (fun _ => ?_))
  | exact spec_l01New.mono _ _
  | exact spec_l19Any.mono _ _ _ _
  | exact spec_l19Entries.mono _ _ _ _
  | exact LeO.none _
  | refine LeO.ite ?_ ?_
  | refine LeO.bind ?_ (fun _ => ?_)
set_option maxHeartbeats 8000000 in
set_option maxRecDepth 100000 in
theorem spec_l26Draw.calls (k : Nat) (A0 : Option Addr) (c0 : Nat) (l0 : List Int) (r1 : List (S131)) (r2 : Int) (w : World) (hr0 : Kd.C (Kd.int .u8) w A0 l0.length l0) (hc0 : l0.length ≤ c0) (h : spec_l26Draw.f k l0 = some (r1, r2)) :
 Calls Try.prog 134 #[.slice A0 l0.length c0] w fun e w' => ∃ v0_ : Value, e = .returned (.tuple #[v0_, .int .i64 r2]) ∧ Kd.R k131 131 w' w.heap.size (fun _ => True) v0_ r1 ∧ Below w.heap.size w w' := by
 have HR0 := Aside0.mk hr0
 have HC0 := Aside0.mk hc0
 clear hr0 hc0
 have HB := Aside0.mk (Below.refl w.heap.size w)
 have H : ((spec_l01New.f k l0).bind fun bt1243 => ((spec_l01Below.f bt1243.1 bt1243.2.1 bt1243.2.2 5).bind fun bt1247 => ((spec_l19Any.f k bt1243.1 bt1247.2.1 bt1247.2.2).bind fun bt1250 => ((spec_l19Entries.f k bt1243.1 bt1250.2.1 bt1250.2.2).bind fun bt1255 => (if bt1250.1.length + bt1255.1.length < 2932031007402 then (some ((bt1250.1 ++ bt1255.1), wrap64 (bt1247.1 - 1))) else (none)))))) = some (r1, r2) := h
 clear h
 replace H := Option.bind_eq_some_iff.mp H
 obtain ⟨⟨t1243, t1244, t1245⟩, A20, H⟩ := H
 try dsimp only at H
 have A2 := Aside0.mk A20
 clear A20
 replace H := Option.bind_eq_some_iff.mp H
 obtain ⟨⟨t1247, t1248, t1249⟩, A30, H⟩ := H
 try dsimp only at H
 have A3 := Aside0.mk A30
 clear A30
 replace H := Option.bind_eq_some_iff.mp H
 obtain ⟨⟨t1250, t1253, t1254⟩, A40, H⟩ := H
 try dsimp only at H
 have A4 := Aside0.mk A40
 clear A40
 replace H := Option.bind_eq_some_iff.mp H
 obtain ⟨⟨t1255, t1258, t1259⟩, A50, H⟩ := H
 try dsimp only at H
 have A5 := Aside0.mk A50
 clear A50
 by_cases c6 : t1250.length + t1255.length < 2932031007402
 ·rw [if_pos c6] at H
  have LMc6 := Aside0.mk c6
  clear c6
  obtain ⟨y1260, hy1260⟩ : ∃ y_ : List (S131), y_ = (t1250 ++ t1255) := ⟨_, rfl⟩
  replace H : (some (y1260, wrap64 (t1247 - 1))) = some (r1, r2) := by first | (rw [hy1260]; with_reducible exact H) | (have H2_ := (Option.bind_some _ _).symm.trans H; rw [hy1260]; with_reducible exact H2_) | (have H2_ := (Option.bind_some _ _).symm.trans H; with_reducible exact H2_) | with_reducible exact H | (rw [hy1260]; exact H) | exact H
  have Ny1260 := Aside0.mk hy1260
  clear hy1260
  simp only [Option.some.injEq, Prod.mk.injEq] at H
  obtain ⟨rfl, rfl⟩ := H
  go_enter Try.func134, Try.ntmps134
  go_wp2_with (first | ((with_reducible refine gate_callee (f := 100) rfl ?_); refine goesL_ (some 8) rfl rfl Try.func100 (by kernel_rfl) rfl #[.slice A0 l0.length c0] rfl lm_ ?_; (with_reducible refine (spec_l01New.calls k _ _ l0 t1243 t1244 t1245 w _ ?side1 ?side2 ?side3 A2.out).mono ?_); (case side1 => repeat (first | (with_reducible first | exact HB.out | apply below_alloc | apply pw_below_drewN | apply below_drew1) | exact HB.out)); (case side2 => exact HR0.out); (case side3 => exact HC0.out); rintro e w7 ⟨g1246, rfl, hi, hb, hb2⟩; refine ⟨_, rfl, ?_⟩; have n0_ := Aside0.mk (hb); have n1_ := Aside0.mk (hi); clear HB; have HB := n0_; have HI1246 := n1_; clear n0_ n1_; (try clear hb); (try clear hb2); (try clear hk); (try clear hi)) | ((with_reducible refine gate_callee (f := 133) rfl ?_); refine goesL_ (some 10) rfl rfl Try.func133 (by kernel_rfl) rfl #[.pointer (some ⟨g1246, 0, none⟩), .int .i64 5] rfl lm_ ?_; (with_reducible refine (spec_l01Below.calls g1246 t1243 t1244 t1245 5 t1247 t1248 t1249 w _ ?side1 ?side2 A3.out).mono ?_); (case side1 => exact is3_); (case side2 => exact bi3_); rintro e w8 ⟨rfl, hi, hb, hk⟩; refine ⟨_, rfl, ?_⟩; have n0_ := Aside0.mk (hb); have n1_ := Aside0.mk (hi); clear HB; clear HI1246; have HB := n0_; have HI1246 := n1_; clear n0_ n1_; (try clear hb); (try clear hb2); (try clear hk); (try clear hi)) | ((with_reducible refine gate_callee (f := 178) rfl ?_); refine goesL_ (some 13) rfl rfl Try.func178 (by kernel_rfl) rfl #[.pointer (some ⟨g1246, 0, none⟩)] rfl lm_ ?_; (with_reducible refine (spec_l19Any.calls k g1246 t1243 t1248 t1249 t1250 t1253 t1254 w _ ?side1 ?side2 A4.out).mono ?_); (case side1 => exact is3_); (case side2 => exact bi3_); rintro e w9 ⟨v1251, rfl, ho0, hi, hb, hk⟩; refine ⟨_, rfl, ?_⟩; have n0_ := Aside0.mk (Kd.R_lower ho0 (below_size bi3_)); have n1_ := Aside0.mk (hb); have n2_ := Aside0.mk (hi); clear HB; clear HI1246; have HO1252 := n0_; have HB := n1_; have HI1246 := n2_; clear n0_ n1_ n2_; (try clear hb); (try clear hb2); (try clear hk); (try clear hi); (try clear ho0)) | ((with_reducible refine gate_callee (f := 131) rfl ?_); refine goesL_ (some 15) rfl rfl Try.func131 (by kernel_rfl) rfl #[.pointer (some ⟨g1246, 0, none⟩)] rfl lm_ ?_; (with_reducible refine (spec_l19Entries.calls k g1246 t1243 t1253 t1254 t1255 t1258 t1259 w _ ?side1 ?side2 A5.out).mono ?_); (case side1 => exact is3_); (case side2 => exact bi3_); rintro e w10 ⟨v1256, rfl, ho0, hi, hb, hk⟩; refine ⟨_, rfl, ?_⟩; have n0_ := Aside0.mk (Kd.R_mono (Kd.R_told (Kd.R_oldK (IsS163.apart (show IsS163 w _ g1246 t1243 t1253 t1254 from is3_) (ra_ HO1252.out) (by decide)) hk) (Kd.R_base ho0)) (fun _ h_ => h_.1)); have n1_ := Aside0.mk (Kd.R_lower (Kd.R_new' ho0 (Kd.R_lt (ra_ HO1252.out))) (below_size bi3_)); have n2_ := Aside0.mk (hb); have n3_ := Aside0.mk (hi); clear HO1252; clear HB; clear HI1246; have HO1252 := n0_; have HO1257 := n1_; have HB := n2_; have HI1246 := n3_; clear n0_ n1_ n2_ n3_; (try clear hb); (try clear hb2); (try clear hk); (try clear hi); (try clear ho0); obtain ⟨Ao12, co12, eo12⟩ := Kd.R_slice HO1257.out; subst eo12) | ((with_reducible refine gate_builtin (b := .append) (xs := #[.tmp 13, .tmp 15]) rfl ?_); at_builtin; refine Kd.R_append_rows k131 (w0 := w) w.heap.size rfl (.tmp 13) (.tmp 15) 50 131 (.agg #[(.int .i64 0), (.int .i64 0), (.int .i64 0), (.int .i64 0), (.int .i64 0), (.int .i64 0)]) 48 rfl Try.underlying50 info131 rfl (by decide) (by omega) v1251 t1250 t1255 _ _ _ (fun k_ => some k_ ≠ (.slice Ao12 t1255.length co12 : Value).ownBlock) (fun _ => False) rfl rfl ?aO ?aR (fun _ _ h => h) (fun _ h => h.elim) ?aF ?aB ?aS ?aL ?_; (case aR => repeat (first | exact (Kd.R_reads' HO1257.out).2.2 | (with_reducible refine Kd.C_alloc ?_ _) | (with_reducible refine Kd.C_drewN ?_ _) | (with_reducible refine Kd.C_drew ?_))); (case aB => exact bi3_); (case aF => exact (fun k_ hk => Kd.fresh' (Kd.R_lt (ra_ HO1257.out)) k_ hk)); (case aO => exact (by (with_reducible repeat (first | apply Kd.R_alloc | apply Kd.R_drewN | apply Kd.R_drew)); exact Kd.R_mono HO1252.out (fun _ hk => hk.2))); (case aS => exact (below_size bi3_)); (case aL => have := LMc6.out; omega); intro v1261 w11 ho hb hg hat; rw [← Ny1260.out] at ho; have n0_ := Aside0.mk (IsS163.grown (show IsS163 w _ g1246 t1243 t1258 t1259 from is3_) hg (IsS163.own_ne HI1246.out HO1252.out (by decide))); have n1_ := Aside0.mk (Kd.R_after (ok := (fun _ => True)) (ra_ HO1257.out) hg hat); have n2_ := Aside0.mk (hb); have n3_ := Aside0.mk (ho); clear HI1246; clear HO1257; clear HB; clear HO1252; have HI1246 := n0_; have HO1257 := n1_; have HB := n2_; have HO1262 := n3_; clear n0_ n1_ n2_ n3_; clear ho hb hg hat))
  go_ret2
  exact ⟨_, by first | rfl | (simp [errW_none, errW_some] <;> rfl) | (simp [*, errW_none, errW_some] <;> rfl) | exact False.elim (Bool.noConfusion ((decide_eq_true (of_eq_true (by assumption))).symm.trans (by assumption))), by (with_reducible repeat (first | apply Kd.R_alloc | apply Kd.R_drewN | apply Kd.R_drew)); exact Kd.R_mono HO1262.out (fun _ hk => trivial), bi3_⟩
 ·rw [if_neg c6] at H
  exact absurd H (by simp)


/-! ### spec_DrawToldBy: function 58 -/
def spec_DrawToldBy.f (k : Nat) (l0 : List Int) : Option ((List (S131)) × Int) := (spec_l26Draw.f k l0).bind fun bt1263 => (some (bt1263.1, bt1263.2))
theorem spec_DrawToldBy.mono : ∀ a0 k, LeO (spec_DrawToldBy.f k a0) (spec_DrawToldBy.f (k + 1) a0) := by
 intro a0 k
 unfold spec_DrawToldBy.f
 repeat' first
  | (with_reducible exact spec_l26Draw.mono _ _)
  | (with_reducible exact LeO.refl _)
  | (with_reducible exact LeO.none _)
  | (with_reducible refine LeO.ite ?_ ?_)
  | (with_reducible refine LeO.bind ?_ (fun _ => ?_))
  | exact spec_l26Draw.mono _ _
  | exact LeO.none _
  | refine LeO.ite ?_ ?_
  | refine LeO.bind ?_ (fun _ => ?_)
set_option maxHeartbeats 8000000 in
set_option maxRecDepth 100000 in
theorem spec_DrawToldBy.calls (k : Nat) (A0 : Option Addr) (c0 : Nat) (l0 : List Int) (r1 : List (S131)) (r2 : Int) (w : World) (hr0 : Kd.C (Kd.int .u8) w A0 l0.length l0) (hc0 : l0.length ≤ c0) (h : spec_DrawToldBy.f k l0 = some (r1, r2)) :
 Calls Try.prog 58 #[.slice A0 l0.length c0] w fun e w' => ∃ v0_ : Value, e = .returned (.tuple #[v0_, .int .i64 r2]) ∧ Kd.R k131 131 w' w.heap.size (fun _ => True) v0_ r1 ∧ Below w.heap.size w w' := by
 have HR0 := Aside0.mk hr0
 have HC0 := Aside0.mk hc0
 clear hr0 hc0
 have HB := Aside0.mk (Below.refl w.heap.size w)
 have H : ((spec_l26Draw.f k l0).bind fun bt1263 => (some (bt1263.1, bt1263.2))) = some (r1, r2) := h
 clear h
 replace H := Option.bind_eq_some_iff.mp H
 obtain ⟨⟨t1263, t1264⟩, A20, H⟩ := H
 try dsimp only at H
 have A2 := Aside0.mk A20
 clear A20
 simp only [Option.some.injEq, Prod.mk.injEq] at H
 obtain ⟨rfl, rfl⟩ := H
 go_enter Try.func58, Try.ntmps58
 go_wp2_with (first | ((with_reducible refine gate_callee (f := 134) rfl ?_); refine goesL_ (some 5) rfl rfl Try.func134 (by kernel_rfl) rfl #[.slice A0 l0.length c0] rfl lm_ ?_; (with_reducible refine (spec_l26Draw.calls k _ _ l0 t1263 t1264 _ ?side1 ?side2 A2.out).mono ?_); (case side1 => repeat (first | exact HR0.out | (with_reducible refine Kd.C_alloc ?_ _) | (with_reducible refine Kd.C_drewN ?_ _) | (with_reducible refine Kd.C_drew ?_))); (case side2 => exact HC0.out); rintro e w3 ⟨v1265, rfl, ho0, hb⟩; refine ⟨_, rfl, ?_⟩; have n0_ := Aside0.mk (Kd.R_lower ho0 (below_size bl_)); have n1_ := Aside0.mk (below_step bl_ hb); clear HB; have HO1266 := n0_; have HB := n1_; clear n0_ n1_; (try clear hb); (try clear hb2); (try clear hk); (try clear hi); (try clear ho0)))
 go_ret2
 exact ⟨_, by first | rfl | (simp [errW_none, errW_some] <;> rfl) | (simp [*, errW_none, errW_some] <;> rfl) | exact False.elim (Bool.noConfusion ((decide_eq_true (of_eq_true (by assumption))).symm.trans (by assumption))), ra_ HO1266.out, bl_⟩

end Go.Proofs.Ytmjlhikflhbdaaa.PA

namespace Go.Proofs.Ytmjlhikflhbdaaa.PA
open Go.RowKit Go.Proofs.YtmjlhikflhbdaaaW.PrintWords Go.Proofs.YtmjlhikflhbdaaaW.PrintLast Go.Proofs.YtmjlhikflhbdaaaW.PrintMore
attribute [local go_sem] max2_int min2_int max_two min_two max_three min_three max_four min_four   -- for this text's walks alone
set_option linter.unusedVariables false
set_option linter.unusedSimpArgs false

theorem eqA65 (d : Nat) (w : World) (x0 y0 : Int) (x1 y1 : Int) :
 (Op.equalIn (d + 2) 65 (.agg #[.int .i64 x0, .int .i64 x1]) (.agg #[.int .i64 y0, .int .i64 y1])).run Try.prog w = .ok (x0 == y0 && (x1 == y1)) w := by
 refine eqA_of Try.underlying65 (by kernel_rfl) ?_
 refine eqf_cons (by rfl) (by go_simp; rfl) (by go_simp; rfl) (by go_simp) ?_
 exact eqf_last (by rfl) (by go_simp; rfl) (by go_simp; rfl) (by go_simp)
end Go.Proofs.Ytmjlhikflhbdaaa.PA

namespace Go.Proofs.Ytmjlhikflhbdaaa.PA
open Go.RowKit Go.Proofs.Ytmjlhikflhbdaaa.Short Go.Proofs.YtmjlhikflhbdaaaW.PrintWords Go.Proofs.YtmjlhikflhbdaaaW.PrintLast Go.Proofs.YtmjlhikflhbdaaaW.PrintMore
attribute [local go_sem] max2_int min2_int max_two min_two max_three min_three max_four min_four   -- for this text's walks alone
set_option linter.unusedVariables false
set_option linter.unusedSimpArgs false

attribute [local go_sem high] eqA65
/-! ### laws_sameTallies: function 59 -/
def laws_sameTallies.l0 : Nat → List (S65) → List (S65) → Int → Option (Bool)
 | 0, _, _, _ => none
 | k + 1, x0, x1, x5 => if x5 < (x0.length : Int) then (if 0 ≤ x5 then (if x5 < (x1.length : Int) then (if (!(((rd_T65 x0 x5).f0) == ((rd_T65 x1 x5).f0)) || (!(((rd_T65 x0 x5).f1) == ((rd_T65 x1 x5).f1)))) = true then (some false) else (laws_sameTallies.l0 k x0 x1 (wrap64 (x5 + 1)))) else (none)) else (none)) else (some true)
def laws_sameTallies.f (k : Nat) (l0 : List (S65)) (l1 : List (S65)) : Option (Bool) := if (l0.length : Int) = (l1.length : Int) then (laws_sameTallies.l0 k l0 l1 0) else (some false)
theorem laws_sameTallies.mono_l : ∀ k, (∀ y0 y1 y2, LeO (laws_sameTallies.l0 k y0 y1 y2) (laws_sameTallies.l0 (k + 1) y0 y1 y2))
 | 0 => fun _ _ _ r h => by simp [laws_sameTallies.l0] at h
 | k + 1 => by
  have ih0 := laws_sameTallies.mono_l k
  ·intro y0 y1 y2
   unfold laws_sameTallies.l0
   repeat' first
   | (with_reducible exact ih0 _ _ _)
   | (with_reducible exact LeO.refl _)
   | (with_reducible exact LeO.none _)
   | (with_reducible refine LeO.ite ?_ ?_)
   | (with_reducible refine LeO.bind ?_ (fun _ => ?_))
   | exact ih0 _ _ _
   | exact LeO.none _
   | refine LeO.ite ?_ ?_
   | refine LeO.bind ?_ (fun _ => ?_)
theorem laws_sameTallies.mono : ∀ a0 a1 k, LeO (laws_sameTallies.f k a0 a1) (laws_sameTallies.f (k + 1) a0 a1) := by
 intro a0 a1 k
 have ih0 := laws_sameTallies.mono_l k
 unfold laws_sameTallies.f
 repeat' first
  | (with_reducible exact ih0 _ _ _)
  | (with_reducible exact LeO.refl _)
  | (with_reducible exact LeO.none _)
  | (with_reducible refine LeO.ite ?_ ?_)
  | (with_reducible refine LeO.bind ?_ (fun _ => ?_))
  | exact ih0 _ _ _
  | exact LeO.none _
  | refine LeO.ite ?_ ?_
  | refine LeO.bind ?_ (fun _ => ?_)
set_option maxHeartbeats 8000000 in
set_option maxRecDepth 100000 in
theorem laws_sameTallies.calls (k : Nat) (A0 : Option Addr) (c0 : Nat) (l0 : List (S65)) (A1 : Option Addr) (c1 : Nat) (l1 : List (S65)) (r : Bool) (w : World) (hr0 : Kd.C k65 w A0 l0.length l0) (hc0 : l0.length ≤ c0) (hr1 : Kd.C k65 w A1 l1.length l1) (hc1 : l1.length ≤ c1) (h : laws_sameTallies.f k l0 l1 = some r) :
 Calls Try.prog 59 #[.slice A0 l0.length c0, .slice A1 l1.length c1] w fun e w' => e = .returned (.bool r) ∧ Drawn0 w w' := by
 have hu65 := Try.underlying65
 have HR0 := Aside0.mk hr0
 have HC0 := Aside0.mk hc0
 clear hr0 hc0
 have HR1 := Aside0.mk hr1
 have HC1 := Aside0.mk hc1
 clear hr1 hc1
 have H : (if (l0.length : Int) = (l1.length : Int) then (laws_sameTallies.l0 k l0 l1 0) else (some false)) = some r := h
 clear h
 by_cases c3 : (l0.length : Int) = (l1.length : Int)
 ·rw [if_pos c3] at H
  have c3b0 : ((l0.length : Int) == (l1.length : Int)) = true := beq_iff_eq.mpr c3
  have c3b1 : ((l0.length : Int) != (l1.length : Int)) = false := bne_eq_false_iff_eq.mpr c3
  have c3b2 : (l0.length == l1.length) = true := by first | simpa using c3 | (simp at c3 ⊢; omega)
  clear c3
  have H' := Aside0.mk H
  clear H
  go_enter Try.func59, Try.ntmps59
  go_wp2
  repeat (go_quiet (fail); try go_wp2)
  go_loopg [5] k (fun kq v5 w' => ∃ (x5_1 : Int), v5 = .int .i64 x5_1 ∧ Aside0 (laws_sameTallies.l0 kq l0 l1 x5_1 = some r) ∧ Aside0 (kq ≤ k) ∧ Drawn0 w w')
  case atStart => exact ⟨(0), (by first | rfl | (simp; done) | (simp [*]; done)), H', ⟨Nat.le_refl _⟩, by repeat (first | exact Drawn0.refl _ | apply Drawn0.step)⟩
  case round =>
   clear H'
   try clear c1
   try clear p2
   try clear c3
   try clear c3b0
   try clear c3b1
   try clear c3b2
   obtain ⟨x5_1, rfl, HA, HK1, ⟨m1, rfl⟩⟩ := hrel
   cases gk with
   | zero => exact absurd HA.out (by simp [laws_sameTallies.l0])
   | succ k1 =>
    have H := HA.out
    clear HA
    simp only [laws_sameTallies.l0] at H
    by_cases c4 : x5_1 < (l0.length : Int)
    ·rw [if_pos c4] at H
     have c4b0 : decide (x5_1 < (l0.length : Int)) = true := decide_eq_true c4
     clear c4
     by_cases c5 : 0 ≤ x5_1
     ·rw [if_pos c5] at H
      have c5b0 : decide (0 ≤ x5_1) = true := decide_eq_true c5
      clear c5
      by_cases c6 : x5_1 < (l1.length : Int)
      ·rw [if_pos c6] at H
       have c6b0 : decide (x5_1 < (l1.length : Int)) = true := decide_eq_true c6
       clear c6
       by_cases c7 : (!(((rd_T65 l0 x5_1).f0) == ((rd_T65 l1 x5_1).f0)) || (!(((rd_T65 l0 x5_1).f1) == ((rd_T65 l1 x5_1).f1)))) = true
       ·rw [if_pos c7] at H
        have c7b0 : (!(((rd_T65 l0 x5_1).f0) == ((rd_T65 l1 x5_1).f0)) || (!(((rd_T65 l0 x5_1).f1) == ((rd_T65 l1 x5_1).f1)))) = true := c7
        clear c7
        obtain rfl := Option.some.inj H
        have p1267 : 0 ≤ (x5_1 : Int) := of_decide_eq_true as_
        have q1267 : x5_1 < (l0.length : Int) := of_decide_eq_true as_
        obtain ⟨ad1267, e1267, hx1267_0, hx1267_1⟩ := at_T65 HR0.out x5_1 p1267 q1267
        cases e1267
        replace p1267 := eq_true p1267
        replace q1267 := eq_true q1267
        have p1268 : 0 ≤ (x5_1 : Int) := of_decide_eq_true as_
        have q1268 : x5_1 < (l1.length : Int) := of_decide_eq_true as_
        obtain ⟨ad1268, e1268, hx1268_0, hx1268_1⟩ := at_T65 HR1.out x5_1 p1268 q1268
        cases e1268
        replace p1268 := eq_true p1268
        replace q1268 := eq_true q1268
        go_wp2
        repeat (go_quiet (fail); try go_wp2)
        go_ret
        exact ⟨by first | rfl | (simp; done) | (simp [*]; done), by repeat (first | exact Drawn0.refl _ | apply Drawn0.step)⟩
       ·rw [if_neg c7] at H
        have c7b0 : (!(((rd_T65 l0 x5_1).f0) == ((rd_T65 l1 x5_1).f0)) || (!(((rd_T65 l0 x5_1).f1) == ((rd_T65 l1 x5_1).f1)))) = false := by simpa using c7
        clear c7
        have H' := Aside0.mk H
        clear H
        have p1267 : 0 ≤ (x5_1 : Int) := of_decide_eq_true as_
        have q1267 : x5_1 < (l0.length : Int) := of_decide_eq_true as_
        obtain ⟨ad1267, e1267, hx1267_0, hx1267_1⟩ := at_T65 HR0.out x5_1 p1267 q1267
        cases e1267
        replace p1267 := eq_true p1267
        replace q1267 := eq_true q1267
        have p1268 : 0 ≤ (x5_1 : Int) := of_decide_eq_true as_
        have q1268 : x5_1 < (l1.length : Int) := of_decide_eq_true as_
        obtain ⟨ad1268, e1268, hx1268_0, hx1268_1⟩ := at_T65 HR1.out x5_1 p1268 q1268
        cases e1268
        replace p1268 := eq_true p1268
        replace q1268 := eq_true q1268
        go_wp2
        repeat (go_quiet (fail); try go_wp2)
        go_roundg k1
        case measure => have := HK1.out; omega
        case rel => exact ⟨(wrap64 (x5_1 + 1)), (by first | rfl | (simp; done) | (simp [*]; done)), H', ⟨by have := HK1.out; omega⟩, by repeat (first | exact Drawn0.refl _ | apply Drawn0.step)⟩
      ·rw [if_neg c6] at H
       exact absurd H (by simp)
     ·rw [if_neg c5] at H
      exact absurd H (by simp)
    ·rw [if_neg c4] at H
     have c4b0 : decide (x5_1 < (l0.length : Int)) = false := decide_eq_false c4
     clear c4
     obtain rfl := Option.some.inj H
     go_wp2
     repeat (go_quiet (fail); try go_wp2)
     go_ret
     exact ⟨by first | rfl | (simp; done) | (simp [*]; done), by repeat (first | exact Drawn0.refl _ | apply Drawn0.step)⟩
 ·rw [if_neg c3] at H
  have c3b0 : ((l0.length : Int) == (l1.length : Int)) = false := beq_eq_false_iff_ne.mpr c3
  have c3b1 : ((l0.length : Int) != (l1.length : Int)) = true := bne_iff_ne.mpr c3
  have c3b2 : (l0.length == l1.length) = false := by first | simpa using c3 | (simp at c3 ⊢; omega)
  obtain rfl := Option.some.inj H
  go_enter Try.func59, Try.ntmps59
  go_wp2
  repeat (go_quiet (fail); try go_wp2)
  go_ret
  exact ⟨by first | rfl | (simp; done) | (simp [*]; done), by repeat (first | exact Drawn0.refl _ | apply Drawn0.step)⟩


/-! ### spec_ToldBy: function 60 -/
def spec_ToldBy.l0 : Nat → List (S131) → Int → Int → Int → Option (Int)
 | 0, _, _, _, _ => none
 | k + 1, x0, x1, x5, x6 => if x6 < (x0.length : Int) then (if 0 ≤ x6 then (if ((rd_T131 x0 x6).f0) = x1 then (if ((rd_T131 x0 x6).f2.f0) = 1 then (spec_ToldBy.l0 k x0 x1 (wrap64 (x5 + 1)) (wrap64 (x6 + 1))) else (spec_ToldBy.l0 k x0 x1 x5 (wrap64 (x6 + 1)))) else (spec_ToldBy.l0 k x0 x1 x5 (wrap64 (x6 + 1)))) else (none)) else (some x5)
def spec_ToldBy.f (k : Nat) (l0 : List (S131)) (a1 : Int) : Option (Int) := spec_ToldBy.l0 k l0 a1 0 0
theorem spec_ToldBy.mono_l : ∀ k, (∀ y0 y1 y2 y3, LeO (spec_ToldBy.l0 k y0 y1 y2 y3) (spec_ToldBy.l0 (k + 1) y0 y1 y2 y3))
 | 0 => fun _ _ _ _ r h => by simp [spec_ToldBy.l0] at h
 | k + 1 => by
  have ih0 := spec_ToldBy.mono_l k
  ·intro y0 y1 y2 y3
   unfold spec_ToldBy.l0
   repeat' first
   | (with_reducible exact ih0 _ _ _ _)
   | (with_reducible exact LeO.refl _)
   | (with_reducible exact LeO.none _)
   | (with_reducible refine LeO.ite ?_ ?_)
   | (with_reducible refine LeO.bind ?_ (fun _ => ?_))
   | exact ih0 _ _ _ _
   | exact LeO.none _
   | refine LeO.ite ?_ ?_
   | refine LeO.bind ?_ (fun _ => ?_)
theorem spec_ToldBy.mono : ∀ a0 a1 k, LeO (spec_ToldBy.f k a0 a1) (spec_ToldBy.f (k + 1) a0 a1) := by
 intro a0 a1 k
 have ih0 := spec_ToldBy.mono_l k
 unfold spec_ToldBy.f
 repeat' first
  | (with_reducible exact ih0 _ _ _ _)
  | (with_reducible exact LeO.refl _)
  | (with_reducible exact LeO.none _)
  | (with_reducible refine LeO.ite ?_ ?_)
  | (with_reducible refine LeO.bind ?_ (fun _ => ?_))
  | exact ih0 _ _ _ _
  | exact LeO.none _
  | refine LeO.ite ?_ ?_
  | refine LeO.bind ?_ (fun _ => ?_)
set_option maxHeartbeats 8000000 in
set_option maxRecDepth 100000 in
theorem spec_ToldBy.calls (k : Nat) (A0 : Option Addr) (c0 : Nat) (l0 : List (S131)) (a1 : Int) (r : Int) (w : World) (hr0 : Kd.C k131 w A0 l0.length l0) (hc0 : l0.length ≤ c0) (h : spec_ToldBy.f k l0 a1 = some r) :
 Calls Try.prog 60 #[.slice A0 l0.length c0, .int .i64 a1] w fun e w' => e = .returned (.int .i64 r) ∧ Drawn0 w w' := by
 have HR0 := Aside0.mk hr0
 have HC0 := Aside0.mk hc0
 clear hr0 hc0
 have H : (spec_ToldBy.l0 k l0 a1 0 0) = some r := h
 clear h
 have H' := Aside0.mk H
 clear H
 go_enter Try.func60, Try.ntmps60
 go_wp2
 go_loopg [5, 6] k (fun kq v5 v6 w' => ∃ (x5_1 : Int) (x6_1 : Int), v5 = .int .i64 x5_1 ∧ v6 = .int .i64 x6_1 ∧ Aside0 (spec_ToldBy.l0 kq l0 a1 x5_1 x6_1 = some r) ∧ Aside0 (kq ≤ k) ∧ Drawn0 w w')
 case atStart => exact ⟨(0), (0), (by first | rfl | (simp; done) | (simp [*]; done)), (by first | rfl | (simp; done) | (simp [*]; done)), H', ⟨Nat.le_refl _⟩, by repeat (first | exact Drawn0.refl _ | apply Drawn0.step)⟩
 case round =>
  clear H'
  try clear p2
  obtain ⟨x5_1, x6_1, rfl, rfl, HA, HK1, ⟨m1, rfl⟩⟩ := hrel
  cases gk with
  | zero => exact absurd HA.out (by simp [spec_ToldBy.l0])
  | succ k1 =>
   have H := HA.out
   clear HA
   simp only [spec_ToldBy.l0] at H
   by_cases c3 : x6_1 < (l0.length : Int)
   ·rw [if_pos c3] at H
    have c3b0 : decide (x6_1 < (l0.length : Int)) = true := decide_eq_true c3
    clear c3
    by_cases c4 : 0 ≤ x6_1
    ·rw [if_pos c4] at H
     have c4b0 : decide (0 ≤ x6_1) = true := decide_eq_true c4
     clear c4
     by_cases c5 : ((rd_T131 l0 x6_1).f0) = a1
     ·rw [if_pos c5] at H
      have c5b0 : (((rd_T131 l0 x6_1).f0) == a1) = true := beq_iff_eq.mpr c5
      have c5b1 : (((rd_T131 l0 x6_1).f0) != a1) = false := bne_eq_false_iff_eq.mpr c5
      clear c5
      by_cases c6 : ((rd_T131 l0 x6_1).f2.f0) = 1
      ·rw [if_pos c6] at H
       have c6b0 : (((rd_T131 l0 x6_1).f2.f0) == 1) = true := beq_iff_eq.mpr c6
       have c6b1 : (((rd_T131 l0 x6_1).f2.f0) != 1) = false := bne_eq_false_iff_eq.mpr c6
       clear c6
       have H' := Aside0.mk H
       clear H
       have p1269 : 0 ≤ (x6_1 : Int) := of_decide_eq_true as_
       have q1269 : x6_1 < (l0.length : Int) := of_decide_eq_true as_
       obtain ⟨ad1269, e1269, hx1269_0, hx1269_1, hx1269_2, hx1269_3, hx1269_4, hx1269_5⟩ := at_T131 HR0.out x6_1 p1269 q1269
       cases e1269
       replace p1269 := eq_true p1269
       replace q1269 := eq_true q1269
       have p1270 : 0 ≤ (x6_1 : Int) := of_decide_eq_true as_
       have q1270 : x6_1 < (l0.length : Int) := of_decide_eq_true as_
       obtain ⟨ad1270, e1270, hx1270_0, hx1270_1, hx1270_2, hx1270_3, hx1270_4, hx1270_5⟩ := at_T131 HR0.out x6_1 p1270 q1270
       obtain rfl : ad1269 = ad1270 := (by injection e1270)
       replace p1270 := eq_true p1270
       replace q1270 := eq_true q1270
       go_wp2
       go_roundg k1
       case measure => have := HK1.out; omega
       case rel => exact ⟨(wrap64 (x5_1 + 1)), (wrap64 (x6_1 + 1)), (by first | rfl | (simp; done) | (simp [*]; done)), (by first | rfl | (simp; done) | (simp [*]; done)), H', ⟨by have := HK1.out; omega⟩, by repeat (first | exact Drawn0.refl _ | apply Drawn0.step)⟩
      ·rw [if_neg c6] at H
       have c6b0 : (((rd_T131 l0 x6_1).f2.f0) == 1) = false := beq_eq_false_iff_ne.mpr c6
       have c6b1 : (((rd_T131 l0 x6_1).f2.f0) != 1) = true := bne_iff_ne.mpr c6
       have H' := Aside0.mk H
       clear H
       have p1269 : 0 ≤ (x6_1 : Int) := of_decide_eq_true as_
       have q1269 : x6_1 < (l0.length : Int) := of_decide_eq_true as_
       obtain ⟨ad1269, e1269, hx1269_0, hx1269_1, hx1269_2, hx1269_3, hx1269_4, hx1269_5⟩ := at_T131 HR0.out x6_1 p1269 q1269
       cases e1269
       replace p1269 := eq_true p1269
       replace q1269 := eq_true q1269
       have p1270 : 0 ≤ (x6_1 : Int) := of_decide_eq_true as_
       have q1270 : x6_1 < (l0.length : Int) := of_decide_eq_true as_
       obtain ⟨ad1270, e1270, hx1270_0, hx1270_1, hx1270_2, hx1270_3, hx1270_4, hx1270_5⟩ := at_T131 HR0.out x6_1 p1270 q1270
       obtain rfl : ad1269 = ad1270 := (by injection e1270)
       replace p1270 := eq_true p1270
       replace q1270 := eq_true q1270
       go_wp2
       go_roundg k1
       case measure => have := HK1.out; omega
       case rel => exact ⟨(x5_1), (wrap64 (x6_1 + 1)), (by first | rfl | (simp; done) | (simp [*]; done)), (by first | rfl | (simp; done) | (simp [*]; done)), H', ⟨by have := HK1.out; omega⟩, by repeat (first | exact Drawn0.refl _ | apply Drawn0.step)⟩
     ·rw [if_neg c5] at H
      have c5b0 : (((rd_T131 l0 x6_1).f0) == a1) = false := beq_eq_false_iff_ne.mpr c5
      have c5b1 : (((rd_T131 l0 x6_1).f0) != a1) = true := bne_iff_ne.mpr c5
      have H' := Aside0.mk H
      clear H
      have p1269 : 0 ≤ (x6_1 : Int) := of_decide_eq_true as_
      have q1269 : x6_1 < (l0.length : Int) := of_decide_eq_true as_
      obtain ⟨ad1269, e1269, hx1269_0, hx1269_1, hx1269_2, hx1269_3, hx1269_4, hx1269_5⟩ := at_T131 HR0.out x6_1 p1269 q1269
      cases e1269
      replace p1269 := eq_true p1269
      replace q1269 := eq_true q1269
      go_wp2
      go_roundg k1
      case measure => have := HK1.out; omega
      case rel => exact ⟨(x5_1), (wrap64 (x6_1 + 1)), (by first | rfl | (simp; done) | (simp [*]; done)), (by first | rfl | (simp; done) | (simp [*]; done)), H', ⟨by have := HK1.out; omega⟩, by repeat (first | exact Drawn0.refl _ | apply Drawn0.step)⟩
    ·rw [if_neg c4] at H
     exact absurd H (by simp)
   ·rw [if_neg c3] at H
    have c3b0 : decide (x6_1 < (l0.length : Int)) = false := decide_eq_false c3
    clear c3
    obtain rfl := Option.some.inj H
    go_wp2
    go_ret
    exact ⟨by first | rfl | (simp; done) | (simp [*]; done), by repeat (first | exact Drawn0.refl _ | apply Drawn0.step)⟩


/-! ### impl_LostBy: function 61 -/
def impl_LostBy.l0 : Nat → Int → Int → List (S131) → Int → Int → Option (Int)
 | 0, _, _, _, _, _ => none
 | k + 1, x1, x5, x8, x9, x10 => if x10 < x9 then (if 0 ≤ x10 then (if x10 < (x8.length : Int) then (if ((rd_T131 x8 x10).f0) = x1 then (if ((rd_T131 x8 x10).f2.f0) = 2 then (if ((rd_T131 x8 x10).f2.f3) > 0 then (impl_LostBy.l0 k x1 (mn 1000000000 (wrap64 (x5 + (mn 1000000000 ((rd_T131 x8 x10).f2.f3))))) x8 x9 (wrap64 (x10 + 1))) else (impl_LostBy.l0 k x1 x5 x8 x9 (wrap64 (x10 + 1)))) else (impl_LostBy.l0 k x1 x5 x8 x9 (wrap64 (x10 + 1)))) else (impl_LostBy.l0 k x1 x5 x8 x9 (wrap64 (x10 + 1)))) else (none)) else (none)) else (some x5)
def impl_LostBy.f (k : Nat) (l0 : List (S131)) (a1 : Int) : Option (Int) := impl_LostBy.l0 k a1 0 l0 (l0.length : Int) 0
theorem impl_LostBy.mono_l : ∀ k, (∀ y0 y1 y2 y3 y4, LeO (impl_LostBy.l0 k y0 y1 y2 y3 y4) (impl_LostBy.l0 (k + 1) y0 y1 y2 y3 y4))
 | 0 => fun _ _ _ _ _ r h => by simp [impl_LostBy.l0] at h
 | k + 1 => by
  have ih0 := impl_LostBy.mono_l k
  ·intro y0 y1 y2 y3 y4
   unfold impl_LostBy.l0
   repeat' first
   | (with_reducible exact ih0 _ _ _ _ _)
   | (with_reducible exact LeO.refl _)
   | (with_reducible exact LeO.none _)
   | (with_reducible refine LeO.ite ?_ ?_)
   | (with_reducible refine LeO.bind ?_ (fun _ => ?_))
   | exact ih0 _ _ _ _ _
   | exact LeO.none _
   | refine LeO.ite ?_ ?_
   | refine LeO.bind ?_ (fun _ => ?_)
theorem impl_LostBy.mono : ∀ a0 a1 k, LeO (impl_LostBy.f k a0 a1) (impl_LostBy.f (k + 1) a0 a1) := by
 intro a0 a1 k
 have ih0 := impl_LostBy.mono_l k
 unfold impl_LostBy.f
 repeat' first
  | (with_reducible exact ih0 _ _ _ _ _)
  | (with_reducible exact LeO.refl _)
  | (with_reducible exact LeO.none _)
  | (with_reducible refine LeO.ite ?_ ?_)
  | (with_reducible refine LeO.bind ?_ (fun _ => ?_))
  | exact ih0 _ _ _ _ _
  | exact LeO.none _
  | refine LeO.ite ?_ ?_
  | refine LeO.bind ?_ (fun _ => ?_)
set_option maxHeartbeats 8000000 in
set_option maxRecDepth 100000 in
theorem impl_LostBy.calls (k : Nat) (A0 : Option Addr) (c0 : Nat) (l0 : List (S131)) (a1 : Int) (r : Int) (w : World) (hr0 : Kd.C k131 w A0 l0.length l0) (hc0 : l0.length ≤ c0) (h : impl_LostBy.f k l0 a1 = some r) :
 Calls Try.prog 61 #[.slice A0 l0.length c0, .int .i64 a1] w fun e w' => e = .returned (.int .i64 r) ∧ Below w.heap.size w w' := by
 have hu131 := Try.underlying131
 have HR0 := Aside0.mk hr0
 have HC0 := Aside0.mk hc0
 clear hr0 hc0
 have HB := Aside0.mk (Below.refl w.heap.size w)
 have H : (impl_LostBy.l0 k a1 0 l0 (l0.length : Int) 0) = some r := h
 clear h
 have H' := Aside0.mk H
 clear H
 go_enter Try.func61, Try.ntmps61
 go_wp2
 go_loopg [5, 10] k (fun kq v5 v10 w' => ∃ (x5_1 : Int) (x10_1 : Int), v5 = .int .i64 x5_1 ∧ v10 = .int .i64 x10_1 ∧ Aside0 (impl_LostBy.l0 kq a1 x5_1 l0 (l0.length : Int) x10_1 = some r) ∧ Aside0 (kq ≤ k) ∧ Aside0 (Below w.heap.size w w'))
 case atStart => exact ⟨(0), (0), (by first | rfl | (simp; done) | (simp [*]; done)), (by first | rfl | (simp; done) | (simp [*]; done)), H', ⟨Nat.le_refl _⟩, ⟨bl_⟩⟩
 case round =>
  clear H'
  try clear p2
  obtain ⟨x5_1, x10_1, rfl, rfl, HA, HK1, HB⟩ := hrel
  cases gk with
  | zero => exact absurd HA.out (by simp [impl_LostBy.l0])
  | succ k1 =>
   have H := HA.out
   clear HA
   simp only [impl_LostBy.l0] at H
   by_cases c3 : x10_1 < (l0.length : Int)
   ·rw [if_pos c3] at H
    have c3b0 : decide (x10_1 < (l0.length : Int)) = true := decide_eq_true c3
    clear c3
    by_cases c4 : 0 ≤ x10_1
    ·rw [if_pos c4] at H
     have c4b0 : decide (0 ≤ x10_1) = true := decide_eq_true c4
     clear c4
     by_cases c5 : x10_1 < (l0.length : Int)
     ·rw [if_pos c5] at H
      have c5b0 : decide (x10_1 < (l0.length : Int)) = true := decide_eq_true c5
      clear c5
      by_cases c6 : ((rd_T131 l0 x10_1).f0) = a1
      ·rw [if_pos c6] at H
       have c6b0 : (((rd_T131 l0 x10_1).f0) == a1) = true := beq_iff_eq.mpr c6
       have c6b1 : (((rd_T131 l0 x10_1).f0) != a1) = false := bne_eq_false_iff_eq.mpr c6
       clear c6
       by_cases c7 : ((rd_T131 l0 x10_1).f2.f0) = 2
       ·rw [if_pos c7] at H
        have c7b0 : (((rd_T131 l0 x10_1).f2.f0) == 2) = true := beq_iff_eq.mpr c7
        have c7b1 : (((rd_T131 l0 x10_1).f2.f0) != 2) = false := bne_eq_false_iff_eq.mpr c7
        clear c7
        by_cases c8 : ((rd_T131 l0 x10_1).f2.f3) > 0
        ·rw [if_pos c8] at H
         have c8b0 : decide (0 < ((rd_T131 l0 x10_1).f2.f3)) = true := decide_eq_true c8
         clear c8
         obtain ⟨ji9, hji9⟩ : ∃ j_ : Int, (mn 1000000000 ((rd_T131 l0 x10_1).f2.f3)) = j_ := ⟨_, rfl⟩
         replace H : (impl_LostBy.l0 k1 a1 (mn 1000000000 (wrap64 (x5_1 + (ji9)))) l0 (l0.length : Int) (wrap64 (x10_1 + 1))) = some r := by first | (rw [hji9] at H; exact H) | (simp only [hji9] at H ⊢; exact H)
         have hji9_ : (if ((rd_T131 l0 x10_1).f2.f3) < 1000000000 then ((rd_T131 l0 x10_1).f2.f3) else 1000000000) = ji9 := hji9
         obtain ⟨ji10, hji10⟩ : ∃ j_ : Int, (mn 1000000000 (wrap64 (x5_1 + (ji9)))) = j_ := ⟨_, rfl⟩
         replace H : (impl_LostBy.l0 k1 a1 ji10 l0 (l0.length : Int) (wrap64 (x10_1 + 1))) = some r := by first | (rw [hji10] at H; exact H) | (simp only [hji10] at H ⊢; exact H)
         have hji10_ : (if (wrap64 (x5_1 + (ji9))) < 1000000000 then (wrap64 (x5_1 + (ji9))) else 1000000000) = ji10 := hji10
         have H' := Aside0.mk H
         clear H
         have p1271 : 0 ≤ (x10_1 : Int) := of_decide_eq_true as_
         have q1271 : x10_1 < (l0.length : Int) := of_decide_eq_true as_
         obtain ⟨ad1271, e1271, hx1271_0, hx1271_1, hx1271_2, hx1271_3, hx1271_4, hx1271_5⟩ := at_T131 HR0.out x10_1 p1271 q1271
         cases e1271
         replace hx1271_0 := (HB.out.cell (World.block_lt_of_cell? w _ hx1271_0)).trans hx1271_0
         replace hx1271_1 := (HB.out.cell (World.block_lt_of_cell? w _ hx1271_1)).trans hx1271_1
         replace hx1271_2 := (HB.out.cell (World.block_lt_of_cell? w _ hx1271_2)).trans hx1271_2
         replace hx1271_3 := (HB.out.cell (World.block_lt_of_cell? w _ hx1271_3)).trans hx1271_3
         replace hx1271_4 := (HB.out.cell (World.block_lt_of_cell? w _ hx1271_4)).trans hx1271_4
         replace hx1271_5 := (HB.out.cell (World.block_lt_of_cell? w _ hx1271_5)).trans hx1271_5
         replace p1271 := eq_true p1271
         replace q1271 := eq_true q1271
         go_wp2_with (first | ((with_reducible refine gate_dst (N := 7) rfl ?_); refine box_event ?hg (N := 7) ?hd (cs := #[.int .i64 0, .int .i64 0, .int .i64 0, .int .i64 0, .int .i64 0, .int .i64 0]) (t := 131) ?hr ?_; (case hd => rfl); (case hg => rfl); (case hr => first | (go_simp; done) | (go_simp; rfl)); intro gb1272 hg w11 hbox hb; have n0_ := Aside0.mk (below_step bl_ hb); have n1_ := Aside0.mk (hbox); have n2_ := Aside0.mk ((hz_ : w.heap.size ≤ gb1272)); have n3_ := Aside0.mk ((hz_ : w.heap.size ≤ gb1272)); clear HB; have HB := n0_; have BK1272 := n1_; have GW1272 := n2_; have GE1272 := n3_; clear n0_ n1_ n2_ n3_; clear hb hbox hg; have hcz12_0 : w11.cell? ⟨gb1272, 0, none⟩ = some (.int .i64 0) := (blk_cell BK1272.out 0).trans rfl; have hcz12_1 : w11.cell? ⟨gb1272, 1, none⟩ = some (.int .i64 0) := (blk_cell BK1272.out 1).trans rfl; have hcz12_2 : w11.cell? ⟨gb1272, 2, none⟩ = some (.int .i64 0) := (blk_cell BK1272.out 2).trans rfl; have hcz12_3 : w11.cell? ⟨gb1272, 3, none⟩ = some (.int .i64 0) := (blk_cell BK1272.out 3).trans rfl; have hcz12_4 : w11.cell? ⟨gb1272, 4, none⟩ = some (.int .i64 0) := (blk_cell BK1272.out 4).trans rfl; have hcz12_5 : w11.cell? ⟨gb1272, 5, none⟩ = some (.int .i64 0) := (blk_cell BK1272.out 5).trans rfl; have hfz12_0 := blk_frozen BK1272.out 0; have hfz12_1 := blk_frozen BK1272.out 1; have hfz12_2 := blk_frozen BK1272.out 2; have hfz12_3 := blk_frozen BK1272.out 3; have hfz12_4 := blk_frozen BK1272.out 4; have hfz12_5 := blk_frozen BK1272.out 5))
         go_roundg k1
         case measure => have := HK1.out; omega
         case rel => exact ⟨(ji10), (wrap64 (x10_1 + 1)), (by first | rfl | (simp; done) | (simp only [← hji10] <;> (first | rfl | simp)) | (simp [*]; done)), (by first | rfl | (simp; done) | (simp [*]; done)), H', ⟨by have := HK1.out; omega⟩, ⟨bl_⟩⟩
        ·rw [if_neg c8] at H
         have c8b0 : decide (0 < ((rd_T131 l0 x10_1).f2.f3)) = false := decide_eq_false c8
         clear c8
         have H' := Aside0.mk H
         clear H
         have p1271 : 0 ≤ (x10_1 : Int) := of_decide_eq_true as_
         have q1271 : x10_1 < (l0.length : Int) := of_decide_eq_true as_
         obtain ⟨ad1271, e1271, hx1271_0, hx1271_1, hx1271_2, hx1271_3, hx1271_4, hx1271_5⟩ := at_T131 HR0.out x10_1 p1271 q1271
         cases e1271
         replace hx1271_0 := (HB.out.cell (World.block_lt_of_cell? w _ hx1271_0)).trans hx1271_0
         replace hx1271_1 := (HB.out.cell (World.block_lt_of_cell? w _ hx1271_1)).trans hx1271_1
         replace hx1271_2 := (HB.out.cell (World.block_lt_of_cell? w _ hx1271_2)).trans hx1271_2
         replace hx1271_3 := (HB.out.cell (World.block_lt_of_cell? w _ hx1271_3)).trans hx1271_3
         replace hx1271_4 := (HB.out.cell (World.block_lt_of_cell? w _ hx1271_4)).trans hx1271_4
         replace hx1271_5 := (HB.out.cell (World.block_lt_of_cell? w _ hx1271_5)).trans hx1271_5
         replace p1271 := eq_true p1271
         replace q1271 := eq_true q1271
         go_wp2_with (first | ((with_reducible refine gate_dst (N := 7) rfl ?_); refine box_event ?hg (N := 7) ?hd (cs := #[.int .i64 0, .int .i64 0, .int .i64 0, .int .i64 0, .int .i64 0, .int .i64 0]) (t := 131) ?hr ?_; (case hd => rfl); (case hg => rfl); (case hr => first | (go_simp; done) | (go_simp; rfl)); intro gb1272 hg w13 hbox hb; have n0_ := Aside0.mk (below_step bl_ hb); have n1_ := Aside0.mk (hbox); have n2_ := Aside0.mk ((hz_ : w.heap.size ≤ gb1272)); have n3_ := Aside0.mk ((hz_ : w.heap.size ≤ gb1272)); clear HB; have HB := n0_; have BK1272 := n1_; have GW1272 := n2_; have GE1272 := n3_; clear n0_ n1_ n2_ n3_; clear hb hbox hg; have hcz14_0 : w13.cell? ⟨gb1272, 0, none⟩ = some (.int .i64 0) := (blk_cell BK1272.out 0).trans rfl; have hcz14_1 : w13.cell? ⟨gb1272, 1, none⟩ = some (.int .i64 0) := (blk_cell BK1272.out 1).trans rfl; have hcz14_2 : w13.cell? ⟨gb1272, 2, none⟩ = some (.int .i64 0) := (blk_cell BK1272.out 2).trans rfl; have hcz14_3 : w13.cell? ⟨gb1272, 3, none⟩ = some (.int .i64 0) := (blk_cell BK1272.out 3).trans rfl; have hcz14_4 : w13.cell? ⟨gb1272, 4, none⟩ = some (.int .i64 0) := (blk_cell BK1272.out 4).trans rfl; have hcz14_5 : w13.cell? ⟨gb1272, 5, none⟩ = some (.int .i64 0) := (blk_cell BK1272.out 5).trans rfl; have hfz14_0 := blk_frozen BK1272.out 0; have hfz14_1 := blk_frozen BK1272.out 1; have hfz14_2 := blk_frozen BK1272.out 2; have hfz14_3 := blk_frozen BK1272.out 3; have hfz14_4 := blk_frozen BK1272.out 4; have hfz14_5 := blk_frozen BK1272.out 5))
         go_roundg k1
         case measure => have := HK1.out; omega
         case rel => exact ⟨(x5_1), (wrap64 (x10_1 + 1)), (by first | rfl | (simp; done) | (simp [*]; done)), (by first | rfl | (simp; done) | (simp [*]; done)), H', ⟨by have := HK1.out; omega⟩, ⟨bl_⟩⟩
       ·rw [if_neg c7] at H
        have c7b0 : (((rd_T131 l0 x10_1).f2.f0) == 2) = false := beq_eq_false_iff_ne.mpr c7
        have c7b1 : (((rd_T131 l0 x10_1).f2.f0) != 2) = true := bne_iff_ne.mpr c7
        have H' := Aside0.mk H
        clear H
        have p1271 : 0 ≤ (x10_1 : Int) := of_decide_eq_true as_
        have q1271 : x10_1 < (l0.length : Int) := of_decide_eq_true as_
        obtain ⟨ad1271, e1271, hx1271_0, hx1271_1, hx1271_2, hx1271_3, hx1271_4, hx1271_5⟩ := at_T131 HR0.out x10_1 p1271 q1271
        cases e1271
        replace hx1271_0 := (HB.out.cell (World.block_lt_of_cell? w _ hx1271_0)).trans hx1271_0
        replace hx1271_1 := (HB.out.cell (World.block_lt_of_cell? w _ hx1271_1)).trans hx1271_1
        replace hx1271_2 := (HB.out.cell (World.block_lt_of_cell? w _ hx1271_2)).trans hx1271_2
        replace hx1271_3 := (HB.out.cell (World.block_lt_of_cell? w _ hx1271_3)).trans hx1271_3
        replace hx1271_4 := (HB.out.cell (World.block_lt_of_cell? w _ hx1271_4)).trans hx1271_4
        replace hx1271_5 := (HB.out.cell (World.block_lt_of_cell? w _ hx1271_5)).trans hx1271_5
        replace p1271 := eq_true p1271
        replace q1271 := eq_true q1271
        go_wp2_with (first | ((with_reducible refine gate_dst (N := 7) rfl ?_); refine box_event ?hg (N := 7) ?hd (cs := #[.int .i64 0, .int .i64 0, .int .i64 0, .int .i64 0, .int .i64 0, .int .i64 0]) (t := 131) ?hr ?_; (case hd => rfl); (case hg => rfl); (case hr => first | (go_simp; done) | (go_simp; rfl)); intro gb1272 hg w15 hbox hb; have n0_ := Aside0.mk (below_step bl_ hb); have n1_ := Aside0.mk (hbox); have n2_ := Aside0.mk ((hz_ : w.heap.size ≤ gb1272)); have n3_ := Aside0.mk ((hz_ : w.heap.size ≤ gb1272)); clear HB; have HB := n0_; have BK1272 := n1_; have GW1272 := n2_; have GE1272 := n3_; clear n0_ n1_ n2_ n3_; clear hb hbox hg; have hcz16_0 : w15.cell? ⟨gb1272, 0, none⟩ = some (.int .i64 0) := (blk_cell BK1272.out 0).trans rfl; have hcz16_1 : w15.cell? ⟨gb1272, 1, none⟩ = some (.int .i64 0) := (blk_cell BK1272.out 1).trans rfl; have hcz16_2 : w15.cell? ⟨gb1272, 2, none⟩ = some (.int .i64 0) := (blk_cell BK1272.out 2).trans rfl; have hcz16_3 : w15.cell? ⟨gb1272, 3, none⟩ = some (.int .i64 0) := (blk_cell BK1272.out 3).trans rfl; have hcz16_4 : w15.cell? ⟨gb1272, 4, none⟩ = some (.int .i64 0) := (blk_cell BK1272.out 4).trans rfl; have hcz16_5 : w15.cell? ⟨gb1272, 5, none⟩ = some (.int .i64 0) := (blk_cell BK1272.out 5).trans rfl; have hfz16_0 := blk_frozen BK1272.out 0; have hfz16_1 := blk_frozen BK1272.out 1; have hfz16_2 := blk_frozen BK1272.out 2; have hfz16_3 := blk_frozen BK1272.out 3; have hfz16_4 := blk_frozen BK1272.out 4; have hfz16_5 := blk_frozen BK1272.out 5))
        go_roundg k1
        case measure => have := HK1.out; omega
        case rel => exact ⟨(x5_1), (wrap64 (x10_1 + 1)), (by first | rfl | (simp; done) | (simp [*]; done)), (by first | rfl | (simp; done) | (simp [*]; done)), H', ⟨by have := HK1.out; omega⟩, ⟨bl_⟩⟩
      ·rw [if_neg c6] at H
       have c6b0 : (((rd_T131 l0 x10_1).f0) == a1) = false := beq_eq_false_iff_ne.mpr c6
       have c6b1 : (((rd_T131 l0 x10_1).f0) != a1) = true := bne_iff_ne.mpr c6
       have H' := Aside0.mk H
       clear H
       have p1271 : 0 ≤ (x10_1 : Int) := of_decide_eq_true as_
       have q1271 : x10_1 < (l0.length : Int) := of_decide_eq_true as_
       obtain ⟨ad1271, e1271, hx1271_0, hx1271_1, hx1271_2, hx1271_3, hx1271_4, hx1271_5⟩ := at_T131 HR0.out x10_1 p1271 q1271
       cases e1271
       replace hx1271_0 := (HB.out.cell (World.block_lt_of_cell? w _ hx1271_0)).trans hx1271_0
       replace hx1271_1 := (HB.out.cell (World.block_lt_of_cell? w _ hx1271_1)).trans hx1271_1
       replace hx1271_2 := (HB.out.cell (World.block_lt_of_cell? w _ hx1271_2)).trans hx1271_2
       replace hx1271_3 := (HB.out.cell (World.block_lt_of_cell? w _ hx1271_3)).trans hx1271_3
       replace hx1271_4 := (HB.out.cell (World.block_lt_of_cell? w _ hx1271_4)).trans hx1271_4
       replace hx1271_5 := (HB.out.cell (World.block_lt_of_cell? w _ hx1271_5)).trans hx1271_5
       replace p1271 := eq_true p1271
       replace q1271 := eq_true q1271
       go_wp2_with (first | ((with_reducible refine gate_dst (N := 7) rfl ?_); refine box_event ?hg (N := 7) ?hd (cs := #[.int .i64 0, .int .i64 0, .int .i64 0, .int .i64 0, .int .i64 0, .int .i64 0]) (t := 131) ?hr ?_; (case hd => rfl); (case hg => rfl); (case hr => first | (go_simp; done) | (go_simp; rfl)); intro gb1272 hg w17 hbox hb; have n0_ := Aside0.mk (below_step bl_ hb); have n1_ := Aside0.mk (hbox); have n2_ := Aside0.mk ((hz_ : w.heap.size ≤ gb1272)); have n3_ := Aside0.mk ((hz_ : w.heap.size ≤ gb1272)); clear HB; have HB := n0_; have BK1272 := n1_; have GW1272 := n2_; have GE1272 := n3_; clear n0_ n1_ n2_ n3_; clear hb hbox hg; have hcz18_0 : w17.cell? ⟨gb1272, 0, none⟩ = some (.int .i64 0) := (blk_cell BK1272.out 0).trans rfl; have hcz18_1 : w17.cell? ⟨gb1272, 1, none⟩ = some (.int .i64 0) := (blk_cell BK1272.out 1).trans rfl; have hcz18_2 : w17.cell? ⟨gb1272, 2, none⟩ = some (.int .i64 0) := (blk_cell BK1272.out 2).trans rfl; have hcz18_3 : w17.cell? ⟨gb1272, 3, none⟩ = some (.int .i64 0) := (blk_cell BK1272.out 3).trans rfl; have hcz18_4 : w17.cell? ⟨gb1272, 4, none⟩ = some (.int .i64 0) := (blk_cell BK1272.out 4).trans rfl; have hcz18_5 : w17.cell? ⟨gb1272, 5, none⟩ = some (.int .i64 0) := (blk_cell BK1272.out 5).trans rfl; have hfz18_0 := blk_frozen BK1272.out 0; have hfz18_1 := blk_frozen BK1272.out 1; have hfz18_2 := blk_frozen BK1272.out 2; have hfz18_3 := blk_frozen BK1272.out 3; have hfz18_4 := blk_frozen BK1272.out 4; have hfz18_5 := blk_frozen BK1272.out 5))
       go_roundg k1
       case measure => have := HK1.out; omega
       case rel => exact ⟨(x5_1), (wrap64 (x10_1 + 1)), (by first | rfl | (simp; done) | (simp [*]; done)), (by first | rfl | (simp; done) | (simp [*]; done)), H', ⟨by have := HK1.out; omega⟩, ⟨bl_⟩⟩
     ·rw [if_neg c5] at H
      exact absurd H (by simp)
    ·rw [if_neg c4] at H
     exact absurd H (by simp)
   ·rw [if_neg c3] at H
    have c3b0 : decide (x10_1 < (l0.length : Int)) = false := decide_eq_false c3
    clear c3
    obtain rfl := Option.some.inj H
    go_wp2
    go_ret
    exact ⟨by first | rfl | (simp [errW_none, errW_some] <;> rfl) | (simp [*, errW_none, errW_some] <;> rfl) | exact False.elim (Bool.noConfusion ((decide_eq_true (of_eq_true (by assumption))).symm.trans (by assumption))), bl_⟩


/-! ### spec_LostBy: function 62 -/
mutual
def spec_LostBy.l0 : Nat → List (S131) → Int → Int → Int → Option (Int)
 | 0, _, _, _, _ => none
 | k + 1, x0, x1, x5, x6 => if x6 < (x0.length : Int) then (if 0 ≤ x6 then (if ((rd_T131 x0 x6).f0) = x1 then (if ((rd_T131 x0 x6).f2.f0) = 2 then (spec_LostBy.j1 k x0 x1 x5 x6 (decide (((rd_T131 x0 x6).f2.f3) ≤ 0)) ((rd_T131 x0 x6).f2.f0) ((rd_T131 x0 x6).f2.f1) ((rd_T131 x0 x6).f2.f2) ((rd_T131 x0 x6).f2.f3)) else (spec_LostBy.j1 k x0 x1 x5 x6 true ((rd_T131 x0 x6).f2.f0) ((rd_T131 x0 x6).f2.f1) ((rd_T131 x0 x6).f2.f2) ((rd_T131 x0 x6).f2.f3))) else (spec_LostBy.j1 k x0 x1 x5 x6 true ((rd_T131 x0 x6).f2.f0) ((rd_T131 x0 x6).f2.f1) ((rd_T131 x0 x6).f2.f2) ((rd_T131 x0 x6).f2.f3))) else (none)) else (some x5)
def spec_LostBy.j1 : Nat → List (S131) → Int → Int → Int → Bool → Int → Int → Int → Int → Option (Int)
 | 0, _, _, _, _, _, _, _, _, _ => none
 | k + 1, x0, x1, x5, x6, x35, x1275000, x1275001, x1275002, x1275003 => if x35 = true then (spec_LostBy.l0 k x0 x1 x5 (wrap64 (x6 + 1))) else (if x1275003 > (wrap64 (1000000000 - x5)) then (spec_LostBy.l0 k x0 x1 1000000000 (wrap64 (x6 + 1))) else (spec_LostBy.l0 k x0 x1 (wrap64 (x5 + x1275003)) (wrap64 (x6 + 1))))
end
def spec_LostBy.f (k : Nat) (l0 : List (S131)) (a1 : Int) : Option (Int) := spec_LostBy.l0 k l0 a1 0 0
theorem spec_LostBy.mono_l : ∀ k, (∀ y0 y1 y2 y3, LeO (spec_LostBy.l0 k y0 y1 y2 y3) (spec_LostBy.l0 (k + 1) y0 y1 y2 y3)) ∧ (∀ y0 y1 y2 y3 y4 y5 y6 y7 y8, LeO (spec_LostBy.j1 k y0 y1 y2 y3 y4 y5 y6 y7 y8) (spec_LostBy.j1 (k + 1) y0 y1 y2 y3 y4 y5 y6 y7 y8))
 | 0 => ⟨fun _ _ _ _ r h => by simp [spec_LostBy.l0] at h, fun _ _ _ _ _ _ _ _ _ r h => by simp [spec_LostBy.j1] at h⟩
 | k + 1 => by
  obtain ⟨ih0, ih1⟩ := spec_LostBy.mono_l k
  refine ⟨?_, ?_⟩
  ·intro y0 y1 y2 y3
   unfold spec_LostBy.l0
   repeat' first
   | (with_reducible exact ih0 _ _ _ _)
   | (with_reducible exact ih1 _ _ _ _ _ _ _ _ _)
   | (with_reducible exact LeO.refl _)
   | (with_reducible exact LeO.none _)
   | (with_reducible refine LeO.ite ?_ ?_)
   | (with_reducible refine LeO.bind ?_ (fun _ => ?_))
   | exact ih0 _ _ _ _
   | exact ih1 _ _ _ _ _ _ _ _ _
   | exact LeO.none _
   | refine LeO.ite ?_ ?_
   | refine LeO.bind ?_ (fun _ => ?_)
  ·intro y0 y1 y2 y3 y4 y5 y6 y7 y8
   unfold spec_LostBy.j1
   repeat' first
   | (with_reducible exact ih0 _ _ _ _)
   | (with_reducible exact ih1 _ _ _ _ _ _ _ _ _)
   | (with_reducible exact LeO.refl _)
   | (with_reducible exact LeO.none _)
   | (with_reducible refine LeO.ite ?_ ?_)
   | (with_reducible refine LeO.bind ?_ (fun _ => ?_))
   | exact ih0 _ _ _ _
   | exact ih1 _ _ _ _ _ _ _ _ _
   | exact LeO.none _
   | refine LeO.ite ?_ ?_
   | refine LeO.bind ?_ (fun _ => ?_)
theorem spec_LostBy.mono : ∀ a0 a1 k, LeO (spec_LostBy.f k a0 a1) (spec_LostBy.f (k + 1) a0 a1) := by
 intro a0 a1 k
 obtain ⟨ih0, ih1⟩ := spec_LostBy.mono_l k
 unfold spec_LostBy.f
 repeat' first
  | (with_reducible exact ih0 _ _ _ _)
  | (with_reducible exact ih1 _ _ _ _ _ _ _ _ _)
  | (with_reducible exact LeO.refl _)
  | (with_reducible exact LeO.none _)
  | (with_reducible refine LeO.ite ?_ ?_)
  | (with_reducible refine LeO.bind ?_ (fun _ => ?_))
  | exact ih0 _ _ _ _
  | exact ih1 _ _ _ _ _ _ _ _ _
  | exact LeO.none _
  | refine LeO.ite ?_ ?_
  | refine LeO.bind ?_ (fun _ => ?_)
set_option maxHeartbeats 8000000 in
set_option maxRecDepth 100000 in
theorem spec_LostBy.calls (k : Nat) (A0 : Option Addr) (c0 : Nat) (l0 : List (S131)) (a1 : Int) (r : Int) (w : World) (hr0 : Kd.C k131 w A0 l0.length l0) (hc0 : l0.length ≤ c0) (h : spec_LostBy.f k l0 a1 = some r) :
 Calls Try.prog 62 #[.slice A0 l0.length c0, .int .i64 a1] w fun e w' => e = .returned (.int .i64 r) ∧ Below w.heap.size w w' := by
 have hu129 := Try.underlying129
 have HR0 := Aside0.mk hr0
 have HC0 := Aside0.mk hc0
 clear hr0 hc0
 have HB := Aside0.mk (Below.refl w.heap.size w)
 have H : (spec_LostBy.l0 k l0 a1 0 0) = some r := h
 clear h
 have H' := Aside0.mk H
 clear H
 go_enter Try.func62, Try.ntmps62
 go_wp2
 go_loopg [5, 6] k (fun kq v5 v6 w' => ∃ (x5_1 : Int) (x6_1 : Int), v5 = .int .i64 x5_1 ∧ v6 = .int .i64 x6_1 ∧ Aside0 (spec_LostBy.l0 kq l0 a1 x5_1 x6_1 = some r) ∧ Aside0 (kq ≤ k) ∧ Aside0 (Below w.heap.size w w'))
 case atStart => exact ⟨(0), (0), (by first | rfl | (simp; done) | (simp [*]; done)), (by first | rfl | (simp; done) | (simp [*]; done)), H', ⟨Nat.le_refl _⟩, ⟨bl_⟩⟩
 case round =>
  clear H'
  try clear p2
  obtain ⟨x5_1, x6_1, rfl, rfl, HA, HK1, HB⟩ := hrel
  cases gk with
  | zero => exact absurd HA.out (by simp [spec_LostBy.l0])
  | succ k1 =>
   have H := HA.out
   clear HA
   simp only [spec_LostBy.l0] at H
   by_cases c3 : x6_1 < (l0.length : Int)
   ·rw [if_pos c3] at H
    have c3b0 : decide (x6_1 < (l0.length : Int)) = true := decide_eq_true c3
    clear c3
    by_cases c4 : 0 ≤ x6_1
    ·rw [if_pos c4] at H
     have c4b0 : decide (0 ≤ x6_1) = true := decide_eq_true c4
     clear c4
     have HC5 := Aside0.mk H
     clear H
     have p1273 : 0 ≤ (x6_1 : Int) := of_decide_eq_true as_
     have q1273 : x6_1 < (l0.length : Int) := of_decide_eq_true as_
     obtain ⟨ad1273, e1273, hx1273_0, hx1273_1, hx1273_2, hx1273_3, hx1273_4, hx1273_5⟩ := at_T131 HR0.out x6_1 p1273 q1273
     cases e1273
     replace hx1273_0 := (HB.out.cell (World.block_lt_of_cell? w _ hx1273_0)).trans hx1273_0
     replace hx1273_1 := (HB.out.cell (World.block_lt_of_cell? w _ hx1273_1)).trans hx1273_1
     replace hx1273_2 := (HB.out.cell (World.block_lt_of_cell? w _ hx1273_2)).trans hx1273_2
     replace hx1273_3 := (HB.out.cell (World.block_lt_of_cell? w _ hx1273_3)).trans hx1273_3
     replace hx1273_4 := (HB.out.cell (World.block_lt_of_cell? w _ hx1273_4)).trans hx1273_4
     replace hx1273_5 := (HB.out.cell (World.block_lt_of_cell? w _ hx1273_5)).trans hx1273_5
     replace p1273 := eq_true p1273
     replace q1273 := eq_true q1273
     go_upto_region 6 with (first | ((with_reducible refine gate_dst (N := 7) rfl ?_); refine box_event ?hg (N := 7) ?hd (cs := #[.int .i64 0, .int .i64 0, .int .i64 0, .int .i64 0]) (t := 129) ?hr ?_; (case hd => rfl); (case hg => rfl); (case hr => first | (go_simp; done) | (go_simp; rfl)); intro gb1274 hg w6 hbox hb; have n0_ := Aside0.mk (below_step bl_ hb); have n1_ := Aside0.mk (hbox); have n2_ := Aside0.mk ((hz_ : w.heap.size ≤ gb1274)); have n3_ := Aside0.mk ((hz_ : w.heap.size ≤ gb1274)); clear HB; have HB := n0_; have BK1274 := n1_; have GW1274 := n2_; have GE1274 := n3_; clear n0_ n1_ n2_ n3_; clear hb hbox hg; have hcz7_0 : w6.cell? ⟨gb1274, 0, none⟩ = some (.int .i64 0) := (blk_cell BK1274.out 0).trans rfl; have hcz7_1 : w6.cell? ⟨gb1274, 1, none⟩ = some (.int .i64 0) := (blk_cell BK1274.out 1).trans rfl; have hcz7_2 : w6.cell? ⟨gb1274, 2, none⟩ = some (.int .i64 0) := (blk_cell BK1274.out 2).trans rfl; have hcz7_3 : w6.cell? ⟨gb1274, 3, none⟩ = some (.int .i64 0) := (blk_cell BK1274.out 3).trans rfl; have hfz7_0 := blk_frozen BK1274.out 0; have hfz7_1 := blk_frozen BK1274.out 1; have hfz7_2 := blk_frozen BK1274.out 2; have hfz7_3 := blk_frozen BK1274.out 3))
     (try simp only [Act.put, List.setIfInBounds_toArray, List.set_cons_zero, List.set_cons_succ])
     go_cut [35] (fun v35 wc => ∃ (kq : Nat) (x35_4 : Bool), v35 = .bool x35_4 ∧ Aside0 (spec_LostBy.j1 kq l0 a1 x5_1 x6_1 x35_4 ((rd_T131 l0 x6_1).f2.f0) ((rd_T131 l0 x6_1).f2.f1) ((rd_T131 l0 x6_1).f2.f2) ((rd_T131 l0 x6_1).f2.f3) = some r) ∧ Aside0 (kq ≤ k1) ∧ Aside0 (wc.heap[gb1274]? = some (.cells #[.int .i64 ((rd_T131 l0 x6_1).f2.f0), .int .i64 ((rd_T131 l0 x6_1).f2.f1), .int .i64 ((rd_T131 l0 x6_1).f2.f2), .int .i64 ((rd_T131 l0 x6_1).f2.f3)] 129 (0, 0))) ∧ Aside0 (Below w.heap.size w wc))
     case first =>
      have H := HC5.out
      clear HC5
      by_cases c8 : ((rd_T131 l0 x6_1).f0) = a1
      ·rw [if_pos c8] at H
       have c8b0 : (((rd_T131 l0 x6_1).f0) == a1) = true := beq_iff_eq.mpr c8
       have c8b1 : (((rd_T131 l0 x6_1).f0) != a1) = false := bne_eq_false_iff_eq.mpr c8
       clear c8
       (first | rw [c8b0] | (simp only [i64_w, i32_w]; rw [c8b0]) | skip)
       by_cases c9 : ((rd_T131 l0 x6_1).f2.f0) = 2
       ·rw [if_pos c9] at H
        have c9b0 : (((rd_T131 l0 x6_1).f2.f0) == 2) = true := beq_iff_eq.mpr c9
        have c9b1 : (((rd_T131 l0 x6_1).f2.f0) != 2) = false := bne_eq_false_iff_eq.mpr c9
        clear c9
        have H' := Aside0.mk H
        clear H
        have p1275 : 0 ≤ (x6_1 : Int) := of_decide_eq_true as_
        have q1275 : x6_1 < (l0.length : Int) := of_decide_eq_true as_
        obtain ⟨ad1275, e1275, hx1275_0, hx1275_1, hx1275_2, hx1275_3, hx1275_4, hx1275_5⟩ := at_T131 HR0.out x6_1 p1275 q1275
        obtain rfl : ad1273 = ad1275 := (by injection e1275)
        have hn1275_0 : ad1273.block ≠ gb1274 := Nat.ne_of_lt (Nat.lt_of_lt_of_le (by have := World.block_lt_of_cell? _ _ hx1275_0; first | rwa [add_block] at this | exact this) GW1274.out)
        have hn1275_1 : ad1273.block ≠ gb1274 := Nat.ne_of_lt (Nat.lt_of_lt_of_le (by have := World.block_lt_of_cell? _ _ hx1275_0; first | rwa [add_block] at this | exact this) GW1274.out)
        have hn1275_2 : ad1273.block ≠ gb1274 := Nat.ne_of_lt (Nat.lt_of_lt_of_le (by have := World.block_lt_of_cell? _ _ hx1275_0; first | rwa [add_block] at this | exact this) GW1274.out)
        have hn1275_3 : ad1273.block ≠ gb1274 := Nat.ne_of_lt (Nat.lt_of_lt_of_le (by have := World.block_lt_of_cell? _ _ hx1275_0; first | rwa [add_block] at this | exact this) GW1274.out)
        replace hx1275_0 := (HB.out.cell (World.block_lt_of_cell? w _ hx1275_0)).trans hx1275_0
        replace hx1275_1 := (HB.out.cell (World.block_lt_of_cell? w _ hx1275_1)).trans hx1275_1
        replace hx1275_2 := (HB.out.cell (World.block_lt_of_cell? w _ hx1275_2)).trans hx1275_2
        replace hx1275_3 := (HB.out.cell (World.block_lt_of_cell? w _ hx1275_3)).trans hx1275_3
        replace hx1275_4 := (HB.out.cell (World.block_lt_of_cell? w _ hx1275_4)).trans hx1275_4
        replace hx1275_5 := (HB.out.cell (World.block_lt_of_cell? w _ hx1275_5)).trans hx1275_5
        replace hx1275_0 := (cell_far (p := ⟨gb1274, 0, none⟩) (by first | (rw [add_block]; exact hn1275_0) | (show (Addr.add _ _).block ≠ _; rw [add_block]; exact hn1275_0) | exact hn1275_0) (.int .i64 ((rd_T131 l0 x6_1).f2.f0))).trans hx1275_0
        replace hx1275_1 := (cell_far (p := ⟨gb1274, 0, none⟩) (by first | (rw [add_block]; exact hn1275_0) | (show (Addr.add _ _).block ≠ _; rw [add_block]; exact hn1275_0) | exact hn1275_0) (.int .i64 ((rd_T131 l0 x6_1).f2.f0))).trans hx1275_1
        replace hx1275_2 := (cell_far (p := ⟨gb1274, 0, none⟩) (by first | (rw [add_block]; exact hn1275_0) | (show (Addr.add _ _).block ≠ _; rw [add_block]; exact hn1275_0) | exact hn1275_0) (.int .i64 ((rd_T131 l0 x6_1).f2.f0))).trans hx1275_2
        replace hx1275_3 := (cell_far (p := ⟨gb1274, 0, none⟩) (by first | (rw [add_block]; exact hn1275_0) | (show (Addr.add _ _).block ≠ _; rw [add_block]; exact hn1275_0) | exact hn1275_0) (.int .i64 ((rd_T131 l0 x6_1).f2.f0))).trans hx1275_3
        replace hx1275_4 := (cell_far (p := ⟨gb1274, 0, none⟩) (by first | (rw [add_block]; exact hn1275_0) | (show (Addr.add _ _).block ≠ _; rw [add_block]; exact hn1275_0) | exact hn1275_0) (.int .i64 ((rd_T131 l0 x6_1).f2.f0))).trans hx1275_4
        replace hx1275_5 := (cell_far (p := ⟨gb1274, 0, none⟩) (by first | (rw [add_block]; exact hn1275_0) | (show (Addr.add _ _).block ≠ _; rw [add_block]; exact hn1275_0) | exact hn1275_0) (.int .i64 ((rd_T131 l0 x6_1).f2.f0))).trans hx1275_5
        replace hx1275_0 := (cell_far (p := ⟨gb1274, 1, none⟩) (by first | (rw [add_block]; exact hn1275_1) | (show (Addr.add _ _).block ≠ _; rw [add_block]; exact hn1275_1) | exact hn1275_1) (.int .i64 ((rd_T131 l0 x6_1).f2.f1))).trans hx1275_0
        replace hx1275_1 := (cell_far (p := ⟨gb1274, 1, none⟩) (by first | (rw [add_block]; exact hn1275_1) | (show (Addr.add _ _).block ≠ _; rw [add_block]; exact hn1275_1) | exact hn1275_1) (.int .i64 ((rd_T131 l0 x6_1).f2.f1))).trans hx1275_1
        replace hx1275_2 := (cell_far (p := ⟨gb1274, 1, none⟩) (by first | (rw [add_block]; exact hn1275_1) | (show (Addr.add _ _).block ≠ _; rw [add_block]; exact hn1275_1) | exact hn1275_1) (.int .i64 ((rd_T131 l0 x6_1).f2.f1))).trans hx1275_2
        replace hx1275_3 := (cell_far (p := ⟨gb1274, 1, none⟩) (by first | (rw [add_block]; exact hn1275_1) | (show (Addr.add _ _).block ≠ _; rw [add_block]; exact hn1275_1) | exact hn1275_1) (.int .i64 ((rd_T131 l0 x6_1).f2.f1))).trans hx1275_3
        replace hx1275_4 := (cell_far (p := ⟨gb1274, 1, none⟩) (by first | (rw [add_block]; exact hn1275_1) | (show (Addr.add _ _).block ≠ _; rw [add_block]; exact hn1275_1) | exact hn1275_1) (.int .i64 ((rd_T131 l0 x6_1).f2.f1))).trans hx1275_4
        replace hx1275_5 := (cell_far (p := ⟨gb1274, 1, none⟩) (by first | (rw [add_block]; exact hn1275_1) | (show (Addr.add _ _).block ≠ _; rw [add_block]; exact hn1275_1) | exact hn1275_1) (.int .i64 ((rd_T131 l0 x6_1).f2.f1))).trans hx1275_5
        replace hx1275_0 := (cell_far (p := ⟨gb1274, 2, none⟩) (by first | (rw [add_block]; exact hn1275_2) | (show (Addr.add _ _).block ≠ _; rw [add_block]; exact hn1275_2) | exact hn1275_2) (.int .i64 ((rd_T131 l0 x6_1).f2.f2))).trans hx1275_0
        replace hx1275_1 := (cell_far (p := ⟨gb1274, 2, none⟩) (by first | (rw [add_block]; exact hn1275_2) | (show (Addr.add _ _).block ≠ _; rw [add_block]; exact hn1275_2) | exact hn1275_2) (.int .i64 ((rd_T131 l0 x6_1).f2.f2))).trans hx1275_1
        replace hx1275_2 := (cell_far (p := ⟨gb1274, 2, none⟩) (by first | (rw [add_block]; exact hn1275_2) | (show (Addr.add _ _).block ≠ _; rw [add_block]; exact hn1275_2) | exact hn1275_2) (.int .i64 ((rd_T131 l0 x6_1).f2.f2))).trans hx1275_2
        replace hx1275_3 := (cell_far (p := ⟨gb1274, 2, none⟩) (by first | (rw [add_block]; exact hn1275_2) | (show (Addr.add _ _).block ≠ _; rw [add_block]; exact hn1275_2) | exact hn1275_2) (.int .i64 ((rd_T131 l0 x6_1).f2.f2))).trans hx1275_3
        replace hx1275_4 := (cell_far (p := ⟨gb1274, 2, none⟩) (by first | (rw [add_block]; exact hn1275_2) | (show (Addr.add _ _).block ≠ _; rw [add_block]; exact hn1275_2) | exact hn1275_2) (.int .i64 ((rd_T131 l0 x6_1).f2.f2))).trans hx1275_4
        replace hx1275_5 := (cell_far (p := ⟨gb1274, 2, none⟩) (by first | (rw [add_block]; exact hn1275_2) | (show (Addr.add _ _).block ≠ _; rw [add_block]; exact hn1275_2) | exact hn1275_2) (.int .i64 ((rd_T131 l0 x6_1).f2.f2))).trans hx1275_5
        replace hx1275_0 := (cell_far (p := ⟨gb1274, 3, none⟩) (by first | (rw [add_block]; exact hn1275_3) | (show (Addr.add _ _).block ≠ _; rw [add_block]; exact hn1275_3) | exact hn1275_3) (.int .i64 ((rd_T131 l0 x6_1).f2.f3))).trans hx1275_0
        replace hx1275_1 := (cell_far (p := ⟨gb1274, 3, none⟩) (by first | (rw [add_block]; exact hn1275_3) | (show (Addr.add _ _).block ≠ _; rw [add_block]; exact hn1275_3) | exact hn1275_3) (.int .i64 ((rd_T131 l0 x6_1).f2.f3))).trans hx1275_1
        replace hx1275_2 := (cell_far (p := ⟨gb1274, 3, none⟩) (by first | (rw [add_block]; exact hn1275_3) | (show (Addr.add _ _).block ≠ _; rw [add_block]; exact hn1275_3) | exact hn1275_3) (.int .i64 ((rd_T131 l0 x6_1).f2.f3))).trans hx1275_2
        replace hx1275_3 := (cell_far (p := ⟨gb1274, 3, none⟩) (by first | (rw [add_block]; exact hn1275_3) | (show (Addr.add _ _).block ≠ _; rw [add_block]; exact hn1275_3) | exact hn1275_3) (.int .i64 ((rd_T131 l0 x6_1).f2.f3))).trans hx1275_3
        replace hx1275_4 := (cell_far (p := ⟨gb1274, 3, none⟩) (by first | (rw [add_block]; exact hn1275_3) | (show (Addr.add _ _).block ≠ _; rw [add_block]; exact hn1275_3) | exact hn1275_3) (.int .i64 ((rd_T131 l0 x6_1).f2.f3))).trans hx1275_4
        replace hx1275_5 := (cell_far (p := ⟨gb1274, 3, none⟩) (by first | (rw [add_block]; exact hn1275_3) | (show (Addr.add _ _).block ≠ _; rw [add_block]; exact hn1275_3) | exact hn1275_3) (.int .i64 ((rd_T131 l0 x6_1).f2.f3))).trans hx1275_5
        clear hn1275_0
        clear hn1275_1
        clear hn1275_2
        clear hn1275_3
        replace p1275 := eq_true p1275
        replace q1275 := eq_true q1275
        have hcz10_0 : w6.cell? ⟨gb1274, 0, none⟩ = some (.int .i64 0) := (blk_cell BK1274.out 0).trans rfl
        have hcz10_1 : w6.cell? ⟨gb1274, 1, none⟩ = some (.int .i64 0) := (blk_cell BK1274.out 1).trans rfl
        have hcz10_2 : w6.cell? ⟨gb1274, 2, none⟩ = some (.int .i64 0) := (blk_cell BK1274.out 2).trans rfl
        have hcz10_3 : w6.cell? ⟨gb1274, 3, none⟩ = some (.int .i64 0) := (blk_cell BK1274.out 3).trans rfl
        have hfz10_0 := blk_frozen BK1274.out 0
        have hfz10_1 := blk_frozen BK1274.out 1
        have hfz10_2 := blk_frozen BK1274.out 2
        have hfz10_3 := blk_frozen BK1274.out 3
        go_wp2
        go_meet
        case rel => exact ⟨_, (decide (((rd_T131 l0 x6_1).f2.f3) ≤ 0)), (by first | rfl | (simp; done) | (simp [*]; done)), H', ⟨by have := HK1.out; first | omega | exact Nat.le_refl _⟩, ⟨by (with_reducible repeat (first | refine blk_drewN ?_ _ | refine blk_drew ?_ | refine blk_alloc ?_ _)); refine blk_put (cs := #[.int .i64 ((rd_T131 l0 x6_1).f2.f0), .int .i64 ((rd_T131 l0 x6_1).f2.f1), .int .i64 ((rd_T131 l0 x6_1).f2.f2), .int .i64 0]) ?_ 3 _ rfl; (with_reducible repeat (first | refine blk_drewN ?_ _ | refine blk_drew ?_ | refine blk_alloc ?_ _)); refine blk_put (cs := #[.int .i64 ((rd_T131 l0 x6_1).f2.f0), .int .i64 ((rd_T131 l0 x6_1).f2.f1), .int .i64 0, .int .i64 0]) ?_ 2 _ rfl; (with_reducible repeat (first | refine blk_drewN ?_ _ | refine blk_drew ?_ | refine blk_alloc ?_ _)); refine blk_put (cs := #[.int .i64 ((rd_T131 l0 x6_1).f2.f0), .int .i64 0, .int .i64 0, .int .i64 0]) ?_ 1 _ rfl; (with_reducible repeat (first | refine blk_drewN ?_ _ | refine blk_drew ?_ | refine blk_alloc ?_ _)); refine blk_put (cs := #[.int .i64 0, .int .i64 0, .int .i64 0, .int .i64 0]) ?_ 0 _ rfl; (with_reducible repeat (first | refine blk_drewN ?_ _ | refine blk_drew ?_ | refine blk_alloc ?_ _)); exact BK1274.out⟩, ⟨bl_⟩⟩
       ·rw [if_neg c9] at H
        have c9b0 : (((rd_T131 l0 x6_1).f2.f0) == 2) = false := beq_eq_false_iff_ne.mpr c9
        have c9b1 : (((rd_T131 l0 x6_1).f2.f0) != 2) = true := bne_iff_ne.mpr c9
        have H' := Aside0.mk H
        clear H
        have p1275 : 0 ≤ (x6_1 : Int) := of_decide_eq_true as_
        have q1275 : x6_1 < (l0.length : Int) := of_decide_eq_true as_
        obtain ⟨ad1275, e1275, hx1275_0, hx1275_1, hx1275_2, hx1275_3, hx1275_4, hx1275_5⟩ := at_T131 HR0.out x6_1 p1275 q1275
        obtain rfl : ad1273 = ad1275 := (by injection e1275)
        have hn1275_0 : ad1273.block ≠ gb1274 := Nat.ne_of_lt (Nat.lt_of_lt_of_le (by have := World.block_lt_of_cell? _ _ hx1275_0; first | rwa [add_block] at this | exact this) GW1274.out)
        have hn1275_1 : ad1273.block ≠ gb1274 := Nat.ne_of_lt (Nat.lt_of_lt_of_le (by have := World.block_lt_of_cell? _ _ hx1275_0; first | rwa [add_block] at this | exact this) GW1274.out)
        have hn1275_2 : ad1273.block ≠ gb1274 := Nat.ne_of_lt (Nat.lt_of_lt_of_le (by have := World.block_lt_of_cell? _ _ hx1275_0; first | rwa [add_block] at this | exact this) GW1274.out)
        have hn1275_3 : ad1273.block ≠ gb1274 := Nat.ne_of_lt (Nat.lt_of_lt_of_le (by have := World.block_lt_of_cell? _ _ hx1275_0; first | rwa [add_block] at this | exact this) GW1274.out)
        replace hx1275_0 := (HB.out.cell (World.block_lt_of_cell? w _ hx1275_0)).trans hx1275_0
        replace hx1275_1 := (HB.out.cell (World.block_lt_of_cell? w _ hx1275_1)).trans hx1275_1
        replace hx1275_2 := (HB.out.cell (World.block_lt_of_cell? w _ hx1275_2)).trans hx1275_2
        replace hx1275_3 := (HB.out.cell (World.block_lt_of_cell? w _ hx1275_3)).trans hx1275_3
        replace hx1275_4 := (HB.out.cell (World.block_lt_of_cell? w _ hx1275_4)).trans hx1275_4
        replace hx1275_5 := (HB.out.cell (World.block_lt_of_cell? w _ hx1275_5)).trans hx1275_5
        replace hx1275_0 := (cell_far (p := ⟨gb1274, 0, none⟩) (by first | (rw [add_block]; exact hn1275_0) | (show (Addr.add _ _).block ≠ _; rw [add_block]; exact hn1275_0) | exact hn1275_0) (.int .i64 ((rd_T131 l0 x6_1).f2.f0))).trans hx1275_0
        replace hx1275_1 := (cell_far (p := ⟨gb1274, 0, none⟩) (by first | (rw [add_block]; exact hn1275_0) | (show (Addr.add _ _).block ≠ _; rw [add_block]; exact hn1275_0) | exact hn1275_0) (.int .i64 ((rd_T131 l0 x6_1).f2.f0))).trans hx1275_1
        replace hx1275_2 := (cell_far (p := ⟨gb1274, 0, none⟩) (by first | (rw [add_block]; exact hn1275_0) | (show (Addr.add _ _).block ≠ _; rw [add_block]; exact hn1275_0) | exact hn1275_0) (.int .i64 ((rd_T131 l0 x6_1).f2.f0))).trans hx1275_2
        replace hx1275_3 := (cell_far (p := ⟨gb1274, 0, none⟩) (by first | (rw [add_block]; exact hn1275_0) | (show (Addr.add _ _).block ≠ _; rw [add_block]; exact hn1275_0) | exact hn1275_0) (.int .i64 ((rd_T131 l0 x6_1).f2.f0))).trans hx1275_3
        replace hx1275_4 := (cell_far (p := ⟨gb1274, 0, none⟩) (by first | (rw [add_block]; exact hn1275_0) | (show (Addr.add _ _).block ≠ _; rw [add_block]; exact hn1275_0) | exact hn1275_0) (.int .i64 ((rd_T131 l0 x6_1).f2.f0))).trans hx1275_4
        replace hx1275_5 := (cell_far (p := ⟨gb1274, 0, none⟩) (by first | (rw [add_block]; exact hn1275_0) | (show (Addr.add _ _).block ≠ _; rw [add_block]; exact hn1275_0) | exact hn1275_0) (.int .i64 ((rd_T131 l0 x6_1).f2.f0))).trans hx1275_5
        replace hx1275_0 := (cell_far (p := ⟨gb1274, 1, none⟩) (by first | (rw [add_block]; exact hn1275_1) | (show (Addr.add _ _).block ≠ _; rw [add_block]; exact hn1275_1) | exact hn1275_1) (.int .i64 ((rd_T131 l0 x6_1).f2.f1))).trans hx1275_0
        replace hx1275_1 := (cell_far (p := ⟨gb1274, 1, none⟩) (by first | (rw [add_block]; exact hn1275_1) | (show (Addr.add _ _).block ≠ _; rw [add_block]; exact hn1275_1) | exact hn1275_1) (.int .i64 ((rd_T131 l0 x6_1).f2.f1))).trans hx1275_1
        replace hx1275_2 := (cell_far (p := ⟨gb1274, 1, none⟩) (by first | (rw [add_block]; exact hn1275_1) | (show (Addr.add _ _).block ≠ _; rw [add_block]; exact hn1275_1) | exact hn1275_1) (.int .i64 ((rd_T131 l0 x6_1).f2.f1))).trans hx1275_2
        replace hx1275_3 := (cell_far (p := ⟨gb1274, 1, none⟩) (by first | (rw [add_block]; exact hn1275_1) | (show (Addr.add _ _).block ≠ _; rw [add_block]; exact hn1275_1) | exact hn1275_1) (.int .i64 ((rd_T131 l0 x6_1).f2.f1))).trans hx1275_3
        replace hx1275_4 := (cell_far (p := ⟨gb1274, 1, none⟩) (by first | (rw [add_block]; exact hn1275_1) | (show (Addr.add _ _).block ≠ _; rw [add_block]; exact hn1275_1) | exact hn1275_1) (.int .i64 ((rd_T131 l0 x6_1).f2.f1))).trans hx1275_4
        replace hx1275_5 := (cell_far (p := ⟨gb1274, 1, none⟩) (by first | (rw [add_block]; exact hn1275_1) | (show (Addr.add _ _).block ≠ _; rw [add_block]; exact hn1275_1) | exact hn1275_1) (.int .i64 ((rd_T131 l0 x6_1).f2.f1))).trans hx1275_5
        replace hx1275_0 := (cell_far (p := ⟨gb1274, 2, none⟩) (by first | (rw [add_block]; exact hn1275_2) | (show (Addr.add _ _).block ≠ _; rw [add_block]; exact hn1275_2) | exact hn1275_2) (.int .i64 ((rd_T131 l0 x6_1).f2.f2))).trans hx1275_0
        replace hx1275_1 := (cell_far (p := ⟨gb1274, 2, none⟩) (by first | (rw [add_block]; exact hn1275_2) | (show (Addr.add _ _).block ≠ _; rw [add_block]; exact hn1275_2) | exact hn1275_2) (.int .i64 ((rd_T131 l0 x6_1).f2.f2))).trans hx1275_1
        replace hx1275_2 := (cell_far (p := ⟨gb1274, 2, none⟩) (by first | (rw [add_block]; exact hn1275_2) | (show (Addr.add _ _).block ≠ _; rw [add_block]; exact hn1275_2) | exact hn1275_2) (.int .i64 ((rd_T131 l0 x6_1).f2.f2))).trans hx1275_2
        replace hx1275_3 := (cell_far (p := ⟨gb1274, 2, none⟩) (by first | (rw [add_block]; exact hn1275_2) | (show (Addr.add _ _).block ≠ _; rw [add_block]; exact hn1275_2) | exact hn1275_2) (.int .i64 ((rd_T131 l0 x6_1).f2.f2))).trans hx1275_3
        replace hx1275_4 := (cell_far (p := ⟨gb1274, 2, none⟩) (by first | (rw [add_block]; exact hn1275_2) | (show (Addr.add _ _).block ≠ _; rw [add_block]; exact hn1275_2) | exact hn1275_2) (.int .i64 ((rd_T131 l0 x6_1).f2.f2))).trans hx1275_4
        replace hx1275_5 := (cell_far (p := ⟨gb1274, 2, none⟩) (by first | (rw [add_block]; exact hn1275_2) | (show (Addr.add _ _).block ≠ _; rw [add_block]; exact hn1275_2) | exact hn1275_2) (.int .i64 ((rd_T131 l0 x6_1).f2.f2))).trans hx1275_5
        replace hx1275_0 := (cell_far (p := ⟨gb1274, 3, none⟩) (by first | (rw [add_block]; exact hn1275_3) | (show (Addr.add _ _).block ≠ _; rw [add_block]; exact hn1275_3) | exact hn1275_3) (.int .i64 ((rd_T131 l0 x6_1).f2.f3))).trans hx1275_0
        replace hx1275_1 := (cell_far (p := ⟨gb1274, 3, none⟩) (by first | (rw [add_block]; exact hn1275_3) | (show (Addr.add _ _).block ≠ _; rw [add_block]; exact hn1275_3) | exact hn1275_3) (.int .i64 ((rd_T131 l0 x6_1).f2.f3))).trans hx1275_1
        replace hx1275_2 := (cell_far (p := ⟨gb1274, 3, none⟩) (by first | (rw [add_block]; exact hn1275_3) | (show (Addr.add _ _).block ≠ _; rw [add_block]; exact hn1275_3) | exact hn1275_3) (.int .i64 ((rd_T131 l0 x6_1).f2.f3))).trans hx1275_2
        replace hx1275_3 := (cell_far (p := ⟨gb1274, 3, none⟩) (by first | (rw [add_block]; exact hn1275_3) | (show (Addr.add _ _).block ≠ _; rw [add_block]; exact hn1275_3) | exact hn1275_3) (.int .i64 ((rd_T131 l0 x6_1).f2.f3))).trans hx1275_3
        replace hx1275_4 := (cell_far (p := ⟨gb1274, 3, none⟩) (by first | (rw [add_block]; exact hn1275_3) | (show (Addr.add _ _).block ≠ _; rw [add_block]; exact hn1275_3) | exact hn1275_3) (.int .i64 ((rd_T131 l0 x6_1).f2.f3))).trans hx1275_4
        replace hx1275_5 := (cell_far (p := ⟨gb1274, 3, none⟩) (by first | (rw [add_block]; exact hn1275_3) | (show (Addr.add _ _).block ≠ _; rw [add_block]; exact hn1275_3) | exact hn1275_3) (.int .i64 ((rd_T131 l0 x6_1).f2.f3))).trans hx1275_5
        clear hn1275_0
        clear hn1275_1
        clear hn1275_2
        clear hn1275_3
        replace p1275 := eq_true p1275
        replace q1275 := eq_true q1275
        have hcz11_0 : w6.cell? ⟨gb1274, 0, none⟩ = some (.int .i64 0) := (blk_cell BK1274.out 0).trans rfl
        have hcz11_1 : w6.cell? ⟨gb1274, 1, none⟩ = some (.int .i64 0) := (blk_cell BK1274.out 1).trans rfl
        have hcz11_2 : w6.cell? ⟨gb1274, 2, none⟩ = some (.int .i64 0) := (blk_cell BK1274.out 2).trans rfl
        have hcz11_3 : w6.cell? ⟨gb1274, 3, none⟩ = some (.int .i64 0) := (blk_cell BK1274.out 3).trans rfl
        have hfz11_0 := blk_frozen BK1274.out 0
        have hfz11_1 := blk_frozen BK1274.out 1
        have hfz11_2 := blk_frozen BK1274.out 2
        have hfz11_3 := blk_frozen BK1274.out 3
        go_wp2
        go_meet
        case rel => exact ⟨_, (true), (by first | rfl | (simp; done) | (simp [*]; done)), H', ⟨by have := HK1.out; first | omega | exact Nat.le_refl _⟩, ⟨by (with_reducible repeat (first | refine blk_drewN ?_ _ | refine blk_drew ?_ | refine blk_alloc ?_ _)); refine blk_put (cs := #[.int .i64 ((rd_T131 l0 x6_1).f2.f0), .int .i64 ((rd_T131 l0 x6_1).f2.f1), .int .i64 ((rd_T131 l0 x6_1).f2.f2), .int .i64 0]) ?_ 3 _ rfl; (with_reducible repeat (first | refine blk_drewN ?_ _ | refine blk_drew ?_ | refine blk_alloc ?_ _)); refine blk_put (cs := #[.int .i64 ((rd_T131 l0 x6_1).f2.f0), .int .i64 ((rd_T131 l0 x6_1).f2.f1), .int .i64 0, .int .i64 0]) ?_ 2 _ rfl; (with_reducible repeat (first | refine blk_drewN ?_ _ | refine blk_drew ?_ | refine blk_alloc ?_ _)); refine blk_put (cs := #[.int .i64 ((rd_T131 l0 x6_1).f2.f0), .int .i64 0, .int .i64 0, .int .i64 0]) ?_ 1 _ rfl; (with_reducible repeat (first | refine blk_drewN ?_ _ | refine blk_drew ?_ | refine blk_alloc ?_ _)); refine blk_put (cs := #[.int .i64 0, .int .i64 0, .int .i64 0, .int .i64 0]) ?_ 0 _ rfl; (with_reducible repeat (first | refine blk_drewN ?_ _ | refine blk_drew ?_ | refine blk_alloc ?_ _)); exact BK1274.out⟩, ⟨bl_⟩⟩
      ·rw [if_neg c8] at H
       have c8b0 : (((rd_T131 l0 x6_1).f0) == a1) = false := beq_eq_false_iff_ne.mpr c8
       have c8b1 : (((rd_T131 l0 x6_1).f0) != a1) = true := bne_iff_ne.mpr c8
       (first | rw [c8b0] | (simp only [i64_w, i32_w]; rw [c8b0]) | skip)
       have H' := Aside0.mk H
       clear H
       have p1275 : 0 ≤ (x6_1 : Int) := of_decide_eq_true as_
       have q1275 : x6_1 < (l0.length : Int) := of_decide_eq_true as_
       obtain ⟨ad1275, e1275, hx1275_0, hx1275_1, hx1275_2, hx1275_3, hx1275_4, hx1275_5⟩ := at_T131 HR0.out x6_1 p1275 q1275
       obtain rfl : ad1273 = ad1275 := (by injection e1275)
       have hn1275_0 : ad1273.block ≠ gb1274 := Nat.ne_of_lt (Nat.lt_of_lt_of_le (by have := World.block_lt_of_cell? _ _ hx1275_0; first | rwa [add_block] at this | exact this) GW1274.out)
       have hn1275_1 : ad1273.block ≠ gb1274 := Nat.ne_of_lt (Nat.lt_of_lt_of_le (by have := World.block_lt_of_cell? _ _ hx1275_0; first | rwa [add_block] at this | exact this) GW1274.out)
       have hn1275_2 : ad1273.block ≠ gb1274 := Nat.ne_of_lt (Nat.lt_of_lt_of_le (by have := World.block_lt_of_cell? _ _ hx1275_0; first | rwa [add_block] at this | exact this) GW1274.out)
       have hn1275_3 : ad1273.block ≠ gb1274 := Nat.ne_of_lt (Nat.lt_of_lt_of_le (by have := World.block_lt_of_cell? _ _ hx1275_0; first | rwa [add_block] at this | exact this) GW1274.out)
       replace hx1275_0 := (HB.out.cell (World.block_lt_of_cell? w _ hx1275_0)).trans hx1275_0
       replace hx1275_1 := (HB.out.cell (World.block_lt_of_cell? w _ hx1275_1)).trans hx1275_1
       replace hx1275_2 := (HB.out.cell (World.block_lt_of_cell? w _ hx1275_2)).trans hx1275_2
       replace hx1275_3 := (HB.out.cell (World.block_lt_of_cell? w _ hx1275_3)).trans hx1275_3
       replace hx1275_4 := (HB.out.cell (World.block_lt_of_cell? w _ hx1275_4)).trans hx1275_4
       replace hx1275_5 := (HB.out.cell (World.block_lt_of_cell? w _ hx1275_5)).trans hx1275_5
       replace hx1275_0 := (cell_far (p := ⟨gb1274, 0, none⟩) (by first | (rw [add_block]; exact hn1275_0) | (show (Addr.add _ _).block ≠ _; rw [add_block]; exact hn1275_0) | exact hn1275_0) (.int .i64 ((rd_T131 l0 x6_1).f2.f0))).trans hx1275_0
       replace hx1275_1 := (cell_far (p := ⟨gb1274, 0, none⟩) (by first | (rw [add_block]; exact hn1275_0) | (show (Addr.add _ _).block ≠ _; rw [add_block]; exact hn1275_0) | exact hn1275_0) (.int .i64 ((rd_T131 l0 x6_1).f2.f0))).trans hx1275_1
       replace hx1275_2 := (cell_far (p := ⟨gb1274, 0, none⟩) (by first | (rw [add_block]; exact hn1275_0) | (show (Addr.add _ _).block ≠ _; rw [add_block]; exact hn1275_0) | exact hn1275_0) (.int .i64 ((rd_T131 l0 x6_1).f2.f0))).trans hx1275_2
       replace hx1275_3 := (cell_far (p := ⟨gb1274, 0, none⟩) (by first | (rw [add_block]; exact hn1275_0) | (show (Addr.add _ _).block ≠ _; rw [add_block]; exact hn1275_0) | exact hn1275_0) (.int .i64 ((rd_T131 l0 x6_1).f2.f0))).trans hx1275_3
       replace hx1275_4 := (cell_far (p := ⟨gb1274, 0, none⟩) (by first | (rw [add_block]; exact hn1275_0) | (show (Addr.add _ _).block ≠ _; rw [add_block]; exact hn1275_0) | exact hn1275_0) (.int .i64 ((rd_T131 l0 x6_1).f2.f0))).trans hx1275_4
       replace hx1275_5 := (cell_far (p := ⟨gb1274, 0, none⟩) (by first | (rw [add_block]; exact hn1275_0) | (show (Addr.add _ _).block ≠ _; rw [add_block]; exact hn1275_0) | exact hn1275_0) (.int .i64 ((rd_T131 l0 x6_1).f2.f0))).trans hx1275_5
       replace hx1275_0 := (cell_far (p := ⟨gb1274, 1, none⟩) (by first | (rw [add_block]; exact hn1275_1) | (show (Addr.add _ _).block ≠ _; rw [add_block]; exact hn1275_1) | exact hn1275_1) (.int .i64 ((rd_T131 l0 x6_1).f2.f1))).trans hx1275_0
       replace hx1275_1 := (cell_far (p := ⟨gb1274, 1, none⟩) (by first | (rw [add_block]; exact hn1275_1) | (show (Addr.add _ _).block ≠ _; rw [add_block]; exact hn1275_1) | exact hn1275_1) (.int .i64 ((rd_T131 l0 x6_1).f2.f1))).trans hx1275_1
       replace hx1275_2 := (cell_far (p := ⟨gb1274, 1, none⟩) (by first | (rw [add_block]; exact hn1275_1) | (show (Addr.add _ _).block ≠ _; rw [add_block]; exact hn1275_1) | exact hn1275_1) (.int .i64 ((rd_T131 l0 x6_1).f2.f1))).trans hx1275_2
       replace hx1275_3 := (cell_far (p := ⟨gb1274, 1, none⟩) (by first | (rw [add_block]; exact hn1275_1) | (show (Addr.add _ _).block ≠ _; rw [add_block]; exact hn1275_1) | exact hn1275_1) (.int .i64 ((rd_T131 l0 x6_1).f2.f1))).trans hx1275_3
       replace hx1275_4 := (cell_far (p := ⟨gb1274, 1, none⟩) (by first | (rw [add_block]; exact hn1275_1) | (show (Addr.add _ _).block ≠ _; rw [add_block]; exact hn1275_1) | exact hn1275_1) (.int .i64 ((rd_T131 l0 x6_1).f2.f1))).trans hx1275_4
       replace hx1275_5 := (cell_far (p := ⟨gb1274, 1, none⟩) (by first | (rw [add_block]; exact hn1275_1) | (show (Addr.add _ _).block ≠ _; rw [add_block]; exact hn1275_1) | exact hn1275_1) (.int .i64 ((rd_T131 l0 x6_1).f2.f1))).trans hx1275_5
       replace hx1275_0 := (cell_far (p := ⟨gb1274, 2, none⟩) (by first | (rw [add_block]; exact hn1275_2) | (show (Addr.add _ _).block ≠ _; rw [add_block]; exact hn1275_2) | exact hn1275_2) (.int .i64 ((rd_T131 l0 x6_1).f2.f2))).trans hx1275_0
       replace hx1275_1 := (cell_far (p := ⟨gb1274, 2, none⟩) (by first | (rw [add_block]; exact hn1275_2) | (show (Addr.add _ _).block ≠ _; rw [add_block]; exact hn1275_2) | exact hn1275_2) (.int .i64 ((rd_T131 l0 x6_1).f2.f2))).trans hx1275_1
       replace hx1275_2 := (cell_far (p := ⟨gb1274, 2, none⟩) (by first | (rw [add_block]; exact hn1275_2) | (show (Addr.add _ _).block ≠ _; rw [add_block]; exact hn1275_2) | exact hn1275_2) (.int .i64 ((rd_T131 l0 x6_1).f2.f2))).trans hx1275_2
       replace hx1275_3 := (cell_far (p := ⟨gb1274, 2, none⟩) (by first | (rw [add_block]; exact hn1275_2) | (show (Addr.add _ _).block ≠ _; rw [add_block]; exact hn1275_2) | exact hn1275_2) (.int .i64 ((rd_T131 l0 x6_1).f2.f2))).trans hx1275_3
       replace hx1275_4 := (cell_far (p := ⟨gb1274, 2, none⟩) (by first | (rw [add_block]; exact hn1275_2) | (show (Addr.add _ _).block ≠ _; rw [add_block]; exact hn1275_2) | exact hn1275_2) (.int .i64 ((rd_T131 l0 x6_1).f2.f2))).trans hx1275_4
       replace hx1275_5 := (cell_far (p := ⟨gb1274, 2, none⟩) (by first | (rw [add_block]; exact hn1275_2) | (show (Addr.add _ _).block ≠ _; rw [add_block]; exact hn1275_2) | exact hn1275_2) (.int .i64 ((rd_T131 l0 x6_1).f2.f2))).trans hx1275_5
       replace hx1275_0 := (cell_far (p := ⟨gb1274, 3, none⟩) (by first | (rw [add_block]; exact hn1275_3) | (show (Addr.add _ _).block ≠ _; rw [add_block]; exact hn1275_3) | exact hn1275_3) (.int .i64 ((rd_T131 l0 x6_1).f2.f3))).trans hx1275_0
       replace hx1275_1 := (cell_far (p := ⟨gb1274, 3, none⟩) (by first | (rw [add_block]; exact hn1275_3) | (show (Addr.add _ _).block ≠ _; rw [add_block]; exact hn1275_3) | exact hn1275_3) (.int .i64 ((rd_T131 l0 x6_1).f2.f3))).trans hx1275_1
       replace hx1275_2 := (cell_far (p := ⟨gb1274, 3, none⟩) (by first | (rw [add_block]; exact hn1275_3) | (show (Addr.add _ _).block ≠ _; rw [add_block]; exact hn1275_3) | exact hn1275_3) (.int .i64 ((rd_T131 l0 x6_1).f2.f3))).trans hx1275_2
       replace hx1275_3 := (cell_far (p := ⟨gb1274, 3, none⟩) (by first | (rw [add_block]; exact hn1275_3) | (show (Addr.add _ _).block ≠ _; rw [add_block]; exact hn1275_3) | exact hn1275_3) (.int .i64 ((rd_T131 l0 x6_1).f2.f3))).trans hx1275_3
       replace hx1275_4 := (cell_far (p := ⟨gb1274, 3, none⟩) (by first | (rw [add_block]; exact hn1275_3) | (show (Addr.add _ _).block ≠ _; rw [add_block]; exact hn1275_3) | exact hn1275_3) (.int .i64 ((rd_T131 l0 x6_1).f2.f3))).trans hx1275_4
       replace hx1275_5 := (cell_far (p := ⟨gb1274, 3, none⟩) (by first | (rw [add_block]; exact hn1275_3) | (show (Addr.add _ _).block ≠ _; rw [add_block]; exact hn1275_3) | exact hn1275_3) (.int .i64 ((rd_T131 l0 x6_1).f2.f3))).trans hx1275_5
       clear hn1275_0
       clear hn1275_1
       clear hn1275_2
       clear hn1275_3
       replace p1275 := eq_true p1275
       replace q1275 := eq_true q1275
       go_wp2
       go_meet
       case rel => exact ⟨_, (true), (by first | rfl | (simp; done) | (simp [*]; done)), H', ⟨by have := HK1.out; first | omega | exact Nat.le_refl _⟩, ⟨by (with_reducible repeat (first | refine blk_drewN ?_ _ | refine blk_drew ?_ | refine blk_alloc ?_ _)); refine blk_put (cs := #[.int .i64 ((rd_T131 l0 x6_1).f2.f0), .int .i64 ((rd_T131 l0 x6_1).f2.f1), .int .i64 ((rd_T131 l0 x6_1).f2.f2), .int .i64 0]) ?_ 3 _ rfl; (with_reducible repeat (first | refine blk_drewN ?_ _ | refine blk_drew ?_ | refine blk_alloc ?_ _)); refine blk_put (cs := #[.int .i64 ((rd_T131 l0 x6_1).f2.f0), .int .i64 ((rd_T131 l0 x6_1).f2.f1), .int .i64 0, .int .i64 0]) ?_ 2 _ rfl; (with_reducible repeat (first | refine blk_drewN ?_ _ | refine blk_drew ?_ | refine blk_alloc ?_ _)); refine blk_put (cs := #[.int .i64 ((rd_T131 l0 x6_1).f2.f0), .int .i64 0, .int .i64 0, .int .i64 0]) ?_ 1 _ rfl; (with_reducible repeat (first | refine blk_drewN ?_ _ | refine blk_drew ?_ | refine blk_alloc ?_ _)); refine blk_put (cs := #[.int .i64 0, .int .i64 0, .int .i64 0, .int .i64 0]) ?_ 0 _ rfl; (with_reducible repeat (first | refine blk_drewN ?_ _ | refine blk_drew ?_ | refine blk_alloc ?_ _)); exact BK1274.out⟩, ⟨bl_⟩⟩
     case rest =>
      clear HC5
      try clear p1
      try clear q1
      try clear hx1
      try clear p2
      try clear c3
      try clear c3b0
      try clear c4
      try clear c4b0
      try clear c6
      try clear c8
      try clear c8b0
      try clear c8b1
      try clear c9
      try clear c9b0
      try clear c9b1
      try clear hcz10_0
      try clear hcz10_1
      try clear hcz10_2
      try clear hcz10_3
      try clear hcz11_0
      try clear hcz11_1
      try clear hcz11_2
      try clear hcz11_3
      try clear hcz7_0
      try clear hcz7_1
      try clear hcz7_2
      try clear hcz7_3
      try clear hfz10_0
      try clear hfz10_1
      try clear hfz10_2
      try clear hfz10_3
      try clear hfz11_0
      try clear hfz11_1
      try clear hfz11_2
      try clear hfz11_3
      try clear hfz7_0
      try clear hfz7_1
      try clear hfz7_2
      try clear hfz7_3
      try clear hx1273_0
      try clear hx1273_1
      try clear hx1273_2
      try clear hx1273_3
      try clear hx1273_4
      try clear hx1273_5
      try clear hx1275_0
      try clear hx1275_1
      try clear hx1275_2
      try clear hx1275_3
      try clear hx1275_4
      try clear hx1275_5
      try clear p1273
      try clear p1275
      try clear p2
      try clear q1273
      try clear q1275
      obtain ⟨kq, x35_4, rfl, HA, HJ4, BK1274, HB⟩ := hcut
      cases kq with
      | zero => exact absurd HA.out (by simp [spec_LostBy.j1])
      | succ kj4 =>
       have H := HA.out
       clear HA
       simp only [spec_LostBy.j1] at H
       by_cases c12 : x35_4 = true
       ·subst c12
        rw [if_pos rfl] at H
        have H' := Aside0.mk H
        clear H
        go_wp2
        go_roundg kj4
        case measure => have := HK1.out; have := HJ4.out; omega
        case rel => exact ⟨(x5_1), (wrap64 (x6_1 + 1)), (by first | rfl | (simp; done) | (simp [*]; done)), (by first | rfl | (simp; done) | (simp [*]; done)), H', ⟨by have := HK1.out; have := HJ4.out; omega⟩, ⟨bl_⟩⟩
       ·replace c12 := Bool.eq_false_iff.mpr c12
        subst c12
        rw [if_neg (show ¬ (false = true) by decide)] at H
        by_cases c13 : ((rd_T131 l0 x6_1).f2.f3) > (wrap64 (1000000000 - x5_1))
        ·rw [if_pos c13] at H
         have c13b0 : decide ((wrap64 (1000000000 - x5_1)) < ((rd_T131 l0 x6_1).f2.f3)) = true := decide_eq_true c13
         clear c13
         have H' := Aside0.mk H
         clear H
         have hcz14_0 : wc.cell? ⟨gb1274, 0, none⟩ = some (.int .i64 ((rd_T131 l0 x6_1).f2.f0)) := (blk_cell BK1274.out 0).trans rfl
         have hcz14_1 : wc.cell? ⟨gb1274, 1, none⟩ = some (.int .i64 ((rd_T131 l0 x6_1).f2.f1)) := (blk_cell BK1274.out 1).trans rfl
         have hcz14_2 : wc.cell? ⟨gb1274, 2, none⟩ = some (.int .i64 ((rd_T131 l0 x6_1).f2.f2)) := (blk_cell BK1274.out 2).trans rfl
         have hcz14_3 : wc.cell? ⟨gb1274, 3, none⟩ = some (.int .i64 ((rd_T131 l0 x6_1).f2.f3)) := (blk_cell BK1274.out 3).trans rfl
         have hfz14_0 := blk_frozen BK1274.out 0
         have hfz14_1 := blk_frozen BK1274.out 1
         have hfz14_2 := blk_frozen BK1274.out 2
         have hfz14_3 := blk_frozen BK1274.out 3
         go_wp2
         go_roundg kj4
         case measure => have := HK1.out; have := HJ4.out; omega
         case rel => exact ⟨(1000000000), (wrap64 (x6_1 + 1)), (by first | rfl | (simp; done) | (simp [*]; done)), (by first | rfl | (simp; done) | (simp [*]; done)), H', ⟨by have := HK1.out; have := HJ4.out; omega⟩, ⟨bl_⟩⟩
        ·rw [if_neg c13] at H
         have c13b0 : decide ((wrap64 (1000000000 - x5_1)) < ((rd_T131 l0 x6_1).f2.f3)) = false := decide_eq_false c13
         clear c13
         have H' := Aside0.mk H
         clear H
         have hcz15_0 : wc.cell? ⟨gb1274, 0, none⟩ = some (.int .i64 ((rd_T131 l0 x6_1).f2.f0)) := (blk_cell BK1274.out 0).trans rfl
         have hcz15_1 : wc.cell? ⟨gb1274, 1, none⟩ = some (.int .i64 ((rd_T131 l0 x6_1).f2.f1)) := (blk_cell BK1274.out 1).trans rfl
         have hcz15_2 : wc.cell? ⟨gb1274, 2, none⟩ = some (.int .i64 ((rd_T131 l0 x6_1).f2.f2)) := (blk_cell BK1274.out 2).trans rfl
         have hcz15_3 : wc.cell? ⟨gb1274, 3, none⟩ = some (.int .i64 ((rd_T131 l0 x6_1).f2.f3)) := (blk_cell BK1274.out 3).trans rfl
         have hfz15_0 := blk_frozen BK1274.out 0
         have hfz15_1 := blk_frozen BK1274.out 1
         have hfz15_2 := blk_frozen BK1274.out 2
         have hfz15_3 := blk_frozen BK1274.out 3
         go_wp2
         go_roundg kj4
         case measure => have := HK1.out; have := HJ4.out; omega
         case rel => exact ⟨(wrap64 (x5_1 + ((rd_T131 l0 x6_1).f2.f3))), (wrap64 (x6_1 + 1)), (by first | rfl | (simp; done) | (simp [*]; done)), (by first | rfl | (simp; done) | (simp [*]; done)), H', ⟨by have := HK1.out; have := HJ4.out; omega⟩, ⟨bl_⟩⟩
    ·rw [if_neg c4] at H
     exact absurd H (by simp)
   ·rw [if_neg c3] at H
    have c3b0 : decide (x6_1 < (l0.length : Int)) = false := decide_eq_false c3
    clear c3
    obtain rfl := Option.some.inj H
    go_wp2
    go_ret
    exact ⟨by first | rfl | (simp [errW_none, errW_some] <;> rfl) | (simp [*, errW_none, errW_some] <;> rfl) | exact False.elim (Bool.noConfusion ((decide_eq_true (of_eq_true (by assumption))).symm.trans (by assumption))), bl_⟩


/-! ### laws_FnCountsTold: function 11 -/
def laws_FnCountsTold.f (k : Nat) (l0 : List Int) : Option (Bool) := (laws_big.f l0).bind fun t1276 => (if t1276 = true then (some true) else ((spec_DrawToldBy.f k l0).bind fun bt1277 => ((impl_TalliesOf.f k bt1277.1).bind fun t1281 => ((spec_TalliesOf.f k bt1277.1).bind fun t1284 => ((laws_sameTallies.f k t1281 t1284).bind fun t1287 => (if t1287 = true then ((impl_ToldBy.f k bt1277.1 bt1277.2).bind fun t1288 => ((spec_ToldBy.f k bt1277.1 bt1277.2).bind fun t1289 => (if t1288 = t1289 then ((impl_LostBy.f k bt1277.1 bt1277.2).bind fun t1290 => ((spec_LostBy.f k bt1277.1 bt1277.2).bind fun t1291 => (if t1290 = t1291 then ((impl_PidsIn.f k bt1277.1).bind fun t1292 => ((spec_PidsIn.f k bt1277.1).bind fun t1295 => ((laws_sameInts.f k t1292 t1295).bind fun t1298 => (if t1298 = true then ((impl_MostTold.f k bt1277.1).bind fun t1299 => ((spec_MostTold.f k bt1277.1).bind fun t1300 => (some (t1299 == t1300)))) else (some false))))) else (some false)))) else (some false)))) else (some false)))))))
theorem laws_FnCountsTold.mono : ∀ a0 k, LeO (laws_FnCountsTold.f k a0) (laws_FnCountsTold.f (k + 1) a0) := by
 intro a0 k
 unfold laws_FnCountsTold.f
 repeat' first
  | (with_reducible exact impl_LostBy.mono _ _ _)
  | (with_reducible exact impl_MostTold.mono _ _)
  | (with_reducible exact impl_PidsIn.mono _ _)
  | (with_reducible exact impl_TalliesOf.mono _ _)
  | (with_reducible exact impl_ToldBy.mono _ _ _)
  | (with_reducible exact laws_sameInts.mono _ _ _)
  | (with_reducible exact laws_sameTallies.mono _ _ _)
  | (with_reducible exact spec_DrawToldBy.mono _ _)
  | (with_reducible exact spec_LostBy.mono _ _ _)
  | (with_reducible exact spec_MostTold.mono _ _)
  | (with_reducible exact spec_PidsIn.mono _ _)
  | (with_reducible exact spec_TalliesOf.mono _ _)
  | (with_reducible exact spec_ToldBy.mono _ _ _)
  | (with_reducible exact LeO.refl _)
  | (with_reducible exact LeO.none _)
  | (with_reducible refine LeO.ite ?_ ?_)
  | (with_reducible refine LeO.bind ?_ (fun _ => ?_))
  | exact impl_LostBy.mono _ _ _
  | exact impl_MostTold.mono _ _
  | exact impl_PidsIn.mono _ _
  | exact impl_TalliesOf.mono _ _
  | exact impl_ToldBy.mono _ _ _
  | exact laws_sameInts.mono _ _ _
  | exact laws_sameTallies.mono _ _ _
  | exact spec_DrawToldBy.mono _ _
  | exact spec_LostBy.mono _ _ _
  | exact spec_MostTold.mono _ _
  | exact spec_PidsIn.mono _ _
  | exact spec_TalliesOf.mono _ _
  | exact spec_ToldBy.mono _ _ _
  | exact LeO.none _
  | refine LeO.ite ?_ ?_
  | refine LeO.bind ?_ (fun _ => ?_)
set_option maxHeartbeats 8000000 in
set_option maxRecDepth 100000 in
theorem laws_FnCountsTold.calls (k : Nat) (A0 : Option Addr) (c0 : Nat) (l0 : List Int) (r : Bool) (w : World) (hr0 : Kd.C (Kd.int .u8) w A0 l0.length l0) (hc0 : l0.length ≤ c0) (hr1 : r = true) (h : laws_FnCountsTold.f k l0 = some r) :
 Calls Try.prog 11 #[.slice A0 l0.length c0] w fun e w' => e = .returned (.bool r) ∧ Below w.heap.size w w' := by
 have HR0 := Aside0.mk hr0
 have HC0 := Aside0.mk hc0
 clear hr0 hc0
 have HR1 := Aside0.mk hr1
 clear hr1
 have HB := Aside0.mk (Below.refl w.heap.size w)
 have H : ((laws_big.f l0).bind fun t1276 => (if t1276 = true then (some true) else ((spec_DrawToldBy.f k l0).bind fun bt1277 => ((impl_TalliesOf.f k bt1277.1).bind fun t1281 => ((spec_TalliesOf.f k bt1277.1).bind fun t1284 => ((laws_sameTallies.f k t1281 t1284).bind fun t1287 => (if t1287 = true then ((impl_ToldBy.f k bt1277.1 bt1277.2).bind fun t1288 => ((spec_ToldBy.f k bt1277.1 bt1277.2).bind fun t1289 => (if t1288 = t1289 then ((impl_LostBy.f k bt1277.1 bt1277.2).bind fun t1290 => ((spec_LostBy.f k bt1277.1 bt1277.2).bind fun t1291 => (if t1290 = t1291 then ((impl_PidsIn.f k bt1277.1).bind fun t1292 => ((spec_PidsIn.f k bt1277.1).bind fun t1295 => ((laws_sameInts.f k t1292 t1295).bind fun t1298 => (if t1298 = true then ((impl_MostTold.f k bt1277.1).bind fun t1299 => ((spec_MostTold.f k bt1277.1).bind fun t1300 => (some (t1299 == t1300)))) else (some false))))) else (some false)))) else (some false)))) else (some false)))))))) = some r := h
 clear h
 replace H := Option.bind_eq_some_iff.mp H
 obtain ⟨t1276, A20, H⟩ := H
 try dsimp only at H
 have A2 := Aside0.mk A20
 clear A20
 by_cases c3 : t1276 = true
 ·subst c3
  rw [if_pos rfl] at H
  obtain rfl := Option.some.inj H
  go_enter Try.func11, Try.ntmps11
  go_wp2_with (first | ((with_reducible refine gate_callee (f := 20) rfl ?_); refine goesL_ (some 6) rfl rfl Try.func20 (by kernel_rfl) rfl #[.slice A0 l0.length c0] rfl lm_ ?_; (with_reducible refine (laws_big.calls _ _ l0 true _ ?side1 ?side2 A2.out).mono ?_); (case side1 => repeat (first | exact HR0.out | (with_reducible refine Kd.C_alloc ?_ _) | (with_reducible refine Kd.C_drewN ?_ _) | (with_reducible refine Kd.C_drew ?_))); (case side2 => exact HC0.out); rintro e w' ⟨rfl, ⟨nd, rfl⟩⟩; refine ⟨_, rfl, ?_⟩))
  go_ret
  exact ⟨by first | rfl | (simp [errW_none, errW_some] <;> rfl) | (simp [*, errW_none, errW_some] <;> rfl) | exact False.elim (Bool.noConfusion ((decide_eq_true (of_eq_true (by assumption))).symm.trans (by assumption))), bl_⟩
 ·replace c3 := Bool.eq_false_iff.mpr c3
  subst c3
  rw [if_neg (show ¬ (false = true) by decide)] at H
  replace H := Option.bind_eq_some_iff.mp H
  obtain ⟨⟨t1277, t1278⟩, A40, H⟩ := H
  try dsimp only at H
  have A4 := Aside0.mk A40
  clear A40
  replace H := Option.bind_eq_some_iff.mp H
  obtain ⟨t1281, A50, H⟩ := H
  try dsimp only at H
  have A5 := Aside0.mk A50
  clear A50
  replace H := Option.bind_eq_some_iff.mp H
  obtain ⟨t1284, A60, H⟩ := H
  try dsimp only at H
  have A6 := Aside0.mk A60
  clear A60
  replace H := Option.bind_eq_some_iff.mp H
  obtain ⟨t1287, A70, H⟩ := H
  try dsimp only at H
  have A7 := Aside0.mk A70
  clear A70
  by_cases c8 : t1287 = true
  ·subst c8
   rw [if_pos rfl] at H
   replace H := Option.bind_eq_some_iff.mp H
   obtain ⟨t1288, A90, H⟩ := H
   try dsimp only at H
   have A9 := Aside0.mk A90
   clear A90
   replace H := Option.bind_eq_some_iff.mp H
   obtain ⟨t1289, A100, H⟩ := H
   try dsimp only at H
   have A10 := Aside0.mk A100
   clear A100
   by_cases c11 : t1288 = t1289
   ·rw [if_pos c11] at H
    have c11b0 : (t1288 == t1289) = true := beq_iff_eq.mpr c11
    have c11b1 : (t1288 != t1289) = false := bne_eq_false_iff_eq.mpr c11
    clear c11
    replace H := Option.bind_eq_some_iff.mp H
    obtain ⟨t1290, A120, H⟩ := H
    try dsimp only at H
    have A12 := Aside0.mk A120
    clear A120
    replace H := Option.bind_eq_some_iff.mp H
    obtain ⟨t1291, A130, H⟩ := H
    try dsimp only at H
    have A13 := Aside0.mk A130
    clear A130
    by_cases c14 : t1290 = t1291
    ·rw [if_pos c14] at H
     have c14b0 : (t1290 == t1291) = true := beq_iff_eq.mpr c14
     have c14b1 : (t1290 != t1291) = false := bne_eq_false_iff_eq.mpr c14
     clear c14
     replace H := Option.bind_eq_some_iff.mp H
     obtain ⟨t1292, A150, H⟩ := H
     try dsimp only at H
     have A15 := Aside0.mk A150
     clear A150
     replace H := Option.bind_eq_some_iff.mp H
     obtain ⟨t1295, A160, H⟩ := H
     try dsimp only at H
     have A16 := Aside0.mk A160
     clear A160
     replace H := Option.bind_eq_some_iff.mp H
     obtain ⟨t1298, A170, H⟩ := H
     try dsimp only at H
     have A17 := Aside0.mk A170
     clear A170
     by_cases c18 : t1298 = true
     ·subst c18
      rw [if_pos rfl] at H
      replace H := Option.bind_eq_some_iff.mp H
      obtain ⟨t1299, A190, H⟩ := H
      try dsimp only at H
      have A19 := Aside0.mk A190
      clear A190
      replace H := Option.bind_eq_some_iff.mp H
      obtain ⟨t1300, A200, H⟩ := H
      try dsimp only at H
      have A20 := Aside0.mk A200
      clear A200
      obtain rfl := Option.some.inj H
      go_enter Try.func11, Try.ntmps11
      go_wp2_with (first | ((with_reducible refine gate_callee (f := 20) rfl ?_); refine goesL_ (some 6) rfl rfl Try.func20 (by kernel_rfl) rfl #[.slice A0 l0.length c0] rfl lm_ ?_; (with_reducible refine (laws_big.calls _ _ l0 false _ ?side1 ?side2 A2.out).mono ?_); (case side1 => repeat (first | exact HR0.out | (with_reducible refine Kd.C_alloc ?_ _) | (with_reducible refine Kd.C_drewN ?_ _) | (with_reducible refine Kd.C_drew ?_))); (case side2 => exact HC0.out); rintro e w' ⟨rfl, ⟨nd, rfl⟩⟩; refine ⟨_, rfl, ?_⟩) | ((with_reducible refine gate_callee (f := 58) rfl ?_); refine goesL_ (some 9) rfl rfl Try.func58 (by kernel_rfl) rfl #[.slice A0 l0.length c0] rfl lm_ ?_; (with_reducible refine (spec_DrawToldBy.calls k _ _ l0 t1277 t1278 _ ?side1 ?side2 A4.out).mono ?_); (case side1 => repeat (first | exact HR0.out | (with_reducible refine Kd.C_alloc ?_ _) | (with_reducible refine Kd.C_drewN ?_ _) | (with_reducible refine Kd.C_drew ?_))); (case side2 => exact HC0.out); rintro e w21 ⟨v1279, rfl, ho0, hb⟩; refine ⟨_, rfl, ?_⟩; have n0_ := Aside0.mk (Kd.R_lower ho0 (below_size bl_)); have n1_ := Aside0.mk (below_step bl_ hb); clear HB; have HO1280 := n0_; have HB := n1_; clear n0_ n1_; (try clear hb); (try clear hb2); (try clear hk); (try clear hi); (try clear ho0); obtain ⟨Ao22, co22, eo22⟩ := Kd.R_slice HO1280.out; subst eo22) | ((with_reducible refine gate_callee (f := 50) rfl ?_); refine goesL_ (some 13) rfl rfl Try.func50 (by kernel_rfl) rfl #[.slice Ao22 t1277.length co22] rfl lm_ ?_; (with_reducible refine (impl_TalliesOf.calls k _ _ t1277 t1281 _ ?side1 ?side2 A5.out).mono ?_); (case side1 => repeat (first | exact (Kd.R_reads' HO1280.out).2.2 | (with_reducible refine Kd.C_alloc ?_ _) | (with_reducible refine Kd.C_drewN ?_ _) | (with_reducible refine Kd.C_drew ?_))); (case side2 => exact (Kd.R_reads' HO1280.out).2.1); rintro e w23 ⟨v1282, rfl, ho0, hb⟩; refine ⟨_, rfl, ?_⟩; have n0_ := Aside0.mk (Kd.R_below (ra_ HO1280.out) hb); have n1_ := Aside0.mk (Kd.R_lower ho0 (below_size bl_)); have n2_ := Aside0.mk (below_step bl_ hb); clear HO1280; clear HB; have HO1280 := n0_; have HO1283 := n1_; have HB := n2_; clear n0_ n1_ n2_; (try clear hb); (try clear hb2); (try clear hk); (try clear hi); (try clear ho0)) | ((with_reducible refine gate_callee (f := 49) rfl ?_); refine goesL_ (some 15) rfl rfl Try.func49 (by kernel_rfl) rfl #[.slice Ao22 t1277.length co22] rfl lm_ ?_; (with_reducible refine (spec_TalliesOf.calls k _ _ t1277 t1284 _ ?side1 ?side2 A6.out).mono ?_); (case side1 => repeat (first | exact (Kd.R_reads' HO1280.out).2.2 | (with_reducible refine Kd.C_alloc ?_ _) | (with_reducible refine Kd.C_drewN ?_ _) | (with_reducible refine Kd.C_drew ?_))); (case side2 => exact (Kd.R_reads' HO1280.out).2.1); rintro e w24 ⟨v1285, rfl, ho0, hb⟩; refine ⟨_, rfl, ?_⟩; have n0_ := Aside0.mk (Kd.R_below (ra_ HO1280.out) hb); have n1_ := Aside0.mk (Kd.R_elder' (ra_ HO1283.out) (Kd.R_base ho0) hb); have n2_ := Aside0.mk (Kd.R_lower (Kd.R_new' ho0 (Kd.R_lt (ra_ HO1283.out))) (below_size bl_)); have n3_ := Aside0.mk (below_step bl_ hb); clear HO1280; clear HO1283; clear HB; have HO1280 := n0_; have HO1283 := n1_; have HO1286 := n2_; have HB := n3_; clear n0_ n1_ n2_ n3_; (try clear hb); (try clear hb2); (try clear hk); (try clear hi); (try clear ho0); obtain ⟨Ao25, co25, eo25⟩ := Kd.R_slice HO1283.out; subst eo25; obtain ⟨Ao26, co26, eo26⟩ := Kd.R_slice HO1286.out; subst eo26) | ((with_reducible refine gate_callee (f := 59) rfl ?_); refine goesL_ (some 16) rfl rfl Try.func59 (by kernel_rfl) rfl #[.slice Ao25 t1281.length co25, .slice Ao26 t1284.length co26] rfl lm_ ?_; (with_reducible refine (laws_sameTallies.calls k _ _ t1281 _ _ t1284 true _ ?side1 ?side2 ?side3 ?side4 A7.out).mono ?_); (case side1 => repeat (first | exact (Kd.R_reads' HO1283.out).2.2 | (with_reducible refine Kd.C_alloc ?_ _) | (with_reducible refine Kd.C_drewN ?_ _) | (with_reducible refine Kd.C_drew ?_))); (case side2 => exact (Kd.R_reads' HO1283.out).2.1); (case side3 => repeat (first | exact (Kd.R_reads' HO1286.out).2.2 | (with_reducible refine Kd.C_alloc ?_ _) | (with_reducible refine Kd.C_drewN ?_ _) | (with_reducible refine Kd.C_drew ?_))); (case side4 => exact (Kd.R_reads' HO1286.out).2.1); rintro e w' ⟨rfl, ⟨nd, rfl⟩⟩; refine ⟨_, rfl, ?_⟩) | (go_at_call 55; (with_reducible refine (impl_ToldBy.calls k _ _ t1277 t1278 t1288 _ ?side1 ?side2 A9.out).mono ?_); (case side1 => repeat (first | exact (Kd.R_reads' HO1280.out).2.2 | (with_reducible refine Kd.C_alloc ?_ _) | (with_reducible refine Kd.C_drewN ?_ _) | (with_reducible refine Kd.C_drew ?_))); (case side2 => exact (Kd.R_reads' HO1280.out).2.1); rintro e w27 ⟨rfl, hb⟩; have n0_ := Aside0.mk (Kd.R_below (ra_ HO1280.out) hb); have n1_ := Aside0.mk (Kd.R_below (ra_ HO1283.out) hb); have n2_ := Aside0.mk (Kd.R_below (ra_ HO1286.out) hb); have n3_ := Aside0.mk (below_step bl_ hb); clear HO1280; clear HO1283; clear HO1286; clear HB; have HO1280 := n0_; have HO1283 := n1_; have HO1286 := n2_; have HB := n3_; clear n0_ n1_ n2_ n3_; (try clear hb); (try clear hb2); (try clear hk); (try clear hi)) | (go_at_call 60; (with_reducible refine (spec_ToldBy.calls k _ _ t1277 t1278 t1289 _ ?side1 ?side2 A10.out).mono ?_); (case side1 => repeat (first | exact (Kd.R_reads' HO1280.out).2.2 | (with_reducible refine Kd.C_alloc ?_ _) | (with_reducible refine Kd.C_drewN ?_ _) | (with_reducible refine Kd.C_drew ?_))); (case side2 => exact (Kd.R_reads' HO1280.out).2.1); rintro e w' ⟨rfl, ⟨nd, rfl⟩⟩) | (go_at_call 61; (with_reducible refine (impl_LostBy.calls k _ _ t1277 t1278 t1290 _ ?side1 ?side2 A12.out).mono ?_); (case side1 => repeat (first | exact (Kd.R_reads' HO1280.out).2.2 | (with_reducible refine Kd.C_alloc ?_ _) | (with_reducible refine Kd.C_drewN ?_ _) | (with_reducible refine Kd.C_drew ?_))); (case side2 => exact (Kd.R_reads' HO1280.out).2.1); rintro e w28 ⟨rfl, hb⟩; have n0_ := Aside0.mk (Kd.R_below (ra_ HO1280.out) hb); have n1_ := Aside0.mk (Kd.R_below (ra_ HO1283.out) hb); have n2_ := Aside0.mk (Kd.R_below (ra_ HO1286.out) hb); have n3_ := Aside0.mk (below_step bl_ hb); clear HO1280; clear HO1283; clear HO1286; clear HB; have HO1280 := n0_; have HO1283 := n1_; have HO1286 := n2_; have HB := n3_; clear n0_ n1_ n2_ n3_; (try clear hb); (try clear hb2); (try clear hk); (try clear hi)) | (go_at_call 62; (with_reducible refine (spec_LostBy.calls k _ _ t1277 t1278 t1291 _ ?side1 ?side2 A13.out).mono ?_); (case side1 => repeat (first | exact (Kd.R_reads' HO1280.out).2.2 | (with_reducible refine Kd.C_alloc ?_ _) | (with_reducible refine Kd.C_drewN ?_ _) | (with_reducible refine Kd.C_drew ?_))); (case side2 => exact (Kd.R_reads' HO1280.out).2.1); rintro e w29 ⟨rfl, hb⟩; have n0_ := Aside0.mk (Kd.R_below (ra_ HO1280.out) hb); have n1_ := Aside0.mk (Kd.R_below (ra_ HO1283.out) hb); have n2_ := Aside0.mk (Kd.R_below (ra_ HO1286.out) hb); have n3_ := Aside0.mk (below_step bl_ hb); clear HO1280; clear HO1283; clear HO1286; clear HB; have HO1280 := n0_; have HO1283 := n1_; have HO1286 := n2_; have HB := n3_; clear n0_ n1_ n2_ n3_; (try clear hb); (try clear hb2); (try clear hk); (try clear hi)) | (go_at_call 44; (with_reducible refine (impl_PidsIn.calls k _ _ t1277 t1292 _ ?side1 ?side2 A15.out).mono ?_); (case side1 => repeat (first | exact (Kd.R_reads' HO1280.out).2.2 | (with_reducible refine Kd.C_alloc ?_ _) | (with_reducible refine Kd.C_drewN ?_ _) | (with_reducible refine Kd.C_drew ?_))); (case side2 => exact (Kd.R_reads' HO1280.out).2.1); rintro e w30 ⟨v1293, rfl, ho0, hb⟩; have n0_ := Aside0.mk (Kd.R_below (ra_ HO1280.out) hb); have n1_ := Aside0.mk (Kd.R_below (ra_ HO1283.out) hb); have n2_ := Aside0.mk (Kd.R_below (ra_ HO1286.out) hb); have n3_ := Aside0.mk (Kd.R_lower ho0 (below_size bl_)); have n4_ := Aside0.mk (below_step bl_ hb); clear HO1280; clear HO1283; clear HO1286; clear HB; have HO1280 := n0_; have HO1283 := n1_; have HO1286 := n2_; have HO1294 := n3_; have HB := n4_; clear n0_ n1_ n2_ n3_ n4_; (try clear hb); (try clear hb2); (try clear hk); (try clear hi); (try clear ho0)) | (go_at_call 43; (with_reducible refine (spec_PidsIn.calls k _ _ t1277 t1295 _ ?side1 ?side2 A16.out).mono ?_); (case side1 => repeat (first | exact (Kd.R_reads' HO1280.out).2.2 | (with_reducible refine Kd.C_alloc ?_ _) | (with_reducible refine Kd.C_drewN ?_ _) | (with_reducible refine Kd.C_drew ?_))); (case side2 => exact (Kd.R_reads' HO1280.out).2.1); rintro e w31 ⟨v1296, rfl, ho0, hb⟩; have n0_ := Aside0.mk (Kd.R_below (ra_ HO1280.out) hb); have n1_ := Aside0.mk (Kd.R_below (ra_ HO1283.out) hb); have n2_ := Aside0.mk (Kd.R_below (ra_ HO1286.out) hb); have n3_ := Aside0.mk (Kd.R_elder' (ra_ HO1294.out) (Kd.R_base ho0) hb); have n4_ := Aside0.mk (Kd.R_lower (Kd.R_new' ho0 (Kd.R_lt (ra_ HO1294.out))) (below_size bl_)); have n5_ := Aside0.mk (below_step bl_ hb); clear HO1280; clear HO1283; clear HO1286; clear HO1294; clear HB; have HO1280 := n0_; have HO1283 := n1_; have HO1286 := n2_; have HO1294 := n3_; have HO1297 := n4_; have HB := n5_; clear n0_ n1_ n2_ n3_ n4_ n5_; (try clear hb); (try clear hb2); (try clear hk); (try clear hi); (try clear ho0); obtain ⟨Ao32, co32, eo32⟩ := Kd.R_slice HO1294.out; subst eo32; obtain ⟨Ao33, co33, eo33⟩ := Kd.R_slice HO1297.out; subst eo33) | (go_at_call 57; (with_reducible refine (laws_sameInts.calls k _ _ t1292 _ _ t1295 true _ ?side1 ?side2 ?side3 ?side4 A17.out).mono ?_); (case side1 => repeat (first | exact (Kd.R_reads' HO1294.out).2.2 | (with_reducible refine Kd.C_alloc ?_ _) | (with_reducible refine Kd.C_drewN ?_ _) | (with_reducible refine Kd.C_drew ?_))); (case side2 => exact (Kd.R_reads' HO1294.out).2.1); (case side3 => repeat (first | exact (Kd.R_reads' HO1297.out).2.2 | (with_reducible refine Kd.C_alloc ?_ _) | (with_reducible refine Kd.C_drewN ?_ _) | (with_reducible refine Kd.C_drew ?_))); (case side4 => exact (Kd.R_reads' HO1297.out).2.1); rintro e w' ⟨rfl, ⟨nd, rfl⟩⟩) | (go_at_call 41; (with_reducible refine (impl_MostTold.calls k _ _ t1277 t1299 _ ?side1 ?side2 A19.out).mono ?_); (case side1 => repeat (first | exact (Kd.R_reads' HO1280.out).2.2 | (with_reducible refine Kd.C_alloc ?_ _) | (with_reducible refine Kd.C_drewN ?_ _) | (with_reducible refine Kd.C_drew ?_))); (case side2 => exact (Kd.R_reads' HO1280.out).2.1); rintro e w34 ⟨rfl, hb⟩; have n0_ := Aside0.mk (Kd.R_below (ra_ HO1280.out) hb); have n1_ := Aside0.mk (Kd.R_below (ra_ HO1283.out) hb); have n2_ := Aside0.mk (Kd.R_below (ra_ HO1286.out) hb); have n3_ := Aside0.mk (Kd.R_below (ra_ HO1294.out) hb); have n4_ := Aside0.mk (Kd.R_below (ra_ HO1297.out) hb); have n5_ := Aside0.mk (below_step bl_ hb); clear HO1280; clear HO1283; clear HO1286; clear HO1294; clear HO1297; clear HB; have HO1280 := n0_; have HO1283 := n1_; have HO1286 := n2_; have HO1294 := n3_; have HO1297 := n4_; have HB := n5_; clear n0_ n1_ n2_ n3_ n4_ n5_; (try clear hb); (try clear hb2); (try clear hk); (try clear hi)) | (go_at_call 39; (with_reducible refine (spec_MostTold.calls k _ _ t1277 t1300 _ ?side1 ?side2 A20.out).mono ?_); (case side1 => repeat (first | exact (Kd.R_reads' HO1280.out).2.2 | (with_reducible refine Kd.C_alloc ?_ _) | (with_reducible refine Kd.C_drewN ?_ _) | (with_reducible refine Kd.C_drew ?_))); (case side2 => exact (Kd.R_reads' HO1280.out).2.1); rintro e w35 ⟨rfl, hb⟩; have n0_ := Aside0.mk (Kd.R_below (ra_ HO1280.out) hb); have n1_ := Aside0.mk (Kd.R_below (ra_ HO1283.out) hb); have n2_ := Aside0.mk (Kd.R_below (ra_ HO1286.out) hb); have n3_ := Aside0.mk (Kd.R_below (ra_ HO1294.out) hb); have n4_ := Aside0.mk (Kd.R_below (ra_ HO1297.out) hb); have n5_ := Aside0.mk (below_step bl_ hb); clear HO1280; clear HO1283; clear HO1286; clear HO1294; clear HO1297; clear HB; have HO1280 := n0_; have HO1283 := n1_; have HO1286 := n2_; have HO1294 := n3_; have HO1297 := n4_; have HB := n5_; clear n0_ n1_ n2_ n3_ n4_ n5_; (try clear hb); (try clear hb2); (try clear hk); (try clear hi)))
      go_ret
      exact ⟨by first | rfl | (simp [errW_none, errW_some] <;> rfl) | (simp [*, errW_none, errW_some] <;> rfl) | exact False.elim (Bool.noConfusion ((decide_eq_true (of_eq_true (by assumption))).symm.trans (by assumption))), bl_⟩
     ·replace c18 := Bool.eq_false_iff.mpr c18
      subst c18
      rw [if_neg (show ¬ (false = true) by decide)] at H
      exact absurd ((Option.some.inj H).trans HR1.out) (by decide)
    ·rw [if_neg c14] at H
     have c14b0 : (t1290 == t1291) = false := beq_eq_false_iff_ne.mpr c14
     have c14b1 : (t1290 != t1291) = true := bne_iff_ne.mpr c14
     exact absurd ((Option.some.inj H).trans HR1.out) (by decide)
   ·rw [if_neg c11] at H
    have c11b0 : (t1288 == t1289) = false := beq_eq_false_iff_ne.mpr c11
    have c11b1 : (t1288 != t1289) = true := bne_iff_ne.mpr c11
    exact absurd ((Option.some.inj H).trans HR1.out) (by decide)
  ·replace c8 := Bool.eq_false_iff.mpr c8
   subst c8
   rw [if_neg (show ¬ (false = true) by decide)] at H
   exact absurd ((Option.some.inj H).trans HR1.out) (by decide)

/-- THE ONE PURE STATEMENT of laws_FnCountsTold: yours. -/
def laws_FnCountsTold.Pure : Prop := ∀ (l0 : List Int), l0.length ≤ maxLen → l0.length * 1 ≤ 140737488351232 → (∀ x ∈ l0, (Lit.int .u8 x).wf = true) → ∃ k, laws_FnCountsTold.f k l0 = some true
theorem laws_FnCountsTold.walk (P : laws_FnCountsTold.Pure) (a0 : Option Addr) (len0 cap0 : Nat) (z0 : List Int) (w : World) (w0 : (a0 = none ∧ len0 = 0 ∧ cap0 = 0 ∧ z0 = []) ∨ ∃ x, a0 = some x ∧ len0 ≤ cap0 ∧ cap0 ≤ maxLen ∧ z0.length = cap0 ∧ (∀ i, i < z0.length → w.cell? (x.add i) = some (.int .u8 (z0.getD i 0))) ∧ ∀ n ∈ z0, (Lit.int .u8 n).wf = true) (y0 : len0 * 1 ≤ 140737488351232) :
 Calls Try.prog 11 #[.slice a0 len0 cap0] w fun e w' => e = .returned (.bool true) ∧ Below w.heap.size w w' := by
 obtain ⟨l0, rfl, hr0, hm0, hw0, hc0⟩ := ReadsInt.ofRowC w0
 obtain ⟨k, h⟩ := P l0 hm0 y0 hw0
 refine (laws_FnCountsTold.calls k _ _ l0 true w (Kd.C_of_reads (d := (0 : Int)) (h1 := fun _ => rfl) hr0) hc0 rfl h).mono ?_
 rintro e w' ⟨rfl, hd⟩
 exact ⟨rfl, hd⟩

end Go.Proofs.Ytmjlhikflhbdaaa.PA

namespace Go.Proofs.Ytmjlhikflhbdaaa.Kit
open Go.RowKit Go.Proofs.YtmjlhikflhbdaaaW.PrintWords Go.Proofs.YtmjlhikflhbdaaaW.PrintLast Go.Proofs.YtmjlhikflhbdaaaW.PrintMore
set_option linter.unusedVariables false
set_option linter.unusedSimpArgs false

theorem w64 {x : Int} (h0 : -9223372036854775808 ≤ x) (h1 : x ≤ 9223372036854775807) : wrap64 x = x := by unfold wrap64; omega

section
variable {α β : Type}
theorem evSucc {g : Nat → Option α} {r : α} (h : Ev (fun k => g (k + 1)) r) : Ev g r := Ev.step (fun _ => rfl) h
theorem evPos {c : Prop} [Decidable c] {g f : Nat → Option α} {r : α} (hc : c) (h : Ev g r) : Ev (fun k => if c then g k else f k) r := Ev.congr (fun k => if_pos hc) h
theorem evNeg {c : Prop} [Decidable c] {g f : Nat → Option α} {r : α} (hc : ¬ c) (h : Ev f r) : Ev (fun k => if c then g k else f k) r := Ev.congr (fun k => if_neg hc) h
theorem evIte {c : Prop} [Decidable c] {g f : Nat → Option α} {r s : α} (h : c → Ev g r) (h' : ¬ c → Ev f s) : Ev (fun k => if c then g k else f k) (if c then r else s) := by
 by_cases hc : c
 ·rw [if_pos hc]; exact evPos hc (h hc)
 ·rw [if_neg hc]; exact evNeg hc (h' hc)
theorem evSome (r : α) : Ev (fun _ => some r) r := Ev.now r
theorem evEq {g : Nat → Option α} {r s : α} (h : Ev g r) (e : r = s) : Ev g s := e ▸ h
/-- A value that needs no rounds. -/
theorem evBindS {x : Option α} {f : Nat → α → Option β} {a : α} {r : β} (h : x = some a) (k : Ev (fun n => f n a) r) : Ev (fun n => x.bind (f n)) r := by subst h; exact k
theorem evConst {x : Option α} {r : α} (h : x = some r) : Ev (fun _ => x) r := by subst h; exact Ev.now r
end

section
variable {α β : Type}
/-- A loop that counts up: from the last place back to the first. -/
theorem evUp {r : α} (n : Nat) (g : Nat → Nat → Option α) (step : ∀ i, i < n → Ev (g (i + 1)) r → Ev (g i) r) (last : Ev (g n) r) : Ev (g 0) r := by
 have key : ∀ d i, i + d = n → Ev (g i) r := by
  intro d
  induction d with
  | zero => intro i hi; rw [show i = n by omega]; exact last
  | succ d ih => intro i hi; exact step i (by omega) (ih (i + 1) (by omega))
 exact key n 0 (by omega)
theorem fillStep (f : α → β) (z : β) (l : List α) (i : Nat) (hi : i < l.length) :
 ((l.take i).map f ++ List.replicate (l.length - i) z).set i (f l[i]) = (l.take (i + 1)).map f ++ List.replicate (l.length - (i + 1)) z := by
 have h1 : ((l.take i).map f).length = i := by simp; omega
 rw [show l.length - i = (l.length - (i + 1)) + 1 by omega, List.replicate_succ, List.set_append_right _ _ (by omega), h1, Nat.sub_self, List.set_cons_zero,
  List.take_succ_eq_append_getElem hi, List.map_append, List.append_assoc]
 rfl
theorem takeSnoc (l : List α) (i : Nat) (hi : i < l.length) : l.take (i + 1) = l.take i ++ [l[i]] := List.take_succ_eq_append_getElem hi
theorem ci (i : Nat) : (i : Int) + 1 = ((i + 1 : Nat) : Int) := by omega
theorem sizeApp (a b : ByteArray) : (a ++ b).size = a.size + b.size := ByteArray.size_append
end

theorem okI64 {n : Int} (h : (Lit.int .i64 n).wf = true) : -9223372036854775808 ≤ n ∧ n ≤ 9223372036854775807 := by
 simp [Lit.wf, IntKind.min, IntKind.max, IntKind.signed, IntKind.bits] at h
 omega
end Go.Proofs.Ytmjlhikflhbdaaa.Kit
