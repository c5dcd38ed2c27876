/- Contracts of functions of the program and of the reference, and plain lemmas on what they compute. No condition. -/
import Derived.Test.YtdhjolglbcoijaaDoorG7ebe2x0
import Derived.Test.YtdhjolglbcoijaaDoorG2bc1bx0
import Derived.Test.YtdhjolglbcoijaaDoorShort
namespace Go.Proofs.YtdhjolglbcoijaaDoor.PA
open Go.RowKit Go.Proofs.YtdhjolglbcoijaaDoor.Short Go.Proofs.YtdhjolglbcoijaaDoorW.PrintWords Go.Proofs.YtdhjolglbcoijaaDoorW.PrintLast Go.Proofs.YtdhjolglbcoijaaDoorW.PrintMore
attribute [local go_sem] max2_int min2_int max_two min_two max_three min_three max_four min_four   -- for this text's walks alone
set_option linter.unusedVariables false
set_option linter.unusedSimpArgs false

/-! ### spec_RootOf: function 50 -/
def spec_RootOf.f : Nat → List (S70) → Option (ByteArray)
 | 0, _ => none
 | k + 1, l0 => if (l0.length : Int) = 0 then ((spec_Digest.f (⟨#[]⟩ : ByteArray)).bind fun t464 => (some t464)) else (if (l0.length : Int) = 1 then (if 0 < (l0.length : Int) then ((spec_LeafOf.f k ((rd_T70 l0 0).f0) ((rd_T70 l0 0).f1) ((rd_T70 l0 0).f2.f0) ((rd_T70 l0 0).f2.f1) ((rd_T70 l0 0).f2.f2) ((rd_T70 l0 0).f2.f3)).bind fun t466 => (some t466)) else (none)) else ((spec_l27Half.f k (l0.length : Int)).bind fun t467 => (if 0 ≤ t467 then (if t467 ≤ (l0.length : Int) then ((spec_RootOf.f k (l0.take (t467 : Int).toNat)).bind fun t472 => ((spec_RootOf.f k (l0.drop (t467 : Int).toNat)).bind fun t477 => ((spec_NodeOf.f t472 t477).bind fun t478 => (some t478)))) else (none)) else (none))))
theorem spec_RootOf.mono_l : ∀ k, (∀ y0, LeO (spec_RootOf.f k y0) (spec_RootOf.f (k + 1) y0))
 | 0 => fun _ r h => by simp [spec_RootOf.f] at h
 | k + 1 => by
  have ih0 := spec_RootOf.mono_l k
  ·intro y0
   unfold spec_RootOf.f
   repeat' first
   | (with_reducible exact ih0 _)
   | (with_reducible exact spec_LeafOf.mono _ _ _ _ _ _ _)
   | (with_reducible exact spec_l27Half.mono _ _)
   | (with_reducible exact LeO.refl _)
   | (with_reducible exact LeO.none _)
   | (with_reducible refine LeO.ite ?_ ?_)
   | (with_reducible refine LeO.bind ?_ (fun _ => ?_))
   | exact ih0 _
   | exact spec_LeafOf.mono _ _ _ _ _ _ _
   | exact spec_l27Half.mono _ _
   | exact LeO.none _
   | refine LeO.ite ?_ ?_
   | refine LeO.bind ?_ (fun _ => ?_)
theorem spec_RootOf.mono : ∀ a0 k, LeO (spec_RootOf.f k a0) (spec_RootOf.f (k + 1) a0) := by
 intro a0 k
 have ih0 := spec_RootOf.mono_l k
 exact ih0 a0
def spec_RootOf.T7 : Bool × List (List Nat × List Nat) := (true, [([], []), ([], []), ([0, 1], [0, 1]), ([2], [2]), ([], []), ([], []), ([4, 5], [4, 5]), ([6, 3], [6]), ([3, 7, 7], [3, 7]), ([8, 8, 0, 1, 2, 3, 4, 5, 6, 7, 8], [8])])
def spec_RootOf.B7 : List Nat := [0, 0, 3, 7, 0, 0, 48, 127, 255, 511]
theorem spec_RootOf.tab7 : rtab .any (opsOf Tryd.f50 7) = spec_RootOf.T7 := by kernel_rfl
theorem spec_RootOf.bits7 : waitsOk spec_RootOf.T7.2 spec_RootOf.B7 = true := by kernel_rfl
set_option maxHeartbeats 8000000 in
set_option maxRecDepth 100000 in
theorem spec_RootOf.calls (k : Nat) : ∀ (A0 : Option Addr) (c0 : Nat) (l0 : List (S70)) (r : ByteArray) (w : World) (hr0 : Kd.C k70 w A0 l0.length l0) (hc0 : l0.length ≤ c0) (h : spec_RootOf.f k l0 = some r),
 Calls Tryd.prog 50 #[.slice A0 l0.length c0] w fun e w' => e = .returned (.string r) ∧ Below w.heap.size w w' := by
 induction k using Nat.strongRecOn with
 | _ k ih =>
 intro A0 c0 l0 r w hr0 hc0 h
 cases k with
 | zero => exact absurd h (by simp [spec_RootOf.f])
 | succ k =>
 simp only [spec_RootOf.f] at h
 have hu70 := Tryd.underlying70
 have HR0 := Aside0.mk hr0
 have HC0 := Aside0.mk hc0
 clear hr0 hc0
 have HB := Aside0.mk (Below.refl w.heap.size w)
 have H : (if (l0.length : Int) = 0 then ((spec_Digest.f (⟨#[]⟩ : ByteArray)).bind fun t464 => (some t464)) else (if (l0.length : Int) = 1 then (if 0 < (l0.length : Int) then ((spec_LeafOf.f k ((rd_T70 l0 0).f0) ((rd_T70 l0 0).f1) ((rd_T70 l0 0).f2.f0) ((rd_T70 l0 0).f2.f1) ((rd_T70 l0 0).f2.f2) ((rd_T70 l0 0).f2.f3)).bind fun t466 => (some t466)) else (none)) else ((spec_l27Half.f k (l0.length : Int)).bind fun t467 => (if 0 ≤ t467 then (if t467 ≤ (l0.length : Int) then ((spec_RootOf.f k (l0.take (t467 : Int).toNat)).bind fun t472 => ((spec_RootOf.f k (l0.drop (t467 : Int).toNat)).bind fun t477 => ((spec_NodeOf.f t472 t477).bind fun t478 => (some t478)))) else (none)) else (none))))) = some r := h
 clear h
 by_cases c2 : (l0.length : Int) = 0
 ·rw [if_pos c2] at H
  have c2b0 : ((l0.length : Int) == 0) = true := beq_iff_eq.mpr c2
  have c2b1 : ((l0.length : Int) != 0) = false := bne_eq_false_iff_eq.mpr c2
  clear c2
  replace H := Option.bind_eq_some_iff.mp H
  obtain ⟨t464, A30, H⟩ := H
  replace H : (some t464) = some r := H
  have A3 := Aside0.mk A30
  clear A30
  obtain rfl := Option.some.inj H
  go_enter Tryd.func50, Tryd.ntmps50
  go_wp2_with (first | ((with_reducible refine gate_callee (f := 56) rfl ?_); refine goesL_ (some 8) rfl rfl Tryd.func56 (by kernel_rfl) rfl #[.string (⟨#[]⟩ : ByteArray)] rfl lm_ ?_; (with_reducible refine (spec_Digest.calls (⟨#[]⟩ : ByteArray) t464 _ A3.out).mono ?_); rintro e w4 ⟨rfl, hb⟩; refine ⟨_, rfl, ?_⟩; have n0_ := Aside0.mk (below_step bl_ hb); clear HB; have HB := n0_; clear n0_; (try clear hb); (try clear hb2); (try clear hk); (try clear hi)))
  go_ret
  exact ⟨by first | rfl | (simp [errW_none, errW_some] <;> rfl) | (simp [*, errW_none, errW_some] <;> rfl), bl_⟩
 ·rw [if_neg c2] at H
  have c2b0 : ((l0.length : Int) == 0) = false := beq_eq_false_iff_ne.mpr c2
  have c2b1 : ((l0.length : Int) != 0) = true := bne_iff_ne.mpr c2
  have c2b2 : ¬ (l0 = []) := fun h_ => c2 (by rw [h_]; rfl)
  by_cases c5 : (l0.length : Int) = 1
  ·rw [if_pos c5] at H
   have c5b0 : ((l0.length : Int) == 1) = true := beq_iff_eq.mpr c5
   have c5b1 : ((l0.length : Int) != 1) = false := bne_eq_false_iff_eq.mpr c5
   clear c5
   by_cases c6 : 0 < (l0.length : Int)
   ·rw [if_pos c6] at H
    have c6b0 : decide (0 < (l0.length : Int)) = true := decide_eq_true c6
    have c6b1 : decide (0 < l0.length) = true := decide_eq_true (by omega)
    clear c6
    replace H := Option.bind_eq_some_iff.mp H
    obtain ⟨t466, A70, H⟩ := H
    replace H : (some t466) = some r := H
    have A7 := Aside0.mk A70
    clear A70
    obtain rfl := Option.some.inj H
    have p465 : 0 ≤ (0 : Int) := (by omega)
    have q465 : 0 < (l0.length : Int) := of_decide_eq_true as_
    obtain ⟨ad465, e465, hx465_0, hx465_1, hx465_2, hx465_3, hx465_4, hx465_5⟩ := at_T70 HR0.out 0 p465 q465
    cases e465
    have qi465 : (0 < l0.length) = True := eq_true (by omega)
    (try rw [show ((0 : Int)).toNat = 0 from rfl] at hx465_0)
    (try rw [show 0 * 6 = 0 from rfl] at hx465_0)
    (try rw [Addr.add_zero'] at hx465_0)
    (try rw [show ((0 : Int)).toNat = 0 from rfl] at hx465_1)
    (try rw [show 0 * 6 = 0 from rfl] at hx465_1)
    (try rw [Addr.add_zero'] at hx465_1)
    (try rw [show ((0 : Int)).toNat = 0 from rfl] at hx465_2)
    (try rw [show 0 * 6 = 0 from rfl] at hx465_2)
    (try rw [Addr.add_zero'] at hx465_2)
    (try rw [show ((0 : Int)).toNat = 0 from rfl] at hx465_3)
    (try rw [show 0 * 6 = 0 from rfl] at hx465_3)
    (try rw [Addr.add_zero'] at hx465_3)
    (try rw [show ((0 : Int)).toNat = 0 from rfl] at hx465_4)
    (try rw [show 0 * 6 = 0 from rfl] at hx465_4)
    (try rw [Addr.add_zero'] at hx465_4)
    (try rw [show ((0 : Int)).toNat = 0 from rfl] at hx465_5)
    (try rw [show 0 * 6 = 0 from rfl] at hx465_5)
    (try rw [Addr.add_zero'] at hx465_5)
    replace p465 := eq_true p465
    replace q465 := eq_true q465
    go_enter Tryd.func50, Tryd.ntmps50
    go_wp2_with (first | ((with_reducible refine gate_callee (f := 96) rfl ?_); refine goesL_ (some 14) rfl rfl Tryd.func96 (by kernel_rfl) rfl #[.agg #[.int .i64 ((rd_T70 l0 0).f0), .int .i64 ((rd_T70 l0 0).f1), .int .i64 ((rd_T70 l0 0).f2.f0), .int .i64 ((rd_T70 l0 0).f2.f1), .int .i64 ((rd_T70 l0 0).f2.f2), .int .i64 ((rd_T70 l0 0).f2.f3)]] rfl lm_ ?_; (with_reducible refine (spec_LeafOf.calls k ((rd_T70 l0 0).f0) ((rd_T70 l0 0).f1) ((rd_T70 l0 0).f2.f0) ((rd_T70 l0 0).f2.f1) ((rd_T70 l0 0).f2.f2) ((rd_T70 l0 0).f2.f3) t466 _ A7.out).mono ?_); rintro e w8 ⟨rfl, hb⟩; refine ⟨_, rfl, ?_⟩; have n0_ := Aside0.mk (below_step bl_ hb); clear HB; have HB := n0_; clear n0_; (try clear hb); (try clear hb2); (try clear hk); (try clear hi)))
    go_ret
    exact ⟨by first | rfl | (simp [errW_none, errW_some] <;> rfl) | (simp [*, errW_none, errW_some] <;> rfl), bl_⟩
   ·rw [if_neg c6] at H
    exact absurd H (by simp)
  ·rw [if_neg c5] at H
   have c5b0 : ((l0.length : Int) == 1) = false := beq_eq_false_iff_ne.mpr c5
   have c5b1 : ((l0.length : Int) != 1) = true := bne_iff_ne.mpr c5
   replace H := Option.bind_eq_some_iff.mp H
   obtain ⟨t467, A90, H⟩ := H
   replace H : (if 0 ≤ t467 then (if t467 ≤ (l0.length : Int) then ((spec_RootOf.f k (l0.take (t467 : Int).toNat)).bind fun t472 => ((spec_RootOf.f k (l0.drop (t467 : Int).toNat)).bind fun t477 => ((spec_NodeOf.f t472 t477).bind fun t478 => (some t478)))) else (none)) else (none)) = some r := H
   have A9 := Aside0.mk A90
   clear A90
   by_cases c10 : 0 ≤ t467
   ·rw [if_pos c10] at H
    have c10b0 := eq_true c10
    have c10b1 : decide (0 ≤ t467) = true := decide_eq_true c10
    clear c10
    by_cases c11 : t467 ≤ (l0.length : Int)
    ·rw [if_pos c11] at H
     have c11b0 := eq_true c11
     have c11b1 : decide (t467 ≤ (l0.length : Int)) = true := decide_eq_true c11
     clear c11
     obtain ⟨y468, hy468⟩ : ∃ y_ : List (S70), y_ = (l0.take (t467 : Int).toNat) := ⟨_, rfl⟩
     replace H : ((spec_RootOf.f k y468).bind fun t472 => ((spec_RootOf.f k (l0.drop (t467 : Int).toNat)).bind fun t477 => ((spec_NodeOf.f t472 t477).bind fun t478 => (some t478)))) = some r := by first | (rw [hy468]; with_reducible exact H) | (have H2_ := (Option.bind_some _ _).symm.trans H; rw [hy468]; with_reducible exact H2_) | (have H2_ := (Option.bind_some _ _).symm.trans H; with_reducible exact H2_) | with_reducible exact H | (rw [hy468]; exact H) | exact H
     have Ny468 := Aside0.mk hy468
     clear hy468
     replace H := Option.bind_eq_some_iff.mp H
     obtain ⟨t472, A120, H⟩ := H
     replace H : ((spec_RootOf.f k (l0.drop (t467 : Int).toNat)).bind fun t477 => ((spec_NodeOf.f t472 t477).bind fun t478 => (some t478))) = some r := H
     have A12 := Aside0.mk A120
     clear A120
     have c13b0 := eq_true (of_decide_eq_true as_ : 0 ≤ t467)
     have c14b0 := eq_true (of_decide_eq_true as_ : t467 ≤ (l0.length : Int))
     obtain ⟨y473, hy473⟩ : ∃ y_ : List (S70), y_ = (l0.drop (t467 : Int).toNat) := ⟨_, rfl⟩
     replace H : ((spec_RootOf.f k y473).bind fun t477 => ((spec_NodeOf.f t472 t477).bind fun t478 => (some t478))) = some r := by first | (rw [hy473]; with_reducible exact H) | (have H2_ := (Option.bind_some _ _).symm.trans H; rw [hy473]; with_reducible exact H2_) | (have H2_ := (Option.bind_some _ _).symm.trans H; with_reducible exact H2_) | with_reducible exact H | (rw [hy473]; exact H) | exact H
     have Ny473 := Aside0.mk hy473
     clear hy473
     replace H := Option.bind_eq_some_iff.mp H
     obtain ⟨t477, A150, H⟩ := H
     replace H : ((spec_NodeOf.f t472 t477).bind fun t478 => (some t478)) = some r := H
     have A15 := Aside0.mk A150
     clear A150
     replace H := Option.bind_eq_some_iff.mp H
     obtain ⟨t478, A160, H⟩ := H
     replace H : (some t478) = some r := H
     have A16 := Aside0.mk A160
     clear A160
     obtain rfl := Option.some.inj H
     go_enter Tryd.func50, Tryd.ntmps50
     try go_wp2_with (first | ((with_reducible refine gate_callee (f := 80) rfl ?_); refine goesL_ (some 17) rfl rfl Tryd.func80 (by kernel_rfl) rfl #[.int .i64 (l0.length : Int)] rfl lm_ ?_; (with_reducible refine (spec_l27Half.calls k (l0.length : Int) t467 _ A9.out).mono ?_); rintro e w' ⟨rfl, ⟨nd, rfl⟩⟩; refine ⟨_, rfl, ?_⟩))
     generalize hq_ : World.drewN w _ = w17
     have n0_ := Aside0.mk (below_at hq_ HB.out)
     clear HB
     have HB := n0_
     clear n0_
     clear hq_
     have n0_ := Aside0.mk (below_drew1 HB.out)
     clear HB
     have HB := n0_
     clear n0_
     have q19 : (t467 : Int) ≤ ((l0.length : Int) : Int) := of_decide_eq_true as_
     obtain ⟨i019, hi019, _, hsz19, _⟩ := info_parts info70
     have hroom19 : l0.length ≤ c0 := HC0.out
     have hC19 : Kd.C k70 _ A0 l0.length l0 := HR0.out
     have hcut19 := cut_to (P := Tryd.prog) 28 70 .i64 Tryd.underlying28 hi019 A0 l0.length c0 t467 (of_decide_eq_true as_) q19 hroom19
     have hr19 := Kd.C_take (m := (t467 : Int).toNat) hC19 (by omega)
     have hy19 : y468.length = (t467 : Int).toNat := (by rw [Ny468.out, List.length_take]; omega)
     rw [← Ny468.out] at hr19
     rw [← hy19] at hcut19
     have HR471 := Aside0.mk hr19
     have HC471 := Aside0.mk (show y468.length ≤ c0 from by omega)
     clear hr19 hC19 hroom19 hi019 hsz19
     have KY19 := Aside0.mk hy19
     clear hy19
     replace q19 := eq_true q19
     have q20 : (t467 : Int) ≤ ((l0.length : Int) : Int) := of_decide_eq_true as_
     obtain ⟨i020, hi020, _, hsz20, _⟩ := info_parts info70
     have hroom20 : l0.length ≤ c0 := HC0.out
     have hC20 : Kd.C k70 _ A0 l0.length l0 := HR0.out
     have q020 : (0 : Int) ≤ (t467 : Int) := of_decide_eq_true as_
     have hcut20 := cut_from (P := Tryd.prog) 28 70 .i64 Tryd.underlying28 hi020 6 hsz20 A0 l0.length c0 t467 q020 q20
     have hr20 := Kd.C_drop (m := (t467 : Int).toNat) (c := c0) hC20 (by omega) hroom20
     obtain ⟨A20, hA20⟩ : ∃ A1, A1 = (if c0 = (t467 : Int).toNat then A0 else (A0 : Option Addr).map (·.add ((t467 : Int).toNat * 6))) := ⟨_, rfl⟩
     obtain ⟨c20, hc20⟩ : ∃ c1, c1 = c0 - (t467 : Int).toNat := ⟨_, rfl⟩
     have hy20 : y473.length = l0.length - (t467 : Int).toNat := (by rw [Ny473.out, List.length_drop] <;> omega)
     rw [show (l0).drop (t467 : Int).toNat = y473 from Ny473.out.symm] at hr20
     replace hr20 : Kd.C k70 _ A20 y473.length y473 := (by rw [hA20]; exact hr20)
     rw [← hy20, ← hA20, ← hc20] at hcut20
     have HR476 := Aside0.mk hr20
     have HC476 := Aside0.mk (show y473.length ≤ c20 from by rw [hy20, hc20]; exact Nat.sub_le_sub_right hroom20 _)
     clear hr20 hC20 hroom20 hi020 hsz20 hc20
     have KY20 := Aside0.mk hy20
     have KA20 := Aside0.mk hA20
     clear hy20 hA20
     replace q20 := eq_true q20
     refine start_ (n := 10) (S := fun w' => True) (ds := []) #[false, false, false, false, false, false, false, false, false, false] (by kernel_rfl) rfl rfl trivial (fun hHeld => ?_); refine with_tabW spec_RootOf.tab7 spec_RootOf.bits7 (fun HT_ HW_ => ?_)
     generalize w17.drew = w18 at HB HR471 HR476 hHeld ⊢
     refine pure_ (i := 0) (N := some 18) (v := ?_) (a' := ?_) #[true, false, false, false, false, false, false, false, false, false] rfl rfl (any_of HT_.out (by kernel_rfl)) (fun _ _ _ h => h) (Or.inl ⟨by rfl, ?_⟩) ?_ ?_
     rotate_left
     ·intro w'
      go_simp
      with_reducible rfl
     rotate_left
     ·simp only [Act.put, List.setIfInBounds_toArray, List.set_cons_zero, List.set_cons_succ, i64_w, i32_w]
      rfl
     refine pure_ (i := 1) (N := some 19) (v := ?_) (a' := ?_) #[true, true, false, false, false, false, false, false, false, false] rfl rfl (any_of HT_.out (by kernel_rfl)) (fun _ _ _ h => h) (Or.inl ⟨by rfl, ?_⟩) ?_ ?_
     rotate_left
     ·intro w'
      go_simp
      with_reducible rfl
     rotate_left
     ·simp only [Act.put, List.setIfInBounds_toArray, List.set_cons_zero, List.set_cons_succ, i64_w, i32_w]
      rfl
     refine pure_ (i := 2) (N := some 20) (v := ?_) (a' := ?_) #[true, true, true, false, false, false, false, false, false, false] rfl rfl (any_of HT_.out (by kernel_rfl)) (fun _ _ _ h => h) (Or.inl ⟨by rfl, ?_⟩) ?_ ?_
     rotate_left
     ·intro w'
      go_simp
      with_reducible rfl
     rotate_left
     ·simp only [Act.put, List.setIfInBounds_toArray, List.set_cons_zero, List.set_cons_succ, i64_w, i32_w]
      rfl
     refine pure_ (i := 4) (N := some 22) (v := ?_) (a' := ?_) #[true, true, true, false, true, false, false, false, false, false] rfl rfl (any_of HT_.out (by kernel_rfl)) (fun _ _ _ h => h) (Or.inl ⟨by rfl, ?_⟩) ?_ ?_
     rotate_left
     ·intro w'
      go_simp
      with_reducible rfl
     rotate_left
     ·simp only [Act.put, List.setIfInBounds_toArray, List.set_cons_zero, List.set_cons_succ, i64_w, i32_w]
      rfl
     refine pure_ (i := 5) (N := some 23) (v := ?_) (a' := ?_) #[true, true, true, false, true, true, false, false, false, false] rfl rfl (any_of HT_.out (by kernel_rfl)) (fun _ _ _ h => h) (Or.inl ⟨by rfl, ?_⟩) ?_ ?_
     rotate_left
     ·intro w'
      go_simp
      with_reducible rfl
     rotate_left
     ·simp only [Act.put, List.setIfInBounds_toArray, List.set_cons_zero, List.set_cons_succ, i64_w, i32_w]
      rfl
     refine pure_ (i := 6) (N := some 24) (v := ?_) (a' := ?_) #[true, true, true, false, true, true, true, false, false, false] rfl rfl (any_of HT_.out (by kernel_rfl)) (fun _ _ _ h => h) (Or.inl ⟨by rfl, ?_⟩) ?_ ?_
     rotate_left
     ·intro w'
      go_simp
      with_reducible rfl
     rotate_left
     ·simp only [Act.put, List.setIfInBounds_toArray, List.set_cons_zero, List.set_cons_succ, i64_w, i32_w]
      rfl
     refine one_ (i := 3) (N := some 21) #[true, true, true, true, true, true, true, false, false, false] rfl rfl (one_of HT_.out (by kernel_rfl)) (by decide) (fun K hK => ?_)
     refine goes_ Tryd.func50 (by kernel_rfl) rfl #[.slice A0 y468.length c0] (by rfl) rfl rfl lm_ ?_
     with_reducible refine (ih k (by omega) _ _ y468 t472 _ ?side1 ?side2 A12.out).mono ?_
     (case side1 => repeat (first | exact (Kd.C_below HR471.out HB.out) | exact HR471.out | (with_reducible refine Kd.C_alloc ?_ _) | (with_reducible refine Kd.C_drewN ?_ _) | (with_reducible refine Kd.C_drew ?_)))
     (case side2 => exact HC471.out)
     rintro e w21 ⟨rfl, hb⟩
     refine ⟨_, rfl, ?_⟩
     have n0_ := Aside0.mk (below_step bl_ hb)
     clear HB
     have HB := n0_
     clear n0_
     (try clear hb)
     (try clear hb2)
     (try clear hk)
     (try clear hi)
     refine hK.out _ _ trivial (fun hHeld => ?_)
     clear hK K
     refine norm_ (a' := ?_) ?_ ?_
     rotate_left
     ·show Act.put _ (some 21) _ = _
      simp only [Act.put, List.setIfInBounds_toArray, List.set_cons_zero, List.set_cons_succ, i64_w, i32_w]
      rfl
     refine one_ (i := 7) (N := some 25) #[true, true, true, true, true, true, true, true, false, false] rfl rfl (one_of HT_.out (by kernel_rfl)) (by decide) (fun K hK => ?_)
     refine goes_ Tryd.func50 (by kernel_rfl) rfl #[.slice A20 y473.length c20] (by rfl) rfl rfl lm_ ?_
     with_reducible refine (ih k (by omega) _ _ y473 t477 _ ?side1 ?side2 A15.out).mono ?_
     (case side1 => repeat (first | exact (Kd.C_below HR476.out HB.out) | exact HR476.out | (with_reducible refine Kd.C_alloc ?_ _) | (with_reducible refine Kd.C_drewN ?_ _) | (with_reducible refine Kd.C_drew ?_)))
     (case side2 => exact HC476.out)
     rintro e w22 ⟨rfl, hb⟩
     refine ⟨_, rfl, ?_⟩
     have n0_ := Aside0.mk (below_step bl_ hb)
     clear HB
     have HB := n0_
     clear n0_
     (try clear hb)
     (try clear hb2)
     (try clear hk)
     (try clear hi)
     refine hK.out _ _ trivial (fun hHeld => ?_)
     clear hK K
     refine norm_ (a' := ?_) ?_ ?_
     rotate_left
     ·show Act.put _ (some 25) _ = _
      simp only [Act.put, List.setIfInBounds_toArray, List.set_cons_zero, List.set_cons_succ, i64_w, i32_w]
      rfl
     refine one_ (i := 8) (N := some 26) #[true, true, true, true, true, true, true, true, true, false] rfl rfl (one_of HT_.out (by kernel_rfl)) (by decide) (fun K hK => ?_)
     refine goes_ Tryd.func52 (by kernel_rfl) rfl #[.string t472, .string t477] (by rfl) rfl rfl lm_ ?_
     with_reducible refine (spec_NodeOf.calls t472 t477 t478 _ A16.out).mono ?_
     rintro e w23 ⟨rfl, hb⟩
     refine ⟨_, rfl, ?_⟩
     have n0_ := Aside0.mk (below_step bl_ hb)
     clear HB
     have HB := n0_
     clear n0_
     (try clear hb)
     (try clear hb2)
     (try clear hk)
     (try clear hi)
     refine hK.out _ _ trivial (fun hHeld => ?_)
     clear hK K
     refine norm_ (a' := ?_) ?_ ?_
     rotate_left
     ·show Act.put _ (some 26) _ = _
      simp only [Act.put, List.setIfInBounds_toArray, List.set_cons_zero, List.set_cons_succ, i64_w, i32_w]
      rfl
     refine pure_ (i := 9) (N := some 2) (v := ?_) (a' := ?_) #[true, true, true, true, true, true, true, true, true, true] rfl rfl (any_of HT_.out (by kernel_rfl)) (fun _ _ _ h => h) (Or.inl ⟨by rfl, ?_⟩) ?_ ?_
     rotate_left
     ·intro w'
      go_simp
      with_reducible rfl
     rotate_left
     ·simp only [Act.put, List.setIfInBounds_toArray, List.set_cons_zero, List.set_cons_succ, i64_w, i32_w]
      rfl
     refine done_ (done_of HT_.out (by kernel_rfl)) ?_
     try go_wp2
     go_ret
     exact ⟨by first | rfl | (simp [errW_none, errW_some] <;> rfl) | (simp [*, errW_none, errW_some] <;> rfl), bl_⟩
    ·rw [if_neg c11] at H
     exact absurd H (by simp)
   ·rw [if_neg c10] at H
    exact absurd H (by simp)

end Go.Proofs.YtdhjolglbcoijaaDoor.PA
