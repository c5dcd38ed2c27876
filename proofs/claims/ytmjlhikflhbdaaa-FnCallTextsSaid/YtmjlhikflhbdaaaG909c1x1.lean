/- Contracts of functions of the program and of the reference, and plain lemmas on what they compute. No condition. -/
import Derived.Test.YtmjlhikflhbdaaaGabbbex0
import Derived.Test.YtmjlhikflhbdaaaG909c1x0
import Derived.Test.YtmjlhikflhbdaaaShortV
namespace Go.Proofs.Ytmjlhikflhbdaaa.PA
open Go.RowKit Go.Proofs.Ytmjlhikflhbdaaa.Short Go.Proofs.YtmjlhikflhbdaaaW.PrintWords Go.Proofs.YtmjlhikflhbdaaaW.PrintLast Go.Proofs.YtmjlhikflhbdaaaW.PrintMore
attribute [local go_sem] max2_int min2_int max_two min_two max_three min_three max_four min_four   -- for this text's walks alone
set_option linter.unusedVariables false
set_option linter.unusedSimpArgs false

/-! ### impl_ReadCallLine: function 16 -/
mutual
def impl_ReadCallLine.j0 : Nat → Int → List ByteArray → Bool → Option (Int × Int × (List (S103)) × Bool)
 | 0, _, _, _ => none
 | k + 1, x0, x6, x27 => if x27 = true then (some (0, 0, ([] : List (S103)), false)) else (if 0 < (x6.length : Int) then ((impl_CallNumber.f k (rdOf ByteArray.empty x6 0)).bind fun t205 => (if 3 ≤ 17592186044416 then ((some (List.replicate 3 z103 : List (S103))).bind fun y206 => (if t205 < 0 then ((impl_half.f k (rdOf ByteArray.empty x6 0)).bind fun bt211 => (if bt211.2 = true then (impl_ReadCallLine.j1 k x6 x0 bt211.1 y206) else (some (0, 0, ([] : List (S103)), false)))) else (impl_ReadCallLine.j1 k x6 x0 t205 y206))) else (none))) else (none))
def impl_ReadCallLine.j1 : Nat → List ByteArray → Int → Int → List (S103) → Option (Int × Int × (List (S103)) × Bool)
 | 0, _, _, _, _ => none
 | k + 1, x6, x210000, x210001, x210002 => if 1 ≤ (x6.length : Int) then ((some (x6.drop (1 : Int).toNat : List ByteArray)).bind fun y213 => (impl_ReadCallLine.l0 k y213 (y213.length : Int) 0 x210000 x210001 x210002)) else (none)
def impl_ReadCallLine.l0 : Nat → List ByteArray → Int → Int → Int → Int → List (S103) → Option (Int × Int × (List (S103)) × Bool)
 | 0, _, _, _, _, _, _ => none
 | k + 1, x52, x53, x54, x210000, x210001, x210002 => if x54 < x53 then (if 0 ≤ x54 then (if x54 < (x52.length : Int) then ((impl_wideOf.f k (rdOf ByteArray.empty x52 x54)).bind fun bt217 => (if bt217.2.2 = true then (if x54 < (x210002.length : Int) then (impl_ReadCallLine.l0 k x52 x53 (wrap64 (x54 + 1)) x210000 x210001 (x210002.set (x54 : Int).toNat (⟨bt217.1, bt217.2.1⟩ : S103))) else (none)) else (some (0, 0, ([] : List (S103)), false)))) else (none)) else (none)) else ((impl_CallOk.f k x210000 x210001 x210002).bind fun t222 => (if t222 = true then (some (x210000, x210001, x210002, true)) else (some (0, 0, ([] : List (S103)), false))))
end
def impl_ReadCallLine.f (k : Nat) (a0 : Int) (a1 : ByteArray) : Option (Int × Int × (List (S103)) × Bool) := (impl_PartsOf.f k a1).bind fun bt199 => (if bt199.2 = true then ((impl_within.f (bt199.1.length : Int) 1 4).bind fun t203 => (impl_ReadCallLine.j0 k a0 bt199.1 (!t203))) else (impl_ReadCallLine.j0 k a0 bt199.1 true))
theorem impl_ReadCallLine.mono_l : ∀ k, (∀ y0 y1 y2, LeO (impl_ReadCallLine.j0 k y0 y1 y2) (impl_ReadCallLine.j0 (k + 1) y0 y1 y2)) ∧ (∀ y0 y1 y2 y3, LeO (impl_ReadCallLine.j1 k y0 y1 y2 y3) (impl_ReadCallLine.j1 (k + 1) y0 y1 y2 y3)) ∧ (∀ y0 y1 y2 y3 y4 y5, LeO (impl_ReadCallLine.l0 k y0 y1 y2 y3 y4 y5) (impl_ReadCallLine.l0 (k + 1) y0 y1 y2 y3 y4 y5))
 | 0 => ⟨fun _ _ _ r h => by simp [impl_ReadCallLine.j0] at h, fun _ _ _ _ r h => by simp [impl_ReadCallLine.j1] at h, fun _ _ _ _ _ _ r h => by simp [impl_ReadCallLine.l0] at h⟩
 | k + 1 => by
  obtain ⟨ih0, ih1, ih2⟩ := impl_ReadCallLine.mono_l k
  refine ⟨?_, ?_, ?_⟩
  ·intro y0 y1 y2
   unfold impl_ReadCallLine.j0
   repeat' first
   | (with_reducible exact ih0 _ _ _)
   | (with_reducible exact ih1 _ _ _ _)
   | (with_reducible exact ih2 _ _ _ _ _ _)
   | (with_reducible exact impl_CallNumber.mono _ _)
   | (with_reducible exact impl_CallOk.mono _ _ _ _)
   | (with_reducible exact impl_PartsOf.mono _ _)
   | (with_reducible exact impl_half.mono _ _)
   | (with_reducible exact impl_wideOf.mono _ _)
   | (with_reducible exact LeO.refl _)
   | (with_reducible exact LeO.none _)
   | (with_reducible refine LeO.ite ?_ ?_)
   | (with_reducible refine LeO.bind ?_ (fun _ => ?_))
   | exact ih0 _ _ _
   | exact ih1 _ _ _ _
   | exact ih2 _ _ _ _ _ _
   | exact impl_CallNumber.mono _ _
   | exact impl_CallOk.mono _ _ _ _
   | exact impl_PartsOf.mono _ _
   | exact impl_half.mono _ _
   | exact impl_wideOf.mono _ _
   | exact LeO.none _
   | refine LeO.ite ?_ ?_
   | refine LeO.bind ?_ (fun _ => ?_)
  ·intro y0 y1 y2 y3
   unfold impl_ReadCallLine.j1
   repeat' first
   | (with_reducible exact ih0 _ _ _)
   | (with_reducible exact ih1 _ _ _ _)
   | (with_reducible exact ih2 _ _ _ _ _ _)
   | (with_reducible exact impl_CallNumber.mono _ _)
   | (with_reducible exact impl_CallOk.mono _ _ _ _)
   | (with_reducible exact impl_PartsOf.mono _ _)
   | (with_reducible exact impl_half.mono _ _)
   | (with_reducible exact impl_wideOf.mono _ _)
   | (with_reducible exact LeO.refl _)
   | (with_reducible exact LeO.none _)
   | (with_reducible refine LeO.ite ?_ ?_)
   | (with_reducible refine LeO.bind ?_ (fun _ => ?_))
   | exact ih0 _ _ _
   | exact ih1 _ _ _ _
   | exact ih2 _ _ _ _ _ _
   | exact impl_CallNumber.mono _ _
   | exact impl_CallOk.mono _ _ _ _
   | exact impl_PartsOf.mono _ _
   | exact impl_half.mono _ _
   | exact impl_wideOf.mono _ _
   | exact LeO.none _
   | refine LeO.ite ?_ ?_
   | refine LeO.bind ?_ (fun _ => ?_)
  ·intro y0 y1 y2 y3 y4 y5
   unfold impl_ReadCallLine.l0
   repeat' first
   | (with_reducible exact ih0 _ _ _)
   | (with_reducible exact ih1 _ _ _ _)
   | (with_reducible exact ih2 _ _ _ _ _ _)
   | (with_reducible exact impl_CallNumber.mono _ _)
   | (with_reducible exact impl_CallOk.mono _ _ _ _)
   | (with_reducible exact impl_PartsOf.mono _ _)
   | (with_reducible exact impl_half.mono _ _)
   | (with_reducible exact impl_wideOf.mono _ _)
   | (with_reducible exact LeO.refl _)
   | (with_reducible exact LeO.none _)
   | (with_reducible refine LeO.ite ?_ ?_)
   | (with_reducible refine LeO.bind ?_ (fun _ => ?_))
   | exact ih0 _ _ _
   | exact ih1 _ _ _ _
   | exact ih2 _ _ _ _ _ _
   | exact impl_CallNumber.mono _ _
   | exact impl_CallOk.mono _ _ _ _
   | exact impl_PartsOf.mono _ _
   | exact impl_half.mono _ _
   | exact impl_wideOf.mono _ _
   | exact LeO.none _
   | refine LeO.ite ?_ ?_
   | refine LeO.bind ?_ (fun _ => ?_)
theorem impl_ReadCallLine.mono : ∀ a0 a1 k, LeO (impl_ReadCallLine.f k a0 a1) (impl_ReadCallLine.f (k + 1) a0 a1) := by
 intro a0 a1 k
 obtain ⟨ih0, ih1, ih2⟩ := impl_ReadCallLine.mono_l k
 unfold impl_ReadCallLine.f
 repeat' first
  | (with_reducible exact ih0 _ _ _)
  | (with_reducible exact ih1 _ _ _ _)
  | (with_reducible exact ih2 _ _ _ _ _ _)
  | (with_reducible exact impl_CallNumber.mono _ _)
  | (with_reducible exact impl_CallOk.mono _ _ _ _)
  | (with_reducible exact impl_PartsOf.mono _ _)
  | (with_reducible exact impl_half.mono _ _)
  | (with_reducible exact impl_wideOf.mono _ _)
  | (with_reducible exact LeO.refl _)
  | (with_reducible exact LeO.none _)
  | (with_reducible refine LeO.ite ?_ ?_)
  | (with_reducible refine LeO.bind ?_ (fun _ => ?_))
  | exact ih0 _ _ _
  | exact ih1 _ _ _ _
  | exact ih2 _ _ _ _ _ _
  | exact impl_CallNumber.mono _ _
  | exact impl_CallOk.mono _ _ _ _
  | exact impl_PartsOf.mono _ _
  | exact impl_half.mono _ _
  | exact impl_wideOf.mono _ _
  | exact LeO.none _
  | refine LeO.ite ?_ ?_
  | refine LeO.bind ?_ (fun _ => ?_)
def impl_ReadCallLine.T4 : Bool × List (List Nat × List Nat) := (true, [([], []), ([], []), ([1], [1]), ([2], [2]), ([3], [3]), ([], []), ([0, 4, 5], [0, 4, 5]), ([], []), ([7, 6, 4, 0, 1, 2, 3, 4, 5, 6, 7], [6, 7])])
def impl_ReadCallLine.B4 : List Nat := [0, 0, 2, 6, 14, 0, 63, 0, 255]
theorem impl_ReadCallLine.tab4 : rtab .any (opsOf Try.f16 4) = impl_ReadCallLine.T4 := by kernel_rfl
theorem impl_ReadCallLine.bits4 : waitsOk impl_ReadCallLine.T4.2 impl_ReadCallLine.B4 = true := by kernel_rfl
set_option maxHeartbeats 8000000 in
set_option maxRecDepth 100000 in
theorem impl_ReadCallLine.calls (k : Nat) (a0 : Int) (a1 : ByteArray) (r1 : Int) (r2 : Int) (r3 : List (S103)) (r4 : Bool) (w : World) (h : impl_ReadCallLine.f k a0 a1 = some (r1, r2, r3, r4)) :
 Calls Try.prog 16 #[.int .i64 a0, .string a1] w fun e w' => ∃ v2_ : Value, e = .returned (.tuple #[.agg #[.int .i64 r1, .int .i64 r2, v2_], .bool r4]) ∧ Kd.R k103 103 w' w.heap.size (fun _ => True) v2_ r3 ∧ Below w.heap.size w w' := by
 have hu24 := Try.underlying24
 have hu103 := Try.underlying103
 have HB := Aside0.mk (Below.refl w.heap.size w)
 have H : ((impl_PartsOf.f k a1).bind fun bt199 => (if bt199.2 = true then ((impl_within.f (bt199.1.length : Int) 1 4).bind fun t203 => (impl_ReadCallLine.j0 k a0 bt199.1 (!t203))) else (impl_ReadCallLine.j0 k a0 bt199.1 true))) = some (r1, r2, r3, r4) := h
 clear h
 replace H := Option.bind_eq_some_iff.mp H
 obtain ⟨⟨t199, t200⟩, A30, H⟩ := H
 try dsimp only at H
 have A3 := Aside0.mk A30
 clear A30
 have HC4 := Aside0.mk H
 clear H
 go_enter Try.func16, Try.ntmps16
 go_upto_region 2 with (first | ((with_reducible refine gate_dst (N := 4) rfl ?_); (try (refine gate_guard (by rfl) ?_; dsimp only)); refine box_event ?hg (N := 4) ?hd (cs := #[.int .i64 0, .int .i64 0, .slice none 0 0]) (t := 24) ?hr ?_; (case hd => rfl); (case hg => rfl); (case hr => first | (go_simp; done) | (go_simp; rfl)); intro gb198 hg w5 hbox hb; have n0_ := Aside0.mk (below_step bl_ hb); have n1_ := Aside0.mk (hbox); have n2_ := Aside0.mk ((hz_ : w.heap.size ≤ gb198)); have n3_ := Aside0.mk ((hz_ : w.heap.size ≤ gb198)); clear HB; have HB := n0_; have BK198 := n1_; have GW198 := n2_; have GE198 := n3_; clear n0_ n1_ n2_ n3_; clear hb hbox hg) | ((with_reducible refine gate_callee (f := 90) rfl ?_); refine goesL_ (some 17) rfl rfl Try.func90 (by kernel_rfl) rfl #[.string a1] rfl lm_ ?_; (with_reducible refine (impl_PartsOf.calls k a1 t199 t200 _ A3.out).mono ?_); rintro e w6 ⟨v201, rfl, ho0, hb⟩; refine ⟨_, rfl, ?_⟩; have n0_ := Aside0.mk (Kd.R_lower ho0 (below_size bl_)); have n1_ := Aside0.mk (blk_below (g := gb198) (o := .cells #[.int .i64 0, .int .i64 0, .slice none 0 0] 24 (0, 0)) (bk_ BK198.out) hb); have n2_ := Aside0.mk (below_step bl_ hb); clear BK198; clear HB; have HO202 := n0_; have BK198 := n1_; have HB := n2_; clear n0_ n1_ n2_; (try clear hb); (try clear hb2); (try clear hk); (try clear hi); (try clear ho0)))
 (try simp only [Act.put, List.setIfInBounds_toArray, List.set_cons_zero, List.set_cons_succ])
 go_cut [27] (fun v27 wc => ∃ (kq : Nat) (x27_3 : Bool), v27 = .bool x27_3 ∧ Aside0 (impl_ReadCallLine.j0 kq a0 t199 x27_3 = some (r1, r2, r3, r4)) ∧ Aside0 (kq ≤ k) ∧ Aside0 (Kd.R Kd.string 9 wc w.heap.size (fun _ => True) v201 t199) ∧ Aside0 (wc.heap[gb198]? = some (.cells #[.int .i64 0, .int .i64 0, (.slice none 0 0)] 24 (0, 0))) ∧ Aside0 (Below w.heap.size w wc))
 case first =>
  have H := HC4.out
  clear HC4
  by_cases c7 : t200 = true
  ·subst c7
   rw [if_pos rfl] at H
   replace H := Option.bind_eq_some_iff.mp H
   obtain ⟨t203, A80, H⟩ := H
   try dsimp only at H
   have A8 := Aside0.mk A80
   clear A80
   have H' := Aside0.mk H
   clear H
   obtain ⟨Ao9, co9, eo9⟩ := Kd.R_slice HO202.out
   subst eo9
   go_wp2_with (first | (go_at_call 91; (with_reducible refine (impl_within.calls (t199.length : Int) 1 4 t203 _ A8.out).mono ?_); rintro e w' ⟨rfl, ⟨nd, rfl⟩⟩))
   go_meet
   case rel => exact ⟨_, (!t203), (by first | rfl | (simp; done) | (simp [*]; done)), H', ⟨by first | omega | exact Nat.le_refl _⟩, ⟨ra_ HO202.out⟩, ⟨bk_ BK198.out⟩, ⟨bl_⟩⟩
  ·replace c7 := Bool.eq_false_iff.mpr c7
   subst c7
   rw [if_neg (show ¬ (false = true) by decide)] at H
   have H' := Aside0.mk H
   clear H
   go_wp2
   go_meet
   case rel => exact ⟨_, (true), (by first | rfl | (simp; done) | (simp [*]; done)), H', ⟨by first | omega | exact Nat.le_refl _⟩, ⟨ra_ HO202.out⟩, ⟨bk_ BK198.out⟩, ⟨bl_⟩⟩
 case rest =>
  clear HC4
  try clear c1
  try clear p2
  try clear c7
  try clear c9
  obtain ⟨kq, x27_3, rfl, HA, HJ3, HO_6, BK198, HB⟩ := hcut
  cases kq with
  | zero => exact absurd HA.out (by simp [impl_ReadCallLine.j0])
  | succ kj3 =>
   have H := HA.out
   clear HA
   simp only [impl_ReadCallLine.j0] at H
   by_cases c10 : x27_3 = true
   ·subst c10
    rw [if_pos rfl] at H
    simp only [Option.some.injEq, Prod.mk.injEq] at H
    obtain ⟨rfl, rfl, rfl, rfl⟩ := H
    have hcz11_0 : wc.cell? ⟨gb198, 0, none⟩ = some (.int .i64 0) := (blk_cell BK198.out 0).trans rfl
    have hcz11_1 : wc.cell? ⟨gb198, 1, none⟩ = some (.int .i64 0) := (blk_cell BK198.out 1).trans rfl
    have hcz11_2 : wc.cell? ⟨gb198, 2, none⟩ = some (.slice none 0 0) := (blk_cell BK198.out 2).trans rfl
    have hfz11_0 := blk_frozen BK198.out 0
    have hfz11_1 := blk_frozen BK198.out 1
    have hfz11_2 := blk_frozen BK198.out 2
    go_wp2
    refine bodyPost_ret (results_ct rfl _ _ gb198 24 #[.int .i64 0, .int .i64 0, .slice none 0 0] (0, 0) _ rfl (by (with_reducible repeat (first | refine blk_drewN ?_ _ | refine blk_drew ?_ | refine blk_alloc ?_ _)); refine blk_put (cs := #[.int .i64 0, .int .i64 0, .slice none 0 0]) ?_ 2 _ rfl; (with_reducible repeat (first | refine blk_drewN ?_ _ | refine blk_drew ?_ | refine blk_alloc ?_ _)); refine blk_put (cs := #[.int .i64 0, .int .i64 0, .slice none 0 0]) ?_ 1 _ rfl; (with_reducible repeat (first | refine blk_drewN ?_ _ | refine blk_drew ?_ | refine blk_alloc ?_ _)); refine blk_put (cs := #[.int .i64 0, .int .i64 0, .slice none 0 0]) ?_ 0 _ rfl; (with_reducible repeat (first | refine blk_drewN ?_ _ | refine blk_drew ?_ | refine blk_alloc ?_ _)); exact BK198.out) Try.underlying24 rfl (by kernel_rfl)) rfl ?_
    exact ⟨_, by first | rfl | (simp [errW_none, errW_some] <;> rfl) | (simp [*, errW_none, errW_some] <;> rfl) | exact False.elim (Bool.noConfusion ((decide_eq_true (of_eq_true (by assumption))).symm.trans (by assumption))), by first | exact Kd.R_nil _ _ _ _ _ | exact Kd.N_nil _ _ _ _ _ | exact Kd.V_nil _ _ _ _ _ | exact Kd.Q_nil _ _ _ _ _ | exact Kd.S_nil _ _ _ _ _, bl_⟩
   ·replace c10 := Bool.eq_false_iff.mpr c10
    subst c10
    rw [if_neg (show ¬ (false = true) by decide)] at H
    by_cases c12 : 0 < (t199.length : Int)
    ·rw [if_pos c12] at H
     have c12b0 : decide (0 < (t199.length : Int)) = true := decide_eq_true c12
     have c12b1 : decide (0 < t199.length) = true := decide_eq_true (by omega)
     clear c12
     replace H := Option.bind_eq_some_iff.mp H
     obtain ⟨t205, A130, H⟩ := H
     try dsimp only at H
     have A13 := Aside0.mk A130
     clear A130
     by_cases c14 : 3 ≤ 17592186044416
     ·rw [if_pos c14] at H
      have c14b0 := eq_true c14
      have c14b1 : decide (3 ≤ 17592186044416) = true := decide_eq_true c14
      clear c14
      obtain ⟨y206, hy206⟩ : ∃ y_ : List (S103), y_ = (List.replicate 3 z103) := ⟨_, rfl⟩
      replace H : (if t205 < 0 then ((impl_half.f kj3 (rdOf ByteArray.empty t199 0)).bind fun bt211 => (if bt211.2 = true then (impl_ReadCallLine.j1 kj3 t199 a0 bt211.1 y206) else (some (0, 0, ([] : List (S103)), false)))) else (impl_ReadCallLine.j1 kj3 t199 a0 t205 y206)) = some (r1, r2, r3, r4) := by first | (rw [hy206]; with_reducible exact H) | (have H2_ := (Option.bind_some _ _).symm.trans H; rw [hy206]; with_reducible exact H2_) | (have H2_ := (Option.bind_some _ _).symm.trans H; with_reducible exact H2_) | with_reducible exact H | (rw [hy206]; exact H) | exact H
      have Ny206 := Aside0.mk hy206
      clear hy206
      have HC15 := Aside0.mk H
      clear H
      try go_wp2
      have n0_ := Aside0.mk (Kd.R_drew HO_6.out)
      have n1_ := Aside0.mk (blk_drew BK198.out)
      have n2_ := Aside0.mk (below_drew1 HB.out)
      clear HO_6
      clear BK198
      clear HB
      have HO_6 := n0_
      have BK198 := n1_
      have HB := n2_
      clear n0_ n1_ n2_
      obtain ⟨Ao17, co17, eo17⟩ := Kd.R_slice HO_6.out
      (first | subst eo17 | (injection eo17 with f1_ f2_ f3_; have f4_ := f1_.symm; have f5_ := f3_.symm; clear f1_ f2_ f3_; subst f4_; subst f5_))
      have p204 : 0 ≤ (0 : Int) := (by omega)
      have q204 : 0 < (t199.length : Int) := of_decide_eq_true as_
      obtain ⟨ad204, e204, hx204_0⟩ := Kd.at_string (Kd.R_reads' HO_6.out).2.2 0 p204 q204
      cases e204
      have qi204 : (0 < t199.length) = True := eq_true (by omega)
      (try rw [show ((0 : Int)).toNat = 0 from rfl] at hx204_0)
      (try rw [Addr.add_zero'] at hx204_0)
      replace p204 := eq_true p204
      replace q204 := eq_true q204
      refine start_ (n := 9) (S := fun w' => w'.cell? ad204 = some (.string (rdOf ByteArray.empty t199 0))) (ds := []) #[false, false, false, false, false, false, false, false, false] (by kernel_rfl) rfl rfl (hx204_0) (fun hHeld => ?_); refine with_tabW impl_ReadCallLine.tab4 impl_ReadCallLine.bits4 (fun HT_ HW_ => ?_)
      generalize wc.drew = w16 at HO_6 BK198 HB hx204_0 hHeld ⊢
      refine pure_ (i := 0) (N := some 29) (v := ?_) (a' := ?_) #[true, false, false, false, false, false, false, false, false] rfl rfl (any_of HT_.out (by kernel_rfl)) (fun _ _ _ h => h) (Or.inl ⟨by rfl, ?_⟩) ?_ ?_
      rotate_left
      ·intro w'
       go_simp
       with_reducible rfl
      rotate_left
      ·simp only [Act.put, List.setIfInBounds_toArray, List.set_cons_zero, List.set_cons_succ, i64_w, i32_w]
       rfl
      refine pure_ (i := 1) (N := some 30) (v := ?_) (a' := ?_) #[true, true, false, false, false, false, false, false, false] rfl rfl (any_of HT_.out (by kernel_rfl)) (fun _ _ _ h => h) (Or.inl ⟨by rfl, ?_⟩) ?_ ?_
      rotate_left
      ·intro w'
       go_simp
       with_reducible rfl
      rotate_left
      ·simp only [Act.put, List.setIfInBounds_toArray, List.set_cons_zero, List.set_cons_succ, i64_w, i32_w]
       rfl
      refine pure_ (i := 2) (N := some 31) (v := ?_) (a' := ?_) #[true, true, true, false, false, false, false, false, false] rfl rfl (any_of HT_.out (by kernel_rfl)) (fun _ _ _ h => h) (Or.inl ⟨by rfl, ?_⟩) ?_ ?_
      rotate_left
      ·intro w'
       go_simp
       with_reducible rfl
      rotate_left
      ·simp only [Act.put, List.setIfInBounds_toArray, List.set_cons_zero, List.set_cons_succ, i64_w, i32_w]
       rfl
      refine take_ (i := 3) (N := some 32) (v := ?_) (a' := ?_) #[true, true, true, true, false, false, false, false, false] rfl rfl (take_ofW HT_.out HW_.out (by kernel_rfl)) (fun _ _ _ h => h) (Or.inl ⟨by rfl, ?_⟩) hHeld ?_ ?_
      rotate_left
      ·intro w' s0
       go_simp
       with_reducible rfl
      rotate_left
      ·simp only [Act.put, List.setIfInBounds_toArray, List.set_cons_zero, List.set_cons_succ, i64_w, i32_w]
       rfl
      refine join_ (σ := Value × Nat) 1 #[true, true, true, true, true, true, true, true, false] (fun s_ => [(33, .int .i64 t205), (34, s_.1), (8, .pointer (some ⟨s_.2, 0, none⟩)), (35, .agg #[.int .i64 a0, .int .i64 t205, s_.1])]) (fun s_ w' => (w'.cell? ad204 = some (.string (rdOf ByteArray.empty t199 0))) ∧ (Kd.R k103 103 w' w.heap.size (fun _ => True) s_.1 y206) ∧ (Kd.R Kd.string 9 w' w.heap.size (fun _ => True) (.slice (some ad204) t199.length co17) t199) ∧ (w'.heap[gb198]? = some (.cells #[.int .i64 0, .int .i64 0, .slice none 0 0] 24 (0, 0))) ∧ (w'.heap[s_.2]? = some (.cells #[.int .i64 0, .int .i64 0, .slice none 0 0] 24 (0, 0))) ∧ (w.heap.size ≤ s_.2) ∧ (w.heap.size ≤ s_.2) ∧ (gb198 ≠ s_.2) ∧ (s_.2 ≠ gb198) ∧ (Below w.heap.size w w')) ?_ ?_
      rotate_left
      ·intro hJ4_5_7
       refine join_ (σ := Value) 2 #[true, true, true, true, true, true, true, false, false] (fun s_ => [(33, .int .i64 t205), (34, s_), (35, .agg #[.int .i64 a0, .int .i64 t205, s_])]) (fun s_ w' => (w'.cell? ad204 = some (.string (rdOf ByteArray.empty t199 0))) ∧ (Kd.R k103 103 w' w.heap.size (fun _ => True) s_ y206) ∧ (Kd.R Kd.string 9 w' w.heap.size (fun _ => True) (.slice (some ad204) t199.length co17) t199) ∧ (w'.heap[gb198]? = some (.cells #[.int .i64 0, .int .i64 0, .slice none 0 0] 24 (0, 0))) ∧ (Below w.heap.size w w')) ?_ ?_
       rotate_left
       ·intro hJ4_5
        refine join_ (σ := Nat) 3 #[true, true, true, true, true, false, false, true, false] (fun s_ => [(33, .int .i64 t205), (8, .pointer (some ⟨s_, 0, none⟩))]) (fun s_ w' => (w'.cell? ad204 = some (.string (rdOf ByteArray.empty t199 0))) ∧ (Kd.R Kd.string 9 w' w.heap.size (fun _ => True) (.slice (some ad204) t199.length co17) t199) ∧ (w'.heap[gb198]? = some (.cells #[.int .i64 0, .int .i64 0, .slice none 0 0] 24 (0, 0))) ∧ (w'.heap[s_]? = some (.cells #[.int .i64 0, .int .i64 0, .slice none 0 0] 24 (0, 0))) ∧ (w.heap.size ≤ s_) ∧ (w.heap.size ≤ s_) ∧ (gb198 ≠ s_) ∧ (s_ ≠ gb198) ∧ (Below w.heap.size w w')) ?_ ?_
        rotate_left
        ·intro hJ4_7
         refine join_ (σ := Value × Nat) 3 #[true, true, true, true, false, true, false, true, false] (fun s_ => [(34, s_.1), (8, .pointer (some ⟨s_.2, 0, none⟩))]) (fun s_ w' => (w'.cell? ad204 = some (.string (rdOf ByteArray.empty t199 0))) ∧ (Kd.R k103 103 w' w.heap.size (fun _ => True) s_.1 y206) ∧ (Kd.R Kd.string 9 w' w.heap.size (fun _ => True) (.slice (some ad204) t199.length co17) t199) ∧ (w'.heap[gb198]? = some (.cells #[.int .i64 0, .int .i64 0, .slice none 0 0] 24 (0, 0))) ∧ (w'.heap[s_.2]? = some (.cells #[.int .i64 0, .int .i64 0, .slice none 0 0] 24 (0, 0))) ∧ (w.heap.size ≤ s_.2) ∧ (w.heap.size ≤ s_.2) ∧ (gb198 ≠ s_.2) ∧ (s_.2 ≠ gb198) ∧ (Below w.heap.size w w')) ?_ ?_
         rotate_left
         ·intro hJ5_7
          refine join_ (σ := Unit) 4 #[true, true, true, true, true, false, false, false, false] (fun s_ => [(33, .int .i64 t205)]) (fun s_ w' => (w'.cell? ad204 = some (.string (rdOf ByteArray.empty t199 0))) ∧ (Kd.R Kd.string 9 w' w.heap.size (fun _ => True) (.slice (some ad204) t199.length co17) t199) ∧ (w'.heap[gb198]? = some (.cells #[.int .i64 0, .int .i64 0, .slice none 0 0] 24 (0, 0))) ∧ (Below w.heap.size w w')) ?_ ?_
          rotate_left
          ·intro hJ4
           refine join_ (σ := Value) 4 #[true, true, true, true, false, true, false, false, false] (fun s_ => [(34, s_)]) (fun s_ w' => (w'.cell? ad204 = some (.string (rdOf ByteArray.empty t199 0))) ∧ (Kd.R k103 103 w' w.heap.size (fun _ => True) s_ y206) ∧ (Kd.R Kd.string 9 w' w.heap.size (fun _ => True) (.slice (some ad204) t199.length co17) t199) ∧ (w'.heap[gb198]? = some (.cells #[.int .i64 0, .int .i64 0, .slice none 0 0] 24 (0, 0))) ∧ (Below w.heap.size w w')) ?_ ?_
           rotate_left
           ·intro hJ5
            refine join_ (σ := Nat) 4 #[true, true, true, true, false, false, false, true, false] (fun s_ => [(8, .pointer (some ⟨s_, 0, none⟩))]) (fun s_ w' => (w'.cell? ad204 = some (.string (rdOf ByteArray.empty t199 0))) ∧ (Kd.R Kd.string 9 w' w.heap.size (fun _ => True) (.slice (some ad204) t199.length co17) t199) ∧ (w'.heap[gb198]? = some (.cells #[.int .i64 0, .int .i64 0, .slice none 0 0] 24 (0, 0))) ∧ (w'.heap[s_]? = some (.cells #[.int .i64 0, .int .i64 0, .slice none 0 0] 24 (0, 0))) ∧ (w.heap.size ≤ s_) ∧ (w.heap.size ≤ s_) ∧ (gb198 ≠ s_) ∧ (s_ ≠ gb198) ∧ (Below w.heap.size w w')) ?_ ?_
            rotate_left
            ·intro hJ7
             refine three_ (i := 4) (j := 5) (k := 7) (Ni := some 33) (Nj := some 34) (Nk := some 8) #[true, true, true, true, true, false, false, false, false] #[true, true, true, true, false, true, false, false, false] #[true, true, true, true, false, false, false, true, false] rfl rfl rfl rfl rfl rfl (three_of HT_.out (by kernel_rfl)) (by decide) (by decide) (by decide) (fun K hK => ?_) (fun K hK => ?_) (fun K hK => ?_)
             ·skip
              refine goes_ Try.func92 (by kernel_rfl) rfl #[.string (rdOf ByteArray.empty t199 0)] (by rfl) rfl rfl lm_ ?_
              with_reducible refine (impl_CallNumber.calls kj3 (rdOf ByteArray.empty t199 0) t205 _ A13.out).mono ?_
              rintro e w18 ⟨rfl, hb⟩
              have HS0_ := (hb.cell (World.block_lt_of_cell? _ _ (hHeld))).trans (hHeld)
              refine ⟨_, rfl, ?_⟩
              have n0_ := Aside0.mk (Kd.R_below (ra_ HO_6.out) hb)
              have n1_ := Aside0.mk (blk_below (g := gb198) (o := .cells #[.int .i64 0, .int .i64 0, .slice none 0 0] 24 (0, 0)) (bk_ BK198.out) hb)
              have n2_ := Aside0.mk (below_step bl_ hb)
              clear HO_6
              clear BK198
              clear HB
              have HO_6 := n0_
              have BK198 := n1_
              have HB := n2_
              clear n0_ n1_ n2_
              (try clear hb)
              (try clear hb2)
              (try clear hk)
              (try clear hi)
              refine hK.out _ _ (HS0_) (fun hHeld => ?_)
              clear hK K
              refine norm_ (a' := ?_) ?_ ?_
              rotate_left
              ·show Act.put _ (some 33) _ = _
               simp only [Act.put, List.setIfInBounds_toArray, List.set_cons_zero, List.set_cons_succ, i64_w, i32_w]
               rfl
              exact norm_ (by first | (simp only [putAll, Act.put, List.setIfInBounds_toArray, List.set_cons_zero, List.set_cons_succ]; done) | (simp only [putAll, Act.put, List.setIfInBounds_toArray, List.set_cons_zero, List.set_cons_succ]; rfl)) (hJ4 () _ ⟨hHeld, (ra_ HO_6.out), (bk_ BK198.out), bl_⟩)
             ·skip
              refine Kd.R_make_step k103 _ 103 (by rfl) (N := 34) rfl 22 _ _ rfl 3 rfl rfl Try.underlying22 (.agg #[(.int .i64 0), (.int .i64 0)]) 16 info103 rfl (by decide) (by omega) z103 (ok := fun _ => True) (okp := fun _ => True) (k103_mkM _ _ _ z103 ) (fun _ hk => hk) trivial (by omega) (by omega) (Below.refl _ _) (Nat.le_refl _) ?_
              intro v207 w18 ho19 hb hg_ hnew_
              have HS0_ := (hb.cell (World.block_lt_of_cell? _ _ (hHeld))).trans (hHeld)
              clear hg_ hnew_
              (first | rw [← Ny206.out] at ho19 | (simp only [Int.reduceToNat] at ho19; rw [← Ny206.out] at ho19))
              have n0_ := Aside0.mk (Kd.R_below (ra_ HO_6.out) hb)
              have n1_ := Aside0.mk (Kd.R_lower ho19 (below_size bl_))
              have n2_ := Aside0.mk (blk_below (g := gb198) (o := .cells #[.int .i64 0, .int .i64 0, .slice none 0 0] 24 (0, 0)) (bk_ BK198.out) hb)
              have n3_ := Aside0.mk (below_step bl_ hb)
              clear HO_6
              clear BK198
              clear HB
              have HO_6 := n0_
              have HO208 := n1_
              have BK198 := n2_
              have HB := n3_
              clear n0_ n1_ n2_ n3_
              clear hb ho19
              refine hK.out _ _ (HS0_) (fun hHeld => ?_)
              clear hK K
              refine norm_ (a' := ?_) ?_ ?_
              rotate_left
              ·show Act.put _ (some 34) _ = _
               simp only [Act.put, List.setIfInBounds_toArray, List.set_cons_zero, List.set_cons_succ, i64_w, i32_w]
               rfl
              exact norm_ (by first | (simp only [putAll, Act.put, List.setIfInBounds_toArray, List.set_cons_zero, List.set_cons_succ]; done) | (simp only [putAll, Act.put, List.setIfInBounds_toArray, List.set_cons_zero, List.set_cons_succ]; rfl)) (hJ5 (v207) _ ⟨hHeld, (ra_ HO208.out), (ra_ HO_6.out), (bk_ BK198.out), bl_⟩)
             ·skip
              refine box_step ?hg (N := 8) ?hd (cs := #[.int .i64 0, .int .i64 0, .slice none 0 0]) (t := 24) ?hr ?_; (case hd => rfl); (case hg => rfl); (case hr => first | (go_simp; done) | (go_simp; rfl))
              intro gb209 hg w18 hbox hb
              have HS0_ := (hb.cell (World.block_lt_of_cell? _ _ (hHeld))).trans (hHeld)
              have n0_ := Aside0.mk (Kd.R_below (ra_ HO_6.out) hb)
              have n1_ := Aside0.mk (blk_below (g := gb198) (o := .cells #[.int .i64 0, .int .i64 0, .slice none 0 0] 24 (0, 0)) (bk_ BK198.out) hb)
              have n2_ := Aside0.mk (below_step bl_ hb)
              have n3_ := Aside0.mk (hbox)
              have n4_ := Aside0.mk ((hz_ : w.heap.size ≤ gb209))
              have n5_ := Aside0.mk ((hz_ : w.heap.size ≤ gb209))
              have n6_ := Aside0.mk ((by rw [hg]; exact Nat.ne_of_lt (blk_lt (g := gb198) (o := .cells #[.int .i64 0, .int .i64 0, .slice none 0 0] 24 (0, 0)) (bk_ BK198.out)) : gb198 ≠ gb209))
              have n7_ := Aside0.mk ((by rw [hg]; exact Nat.ne_of_gt (blk_lt (g := gb198) (o := .cells #[.int .i64 0, .int .i64 0, .slice none 0 0] 24 (0, 0)) (bk_ BK198.out)) : gb209 ≠ gb198))
              clear HO_6
              clear BK198
              clear HB
              have HO_6 := n0_
              have BK198 := n1_
              have HB := n2_
              have BK209 := n3_
              have GW209 := n4_
              have GE209 := n5_
              have NB198_209 := n6_
              have NB209_198 := n7_
              clear n0_ n1_ n2_ n3_ n4_ n5_ n6_ n7_
              clear hb hbox hg
              refine hK.out _ _ (HS0_) (fun hHeld => ?_)
              clear hK K
              refine norm_ (a' := ?_) ?_ ?_
              rotate_left
              ·show Act.put _ (some 8) _ = _
               simp only [Act.put, List.setIfInBounds_toArray, List.set_cons_zero, List.set_cons_succ, i64_w, i32_w]
               rfl
              exact norm_ (by first | (simp only [putAll, Act.put, List.setIfInBounds_toArray, List.set_cons_zero, List.set_cons_succ]; done) | (simp only [putAll, Act.put, List.setIfInBounds_toArray, List.set_cons_zero, List.set_cons_succ]; rfl)) (hJ7 (gb209) _ ⟨hHeld, (ra_ HO_6.out), (bk_ BK198.out), (bk_ BK209.out), GW209.out, GE209.out, NB198_209.out, NB209_198.out, bl_⟩)
            ·skip
             rintro gb209 w19 ⟨hS_, h0_, h1_, h2_, h3_, h4_, h5_, h6_, h7_⟩
             have n0_ : Aside0 (Kd.R Kd.string 9 w19 w.heap.size (fun _ => True) (.slice (some ad204) t199.length co17) t199) := ⟨h0_⟩
             have n1_ : Aside0 (w19.heap[gb198]? = some (.cells #[.int .i64 0, .int .i64 0, .slice none 0 0] 24 (0, 0))) := ⟨h1_⟩
             have n2_ : Aside0 (w19.heap[gb209]? = some (.cells #[.int .i64 0, .int .i64 0, .slice none 0 0] 24 (0, 0))) := ⟨h2_⟩
             have n3_ : Aside0 (w.heap.size ≤ gb209) := ⟨h3_⟩
             have n4_ : Aside0 (w.heap.size ≤ gb209) := ⟨h4_⟩
             have n5_ : Aside0 (gb198 ≠ gb209) := ⟨h5_⟩
             have n6_ : Aside0 (gb209 ≠ gb198) := ⟨h6_⟩
             have n7_ : Aside0 (Below w.heap.size w w19) := ⟨h7_⟩
             clear HO_6
             clear BK198
             clear HB
             clear h0_ h1_ h2_ h3_ h4_ h5_ h6_ h7_
             have HO_6 := n0_
             have BK198 := n1_
             have BK209 := n2_
             have GW209 := n3_
             have GE209 := n4_
             have NB198_209 := n5_
             have NB209_198 := n6_
             have HB := n7_
             clear n0_ n1_ n2_ n3_ n4_ n5_ n6_ n7_
             have hHeld : w19.cell? ad204 = some (.string (rdOf ByteArray.empty t199 0)) := hS_
             refine norm_ (a' := ?_) ?_ ?_
             rotate_left
             ·simp only [putAll, Act.put, List.setIfInBounds_toArray, List.set_cons_zero, List.set_cons_succ]
              rfl
             refine two_ (i := 4) (j := 5) (Ni := some 33) (Nj := some 34) #[true, true, true, true, true, false, false, true, false] #[true, true, true, true, false, true, false, true, false] rfl rfl rfl rfl (two_of HT_.out (by kernel_rfl)) (by decide) (by decide) (fun K hK => ?_) (fun K hK => ?_)
             ·skip
              refine goes_ Try.func92 (by kernel_rfl) rfl #[.string (rdOf ByteArray.empty t199 0)] (by rfl) rfl rfl lm_ ?_
              with_reducible refine (impl_CallNumber.calls kj3 (rdOf ByteArray.empty t199 0) t205 _ A13.out).mono ?_
              rintro e w20 ⟨rfl, hb⟩
              have HS0_ := (hb.cell (World.block_lt_of_cell? _ _ (hHeld))).trans (hHeld)
              refine ⟨_, rfl, ?_⟩
              have n0_ := Aside0.mk (Kd.R_below (ra_ HO_6.out) hb)
              have n1_ := Aside0.mk (blk_below (g := gb198) (o := .cells #[.int .i64 0, .int .i64 0, .slice none 0 0] 24 (0, 0)) (bk_ BK198.out) hb)
              have n2_ := Aside0.mk (blk_below (g := gb209) (o := .cells #[.int .i64 0, .int .i64 0, .slice none 0 0] 24 (0, 0)) (bk_ BK209.out) hb)
              have n3_ := Aside0.mk (below_step bl_ hb)
              clear HO_6
              clear BK198
              clear BK209
              clear HB
              have HO_6 := n0_
              have BK198 := n1_
              have BK209 := n2_
              have HB := n3_
              clear n0_ n1_ n2_ n3_
              (try clear hb)
              (try clear hb2)
              (try clear hk)
              (try clear hi)
              refine hK.out _ _ (HS0_) (fun hHeld => ?_)
              clear hK K
              refine norm_ (a' := ?_) ?_ ?_
              rotate_left
              ·show Act.put _ (some 33) _ = _
               simp only [Act.put, List.setIfInBounds_toArray, List.set_cons_zero, List.set_cons_succ, i64_w, i32_w]
               rfl
              exact norm_ (by first | (simp only [putAll, Act.put, List.setIfInBounds_toArray, List.set_cons_zero, List.set_cons_succ]; done) | (simp only [putAll, Act.put, List.setIfInBounds_toArray, List.set_cons_zero, List.set_cons_succ]; rfl)) (hJ4_7 (gb209) _ ⟨hHeld, (ra_ HO_6.out), (bk_ BK198.out), (bk_ BK209.out), GW209.out, GE209.out, NB198_209.out, NB209_198.out, bl_⟩)
             ·skip
              refine Kd.R_make_step k103 _ 103 (by rfl) (N := 34) rfl 22 _ _ rfl 3 rfl rfl Try.underlying22 (.agg #[(.int .i64 0), (.int .i64 0)]) 16 info103 rfl (by decide) (by omega) z103 (ok := fun _ => True) (okp := fun _ => True) (k103_mkM _ _ _ z103 ) (fun _ hk => hk) trivial (by omega) (by omega) (Below.refl _ _) (Nat.le_refl _) ?_
              intro v207 w20 ho21 hb hg_ hnew_
              have HS0_ := (hb.cell (World.block_lt_of_cell? _ _ (hHeld))).trans (hHeld)
              clear hg_ hnew_
              (first | rw [← Ny206.out] at ho21 | (simp only [Int.reduceToNat] at ho21; rw [← Ny206.out] at ho21))
              have n0_ := Aside0.mk (Kd.R_below (ra_ HO_6.out) hb)
              have n1_ := Aside0.mk (Kd.R_lower ho21 (below_size bl_))
              have n2_ := Aside0.mk (blk_below (g := gb198) (o := .cells #[.int .i64 0, .int .i64 0, .slice none 0 0] 24 (0, 0)) (bk_ BK198.out) hb)
              have n3_ := Aside0.mk (blk_below (g := gb209) (o := .cells #[.int .i64 0, .int .i64 0, .slice none 0 0] 24 (0, 0)) (bk_ BK209.out) hb)
              have n4_ := Aside0.mk (below_step bl_ hb)
              clear HO_6
              clear BK198
              clear BK209
              clear HB
              have HO_6 := n0_
              have HO208 := n1_
              have BK198 := n2_
              have BK209 := n3_
              have HB := n4_
              clear n0_ n1_ n2_ n3_ n4_
              clear hb ho21
              refine hK.out _ _ (HS0_) (fun hHeld => ?_)
              clear hK K
              refine norm_ (a' := ?_) ?_ ?_
              rotate_left
              ·show Act.put _ (some 34) _ = _
               simp only [Act.put, List.setIfInBounds_toArray, List.set_cons_zero, List.set_cons_succ, i64_w, i32_w]
               rfl
              exact norm_ (by first | (simp only [putAll, Act.put, List.setIfInBounds_toArray, List.set_cons_zero, List.set_cons_succ]; done) | (simp only [putAll, Act.put, List.setIfInBounds_toArray, List.set_cons_zero, List.set_cons_succ]; rfl)) (hJ5_7 (v207, gb209) _ ⟨hHeld, (ra_ HO208.out), (ra_ HO_6.out), (bk_ BK198.out), (bk_ BK209.out), GW209.out, GE209.out, NB198_209.out, NB209_198.out, bl_⟩)
           ·skip
            rintro v207 w20 ⟨hS_, h0_, h1_, h2_, h3_⟩
            have n0_ : Aside0 (Kd.R k103 103 w20 w.heap.size (fun _ => True) v207 y206) := ⟨h0_⟩
            have n1_ : Aside0 (Kd.R Kd.string 9 w20 w.heap.size (fun _ => True) (.slice (some ad204) t199.length co17) t199) := ⟨h1_⟩
            have n2_ : Aside0 (w20.heap[gb198]? = some (.cells #[.int .i64 0, .int .i64 0, .slice none 0 0] 24 (0, 0))) := ⟨h2_⟩
            have n3_ : Aside0 (Below w.heap.size w w20) := ⟨h3_⟩
            clear HO_6
            clear BK198
            clear HB
            clear h0_ h1_ h2_ h3_
            have HO208 := n0_
            have HO_6 := n1_
            have BK198 := n2_
            have HB := n3_
            clear n0_ n1_ n2_ n3_
            have hHeld : w20.cell? ad204 = some (.string (rdOf ByteArray.empty t199 0)) := hS_
            refine norm_ (a' := ?_) ?_ ?_
            rotate_left
            ·simp only [putAll, Act.put, List.setIfInBounds_toArray, List.set_cons_zero, List.set_cons_succ]
             rfl
            refine two_ (i := 4) (j := 7) (Ni := some 33) (Nj := some 8) #[true, true, true, true, true, true, false, false, false] #[true, true, true, true, false, true, false, true, false] rfl rfl rfl rfl (two_of HT_.out (by kernel_rfl)) (by decide) (by decide) (fun K hK => ?_) (fun K hK => ?_)
            ·skip
             refine goes_ Try.func92 (by kernel_rfl) rfl #[.string (rdOf ByteArray.empty t199 0)] (by rfl) rfl rfl lm_ ?_
             with_reducible refine (impl_CallNumber.calls kj3 (rdOf ByteArray.empty t199 0) t205 _ A13.out).mono ?_
             rintro e w21 ⟨rfl, hb⟩
             have HS0_ := (hb.cell (World.block_lt_of_cell? _ _ (hHeld))).trans (hHeld)
             refine ⟨_, rfl, ?_⟩
             have n0_ := Aside0.mk (Kd.R_below (ra_ HO_6.out) hb)
             have n1_ := Aside0.mk (Kd.R_below (ra_ HO208.out) hb)
             have n2_ := Aside0.mk (blk_below (g := gb198) (o := .cells #[.int .i64 0, .int .i64 0, .slice none 0 0] 24 (0, 0)) (bk_ BK198.out) hb)
             have n3_ := Aside0.mk (below_step bl_ hb)
             clear HO_6
             clear HO208
             clear BK198
             clear HB
             have HO_6 := n0_
             have HO208 := n1_
             have BK198 := n2_
             have HB := n3_
             clear n0_ n1_ n2_ n3_
             (try clear hb)
             (try clear hb2)
             (try clear hk)
             (try clear hi)
             obtain ⟨Ao22, co22, eo22⟩ := Kd.R_slice HO208.out
             (first | subst eo22 | (injection eo22 with f1_ f2_ f3_; have f4_ := f1_.symm; have f5_ := f3_.symm; clear f1_ f2_ f3_; subst f4_; subst f5_))
             refine hK.out _ _ (HS0_) (fun hHeld => ?_)
             clear hK K
             refine norm_ (a' := ?_) ?_ ?_
             rotate_left
             ·show Act.put _ (some 33) _ = _
              simp only [Act.put, List.setIfInBounds_toArray, List.set_cons_zero, List.set_cons_succ, i64_w, i32_w]
              rfl
             refine pure_ (i := 6) (N := some 35) (v := ?_) (a' := ?_) #[true, true, true, true, true, true, true, false, false] rfl rfl (any_of HT_.out (by kernel_rfl)) (fun _ _ _ h => h) (Or.inl ⟨by rfl, ?_⟩) ?_ ?_
             rotate_left
             ·intro w'
              go_simp
              with_reducible rfl
             rotate_left
             ·simp only [Act.put, List.setIfInBounds_toArray, List.set_cons_zero, List.set_cons_succ, i64_w, i32_w]
              rfl
             exact norm_ (by first | (simp only [putAll, Act.put, List.setIfInBounds_toArray, List.set_cons_zero, List.set_cons_succ]; done) | (simp only [putAll, Act.put, List.setIfInBounds_toArray, List.set_cons_zero, List.set_cons_succ]; rfl)) (hJ4_5 (.slice Ao22 y206.length co22) _ ⟨hHeld, (ra_ HO208.out), (ra_ HO_6.out), (bk_ BK198.out), bl_⟩)
            ·skip
             refine box_step ?hg (N := 8) ?hd (cs := #[.int .i64 0, .int .i64 0, .slice none 0 0]) (t := 24) ?hr ?_; (case hd => rfl); (case hg => rfl); (case hr => first | (go_simp; done) | (go_simp; rfl))
             intro gb209 hg w21 hbox hb
             have HS0_ := (hb.cell (World.block_lt_of_cell? _ _ (hHeld))).trans (hHeld)
             have n0_ := Aside0.mk (Kd.R_below (ra_ HO_6.out) hb)
             have n1_ := Aside0.mk (Kd.R_below (ra_ HO208.out) hb)
             have n2_ := Aside0.mk (blk_below (g := gb198) (o := .cells #[.int .i64 0, .int .i64 0, .slice none 0 0] 24 (0, 0)) (bk_ BK198.out) hb)
             have n3_ := Aside0.mk (below_step bl_ hb)
             have n4_ := Aside0.mk (hbox)
             have n5_ := Aside0.mk ((hz_ : w.heap.size ≤ gb209))
             have n6_ := Aside0.mk ((hz_ : w.heap.size ≤ gb209))
             have n7_ := Aside0.mk ((by rw [hg]; exact Nat.ne_of_lt (blk_lt (g := gb198) (o := .cells #[.int .i64 0, .int .i64 0, .slice none 0 0] 24 (0, 0)) (bk_ BK198.out)) : gb198 ≠ gb209))
             have n8_ := Aside0.mk ((by rw [hg]; exact Nat.ne_of_gt (blk_lt (g := gb198) (o := .cells #[.int .i64 0, .int .i64 0, .slice none 0 0] 24 (0, 0)) (bk_ BK198.out)) : gb209 ≠ gb198))
             clear HO_6
             clear HO208
             clear BK198
             clear HB
             have HO_6 := n0_
             have HO208 := n1_
             have BK198 := n2_
             have HB := n3_
             have BK209 := n4_
             have GW209 := n5_
             have GE209 := n6_
             have NB198_209 := n7_
             have NB209_198 := n8_
             clear n0_ n1_ n2_ n3_ n4_ n5_ n6_ n7_ n8_
             clear hb hbox hg
             refine hK.out _ _ (HS0_) (fun hHeld => ?_)
             clear hK K
             refine norm_ (a' := ?_) ?_ ?_
             rotate_left
             ·show Act.put _ (some 8) _ = _
              simp only [Act.put, List.setIfInBounds_toArray, List.set_cons_zero, List.set_cons_succ, i64_w, i32_w]
              rfl
             exact norm_ (by first | (simp only [putAll, Act.put, List.setIfInBounds_toArray, List.set_cons_zero, List.set_cons_succ]; done) | (simp only [putAll, Act.put, List.setIfInBounds_toArray, List.set_cons_zero, List.set_cons_succ]; rfl)) (hJ5_7 (v207, gb209) _ ⟨hHeld, (ra_ HO208.out), (ra_ HO_6.out), (bk_ BK198.out), (bk_ BK209.out), GW209.out, GE209.out, NB198_209.out, NB209_198.out, bl_⟩)
          ·skip
           rintro _ w19 ⟨hS_, h0_, h1_, h2_⟩
           have n0_ : Aside0 (Kd.R Kd.string 9 w19 w.heap.size (fun _ => True) (.slice (some ad204) t199.length co17) t199) := ⟨h0_⟩
           have n1_ : Aside0 (w19.heap[gb198]? = some (.cells #[.int .i64 0, .int .i64 0, .slice none 0 0] 24 (0, 0))) := ⟨h1_⟩
           have n2_ : Aside0 (Below w.heap.size w w19) := ⟨h2_⟩
           clear HO_6
           clear BK198
           clear HB
           clear h0_ h1_ h2_
           have HO_6 := n0_
           have BK198 := n1_
           have HB := n2_
           clear n0_ n1_ n2_
           have hHeld : w19.cell? ad204 = some (.string (rdOf ByteArray.empty t199 0)) := hS_
           refine norm_ (a' := ?_) ?_ ?_
           rotate_left
           ·simp only [putAll, Act.put, List.setIfInBounds_toArray, List.set_cons_zero, List.set_cons_succ]
            rfl
           refine two_ (i := 5) (j := 7) (Ni := some 34) (Nj := some 8) #[true, true, true, true, true, true, false, false, false] #[true, true, true, true, true, false, false, true, false] rfl rfl rfl rfl (two_of HT_.out (by kernel_rfl)) (by decide) (by decide) (fun K hK => ?_) (fun K hK => ?_)
           ·skip
            refine Kd.R_make_step k103 _ 103 (by rfl) (N := 34) rfl 22 _ _ rfl 3 rfl rfl Try.underlying22 (.agg #[(.int .i64 0), (.int .i64 0)]) 16 info103 rfl (by decide) (by omega) z103 (ok := fun _ => True) (okp := fun _ => True) (k103_mkM _ _ _ z103 ) (fun _ hk => hk) trivial (by omega) (by omega) (Below.refl _ _) (Nat.le_refl _) ?_
            intro v207 w20 ho21 hb hg_ hnew_
            have HS0_ := (hb.cell (World.block_lt_of_cell? _ _ (hHeld))).trans (hHeld)
            clear hg_ hnew_
            (first | rw [← Ny206.out] at ho21 | (simp only [Int.reduceToNat] at ho21; rw [← Ny206.out] at ho21))
            have n0_ := Aside0.mk (Kd.R_below (ra_ HO_6.out) hb)
            have n1_ := Aside0.mk (Kd.R_lower ho21 (below_size bl_))
            have n2_ := Aside0.mk (blk_below (g := gb198) (o := .cells #[.int .i64 0, .int .i64 0, .slice none 0 0] 24 (0, 0)) (bk_ BK198.out) hb)
            have n3_ := Aside0.mk (below_step bl_ hb)
            clear HO_6
            clear BK198
            clear HB
            have HO_6 := n0_
            have HO208 := n1_
            have BK198 := n2_
            have HB := n3_
            clear n0_ n1_ n2_ n3_
            clear hb ho21
            obtain ⟨Ao22, co22, eo22⟩ := Kd.R_slice HO208.out
            (first | subst eo22 | (injection eo22 with f1_ f2_ f3_; have f4_ := f1_.symm; have f5_ := f3_.symm; clear f1_ f2_ f3_; subst f4_; subst f5_))
            refine hK.out _ _ (HS0_) (fun hHeld => ?_)
            clear hK K
            refine norm_ (a' := ?_) ?_ ?_
            rotate_left
            ·show Act.put _ (some 34) _ = _
             simp only [Act.put, List.setIfInBounds_toArray, List.set_cons_zero, List.set_cons_succ, i64_w, i32_w]
             rfl
            refine pure_ (i := 6) (N := some 35) (v := ?_) (a' := ?_) #[true, true, true, true, true, true, true, false, false] rfl rfl (any_of HT_.out (by kernel_rfl)) (fun _ _ _ h => h) (Or.inl ⟨by rfl, ?_⟩) ?_ ?_
            rotate_left
            ·intro w'
             go_simp
             with_reducible rfl
            rotate_left
            ·simp only [Act.put, List.setIfInBounds_toArray, List.set_cons_zero, List.set_cons_succ, i64_w, i32_w]
             rfl
            exact norm_ (by first | (simp only [putAll, Act.put, List.setIfInBounds_toArray, List.set_cons_zero, List.set_cons_succ]; done) | (simp only [putAll, Act.put, List.setIfInBounds_toArray, List.set_cons_zero, List.set_cons_succ]; rfl)) (hJ4_5 (.slice Ao22 y206.length co22) _ ⟨hHeld, (ra_ HO208.out), (ra_ HO_6.out), (bk_ BK198.out), bl_⟩)
           ·skip
            refine box_step ?hg (N := 8) ?hd (cs := #[.int .i64 0, .int .i64 0, .slice none 0 0]) (t := 24) ?hr ?_; (case hd => rfl); (case hg => rfl); (case hr => first | (go_simp; done) | (go_simp; rfl))
            intro gb209 hg w20 hbox hb
            have HS0_ := (hb.cell (World.block_lt_of_cell? _ _ (hHeld))).trans (hHeld)
            have n0_ := Aside0.mk (Kd.R_below (ra_ HO_6.out) hb)
            have n1_ := Aside0.mk (blk_below (g := gb198) (o := .cells #[.int .i64 0, .int .i64 0, .slice none 0 0] 24 (0, 0)) (bk_ BK198.out) hb)
            have n2_ := Aside0.mk (below_step bl_ hb)
            have n3_ := Aside0.mk (hbox)
            have n4_ := Aside0.mk ((hz_ : w.heap.size ≤ gb209))
            have n5_ := Aside0.mk ((hz_ : w.heap.size ≤ gb209))
            have n6_ := Aside0.mk ((by rw [hg]; exact Nat.ne_of_lt (blk_lt (g := gb198) (o := .cells #[.int .i64 0, .int .i64 0, .slice none 0 0] 24 (0, 0)) (bk_ BK198.out)) : gb198 ≠ gb209))
            have n7_ := Aside0.mk ((by rw [hg]; exact Nat.ne_of_gt (blk_lt (g := gb198) (o := .cells #[.int .i64 0, .int .i64 0, .slice none 0 0] 24 (0, 0)) (bk_ BK198.out)) : gb209 ≠ gb198))
            clear HO_6
            clear BK198
            clear HB
            have HO_6 := n0_
            have BK198 := n1_
            have HB := n2_
            have BK209 := n3_
            have GW209 := n4_
            have GE209 := n5_
            have NB198_209 := n6_
            have NB209_198 := n7_
            clear n0_ n1_ n2_ n3_ n4_ n5_ n6_ n7_
            clear hb hbox hg
            refine hK.out _ _ (HS0_) (fun hHeld => ?_)
            clear hK K
            refine norm_ (a' := ?_) ?_ ?_
            rotate_left
            ·show Act.put _ (some 8) _ = _
             simp only [Act.put, List.setIfInBounds_toArray, List.set_cons_zero, List.set_cons_succ, i64_w, i32_w]
             rfl
            exact norm_ (by first | (simp only [putAll, Act.put, List.setIfInBounds_toArray, List.set_cons_zero, List.set_cons_succ]; done) | (simp only [putAll, Act.put, List.setIfInBounds_toArray, List.set_cons_zero, List.set_cons_succ]; rfl)) (hJ4_7 (gb209) _ ⟨hHeld, (ra_ HO_6.out), (bk_ BK198.out), (bk_ BK209.out), GW209.out, GE209.out, NB198_209.out, NB209_198.out, bl_⟩)
         ·skip
          rintro ⟨v207, gb209⟩ w21 ⟨hS_, h0_, h1_, h2_, h3_, h4_, h5_, h6_, h7_, h8_⟩
          have n0_ : Aside0 (Kd.R k103 103 w21 w.heap.size (fun _ => True) v207 y206) := ⟨h0_⟩
          have n1_ : Aside0 (Kd.R Kd.string 9 w21 w.heap.size (fun _ => True) (.slice (some ad204) t199.length co17) t199) := ⟨h1_⟩
          have n2_ : Aside0 (w21.heap[gb198]? = some (.cells #[.int .i64 0, .int .i64 0, .slice none 0 0] 24 (0, 0))) := ⟨h2_⟩
          have n3_ : Aside0 (w21.heap[gb209]? = some (.cells #[.int .i64 0, .int .i64 0, .slice none 0 0] 24 (0, 0))) := ⟨h3_⟩
          have n4_ : Aside0 (w.heap.size ≤ gb209) := ⟨h4_⟩
          have n5_ : Aside0 (w.heap.size ≤ gb209) := ⟨h5_⟩
          have n6_ : Aside0 (gb198 ≠ gb209) := ⟨h6_⟩
          have n7_ : Aside0 (gb209 ≠ gb198) := ⟨h7_⟩
          have n8_ : Aside0 (Below w.heap.size w w21) := ⟨h8_⟩
          clear HO_6
          clear BK198
          clear HB
          clear h0_ h1_ h2_ h3_ h4_ h5_ h6_ h7_ h8_
          have HO208 := n0_
          have HO_6 := n1_
          have BK198 := n2_
          have BK209 := n3_
          have GW209 := n4_
          have GE209 := n5_
          have NB198_209 := n6_
          have NB209_198 := n7_
          have HB := n8_
          clear n0_ n1_ n2_ n3_ n4_ n5_ n6_ n7_ n8_
          have hHeld : w21.cell? ad204 = some (.string (rdOf ByteArray.empty t199 0)) := hS_
          refine norm_ (a' := ?_) ?_ ?_
          rotate_left
          ·simp only [putAll, Act.put, List.setIfInBounds_toArray, List.set_cons_zero, List.set_cons_succ]
           rfl
          refine one_ (i := 4) (N := some 33) #[true, true, true, true, true, true, false, true, false] rfl rfl (one_of HT_.out (by kernel_rfl)) (by decide) (fun K hK => ?_)
          refine goes_ Try.func92 (by kernel_rfl) rfl #[.string (rdOf ByteArray.empty t199 0)] (by rfl) rfl rfl lm_ ?_
          with_reducible refine (impl_CallNumber.calls kj3 (rdOf ByteArray.empty t199 0) t205 _ A13.out).mono ?_
          rintro e w22 ⟨rfl, hb⟩
          have HS0_ := (hb.cell (World.block_lt_of_cell? _ _ (hHeld))).trans (hHeld)
          refine ⟨_, rfl, ?_⟩
          have n0_ := Aside0.mk (Kd.R_below (ra_ HO_6.out) hb)
          have n1_ := Aside0.mk (Kd.R_below (ra_ HO208.out) hb)
          have n2_ := Aside0.mk (blk_below (g := gb198) (o := .cells #[.int .i64 0, .int .i64 0, .slice none 0 0] 24 (0, 0)) (bk_ BK198.out) hb)
          have n3_ := Aside0.mk (blk_below (g := gb209) (o := .cells #[.int .i64 0, .int .i64 0, .slice none 0 0] 24 (0, 0)) (bk_ BK209.out) hb)
          have n4_ := Aside0.mk (below_step bl_ hb)
          clear HO_6
          clear HO208
          clear BK198
          clear BK209
          clear HB
          have HO_6 := n0_
          have HO208 := n1_
          have BK198 := n2_
          have BK209 := n3_
          have HB := n4_
          clear n0_ n1_ n2_ n3_ n4_
          (try clear hb)
          (try clear hb2)
          (try clear hk)
          (try clear hi)
          obtain ⟨Ao23, co23, eo23⟩ := Kd.R_slice HO208.out
          (first | subst eo23 | (injection eo23 with f1_ f2_ f3_; have f4_ := f1_.symm; have f5_ := f3_.symm; clear f1_ f2_ f3_; subst f4_; subst f5_))
          refine hK.out _ _ (HS0_) (fun hHeld => ?_)
          clear hK K
          refine norm_ (a' := ?_) ?_ ?_
          rotate_left
          ·show Act.put _ (some 33) _ = _
           simp only [Act.put, List.setIfInBounds_toArray, List.set_cons_zero, List.set_cons_succ, i64_w, i32_w]
           rfl
          refine pure_ (i := 6) (N := some 35) (v := ?_) (a' := ?_) #[true, true, true, true, true, true, true, true, false] rfl rfl (any_of HT_.out (by kernel_rfl)) (fun _ _ _ h => h) (Or.inl ⟨by rfl, ?_⟩) ?_ ?_
          rotate_left
          ·intro w'
           go_simp
           with_reducible rfl
          rotate_left
          ·simp only [Act.put, List.setIfInBounds_toArray, List.set_cons_zero, List.set_cons_succ, i64_w, i32_w]
           rfl
          exact norm_ (by first | (simp only [putAll, Act.put, List.setIfInBounds_toArray, List.set_cons_zero, List.set_cons_succ]; done) | (simp only [putAll, Act.put, List.setIfInBounds_toArray, List.set_cons_zero, List.set_cons_succ]; rfl)) (hJ4_5_7 (.slice Ao23 y206.length co23, gb209) _ ⟨hHeld, (ra_ HO208.out), (ra_ HO_6.out), (bk_ BK198.out), (bk_ BK209.out), GW209.out, GE209.out, NB198_209.out, NB209_198.out, bl_⟩)
        ·skip
         rintro gb209 w20 ⟨hS_, h0_, h1_, h2_, h3_, h4_, h5_, h6_, h7_⟩
         have n0_ : Aside0 (Kd.R Kd.string 9 w20 w.heap.size (fun _ => True) (.slice (some ad204) t199.length co17) t199) := ⟨h0_⟩
         have n1_ : Aside0 (w20.heap[gb198]? = some (.cells #[.int .i64 0, .int .i64 0, .slice none 0 0] 24 (0, 0))) := ⟨h1_⟩
         have n2_ : Aside0 (w20.heap[gb209]? = some (.cells #[.int .i64 0, .int .i64 0, .slice none 0 0] 24 (0, 0))) := ⟨h2_⟩
         have n3_ : Aside0 (w.heap.size ≤ gb209) := ⟨h3_⟩
         have n4_ : Aside0 (w.heap.size ≤ gb209) := ⟨h4_⟩
         have n5_ : Aside0 (gb198 ≠ gb209) := ⟨h5_⟩
         have n6_ : Aside0 (gb209 ≠ gb198) := ⟨h6_⟩
         have n7_ : Aside0 (Below w.heap.size w w20) := ⟨h7_⟩
         clear HO_6
         clear BK198
         clear HB
         clear h0_ h1_ h2_ h3_ h4_ h5_ h6_ h7_
         have HO_6 := n0_
         have BK198 := n1_
         have BK209 := n2_
         have GW209 := n3_
         have GE209 := n4_
         have NB198_209 := n5_
         have NB209_198 := n6_
         have HB := n7_
         clear n0_ n1_ n2_ n3_ n4_ n5_ n6_ n7_
         have hHeld : w20.cell? ad204 = some (.string (rdOf ByteArray.empty t199 0)) := hS_
         refine norm_ (a' := ?_) ?_ ?_
         rotate_left
         ·simp only [putAll, Act.put, List.setIfInBounds_toArray, List.set_cons_zero, List.set_cons_succ]
          rfl
         refine one_ (i := 5) (N := some 34) #[true, true, true, true, true, true, false, true, false] rfl rfl (one_of HT_.out (by kernel_rfl)) (by decide) (fun K hK => ?_)
         refine Kd.R_make_step k103 _ 103 (by rfl) (N := 34) rfl 22 _ _ rfl 3 rfl rfl Try.underlying22 (.agg #[(.int .i64 0), (.int .i64 0)]) 16 info103 rfl (by decide) (by omega) z103 (ok := fun _ => True) (okp := fun _ => True) (k103_mkM _ _ _ z103 ) (fun _ hk => hk) trivial (by omega) (by omega) (Below.refl _ _) (Nat.le_refl _) ?_
         intro v207 w21 ho22 hb hg_ hnew_
         have HS0_ := (hb.cell (World.block_lt_of_cell? _ _ (hHeld))).trans (hHeld)
         clear hg_ hnew_
         (first | rw [← Ny206.out] at ho22 | (simp only [Int.reduceToNat] at ho22; rw [← Ny206.out] at ho22))
         have n0_ := Aside0.mk (Kd.R_below (ra_ HO_6.out) hb)
         have n1_ := Aside0.mk (Kd.R_lower ho22 (below_size bl_))
         have n2_ := Aside0.mk (blk_below (g := gb198) (o := .cells #[.int .i64 0, .int .i64 0, .slice none 0 0] 24 (0, 0)) (bk_ BK198.out) hb)
         have n3_ := Aside0.mk (blk_below (g := gb209) (o := .cells #[.int .i64 0, .int .i64 0, .slice none 0 0] 24 (0, 0)) (bk_ BK209.out) hb)
         have n4_ := Aside0.mk (below_step bl_ hb)
         clear HO_6
         clear BK198
         clear BK209
         clear HB
         have HO_6 := n0_
         have HO208 := n1_
         have BK198 := n2_
         have BK209 := n3_
         have HB := n4_
         clear n0_ n1_ n2_ n3_ n4_
         clear hb ho22
         obtain ⟨Ao23, co23, eo23⟩ := Kd.R_slice HO208.out
         (first | subst eo23 | (injection eo23 with f1_ f2_ f3_; have f4_ := f1_.symm; have f5_ := f3_.symm; clear f1_ f2_ f3_; subst f4_; subst f5_))
         refine hK.out _ _ (HS0_) (fun hHeld => ?_)
         clear hK K
         refine norm_ (a' := ?_) ?_ ?_
         rotate_left
         ·show Act.put _ (some 34) _ = _
          simp only [Act.put, List.setIfInBounds_toArray, List.set_cons_zero, List.set_cons_succ, i64_w, i32_w]
          rfl
         refine pure_ (i := 6) (N := some 35) (v := ?_) (a' := ?_) #[true, true, true, true, true, true, true, true, false] rfl rfl (any_of HT_.out (by kernel_rfl)) (fun _ _ _ h => h) (Or.inl ⟨by rfl, ?_⟩) ?_ ?_
         rotate_left
         ·intro w'
          go_simp
          with_reducible rfl
         rotate_left
         ·simp only [Act.put, List.setIfInBounds_toArray, List.set_cons_zero, List.set_cons_succ, i64_w, i32_w]
          rfl
         exact norm_ (by first | (simp only [putAll, Act.put, List.setIfInBounds_toArray, List.set_cons_zero, List.set_cons_succ]; done) | (simp only [putAll, Act.put, List.setIfInBounds_toArray, List.set_cons_zero, List.set_cons_succ]; rfl)) (hJ4_5_7 (.slice Ao23 y206.length co23, gb209) _ ⟨hHeld, (ra_ HO208.out), (ra_ HO_6.out), (bk_ BK198.out), (bk_ BK209.out), GW209.out, GE209.out, NB198_209.out, NB209_198.out, bl_⟩)
       ·skip
        rintro v207 w22 ⟨hS_, h0_, h1_, h2_, h3_⟩
        have n0_ : Aside0 (Kd.R k103 103 w22 w.heap.size (fun _ => True) v207 y206) := ⟨h0_⟩
        have n1_ : Aside0 (Kd.R Kd.string 9 w22 w.heap.size (fun _ => True) (.slice (some ad204) t199.length co17) t199) := ⟨h1_⟩
        have n2_ : Aside0 (w22.heap[gb198]? = some (.cells #[.int .i64 0, .int .i64 0, .slice none 0 0] 24 (0, 0))) := ⟨h2_⟩
        have n3_ : Aside0 (Below w.heap.size w w22) := ⟨h3_⟩
        clear HO_6
        clear BK198
        clear HB
        clear h0_ h1_ h2_ h3_
        have HO208 := n0_
        have HO_6 := n1_
        have BK198 := n2_
        have HB := n3_
        clear n0_ n1_ n2_ n3_
        have hHeld : w22.cell? ad204 = some (.string (rdOf ByteArray.empty t199 0)) := hS_
        obtain ⟨Ao23, co23, eo23⟩ := Kd.R_slice HO208.out
        (first | subst eo23 | (injection eo23 with f1_ f2_ f3_; have f4_ := f1_.symm; have f5_ := f3_.symm; clear f1_ f2_ f3_; subst f4_; subst f5_))
        refine norm_ (a' := ?_) ?_ ?_
        rotate_left
        ·simp only [putAll, Act.put, List.setIfInBounds_toArray, List.set_cons_zero, List.set_cons_succ]
         rfl
        refine one_ (i := 7) (N := some 8) #[true, true, true, true, true, true, true, true, false] rfl rfl (one_of HT_.out (by kernel_rfl)) (by decide) (fun K hK => ?_)
        refine box_step ?hg (N := 8) ?hd (cs := #[.int .i64 0, .int .i64 0, .slice none 0 0]) (t := 24) ?hr ?_; (case hd => rfl); (case hg => rfl); (case hr => first | (go_simp; done) | (go_simp; rfl))
        intro gb209 hg w24 hbox hb
        have HS0_ := (hb.cell (World.block_lt_of_cell? _ _ (hHeld))).trans (hHeld)
        have n0_ := Aside0.mk (Kd.R_below (ra_ HO_6.out) hb)
        have n1_ := Aside0.mk (Kd.R_below (ra_ HO208.out) hb)
        have n2_ := Aside0.mk (blk_below (g := gb198) (o := .cells #[.int .i64 0, .int .i64 0, .slice none 0 0] 24 (0, 0)) (bk_ BK198.out) hb)
        have n3_ := Aside0.mk (below_step bl_ hb)
        have n4_ := Aside0.mk (hbox)
        have n5_ := Aside0.mk ((hz_ : w.heap.size ≤ gb209))
        have n6_ := Aside0.mk ((hz_ : w.heap.size ≤ gb209))
        have n7_ := Aside0.mk ((by rw [hg]; exact Nat.ne_of_lt (blk_lt (g := gb198) (o := .cells #[.int .i64 0, .int .i64 0, .slice none 0 0] 24 (0, 0)) (bk_ BK198.out)) : gb198 ≠ gb209))
        have n8_ := Aside0.mk ((by rw [hg]; exact Nat.ne_of_gt (blk_lt (g := gb198) (o := .cells #[.int .i64 0, .int .i64 0, .slice none 0 0] 24 (0, 0)) (bk_ BK198.out)) : gb209 ≠ gb198))
        clear HO_6
        clear HO208
        clear BK198
        clear HB
        have HO_6 := n0_
        have HO208 := n1_
        have BK198 := n2_
        have HB := n3_
        have BK209 := n4_
        have GW209 := n5_
        have GE209 := n6_
        have NB198_209 := n7_
        have NB209_198 := n8_
        clear n0_ n1_ n2_ n3_ n4_ n5_ n6_ n7_ n8_
        clear hb hbox hg
        refine hK.out _ _ (HS0_) (fun hHeld => ?_)
        clear hK K
        refine norm_ (a' := ?_) ?_ ?_
        rotate_left
        ·show Act.put _ (some 8) _ = _
         simp only [Act.put, List.setIfInBounds_toArray, List.set_cons_zero, List.set_cons_succ, i64_w, i32_w]
         rfl
        exact norm_ (by first | (simp only [putAll, Act.put, List.setIfInBounds_toArray, List.set_cons_zero, List.set_cons_succ]; done) | (simp only [putAll, Act.put, List.setIfInBounds_toArray, List.set_cons_zero, List.set_cons_succ]; rfl)) (hJ4_5_7 (.slice Ao23 y206.length co23, gb209) _ ⟨hHeld, (ra_ HO208.out), (ra_ HO_6.out), (bk_ BK198.out), (bk_ BK209.out), GW209.out, GE209.out, NB198_209.out, NB209_198.out, bl_⟩)
      rintro ⟨v207, gb209⟩ w23 ⟨hS_, h0_, h1_, h2_, h3_, h4_, h5_, h6_, h7_, h8_⟩
      have n0_ : Aside0 (Kd.R k103 103 w23 w.heap.size (fun _ => True) v207 y206) := ⟨h0_⟩
      have n1_ : Aside0 (Kd.R Kd.string 9 w23 w.heap.size (fun _ => True) (.slice (some ad204) t199.length co17) t199) := ⟨h1_⟩
      have n2_ : Aside0 (w23.heap[gb198]? = some (.cells #[.int .i64 0, .int .i64 0, .slice none 0 0] 24 (0, 0))) := ⟨h2_⟩
      have n3_ : Aside0 (w23.heap[gb209]? = some (.cells #[.int .i64 0, .int .i64 0, .slice none 0 0] 24 (0, 0))) := ⟨h3_⟩
      have n4_ : Aside0 (w.heap.size ≤ gb209) := ⟨h4_⟩
      have n5_ : Aside0 (w.heap.size ≤ gb209) := ⟨h5_⟩
      have n6_ : Aside0 (gb198 ≠ gb209) := ⟨h6_⟩
      have n7_ : Aside0 (gb209 ≠ gb198) := ⟨h7_⟩
      have n8_ : Aside0 (Below w.heap.size w w23) := ⟨h8_⟩
      clear HO_6
      clear BK198
      clear HB
      clear h0_ h1_ h2_ h3_ h4_ h5_ h6_ h7_ h8_
      have HO208 := n0_
      have HO_6 := n1_
      have BK198 := n2_
      have BK209 := n3_
      have GW209 := n4_
      have GE209 := n5_
      have NB198_209 := n6_
      have NB209_198 := n7_
      have HB := n8_
      clear n0_ n1_ n2_ n3_ n4_ n5_ n6_ n7_ n8_
      have hHeld : w23.cell? ad204 = some (.string (rdOf ByteArray.empty t199 0)) := hS_
      obtain ⟨Ao24, co24, eo24⟩ := Kd.R_slice HO208.out
      (first | subst eo24 | (injection eo24 with f1_ f2_ f3_; have f4_ := f1_.symm; have f5_ := f3_.symm; clear f1_ f2_ f3_; subst f4_; subst f5_))
      refine norm_ (a' := ?_) ?_ ?_
      rotate_left
      ·simp only [putAll, Act.put, List.setIfInBounds_toArray, List.set_cons_zero, List.set_cons_succ]
       rfl
      refine one_ (i := 8) (N := none) #[true, true, true, true, true, true, true, true, true] rfl rfl (one_of HT_.out (by kernel_rfl)) (by decide) (fun K hK => ?_)
      have hs25 : w23.cell? ⟨gb209, 0, none⟩ = some (.int .i64 0) := (blk_cell BK209.out 0).trans rfl
      have hfs25 := blk_frozen BK209.out 0
      have hns25_0 := NB198_209.out
      have hms25_0 := NB209_198.out
      have hs26 : w23.cell? ⟨gb209, 1, none⟩ = some (.int .i64 0) := (blk_cell BK209.out 1).trans rfl
      have hfs26 := blk_frozen BK209.out 1
      have hns26_0 := NB198_209.out
      have hms26_0 := NB209_198.out
      have hs27 : w23.cell? ⟨gb209, 2, none⟩ = some (.slice none 0 0) := (blk_cell BK209.out 2).trans rfl
      have hfs27 := blk_frozen BK209.out 2
      have hns27_0 := NB198_209.out
      have hms27_0 := NB209_198.out
      refine skip_ (w1 := ?_) (by rfl) rfl ?_ ?_
      rotate_left
      ·go_simp
       rfl
      refine hK.out _ _ (((cell_far (p := ⟨gb209, _, none⟩) (by first | exact Kd.own_blk (Kd.R_ne HO_6.out BK209.out (by decide)) | (rw [add_block]; exact Kd.own_blk (Kd.R_ne HO_6.out BK209.out (by decide))) | (show (Addr.add _ _).block ≠ _; rw [add_block]; exact Kd.own_blk (Kd.R_ne HO_6.out BK209.out (by decide))) | (dsimp only; exact Kd.own_blk (Kd.R_ne HO_6.out BK209.out (by decide)))) _).trans (((cell_far (p := ⟨gb209, _, none⟩) (by first | exact Kd.own_blk (Kd.R_ne HO_6.out BK209.out (by decide)) | (rw [add_block]; exact Kd.own_blk (Kd.R_ne HO_6.out BK209.out (by decide))) | (show (Addr.add _ _).block ≠ _; rw [add_block]; exact Kd.own_blk (Kd.R_ne HO_6.out BK209.out (by decide))) | (dsimp only; exact Kd.own_blk (Kd.R_ne HO_6.out BK209.out (by decide)))) _).trans (((cell_far (p := ⟨gb209, _, none⟩) (by first | exact Kd.own_blk (Kd.R_ne HO_6.out BK209.out (by decide)) | (rw [add_block]; exact Kd.own_blk (Kd.R_ne HO_6.out BK209.out (by decide))) | (show (Addr.add _ _).block ≠ _; rw [add_block]; exact Kd.own_blk (Kd.R_ne HO_6.out BK209.out (by decide))) | (dsimp only; exact Kd.own_blk (Kd.R_ne HO_6.out BK209.out (by decide)))) _).trans (hHeld))))))) (fun hHeld => ?_)
      clear hK K
      refine done_ (done_of HT_.out (by kernel_rfl)) ?_
      have hnb28 := NB209_198.out
      have hnc28 := NB198_209.out
      have hcz29_0 : w23.cell? ⟨gb209, 0, none⟩ = some (.int .i64 0) := (blk_cell BK209.out 0).trans rfl
      have hcz29_1 : w23.cell? ⟨gb209, 1, none⟩ = some (.int .i64 0) := (blk_cell BK209.out 1).trans rfl
      have hcz29_2 : w23.cell? ⟨gb209, 2, none⟩ = some (.slice none 0 0) := (blk_cell BK209.out 2).trans rfl
      have hfz29_0 := blk_frozen BK209.out 0
      have hfz29_1 := blk_frozen BK209.out 1
      have hfz29_2 := blk_frozen BK209.out 2
      go_upto_if 38 with (fail)
      go_cut [] (fun wc => ∃ (kq : Nat) (x199000_14 : Int) (x199001_14 : Int) (x210001_14 : Int), Aside0 (impl_ReadCallLine.j1 kq t199 a0 x210001_14 y206 = some (r1, r2, r3, r4)) ∧ Aside0 (kq ≤ kj3) ∧ Aside0 (Kd.R Kd.string 9 wc w.heap.size (fun _ => True) (.slice (some ad204) t199.length co17) t199) ∧ Aside0 (Kd.R k103 103 wc w.heap.size (fun _ => True) (.slice Ao24 y206.length co24) y206) ∧ Aside0 (wc.heap[gb198]? = some (.cells #[.int .i64 x199000_14, .int .i64 x199001_14, (.slice none 0 0)] 24 (0, 0))) ∧ Aside0 (wc.heap[gb209]? = some (.cells #[.int .i64 a0, .int .i64 x210001_14, (.slice Ao24 y206.length co24)] 24 (0, 0))) ∧ Aside0 (Below w.heap.size w wc))
      case first =>
       have H := HC15.out
       clear HC15
       by_cases c30 : t205 < 0
       ·rw [if_pos c30] at H
        have c30b0 : decide (t205 < 0) = true := decide_eq_true c30
        clear c30
        (first | rw [c30b0] | (simp only [i64_w, i32_w]; rw [c30b0]) | skip)
        replace H := Option.bind_eq_some_iff.mp H
        obtain ⟨⟨t211, t212⟩, A310, H⟩ := H
        try dsimp only at H
        have A31 := Aside0.mk A310
        clear A310
        by_cases c32 : t212 = true
        ·subst c32
         rw [if_pos rfl] at H
         have H' := Aside0.mk H
         clear H
         have p210 : 0 ≤ (0 : Int) := (by omega)
         have q210 : 0 < (t199.length : Int) := of_decide_eq_true as_
         obtain ⟨ad210, e210, hx210_0⟩ := Kd.at_string (Kd.R_reads' HO_6.out).2.2 0 p210 q210
         obtain rfl : ad204 = ad210 := (by injection e210)
         have qi210 : (0 < t199.length) = True := eq_true (by omega)
         (try rw [show ((0 : Int)).toNat = 0 from rfl] at hx210_0)
         (try rw [Addr.add_zero'] at hx210_0)
         have hn210_0 : ad204.block ≠ gb209 := Kd.own_blk (Kd.R_ne HO_6.out BK209.out (by decide))
         have hn210_1 : ad204.block ≠ gb209 := Kd.own_blk (Kd.R_ne HO_6.out BK209.out (by decide))
         have hn210_2 : ad204.block ≠ gb209 := Kd.own_blk (Kd.R_ne HO_6.out BK209.out (by decide))
         replace hx210_0 := (cell_far (p := ⟨gb209, 0, none⟩) (by first | (rw [add_block]; exact hn210_0) | (show (Addr.add _ _).block ≠ _; rw [add_block]; exact hn210_0) | exact hn210_0) (.int .i64 a0)).trans hx210_0
         replace hx210_0 := (cell_far (p := ⟨gb209, 1, none⟩) (by first | (rw [add_block]; exact hn210_1) | (show (Addr.add _ _).block ≠ _; rw [add_block]; exact hn210_1) | exact hn210_1) (.int .i64 t205)).trans hx210_0
         replace hx210_0 := (cell_far (p := ⟨gb209, 2, none⟩) (by first | (rw [add_block]; exact hn210_2) | (show (Addr.add _ _).block ≠ _; rw [add_block]; exact hn210_2) | exact hn210_2) (.slice Ao24 y206.length co24)).trans hx210_0
         clear hn210_0
         clear hn210_1
         clear hn210_2
         replace p210 := eq_true p210
         replace q210 := eq_true q210
         go_wp2_with (first | ((with_reducible refine gate_callee (f := 93) rfl ?_); refine goesL_ (some 43) rfl rfl Try.func93 (by kernel_rfl) rfl #[.string (rdOf ByteArray.empty t199 0)] rfl lm_ ?_; (with_reducible refine (impl_half.calls kj3 (rdOf ByteArray.empty t199 0) t211 true _ A31.out).mono ?_); rintro e w33 ⟨rfl, hb⟩; refine ⟨_, rfl, ?_⟩; have n0_ := Aside0.mk (Kd.R_below (by (with_reducible repeat (first | apply Kd.R_alloc | apply Kd.R_drewN | apply Kd.R_drew)); exact (Kd.R_mono (Kd.R_far (p := ⟨gb209, 2, none⟩) (Kd.R_far (p := ⟨gb209, 1, none⟩) (Kd.R_far (p := ⟨gb209, 0, none⟩) (Kd.R_types HO_6.out BK209.out (by decide)) (fun _ hk => hk.2) (.int .i64 a0)) (fun _ hk => hk.2) (.int .i64 t205)) (fun _ hk => hk.2) (.slice Ao24 y206.length co24)) (fun _ h_ => h_.1))) hb); have n1_ := Aside0.mk (Kd.R_below (by (with_reducible repeat (first | apply Kd.R_alloc | apply Kd.R_drewN | apply Kd.R_drew)); exact (Kd.R_mono (Kd.R_far (p := ⟨gb209, 2, none⟩) (Kd.R_far (p := ⟨gb209, 1, none⟩) (Kd.R_far (p := ⟨gb209, 0, none⟩) (Kd.R_types HO208.out BK209.out (by decide)) (fun _ hk => hk.2) (.int .i64 a0)) (fun _ hk => hk.2) (.int .i64 t205)) (fun _ hk => hk.2) (.slice Ao24 y206.length co24)) (fun _ h_ => h_.1))) hb); have n2_ := Aside0.mk (blk_below (g := gb198) (o := .cells #[.int .i64 0, .int .i64 0, .slice none 0 0] 24 (0, 0)) (by (with_reducible repeat (first | refine blk_drewN ?_ _ | refine blk_drew ?_ | refine blk_alloc ?_ _)); refine blk_far ?_ NB198_209.out _; (with_reducible repeat (first | refine blk_drewN ?_ _ | refine blk_drew ?_ | refine blk_alloc ?_ _)); refine blk_far ?_ NB198_209.out _; (with_reducible repeat (first | refine blk_drewN ?_ _ | refine blk_drew ?_ | refine blk_alloc ?_ _)); refine blk_far ?_ NB198_209.out _; (with_reducible repeat (first | refine blk_drewN ?_ _ | refine blk_drew ?_ | refine blk_alloc ?_ _)); exact BK198.out) hb); have n3_ := Aside0.mk (blk_below (g := gb209) (o := .cells #[.int .i64 a0, .int .i64 t205, .slice Ao24 y206.length co24] 24 (0, 0)) (by (with_reducible repeat (first | refine blk_drewN ?_ _ | refine blk_drew ?_ | refine blk_alloc ?_ _)); refine blk_put (cs := #[.int .i64 a0, .int .i64 t205, .slice none 0 0]) ?_ 2 _ rfl; (with_reducible repeat (first | refine blk_drewN ?_ _ | refine blk_drew ?_ | refine blk_alloc ?_ _)); refine blk_put (cs := #[.int .i64 a0, .int .i64 0, .slice none 0 0]) ?_ 1 _ rfl; (with_reducible repeat (first | refine blk_drewN ?_ _ | refine blk_drew ?_ | refine blk_alloc ?_ _)); refine blk_put (cs := #[.int .i64 0, .int .i64 0, .slice none 0 0]) ?_ 0 _ rfl; (with_reducible repeat (first | refine blk_drewN ?_ _ | refine blk_drew ?_ | refine blk_alloc ?_ _)); exact BK209.out) hb); have n4_ := Aside0.mk (below_step bl_ hb); clear HO_6; clear HO208; clear BK198; clear BK209; clear HB; have HO_6 := n0_; have HO208 := n1_; have BK198 := n2_; have BK209 := n3_; have HB := n4_; clear n0_ n1_ n2_ n3_ n4_; (try clear hb); (try clear hb2); (try clear hk); (try clear hi); have hnb34 := NB209_198.out; have hnc34 := NB198_209.out; have hcz35_0 : w33.cell? ⟨gb209, 0, none⟩ = some (.int .i64 a0) := (blk_cell BK209.out 0).trans rfl; have hcz35_1 : w33.cell? ⟨gb209, 1, none⟩ = some (.int .i64 t205) := (blk_cell BK209.out 1).trans rfl; have hcz35_2 : w33.cell? ⟨gb209, 2, none⟩ = some (.slice Ao24 y206.length co24) := (blk_cell BK209.out 2).trans rfl; have hfz35_0 := blk_frozen BK209.out 0; have hfz35_1 := blk_frozen BK209.out 1; have hfz35_2 := blk_frozen BK209.out 2))
         go_meet
         case rel => exact ⟨_, (0), (0), (t211), H', ⟨by have := HJ3.out; first | omega | exact Nat.le_refl _⟩, ⟨by (with_reducible repeat (first | apply Kd.R_alloc | apply Kd.R_drewN | apply Kd.R_drew)); exact Kd.R_mono (Kd.R_far (p := ⟨gb209, 1, none⟩) (Kd.R_types HO_6.out BK209.out (by decide)) (fun _ hk => hk.2) (.int .i64 t211)) (fun _ hk => trivial)⟩, ⟨by (with_reducible repeat (first | apply Kd.R_alloc | apply Kd.R_drewN | apply Kd.R_drew)); exact Kd.R_mono (Kd.R_far (p := ⟨gb209, 1, none⟩) (Kd.R_types HO208.out BK209.out (by decide)) (fun _ hk => hk.2) (.int .i64 t211)) (fun _ hk => trivial)⟩, ⟨by (with_reducible repeat (first | refine blk_drewN ?_ _ | refine blk_drew ?_ | refine blk_alloc ?_ _)); refine blk_far ?_ NB198_209.out _; (with_reducible repeat (first | refine blk_drewN ?_ _ | refine blk_drew ?_ | refine blk_alloc ?_ _)); exact BK198.out⟩, ⟨by (with_reducible repeat (first | refine blk_drewN ?_ _ | refine blk_drew ?_ | refine blk_alloc ?_ _)); refine blk_put (cs := #[.int .i64 a0, .int .i64 t205, .slice Ao24 y206.length co24]) ?_ 1 _ rfl; (with_reducible repeat (first | refine blk_drewN ?_ _ | refine blk_drew ?_ | refine blk_alloc ?_ _)); exact BK209.out⟩, ⟨bl_⟩⟩
        ·replace c32 := Bool.eq_false_iff.mpr c32
         subst c32
         rw [if_neg (show ¬ (false = true) by decide)] at H
         simp only [Option.some.injEq, Prod.mk.injEq] at H
         obtain ⟨rfl, rfl, rfl, rfl⟩ := H
         have p210 : 0 ≤ (0 : Int) := (by omega)
         have q210 : 0 < (t199.length : Int) := of_decide_eq_true as_
         obtain ⟨ad210, e210, hx210_0⟩ := Kd.at_string (Kd.R_reads' HO_6.out).2.2 0 p210 q210
         obtain rfl : ad204 = ad210 := (by injection e210)
         have qi210 : (0 < t199.length) = True := eq_true (by omega)
         (try rw [show ((0 : Int)).toNat = 0 from rfl] at hx210_0)
         (try rw [Addr.add_zero'] at hx210_0)
         have hn210_0 : ad204.block ≠ gb209 := Kd.own_blk (Kd.R_ne HO_6.out BK209.out (by decide))
         have hn210_1 : ad204.block ≠ gb209 := Kd.own_blk (Kd.R_ne HO_6.out BK209.out (by decide))
         have hn210_2 : ad204.block ≠ gb209 := Kd.own_blk (Kd.R_ne HO_6.out BK209.out (by decide))
         replace hx210_0 := (cell_far (p := ⟨gb209, 0, none⟩) (by first | (rw [add_block]; exact hn210_0) | (show (Addr.add _ _).block ≠ _; rw [add_block]; exact hn210_0) | exact hn210_0) (.int .i64 a0)).trans hx210_0
         replace hx210_0 := (cell_far (p := ⟨gb209, 1, none⟩) (by first | (rw [add_block]; exact hn210_1) | (show (Addr.add _ _).block ≠ _; rw [add_block]; exact hn210_1) | exact hn210_1) (.int .i64 t205)).trans hx210_0
         replace hx210_0 := (cell_far (p := ⟨gb209, 2, none⟩) (by first | (rw [add_block]; exact hn210_2) | (show (Addr.add _ _).block ≠ _; rw [add_block]; exact hn210_2) | exact hn210_2) (.slice Ao24 y206.length co24)).trans hx210_0
         clear hn210_0
         clear hn210_1
         clear hn210_2
         replace p210 := eq_true p210
         replace q210 := eq_true q210
         go_wp2_with (first | ((with_reducible refine gate_callee (f := 93) rfl ?_); refine goesL_ (some 43) rfl rfl Try.func93 (by kernel_rfl) rfl #[.string (rdOf ByteArray.empty t199 0)] rfl lm_ ?_; (with_reducible refine (impl_half.calls kj3 (rdOf ByteArray.empty t199 0) t211 false _ A31.out).mono ?_); rintro e w36 ⟨rfl, hb⟩; refine ⟨_, rfl, ?_⟩; have n0_ := Aside0.mk (Kd.R_below (by (with_reducible repeat (first | apply Kd.R_alloc | apply Kd.R_drewN | apply Kd.R_drew)); exact (Kd.R_mono (Kd.R_far (p := ⟨gb209, 2, none⟩) (Kd.R_far (p := ⟨gb209, 1, none⟩) (Kd.R_far (p := ⟨gb209, 0, none⟩) (Kd.R_types HO_6.out BK209.out (by decide)) (fun _ hk => hk.2) (.int .i64 a0)) (fun _ hk => hk.2) (.int .i64 t205)) (fun _ hk => hk.2) (.slice Ao24 y206.length co24)) (fun _ h_ => h_.1))) hb); have n1_ := Aside0.mk (Kd.R_below (by (with_reducible repeat (first | apply Kd.R_alloc | apply Kd.R_drewN | apply Kd.R_drew)); exact (Kd.R_mono (Kd.R_far (p := ⟨gb209, 2, none⟩) (Kd.R_far (p := ⟨gb209, 1, none⟩) (Kd.R_far (p := ⟨gb209, 0, none⟩) (Kd.R_types HO208.out BK209.out (by decide)) (fun _ hk => hk.2) (.int .i64 a0)) (fun _ hk => hk.2) (.int .i64 t205)) (fun _ hk => hk.2) (.slice Ao24 y206.length co24)) (fun _ h_ => h_.1))) hb); have n2_ := Aside0.mk (blk_below (g := gb198) (o := .cells #[.int .i64 0, .int .i64 0, .slice none 0 0] 24 (0, 0)) (by (with_reducible repeat (first | refine blk_drewN ?_ _ | refine blk_drew ?_ | refine blk_alloc ?_ _)); refine blk_far ?_ NB198_209.out _; (with_reducible repeat (first | refine blk_drewN ?_ _ | refine blk_drew ?_ | refine blk_alloc ?_ _)); refine blk_far ?_ NB198_209.out _; (with_reducible repeat (first | refine blk_drewN ?_ _ | refine blk_drew ?_ | refine blk_alloc ?_ _)); refine blk_far ?_ NB198_209.out _; (with_reducible repeat (first | refine blk_drewN ?_ _ | refine blk_drew ?_ | refine blk_alloc ?_ _)); exact BK198.out) hb); have n3_ := Aside0.mk (blk_below (g := gb209) (o := .cells #[.int .i64 a0, .int .i64 t205, .slice Ao24 y206.length co24] 24 (0, 0)) (by (with_reducible repeat (first | refine blk_drewN ?_ _ | refine blk_drew ?_ | refine blk_alloc ?_ _)); refine blk_put (cs := #[.int .i64 a0, .int .i64 t205, .slice none 0 0]) ?_ 2 _ rfl; (with_reducible repeat (first | refine blk_drewN ?_ _ | refine blk_drew ?_ | refine blk_alloc ?_ _)); refine blk_put (cs := #[.int .i64 a0, .int .i64 0, .slice none 0 0]) ?_ 1 _ rfl; (with_reducible repeat (first | refine blk_drewN ?_ _ | refine blk_drew ?_ | refine blk_alloc ?_ _)); refine blk_put (cs := #[.int .i64 0, .int .i64 0, .slice none 0 0]) ?_ 0 _ rfl; (with_reducible repeat (first | refine blk_drewN ?_ _ | refine blk_drew ?_ | refine blk_alloc ?_ _)); exact BK209.out) hb); have n4_ := Aside0.mk (below_step bl_ hb); clear HO_6; clear HO208; clear BK198; clear BK209; clear HB; have HO_6 := n0_; have HO208 := n1_; have BK198 := n2_; have BK209 := n3_; have HB := n4_; clear n0_ n1_ n2_ n3_ n4_; (try clear hb); (try clear hb2); (try clear hk); (try clear hi); have hnb37 := NB198_209.out; have hnc37 := NB209_198.out; have hcz38_0 : w36.cell? ⟨gb198, 0, none⟩ = some (.int .i64 0) := (blk_cell BK198.out 0).trans rfl; have hcz38_1 : w36.cell? ⟨gb198, 1, none⟩ = some (.int .i64 0) := (blk_cell BK198.out 1).trans rfl; have hcz38_2 : w36.cell? ⟨gb198, 2, none⟩ = some (.slice none 0 0) := (blk_cell BK198.out 2).trans rfl; have hfz38_0 := blk_frozen BK198.out 0; have hfz38_1 := blk_frozen BK198.out 1; have hfz38_2 := blk_frozen BK198.out 2))
         refine bodyPost_ret (results_ct rfl _ _ gb198 24 #[.int .i64 0, .int .i64 0, .slice none 0 0] (0, 0) _ rfl (by (with_reducible repeat (first | refine blk_drewN ?_ _ | refine blk_drew ?_ | refine blk_alloc ?_ _)); refine blk_put (cs := #[.int .i64 0, .int .i64 0, .slice none 0 0]) ?_ 2 _ rfl; (with_reducible repeat (first | refine blk_drewN ?_ _ | refine blk_drew ?_ | refine blk_alloc ?_ _)); refine blk_put (cs := #[.int .i64 0, .int .i64 0, .slice none 0 0]) ?_ 1 _ rfl; (with_reducible repeat (first | refine blk_drewN ?_ _ | refine blk_drew ?_ | refine blk_alloc ?_ _)); refine blk_put (cs := #[.int .i64 0, .int .i64 0, .slice none 0 0]) ?_ 0 _ rfl; (with_reducible repeat (first | refine blk_drewN ?_ _ | refine blk_drew ?_ | refine blk_alloc ?_ _)); exact BK198.out) Try.underlying24 rfl (by kernel_rfl)) rfl ?_
         exact ⟨_, by first | rfl | (simp [errW_none, errW_some] <;> rfl) | (simp [*, errW_none, errW_some] <;> rfl) | exact False.elim (Bool.noConfusion ((decide_eq_true (of_eq_true (by assumption))).symm.trans (by assumption))), by first | exact Kd.R_nil _ _ _ _ _ | exact Kd.N_nil _ _ _ _ _ | exact Kd.V_nil _ _ _ _ _ | exact Kd.Q_nil _ _ _ _ _ | exact Kd.S_nil _ _ _ _ _, bl_⟩
       ·rw [if_neg c30] at H
        have c30b0 : decide (t205 < 0) = false := decide_eq_false c30
        clear c30
        (first | rw [c30b0] | (simp only [i64_w, i32_w]; rw [c30b0]) | skip)
        have H' := Aside0.mk H
        clear H
        go_wp2
        go_meet
        case rel => exact ⟨_, (0), (0), (t205), H', ⟨by have := HJ3.out; first | omega | exact Nat.le_refl _⟩, ⟨by (with_reducible repeat (first | apply Kd.R_alloc | apply Kd.R_drewN | apply Kd.R_drew)); exact Kd.R_mono (Kd.R_far (p := ⟨gb209, 2, none⟩) (Kd.R_far (p := ⟨gb209, 1, none⟩) (Kd.R_far (p := ⟨gb209, 0, none⟩) (Kd.R_types HO_6.out BK209.out (by decide)) (fun _ hk => hk.2) (.int .i64 a0)) (fun _ hk => hk.2) (.int .i64 t205)) (fun _ hk => hk.2) (.slice Ao24 y206.length co24)) (fun _ hk => trivial)⟩, ⟨by (with_reducible repeat (first | apply Kd.R_alloc | apply Kd.R_drewN | apply Kd.R_drew)); exact Kd.R_mono (Kd.R_far (p := ⟨gb209, 2, none⟩) (Kd.R_far (p := ⟨gb209, 1, none⟩) (Kd.R_far (p := ⟨gb209, 0, none⟩) (Kd.R_types HO208.out BK209.out (by decide)) (fun _ hk => hk.2) (.int .i64 a0)) (fun _ hk => hk.2) (.int .i64 t205)) (fun _ hk => hk.2) (.slice Ao24 y206.length co24)) (fun _ hk => trivial)⟩, ⟨by (with_reducible repeat (first | refine blk_drewN ?_ _ | refine blk_drew ?_ | refine blk_alloc ?_ _)); refine blk_far ?_ NB198_209.out _; (with_reducible repeat (first | refine blk_drewN ?_ _ | refine blk_drew ?_ | refine blk_alloc ?_ _)); refine blk_far ?_ NB198_209.out _; (with_reducible repeat (first | refine blk_drewN ?_ _ | refine blk_drew ?_ | refine blk_alloc ?_ _)); refine blk_far ?_ NB198_209.out _; (with_reducible repeat (first | refine blk_drewN ?_ _ | refine blk_drew ?_ | refine blk_alloc ?_ _)); exact BK198.out⟩, ⟨by (with_reducible repeat (first | refine blk_drewN ?_ _ | refine blk_drew ?_ | refine blk_alloc ?_ _)); refine blk_put (cs := #[.int .i64 a0, .int .i64 t205, .slice none 0 0]) ?_ 2 _ rfl; (with_reducible repeat (first | refine blk_drewN ?_ _ | refine blk_drew ?_ | refine blk_alloc ?_ _)); refine blk_put (cs := #[.int .i64 a0, .int .i64 0, .slice none 0 0]) ?_ 1 _ rfl; (with_reducible repeat (first | refine blk_drewN ?_ _ | refine blk_drew ?_ | refine blk_alloc ?_ _)); refine blk_put (cs := #[.int .i64 0, .int .i64 0, .slice none 0 0]) ?_ 0 _ rfl; (with_reducible repeat (first | refine blk_drewN ?_ _ | refine blk_drew ?_ | refine blk_alloc ?_ _)); exact BK209.out⟩, ⟨bl_⟩⟩
      case rest =>
       clear HC15
       try clear c2
       try clear p2
       try clear q2
       try clear hx2
       try clear qi2
       try clear c3
       try clear c9
       try clear p21
       try clear q21
       try clear hx21
       try clear qi21
       try clear c28
       try clear c30
       try clear c30b0
       try clear c32
       try clear c34
       try clear c37
       try clear hcz29_0
       try clear hcz29_1
       try clear hcz29_2
       try clear hcz35_0
       try clear hcz35_1
       try clear hcz35_2
       try clear hcz38_0
       try clear hcz38_1
       try clear hcz38_2
       try clear hfz29_0
       try clear hfz29_1
       try clear hfz29_2
       try clear hfz35_0
       try clear hfz35_1
       try clear hfz35_2
       try clear hfz38_0
       try clear hfz38_1
       try clear hfz38_2
       try clear hx210_0
       try clear p210
       try clear q210
       obtain ⟨kq, x199000_14, x199001_14, x210001_14, HA, HJ14, HO_6, HO_210002, BK198, BK209, HB⟩ := hcut
       cases kq with
       | zero => exact absurd HA.out (by simp [impl_ReadCallLine.j1])
       | succ kj14 =>
        have H := HA.out
        clear HA
        simp only [impl_ReadCallLine.j1] at H
        by_cases c39 : 1 ≤ (t199.length : Int)
        ·rw [if_pos c39] at H
         have c39b0 := eq_true c39
         have c39b1 : decide (1 ≤ (t199.length : Int)) = true := decide_eq_true c39
         clear c39
         obtain ⟨y213, hy213⟩ : ∃ y_ : List ByteArray, y_ = (t199.drop (1 : Int).toNat) := ⟨_, rfl⟩
         replace H : (impl_ReadCallLine.l0 kj14 y213 (y213.length : Int) 0 a0 x210001_14 y206) = some (r1, r2, r3, r4) := by first | (rw [hy213]; with_reducible exact H) | (have H2_ := (Option.bind_some _ _).symm.trans H; rw [hy213]; with_reducible exact H2_) | (have H2_ := (Option.bind_some _ _).symm.trans H; with_reducible exact H2_) | with_reducible exact H | (rw [hy213]; exact H) | exact H
         have Ny213 := Aside0.mk hy213
         clear hy213
         have H' := Aside0.mk H
         clear H
         have q40 : (1 : Int) ≤ ((t199.length : Int) : Int) := of_decide_eq_true as_
         obtain ⟨i040, hi040, _, hsz40, _⟩ := info_parts info9
         have hcut40 := cut_from (P := Try.prog) 94 9 .i64 Try.underlying94 hi040 1 hsz40 (some ad204) t199.length co17 1 (by omega) q40
         have hr40 := Kd.Q_drop (k := (1 : Int).toNat) (Kd.Q_of_R HO_6.out) (by omega)
         obtain ⟨A40, hA40⟩ : ∃ A1, A1 = (if co17 = (1 : Int).toNat then (some ad204) else ((some ad204) : Option Addr).map (·.add ((1 : Int).toNat * 1))) := ⟨_, rfl⟩
         obtain ⟨c40, hc40⟩ : ∃ c1, c1 = co17 - (1 : Int).toNat := ⟨_, rfl⟩
         have hy40 : y213.length = t199.length - (1 : Int).toNat := (by rw [Ny213.out, List.length_drop])
         rw [← Ny213.out] at hr40
         rw [← hy40, ← hA40, ← hc40] at hcut40
         replace hr40 : Kd.Q Kd.string 9 wc w.heap.size (fun _ => True) (.slice A40 y213.length c40) y213 := (by rw [hA40, hc40, hy40]; exact hr40)
         have HE40 : Aside0 ((Value.slice A40 y213.length c40).ownBlock = (.slice (some ad204) t199.length co17 : Value).ownBlock) := ⟨by rw [hA40]; split <;> (cases ((some ad204) : Option Addr) <;> rfl)⟩
         clear hy40 hi040 hsz40 HO_6 hA40 hc40
         have HO215 := Aside0.mk hr40
         clear hr40
         replace q40 := eq_true q40
         go_wp2
         go_loopg [54] kj14 (fun kq v54 w' => ∃ (x54_3 : Int) (x199000_3 : Int) (x199001_3 : Int) (x210002_3 : List (S103)) (u210002 : Value), v54 = .int .i64 x54_3 ∧ Aside0 (impl_ReadCallLine.l0 kq y213 (y213.length : Int) x54_3 a0 x210001_14 x210002_3 = some (r1, r2, r3, r4)) ∧ Aside0 (kq ≤ kj14) ∧ Aside0 (Kd.Q Kd.string 9 w' w.heap.size (fun _ => True) (.slice A40 y213.length c40) y213) ∧ Aside0 (Kd.R k103 103 w' w.heap.size (fun _ => True) u210002 x210002_3) ∧ Aside0 (w'.heap[gb198]? = some (.cells #[.int .i64 x199000_3, .int .i64 x199001_3, (.slice none 0 0)] 24 (0, 0))) ∧ Aside0 (w'.heap[gb209]? = some (.cells #[.int .i64 a0, .int .i64 x210001_14, u210002] 24 (0, 0))) ∧ Aside0 (Below w.heap.size w w'))
         case atStart => exact ⟨(0), (x199000_14), (x199001_14), (y206), (.slice Ao24 y206.length co24), (by first | rfl | (simp; done) | (simp [*]; done)), H', ⟨Nat.le_refl _⟩, ⟨by (with_reducible repeat (first | apply Kd.Q_alloc | apply Kd.Q_drewN | apply Kd.Q_drew)); exact HO215.out⟩, ⟨ra_ HO_210002.out⟩, ⟨bk_ BK198.out⟩, ⟨bk_ BK209.out⟩, ⟨bl_⟩⟩
         case round =>
          clear H'
          try clear c1
          try clear c2
          try clear p2
          try clear q2
          try clear hx2
          try clear qi2
          try clear c3
          try clear c4
          try clear q4
          try clear c9
          try clear p21
          try clear q21
          try clear hx21
          try clear qi21
          try clear c28
          try clear c30
          try clear c30b0
          try clear c32
          try clear c34
          try clear c37
          try clear c39
          try clear c39b0
          try clear c39b1
          try clear c40
          try clear q40
          try clear hcz29_0
          try clear hcz29_1
          try clear hcz29_2
          try clear hcz35_0
          try clear hcz35_1
          try clear hcz35_2
          try clear hcz38_0
          try clear hcz38_1
          try clear hcz38_2
          try clear hfz29_0
          try clear hfz29_1
          try clear hfz29_2
          try clear hfz35_0
          try clear hfz35_1
          try clear hfz35_2
          try clear hfz38_0
          try clear hfz38_1
          try clear hfz38_2
          try clear hx210_0
          try clear p2
          try clear p21
          try clear p210
          try clear q2
          try clear q21
          try clear q210
          try clear q40
          obtain ⟨x54_3, x199000_3, x199001_3, x210002_3, u210002, rfl, HA, HK3, HO_52, HO_210002, BK198, BK209, HB⟩ := hrel
          cases gk with
          | zero => exact absurd HA.out (by simp [impl_ReadCallLine.l0])
          | succ k3 =>
           have H := HA.out
           clear HA
           simp only [impl_ReadCallLine.l0] at H
           by_cases c41 : x54_3 < (y213.length : Int)
           ·rw [if_pos c41] at H
            have c41b0 : decide (x54_3 < (y213.length : Int)) = true := decide_eq_true c41
            clear c41
            by_cases c42 : 0 ≤ x54_3
            ·rw [if_pos c42] at H
             have c42b0 : decide (0 ≤ x54_3) = true := decide_eq_true c42
             clear c42
             by_cases c43 : x54_3 < (y213.length : Int)
             ·rw [if_pos c43] at H
              have c43b0 : decide (x54_3 < (y213.length : Int)) = true := decide_eq_true c43
              clear c43
              replace H := Option.bind_eq_some_iff.mp H
              obtain ⟨⟨t217, t218, t219⟩, A440, H⟩ := H
              try dsimp only at H
              have A44 := Aside0.mk A440
              clear A440
              by_cases c45 : t219 = true
              ·subst c45
               rw [if_pos rfl] at H
               by_cases c46 : x54_3 < (x210002_3.length : Int)
               ·rw [if_pos c46] at H
                have c46b0 : decide (x54_3 < (x210002_3.length : Int)) = true := decide_eq_true c46
                clear c46
                obtain ⟨y221, hy221⟩ : ∃ y_ : List (S103), y_ = (x210002_3.set (x54_3 : Int).toNat (⟨t217, t218⟩ : S103)) := ⟨_, rfl⟩
                replace H : (impl_ReadCallLine.l0 k3 y213 (y213.length : Int) (wrap64 (x54_3 + 1)) a0 x210001_14 y221) = some (r1, r2, r3, r4) := by first | (rw [hy221]; with_reducible exact H) | (have H2_ := (Option.bind_some _ _).symm.trans H; rw [hy221]; with_reducible exact H2_) | (have H2_ := (Option.bind_some _ _).symm.trans H; with_reducible exact H2_) | with_reducible exact H | (rw [hy221]; exact H) | exact H
                have Ny221 := Aside0.mk hy221
                clear hy221
                have H' := Aside0.mk H
                clear H
                have p216 : 0 ≤ (x54_3 : Int) := of_decide_eq_true as_
                have q216 : x54_3 < (y213.length : Int) := of_decide_eq_true as_
                obtain ⟨ad216, e216, hx216_0⟩ := Kd.at_string (Kd.Q_reads' HO_52.out).2.2 x54_3 p216 q216
                cases e216
                replace p216 := eq_true p216
                replace q216 := eq_true q216
                go_wp2_with (first | ((with_reducible refine gate_callee (f := 94) rfl ?_); refine goesL_ (some 61) rfl rfl Try.func94 (by kernel_rfl) rfl #[.string (rdOf ByteArray.empty y213 x54_3)] rfl lm_ ?_; (with_reducible refine (impl_wideOf.calls k3 (rdOf ByteArray.empty y213 x54_3) t217 t218 true _ A44.out).mono ?_); rintro e w48 ⟨rfl, hb⟩; refine ⟨_, rfl, ?_⟩; have n0_ := Aside0.mk (Kd.Q_below (by (with_reducible repeat (first | apply Kd.Q_alloc | apply Kd.Q_drewN | apply Kd.Q_drew)); exact HO_52.out) hb); have n1_ := Aside0.mk (Kd.R_below (ra_ HO_210002.out) hb); have n2_ := Aside0.mk (blk_below (g := gb198) (o := .cells #[.int .i64 x199000_3, .int .i64 x199001_3, .slice none 0 0] 24 (0, 0)) (bk_ BK198.out) hb); have n3_ := Aside0.mk (blk_below (g := gb209) (o := .cells #[.int .i64 a0, .int .i64 x210001_14, u210002] 24 (0, 0)) (bk_ BK209.out) hb); have n4_ := Aside0.mk (below_step bl_ hb); clear HO_52; clear HO_210002; clear BK198; clear BK209; clear HB; have HO_52 := n0_; have HO_210002 := n1_; have BK198 := n2_; have BK209 := n3_; have HB := n4_; clear n0_ n1_ n2_ n3_ n4_; (try clear hb); (try clear hb2); (try clear hk); (try clear hi)) | ((with_reducible refine gate_dst (N := 13) rfl ?_); (try (refine gate_guard (by rfl) ?_; dsimp only)); refine box_event ?hg (N := 13) ?hd (cs := #[.int .i64 0, .int .i64 0]) (t := 103) ?hr ?_; (case hd => rfl); (case hg => rfl); (case hr => first | (go_simp; done) | (go_simp; rfl)); intro gb220 hg w49 hbox hb; have n0_ := Aside0.mk (Kd.Q_below (by (with_reducible repeat (first | apply Kd.Q_alloc | apply Kd.Q_drewN | apply Kd.Q_drew)); exact HO_52.out) hb); have n1_ := Aside0.mk (Kd.R_below (Kd.R_elderB (ra_ HO_210002.out) gb220 (Nat.le_of_eq hg.symm)) hb); have n2_ := Aside0.mk (blk_below (g := gb198) (o := .cells #[.int .i64 x199000_3, .int .i64 x199001_3, .slice none 0 0] 24 (0, 0)) (bk_ BK198.out) hb); have n3_ := Aside0.mk (blk_below (g := gb209) (o := .cells #[.int .i64 a0, .int .i64 x210001_14, u210002] 24 (0, 0)) (bk_ BK209.out) hb); have n4_ := Aside0.mk (below_step bl_ hb); have n5_ := Aside0.mk (hbox); have n6_ := Aside0.mk ((hz_ : w.heap.size ≤ gb220)); have n7_ := Aside0.mk ((hz_ : w.heap.size ≤ gb220)); have n8_ := Aside0.mk ((by rw [hg]; exact Nat.ne_of_lt (blk_lt (g := gb198) (o := .cells #[.int .i64 x199000_3, .int .i64 x199001_3, .slice none 0 0] 24 (0, 0)) (bk_ BK198.out)) : gb198 ≠ gb220)); have n9_ := Aside0.mk ((by rw [hg]; exact Nat.ne_of_gt (blk_lt (g := gb198) (o := .cells #[.int .i64 x199000_3, .int .i64 x199001_3, .slice none 0 0] 24 (0, 0)) (bk_ BK198.out)) : gb220 ≠ gb198)); have n10_ := Aside0.mk ((by rw [hg]; exact Nat.ne_of_lt (blk_lt (g := gb209) (o := .cells #[.int .i64 a0, .int .i64 x210001_14, u210002] 24 (0, 0)) (bk_ BK209.out)) : gb209 ≠ gb220)); have n11_ := Aside0.mk ((by rw [hg]; exact Nat.ne_of_gt (blk_lt (g := gb209) (o := .cells #[.int .i64 a0, .int .i64 x210001_14, u210002] 24 (0, 0)) (bk_ BK209.out)) : gb220 ≠ gb209)); clear HO_52; clear HO_210002; clear BK198; clear BK209; clear HB; have HO_52 := n0_; have HO_210002 := n1_; have BK198 := n2_; have BK209 := n3_; have HB := n4_; have BK220 := n5_; have GW220 := n6_; have GE220 := n7_; have NB198_220 := n8_; have NB220_198 := n9_; have NB209_220 := n10_; have NB220_209 := n11_; clear n0_ n1_ n2_ n3_ n4_ n5_ n6_ n7_ n8_ n9_ n10_ n11_; clear hb hbox hg; have hnb50 := NB220_198.out; have hnc50 := NB198_220.out; have hnb51 := NB220_209.out; have hnc51 := NB209_220.out; have hcz52_0 : w49.cell? ⟨gb220, 0, none⟩ = some (.int .i64 0) := (blk_cell BK220.out 0).trans rfl; have hcz52_1 : w49.cell? ⟨gb220, 1, none⟩ = some (.int .i64 0) := (blk_cell BK220.out 1).trans rfl; have hfz52_0 := blk_frozen BK220.out 0; have hfz52_1 := blk_frozen BK220.out 1) | ((with_reducible refine gate_store (t := 103) (p := 13) rfl ?_); refine store_event (t := 103) (p := 13) (v := ?vo_w53) (w1 := ((w49.setCell ⟨gb220, 0, none⟩ (.int .i64 t217)).setCell ⟨gb220, 1, none⟩ (.int .i64 t218))) ?hg ?ho ?hn ?hr ?_; (case ho => rfl); (case hg => rfl); (case hn => rfl); (case hr => first | (go_simp; done) | (go_simp; rfl)); intro w53 hw; have n0_ : Aside0 (Kd.Q Kd.string 9 w53 w.heap.size (fun _ => True) (.slice (some ad216) y213.length c40) y213) := ⟨(by rw [hw]; exact (by (with_reducible repeat (first | apply Kd.Q_alloc | apply Kd.Q_drewN | apply Kd.Q_drew)); exact Kd.Q_mono (Kd.Q_far (p := ⟨gb220, 1, none⟩) (Kd.Q_far (p := ⟨gb220, 0, none⟩) (Kd.Q_types HO_52.out BK220.out (by decide)) (fun _ hk => hk.2) (.int .i64 t217)) (fun _ hk => hk.2) (.int .i64 t218)) (fun _ hk => trivial)))⟩; have n1_ : Aside0 (Kd.R k103 103 w53 w.heap.size (fun k_ => k_ ≠ gb220) u210002 x210002_3) := ⟨(by rw [hw]; exact (by (with_reducible repeat (first | apply Kd.R_alloc | apply Kd.R_drewN | apply Kd.R_drew)); exact Kd.R_mono (Kd.R_far (p := ⟨gb220, 1, none⟩) (Kd.R_far (p := ⟨gb220, 0, none⟩) (Kd.R_mono HO_210002.out (fun k_ hk => (⟨hk, hk.2⟩ : _ ∧ k_ ≠ gb220))) (fun _ hk => hk.2) (.int .i64 t217)) (fun _ hk => hk.2) (.int .i64 t218)) (fun _ hk => hk.1.2)))⟩; have n2_ : Aside0 (w53.heap[gb198]? = some (.cells #[.int .i64 x199000_3, .int .i64 x199001_3, .slice none 0 0] 24 (0, 0))) := ⟨(by rw [hw]; exact (by (with_reducible repeat (first | refine blk_drewN ?_ _ | refine blk_drew ?_ | refine blk_alloc ?_ _)); refine blk_far ?_ NB198_220.out _; (with_reducible repeat (first | refine blk_drewN ?_ _ | refine blk_drew ?_ | refine blk_alloc ?_ _)); refine blk_far ?_ NB198_220.out _; (with_reducible repeat (first | refine blk_drewN ?_ _ | refine blk_drew ?_ | refine blk_alloc ?_ _)); exact BK198.out))⟩; have n3_ : Aside0 (w53.heap[gb209]? = some (.cells #[.int .i64 a0, .int .i64 x210001_14, u210002] 24 (0, 0))) := ⟨(by rw [hw]; exact (by (with_reducible repeat (first | refine blk_drewN ?_ _ | refine blk_drew ?_ | refine blk_alloc ?_ _)); refine blk_far ?_ NB209_220.out _; (with_reducible repeat (first | refine blk_drewN ?_ _ | refine blk_drew ?_ | refine blk_alloc ?_ _)); refine blk_far ?_ NB209_220.out _; (with_reducible repeat (first | refine blk_drewN ?_ _ | refine blk_drew ?_ | refine blk_alloc ?_ _)); exact BK209.out))⟩; have n4_ : Aside0 (w53.heap[gb220]? = some (.cells #[.int .i64 t217, .int .i64 t218] 103 (0, 0))) := ⟨(by rw [hw]; exact (by (with_reducible repeat (first | refine blk_drewN ?_ _ | refine blk_drew ?_ | refine blk_alloc ?_ _)); refine blk_put (cs := #[.int .i64 t217, .int .i64 0]) ?_ 1 _ rfl; (with_reducible repeat (first | refine blk_drewN ?_ _ | refine blk_drew ?_ | refine blk_alloc ?_ _)); refine blk_put (cs := #[.int .i64 0, .int .i64 0]) ?_ 0 _ rfl; (with_reducible repeat (first | refine blk_drewN ?_ _ | refine blk_drew ?_ | refine blk_alloc ?_ _)); exact BK220.out))⟩; have n5_ : Aside0 (Below w.heap.size w w53) := ⟨(by rw [hw]; exact bl_)⟩; clear hw; clear HO_52; clear HO_210002; clear BK198; clear BK209; clear BK220; clear HB; have HO_52 := n0_; have HO_210002 := n1_; have BK198 := n2_; have BK209 := n3_; have BK220 := n4_; have HB := n5_; clear n0_ n1_ n2_ n3_ n4_ n5_; have hnb54 := NB209_198.out; have hnc54 := NB198_209.out; have hcz55_0 : w53.cell? ⟨gb209, 0, none⟩ = some (.int .i64 a0) := (blk_cell BK209.out 0).trans rfl; have hcz55_1 : w53.cell? ⟨gb209, 1, none⟩ = some (.int .i64 x210001_14) := (blk_cell BK209.out 1).trans rfl; have hcz55_2 : w53.cell? ⟨gb209, 2, none⟩ = some (u210002) := (blk_cell BK209.out 2).trans rfl; have hfz55_0 := blk_frozen BK209.out 0; have hfz55_1 := blk_frozen BK209.out 1; have hfz55_2 := blk_frozen BK209.out 2; have hcz56_0 : w53.cell? ⟨gb220, 0, none⟩ = some (.int .i64 t217) := (blk_cell BK220.out 0).trans rfl; have hcz56_1 : w53.cell? ⟨gb220, 1, none⟩ = some (.int .i64 t218) := (blk_cell BK220.out 1).trans rfl; have hfz56_0 := blk_frozen BK220.out 0; have hfz56_1 := blk_frozen BK220.out 1; have p47 : 0 ≤ (x54_3 : Int) := of_decide_eq_true as_; have q47 : (x54_3 : Int) < ((x210002_3.length : Int) : Int) := of_decide_eq_true as_; obtain ⟨go47, co47, eo47, gb47, gl47, cl47, HG47⟩ := Kd.R_form HO_210002.out (by omega); (first | cases eo47 | (injection eo47 with ea_ en_ ec_; (first | subst ea_ | (injection ea_ with ea_; subst ea_)); subst ec_; clear en_)); have GB47 := Aside0.mk gb47; have GG47 := Aside0.mk HG47; clear gb47 gl47 HG47; obtain ⟨ce47, hcl47, hM47, hcc47, hfr47⟩ := Kd.R_elem HO_210002.out z103 (x54_3 : Int) p47 q47; obtain rfl := k103_openM hM47; have hx47_0 : w53.cell? ⟨go47, (x54_3 : Int).toNat * 2, none⟩ = some (.int .i64 ((rd_T103 x210002_3 x54_3).f0)) := hcc47 0 _ rfl; have hx47_1 : w53.cell? ⟨go47, (x54_3 : Int).toNat * 2 + 1, none⟩ = some (.int .i64 ((rd_T103 x210002_3 x54_3).f1)) := hcc47 1 _ rfl; have hf47_0 : w53.frozen? ⟨go47, (x54_3 : Int).toNat * 2, none⟩ = false := hfr47 0; have hf47_1 : w53.frozen? ⟨go47, (x54_3 : Int).toNat * 2 + 1, none⟩ = false := hfr47 1; clear hcl47 hcc47 hfr47 hM47; replace p47 := eq_true p47; replace q47 := eq_true q47; have HX57 := Aside0.mk (show Kd.R k103 103 w53 w.heap.size (fun k_ => k_ ≠ gb220) (.slice (some ⟨go47, 0, none⟩) x210002_3.length co47) x210002_3 from (ra_ HO_210002.out)); obtain ⟨ce57, hcl57, hM57, hcc57, hfr57⟩ := Kd.R_elem HX57.out z103 (x54_3 : Int) (of_decide_eq_true as_) (by have h_ : (x54_3 : Int) < ((x210002_3.length : Int) : Int) := of_decide_eq_true as_; first | exact h_ | (have e_ := (Kd.R_reads' HO_210002.out).1; omega) | simpa using h_); obtain rfl := k103_openM hM57; have HP57 := Kd.R_seg HX57.out (x54_3 : Int) (of_decide_eq_true as_) (by have h_ : (x54_3 : Int) < ((x210002_3.length : Int) : Int) := of_decide_eq_true as_; first | exact h_ | (have e_ := (Kd.R_reads' HO_210002.out).1; omega) | simpa using h_) (seg := [.int .i64 t217, .int .i64 t218]) (j := 0) hcl57 hcc57 (show 2 ≤ 2 from by decide) (x' := (⟨t217, t218⟩ : S103)) (k103_mkM _ _ _ (⟨t217, t218⟩ : S103) ) (fun _ hk => hk); have hx57_0 := hcc57 0 _ rfl; (try simp only [show (k103).sz = 2 from rfl, Nat.mul_one, Nat.add_zero] at hx57_0); have hf57_0 := hfr57 0; (try simp only [show (k103).sz = 2 from rfl, Nat.mul_one, Nat.add_zero] at hf57_0); have hx57_1 := hcc57 1 _ rfl; (try simp only [show (k103).sz = 2 from rfl, Nat.mul_one, Nat.add_zero] at hx57_1); have hf57_1 := hfr57 1; (try simp only [show (k103).sz = 2 from rfl, Nat.mul_one, Nat.add_zero] at hf57_1); clear hcl57 hcc57 hfr57 hM57) | ((with_reducible refine gate_store (t := 103) (p := 71) rfl ?_); refine store_event (t := 103) (p := 71) (v := ?vo_w58) (w1 := ((w53.setCell ⟨go47, (x54_3 : Int).toNat * 2, none⟩ (.int .i64 t217)).setCell ⟨go47, (x54_3 : Int).toNat * 2 + 1, none⟩ (.int .i64 t218))) ?hg ?ho ?hn ?hr ?_; (case ho => rfl); (case hg => rfl); (case hn => rfl); (case hr => first | (go_simp; done) | (go_simp; rfl)); intro w58 hw; have hg : w53.grownBy w58 (some go47) := (by rw [hw]; exact HP57.2); have hp_ : Kd.R k103 103 w58 w.heap.size (fun k_ => k_ ≠ gb220) (.slice (some ⟨go47, 0, none⟩) x210002_3.length co47) y221 := (by rw [hw, Ny221.out]; exact HP57.1); clear HP57; have n0_ := Aside0.mk (Kd.Q_over' (v := (.slice (some ⟨go47, 0, none⟩) x210002_3.length co47)) (by (with_reducible repeat (first | apply Kd.Q_alloc | apply Kd.Q_drewN | apply Kd.Q_drew)); exact HO_52.out) (Kd.R_typed HO_210002.out) (by decide) hg); have n1_ := Aside0.mk (hp_); have n2_ := Aside0.mk (blk_grown (g := gb198) (o := .cells #[.int .i64 x199000_3, .int .i64 x199001_3, .slice none 0 0] 24 (0, 0)) (bk_ BK198.out) hg (Kd.R_ne HO_210002.out BK198.out (by decide))); have n3_ := Aside0.mk (blk_grown (g := gb209) (o := .cells #[.int .i64 a0, .int .i64 x210001_14, .slice (some ⟨go47, 0, none⟩) x210002_3.length co47] 24 (0, 0)) (bk_ BK209.out) hg (Kd.R_ne HO_210002.out BK209.out (by decide))); have n4_ := Aside0.mk (blk_grown (g := gb220) (o := .cells #[.int .i64 t217, .int .i64 t218] 103 (0, 0)) (bk_ BK220.out) hg (Kd.R_away HO_210002.out (fun _ hk => hk))); have n5_ := Aside0.mk ((by rw [hw]; exact below_set (below_set (HB.out) GB47.out) GB47.out : Below w.heap.size w w58)); clear HO_52; clear HO_210002; clear BK198; clear BK209; clear BK220; clear HB; have HO_52 := n0_; have HO_210002 := n1_; have BK198 := n2_; have BK209 := n3_; have BK220 := n4_; have HB := n5_; clear n0_ n1_ n2_ n3_ n4_ n5_; clear hg hw hp_))
                go_roundg k3
                case measure => have := HJ3.out; have := HJ14.out; have := HK3.out; omega
                case rel => exact ⟨(wrap64 (x54_3 + 1)), (x199000_3), (x199001_3), (y221), (.slice (some ⟨go47, 0, none⟩) x210002_3.length co47), (by first | rfl | (simp; done) | (simp [*]; done)), H', ⟨by have := HJ3.out; have := HJ14.out; have := HK3.out; omega⟩, ⟨by (with_reducible repeat (first | apply Kd.Q_alloc | apply Kd.Q_drewN | apply Kd.Q_drew)); exact HO_52.out⟩, ⟨by (with_reducible repeat (first | apply Kd.R_alloc | apply Kd.R_drewN | apply Kd.R_drew)); exact Kd.R_mono HO_210002.out (fun _ hk => trivial)⟩, ⟨bk_ BK198.out⟩, ⟨bk_ BK209.out⟩, ⟨bl_⟩⟩
               ·rw [if_neg c46] at H
                exact absurd H (by simp)
              ·replace c45 := Bool.eq_false_iff.mpr c45
               subst c45
               rw [if_neg (show ¬ (false = true) by decide)] at H
               simp only [Option.some.injEq, Prod.mk.injEq] at H
               obtain ⟨rfl, rfl, rfl, rfl⟩ := H
               have p216 : 0 ≤ (x54_3 : Int) := of_decide_eq_true as_
               have q216 : x54_3 < (y213.length : Int) := of_decide_eq_true as_
               obtain ⟨ad216, e216, hx216_0⟩ := Kd.at_string (Kd.Q_reads' HO_52.out).2.2 x54_3 p216 q216
               cases e216
               replace p216 := eq_true p216
               replace q216 := eq_true q216
               go_wp2_with (first | ((with_reducible refine gate_callee (f := 94) rfl ?_); refine goesL_ (some 61) rfl rfl Try.func94 (by kernel_rfl) rfl #[.string (rdOf ByteArray.empty y213 x54_3)] rfl lm_ ?_; (with_reducible refine (impl_wideOf.calls k3 (rdOf ByteArray.empty y213 x54_3) t217 t218 false _ A44.out).mono ?_); rintro e w59 ⟨rfl, hb⟩; refine ⟨_, rfl, ?_⟩; have n0_ := Aside0.mk (Kd.Q_below (by (with_reducible repeat (first | apply Kd.Q_alloc | apply Kd.Q_drewN | apply Kd.Q_drew)); exact HO_52.out) hb); have n1_ := Aside0.mk (Kd.R_below (ra_ HO_210002.out) hb); have n2_ := Aside0.mk (blk_below (g := gb198) (o := .cells #[.int .i64 x199000_3, .int .i64 x199001_3, .slice none 0 0] 24 (0, 0)) (bk_ BK198.out) hb); have n3_ := Aside0.mk (blk_below (g := gb209) (o := .cells #[.int .i64 a0, .int .i64 x210001_14, u210002] 24 (0, 0)) (bk_ BK209.out) hb); have n4_ := Aside0.mk (below_step bl_ hb); clear HO_52; clear HO_210002; clear BK198; clear BK209; clear HB; have HO_52 := n0_; have HO_210002 := n1_; have BK198 := n2_; have BK209 := n3_; have HB := n4_; clear n0_ n1_ n2_ n3_ n4_; (try clear hb); (try clear hb2); (try clear hk); (try clear hi)) | ((with_reducible refine gate_dst (N := 13) rfl ?_); (try (refine gate_guard (by rfl) ?_; dsimp only)); refine box_event ?hg (N := 13) ?hd (cs := #[.int .i64 0, .int .i64 0]) (t := 103) ?hr ?_; (case hd => rfl); (case hg => rfl); (case hr => first | (go_simp; done) | (go_simp; rfl)); intro gb220 hg w60 hbox hb; have n0_ := Aside0.mk (Kd.Q_below (by (with_reducible repeat (first | apply Kd.Q_alloc | apply Kd.Q_drewN | apply Kd.Q_drew)); exact HO_52.out) hb); have n1_ := Aside0.mk (Kd.R_below (Kd.R_elderB (ra_ HO_210002.out) gb220 (Nat.le_of_eq hg.symm)) hb); have n2_ := Aside0.mk (blk_below (g := gb198) (o := .cells #[.int .i64 x199000_3, .int .i64 x199001_3, .slice none 0 0] 24 (0, 0)) (bk_ BK198.out) hb); have n3_ := Aside0.mk (blk_below (g := gb209) (o := .cells #[.int .i64 a0, .int .i64 x210001_14, u210002] 24 (0, 0)) (bk_ BK209.out) hb); have n4_ := Aside0.mk (below_step bl_ hb); have n5_ := Aside0.mk (hbox); have n6_ := Aside0.mk ((hz_ : w.heap.size ≤ gb220)); have n7_ := Aside0.mk ((hz_ : w.heap.size ≤ gb220)); have n8_ := Aside0.mk ((by rw [hg]; exact Nat.ne_of_lt (blk_lt (g := gb198) (o := .cells #[.int .i64 x199000_3, .int .i64 x199001_3, .slice none 0 0] 24 (0, 0)) (bk_ BK198.out)) : gb198 ≠ gb220)); have n9_ := Aside0.mk ((by rw [hg]; exact Nat.ne_of_gt (blk_lt (g := gb198) (o := .cells #[.int .i64 x199000_3, .int .i64 x199001_3, .slice none 0 0] 24 (0, 0)) (bk_ BK198.out)) : gb220 ≠ gb198)); have n10_ := Aside0.mk ((by rw [hg]; exact Nat.ne_of_lt (blk_lt (g := gb209) (o := .cells #[.int .i64 a0, .int .i64 x210001_14, u210002] 24 (0, 0)) (bk_ BK209.out)) : gb209 ≠ gb220)); have n11_ := Aside0.mk ((by rw [hg]; exact Nat.ne_of_gt (blk_lt (g := gb209) (o := .cells #[.int .i64 a0, .int .i64 x210001_14, u210002] 24 (0, 0)) (bk_ BK209.out)) : gb220 ≠ gb209)); clear HO_52; clear HO_210002; clear BK198; clear BK209; clear HB; have HO_52 := n0_; have HO_210002 := n1_; have BK198 := n2_; have BK209 := n3_; have HB := n4_; have BK220 := n5_; have GW220 := n6_; have GE220 := n7_; have NB198_220 := n8_; have NB220_198 := n9_; have NB209_220 := n10_; have NB220_209 := n11_; clear n0_ n1_ n2_ n3_ n4_ n5_ n6_ n7_ n8_ n9_ n10_ n11_; clear hb hbox hg; have hnb61 := NB220_198.out; have hnc61 := NB198_220.out; have hnb62 := NB220_209.out; have hnc62 := NB209_220.out; have hcz63_0 : w60.cell? ⟨gb220, 0, none⟩ = some (.int .i64 0) := (blk_cell BK220.out 0).trans rfl; have hcz63_1 : w60.cell? ⟨gb220, 1, none⟩ = some (.int .i64 0) := (blk_cell BK220.out 1).trans rfl; have hfz63_0 := blk_frozen BK220.out 0; have hfz63_1 := blk_frozen BK220.out 1; have hnb64 := NB198_209.out; have hnc64 := NB209_198.out; have hcz65_0 : w60.cell? ⟨gb198, 0, none⟩ = some (.int .i64 x199000_3) := (blk_cell BK198.out 0).trans rfl; have hcz65_1 : w60.cell? ⟨gb198, 1, none⟩ = some (.int .i64 x199001_3) := (blk_cell BK198.out 1).trans rfl; have hcz65_2 : w60.cell? ⟨gb198, 2, none⟩ = some (.slice none 0 0) := (blk_cell BK198.out 2).trans rfl; have hfz65_0 := blk_frozen BK198.out 0; have hfz65_1 := blk_frozen BK198.out 1; have hfz65_2 := blk_frozen BK198.out 2))
               refine bodyPost_ret (results_ct rfl _ _ gb198 24 #[.int .i64 0, .int .i64 0, .slice none 0 0] (0, 0) _ rfl (by (with_reducible repeat (first | refine blk_drewN ?_ _ | refine blk_drew ?_ | refine blk_alloc ?_ _)); refine blk_put (cs := #[.int .i64 0, .int .i64 0, .slice none 0 0]) ?_ 2 _ rfl; (with_reducible repeat (first | refine blk_drewN ?_ _ | refine blk_drew ?_ | refine blk_alloc ?_ _)); refine blk_put (cs := #[.int .i64 0, .int .i64 x199001_3, .slice none 0 0]) ?_ 1 _ rfl; (with_reducible repeat (first | refine blk_drewN ?_ _ | refine blk_drew ?_ | refine blk_alloc ?_ _)); refine blk_put (cs := #[.int .i64 x199000_3, .int .i64 x199001_3, .slice none 0 0]) ?_ 0 _ rfl; (with_reducible repeat (first | refine blk_drewN ?_ _ | refine blk_drew ?_ | refine blk_alloc ?_ _)); refine blk_far ?_ NB198_220.out _; (with_reducible repeat (first | refine blk_drewN ?_ _ | refine blk_drew ?_ | refine blk_alloc ?_ _)); refine blk_far ?_ NB198_220.out _; (with_reducible repeat (first | refine blk_drewN ?_ _ | refine blk_drew ?_ | refine blk_alloc ?_ _)); exact BK198.out) Try.underlying24 rfl (by kernel_rfl)) rfl ?_
               exact ⟨_, by first | rfl | (simp [errW_none, errW_some] <;> rfl) | (simp [*, errW_none, errW_some] <;> rfl) | exact False.elim (Bool.noConfusion ((decide_eq_true (of_eq_true (by assumption))).symm.trans (by assumption))), by first | exact Kd.R_nil _ _ _ _ _ | exact Kd.N_nil _ _ _ _ _ | exact Kd.V_nil _ _ _ _ _ | exact Kd.Q_nil _ _ _ _ _ | exact Kd.S_nil _ _ _ _ _, bl_⟩
             ·rw [if_neg c43] at H
              exact absurd H (by simp)
            ·rw [if_neg c42] at H
             exact absurd H (by simp)
           ·rw [if_neg c41] at H
            have c41b0 : decide (x54_3 < (y213.length : Int)) = false := decide_eq_false c41
            clear c41
            replace H := Option.bind_eq_some_iff.mp H
            obtain ⟨t222, A660, H⟩ := H
            try dsimp only at H
            have A66 := Aside0.mk A660
            clear A660
            by_cases c67 : t222 = true
            ·subst c67
             rw [if_pos rfl] at H
             simp only [Option.some.injEq, Prod.mk.injEq] at H
             obtain ⟨rfl, rfl, rfl, rfl⟩ := H
             have hnb68 := NB209_198.out
             have hnc68 := NB198_209.out
             have hcz69_0 : wr.cell? ⟨gb209, 0, none⟩ = some (.int .i64 a0) := (blk_cell BK209.out 0).trans rfl
             have hcz69_1 : wr.cell? ⟨gb209, 1, none⟩ = some (.int .i64 x210001_14) := (blk_cell BK209.out 1).trans rfl
             have hcz69_2 : wr.cell? ⟨gb209, 2, none⟩ = some (u210002) := (blk_cell BK209.out 2).trans rfl
             have hfz69_0 := blk_frozen BK209.out 0
             have hfz69_1 := blk_frozen BK209.out 1
             have hfz69_2 := blk_frozen BK209.out 2
             obtain ⟨Ao70, co70, eo70⟩ := Kd.R_slice HO_210002.out
             subst eo70
             go_wp2_with (first | ((with_reducible refine gate_callee (f := 95) rfl ?_); refine goesL_ (some 74) rfl rfl Try.func95 (by kernel_rfl) rfl #[.agg #[.int .i64 a0, .int .i64 x210001_14, .slice Ao70 x210002_3.length co70]] rfl lm_ ?_; (with_reducible refine (impl_CallOk.calls k3 a0 x210001_14 _ _ x210002_3 true _ ?side1 ?side2 A66.out).mono ?_); (case side1 => repeat (first | exact (Kd.R_reads' HO_210002.out).2.2 | (with_reducible refine Kd.C_alloc ?_ _) | (with_reducible refine Kd.C_drewN ?_ _) | (with_reducible refine Kd.C_drew ?_))); (case side2 => exact (Kd.R_reads' HO_210002.out).2.1); rintro e w71 ⟨rfl, hb⟩; refine ⟨_, rfl, ?_⟩; have n0_ := Aside0.mk (Kd.Q_below (by (with_reducible repeat (first | apply Kd.Q_alloc | apply Kd.Q_drewN | apply Kd.Q_drew)); exact HO_52.out) hb); have n1_ := Aside0.mk (Kd.R_below (ra_ HO_210002.out) hb); have n2_ := Aside0.mk (blk_below (g := gb198) (o := .cells #[.int .i64 x199000_3, .int .i64 x199001_3, .slice none 0 0] 24 (0, 0)) (bk_ BK198.out) hb); have n3_ := Aside0.mk (blk_below (g := gb209) (o := .cells #[.int .i64 a0, .int .i64 x210001_14, .slice Ao70 x210002_3.length co70] 24 (0, 0)) (bk_ BK209.out) hb); have n4_ := Aside0.mk (below_step bl_ hb); clear HO_52; clear HO_210002; clear BK198; clear BK209; clear HB; have HO_52 := n0_; have HO_210002 := n1_; have BK198 := n2_; have BK209 := n3_; have HB := n4_; clear n0_ n1_ n2_ n3_ n4_; (try clear hb); (try clear hb2); (try clear hk); (try clear hi); have hcz72_0 : w71.cell? ⟨gb209, 0, none⟩ = some (.int .i64 a0) := (blk_cell BK209.out 0).trans rfl; have hcz72_1 : w71.cell? ⟨gb209, 1, none⟩ = some (.int .i64 x210001_14) := (blk_cell BK209.out 1).trans rfl; have hcz72_2 : w71.cell? ⟨gb209, 2, none⟩ = some (.slice Ao70 x210002_3.length co70) := (blk_cell BK209.out 2).trans rfl; have hfz72_0 := blk_frozen BK209.out 0; have hfz72_1 := blk_frozen BK209.out 1; have hfz72_2 := blk_frozen BK209.out 2; have hcz73_0 : w71.cell? ⟨gb198, 0, none⟩ = some (.int .i64 x199000_3) := (blk_cell BK198.out 0).trans rfl; have hcz73_1 : w71.cell? ⟨gb198, 1, none⟩ = some (.int .i64 x199001_3) := (blk_cell BK198.out 1).trans rfl; have hcz73_2 : w71.cell? ⟨gb198, 2, none⟩ = some (.slice none 0 0) := (blk_cell BK198.out 2).trans rfl; have hfz73_0 := blk_frozen BK198.out 0; have hfz73_1 := blk_frozen BK198.out 1; have hfz73_2 := blk_frozen BK198.out 2))
             refine bodyPost_ret (results_ct rfl _ _ gb198 24 #[.int .i64 a0, .int .i64 x210001_14, .slice Ao70 x210002_3.length co70] (0, 0) _ rfl (by (with_reducible repeat (first | refine blk_drewN ?_ _ | refine blk_drew ?_ | refine blk_alloc ?_ _)); refine blk_put (cs := #[.int .i64 a0, .int .i64 x210001_14, .slice none 0 0]) ?_ 2 _ rfl; (with_reducible repeat (first | refine blk_drewN ?_ _ | refine blk_drew ?_ | refine blk_alloc ?_ _)); refine blk_put (cs := #[.int .i64 a0, .int .i64 x199001_3, .slice none 0 0]) ?_ 1 _ rfl; (with_reducible repeat (first | refine blk_drewN ?_ _ | refine blk_drew ?_ | refine blk_alloc ?_ _)); refine blk_put (cs := #[.int .i64 x199000_3, .int .i64 x199001_3, .slice none 0 0]) ?_ 0 _ rfl; (with_reducible repeat (first | refine blk_drewN ?_ _ | refine blk_drew ?_ | refine blk_alloc ?_ _)); exact BK198.out) Try.underlying24 rfl (by kernel_rfl)) rfl ?_
             exact ⟨_, by first | rfl | (simp [errW_none, errW_some] <;> rfl) | (simp [*, errW_none, errW_some] <;> rfl) | exact False.elim (Bool.noConfusion ((decide_eq_true (of_eq_true (by assumption))).symm.trans (by assumption))), by (with_reducible repeat (first | apply Kd.R_alloc | apply Kd.R_drewN | apply Kd.R_drew)); exact Kd.R_mono (Kd.R_far (p := ⟨gb198, 2, none⟩) (Kd.R_far (p := ⟨gb198, 1, none⟩) (Kd.R_far (p := ⟨gb198, 0, none⟩) (Kd.R_types HO_210002.out BK198.out (by decide)) (fun _ hk => hk.2) (.int .i64 a0)) (fun _ hk => hk.2) (.int .i64 x210001_14)) (fun _ hk => hk.2) (.slice Ao70 x210002_3.length co70)) (fun _ hk => trivial), bl_⟩
            ·replace c67 := Bool.eq_false_iff.mpr c67
             subst c67
             rw [if_neg (show ¬ (false = true) by decide)] at H
             simp only [Option.some.injEq, Prod.mk.injEq] at H
             obtain ⟨rfl, rfl, rfl, rfl⟩ := H
             have hnb74 := NB209_198.out
             have hnc74 := NB198_209.out
             have hcz75_0 : wr.cell? ⟨gb209, 0, none⟩ = some (.int .i64 a0) := (blk_cell BK209.out 0).trans rfl
             have hcz75_1 : wr.cell? ⟨gb209, 1, none⟩ = some (.int .i64 x210001_14) := (blk_cell BK209.out 1).trans rfl
             have hcz75_2 : wr.cell? ⟨gb209, 2, none⟩ = some (u210002) := (blk_cell BK209.out 2).trans rfl
             have hfz75_0 := blk_frozen BK209.out 0
             have hfz75_1 := blk_frozen BK209.out 1
             have hfz75_2 := blk_frozen BK209.out 2
             obtain ⟨Ao76, co76, eo76⟩ := Kd.R_slice HO_210002.out
             subst eo76
             go_wp2_with (first | ((with_reducible refine gate_callee (f := 95) rfl ?_); refine goesL_ (some 74) rfl rfl Try.func95 (by kernel_rfl) rfl #[.agg #[.int .i64 a0, .int .i64 x210001_14, .slice Ao76 x210002_3.length co76]] rfl lm_ ?_; (with_reducible refine (impl_CallOk.calls k3 a0 x210001_14 _ _ x210002_3 false _ ?side1 ?side2 A66.out).mono ?_); (case side1 => repeat (first | exact (Kd.R_reads' HO_210002.out).2.2 | (with_reducible refine Kd.C_alloc ?_ _) | (with_reducible refine Kd.C_drewN ?_ _) | (with_reducible refine Kd.C_drew ?_))); (case side2 => exact (Kd.R_reads' HO_210002.out).2.1); rintro e w77 ⟨rfl, hb⟩; refine ⟨_, rfl, ?_⟩; have n0_ := Aside0.mk (Kd.Q_below (by (with_reducible repeat (first | apply Kd.Q_alloc | apply Kd.Q_drewN | apply Kd.Q_drew)); exact HO_52.out) hb); have n1_ := Aside0.mk (Kd.R_below (ra_ HO_210002.out) hb); have n2_ := Aside0.mk (blk_below (g := gb198) (o := .cells #[.int .i64 x199000_3, .int .i64 x199001_3, .slice none 0 0] 24 (0, 0)) (bk_ BK198.out) hb); have n3_ := Aside0.mk (blk_below (g := gb209) (o := .cells #[.int .i64 a0, .int .i64 x210001_14, .slice Ao76 x210002_3.length co76] 24 (0, 0)) (bk_ BK209.out) hb); have n4_ := Aside0.mk (below_step bl_ hb); clear HO_52; clear HO_210002; clear BK198; clear BK209; clear HB; have HO_52 := n0_; have HO_210002 := n1_; have BK198 := n2_; have BK209 := n3_; have HB := n4_; clear n0_ n1_ n2_ n3_ n4_; (try clear hb); (try clear hb2); (try clear hk); (try clear hi); have hcz78_0 : w77.cell? ⟨gb198, 0, none⟩ = some (.int .i64 x199000_3) := (blk_cell BK198.out 0).trans rfl; have hcz78_1 : w77.cell? ⟨gb198, 1, none⟩ = some (.int .i64 x199001_3) := (blk_cell BK198.out 1).trans rfl; have hcz78_2 : w77.cell? ⟨gb198, 2, none⟩ = some (.slice none 0 0) := (blk_cell BK198.out 2).trans rfl; have hfz78_0 := blk_frozen BK198.out 0; have hfz78_1 := blk_frozen BK198.out 1; have hfz78_2 := blk_frozen BK198.out 2))
             refine bodyPost_ret (results_ct rfl _ _ gb198 24 #[.int .i64 0, .int .i64 0, .slice none 0 0] (0, 0) _ rfl (by (with_reducible repeat (first | refine blk_drewN ?_ _ | refine blk_drew ?_ | refine blk_alloc ?_ _)); refine blk_put (cs := #[.int .i64 0, .int .i64 0, .slice none 0 0]) ?_ 2 _ rfl; (with_reducible repeat (first | refine blk_drewN ?_ _ | refine blk_drew ?_ | refine blk_alloc ?_ _)); refine blk_put (cs := #[.int .i64 0, .int .i64 x199001_3, .slice none 0 0]) ?_ 1 _ rfl; (with_reducible repeat (first | refine blk_drewN ?_ _ | refine blk_drew ?_ | refine blk_alloc ?_ _)); refine blk_put (cs := #[.int .i64 x199000_3, .int .i64 x199001_3, .slice none 0 0]) ?_ 0 _ rfl; (with_reducible repeat (first | refine blk_drewN ?_ _ | refine blk_drew ?_ | refine blk_alloc ?_ _)); exact BK198.out) Try.underlying24 rfl (by kernel_rfl)) rfl ?_
             exact ⟨_, by first | rfl | (simp [errW_none, errW_some] <;> rfl) | (simp [*, errW_none, errW_some] <;> rfl) | exact False.elim (Bool.noConfusion ((decide_eq_true (of_eq_true (by assumption))).symm.trans (by assumption))), by first | exact Kd.R_nil _ _ _ _ _ | exact Kd.N_nil _ _ _ _ _ | exact Kd.V_nil _ _ _ _ _ | exact Kd.Q_nil _ _ _ _ _ | exact Kd.S_nil _ _ _ _ _, bl_⟩
        ·rw [if_neg c39] at H
         exact absurd H (by simp)
     ·rw [if_neg c14] at H
      exact absurd H (by simp)
    ·rw [if_neg c12] at H
     exact absurd H (by simp)

end Go.Proofs.Ytmjlhikflhbdaaa.PA
