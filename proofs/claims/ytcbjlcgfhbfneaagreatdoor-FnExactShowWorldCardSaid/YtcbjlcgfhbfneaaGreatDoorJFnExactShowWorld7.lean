/- Contracts of functions of the program and of the reference, and plain lemmas on what they compute: a part of the proof of the law FnExactShowWorld. No condition. -/
import Derived.Test.YtcbjlcgfhbfneaaGreatDoorJFnExactShowWorld1
import Derived.Test.YtcbjlcgfhbfneaaGreatDoorJFnExactShowWorld2
import Derived.Test.YtcbjlcgfhbfneaaGreatDoorJFnExactShowWorld6
import Derived.Test.YtcbjlcgfhbfneaaGreatDoorJFnExactShowWorld3
import Derived.Test.YtcbjlcgfhbfneaaGreatDoorJFnExactShowWorld5
import Derived.Test.YtcbjlcgfhbfneaaGreatDoorShortV
set_option maxHeartbeats 8000000
set_option maxRecDepth 100000
namespace Go.Proofs.YtcbjlcgfhbfneaaGreatDoor.PA
open Go.RowKit Go.Proofs.YtcbjlcgfhbfneaaGreatDoor.Short Go.Proofs.YtcbjlcgfhbfneaaGreatDoorW.PrintWords Go.Proofs.YtcbjlcgfhbfneaaGreatDoorW.PrintLast Go.Proofs.YtcbjlcgfhbfneaaGreatDoorW.PrintMore
attribute [local go_sem] max2_int min2_int max_two min_two max_three min_three max_four min_four   -- for this text's walks alone
set_option linter.unusedVariables false
set_option linter.unusedSimpArgs false

attribute [local go_sem high] eqA59
def impl_FrameOk.j0 : Nat → Bool → Int → Int → Int → Int → Int → Int → Int → Option (Bool)
 | 0, _, _, _, _, _, _, _, _ => none
 | k + 1, x12, x440000, x440001, x440002, x440003, x440004, x440005, x440006 => if x12 = true then (some false) else (if x440000 = 1 then ((impl_ItemOk.f x440003 x440004 x440005 x440006).bind fun t442 => (some t442)) else (if x440000 = 2 then (some (x440003 == 0 && (x440004 == 0 && (x440005 == 0 && (x440006 == 0))))) else (some false)))
def impl_FrameOk.f (k : Nat) (a0_0 : Int) (a0_1 : Int) (a0_2 : Int) (a0_3 : Int) (a0_4 : Int) (a0_5 : Int) (a0_6 : Int) : Option (Bool) := (impl_isPid.f a0_1).bind fun t440 => (if t440 = true then ((impl_within.f a0_2 1 1000000000).bind fun t441 => (impl_FrameOk.j0 k (!t441) a0_0 a0_1 a0_2 a0_3 a0_4 a0_5 a0_6)) else (impl_FrameOk.j0 k true a0_0 a0_1 a0_2 a0_3 a0_4 a0_5 a0_6))
theorem impl_FrameOk.mono_l : ∀ k, (∀ y0 y1 y2 y3 y4 y5 y6 y7, LeO (impl_FrameOk.j0 k y0 y1 y2 y3 y4 y5 y6 y7) (impl_FrameOk.j0 (k + 1) y0 y1 y2 y3 y4 y5 y6 y7))
 | 0 => fun _ _ _ _ _ _ _ _ r h => by simp [impl_FrameOk.j0] at h
 | k + 1 => by
  have ih0 := impl_FrameOk.mono_l k
  ·intro y0 y1 y2 y3 y4 y5 y6 y7
   unfold impl_FrameOk.j0
   exact mo_
theorem impl_FrameOk.mono : ∀ a0 a1 a2 a3 a4 a5 a6 k, LeO (impl_FrameOk.f k a0 a1 a2 a3 a4 a5 a6) (impl_FrameOk.f (k + 1) a0 a1 a2 a3 a4 a5 a6) := by
 intro a0 a1 a2 a3 a4 a5 a6 k
 have ih0 := impl_FrameOk.mono_l k
 unfold impl_FrameOk.f
 exact mo_
theorem impl_FrameOk.calls (k : Nat) (a0_0 : Int) (a0_1 : Int) (a0_2 : Int) (a0_3 : Int) (a0_4 : Int) (a0_5 : Int) (a0_6 : Int) (r : Bool) (w : World) (h : impl_FrameOk.f k a0_0 a0_1 a0_2 a0_3 a0_4 a0_5 a0_6 = some r) :
 Calls Tryz.prog 102 #[.agg #[.int .i64 a0_0, .int .i64 a0_1, .int .i64 a0_2, .int .i64 a0_3, .int .i64 a0_4, .int .i64 a0_5, .int .i64 a0_6]] w fun e w' => e = .returned (.bool r) ∧ Below w.heap.size w w' := by
 have hu134 := Tryz.underlying134
 have hu59 := Tryz.underlying59
 have HB := Aside0.mk (Below.refl w.heap.size w)
 have H := h
 unfold impl_FrameOk.f at H
 clear h
 have HC2 := Aside0.mk H
 clear H
 go_enter Tryz.func102, Tryz.ntmps102
 go_upto_region 1 with (first | ((with_reducible refine gate_dst (N := 1) rfl ?_); refine bx_ 1 134 #[.int .i64 a0_0, .int .i64 a0_1, .int .i64 a0_2, .int .i64 a0_3, .int .i64 a0_4, .int .i64 a0_5, .int .i64 a0_6] ?_; intro gb439 hg w3 hbox hb; have BK439 := Aside0.mk (hbox); have GW439 := Aside0.mk ((hz_ : w.heap.size ≤ gb439)); have GE439 := Aside0.mk ((hz_ : w.heap.size ≤ gb439)); replace HB := Aside0.mk (below_step bl_ hb); clear hb hbox hg))
 (try simp only [Act.put, List.setIfInBounds_toArray, List.set_cons_zero, List.set_cons_succ])
 go_cut [12] (fun v12 wc => ∃ (kq : Nat) (x12_1 : Bool), v12 = .bool x12_1 ∧ Aside0 (impl_FrameOk.j0 kq x12_1 a0_0 a0_1 a0_2 a0_3 a0_4 a0_5 a0_6 = some r) ∧ Aside0 (kq ≤ k) ∧ Aside0 (wc.heap[gb439]? = some (.cells #[.int .i64 a0_0, .int .i64 a0_1, .int .i64 a0_2, .int .i64 a0_3, .int .i64 a0_4, .int .i64 a0_5, .int .i64 a0_6] 134 (0, 0))) ∧ Aside0 (Below w.heap.size w wc))
 case first =>
  have H := HC2.out
  clear HC2
  replace H := bs_ H
  obtain ⟨t440, A4, H⟩ := H
  try dsimp only at H
  by_cases c5 : t440 = true
  rotate_left
  ·replace c5 := Bool.eq_false_iff.mpr c5
   subst c5
   rw [nf_] at H
   have H' := Aside0.mk H
   clear H
   obtain ⟨hcz8_0, hcz8_1, hcz8_2, hcz8_3, hcz8_4, hcz8_5, hcz8_6, hfz8_0, hfz8_1, hfz8_2, hfz8_3, hfz8_4, hfz8_5, hfz8_6⟩ := cf7_ BK439.out
   go_wp2_with (first | ((with_reducible refine gate_callee (f := 108) rfl ?_); refine gs_ (some 5) Tryz.func108 #[.int .i64 a0_1] ?_; (with_reducible refine (impl_isPid.calls a0_1 false _ A4.out).mono ?_); rintro e w' ⟨rfl, ⟨nd, rfl⟩⟩; refine ⟨_, rfl, ?_⟩))
   go_meet
   case rel => exact ⟨_, (true), (sr_), H', ⟨by first | omega | exact Nat.le_refl _⟩, ⟨bk_ BK439.out⟩, ⟨bl_⟩⟩
  subst c5
  rw [if_pos rfl] at H
  replace H := bs_ H
  obtain ⟨t441, A6, H⟩ := H
  try dsimp only at H
  have H' := Aside0.mk H
  clear H
  obtain ⟨hcz7_0, hcz7_1, hcz7_2, hcz7_3, hcz7_4, hcz7_5, hcz7_6, hfz7_0, hfz7_1, hfz7_2, hfz7_3, hfz7_4, hfz7_5, hfz7_6⟩ := cf7_ BK439.out
  go_wp2_with (first | ((with_reducible refine gate_callee (f := 108) rfl ?_); refine gs_ (some 5) Tryz.func108 #[.int .i64 a0_1] ?_; (with_reducible refine (impl_isPid.calls a0_1 true _ A4.out).mono ?_); rintro e w' ⟨rfl, ⟨nd, rfl⟩⟩; refine ⟨_, rfl, ?_⟩) | (go_at_call 105; (with_reducible refine (impl_within.calls a0_2 1 1000000000 t441 _ A6.out).mono ?_); rintro e w' ⟨rfl, ⟨nd, rfl⟩⟩))
  go_meet
  case rel => exact ⟨_, (!t441), (sr_), H', ⟨by first | omega | exact Nat.le_refl _⟩, ⟨bk_ BK439.out⟩, ⟨bl_⟩⟩
 clear HC2
 obtain ⟨kq, x12_1, rfl, HA, HJ1, BK439, HB⟩ := hcut
 cases kq with
 | zero => exact absurd HA.out (by simp [impl_FrameOk.j0])
 | succ kj1 => ?_
 have H := HA.out
 clear HA
 simp only [impl_FrameOk.j0] at H
 by_cases c9 : x12_1 = true
 ·subst c9
  rw [if_pos rfl] at H
  obtain rfl := Option.some.inj H
  go_wp2
  go_ret
  exact ⟨er_, bl_⟩
 replace c9 := Bool.eq_false_iff.mpr c9
 subst c9
 rw [nf_] at H
 by_cases c10 : a0_0 = 1
 ·rw [if_pos c10] at H
  have c10b0 : (a0_0 == 1) = true := beq_iff_eq.mpr c10
  have c10b1 : (a0_0 != 1) = false := bne_eq_false_iff_eq.mpr c10
  clear c10
  replace H := bs_ H
  obtain ⟨t442, A11, H⟩ := H
  try dsimp only at H
  obtain rfl := Option.some.inj H
  obtain ⟨hcz12_0, hcz12_1, hcz12_2, hcz12_3, hcz12_4, hcz12_5, hcz12_6, hfz12_0, hfz12_1, hfz12_2, hfz12_3, hfz12_4, hfz12_5, hfz12_6⟩ := cf7_ BK439.out
  go_wp2_with (first | ((with_reducible refine gate_callee (f := 109) rfl ?_); refine gs_ (some 19) Tryz.func109 #[.agg #[.int .i64 a0_3, .int .i64 a0_4, .int .i64 a0_5, .int .i64 a0_6]] ?_; (with_reducible refine (impl_ItemOk.calls a0_3 a0_4 a0_5 a0_6 t442 _ A11.out).mono ?_); rintro e w13 ⟨rfl, hb⟩; refine ⟨_, rfl, ?_⟩; replace BK439 := Aside0.mk (blk_below (bn0_ BK439.out) hb); replace HB := Aside0.mk (below_step bl_ hb); (try clear hb)))
  go_ret
  exact ⟨er_, bl_⟩
 rw [if_neg c10] at H
 have c10b0 : (a0_0 == 1) = false := beq_eq_false_iff_ne.mpr c10
 have c10b1 : (a0_0 != 1) = true := bne_iff_ne.mpr c10
 by_cases c14 : a0_0 = 2
 rotate_left
 ·rw [if_neg c14] at H
  have c14b0 : (a0_0 == 2) = false := beq_eq_false_iff_ne.mpr c14
  have c14b1 : (a0_0 != 2) = true := bne_iff_ne.mpr c14
  obtain rfl := Option.some.inj H
  obtain ⟨hcz16_0, hcz16_1, hcz16_2, hcz16_3, hcz16_4, hcz16_5, hcz16_6, hfz16_0, hfz16_1, hfz16_2, hfz16_3, hfz16_4, hfz16_5, hfz16_6⟩ := cf7_ BK439.out
  go_wp2
  go_ret
  exact ⟨er_, bl_⟩
 rw [if_pos c14] at H
 have c14b0 : (a0_0 == 2) = true := beq_iff_eq.mpr c14
 have c14b1 : (a0_0 != 2) = false := bne_eq_false_iff_eq.mpr c14
 clear c14
 obtain rfl := Option.some.inj H
 obtain ⟨hcz15_0, hcz15_1, hcz15_2, hcz15_3, hcz15_4, hcz15_5, hcz15_6, hfz15_0, hfz15_1, hfz15_2, hfz15_3, hfz15_4, hfz15_5, hfz15_6⟩ := cf7_ BK439.out
 go_wp2
 go_ret
 exact ⟨er_, bl_⟩


def impl_VarText.l0 : Nat → Int → List Int → Option (ByteArray × Bool)
 | 0, _, _ => none
 | k + 1, x0, x4 => if x0 > 127 then (if x4.length < 140737488355328 then (impl_VarText.l0 k (x0 / 128) (x4 ++ [(Go.bits .or .i64 (Go.bits .and .i64 x0 127) 128) % 256])) else (none)) else (if x4.length < 140737488355328 then (some (strOfNums (x4 ++ [(x0) % 256]), true)) else (none))
def impl_VarText.f (k : Nat) (a0 : Int) : Option (ByteArray × Bool) := (impl_within.f a0 0 1000000000).bind fun t443 => (if t443 = true then (impl_VarText.l0 k a0 (([] : List Int))) else (some ((⟨#[]⟩ : ByteArray), false)))
theorem impl_VarText.mono_l : ∀ k, (∀ y0 y1, LeO (impl_VarText.l0 k y0 y1) (impl_VarText.l0 (k + 1) y0 y1))
 | 0 => fun _ _ r h => by simp [impl_VarText.l0] at h
 | k + 1 => by
  have ih0 := impl_VarText.mono_l k
  ·intro y0 y1
   unfold impl_VarText.l0
   exact mo_
theorem impl_VarText.mono : ∀ a0 k, LeO (impl_VarText.f k a0) (impl_VarText.f (k + 1) a0) := by
 intro a0 k
 have ih0 := impl_VarText.mono_l k
 unfold impl_VarText.f
 exact mo_
theorem impl_VarText.calls (k : Nat) (a0 : Int) (r1 : ByteArray) (r2 : Bool) (w : World) (h : impl_VarText.f k a0 = some (r1, r2)) :
 Calls Tryz.prog 103 #[.int .i64 a0] w fun e w' => e = .returned (.tuple #[.string r1, .bool r2]) ∧ Below w.heap.size w w' := by
 have HB := Aside0.mk (Below.refl w.heap.size w)
 have H := h
 unfold impl_VarText.f at H
 clear h
 replace H := bs_ H
 obtain ⟨t443, A2, H⟩ := H
 try dsimp only at H
 by_cases c3 : t443 = true
 rotate_left
 ·replace c3 := Bool.eq_false_iff.mpr c3
  subst c3
  rw [nf_] at H
  simp only [Option.some.injEq, Prod.mk.injEq] at H
  obtain ⟨rfl, rfl⟩ := H
  go_enter Tryz.func103, Tryz.ntmps103
  go_wp2_with (first | ((with_reducible refine gate_callee (f := 105) rfl ?_); refine gs_ (some 6) Tryz.func105 #[.int .i64 a0, .int .i64 0, .int .i64 1000000000] ?_; (with_reducible refine (impl_within.calls a0 0 1000000000 false _ A2.out).mono ?_); rintro e w' ⟨rfl, ⟨nd, rfl⟩⟩; refine ⟨_, rfl, ?_⟩))
  go_ret2
  exact ⟨er_, bl_⟩
 subst c3
 rw [if_pos rfl] at H
 obtain ⟨y444, hy444⟩ : ∃ y_ : List Int, y_ = (([] : List Int)) := ⟨_, rfl⟩
 replace H : (impl_VarText.l0 k a0 y444) = some (r1, r2) := rp_ H hy444
 have Ny444 := Aside0.mk hy444
 clear hy444
 have H' := Aside0.mk H
 clear H
 go_enter Tryz.func103, Tryz.ntmps103
 go_wp2_with (first | ((with_reducible refine gate_callee (f := 105) rfl ?_); refine gs_ (some 6) Tryz.func105 #[.int .i64 a0, .int .i64 0, .int .i64 1000000000] ?_; (with_reducible refine (impl_within.calls a0 0 1000000000 true _ A2.out).mono ?_); rintro e w' ⟨rfl, ⟨nd, rfl⟩⟩; refine ⟨_, rfl, ?_⟩) | ((with_reducible refine gate_dst (N := 8) rfl ?_); refine Kd.R_lit (Kd.int .u8) _ 5 ?hg (N := 8) ?hd (xs := ([] : List Int)) (inner := []) (ok := fun _ => True) (okp := fun _ => True) ?hr ?hp (fun _ hk => hk) trivial (Below.refl _ _) (Nat.le_refl _) (by simp) ?_; (case hd => rfl); (case hg => rfl); (case hr => first | (go_simp; done) | (go_simp; rfl)); (case hp => exact (Reps.none _ _)); intro v445 w4 ho5 hb hg_ hnew_; clear hg_ hnew_; (first | rw [← Ny444.out] at ho5 | (simp only [Int.reduceToNat] at ho5; rw [← Ny444.out] at ho5)); have HO446 := Aside0.mk (Kd.R_lower ho5 (below_size bl_)); replace HB := Aside0.mk (below_step bl_ hb); clear hb ho5))
 go_loopg [0, 4] k (fun kq v0 v4 w' => ∃ (x0_1 : Int) (x4_1 : List Int), v0 = .int .i64 x0_1 ∧ Aside0 (impl_VarText.l0 kq x0_1 x4_1 = some (r1, r2)) ∧ Aside0 (kq ≤ k) ∧ Aside0 (Kd.R (Kd.int .u8) 5 w' w.heap.size (fun _ => True) v4 x4_1) ∧ Aside0 (Below w.heap.size w w'))
 case atStart => exact ⟨(a0), (y444), (sr_), H', ⟨Nat.le_refl _⟩, ⟨ra_ HO446.out⟩, ⟨bl_⟩⟩
 clear H'
 try clear c3
 obtain ⟨x0_1, x4_1, rfl, HA, HK1, HO_4, HB⟩ := hrel
 cases gk with
 | zero => exact absurd HA.out (by simp [impl_VarText.l0])
 | succ k1 => ?_
 have H := HA.out
 clear HA
 simp only [impl_VarText.l0] at H
 by_cases c6 : x0_1 > 127
 rotate_left
 ·rw [if_neg c6] at H
  have c6b0 := decide_eq_false c6
  clear c6
  by_cases c9 : x4_1.length < 140737488355328
  rotate_left
  ·exact nn_ c9 H
  rw [if_pos c9] at H
  have LMc9 := Aside0.mk c9
  clear c9
  obtain ⟨y450, hy450⟩ : ∃ y_ : List Int, y_ = (x4_1 ++ [(x0_1) % 256]) := ⟨_, rfl⟩
  replace H : (some (strOfNums y450, true)) = some (r1, r2) := rp_ H hy450
  have Ny450 := Aside0.mk hy450
  clear hy450
  simp only [Option.some.injEq, Prod.mk.injEq] at H
  obtain ⟨rfl, rfl⟩ := H
  go_wp2_with (first | ((with_reducible refine gate_builtin (b := .append) (xs := #[.tmp 20, .tmp 23]) rfl ?_); at_builtin; refine Kd.R_append (Kd.int .u8) (w0 := w) w.heap.size rfl (.tmp 20) (.tmp 23) 94 5 (.int .u8 0) 1 rfl Tryz.underlying94 info5 rfl (by decide) (by omega) u4 x4_1 ((x0_1) % 256) [.int .u8 ((x0_1) % 256)] (fun _ => True) (fun _ => False) rfl rfl ?aP (fun _ hk => hk.elim) ?aF ?aO ?aB ?aS ?aL ?_; (case aP => exact rfl); (case aB => exact bl_); (case aF => exact (fun _ _ => trivial)); (case aO => exact (ra_ HO_4.out)); (case aS => exact (below_size bl_)); (case aL => have := LMc9.out; omega); intro v451 w10 ho hb hg hat; rw [← Ny450.out] at ho; replace HB := Aside0.mk (hb); have HO452 := Aside0.mk (ho); clear HO_4; clear ho hb hg hat; have hcv11 := own_string (P := Tryz.prog) Tryz.underlying94 Tryz.underlying5 Tryz.underlying9 (Kd.own_of_R HO452.out)))
  go_ret2
  exact ⟨er_, bl_⟩
 rw [if_pos c6] at H
 have c6b0 := decide_eq_true c6
 clear c6
 by_cases c7 : x4_1.length < 140737488355328
 rotate_left
 ·exact nn_ c7 H
 rw [if_pos c7] at H
 have LMc7 := Aside0.mk c7
 clear c7
 obtain ⟨y447, hy447⟩ : ∃ y_ : List Int, y_ = (x4_1 ++ [(Go.bits .or .i64 (Go.bits .and .i64 x0_1 127) 128) % 256]) := ⟨_, rfl⟩
 replace H : (impl_VarText.l0 k1 (x0_1 / 128) y447) = some (r1, r2) := rp_ H hy447
 have Ny447 := Aside0.mk hy447
 clear hy447
 have H' := Aside0.mk H
 clear H
 go_wp2_with (first | ((with_reducible refine gate_builtin (b := .append) (xs := #[.tmp 11, .tmp 16]) rfl ?_); at_builtin; refine Kd.R_append (Kd.int .u8) (w0 := w) w.heap.size rfl (.tmp 11) (.tmp 16) 94 5 (.int .u8 0) 1 rfl Tryz.underlying94 info5 rfl (by decide) (by omega) u4 x4_1 ((Go.bits .or .i64 (Go.bits .and .i64 x0_1 127) 128) % 256) [.int .u8 ((Go.bits .or .i64 (Go.bits .and .i64 x0_1 127) 128) % 256)] (fun _ => True) (fun _ => False) rfl rfl ?aP (fun _ hk => hk.elim) ?aF ?aO ?aB ?aS ?aL ?_; (case aP => exact rfl); (case aB => exact bl_); (case aF => exact (fun _ _ => trivial)); (case aO => exact (ra_ HO_4.out)); (case aS => exact (below_size bl_)); (case aL => have := LMc7.out; omega); intro v448 w8 ho hb hg hat; rw [← Ny447.out] at ho; replace HB := Aside0.mk (hb); have HO449 := Aside0.mk (ho); clear HO_4; clear ho hb hg hat))
 go_roundg k1
 case measure => have := HK1.out; omega
 case rel => exact ⟨(x0_1 / 128), (y447), (sr_), H', ⟨by have := HK1.out; omega⟩, ⟨ra_ HO449.out⟩, ⟨bl_⟩⟩


mutual
def impl_SumMore.l0 : Nat → Int → ByteArray → Int → Option (Int)
 | 0, _, _, _ => none
 | k + 1, x0, x1, x5 => if x5 < (x1.size : Int) then (if 0 ≤ x5 then (impl_SumMore.l1 k (Go.bits .xor .u32 x0 ((bt x1 x5) % 4294967296)) x1 x5 0) else (none)) else (some x0)
def impl_SumMore.l1 : Nat → Int → ByteArray → Int → Int → Option (Int)
 | 0, _, _, _, _ => none
 | k + 1, x0, x1, x5, x19 => if x19 < 8 then (if (Go.bits .and .u32 x0 1) = 1 then (impl_SumMore.l1 k (Go.bits .xor .u32 (x0 / 2) 3558460437) x1 x5 (wrap64 (x19 + 1))) else (impl_SumMore.l1 k (x0 / 2) x1 x5 (wrap64 (x19 + 1)))) else (impl_SumMore.l0 k x0 x1 (wrap64 (x5 + 1)))
end
def impl_SumMore.f (k : Nat) (a0 : Int) (a1 : ByteArray) : Option (Int) := impl_SumMore.l0 k a0 a1 0
theorem impl_SumMore.mono_l : ∀ k, (∀ y0 y1 y2, LeO (impl_SumMore.l0 k y0 y1 y2) (impl_SumMore.l0 (k + 1) y0 y1 y2)) ∧ (∀ y0 y1 y2 y3, LeO (impl_SumMore.l1 k y0 y1 y2 y3) (impl_SumMore.l1 (k + 1) y0 y1 y2 y3))
 | 0 => ⟨fun _ _ _ r h => by simp [impl_SumMore.l0] at h, fun _ _ _ _ r h => by simp [impl_SumMore.l1] at h⟩
 | k + 1 => by
  obtain ⟨ih0, ih1⟩ := impl_SumMore.mono_l k
  refine ⟨?_, ?_⟩
  ·intro y0 y1 y2
   unfold impl_SumMore.l0
   exact mo_
  ·intro y0 y1 y2 y3
   unfold impl_SumMore.l1
   exact mo_
theorem impl_SumMore.mono : ∀ a0 a1 k, LeO (impl_SumMore.f k a0 a1) (impl_SumMore.f (k + 1) a0 a1) := by
 intro a0 a1 k
 obtain ⟨ih0, ih1⟩ := impl_SumMore.mono_l k
 unfold impl_SumMore.f
 exact mo_
theorem impl_SumMore.calls (k : Nat) (a0 : Int) (a1 : ByteArray) (r : Int) (w : World) (h : impl_SumMore.f k a0 a1 = some r) :
 Calls Tryz.prog 111 #[.int .u32 a0, .string a1] w fun e w' => e = .returned (.int .u32 r) ∧ Drawn0 w w' := by
 have H := h
 unfold impl_SumMore.f at H
 clear h
 have H' := Aside0.mk H
 clear H
 go_enter Tryz.func111, Tryz.ntmps111
 go_wp2
 go_loopg [0, 5] k (fun kq v0 v5 w' => ∃ (x0_1 : Int) (x5_1 : Int), v0 = .int .u32 x0_1 ∧ v5 = .int .i64 x5_1 ∧ Aside0 (impl_SumMore.l0 kq x0_1 a1 x5_1 = some r) ∧ Aside0 (kq ≤ k) ∧ Drawn0 w w')
 case atStart => exact ⟨(a0), (0), (sr_), (sr_), H', ⟨Nat.le_refl _⟩, by repeat (first | exact Drawn0.refl _ | apply Drawn0.step)⟩
 clear H'
 obtain ⟨x0_1, x5_1, rfl, rfl, HA, HK1, ⟨m1, rfl⟩⟩ := hrel
 cases gk with
 | zero => exact absurd HA.out (by simp [impl_SumMore.l0])
 | succ k1 => ?_
 have H := HA.out
 clear HA
 simp only [impl_SumMore.l0] at H
 by_cases c3 : x5_1 < (a1.size : Int)
 rotate_left
 ·rw [if_neg c3] at H
  have c3b0 := decide_eq_false c3
  clear c3
  obtain rfl := Option.some.inj H
  go_wp2
  go_ret
  exact ⟨sr_, by repeat (first | exact Drawn0.refl _ | apply Drawn0.step)⟩
 rw [if_pos c3] at H
 have c3b0 := decide_eq_true c3
 clear c3
 by_cases c4 : 0 ≤ x5_1
 rotate_left
 ·exact nn_ c4 H
 rw [if_pos c4] at H
 have c4b0 := decide_eq_true c4
 clear c4
 have H' := Aside0.mk H
 clear H
 have p5 : 0 ≤ (x5_1 : Int) := of_decide_eq_true as_
 have q5 : x5_1 < (a1.size : Int) := of_decide_eq_true as_
 have hx5 := bt_at a1 x5_1
 replace p5 := eq_true p5
 replace q5 := eq_true q5
 go_wp2
 go_loopg [0, 19] k1 (fun kq v0 v19 w' => ∃ (x0_2 : Int) (x19_2 : Int), v0 = .int .u32 x0_2 ∧ v19 = .int .i64 x19_2 ∧ Aside0 (impl_SumMore.l1 kq x0_2 a1 x5_1 x19_2 = some r) ∧ Aside0 (kq ≤ k1) ∧ Drawn0 w w')
 case atStart => exact ⟨(Go.bits .xor .u32 x0_1 ((bt a1 x5_1) % 4294967296)), (0), (sr_), (sr_), H', ⟨Nat.le_refl _⟩, by repeat (first | exact Drawn0.refl _ | apply Drawn0.step)⟩
 clear H'
 try clear c3
 try clear c3b0
 try clear c4
 try clear c4b0
 try clear p5
 try clear q5
 try clear hx5
 try clear p5
 try clear q5
 obtain ⟨x0_2, x19_2, rfl, rfl, HA, HK2, ⟨m2, rfl⟩⟩ := hrel
 cases gk with
 | zero => exact absurd HA.out (by simp [impl_SumMore.l1])
 | succ k2 => ?_
 have H := HA.out
 clear HA
 simp only [impl_SumMore.l1] at H
 by_cases c6 : x19_2 < 8
 rotate_left
 ·rw [if_neg c6] at H
  have c6b0 := decide_eq_false c6
  clear c6
  have H' := Aside0.mk H
  clear H
  go_wp2
  go_roundg k2
  case measure => have := HK1.out; have := HK2.out; omega
  case rel => exact ⟨(x0_2), (wrap64 (x5_1 + 1)), (sr_), (sr_), H', ⟨by have := HK1.out; have := HK2.out; omega⟩, by repeat (first | exact Drawn0.refl _ | apply Drawn0.step)⟩
 rw [if_pos c6] at H
 have c6b0 := decide_eq_true c6
 clear c6
 by_cases c7 : (Go.bits .and .u32 x0_2 1) = 1
 rotate_left
 ·rw [if_neg c7] at H
  have c7b0 : ((Go.bits .and .u32 x0_2 1) == 1) = false := beq_eq_false_iff_ne.mpr c7
  have c7b1 : ((Go.bits .and .u32 x0_2 1) != 1) = true := bne_iff_ne.mpr c7
  have H' := Aside0.mk H
  clear H
  go_wp2
  go_roundg k2
  case measure => have := HK1.out; have := HK2.out; omega
  case rel => exact ⟨(x0_2 / 2), (wrap64 (x19_2 + 1)), (sr_), (sr_), H', ⟨by have := HK1.out; have := HK2.out; omega⟩, by repeat (first | exact Drawn0.refl _ | apply Drawn0.step)⟩
 rw [if_pos c7] at H
 have c7b0 : ((Go.bits .and .u32 x0_2 1) == 1) = true := beq_iff_eq.mpr c7
 have c7b1 : ((Go.bits .and .u32 x0_2 1) != 1) = false := bne_eq_false_iff_eq.mpr c7
 clear c7
 have H' := Aside0.mk H
 clear H
 go_wp2
 go_roundg k2
 case measure => have := HK1.out; have := HK2.out; omega
 case rel => exact ⟨(Go.bits .xor .u32 (x0_2 / 2) 3558460437), (wrap64 (x19_2 + 1)), (sr_), (sr_), H', ⟨by have := HK1.out; have := HK2.out; omega⟩, by repeat (first | exact Drawn0.refl _ | apply Drawn0.step)⟩


def impl_SumOf.f (k : Nat) (a0 : ByteArray) : Option (Int) := (impl_SumMore.f k 4294967295 a0).bind fun t453 => (some t453)
theorem impl_SumOf.mono : ∀ a0 k, LeO (impl_SumOf.f k a0) (impl_SumOf.f (k + 1) a0) := by
 intro a0 k
 unfold impl_SumOf.f
 have m0 := @impl_SumMore.mono
 exact mo_
theorem impl_SumOf.calls (k : Nat) (a0 : ByteArray) (r : Int) (w : World) (h : impl_SumOf.f k a0 = some r) :
 Calls Tryz.prog 110 #[.string a0] w fun e w' => e = .returned (.int .u32 r) ∧ Drawn0 w w' := by
 have H := h
 unfold impl_SumOf.f at H
 clear h
 replace H := bs_ H
 obtain ⟨t453, A2, H⟩ := H
 try dsimp only at H
 obtain rfl := Option.some.inj H
 go_enter Tryz.func110, Tryz.ntmps110
 go_wp2_with (first | ((with_reducible refine gate_callee (f := 111) rfl ?_); refine gs_ (some 4) Tryz.func111 #[.int .u32 4294967295, .string a0] ?_; (with_reducible refine (impl_SumMore.calls k 4294967295 a0 t453 _ A2.out).mono ?_); rintro e w' ⟨rfl, ⟨nd, rfl⟩⟩; refine ⟨_, rfl, ?_⟩))
 go_ret
 exact ⟨sr_, by repeat (first | exact Drawn0.refl _ | apply Drawn0.step)⟩


def impl_Sealed.f (k : Nat) (a0 : ByteArray) : Option (ByteArray × Bool) := if (a0.size : Int) > 20000 then (some ((⟨#[]⟩ : ByteArray), false)) else ((impl_SumOf.f k a0).bind fun t454 => ((impl_four.f (wrap64 (t454))).bind fun t455 => (if a0.size + t455.size ≤ 9223372036854775807 then (some (a0 ++ t455, true)) else (none))))
theorem impl_Sealed.mono : ∀ a0 k, LeO (impl_Sealed.f k a0) (impl_Sealed.f (k + 1) a0) := by
 intro a0 k
 unfold impl_Sealed.f
 have m0 := @impl_SumOf.mono
 exact mo_
theorem impl_Sealed.calls (k : Nat) (a0 : ByteArray) (r1 : ByteArray) (r2 : Bool) (w : World) (h : impl_Sealed.f k a0 = some (r1, r2)) :
 Calls Tryz.prog 104 #[.string a0] w fun e w' => e = .returned (.tuple #[.string r1, .bool r2]) ∧ Below w.heap.size w w' := by
 have HB := Aside0.mk (Below.refl w.heap.size w)
 have H := h
 unfold impl_Sealed.f at H
 clear h
 by_cases c2 : (a0.size : Int) > 20000
 ·rw [if_pos c2] at H
  have c2b0 := decide_eq_true c2
  have c2b1 : decide (20000 < a0.size) = true := decide_eq_true (by omega)
  clear c2
  simp only [Option.some.injEq, Prod.mk.injEq] at H
  obtain ⟨rfl, rfl⟩ := H
  go_enter Tryz.func104, Tryz.ntmps104
  go_wp2
  go_ret2
  exact ⟨er_, bl_⟩
 rw [if_neg c2] at H
 have c2b0 := decide_eq_false c2
 have c2b1 : decide (20000 < a0.size) = false := decide_eq_false (by omega)
 clear c2
 replace H := bs_ H
 obtain ⟨t454, A3, H⟩ := H
 try dsimp only at H
 replace H := bs_ H
 obtain ⟨t455, A4, H⟩ := H
 try dsimp only at H
 by_cases c5 : a0.size + t455.size ≤ 9223372036854775807
 rotate_left
 ·exact nn_ c5 H
 rw [if_pos c5] at H
 have c5b0 := eq_true c5
 have c5b1 : decide (a0.size + t455.size ≤ 9223372036854775807) = true := decide_eq_true c5
 try have c5b2 : (9223372036854775807 < a0.size + t455.size) = False := eq_false (Nat.not_lt.2 c5)
 simp only [Option.some.injEq, Prod.mk.injEq] at H
 obtain ⟨rfl, rfl⟩ := H
 go_enter Tryz.func104, Tryz.ntmps104
 go_wp2_with (first | ((with_reducible refine gate_callee (f := 110) rfl ?_); refine gs_ (some 9) Tryz.func110 #[.string a0] ?_; (with_reducible refine (impl_SumOf.calls k a0 t454 _ A3.out).mono ?_); rintro e w' ⟨rfl, ⟨nd, rfl⟩⟩; refine ⟨_, rfl, ?_⟩) | ((with_reducible refine gate_callee (f := 80) rfl ?_); refine gs_ (some 11) Tryz.func80 #[.int .i64 (wrap64 (t454))] ?_; (with_reducible refine (impl_four.calls (wrap64 (t454)) t455 _ A4.out).mono ?_); rintro e w6 ⟨rfl, hb⟩; refine ⟨_, rfl, ?_⟩; replace HB := Aside0.mk (below_step bl_ hb); (try clear hb)))
 go_ret2
 exact ⟨er_, bl_⟩

end Go.Proofs.YtcbjlcgfhbfneaaGreatDoor.PA

namespace Go.Proofs.YtcbjlcgfhbfneaaGreatDoor.PA
open Go.RowKit Go.Proofs.YtcbjlcgfhbfneaaGreatDoor.Short Go.Proofs.YtcbjlcgfhbfneaaGreatDoorW.PrintWords Go.Proofs.YtcbjlcgfhbfneaaGreatDoorW.PrintLast Go.Proofs.YtcbjlcgfhbfneaaGreatDoorW.PrintMore
attribute [local go_sem] max2_int min2_int max_two min_two max_three min_three max_four min_four   -- for this text's walks alone
set_option linter.unusedVariables false
set_option linter.unusedSimpArgs false
open Go.Proofs.YtcbjlcgfhbfneaaGreatDoor.RegAny

def impl_FrameText.f (k : Nat) (a0_0 : Int) (a0_1 : Int) (a0_2 : Int) (a0_3 : Int) (a0_4 : Int) (a0_5 : Int) (a0_6 : Int) : Option (ByteArray × Bool) := (impl_FrameOk.f k a0_0 a0_1 a0_2 a0_3 a0_4 a0_5 a0_6).bind fun t207 => (if t207 = true then ((impl_VarText.f k a0_2).bind fun bt208 => ((impl_VarText.f k a0_6).bind fun bt210 => ((some (([(a0_0) % 256, (a0_1) % 256] : List Int) : List Int)).bind fun y212 => (if (strOfNums y212).size + bt208.1.size ≤ 9223372036854775807 then ((some (([(a0_3) % 256] : List Int) : List Int)).bind fun y215 => (if ((strOfNums y212) ++ bt208.1).size + (strOfNums y215).size ≤ 9223372036854775807 then ((impl_four.f a0_4).bind fun t218 => (if (((strOfNums y212) ++ bt208.1) ++ (strOfNums y215)).size + t218.size ≤ 9223372036854775807 then ((impl_four.f a0_5).bind fun t219 => (if ((((strOfNums y212) ++ bt208.1) ++ (strOfNums y215)) ++ t218).size + t219.size ≤ 9223372036854775807 then (if (((((strOfNums y212) ++ bt208.1) ++ (strOfNums y215)) ++ t218) ++ t219).size + bt210.1.size ≤ 9223372036854775807 then ((impl_Sealed.f k ((((((strOfNums y212) ++ bt208.1) ++ (strOfNums y215)) ++ t218) ++ t219) ++ bt210.1)).bind fun bt220 => (some (bt220.1, bt220.2))) else (none)) else (none))) else (none))) else (none))) else (none))))) else (some ((⟨#[]⟩ : ByteArray), false)))
theorem impl_FrameText.mono : ∀ a0 a1 a2 a3 a4 a5 a6 k, LeO (impl_FrameText.f k a0 a1 a2 a3 a4 a5 a6) (impl_FrameText.f (k + 1) a0 a1 a2 a3 a4 a5 a6) := by
 intro a0 a1 a2 a3 a4 a5 a6 k
 unfold impl_FrameText.f
 have m0 := @impl_FrameOk.mono
 have m1 := @impl_Sealed.mono
 have m2 := @impl_VarText.mono
 exact mo_
def impl_FrameText.T5 : Bool × List (List Nat × List Nat) := (true, [([], []), ([0], [0]), ([1], [1]), ([], []), ([3], [3]), ([4], [4]), ([2, 5], [2, 5]), ([6], [6]), ([], []), ([7, 8], [7, 8]), ([], []), ([10], [10]), ([11], [11]), ([12], [12]), ([13], [13]), ([14], [14]), ([9, 15], [9, 15]), ([], []), ([17], [17]), ([18], [18]), ([19], [19]), ([16, 20], [16, 20]), ([], []), ([22], [22]), ([23], [23]), ([24, 20], [24]), ([21, 25], [21, 25]), ([], []), ([26, 27], [26, 27]), ([28, 25], [28]), ([29], [29]), ([29], [29]), ([30, 29, 0, 1, 2, 3, 4, 5, 6, 7, 8, 9, 10, 11, 12, 13, 14, 15, 16, 17, 18, 19, 20, 21, 22, 23, 24, 25, 26, 27, 28, 29, 30, 31], [30]), ([31, 32, 0, 1, 2, 3, 4, 5, 6, 7, 8, 9, 10, 11, 12, 13, 14, 15, 16, 17, 18, 19, 20, 21, 22, 23, 24, 25, 26, 27, 28, 29, 30, 31, 32], [31])])
def impl_FrameText.B5 : List Nat := [0, 1, 3, 0, 8, 24, 63, 127, 0, 511, 0, 1024, 3072, 7168, 15360, 31744, 65535, 0, 131072, 393216, 917504, 2097151, 0, 4194304, 12582912, 31326208, 67108863, 0, 268435455, 536870911, 1073741823, 1073741823, 4294967295, 8589934591]
theorem impl_FrameText.tab5 : rtab .any (opsOf Tryz.f92 5) = impl_FrameText.T5 := by kernel_rfl
theorem impl_FrameText.bits5 : waitsOk impl_FrameText.T5.2 impl_FrameText.B5 = true := by kernel_rfl
theorem impl_FrameText.calls (k : Nat) (a0_0 : Int) (a0_1 : Int) (a0_2 : Int) (a0_3 : Int) (a0_4 : Int) (a0_5 : Int) (a0_6 : Int) (r1 : ByteArray) (r2 : Bool) (w : World) (h : impl_FrameText.f k a0_0 a0_1 a0_2 a0_3 a0_4 a0_5 a0_6 = some (r1, r2)) :
 Calls Tryz.prog 92 #[.agg #[.int .i64 a0_0, .int .i64 a0_1, .int .i64 a0_2, .int .i64 a0_3, .int .i64 a0_4, .int .i64 a0_5, .int .i64 a0_6]] w fun e w' => e = .returned (.tuple #[.string r1, .bool r2]) ∧ Below w.heap.size w w' := by
 have hu134 := Tryz.underlying134
 have HB := Aside0.mk (Below.refl w.heap.size w)
 unfold impl_FrameText.f at h
 obtain ⟨t207, A20, h⟩ := Option.bind_eq_some_iff.mp h
 have A2 := Aside0.mk A20
 clear A20
 split at h
 ·rename_i c3
  subst c3
  obtain ⟨⟨t208, t209⟩, A40, h⟩ := Option.bind_eq_some_iff.mp h
  obtain ⟨⟨t210, t211⟩, A50, h⟩ := Option.bind_eq_some_iff.mp h
  have A4 := Aside0.mk A40
  have A5 := Aside0.mk A50
  clear A40 A50
  simp only [Option.bind_some] at h
  obtain ⟨c6, h⟩ := ite_some h
  obtain ⟨c7, h⟩ := ite_some h
  obtain ⟨t218, A80, h⟩ := Option.bind_eq_some_iff.mp h
  have A8 := Aside0.mk A80
  clear A80
  obtain ⟨c9, h⟩ := ite_some h
  obtain ⟨t219, A100, h⟩ := Option.bind_eq_some_iff.mp h
  have A10 := Aside0.mk A100
  clear A100
  obtain ⟨c11, h⟩ := ite_some h
  obtain ⟨c12, h⟩ := ite_some h
  obtain ⟨⟨t220, t221⟩, A130, h⟩ := Option.bind_eq_some_iff.mp h
  have A13 := Aside0.mk A130
  clear A130
  simp only [Option.some.injEq, Prod.mk.injEq] at h
  obtain ⟨rfl, rfl⟩ := h
  have C6 := Aside0.mk c6
  have C7 := Aside0.mk c7
  have C9 := Aside0.mk c9
  have C11 := Aside0.mk c11
  have C12 := Aside0.mk c12
  clear c6 c7 c9 c11 c12
  go_enter Tryz.func92, Tryz.ntmps92
  go_wp2_with (first
   | ((with_reducible refine gate_dst (N := 1) rfl ?_); refine box_event rfl (N := 1) rfl (cs := #[.int .i64 a0_0, .int .i64 a0_1, .int .i64 a0_2, .int .i64 a0_3, .int .i64 a0_4, .int .i64 a0_5, .int .i64 a0_6]) (t := 134) (by kernel_rfl) ?_; intro g hg w1 hbox hb; have BK := Aside0.mk hbox; have GE := Aside0.mk (by rw [hg]; exact below_size HB.out : w.heap.size ≤ g); have n1_ := Aside0.mk (below_step HB.out hb); clear HB; have HB := n1_; clear n1_ hbox hb hg; have z0 : w1.cell? ⟨g, 0, none⟩ = some (.int .i64 a0_0) := (blk_cell BK.out 0).trans rfl; have z1 : w1.cell? ⟨g, 1, none⟩ = some (.int .i64 a0_1) := (blk_cell BK.out 1).trans rfl; have z2 : w1.cell? ⟨g, 2, none⟩ = some (.int .i64 a0_2) := (blk_cell BK.out 2).trans rfl; have z3 : w1.cell? ⟨g, 3, none⟩ = some (.int .i64 a0_3) := (blk_cell BK.out 3).trans rfl; have z4 : w1.cell? ⟨g, 4, none⟩ = some (.int .i64 a0_4) := (blk_cell BK.out 4).trans rfl; have z5 : w1.cell? ⟨g, 5, none⟩ = some (.int .i64 a0_5) := (blk_cell BK.out 5).trans rfl; have z6 : w1.cell? ⟨g, 6, none⟩ = some (.int .i64 a0_6) := (blk_cell BK.out 6).trans rfl)
   | (go_at_call 102; (with_reducible refine (impl_FrameOk.calls k a0_0 a0_1 a0_2 a0_3 a0_4 a0_5 a0_6 true _ A2.out).mono ?_); rintro e w2 ⟨rfl, hb⟩; have n1_ := Aside0.mk (below_step HB.out hb); have n2_ := Aside0.mk (blk_below BK.out hb); clear HB BK z0 z1 z2 z3 z4 z5 z6; have HB := n1_; have BK := n2_; clear n1_ n2_ hb; have z2 : w2.cell? ⟨g, 2, none⟩ = some (.int .i64 a0_2) := (blk_cell BK.out 2).trans rfl)
   | (go_at_call 103; (with_reducible refine (impl_VarText.calls k a0_2 t208 t209 _ A4.out).mono ?_); rintro e w3 ⟨rfl, hb⟩; have n1_ := Aside0.mk (below_step HB.out hb); have n2_ := Aside0.mk (blk_below BK.out hb); clear HB BK z2; have HB := n1_; have BK := n2_; clear n1_ n2_ hb; have z6 : w3.cell? ⟨g, 6, none⟩ = some (.int .i64 a0_6) := (blk_cell BK.out 6).trans rfl)
   | (go_at_call 103; (with_reducible refine (impl_VarText.calls k a0_6 t210 t211 _ A5.out).mono ?_); rintro e w4 ⟨rfl, hb⟩; have n1_ := Aside0.mk (below_step HB.out hb); have n2_ := Aside0.mk (blk_below BK.out hb); clear HB BK z6; have HB := n1_; have BK := n2_; clear n1_ n2_ hb))
  obtain ⟨D, hD⟩ : ∃ D : Slots, D = [(24, Is (.pointer (some ⟨g, 0, none⟩))), (25, Is (.int .i64 a0_0)), (26, Is (.int .u8 (a0_0 % 256))), (27, Is (.pointer (some ⟨g, 1, none⟩))), (28, Is (.int .i64 a0_1)), (29, Is (.int .u8 (a0_1 % 256))), (30, fun w_ v_ => Kd.R (Kd.int .u8) 5 w_ w.heap.size (fun _ => True) v_ [a0_0 % 256, a0_1 % 256]), (31, Is (.string (strOfNums [a0_0 % 256, a0_1 % 256]))), (32, Is (.string (t208))), (33, Is (.string (strOfNums [a0_0 % 256, a0_1 % 256] ++ t208))), (34, Is (.pointer (some ⟨g, 3, none⟩))), (35, Is (.pointer (some ⟨g, 3, none⟩))), (36, Is (.int .i64 a0_3)), (37, Is (.int .u8 (a0_3 % 256))), (38, fun w_ v_ => Kd.R (Kd.int .u8) 5 w_ w.heap.size (fun _ => True) v_ [a0_3 % 256]), (39, Is (.string (strOfNums [a0_3 % 256]))), (40, Is (.string ((strOfNums [a0_0 % 256, a0_1 % 256] ++ t208) ++ strOfNums [a0_3 % 256]))), (41, Is (.pointer (some ⟨g, 3, none⟩))), (42, Is (.pointer (some ⟨g, 4, none⟩))), (43, Is (.int .i64 a0_4)), (44, Is (.string (t218))), (45, Is (.string (((strOfNums [a0_0 % 256, a0_1 % 256] ++ t208) ++ strOfNums [a0_3 % 256]) ++ t218))), (46, Is (.pointer (some ⟨g, 3, none⟩))), (47, Is (.pointer (some ⟨g, 5, none⟩))), (48, Is (.int .i64 a0_5)), (49, Is (.string (t219))), (50, Is (.string ((((strOfNums [a0_0 % 256, a0_1 % 256] ++ t208) ++ strOfNums [a0_3 % 256]) ++ t218) ++ t219))), (51, Is (.string (t210))), (52, Is (.string (((((strOfNums [a0_0 % 256, a0_1 % 256] ++ t208) ++ strOfNums [a0_3 % 256]) ++ t218) ++ t219) ++ t210))), (53, Is (.tuple #[.string t220, .bool t221])), (54, Is (.string (t220))), (55, Is (.bool t221)), (2, Is (.string (t220))), (3, Is (.bool t221))] := ⟨_, rfl⟩
  have hM : Stays fun w' => w'.heap[g]? = some (.cells #[.int .i64 a0_0, .int .i64 a0_1, .int .i64 a0_2, .int .i64 a0_3, .int .i64 a0_4, .int .i64 a0_5, .int .i64 a0_6] 134 (0, 0)) ∧ Below w.heap.size w w' := fun _ _ h hb => ⟨blk_below h.1 hb, below_step h.2 hb⟩
  have hV : ∀ e ∈ D, ∀ v, Stays fun w => e.2 w v := by
   rw [hD]
   repeat' first | exact List.forall_mem_nil _ | refine List.forall_mem_cons.2 ⟨?_, ?_⟩
   all_goals first | exact fun v => Is_stays _ v | exact fun v w1 w2 h hb => Kd.R_below h hb
  have hnd : (D.map (·.1)).Nodup := by rw [hD]; exact of_decide_eq_true rfl
  refine region_any (n := 34) (wb := w) (M := fun w' => w'.heap[g]? = some (.cells #[.int .i64 a0_0, .int .i64 a0_1, .int .i64 a0_2, .int .i64 a0_3, .int .i64 a0_4, .int .i64 a0_5, .int .i64 a0_6] 134 (0, 0)) ∧ Below w.heap.size w w') (D := D) (Array.replicate 34 false) (by kernel_rfl) impl_FrameText.tab5 impl_FrameText.bits5 (by kernel_rfl) rfl rfl (by kernel_rfl) (below_drew1 HB.out) ⟨blk_drew BK.out, below_drew1 HB.out⟩ ?_ ?_
  ·show ∀ i ∈ [0, 1, 2, 3, 4, 5, 6, 7, 8, 9, 10, 11, 12, 13, 14, 15, 16, 17, 18, 19, 20, 21, 22, 23, 24, 25, 26, 27, 28, 29, 30, 31, 32, 33], _
   refine steps_cons ?_ (steps_cons ?_ (steps_cons ?_ (steps_cons ?_ (steps_cons ?_ (steps_cons ?_ (steps_cons ?_ (steps_cons ?_ (steps_cons ?_ (steps_cons ?_ (steps_cons ?_ (steps_cons ?_ (steps_cons ?_ (steps_cons ?_ (steps_cons ?_ (steps_cons ?_ (steps_cons ?_ (steps_cons ?_ (steps_cons ?_ (steps_cons ?_ (steps_cons ?_ (steps_cons ?_ (steps_cons ?_ (steps_cons ?_ (steps_cons ?_ (steps_cons ?_ (steps_cons ?_ (steps_cons ?_ (steps_cons ?_ (steps_cons ?_ (steps_cons ?_ (steps_cons ?_ (steps_cons ?_ (steps_cons ?_ (steps_nil))))))))))))))))))))))))))))))))))
   ·refine step_of _ _ hM hV hnd (by rw [hD]; rfl) rfl rfl rfl (of_decide_eq_true rfl) (within_of (by kernel_rfl) _) ?_
    intro a w9 hm hold hdep
    have e0 := eval_of ((hold 1 (by rw [hD]; rfl)).trans rfl)
    exact gPure (by first | (go_simp; done) | (go_simp; rfl))
   ·refine step_of _ _ hM hV hnd (by rw [hD]; rfl) rfl rfl rfl (of_decide_eq_true rfl) (within_of (by kernel_rfl) _) ?_
    intro a w9 hm hold hdep
    obtain ⟨_, h0, rfl⟩ := hdep 0 _ (by rw [hD]; rfl) (by rfl)
    have e0 := eval_of h0
    have z := (blk_cell hm.1 0).trans rfl
    exact gPure (by first | (go_simp; done) | (go_simp; rfl))
   ·refine step_of _ _ hM hV hnd (by rw [hD]; rfl) rfl rfl rfl (of_decide_eq_true rfl) (within_of (by kernel_rfl) _) ?_
    intro a w9 hm hold hdep
    obtain ⟨_, h0, rfl⟩ := hdep 1 _ (by rw [hD]; rfl) (by rfl)
    have e0 := eval_of h0
    exact gPure (by first | (go_simp; done) | (go_simp; rfl))
   ·refine step_of _ _ hM hV hnd (by rw [hD]; rfl) rfl rfl rfl (of_decide_eq_true rfl) (within_of (by kernel_rfl) _) ?_
    intro a w9 hm hold hdep
    have e0 := eval_of ((hold 1 (by rw [hD]; rfl)).trans rfl)
    exact gPure (by first | (go_simp; done) | (go_simp; rfl))
   ·refine step_of _ _ hM hV hnd (by rw [hD]; rfl) rfl rfl rfl (of_decide_eq_true rfl) (within_of (by kernel_rfl) _) ?_
    intro a w9 hm hold hdep
    obtain ⟨_, h0, rfl⟩ := hdep 3 _ (by rw [hD]; rfl) (by rfl)
    have e0 := eval_of h0
    have z := (blk_cell hm.1 1).trans rfl
    exact gPure (by first | (go_simp; done) | (go_simp; rfl))
   ·refine step_of _ _ hM hV hnd (by rw [hD]; rfl) rfl rfl rfl (of_decide_eq_true rfl) (within_of (by kernel_rfl) _) ?_
    intro a w9 hm hold hdep
    obtain ⟨_, h0, rfl⟩ := hdep 4 _ (by rw [hD]; rfl) (by rfl)
    have e0 := eval_of h0
    exact gPure (by first | (go_simp; done) | (go_simp; rfl))
   ·refine step_of _ _ hM hV hnd (by rw [hD]; rfl) rfl rfl rfl (of_decide_eq_true rfl) (within_of (by kernel_rfl) _) ?_
    intro a w9 hm hold hdep
    obtain ⟨_, h0, rfl⟩ := hdep 2 _ (by rw [hD]; rfl) (by rfl)
    have e0 := eval_of h0
    obtain ⟨_, h1, rfl⟩ := hdep 5 _ (by rw [hD]; rfl) (by rfl)
    have e1 := eval_of h1
    refine .inl ⟨.slice (some ⟨w9.heap.size, 0, none⟩) 2 2, w9.alloc (.cells #[.int .u8 (a0_0 % 256), .int .u8 (a0_1 % 256)] 5 (0, 0)), (by first | (go_simp; done) | (go_simp; rfl)), ?_, below_alloc (Below.refl _ _) _⟩
    have h2 := World.ownsRow_lit (base := w.heap.size) (e := 5) (size := 1) w9 #[.int .u8 (a0_0 % 256), .int .u8 (a0_1 % 256)] 2 (below_size hm.2) (by decide) (by rfl)
    exact Kd.R_of_own (enc := Value.int .u8) (h1 := fun _ => rfl) (by simpa [encs] using h2) (fun _ _ => trivial)
   ·refine step_of _ _ hM hV hnd (by rw [hD]; rfl) rfl rfl rfl (of_decide_eq_true rfl) (within_of (by kernel_rfl) _) ?_
    intro a w9 hm hold hdep
    obtain ⟨v0, h0, r0⟩ := hdep 6 _ (by rw [hD]; rfl) (by rfl)
    have e0 := eval_of h0
    obtain ⟨A, c, rfl, _, hC⟩ := Kd.R_reads r0
    have kc : (convert 94 9 (.slice A 2 c)).run Tryz.prog w9 = _ := Kd.C_string (P := Tryz.prog) (c := c) Tryz.underlying94 Tryz.underlying5 Tryz.underlying9 hC
    exact gPure (by first | (go_simp; done) | (go_simp; rfl))
   ·refine step_of _ _ hM hV hnd (by rw [hD]; rfl) rfl rfl rfl (of_decide_eq_true rfl) (within_of (by kernel_rfl) _) ?_
    intro a w9 hm hold hdep
    have e0 := eval_of ((hold 4 (by rw [hD]; rfl)).trans rfl)
    exact gPure (by first | (go_simp; done) | (go_simp; rfl))
   ·refine step_of _ _ hM hV hnd (by rw [hD]; rfl) rfl rfl rfl (of_decide_eq_true rfl) (within_of (by kernel_rfl) _) ?_
    intro a w9 hm hold hdep
    obtain ⟨_, h0, rfl⟩ := hdep 7 _ (by rw [hD]; rfl) (by rfl)
    have e0 := eval_of h0
    obtain ⟨_, h1, rfl⟩ := hdep 8 _ (by rw [hD]; rfl) (by rfl)
    have e1 := eval_of h1
    have c := C6.out
    try simp only [ByteArray.size_append] at c
    exact gPure (by first | (go_simp; done) | (go_simp; rfl) | (go_simp; exact c))
   ·refine step_of _ _ hM hV hnd (by rw [hD]; rfl) rfl rfl rfl (of_decide_eq_true rfl) (within_of (by kernel_rfl) _) ?_
    intro a w9 hm hold hdep
    have e0 := eval_of ((hold 1 (by rw [hD]; rfl)).trans rfl)
    exact gPure (by first | (go_simp; done) | (go_simp; rfl))
   ·refine step_of _ _ hM hV hnd (by rw [hD]; rfl) rfl rfl rfl (of_decide_eq_true rfl) (within_of (by kernel_rfl) _) ?_
    intro a w9 hm hold hdep
    obtain ⟨_, h0, rfl⟩ := hdep 10 _ (by rw [hD]; rfl) (by rfl)
    have e0 := eval_of h0
    exact gPure (by first | (go_simp; done) | (go_simp; rfl))
   ·refine step_of _ _ hM hV hnd (by rw [hD]; rfl) rfl rfl rfl (of_decide_eq_true rfl) (within_of (by kernel_rfl) _) ?_
    intro a w9 hm hold hdep
    obtain ⟨_, h0, rfl⟩ := hdep 11 _ (by rw [hD]; rfl) (by rfl)
    have e0 := eval_of h0
    have z := (blk_cell hm.1 3).trans rfl
    exact gPure (by first | (go_simp; done) | (go_simp; rfl))
   ·refine step_of _ _ hM hV hnd (by rw [hD]; rfl) rfl rfl rfl (of_decide_eq_true rfl) (within_of (by kernel_rfl) _) ?_
    intro a w9 hm hold hdep
    obtain ⟨_, h0, rfl⟩ := hdep 12 _ (by rw [hD]; rfl) (by rfl)
    have e0 := eval_of h0
    exact gPure (by first | (go_simp; done) | (go_simp; rfl))
   ·refine step_of _ _ hM hV hnd (by rw [hD]; rfl) rfl rfl rfl (of_decide_eq_true rfl) (within_of (by kernel_rfl) _) ?_
    intro a w9 hm hold hdep
    obtain ⟨_, h0, rfl⟩ := hdep 13 _ (by rw [hD]; rfl) (by rfl)
    have e0 := eval_of h0
    refine .inl ⟨.slice (some ⟨w9.heap.size, 0, none⟩) 1 1, w9.alloc (.cells #[.int .u8 (a0_3 % 256)] 5 (0, 0)), (by first | (go_simp; done) | (go_simp; rfl)), ?_, below_alloc (Below.refl _ _) _⟩
    have h2 := World.ownsRow_lit (base := w.heap.size) (e := 5) (size := 1) w9 #[.int .u8 (a0_3 % 256)] 1 (below_size hm.2) (by decide) (by rfl)
    exact Kd.R_of_own (enc := Value.int .u8) (h1 := fun _ => rfl) (by simpa [encs] using h2) (fun _ _ => trivial)
   ·refine step_of _ _ hM hV hnd (by rw [hD]; rfl) rfl rfl rfl (of_decide_eq_true rfl) (within_of (by kernel_rfl) _) ?_
    intro a w9 hm hold hdep
    obtain ⟨v0, h0, r0⟩ := hdep 14 _ (by rw [hD]; rfl) (by rfl)
    have e0 := eval_of h0
    obtain ⟨A, c, rfl, _, hC⟩ := Kd.R_reads r0
    have kc : (convert 94 9 (.slice A 1 c)).run Tryz.prog w9 = _ := Kd.C_string (P := Tryz.prog) (c := c) Tryz.underlying94 Tryz.underlying5 Tryz.underlying9 hC
    exact gPure (by first | (go_simp; done) | (go_simp; rfl))
   ·refine step_of _ _ hM hV hnd (by rw [hD]; rfl) rfl rfl rfl (of_decide_eq_true rfl) (within_of (by kernel_rfl) _) ?_
    intro a w9 hm hold hdep
    obtain ⟨_, h0, rfl⟩ := hdep 9 _ (by rw [hD]; rfl) (by rfl)
    have e0 := eval_of h0
    obtain ⟨_, h1, rfl⟩ := hdep 15 _ (by rw [hD]; rfl) (by rfl)
    have e1 := eval_of h1
    have c := C7.out
    try simp only [ByteArray.size_append] at c
    exact gPure (by first | (go_simp; done) | (go_simp; rfl) | (go_simp; exact c))
   ·refine step_of _ _ hM hV hnd (by rw [hD]; rfl) rfl rfl rfl (of_decide_eq_true rfl) (within_of (by kernel_rfl) _) ?_
    intro a w9 hm hold hdep
    have e0 := eval_of ((hold 1 (by rw [hD]; rfl)).trans rfl)
    exact gPure (by first | (go_simp; done) | (go_simp; rfl))
   ·refine step_of _ _ hM hV hnd (by rw [hD]; rfl) rfl rfl rfl (of_decide_eq_true rfl) (within_of (by kernel_rfl) _) ?_
    intro a w9 hm hold hdep
    obtain ⟨_, h0, rfl⟩ := hdep 17 _ (by rw [hD]; rfl) (by rfl)
    have e0 := eval_of h0
    exact gPure (by first | (go_simp; done) | (go_simp; rfl))
   ·refine step_of _ _ hM hV hnd (by rw [hD]; rfl) rfl rfl rfl (of_decide_eq_true rfl) (within_of (by kernel_rfl) _) ?_
    intro a w9 hm hold hdep
    obtain ⟨_, h0, rfl⟩ := hdep 18 _ (by rw [hD]; rfl) (by rfl)
    have e0 := eval_of h0
    have z := (blk_cell hm.1 4).trans rfl
    exact gPure (by first | (go_simp; done) | (go_simp; rfl))
   ·refine step_of _ _ hM hV hnd (by rw [hD]; rfl) rfl rfl rfl (of_decide_eq_true rfl) (within_of (by kernel_rfl) _) ?_
    intro a w9 hm hold hdep
    obtain ⟨_, h0, rfl⟩ := hdep 19 _ (by rw [hD]; rfl) (by rfl)
    have e0 := eval_of h0
    refine .inr ⟨80, #[.int .i64 a0_4], (by first | (go_simp; done) | (go_simp; rfl)), (impl_four.calls a0_4 t218 _ A8.out).mono ?_⟩
    rintro e w2 ⟨rfl, hb⟩
    exact ⟨_, rfl, rfl, hb⟩
   ·refine step_of _ _ hM hV hnd (by rw [hD]; rfl) rfl rfl rfl (of_decide_eq_true rfl) (within_of (by kernel_rfl) _) ?_
    intro a w9 hm hold hdep
    obtain ⟨_, h0, rfl⟩ := hdep 16 _ (by rw [hD]; rfl) (by rfl)
    have e0 := eval_of h0
    obtain ⟨_, h1, rfl⟩ := hdep 20 _ (by rw [hD]; rfl) (by rfl)
    have e1 := eval_of h1
    have c := C9.out
    try simp only [ByteArray.size_append] at c
    exact gPure (by first | (go_simp; done) | (go_simp; rfl) | (go_simp; exact c))
   ·refine step_of _ _ hM hV hnd (by rw [hD]; rfl) rfl rfl rfl (of_decide_eq_true rfl) (within_of (by kernel_rfl) _) ?_
    intro a w9 hm hold hdep
    have e0 := eval_of ((hold 1 (by rw [hD]; rfl)).trans rfl)
    exact gPure (by first | (go_simp; done) | (go_simp; rfl))
   ·refine step_of _ _ hM hV hnd (by rw [hD]; rfl) rfl rfl rfl (of_decide_eq_true rfl) (within_of (by kernel_rfl) _) ?_
    intro a w9 hm hold hdep
    obtain ⟨_, h0, rfl⟩ := hdep 22 _ (by rw [hD]; rfl) (by rfl)
    have e0 := eval_of h0
    exact gPure (by first | (go_simp; done) | (go_simp; rfl))
   ·refine step_of _ _ hM hV hnd (by rw [hD]; rfl) rfl rfl rfl (of_decide_eq_true rfl) (within_of (by kernel_rfl) _) ?_
    intro a w9 hm hold hdep
    obtain ⟨_, h0, rfl⟩ := hdep 23 _ (by rw [hD]; rfl) (by rfl)
    have e0 := eval_of h0
    have z := (blk_cell hm.1 5).trans rfl
    exact gPure (by first | (go_simp; done) | (go_simp; rfl))
   ·refine step_of _ _ hM hV hnd (by rw [hD]; rfl) rfl rfl rfl (of_decide_eq_true rfl) (within_of (by kernel_rfl) _) ?_
    intro a w9 hm hold hdep
    obtain ⟨_, h0, rfl⟩ := hdep 24 _ (by rw [hD]; rfl) (by rfl)
    have e0 := eval_of h0
    refine .inr ⟨80, #[.int .i64 a0_5], (by first | (go_simp; done) | (go_simp; rfl)), (impl_four.calls a0_5 t219 _ A10.out).mono ?_⟩
    rintro e w2 ⟨rfl, hb⟩
    exact ⟨_, rfl, rfl, hb⟩
   ·refine step_of _ _ hM hV hnd (by rw [hD]; rfl) rfl rfl rfl (of_decide_eq_true rfl) (within_of (by kernel_rfl) _) ?_
    intro a w9 hm hold hdep
    obtain ⟨_, h0, rfl⟩ := hdep 21 _ (by rw [hD]; rfl) (by rfl)
    have e0 := eval_of h0
    obtain ⟨_, h1, rfl⟩ := hdep 25 _ (by rw [hD]; rfl) (by rfl)
    have e1 := eval_of h1
    have c := C11.out
    try simp only [ByteArray.size_append] at c
    exact gPure (by first | (go_simp; done) | (go_simp; rfl) | (go_simp; exact c))
   ·refine step_of _ _ hM hV hnd (by rw [hD]; rfl) rfl rfl rfl (of_decide_eq_true rfl) (within_of (by kernel_rfl) _) ?_
    intro a w9 hm hold hdep
    have e0 := eval_of ((hold 6 (by rw [hD]; rfl)).trans rfl)
    exact gPure (by first | (go_simp; done) | (go_simp; rfl))
   ·refine step_of _ _ hM hV hnd (by rw [hD]; rfl) rfl rfl rfl (of_decide_eq_true rfl) (within_of (by kernel_rfl) _) ?_
    intro a w9 hm hold hdep
    obtain ⟨_, h0, rfl⟩ := hdep 26 _ (by rw [hD]; rfl) (by rfl)
    have e0 := eval_of h0
    obtain ⟨_, h1, rfl⟩ := hdep 27 _ (by rw [hD]; rfl) (by rfl)
    have e1 := eval_of h1
    have c := C12.out
    try simp only [ByteArray.size_append] at c
    exact gPure (by first | (go_simp; done) | (go_simp; rfl) | (go_simp; exact c))
   ·refine step_of _ _ hM hV hnd (by rw [hD]; rfl) rfl rfl rfl (of_decide_eq_true rfl) (within_of (by kernel_rfl) _) ?_
    intro a w9 hm hold hdep
    obtain ⟨_, h0, rfl⟩ := hdep 28 _ (by rw [hD]; rfl) (by rfl)
    have e0 := eval_of h0
    refine .inr ⟨104, #[.string (((((strOfNums [a0_0 % 256, a0_1 % 256] ++ t208) ++ strOfNums [a0_3 % 256]) ++ t218) ++ t219) ++ t210)], (by first | (go_simp; done) | (go_simp; rfl)), (impl_Sealed.calls k _ t220 t221 _ A13.out).mono ?_⟩
    rintro e w2 ⟨rfl, hb⟩
    exact ⟨_, rfl, rfl, hb⟩
   ·refine step_of _ _ hM hV hnd (by rw [hD]; rfl) rfl rfl rfl (of_decide_eq_true rfl) (within_of (by kernel_rfl) _) ?_
    intro a w9 hm hold hdep
    obtain ⟨_, h0, rfl⟩ := hdep 29 _ (by rw [hD]; rfl) (by rfl)
    have e0 := eval_of h0
    exact gPure (by first | (go_simp; done) | (go_simp; rfl))
   ·refine step_of _ _ hM hV hnd (by rw [hD]; rfl) rfl rfl rfl (of_decide_eq_true rfl) (within_of (by kernel_rfl) _) ?_
    intro a w9 hm hold hdep
    obtain ⟨_, h0, rfl⟩ := hdep 29 _ (by rw [hD]; rfl) (by rfl)
    have e0 := eval_of h0
    exact gPure (by first | (go_simp; done) | (go_simp; rfl))
   ·refine step_of _ _ hM hV hnd (by rw [hD]; rfl) rfl rfl rfl (of_decide_eq_true rfl) (within_of (by kernel_rfl) _) ?_
    intro a w9 hm hold hdep
    obtain ⟨_, h0, rfl⟩ := hdep 30 _ (by rw [hD]; rfl) (by rfl)
    have e0 := eval_of h0
    exact gPure (by first | (go_simp; done) | (go_simp; rfl))
   ·refine step_of _ _ hM hV hnd (by rw [hD]; rfl) rfl rfl rfl (of_decide_eq_true rfl) (within_of (by kernel_rfl) _) ?_
    intro a w9 hm hold hdep
    obtain ⟨_, h0, rfl⟩ := hdep 31 _ (by rw [hD]; rfl) (by rfl)
    have e0 := eval_of h0
    exact gPure (by first | (go_simp; done) | (go_simp; rfl))
  ·intro a w9 hB9 hM9 hsz hdf hold hdone
   rename_i K hK
   obtain ⟨_, h2, rfl⟩ := hdone 32 _ (by decide) (by rw [hD]; rfl)
   obtain ⟨_, h3, rfl⟩ := hdone 33 _ (by decide) (by rw [hD]; rfl)
   show K a w9
   refine hK _ _ ?_
   go_wp2
   refine bodyPost_ret (results_list (rs := [.tmp 2, .tmp 3]) rfl (by simp) (.tmp (.tmp .nil))) (hdf.trans rfl) ⟨?_, hB9⟩
   simp only [Array.getD_eq_getD_getElem?]
   rw [h2, h3]
   rfl
 ·rename_i c3
  have c4 : t207 = false := by simpa using c3
  subst c4
  simp only [Option.some.injEq, Prod.mk.injEq] at h
  obtain ⟨rfl, rfl⟩ := h
  go_enter Tryz.func92, Tryz.ntmps92
  go_wp2_with (first
   | ((with_reducible refine gate_dst (N := 1) rfl ?_); refine box_event rfl (N := 1) rfl (cs := #[.int .i64 a0_0, .int .i64 a0_1, .int .i64 a0_2, .int .i64 a0_3, .int .i64 a0_4, .int .i64 a0_5, .int .i64 a0_6]) (t := 134) (by kernel_rfl) ?_; intro g hg w1 hbox hb; have BK := Aside0.mk hbox; have GE := Aside0.mk (by rw [hg]; exact below_size HB.out : w.heap.size ≤ g); have n1_ := Aside0.mk (below_step HB.out hb); clear HB; have HB := n1_; clear n1_ hbox hb hg; have z0 : w1.cell? ⟨g, 0, none⟩ = some (.int .i64 a0_0) := (blk_cell BK.out 0).trans rfl; have z1 : w1.cell? ⟨g, 1, none⟩ = some (.int .i64 a0_1) := (blk_cell BK.out 1).trans rfl; have z2 : w1.cell? ⟨g, 2, none⟩ = some (.int .i64 a0_2) := (blk_cell BK.out 2).trans rfl; have z3 : w1.cell? ⟨g, 3, none⟩ = some (.int .i64 a0_3) := (blk_cell BK.out 3).trans rfl; have z4 : w1.cell? ⟨g, 4, none⟩ = some (.int .i64 a0_4) := (blk_cell BK.out 4).trans rfl; have z5 : w1.cell? ⟨g, 5, none⟩ = some (.int .i64 a0_5) := (blk_cell BK.out 5).trans rfl; have z6 : w1.cell? ⟨g, 6, none⟩ = some (.int .i64 a0_6) := (blk_cell BK.out 6).trans rfl)
   | (go_at_call 102; (with_reducible refine (impl_FrameOk.calls k a0_0 a0_1 a0_2 a0_3 a0_4 a0_5 a0_6 false _ A2.out).mono ?_); rintro e w2 ⟨rfl, hb⟩; have n1_ := Aside0.mk (below_step HB.out hb); clear HB; have HB := n1_; clear n1_ hb))
  refine bodyPost_ret (results_list (rs := [.tmp 2, .tmp 3]) rfl (by simp) (.tmp (.tmp .nil))) rfl ⟨rfl, HB.out⟩
end Go.Proofs.YtcbjlcgfhbfneaaGreatDoor.PA

namespace Go.Proofs.YtcbjlcgfhbfneaaGreatDoor.PA
open Go.RowKit Go.Proofs.YtcbjlcgfhbfneaaGreatDoor.Short Go.Proofs.YtcbjlcgfhbfneaaGreatDoorW.PrintWords Go.Proofs.YtcbjlcgfhbfneaaGreatDoorW.PrintLast Go.Proofs.YtcbjlcgfhbfneaaGreatDoorW.PrintMore
attribute [local go_sem] max2_int min2_int max_two min_two max_three min_three max_four min_four   -- for this text's walks alone
set_option linter.unusedVariables false
set_option linter.unusedSimpArgs false

def impl_EntryText.f (k : Nat) (a0_0 : Int) (a0_1 : Int) (a0_2 : Int) (a0_3 : Int) (a0_4 : Int) (a0_5 : Int) : Option (ByteArray) := (impl_FrameText.f k 1 a0_0 a0_1 a0_2 a0_3 a0_4 a0_5).bind fun bt473 => (some bt473.1)
theorem impl_EntryText.mono : ∀ a0 a1 a2 a3 a4 a5 k, LeO (impl_EntryText.f k a0 a1 a2 a3 a4 a5) (impl_EntryText.f (k + 1) a0 a1 a2 a3 a4 a5) := by
 intro a0 a1 a2 a3 a4 a5 k
 unfold impl_EntryText.f
 have m0 := @impl_FrameText.mono
 exact mo_
theorem impl_EntryText.calls (k : Nat) (a0_0 : Int) (a0_1 : Int) (a0_2 : Int) (a0_3 : Int) (a0_4 : Int) (a0_5 : Int) (r : ByteArray) (w : World) (h : impl_EntryText.f k a0_0 a0_1 a0_2 a0_3 a0_4 a0_5 = some r) :
 Calls Tryz.prog 76 #[.agg #[.int .i64 a0_0, .int .i64 a0_1, .int .i64 a0_2, .int .i64 a0_3, .int .i64 a0_4, .int .i64 a0_5]] w fun e w' => e = .returned (.string r) ∧ Below w.heap.size w w' := by
 have hu61 := Tryz.underlying61
 have hu59 := Tryz.underlying59
 have hu134 := Tryz.underlying134
 have HB := Aside0.mk (Below.refl w.heap.size w)
 have H := h
 unfold impl_EntryText.f at H
 clear h
 replace H := bs_ H
 obtain ⟨⟨t473, t474⟩, A2, H⟩ := H
 try dsimp only at H
 obtain rfl := Option.some.inj H
 go_enter Tryz.func76, Tryz.ntmps76
 go_wp2_with (first | ((with_reducible refine gate_dst (N := 1) rfl ?_); refine bx_ 1 61 #[.int .i64 a0_0, .int .i64 a0_1, .int .i64 a0_2, .int .i64 a0_3, .int .i64 a0_4, .int .i64 a0_5] ?_; intro gb472 hg w3 hbox hb; have BK472 := Aside0.mk (hbox); have GW472 := Aside0.mk ((hz_ : w.heap.size ≤ gb472)); have GE472 := Aside0.mk ((hz_ : w.heap.size ≤ gb472)); replace HB := Aside0.mk (below_step bl_ hb); clear hb hbox hg; obtain ⟨hcz4_0, hcz4_1, hcz4_2, hcz4_3, hcz4_4, hcz4_5, hfz4_0, hfz4_1, hfz4_2, hfz4_3, hfz4_4, hfz4_5⟩ := cf6_ BK472.out) | ((with_reducible refine gate_callee (f := 92) rfl ?_); refine gs_ (some 13) Tryz.func92 #[.agg #[.int .i64 1, .int .i64 a0_0, .int .i64 a0_1, .int .i64 a0_2, .int .i64 a0_3, .int .i64 a0_4, .int .i64 a0_5]] ?_; (with_reducible refine (impl_FrameText.calls k 1 a0_0 a0_1 a0_2 a0_3 a0_4 a0_5 t473 t474 _ A2.out).mono ?_); rintro e w5 ⟨rfl, hb⟩; refine ⟨_, rfl, ?_⟩; replace BK472 := Aside0.mk (blk_below (bn0_ BK472.out) hb); replace HB := Aside0.mk (below_step bl_ hb); (try clear hb)))
 go_ret
 exact ⟨er_, bl_⟩


def impl_HeadFrom.l0 : Nat → ByteArray → List (S61) → Int → Int → Option (ByteArray)
 | 0, _, _, _, _ => none
 | k + 1, x0, x7, x8, x9 => if x9 < x8 then (if 0 ≤ x9 then (if x9 < (x7.length : Int) then ((impl_EntryText.f k ((rd_T61 x7 x9).f0) ((rd_T61 x7 x9).f1) ((rd_T61 x7 x9).f2.f0) ((rd_T61 x7 x9).f2.f1) ((rd_T61 x7 x9).f2.f2) ((rd_T61 x7 x9).f2.f3)).bind fun t477 => (if x0.size + t477.size ≤ 9223372036854775807 then ((impl_Digest.f k (x0 ++ t477)).bind fun t478 => (impl_HeadFrom.l0 k t478 x7 x8 (wrap64 (x9 + 1)))) else (none))) else (none)) else (none)) else (some x0)
def impl_HeadFrom.f (k : Nat) (a0 : ByteArray) (l1 : List (S61)) : Option (ByteArray) := impl_HeadFrom.l0 k a0 l1 (l1.length : Int) 0
theorem impl_HeadFrom.mono_l : ∀ k, (∀ y0 y1 y2 y3, LeO (impl_HeadFrom.l0 k y0 y1 y2 y3) (impl_HeadFrom.l0 (k + 1) y0 y1 y2 y3))
 | 0 => fun _ _ _ _ r h => by simp [impl_HeadFrom.l0] at h
 | k + 1 => by
  have ih0 := impl_HeadFrom.mono_l k
  ·intro y0 y1 y2 y3
   unfold impl_HeadFrom.l0
   have m0 := @impl_Digest.mono
   have m1 := @impl_EntryText.mono
   exact mo_
theorem impl_HeadFrom.mono : ∀ a0 a1 k, LeO (impl_HeadFrom.f k a0 a1) (impl_HeadFrom.f (k + 1) a0 a1) := by
 intro a0 a1 k
 have ih0 := impl_HeadFrom.mono_l k
 unfold impl_HeadFrom.f
 have m0 := @impl_Digest.mono
 have m1 := @impl_EntryText.mono
 exact mo_
theorem impl_HeadFrom.calls (k : Nat) (a0 : ByteArray) (A1 : Option Addr) (c1 : Nat) (l1 : List (S61)) (r : ByteArray) (w : World) (hr1 : Kd.C k61 w A1 l1.length l1) (hc1 : l1.length ≤ c1) (hT : Tab w) (h : impl_HeadFrom.f k a0 l1 = some r) :
 Calls Tryz.prog 55 #[.string a0, .slice A1 l1.length c1] w fun e w' => e = .returned (.string r) ∧ Below w.heap.size w w' := by
 have hu61 := Tryz.underlying61
 have HR1 := Aside0.mk hr1
 have HC1 := Aside0.mk hc1
 clear hr1 hc1
 have HT := Aside0.mk hT
 clear hT
 have HB := Aside0.mk (Below.refl w.heap.size w)
 have H := h
 unfold impl_HeadFrom.f at H
 clear h
 have H' := Aside0.mk H
 clear H
 go_enter Tryz.func55, Tryz.ntmps55
 go_wp2
 go_loopg [0, 9] k (fun kq v0 v9 w' => ∃ (x0_1 : ByteArray) (x9_1 : Int), v0 = .string x0_1 ∧ v9 = .int .i64 x9_1 ∧ Aside0 (impl_HeadFrom.l0 kq x0_1 l1 (l1.length : Int) x9_1 = some r) ∧ Aside0 (kq ≤ k) ∧ Aside0 (Below w.heap.size w w'))
 case atStart => exact ⟨(a0), (0), (sr_), (sr_), H', ⟨Nat.le_refl _⟩, ⟨bl_⟩⟩
 clear H'
 try clear c1
 obtain ⟨x0_1, x9_1, rfl, rfl, HA, HK1, HB⟩ := hrel
 cases gk with
 | zero => exact absurd HA.out (by simp [impl_HeadFrom.l0])
 | succ k1 => ?_
 have H := HA.out
 clear HA
 simp only [impl_HeadFrom.l0] at H
 by_cases c3 : x9_1 < (l1.length : Int)
 rotate_left
 ·rw [if_neg c3] at H
  have c3b0 := decide_eq_false c3
  clear c3
  obtain rfl := Option.some.inj H
  go_wp2
  go_ret
  exact ⟨er_, bl_⟩
 rw [if_pos c3] at H
 have c3b0 := decide_eq_true c3
 clear c3
 by_cases c4 : 0 ≤ x9_1
 rotate_left
 ·exact nn_ c4 H
 rw [if_pos c4] at H
 have c4b0 := decide_eq_true c4
 clear c4
 by_cases c5 : x9_1 < (l1.length : Int)
 rotate_left
 ·exact nn_ c5 H
 rw [if_pos c5] at H
 have c5b0 := decide_eq_true c5
 clear c5
 replace H := bs_ H
 obtain ⟨t477, A6, H⟩ := H
 try dsimp only at H
 by_cases c7 : x0_1.size + t477.size ≤ 9223372036854775807
 rotate_left
 ·exact nn_ c7 H
 rw [if_pos c7] at H
 have c7b0 := eq_true c7
 have c7b1 : decide (x0_1.size + t477.size ≤ 9223372036854775807) = true := decide_eq_true c7
 try have c7b2 : (9223372036854775807 < x0_1.size + t477.size) = False := eq_false (Nat.not_lt.2 c7)
 replace H := bs_ H
 obtain ⟨t478, A8, H⟩ := H
 try dsimp only at H
 have H' := Aside0.mk H
 clear H
 have p475 : 0 ≤ (x9_1 : Int) := of_decide_eq_true as_
 have q475 : x9_1 < (l1.length : Int) := of_decide_eq_true as_
 obtain ⟨ad475, e475, hx475_0, hx475_1, hx475_2, hx475_3, hx475_4, hx475_5⟩ := at_T61 HR1.out x9_1 p475 q475
 cases e475
 replace hx475_0 := (HB.out.cell (World.block_lt_of_cell? w _ hx475_0)).trans hx475_0
 replace hx475_1 := (HB.out.cell (World.block_lt_of_cell? w _ hx475_1)).trans hx475_1
 replace hx475_2 := (HB.out.cell (World.block_lt_of_cell? w _ hx475_2)).trans hx475_2
 replace hx475_3 := (HB.out.cell (World.block_lt_of_cell? w _ hx475_3)).trans hx475_3
 replace hx475_4 := (HB.out.cell (World.block_lt_of_cell? w _ hx475_4)).trans hx475_4
 replace hx475_5 := (HB.out.cell (World.block_lt_of_cell? w _ hx475_5)).trans hx475_5
 replace p475 := eq_true p475
 replace q475 := eq_true q475
 go_wp2_with (first | ((with_reducible refine gate_dst (N := 6) rfl ?_); refine bx_ 6 61 #[.int .i64 0, .int .i64 0, .int .i64 0, .int .i64 0, .int .i64 0, .int .i64 0] ?_; intro gb476 hg w9 hbox hb; have BK476 := Aside0.mk (hbox); have GW476 := Aside0.mk ((hz_ : w.heap.size ≤ gb476)); have GE476 := Aside0.mk ((hz_ : w.heap.size ≤ gb476)); replace HB := Aside0.mk (below_step bl_ hb); clear hb hbox hg; obtain ⟨hcz10_0, hcz10_1, hcz10_2, hcz10_3, hcz10_4, hcz10_5, hfz10_0, hfz10_1, hfz10_2, hfz10_3, hfz10_4, hfz10_5⟩ := cf6_ BK476.out) | ((with_reducible refine gate_callee (f := 76) rfl ?_); refine gs_ (some 15) Tryz.func76 #[.agg #[.int .i64 ((rd_T61 l1 x9_1).f0), .int .i64 ((rd_T61 l1 x9_1).f1), .int .i64 ((rd_T61 l1 x9_1).f2.f0), .int .i64 ((rd_T61 l1 x9_1).f2.f1), .int .i64 ((rd_T61 l1 x9_1).f2.f2), .int .i64 ((rd_T61 l1 x9_1).f2.f3)]] ?_; (with_reducible refine (impl_EntryText.calls k1 ((rd_T61 l1 x9_1).f0) ((rd_T61 l1 x9_1).f1) ((rd_T61 l1 x9_1).f2.f0) ((rd_T61 l1 x9_1).f2.f1) ((rd_T61 l1 x9_1).f2.f2) ((rd_T61 l1 x9_1).f2.f3) t477 _ A6.out).mono ?_); rintro e w11 ⟨rfl, hb⟩; refine ⟨_, rfl, ?_⟩; replace BK476 := Aside0.mk (blk_below (g := gb476) (o := .cells #[.int .i64 ((rd_T61 l1 x9_1).f0), .int .i64 ((rd_T61 l1 x9_1).f1), .int .i64 ((rd_T61 l1 x9_1).f2.f0), .int .i64 ((rd_T61 l1 x9_1).f2.f1), .int .i64 ((rd_T61 l1 x9_1).f2.f2), .int .i64 ((rd_T61 l1 x9_1).f2.f3)] 61 (0, 0)) (bp0_ BK476.out) hb); replace HB := Aside0.mk (below_step bl_ hb); (try clear hb)) | ((with_reducible refine gate_callee (f := 56) rfl ?_); refine gs_ (some 17) Tryz.func56 #[.string (x0_1 ++ t477)] ?_; (with_reducible refine (impl_Digest.calls k1 (x0_1 ++ t477) t478 _ ?side1 A8.out).mono ?_); (case side1 => exact tab_of HT.out bl_); rintro e w12 ⟨rfl, hb⟩; refine ⟨_, rfl, ?_⟩; replace BK476 := Aside0.mk (blk_below (bn0_ BK476.out) hb); replace HB := Aside0.mk (below_step bl_ hb); (try clear hb)))
 go_roundg k1
 case measure => have := HK1.out; omega
 case rel => exact ⟨(t478), (wrap64 (x9_1 + 1)), (sr_), (sr_), H', ⟨by have := HK1.out; omega⟩, ⟨bl_⟩⟩


def impl_HeadOf.f (k : Nat) (l0 : List (S61)) : Option (ByteArray) := (impl_Digest.f k (⟨#[]⟩ : ByteArray)).bind fun t479 => ((impl_HeadFrom.f k t479 l0).bind fun t480 => (some t480))
theorem impl_HeadOf.mono : ∀ a0 k, LeO (impl_HeadOf.f k a0) (impl_HeadOf.f (k + 1) a0) := by
 intro a0 k
 unfold impl_HeadOf.f
 have m0 := @impl_Digest.mono
 have m1 := @impl_HeadFrom.mono
 exact mo_
theorem impl_HeadOf.calls (k : Nat) (A0 : Option Addr) (c0 : Nat) (l0 : List (S61)) (r : ByteArray) (w : World) (hr0 : Kd.C k61 w A0 l0.length l0) (hc0 : l0.length ≤ c0) (hT : Tab w) (h : impl_HeadOf.f k l0 = some r) :
 Calls Tryz.prog 29 #[.slice A0 l0.length c0] w fun e w' => e = .returned (.string r) ∧ Below w.heap.size w w' := by
 have HR0 := Aside0.mk hr0
 have HC0 := Aside0.mk hc0
 clear hr0 hc0
 have HT := Aside0.mk hT
 clear hT
 have HB := Aside0.mk (Below.refl w.heap.size w)
 have H := h
 unfold impl_HeadOf.f at H
 clear h
 replace H := bs_ H
 obtain ⟨t479, A2, H⟩ := H
 try dsimp only at H
 replace H := bs_ H
 obtain ⟨t480, A3, H⟩ := H
 try dsimp only at H
 obtain rfl := Option.some.inj H
 go_enter Tryz.func29, Tryz.ntmps29
 go_wp2_with (first | ((with_reducible refine gate_callee (f := 56) rfl ?_); refine gs_ (some 3) Tryz.func56 #[.string (⟨#[]⟩ : ByteArray)] ?_; (with_reducible refine (impl_Digest.calls k (⟨#[]⟩ : ByteArray) t479 _ ?side1 A2.out).mono ?_); (case side1 => exact tab_of HT.out bl_); rintro e w4 ⟨rfl, hb⟩; refine ⟨_, rfl, ?_⟩; replace HB := Aside0.mk (below_step bl_ hb); (try clear hb)) | ((with_reducible refine gate_callee (f := 55) rfl ?_); refine gs_ (some 5) Tryz.func55 #[.string t479, .slice A0 l0.length c0] ?_; (with_reducible refine (impl_HeadFrom.calls k t479 _ _ l0 t480 _ ?side1 ?side2 ?side3 A3.out).mono ?_); (case side1 => exact cb_ HR0.out HB.out); (case side2 => exact HC0.out); (case side3 => exact tab_of HT.out bl_); rintro e w5 ⟨rfl, hb⟩; refine ⟨_, rfl, ?_⟩; replace HB := Aside0.mk (below_step bl_ hb); (try clear hb)))
 go_ret
 exact ⟨er_, bl_⟩


def impl_ShowWorld.l0 : Nat → ByteArray → List (S61) → Int → Int → List (List (List (S154))) → List (S101) → List (S104) → List (S61) → List Int → List (S142) → Int → List Int → List (S108) → Int → List Int → List (S111) → Option (ByteArray)
 | 0, _, _, _, _, _, _, _, _, _, _, _, _, _, _, _, _ => none
 | k + 1, x3, x10, x11, x12, x482000, x482001, x482002, x482003, x482004, x482005, x482006, x482007, x482008, x482009, x482010, x482011 => if x12 < x11 then (if 0 ≤ x12 then (if x12 < (x10.length : Int) then ((impl_ShowEntry.f k ((rd_T61 x10 x12).f0) ((rd_T61 x10 x12).f1) ((rd_T61 x10 x12).f2.f0) ((rd_T61 x10 x12).f2.f1) ((rd_T61 x10 x12).f2.f2) ((rd_T61 x10 x12).f2.f3)).bind fun t484 => (if x3.size + t484.size ≤ 9223372036854775807 then (impl_ShowWorld.l0 k (x3 ++ t484) x10 x11 (wrap64 (x12 + 1)) x482000 x482001 x482002 x482003 x482004 x482005 x482006 x482007 x482008 x482009 x482010 x482011) else (none))) else (none)) else (none)) else ((impl_HeadOf.f k x482003).bind fun t485 => ((impl_Hex.f k t485).bind fun bt486 => (if x3.size + 5 ≤ 9223372036854775807 then (if 0 ≤ 8 then (if 8 ≤ (bt486.1.size : Int) then (if (x3 ++ (⟨#[104, 101, 97, 100, 32]⟩ : ByteArray)).size + (bt486.1.extract 0 8).size ≤ 9223372036854775807 then (if ((x3 ++ (⟨#[104, 101, 97, 100, 32]⟩ : ByteArray)) ++ (bt486.1.extract 0 8)).size + 7 ≤ 9223372036854775807 then ((impl_shown.f k x482006).bind fun t488 => (if (((x3 ++ (⟨#[104, 101, 97, 100, 32]⟩ : ByteArray)) ++ (bt486.1.extract 0 8)) ++ (⟨#[32, 115, 97, 118, 101, 100, 32]⟩ : ByteArray)).size + t488.size ≤ 9223372036854775807 then (if ((((x3 ++ (⟨#[104, 101, 97, 100, 32]⟩ : ByteArray)) ++ (bt486.1.extract 0 8)) ++ (⟨#[32, 115, 97, 118, 101, 100, 32]⟩ : ByteArray)) ++ t488).size + 1 ≤ 9223372036854775807 then (some (((((x3 ++ (⟨#[104, 101, 97, 100, 32]⟩ : ByteArray)) ++ (bt486.1.extract 0 8)) ++ (⟨#[32, 115, 97, 118, 101, 100, 32]⟩ : ByteArray)) ++ t488) ++ (⟨#[10]⟩ : ByteArray))) else (none)) else (none))) else (none)) else (none)) else (none)) else (none)) else (none))))
def impl_ShowWorld.f (k : Nat) (l0_0 : List (List (List (S154)))) (l0_1 : List (S101)) (l0_2 : List (S104)) (l0_3 : List (S61)) (l0_4 : List Int) (l0_5 : List (S142)) (a0_6 : Int) (l0_7 : List Int) (l0_8 : List (S108)) (a0_9 : Int) (l0_10 : List Int) (l0_11 : List (S111)) : Option (ByteArray) := impl_ShowWorld.l0 k (⟨#[]⟩ : ByteArray) l0_3 (l0_3.length : Int) 0 l0_0 l0_1 l0_2 l0_3 l0_4 l0_5 a0_6 l0_7 l0_8 a0_9 l0_10 l0_11
theorem impl_ShowWorld.mono_l : ∀ k, (∀ y0 y1 y2 y3 y4 y5 y6 y7 y8 y9 y10 y11 y12 y13 y14 y15, LeO (impl_ShowWorld.l0 k y0 y1 y2 y3 y4 y5 y6 y7 y8 y9 y10 y11 y12 y13 y14 y15) (impl_ShowWorld.l0 (k + 1) y0 y1 y2 y3 y4 y5 y6 y7 y8 y9 y10 y11 y12 y13 y14 y15))
 | 0 => fun _ _ _ _ _ _ _ _ _ _ _ _ _ _ _ _ r h => by simp [impl_ShowWorld.l0] at h
 | k + 1 => by
  have ih0 := impl_ShowWorld.mono_l k
  ·intro y0 y1 y2 y3 y4 y5 y6 y7 y8 y9 y10 y11 y12 y13 y14 y15
   unfold impl_ShowWorld.l0
   have m0 := @impl_HeadOf.mono
   have m1 := @impl_Hex.mono
   have m2 := @impl_ShowEntry.mono
   have m3 := @impl_shown.mono
   exact mo_
theorem impl_ShowWorld.mono : ∀ a0 a1 a2 a3 a4 a5 a6 a7 a8 a9 a10 a11 k, LeO (impl_ShowWorld.f k a0 a1 a2 a3 a4 a5 a6 a7 a8 a9 a10 a11) (impl_ShowWorld.f (k + 1) a0 a1 a2 a3 a4 a5 a6 a7 a8 a9 a10 a11) := by
 intro a0 a1 a2 a3 a4 a5 a6 a7 a8 a9 a10 a11 k
 have ih0 := impl_ShowWorld.mono_l k
 unfold impl_ShowWorld.f
 have m0 := @impl_HeadOf.mono
 have m1 := @impl_Hex.mono
 have m2 := @impl_ShowEntry.mono
 have m3 := @impl_shown.mono
 exact mo_
def impl_ShowWorld.T8 : Bool × List (List Nat × List Nat) := (true, [([], []), ([0], [0]), ([], []), ([2], [2]), ([1, 3], [1, 3]), ([4], [4]), ([], []), ([6], [6]), ([7], [7]), ([8], [8]), ([5, 9], [5, 9]), ([10], [10]), ([11, 9, 0, 1, 2, 3, 4, 5, 6, 7, 8, 9, 10, 11], [11])])
def impl_ShowWorld.B8 : List Nat := [0, 1, 0, 4, 15, 31, 0, 64, 192, 448, 1023, 2047, 4095]
theorem impl_ShowWorld.tab8 : rtab .any (opsOf Tryz.f7 8) = impl_ShowWorld.T8 := by kernel_rfl
theorem impl_ShowWorld.bits8 : waitsOk impl_ShowWorld.T8.2 impl_ShowWorld.B8 = true := by kernel_rfl
theorem impl_ShowWorld.calls (k : Nat) (A0_0 : Option Addr) (c0_0 : Nat) (l0_0 : List (List (List (S154)))) (A0_1 : Option Addr) (c0_1 : Nat) (l0_1 : List (S101)) (A0_2 : Option Addr) (c0_2 : Nat) (l0_2 : List (S104)) (A0_3 : Option Addr) (c0_3 : Nat) (l0_3 : List (S61)) (A0_4 : Option Addr) (c0_4 : Nat) (l0_4 : List Int) (A0_5 : Option Addr) (c0_5 : Nat) (l0_5 : List (S142)) (a0_6 : Int) (A0_7 : Option Addr) (c0_7 : Nat) (l0_7 : List Int) (A0_8 : Option Addr) (c0_8 : Nat) (l0_8 : List (S108)) (a0_9 : Int) (A0_10 : Option Addr) (c0_10 : Nat) (l0_10 : List Int) (A0_11 : Option Addr) (c0_11 : Nat) (l0_11 : List (S111)) (r : ByteArray) (w : World) (hr0_0 : Kd.C (Kd.slice 135 (Kd.slice 154 k154)) w A0_0 l0_0.length l0_0) (hc0_0 : l0_0.length ≤ c0_0) (hr0_1 : Kd.C k101 w A0_1 l0_1.length l0_1) (hc0_1 : l0_1.length ≤ c0_1) (hr0_2 : Kd.C k104 w A0_2 l0_2.length l0_2) (hc0_2 : l0_2.length ≤ c0_2) (hr0_3 : Kd.C k61 w A0_3 l0_3.length l0_3) (hc0_3 : l0_3.length ≤ c0_3) (hr0_4 : Kd.C (Kd.int .i64) w A0_4 l0_4.length l0_4) (hc0_4 : l0_4.length ≤ c0_4) (hr0_5 : Kd.C k142 w A0_5 l0_5.length l0_5) (hc0_5 : l0_5.length ≤ c0_5) (hr0_7 : Kd.C (Kd.int .i64) w A0_7 l0_7.length l0_7) (hc0_7 : l0_7.length ≤ c0_7) (hr0_8 : Kd.C k108 w A0_8 l0_8.length l0_8) (hc0_8 : l0_8.length ≤ c0_8) (hr0_10 : Kd.C (Kd.int .i64) w A0_10 l0_10.length l0_10) (hc0_10 : l0_10.length ≤ c0_10) (hr0_11 : Kd.C k111 w A0_11 l0_11.length l0_11) (hc0_11 : l0_11.length ≤ c0_11) (hT : Tab w) (h : impl_ShowWorld.f k l0_0 l0_1 l0_2 l0_3 l0_4 l0_5 a0_6 l0_7 l0_8 a0_9 l0_10 l0_11 = some r) :
 Calls Tryz.prog 7 #[.agg #[.slice A0_0 l0_0.length c0_0, .slice A0_1 l0_1.length c0_1, .slice A0_2 l0_2.length c0_2, .slice A0_3 l0_3.length c0_3, .slice A0_4 l0_4.length c0_4, .slice A0_5 l0_5.length c0_5, .int .i64 a0_6, .slice A0_7 l0_7.length c0_7, .slice A0_8 l0_8.length c0_8, .int .i64 a0_9, .slice A0_10 l0_10.length c0_10, .slice A0_11 l0_11.length c0_11]] w fun e w' => e = .returned (.string r) ∧ Below w.heap.size w w' := by
 have hu46 := Tryz.underlying46
 have hu61 := Tryz.underlying61
 have HR0_0 := Aside0.mk hr0_0
 have HC0_0 := Aside0.mk hc0_0
 clear hr0_0 hc0_0
 have HR0_1 := Aside0.mk hr0_1
 have HC0_1 := Aside0.mk hc0_1
 clear hr0_1 hc0_1
 have HR0_2 := Aside0.mk hr0_2
 have HC0_2 := Aside0.mk hc0_2
 clear hr0_2 hc0_2
 have HR0_3 := Aside0.mk hr0_3
 have HC0_3 := Aside0.mk hc0_3
 clear hr0_3 hc0_3
 have HR0_4 := Aside0.mk hr0_4
 have HC0_4 := Aside0.mk hc0_4
 clear hr0_4 hc0_4
 have HR0_5 := Aside0.mk hr0_5
 have HC0_5 := Aside0.mk hc0_5
 clear hr0_5 hc0_5
 have HR0_7 := Aside0.mk hr0_7
 have HC0_7 := Aside0.mk hc0_7
 clear hr0_7 hc0_7
 have HR0_8 := Aside0.mk hr0_8
 have HC0_8 := Aside0.mk hc0_8
 clear hr0_8 hc0_8
 have HR0_10 := Aside0.mk hr0_10
 have HC0_10 := Aside0.mk hc0_10
 clear hr0_10 hc0_10
 have HR0_11 := Aside0.mk hr0_11
 have HC0_11 := Aside0.mk hc0_11
 clear hr0_11 hc0_11
 have HT := Aside0.mk hT
 clear hT
 have HB := Aside0.mk (Below.refl w.heap.size w)
 have H := h
 unfold impl_ShowWorld.f at H
 clear h
 have H' := Aside0.mk H
 clear H
 go_enter Tryz.func7, Tryz.ntmps7
 go_wp2_with (first | ((with_reducible refine gate_dst (N := 1) rfl ?_); refine bx_ 1 46 #[.slice A0_0 l0_0.length c0_0, .slice A0_1 l0_1.length c0_1, .slice A0_2 l0_2.length c0_2, .slice A0_3 l0_3.length c0_3, .slice A0_4 l0_4.length c0_4, .slice A0_5 l0_5.length c0_5, .int .i64 a0_6, .slice A0_7 l0_7.length c0_7, .slice A0_8 l0_8.length c0_8, .int .i64 a0_9, .slice A0_10 l0_10.length c0_10, .slice A0_11 l0_11.length c0_11] ?_; intro gb481 hg w2 hbox hb; have BK481 := Aside0.mk (hbox); have GW481 := Aside0.mk ((hz_ : w.heap.size ≤ gb481)); have GE481 := Aside0.mk ((hz_ : w.heap.size ≤ gb481)); replace HB := Aside0.mk (below_step bl_ hb); clear hb hbox hg; have hcz3_0 : w2.cell? ⟨gb481, 0, none⟩ = some (.slice A0_0 l0_0.length c0_0) := (blk_cell BK481.out 0).trans rfl; have hcz3_1 : w2.cell? ⟨gb481, 1, none⟩ = some (.slice A0_1 l0_1.length c0_1) := (blk_cell BK481.out 1).trans rfl; have hcz3_2 : w2.cell? ⟨gb481, 2, none⟩ = some (.slice A0_2 l0_2.length c0_2) := (blk_cell BK481.out 2).trans rfl; have hcz3_3 : w2.cell? ⟨gb481, 3, none⟩ = some (.slice A0_3 l0_3.length c0_3) := (blk_cell BK481.out 3).trans rfl; have hcz3_4 : w2.cell? ⟨gb481, 4, none⟩ = some (.slice A0_4 l0_4.length c0_4) := (blk_cell BK481.out 4).trans rfl; have hcz3_5 : w2.cell? ⟨gb481, 5, none⟩ = some (.slice A0_5 l0_5.length c0_5) := (blk_cell BK481.out 5).trans rfl; have hcz3_6 : w2.cell? ⟨gb481, 6, none⟩ = some (.int .i64 a0_6) := (blk_cell BK481.out 6).trans rfl; have hcz3_7 : w2.cell? ⟨gb481, 7, none⟩ = some (.slice A0_7 l0_7.length c0_7) := (blk_cell BK481.out 7).trans rfl; have hcz3_8 : w2.cell? ⟨gb481, 8, none⟩ = some (.slice A0_8 l0_8.length c0_8) := (blk_cell BK481.out 8).trans rfl; have hcz3_9 : w2.cell? ⟨gb481, 9, none⟩ = some (.int .i64 a0_9) := (blk_cell BK481.out 9).trans rfl; have hcz3_10 : w2.cell? ⟨gb481, 10, none⟩ = some (.slice A0_10 l0_10.length c0_10) := (blk_cell BK481.out 10).trans rfl; have hcz3_11 : w2.cell? ⟨gb481, 11, none⟩ = some (.slice A0_11 l0_11.length c0_11) := (blk_cell BK481.out 11).trans rfl; have hfz3_0 := blk_frozen BK481.out 0; have hfz3_1 := blk_frozen BK481.out 1; have hfz3_2 := blk_frozen BK481.out 2; have hfz3_3 := blk_frozen BK481.out 3; have hfz3_4 := blk_frozen BK481.out 4; have hfz3_5 := blk_frozen BK481.out 5; have hfz3_6 := blk_frozen BK481.out 6; have hfz3_7 := blk_frozen BK481.out 7; have hfz3_8 := blk_frozen BK481.out 8; have hfz3_9 := blk_frozen BK481.out 9; have hfz3_10 := blk_frozen BK481.out 10; have hfz3_11 := blk_frozen BK481.out 11))
 go_loopg [3, 12] k (fun kq v3 v12 w' => ∃ (x3_1 : ByteArray) (x12_1 : Int), v3 = .string x3_1 ∧ v12 = .int .i64 x12_1 ∧ Aside0 (impl_ShowWorld.l0 kq x3_1 l0_3 (l0_3.length : Int) x12_1 l0_0 l0_1 l0_2 l0_3 l0_4 l0_5 a0_6 l0_7 l0_8 a0_9 l0_10 l0_11 = some r) ∧ Aside0 (kq ≤ k) ∧ Aside0 (w'.heap[gb481]? = some (.cells #[(.slice A0_0 l0_0.length c0_0), (.slice A0_1 l0_1.length c0_1), (.slice A0_2 l0_2.length c0_2), (.slice A0_3 l0_3.length c0_3), (.slice A0_4 l0_4.length c0_4), (.slice A0_5 l0_5.length c0_5), .int .i64 a0_6, (.slice A0_7 l0_7.length c0_7), (.slice A0_8 l0_8.length c0_8), .int .i64 a0_9, (.slice A0_10 l0_10.length c0_10), (.slice A0_11 l0_11.length c0_11)] 46 (0, 0))) ∧ Aside0 (Below w.heap.size w w'))
 case atStart => exact ⟨((⟨#[]⟩ : ByteArray)), (0), (sr_), (sr_), H', ⟨Nat.le_refl _⟩, ⟨bk_ BK481.out⟩, ⟨bl_⟩⟩
 clear H'
 try clear hcz3_0
 try clear hcz3_1
 try clear hcz3_10
 try clear hcz3_11
 try clear hcz3_2
 try clear hcz3_3
 try clear hcz3_4
 try clear hcz3_5
 try clear hcz3_6
 try clear hcz3_7
 try clear hcz3_8
 try clear hcz3_9
 try clear hfz3_0
 try clear hfz3_1
 try clear hfz3_10
 try clear hfz3_11
 try clear hfz3_2
 try clear hfz3_3
 try clear hfz3_4
 try clear hfz3_5
 try clear hfz3_6
 try clear hfz3_7
 try clear hfz3_8
 try clear hfz3_9
 obtain ⟨x3_1, x12_1, rfl, rfl, HA, HK1, BK481, HB⟩ := hrel
 cases gk with
 | zero => exact absurd HA.out (by simp [impl_ShowWorld.l0])
 | succ k1 => ?_
 have H := HA.out
 clear HA
 simp only [impl_ShowWorld.l0] at H
 by_cases c4 : x12_1 < (l0_3.length : Int)
 ·rw [if_pos c4] at H
  have c4b0 := decide_eq_true c4
  clear c4
  by_cases c5 : 0 ≤ x12_1
  rotate_left
  ·exact nn_ c5 H
  rw [if_pos c5] at H
  have c5b0 := decide_eq_true c5
  clear c5
  by_cases c6 : x12_1 < (l0_3.length : Int)
  rotate_left
  ·exact nn_ c6 H
  rw [if_pos c6] at H
  have c6b0 := decide_eq_true c6
  clear c6
  replace H := bs_ H
  obtain ⟨t484, A7, H⟩ := H
  try dsimp only at H
  by_cases c8 : x3_1.size + t484.size ≤ 9223372036854775807
  rotate_left
  ·exact nn_ c8 H
  rw [if_pos c8] at H
  have c8b0 := eq_true c8
  have c8b1 : decide (x3_1.size + t484.size ≤ 9223372036854775807) = true := decide_eq_true c8
  try have c8b2 : (9223372036854775807 < x3_1.size + t484.size) = False := eq_false (Nat.not_lt.2 c8)
  have H' := Aside0.mk H
  clear H
  have p482 : 0 ≤ (x12_1 : Int) := of_decide_eq_true as_
  have q482 : x12_1 < (l0_3.length : Int) := of_decide_eq_true as_
  obtain ⟨ad482, e482, hx482_0, hx482_1, hx482_2, hx482_3, hx482_4, hx482_5⟩ := at_T61 HR0_3.out x12_1 p482 q482
  cases e482
  replace hx482_0 := (HB.out.cell (World.block_lt_of_cell? w _ hx482_0)).trans hx482_0
  replace hx482_1 := (HB.out.cell (World.block_lt_of_cell? w _ hx482_1)).trans hx482_1
  replace hx482_2 := (HB.out.cell (World.block_lt_of_cell? w _ hx482_2)).trans hx482_2
  replace hx482_3 := (HB.out.cell (World.block_lt_of_cell? w _ hx482_3)).trans hx482_3
  replace hx482_4 := (HB.out.cell (World.block_lt_of_cell? w _ hx482_4)).trans hx482_4
  replace hx482_5 := (HB.out.cell (World.block_lt_of_cell? w _ hx482_5)).trans hx482_5
  replace p482 := eq_true p482
  replace q482 := eq_true q482
  go_wp2_with (first | ((with_reducible refine gate_dst (N := 5) rfl ?_); refine bx_ 5 61 #[.int .i64 0, .int .i64 0, .int .i64 0, .int .i64 0, .int .i64 0, .int .i64 0] ?_; intro gb483 hg w9 hbox hb; have BK483 := Aside0.mk (hbox); have GW483 := Aside0.mk ((hz_ : w.heap.size ≤ gb483)); have GE483 := Aside0.mk ((hz_ : w.heap.size ≤ gb483)); replace HB := Aside0.mk (below_step bl_ hb); have NB481_483 := Aside0.mk ((by rw [hg]; exact Nat.ne_of_lt (blk_lt (g := gb481) (o := .cells #[.slice A0_0 l0_0.length c0_0, .slice A0_1 l0_1.length c0_1, .slice A0_2 l0_2.length c0_2, .slice (some ad482) l0_3.length c0_3, .slice A0_4 l0_4.length c0_4, .slice A0_5 l0_5.length c0_5, .int .i64 a0_6, .slice A0_7 l0_7.length c0_7, .slice A0_8 l0_8.length c0_8, .int .i64 a0_9, .slice A0_10 l0_10.length c0_10, .slice A0_11 l0_11.length c0_11] 46 (0, 0)) (bk_ BK481.out)) : gb481 ≠ gb483)); have NB483_481 := Aside0.mk ((by rw [hg]; exact Nat.ne_of_gt (blk_lt (g := gb481) (o := .cells #[.slice A0_0 l0_0.length c0_0, .slice A0_1 l0_1.length c0_1, .slice A0_2 l0_2.length c0_2, .slice (some ad482) l0_3.length c0_3, .slice A0_4 l0_4.length c0_4, .slice A0_5 l0_5.length c0_5, .int .i64 a0_6, .slice A0_7 l0_7.length c0_7, .slice A0_8 l0_8.length c0_8, .int .i64 a0_9, .slice A0_10 l0_10.length c0_10, .slice A0_11 l0_11.length c0_11] 46 (0, 0)) (bk_ BK481.out)) : gb483 ≠ gb481)); replace BK481 := Aside0.mk (blk_below (bn0_ BK481.out) hb); clear hb hbox hg; have hnb10 := NB483_481.out; have hnc10 := NB481_483.out; obtain ⟨hcz11_0, hcz11_1, hcz11_2, hcz11_3, hcz11_4, hcz11_5, hfz11_0, hfz11_1, hfz11_2, hfz11_3, hfz11_4, hfz11_5⟩ := cf6_ BK483.out) | ((with_reducible refine gate_callee (f := 27) rfl ?_); refine gs_ (some 18) Tryz.func27 #[.agg #[.int .i64 ((rd_T61 l0_3 x12_1).f0), .int .i64 ((rd_T61 l0_3 x12_1).f1), .int .i64 ((rd_T61 l0_3 x12_1).f2.f0), .int .i64 ((rd_T61 l0_3 x12_1).f2.f1), .int .i64 ((rd_T61 l0_3 x12_1).f2.f2), .int .i64 ((rd_T61 l0_3 x12_1).f2.f3)]] ?_; (with_reducible refine (impl_ShowEntry.calls k1 ((rd_T61 l0_3 x12_1).f0) ((rd_T61 l0_3 x12_1).f1) ((rd_T61 l0_3 x12_1).f2.f0) ((rd_T61 l0_3 x12_1).f2.f1) ((rd_T61 l0_3 x12_1).f2.f2) ((rd_T61 l0_3 x12_1).f2.f3) t484 _ A7.out).mono ?_); rintro e w12 ⟨rfl, hb⟩; refine ⟨_, rfl, ?_⟩; replace BK481 := Aside0.mk (blk_below (bn1_ BK481.out NB481_483.out) hb); replace BK483 := Aside0.mk (blk_below (g := gb483) (o := .cells #[.int .i64 ((rd_T61 l0_3 x12_1).f0), .int .i64 ((rd_T61 l0_3 x12_1).f1), .int .i64 ((rd_T61 l0_3 x12_1).f2.f0), .int .i64 ((rd_T61 l0_3 x12_1).f2.f1), .int .i64 ((rd_T61 l0_3 x12_1).f2.f2), .int .i64 ((rd_T61 l0_3 x12_1).f2.f3)] 61 (0, 0)) (bp0_ BK483.out) hb); replace HB := Aside0.mk (below_step bl_ hb); (try clear hb)))
  go_roundg k1
  case measure => have := HK1.out; omega
  case rel => exact ⟨(x3_1 ++ t484), (wrap64 (x12_1 + 1)), (sr_), (sr_), H', ⟨by have := HK1.out; omega⟩, ⟨bk_ BK481.out⟩, ⟨bl_⟩⟩
 rw [if_neg c4] at H
 have c4b0 := decide_eq_false c4
 clear c4
 replace H := bs_ H
 obtain ⟨t485, A13, H⟩ := H
 try dsimp only at H
 replace H := bs_ H
 obtain ⟨⟨t486, t487⟩, A14, H⟩ := H
 try dsimp only at H
 by_cases c15 : x3_1.size + 5 ≤ 9223372036854775807
 rotate_left
 ·exact nn_ c15 H
 rw [if_pos c15] at H
 have c15b0 := eq_true c15
 have c15b1 : decide (x3_1.size + 5 ≤ 9223372036854775807) = true := decide_eq_true c15
 try have c15b2 : (9223372036854775807 < x3_1.size + 5) = False := eq_false (Nat.not_lt.2 c15)
 by_cases c16 : 0 ≤ 8
 rotate_left
 ·exact nn_ c16 H
 rw [if_pos c16] at H
 have c16b0 := eq_true c16
 have c16b1 : decide (0 ≤ 8) = true := decide_eq_true c16
 clear c16
 by_cases c17 : 8 ≤ (t486.size : Int)
 rotate_left
 ·exact nn_ c17 H
 rw [if_pos c17] at H
 have c17b0 := eq_true c17
 have c17b1 : decide (8 ≤ (t486.size : Int)) = true := decide_eq_true c17
 clear c17
 by_cases c18 : (x3_1 ++ (⟨#[104, 101, 97, 100, 32]⟩ : ByteArray)).size + (t486.extract 0 8).size ≤ 9223372036854775807
 rotate_left
 ·exact nn_ c18 H
 rw [if_pos c18] at H
 have c18b0 := eq_true c18
 have c18b1 : decide ((x3_1 ++ (⟨#[104, 101, 97, 100, 32]⟩ : ByteArray)).size + (t486.extract 0 8).size ≤ 9223372036854775807) = true := decide_eq_true c18
 try have c18b2 : (9223372036854775807 < (x3_1 ++ (⟨#[104, 101, 97, 100, 32]⟩ : ByteArray)).size + (t486.extract 0 8).size) = False := eq_false (Nat.not_lt.2 c18)
 try have c18b3 : (9223372036854775807 < x3_1.size + 5 + (t486.extract 0 8).size) = False := eq_false (by have h_ := c18; (repeat rw [ByteArray.size_append] at h_); exact Nat.not_lt.2 h_)
 try have c18b4 : (9223372036854775807 < x3_1.size + 5 + min 8 t486.size) = False := eq_false (by have h_ := c18; simp only [ByteArray.size_append, ByteArray.size_extract] at h_; (first | omega | exact Nat.not_lt.2 h_))
 by_cases c19 : ((x3_1 ++ (⟨#[104, 101, 97, 100, 32]⟩ : ByteArray)) ++ (t486.extract 0 8)).size + 7 ≤ 9223372036854775807
 rotate_left
 ·exact nn_ c19 H
 rw [if_pos c19] at H
 have c19b0 := eq_true c19
 have c19b1 : decide (((x3_1 ++ (⟨#[104, 101, 97, 100, 32]⟩ : ByteArray)) ++ (t486.extract 0 8)).size + 7 ≤ 9223372036854775807) = true := decide_eq_true c19
 try have c19b2 : (9223372036854775807 < ((x3_1 ++ (⟨#[104, 101, 97, 100, 32]⟩ : ByteArray)) ++ (t486.extract 0 8)).size + 7) = False := eq_false (Nat.not_lt.2 c19)
 try have c19b3 : (9223372036854775807 < x3_1.size + 5 + (t486.extract 0 8).size + 7) = False := eq_false (by have h_ := c19; (repeat rw [ByteArray.size_append] at h_); exact Nat.not_lt.2 h_)
 try have c19b4 : (9223372036854775807 < x3_1.size + 5 + min 8 t486.size + 7) = False := eq_false (by have h_ := c19; simp only [ByteArray.size_append, ByteArray.size_extract] at h_; (first | omega | exact Nat.not_lt.2 h_))
 replace H := bs_ H
 obtain ⟨t488, A20, H⟩ := H
 try dsimp only at H
 by_cases c21 : (((x3_1 ++ (⟨#[104, 101, 97, 100, 32]⟩ : ByteArray)) ++ (t486.extract 0 8)) ++ (⟨#[32, 115, 97, 118, 101, 100, 32]⟩ : ByteArray)).size + t488.size ≤ 9223372036854775807
 rotate_left
 ·exact nn_ c21 H
 rw [if_pos c21] at H
 have c21b0 := eq_true c21
 have c21b1 : decide ((((x3_1 ++ (⟨#[104, 101, 97, 100, 32]⟩ : ByteArray)) ++ (t486.extract 0 8)) ++ (⟨#[32, 115, 97, 118, 101, 100, 32]⟩ : ByteArray)).size + t488.size ≤ 9223372036854775807) = true := decide_eq_true c21
 try have c21b2 : (9223372036854775807 < (((x3_1 ++ (⟨#[104, 101, 97, 100, 32]⟩ : ByteArray)) ++ (t486.extract 0 8)) ++ (⟨#[32, 115, 97, 118, 101, 100, 32]⟩ : ByteArray)).size + t488.size) = False := eq_false (Nat.not_lt.2 c21)
 try have c21b3 : (9223372036854775807 < x3_1.size + 5 + (t486.extract 0 8).size + 7 + t488.size) = False := eq_false (by have h_ := c21; (repeat rw [ByteArray.size_append] at h_); exact Nat.not_lt.2 h_)
 try have c21b4 : (9223372036854775807 < x3_1.size + 5 + min 8 t486.size + 7 + t488.size) = False := eq_false (by have h_ := c21; simp only [ByteArray.size_append, ByteArray.size_extract] at h_; (first | omega | exact Nat.not_lt.2 h_))
 by_cases c22 : ((((x3_1 ++ (⟨#[104, 101, 97, 100, 32]⟩ : ByteArray)) ++ (t486.extract 0 8)) ++ (⟨#[32, 115, 97, 118, 101, 100, 32]⟩ : ByteArray)) ++ t488).size + 1 ≤ 9223372036854775807
 rotate_left
 ·exact nn_ c22 H
 rw [if_pos c22] at H
 have c22b0 := eq_true c22
 have c22b1 : decide (((((x3_1 ++ (⟨#[104, 101, 97, 100, 32]⟩ : ByteArray)) ++ (t486.extract 0 8)) ++ (⟨#[32, 115, 97, 118, 101, 100, 32]⟩ : ByteArray)) ++ t488).size + 1 ≤ 9223372036854775807) = true := decide_eq_true c22
 try have c22b2 : (9223372036854775807 < ((((x3_1 ++ (⟨#[104, 101, 97, 100, 32]⟩ : ByteArray)) ++ (t486.extract 0 8)) ++ (⟨#[32, 115, 97, 118, 101, 100, 32]⟩ : ByteArray)) ++ t488).size + 1) = False := eq_false (Nat.not_lt.2 c22)
 try have c22b3 : (9223372036854775807 < x3_1.size + 5 + (t486.extract 0 8).size + 7 + t488.size + 1) = False := eq_false (by have h_ := c22; (repeat rw [ByteArray.size_append] at h_); exact Nat.not_lt.2 h_)
 try have c22b4 : (9223372036854775807 < x3_1.size + 5 + min 8 t486.size + 7 + t488.size + 1) = False := eq_false (by have h_ := c22; simp only [ByteArray.size_append, ByteArray.size_extract] at h_; (first | omega | exact Nat.not_lt.2 h_))
 obtain rfl := Option.some.inj H
 have hcz23_0 : wr.cell? ⟨gb481, 0, none⟩ = some (.slice A0_0 l0_0.length c0_0) := (blk_cell BK481.out 0).trans rfl
 have hcz23_1 : wr.cell? ⟨gb481, 1, none⟩ = some (.slice A0_1 l0_1.length c0_1) := (blk_cell BK481.out 1).trans rfl
 have hcz23_2 : wr.cell? ⟨gb481, 2, none⟩ = some (.slice A0_2 l0_2.length c0_2) := (blk_cell BK481.out 2).trans rfl
 have hcz23_3 : wr.cell? ⟨gb481, 3, none⟩ = some (.slice A0_3 l0_3.length c0_3) := (blk_cell BK481.out 3).trans rfl
 have hcz23_4 : wr.cell? ⟨gb481, 4, none⟩ = some (.slice A0_4 l0_4.length c0_4) := (blk_cell BK481.out 4).trans rfl
 have hcz23_5 : wr.cell? ⟨gb481, 5, none⟩ = some (.slice A0_5 l0_5.length c0_5) := (blk_cell BK481.out 5).trans rfl
 have hcz23_6 : wr.cell? ⟨gb481, 6, none⟩ = some (.int .i64 a0_6) := (blk_cell BK481.out 6).trans rfl
 have hcz23_7 : wr.cell? ⟨gb481, 7, none⟩ = some (.slice A0_7 l0_7.length c0_7) := (blk_cell BK481.out 7).trans rfl
 have hcz23_8 : wr.cell? ⟨gb481, 8, none⟩ = some (.slice A0_8 l0_8.length c0_8) := (blk_cell BK481.out 8).trans rfl
 have hcz23_9 : wr.cell? ⟨gb481, 9, none⟩ = some (.int .i64 a0_9) := (blk_cell BK481.out 9).trans rfl
 have hcz23_10 : wr.cell? ⟨gb481, 10, none⟩ = some (.slice A0_10 l0_10.length c0_10) := (blk_cell BK481.out 10).trans rfl
 have hcz23_11 : wr.cell? ⟨gb481, 11, none⟩ = some (.slice A0_11 l0_11.length c0_11) := (blk_cell BK481.out 11).trans rfl
 have hfz23_0 := blk_frozen BK481.out 0
 have hfz23_1 := blk_frozen BK481.out 1
 have hfz23_2 := blk_frozen BK481.out 2
 have hfz23_3 := blk_frozen BK481.out 3
 have hfz23_4 := blk_frozen BK481.out 4
 have hfz23_5 := blk_frozen BK481.out 5
 have hfz23_6 := blk_frozen BK481.out 6
 have hfz23_7 := blk_frozen BK481.out 7
 have hfz23_8 := blk_frozen BK481.out 8
 have hfz23_9 := blk_frozen BK481.out 9
 have hfz23_10 := blk_frozen BK481.out 10
 have hfz23_11 := blk_frozen BK481.out 11
 try go_wp2_with (first | ((with_reducible refine gate_callee (f := 29) rfl ?_); refine gs_ (some 25) Tryz.func29 #[.slice A0_3 l0_3.length c0_3] ?_; (with_reducible refine (impl_HeadOf.calls k1 _ _ l0_3 t485 _ ?side1 ?side2 ?side3 A13.out).mono ?_); (case side1 => exact cb_ HR0_3.out HB.out); (case side2 => exact HC0_3.out); (case side3 => exact tab_of HT.out bl_); rintro e w24 ⟨rfl, hb⟩; refine ⟨_, rfl, ?_⟩; replace BK481 := Aside0.mk (blk_below (bn0_ BK481.out) hb); replace HB := Aside0.mk (below_step bl_ hb); (try clear hb)) | ((with_reducible refine gate_callee (f := 28) rfl ?_); refine gs_ (some 26) Tryz.func28 #[.string t485] ?_; (with_reducible refine (impl_Hex.calls k1 t485 t486 t487 _ A14.out).mono ?_); rintro e w25 ⟨rfl, hb⟩; refine ⟨_, rfl, ?_⟩; replace BK481 := Aside0.mk (blk_below (bn0_ BK481.out) hb); replace HB := Aside0.mk (below_step bl_ hb); (try clear hb)))
 have n0_ := Aside0.mk (blk_drew BK481.out)
 have n1_ := Aside0.mk (below_drew1 HB.out)
 clear BK481
 clear HB
 have BK481 := n0_
 have HB := n1_
 clear n0_ n1_
 refine start_ (n := 13) (S := fun w' => w'.cell? ⟨gb481, 0, none⟩ = some (.slice A0_0 l0_0.length c0_0) ∧ w'.cell? ⟨gb481, 1, none⟩ = some (.slice A0_1 l0_1.length c0_1) ∧ w'.cell? ⟨gb481, 2, none⟩ = some (.slice A0_2 l0_2.length c0_2) ∧ w'.cell? ⟨gb481, 3, none⟩ = some (.slice A0_3 l0_3.length c0_3) ∧ w'.cell? ⟨gb481, 4, none⟩ = some (.slice A0_4 l0_4.length c0_4) ∧ w'.cell? ⟨gb481, 5, none⟩ = some (.slice A0_5 l0_5.length c0_5) ∧ w'.cell? ⟨gb481, 6, none⟩ = some (.int .i64 a0_6) ∧ w'.cell? ⟨gb481, 7, none⟩ = some (.slice A0_7 l0_7.length c0_7) ∧ w'.cell? ⟨gb481, 8, none⟩ = some (.slice A0_8 l0_8.length c0_8) ∧ w'.cell? ⟨gb481, 9, none⟩ = some (.int .i64 a0_9) ∧ w'.cell? ⟨gb481, 10, none⟩ = some (.slice A0_10 l0_10.length c0_10) ∧ w'.cell? ⟨gb481, 11, none⟩ = some (.slice A0_11 l0_11.length c0_11)) (ds := []) #[false, false, false, false, false, false, false, false, false, false, false, false, false] (by kernel_rfl) rfl rfl ⟨(blk_cell BK481.out 0).trans rfl, (blk_cell BK481.out 1).trans rfl, (blk_cell BK481.out 2).trans rfl, (blk_cell BK481.out 3).trans rfl, (blk_cell BK481.out 4).trans rfl, (blk_cell BK481.out 5).trans rfl, (blk_cell BK481.out 6).trans rfl, (blk_cell BK481.out 7).trans rfl, (blk_cell BK481.out 8).trans rfl, (blk_cell BK481.out 9).trans rfl, (blk_cell BK481.out 10).trans rfl, (blk_cell BK481.out 11).trans rfl⟩ (fun hHeld => ?_); refine with_tabW impl_ShowWorld.tab8 impl_ShowWorld.bits8 (fun HT_ HW_ => ?_)
 generalize w25.drew = w26 at BK481 HB hHeld ⊢
 refine pu_ 0 29 HT_ ?_
 refine pu_ 1 30 HT_ ?_
 refine pu_ 2 31 HT_ ?_
 refine pu_ 3 32 HT_ ?_
 refine pu_ 4 33 HT_ ?_
 refine pu_ 5 34 HT_ ?_
 refine pu_ 6 35 HT_ ?_
 refine pu_ 7 36 HT_ ?_
 refine ta_ 8 37 HT_ HW_ hHeld ?_ (r := by rintro w' ⟨s0, s1, s2, s3, s4, s5, s6, s7, s8, s9, s10, s11⟩; go_simp; with_reducible rfl)
 refine on_ 9 38 HT_ (fun K hK => ?_)
 refine goes_ Tryz.func30 (by kernel_rfl) rfl #[.int .i64 a0_6] (by rfl) rfl rfl lm_ ?_
 with_reducible refine (impl_shown.calls k1 a0_6 t488 _ A20.out).mono ?_
 rintro e w27 ⟨rfl, hb⟩
 refine ⟨_, rfl, ?_⟩
 have n0_ := Aside0.mk (blk_below (bn0_ BK481.out) hb)
 have n1_ := Aside0.mk (below_step bl_ hb)
 clear BK481
 clear HB
 have BK481 := n0_
 have HB := n1_
 clear n0_ n1_
 (try clear hb)
 (try clear hb2)
 (try clear hk)
 (try clear hi)
 refine hK.out _ _ ⟨(blk_cell BK481.out 0).trans rfl, (blk_cell BK481.out 1).trans rfl, (blk_cell BK481.out 2).trans rfl, (blk_cell BK481.out 3).trans rfl, (blk_cell BK481.out 4).trans rfl, (blk_cell BK481.out 5).trans rfl, (blk_cell BK481.out 6).trans rfl, (blk_cell BK481.out 7).trans rfl, (blk_cell BK481.out 8).trans rfl, (blk_cell BK481.out 9).trans rfl, (blk_cell BK481.out 10).trans rfl, (blk_cell BK481.out 11).trans rfl⟩ (fun hHeld => ?_)
 clear hK K
 refine norm_ (a' := ?_) ?_ ?_
 rotate_left
 ·show Act.put _ (some 38) _ = _
  simp only [Act.put, List.setIfInBounds_toArray, List.set_cons_zero, List.set_cons_succ, i64_w, i32_w]
  rfl
 refine pu_ 10 39 HT_ ?_
 refine pu_ 11 40 HT_ ?_
 refine pu_ 12 2 HT_ ?_
 refine done_ (done_of HT_.out (by kernel_rfl)) ?_
 try go_wp2
 go_ret
 exact ⟨er_, bl_⟩


def laws_eqIns.f (a0_0 : Int) (a0_1 : Int) (a0_2 : Int) (a0_3 : Int) (a1_0 : Int) (a1_1 : Int) (a1_2 : Int) (a1_3 : Int) : Option (Bool) := if a0_0 = a1_0 then (if a0_1 = a1_1 then (if a0_2 = a1_2 then (if a0_3 = a1_3 then (some true) else (some false)) else (some false)) else (some false)) else (some false)
theorem laws_eqIns.calls (a0_0 : Int) (a0_1 : Int) (a0_2 : Int) (a0_3 : Int) (a1_0 : Int) (a1_1 : Int) (a1_2 : Int) (a1_3 : Int) (r : Bool) (w : World) (hrt : r = true) (h : laws_eqIns.f a0_0 a0_1 a0_2 a0_3 a1_0 a1_1 a1_2 a1_3 = some r) :
 Calls Tryz.prog 96 #[.agg #[.int .i64 a0_0, .int .i64 a0_1, .int .i64 a0_2, .int .i64 a0_3], .agg #[.int .i64 a1_0, .int .i64 a1_1, .int .i64 a1_2, .int .i64 a1_3]] w fun e w' => e = .returned (.bool r) ∧ Below w.heap.size w w' := by
 have hu154 := Tryz.underlying154
 have HRt := Aside0.mk hrt
 clear hrt
 have HB := Aside0.mk (Below.refl w.heap.size w)
 have H := h
 unfold laws_eqIns.f at H
 clear h
 by_cases c3 : a0_0 = a1_0
 rotate_left
 ·rw [if_neg c3] at H
  have c3b0 : (a0_0 == a1_0) = false := beq_eq_false_iff_ne.mpr c3
  have c3b1 : (a0_0 != a1_0) = true := bne_iff_ne.mpr c3
  exact absurd ((Option.some.inj H).trans HRt.out) (by decide)
 rw [if_pos c3] at H
 have c3b0 : (a0_0 == a1_0) = true := beq_iff_eq.mpr c3
 have c3b1 : (a0_0 != a1_0) = false := bne_eq_false_iff_eq.mpr c3
 clear c3
 by_cases c4 : a0_1 = a1_1
 rotate_left
 ·rw [if_neg c4] at H
  have c4b0 : (a0_1 == a1_1) = false := beq_eq_false_iff_ne.mpr c4
  have c4b1 : (a0_1 != a1_1) = true := bne_iff_ne.mpr c4
  exact absurd ((Option.some.inj H).trans HRt.out) (by decide)
 rw [if_pos c4] at H
 have c4b0 : (a0_1 == a1_1) = true := beq_iff_eq.mpr c4
 have c4b1 : (a0_1 != a1_1) = false := bne_eq_false_iff_eq.mpr c4
 clear c4
 by_cases c5 : a0_2 = a1_2
 rotate_left
 ·rw [if_neg c5] at H
  have c5b0 : (a0_2 == a1_2) = false := beq_eq_false_iff_ne.mpr c5
  have c5b1 : (a0_2 != a1_2) = true := bne_iff_ne.mpr c5
  exact absurd ((Option.some.inj H).trans HRt.out) (by decide)
 rw [if_pos c5] at H
 have c5b0 : (a0_2 == a1_2) = true := beq_iff_eq.mpr c5
 have c5b1 : (a0_2 != a1_2) = false := bne_eq_false_iff_eq.mpr c5
 clear c5
 by_cases c6 : a0_3 = a1_3
 rotate_left
 ·rw [if_neg c6] at H
  have c6b0 : (a0_3 == a1_3) = false := beq_eq_false_iff_ne.mpr c6
  have c6b1 : (a0_3 != a1_3) = true := bne_iff_ne.mpr c6
  exact absurd ((Option.some.inj H).trans HRt.out) (by decide)
 rw [if_pos c6] at H
 have c6b0 : (a0_3 == a1_3) = true := beq_iff_eq.mpr c6
 have c6b1 : (a0_3 != a1_3) = false := bne_eq_false_iff_eq.mpr c6
 clear c6
 obtain rfl := Option.some.inj H
 go_enter Tryz.func96, Tryz.ntmps96
 go_wp2_with (first | ((with_reducible refine gate_dst (N := 2) rfl ?_); refine bx_ 2 154 #[.int .i64 a0_0, .int .i64 a0_1, .int .i64 a0_2, .int .i64 a0_3] ?_; intro gb489 hg w7 hbox hb; have BK489 := Aside0.mk (hbox); have GW489 := Aside0.mk ((hz_ : w.heap.size ≤ gb489)); have GE489 := Aside0.mk ((hz_ : w.heap.size ≤ gb489)); replace HB := Aside0.mk (below_step bl_ hb); clear hb hbox hg) | ((with_reducible refine gate_dst (N := 3) rfl ?_); refine bx_ 3 154 #[.int .i64 a1_0, .int .i64 a1_1, .int .i64 a1_2, .int .i64 a1_3] ?_; intro gb490 hg w8 hbox hb; have BK490 := Aside0.mk (hbox); have GW490 := Aside0.mk ((hz_ : w.heap.size ≤ gb490)); have GE490 := Aside0.mk ((hz_ : w.heap.size ≤ gb490)); replace HB := Aside0.mk (below_step bl_ hb); have NB489_490 := Aside0.mk ((by rw [hg]; exact Nat.ne_of_lt (blk_lt (g := gb489) (o := .cells #[.int .i64 a0_0, .int .i64 a0_1, .int .i64 a0_2, .int .i64 a0_3] 154 (0, 0)) (bk_ BK489.out)) : gb489 ≠ gb490)); have NB490_489 := Aside0.mk ((by rw [hg]; exact Nat.ne_of_gt (blk_lt (g := gb489) (o := .cells #[.int .i64 a0_0, .int .i64 a0_1, .int .i64 a0_2, .int .i64 a0_3] 154 (0, 0)) (bk_ BK489.out)) : gb490 ≠ gb489)); replace BK489 := Aside0.mk (blk_below (bn0_ BK489.out) hb); clear hb hbox hg; have hnb9 := NB489_490.out; have hnc9 := NB490_489.out; obtain ⟨hcz10_0, hcz10_1, hcz10_2, hcz10_3, hfz10_0, hfz10_1, hfz10_2, hfz10_3⟩ := cf4_ BK489.out; obtain ⟨hcz11_0, hcz11_1, hcz11_2, hcz11_3, hfz11_0, hfz11_1, hfz11_2, hfz11_3⟩ := cf4_ BK490.out))
 go_ret
 exact ⟨er_, bl_⟩


def laws_eqInsS.l0 : Nat → List (S154) → List (S154) → Int → Option (Bool)
 | 0, _, _, _ => none
 | k + 1, x0, x1, x5 => if x5 < (x0.length : Int) then (if 0 ≤ x5 then (if x5 < (x1.length : Int) then ((laws_eqIns.f ((rd_T154 x0 x5).f0) ((rd_T154 x0 x5).f1) ((rd_T154 x0 x5).f2) ((rd_T154 x0 x5).f3) ((rd_T154 x1 x5).f0) ((rd_T154 x1 x5).f1) ((rd_T154 x1 x5).f2) ((rd_T154 x1 x5).f3)).bind fun t493 => (if t493 = true then (laws_eqInsS.l0 k x0 x1 (wrap64 (x5 + 1))) else (some false))) else (none)) else (none)) else (some true)
def laws_eqInsS.f (k : Nat) (l0 : List (S154)) (l1 : List (S154)) : Option (Bool) := if (l0.length : Int) = (l1.length : Int) then (laws_eqInsS.l0 k l0 l1 0) else (some false)
theorem laws_eqInsS.mono_l : ∀ k, (∀ y0 y1 y2, LeO (laws_eqInsS.l0 k y0 y1 y2) (laws_eqInsS.l0 (k + 1) y0 y1 y2))
 | 0 => fun _ _ _ r h => by simp [laws_eqInsS.l0] at h
 | k + 1 => by
  have ih0 := laws_eqInsS.mono_l k
  ·intro y0 y1 y2
   unfold laws_eqInsS.l0
   exact mo_
theorem laws_eqInsS.mono : ∀ a0 a1 k, LeO (laws_eqInsS.f k a0 a1) (laws_eqInsS.f (k + 1) a0 a1) := by
 intro a0 a1 k
 have ih0 := laws_eqInsS.mono_l k
 unfold laws_eqInsS.f
 exact mo_
def laws_eqInsS.T6 : Bool × List (List Nat × List Nat) := (true, [([], []), ([], []), ([0, 1], [0, 1]), ([2], [2]), ([], []), ([], []), ([4, 5], [4, 5]), ([6], [6]), ([3, 7], [3, 7]), ([8], [8])])
def laws_eqInsS.B6 : List Nat := [0, 0, 3, 7, 0, 0, 48, 112, 255, 511]
theorem laws_eqInsS.tab6 : rtab .any (opsOf Tryz.f81 6) = laws_eqInsS.T6 := by kernel_rfl
theorem laws_eqInsS.bits6 : waitsOk laws_eqInsS.T6.2 laws_eqInsS.B6 = true := by kernel_rfl
theorem laws_eqInsS.calls (k : Nat) (A0 : Option Addr) (c0 : Nat) (l0 : List (S154)) (A1 : Option Addr) (c1 : Nat) (l1 : List (S154)) (r : Bool) (w : World) (hr0 : Kd.C k154 w A0 l0.length l0) (hc0 : l0.length ≤ c0) (hr1 : Kd.C k154 w A1 l1.length l1) (hc1 : l1.length ≤ c1) (hrt : r = true) (h : laws_eqInsS.f k l0 l1 = some r) :
 Calls Tryz.prog 81 #[.slice A0 l0.length c0, .slice A1 l1.length c1] w fun e w' => e = .returned (.bool r) ∧ Below w.heap.size w w' := by
 have hu154 := Tryz.underlying154
 have HR0 := Aside0.mk hr0
 have HC0 := Aside0.mk hc0
 clear hr0 hc0
 have HR1 := Aside0.mk hr1
 have HC1 := Aside0.mk hc1
 clear hr1 hc1
 have HRt := Aside0.mk hrt
 clear hrt
 have HB := Aside0.mk (Below.refl w.heap.size w)
 have H := h
 unfold laws_eqInsS.f at H
 clear h
 by_cases c3 : (l0.length : Int) = (l1.length : Int)
 rotate_left
 ·rw [if_neg c3] at H
  have c3b0 : ((l0.length : Int) == (l1.length : Int)) = false := beq_eq_false_iff_ne.mpr c3
  have c3b1 : ((l0.length : Int) != (l1.length : Int)) = true := bne_iff_ne.mpr c3
  have c3b2 : (l0.length == l1.length) = false := by first | simpa using c3 | (simp at c3 ⊢; omega)
  exact absurd ((Option.some.inj H).trans HRt.out) (by decide)
 rw [if_pos c3] at H
 have c3b0 : ((l0.length : Int) == (l1.length : Int)) = true := beq_iff_eq.mpr c3
 have c3b1 : ((l0.length : Int) != (l1.length : Int)) = false := bne_eq_false_iff_eq.mpr c3
 have c3b2 : (l0.length == l1.length) = true := by first | simpa using c3 | (simp at c3 ⊢; omega)
 clear c3
 have H' := Aside0.mk H
 clear H
 go_enter Tryz.func81, Tryz.ntmps81
 go_wp2
 go_loopg [5] k (fun kq v5 w' => ∃ (x5_1 : Int), v5 = .int .i64 x5_1 ∧ Aside0 (laws_eqInsS.l0 kq l0 l1 x5_1 = some r) ∧ Aside0 (kq ≤ k) ∧ Aside0 (Below w.heap.size w w'))
 case atStart => exact ⟨(0), (sr_), H', ⟨Nat.le_refl _⟩, ⟨bl_⟩⟩
 clear H'
 try clear c1
 try clear c3
 try clear c3b0
 try clear c3b1
 try clear c3b2
 obtain ⟨x5_1, rfl, HA, HK1, HB⟩ := hrel
 cases gk with
 | zero => exact absurd HA.out (by simp [laws_eqInsS.l0])
 | succ k1 => ?_
 have H := HA.out
 clear HA
 simp only [laws_eqInsS.l0] at H
 by_cases c4 : x5_1 < (l0.length : Int)
 rotate_left
 ·rw [if_neg c4] at H
  have c4b0 := decide_eq_false c4
  clear c4
  obtain rfl := Option.some.inj H
  go_wp2
  go_ret
  exact ⟨er_, bl_⟩
 rw [if_pos c4] at H
 have c4b0 := decide_eq_true c4
 clear c4
 by_cases c5 : 0 ≤ x5_1
 rotate_left
 ·exact nn_ c5 H
 rw [if_pos c5] at H
 have c5b0 := decide_eq_true c5
 clear c5
 by_cases c6 : x5_1 < (l1.length : Int)
 rotate_left
 ·exact nn_ c6 H
 rw [if_pos c6] at H
 have c6b0 := decide_eq_true c6
 clear c6
 replace H := bs_ H
 obtain ⟨t493, A7, H⟩ := H
 try dsimp only at H
 by_cases c8 : t493 = true
 rotate_left
 ·replace c8 := Bool.eq_false_iff.mpr c8
  subst c8
  rw [nf_] at H
  exact absurd ((Option.some.inj H).trans HRt.out) (by decide)
 subst c8
 rw [if_pos rfl] at H
 have H' := Aside0.mk H
 clear H
 try go_wp2
 have n0_ := Aside0.mk (below_drew1 HB.out)
 clear HB
 have HB := n0_
 clear n0_
 have p491 : 0 ≤ (x5_1 : Int) := of_decide_eq_true as_
 have q491 : x5_1 < (l0.length : Int) := of_decide_eq_true as_
 obtain ⟨ad491, e491, hx491_0, hx491_1, hx491_2, hx491_3⟩ := at_T154 HR0.out x5_1 p491 q491
 have hw491_3 := hx491_3
 have hw491_2 := hx491_2
 have hw491_1 := hx491_1
 have hw491_0 := hx491_0
 cases e491
 replace hx491_0 := (HB.out.cell (World.block_lt_of_cell? w _ hx491_0)).trans hx491_0
 replace hx491_1 := (HB.out.cell (World.block_lt_of_cell? w _ hx491_1)).trans hx491_1
 replace hx491_2 := (HB.out.cell (World.block_lt_of_cell? w _ hx491_2)).trans hx491_2
 replace hx491_3 := (HB.out.cell (World.block_lt_of_cell? w _ hx491_3)).trans hx491_3
 replace p491 := eq_true p491
 replace q491 := eq_true q491
 have p492 : 0 ≤ (x5_1 : Int) := of_decide_eq_true as_
 have q492 : x5_1 < (l1.length : Int) := of_decide_eq_true as_
 obtain ⟨ad492, e492, hx492_0, hx492_1, hx492_2, hx492_3⟩ := at_T154 HR1.out x5_1 p492 q492
 have hw492_3 := hx492_3
 have hw492_2 := hx492_2
 have hw492_1 := hx492_1
 have hw492_0 := hx492_0
 cases e492
 replace hx492_0 := (HB.out.cell (World.block_lt_of_cell? w _ hx492_0)).trans hx492_0
 replace hx492_1 := (HB.out.cell (World.block_lt_of_cell? w _ hx492_1)).trans hx492_1
 replace hx492_2 := (HB.out.cell (World.block_lt_of_cell? w _ hx492_2)).trans hx492_2
 replace hx492_3 := (HB.out.cell (World.block_lt_of_cell? w _ hx492_3)).trans hx492_3
 replace p492 := eq_true p492
 replace q492 := eq_true q492
 refine start_ (n := 10) (S := fun w' => w'.cell? (ad491.add ((x5_1).toNat * 4)) = some (.int .i64 ((rd_T154 l0 x5_1).f0)) ∧ w'.cell? ⟨(ad491.add ((x5_1).toNat * 4)).block, (ad491.add ((x5_1).toNat * 4)).off + 1, none⟩ = some (.int .i64 ((rd_T154 l0 x5_1).f1)) ∧ w'.cell? ⟨(ad491.add ((x5_1).toNat * 4)).block, (ad491.add ((x5_1).toNat * 4)).off + 2, none⟩ = some (.int .i64 ((rd_T154 l0 x5_1).f2)) ∧ w'.cell? ⟨(ad491.add ((x5_1).toNat * 4)).block, (ad491.add ((x5_1).toNat * 4)).off + 3, none⟩ = some (.int .i64 ((rd_T154 l0 x5_1).f3)) ∧ w'.cell? (ad492.add ((x5_1).toNat * 4)) = some (.int .i64 ((rd_T154 l1 x5_1).f0)) ∧ w'.cell? ⟨(ad492.add ((x5_1).toNat * 4)).block, (ad492.add ((x5_1).toNat * 4)).off + 1, none⟩ = some (.int .i64 ((rd_T154 l1 x5_1).f1)) ∧ w'.cell? ⟨(ad492.add ((x5_1).toNat * 4)).block, (ad492.add ((x5_1).toNat * 4)).off + 2, none⟩ = some (.int .i64 ((rd_T154 l1 x5_1).f2)) ∧ w'.cell? ⟨(ad492.add ((x5_1).toNat * 4)).block, (ad492.add ((x5_1).toNat * 4)).off + 3, none⟩ = some (.int .i64 ((rd_T154 l1 x5_1).f3))) (ds := []) #[false, false, false, false, false, false, false, false, false, false] (by kernel_rfl) rfl rfl ⟨((HB.out.cell (World.block_lt_of_cell? w _ hw491_0)).trans hw491_0), ((HB.out.cell (World.block_lt_of_cell? w _ hw491_1)).trans hw491_1), ((HB.out.cell (World.block_lt_of_cell? w _ hw491_2)).trans hw491_2), ((HB.out.cell (World.block_lt_of_cell? w _ hw491_3)).trans hw491_3), ((HB.out.cell (World.block_lt_of_cell? w _ hw492_0)).trans hw492_0), ((HB.out.cell (World.block_lt_of_cell? w _ hw492_1)).trans hw492_1), ((HB.out.cell (World.block_lt_of_cell? w _ hw492_2)).trans hw492_2), ((HB.out.cell (World.block_lt_of_cell? w _ hw492_3)).trans hw492_3)⟩ (fun hHeld => ?_); refine with_tabW laws_eqInsS.tab6 laws_eqInsS.bits6 (fun HT_ HW_ => ?_)
 generalize wr.drew = w9 at HB hx491_0 hx491_1 hx491_2 hx491_3 hx492_0 hx492_1 hx492_2 hx492_3 hHeld ⊢
 refine pu_ 0 17 HT_ ?_
 refine pu_ 1 18 HT_ ?_
 refine pu_ 2 19 HT_ ?_
 refine pu_ 4 21 HT_ ?_
 refine pu_ 5 22 HT_ ?_
 refine pu_ 6 23 HT_ ?_
 refine ta_ 3 20 HT_ HW_ hHeld ?_ (r := by rintro w' ⟨s0, s1, s2, s3, s4, s5, s6, s7⟩; go_simp; with_reducible rfl)
 refine ta_ 7 24 HT_ HW_ hHeld ?_ (r := by rintro w' ⟨s0, s1, s2, s3, s4, s5, s6, s7⟩; go_simp; with_reducible rfl)
 refine on_ 8 25 HT_ (fun K hK => ?_)
 refine goes_ Tryz.func96 (by kernel_rfl) rfl #[.agg #[.int .i64 ((rd_T154 l0 x5_1).f0), .int .i64 ((rd_T154 l0 x5_1).f1), .int .i64 ((rd_T154 l0 x5_1).f2), .int .i64 ((rd_T154 l0 x5_1).f3)], .agg #[.int .i64 ((rd_T154 l1 x5_1).f0), .int .i64 ((rd_T154 l1 x5_1).f1), .int .i64 ((rd_T154 l1 x5_1).f2), .int .i64 ((rd_T154 l1 x5_1).f3)]] (by rfl) rfl rfl lm_ ?_
 with_reducible refine (laws_eqIns.calls ((rd_T154 l0 x5_1).f0) ((rd_T154 l0 x5_1).f1) ((rd_T154 l0 x5_1).f2) ((rd_T154 l0 x5_1).f3) ((rd_T154 l1 x5_1).f0) ((rd_T154 l1 x5_1).f1) ((rd_T154 l1 x5_1).f2) ((rd_T154 l1 x5_1).f3) true _ ?side1 A7.out).mono ?_
 (case side1 => first | rfl | assumption)
 rintro e w10 ⟨rfl, hb⟩
 refine ⟨_, rfl, ?_⟩
 have n0_ := Aside0.mk (below_step bl_ hb)
 clear HB
 have HB := n0_
 clear n0_
 (try clear hb)
 (try clear hb2)
 (try clear hk)
 (try clear hi)
 refine hK.out _ _ ⟨((HB.out.cell (World.block_lt_of_cell? w _ hw491_0)).trans hw491_0), ((HB.out.cell (World.block_lt_of_cell? w _ hw491_1)).trans hw491_1), ((HB.out.cell (World.block_lt_of_cell? w _ hw491_2)).trans hw491_2), ((HB.out.cell (World.block_lt_of_cell? w _ hw491_3)).trans hw491_3), ((HB.out.cell (World.block_lt_of_cell? w _ hw492_0)).trans hw492_0), ((HB.out.cell (World.block_lt_of_cell? w _ hw492_1)).trans hw492_1), ((HB.out.cell (World.block_lt_of_cell? w _ hw492_2)).trans hw492_2), ((HB.out.cell (World.block_lt_of_cell? w _ hw492_3)).trans hw492_3)⟩ (fun hHeld => ?_)
 clear hK K
 refine norm_ (a' := ?_) ?_ ?_
 rotate_left
 ·show Act.put _ (some 25) _ = _
  simp only [Act.put, List.setIfInBounds_toArray, List.set_cons_zero, List.set_cons_succ, i64_w, i32_w]
  rfl
 refine pu_ 9 26 HT_ ?_
 refine done_ (done_of HT_.out (by kernel_rfl)) ?_
 try go_wp2
 go_roundg k1
 case measure => have := HK1.out; omega
 case rel => exact ⟨(wrap64 (x5_1 + 1)), (sr_), H', ⟨by have := HK1.out; omega⟩, ⟨bl_⟩⟩


def laws_eqInsSS.l0 : Nat → List (List (S154)) → List (List (S154)) → Int → Option (Bool)
 | 0, _, _, _ => none
 | k + 1, x0, x1, x5 => if x5 < (x0.length : Int) then (if 0 ≤ x5 then (if x5 < (x1.length : Int) then ((laws_eqInsS.f k (rd_L18 x0 x5) (rd_L18 x1 x5)).bind fun t496 => (if t496 = true then (laws_eqInsSS.l0 k x0 x1 (wrap64 (x5 + 1))) else (some false))) else (none)) else (none)) else (some true)
def laws_eqInsSS.f (k : Nat) (l0 : List (List (S154))) (l1 : List (List (S154))) : Option (Bool) := if (l0.length : Int) = (l1.length : Int) then (laws_eqInsSS.l0 k l0 l1 0) else (some false)
theorem laws_eqInsSS.mono_l : ∀ k, (∀ y0 y1 y2, LeO (laws_eqInsSS.l0 k y0 y1 y2) (laws_eqInsSS.l0 (k + 1) y0 y1 y2))
 | 0 => fun _ _ _ r h => by simp [laws_eqInsSS.l0] at h
 | k + 1 => by
  have ih0 := laws_eqInsSS.mono_l k
  ·intro y0 y1 y2
   unfold laws_eqInsSS.l0
   have m0 := @laws_eqInsS.mono
   exact mo_
theorem laws_eqInsSS.mono : ∀ a0 a1 k, LeO (laws_eqInsSS.f k a0 a1) (laws_eqInsSS.f (k + 1) a0 a1) := by
 intro a0 a1 k
 have ih0 := laws_eqInsSS.mono_l k
 unfold laws_eqInsSS.f
 have m0 := @laws_eqInsS.mono
 exact mo_
def laws_eqInsSS.T6 : Bool × List (List Nat × List Nat) := (true, [([], []), ([], []), ([0, 1], [0, 1]), ([2], [2]), ([], []), ([], []), ([4, 5], [4, 5]), ([6], [6]), ([3, 7], [3, 7]), ([8], [8])])
def laws_eqInsSS.B6 : List Nat := [0, 0, 3, 7, 0, 0, 48, 112, 255, 511]
theorem laws_eqInsSS.tab6 : rtab .any (opsOf Tryz.f58 6) = laws_eqInsSS.T6 := by kernel_rfl
theorem laws_eqInsSS.bits6 : waitsOk laws_eqInsSS.T6.2 laws_eqInsSS.B6 = true := by kernel_rfl
theorem laws_eqInsSS.calls (k : Nat) (A0 : Option Addr) (c0 : Nat) (l0 : List (List (S154))) (A1 : Option Addr) (c1 : Nat) (l1 : List (List (S154))) (r : Bool) (w : World) (hr0 : Kd.C (Kd.slice 154 k154) w A0 l0.length l0) (hc0 : l0.length ≤ c0) (hr1 : Kd.C (Kd.slice 154 k154) w A1 l1.length l1) (hc1 : l1.length ≤ c1) (hrt : r = true) (h : laws_eqInsSS.f k l0 l1 = some r) :
 Calls Tryz.prog 58 #[.slice A0 l0.length c0, .slice A1 l1.length c1] w fun e w' => e = .returned (.bool r) ∧ Below w.heap.size w w' := by
 have HR0 := Aside0.mk hr0
 have HC0 := Aside0.mk hc0
 clear hr0 hc0
 have HR1 := Aside0.mk hr1
 have HC1 := Aside0.mk hc1
 clear hr1 hc1
 have HRt := Aside0.mk hrt
 clear hrt
 have HB := Aside0.mk (Below.refl w.heap.size w)
 have H := h
 unfold laws_eqInsSS.f at H
 clear h
 by_cases c3 : (l0.length : Int) = (l1.length : Int)
 rotate_left
 ·rw [if_neg c3] at H
  have c3b0 : ((l0.length : Int) == (l1.length : Int)) = false := beq_eq_false_iff_ne.mpr c3
  have c3b1 : ((l0.length : Int) != (l1.length : Int)) = true := bne_iff_ne.mpr c3
  have c3b2 : (l0.length == l1.length) = false := by first | simpa using c3 | (simp at c3 ⊢; omega)
  exact absurd ((Option.some.inj H).trans HRt.out) (by decide)
 rw [if_pos c3] at H
 have c3b0 : ((l0.length : Int) == (l1.length : Int)) = true := beq_iff_eq.mpr c3
 have c3b1 : ((l0.length : Int) != (l1.length : Int)) = false := bne_eq_false_iff_eq.mpr c3
 have c3b2 : (l0.length == l1.length) = true := by first | simpa using c3 | (simp at c3 ⊢; omega)
 clear c3
 have H' := Aside0.mk H
 clear H
 go_enter Tryz.func58, Tryz.ntmps58
 go_wp2
 go_loopg [5] k (fun kq v5 w' => ∃ (x5_1 : Int), v5 = .int .i64 x5_1 ∧ Aside0 (laws_eqInsSS.l0 kq l0 l1 x5_1 = some r) ∧ Aside0 (kq ≤ k) ∧ Aside0 (Below w.heap.size w w'))
 case atStart => exact ⟨(0), (sr_), H', ⟨Nat.le_refl _⟩, ⟨bl_⟩⟩
 clear H'
 try clear c1
 try clear c3
 try clear c3b0
 try clear c3b1
 try clear c3b2
 obtain ⟨x5_1, rfl, HA, HK1, HB⟩ := hrel
 cases gk with
 | zero => exact absurd HA.out (by simp [laws_eqInsSS.l0])
 | succ k1 => ?_
 have H := HA.out
 clear HA
 simp only [laws_eqInsSS.l0] at H
 by_cases c4 : x5_1 < (l0.length : Int)
 rotate_left
 ·rw [if_neg c4] at H
  have c4b0 := decide_eq_false c4
  clear c4
  obtain rfl := Option.some.inj H
  go_wp2
  go_ret
  exact ⟨er_, bl_⟩
 rw [if_pos c4] at H
 have c4b0 := decide_eq_true c4
 clear c4
 by_cases c5 : 0 ≤ x5_1
 rotate_left
 ·exact nn_ c5 H
 rw [if_pos c5] at H
 have c5b0 := decide_eq_true c5
 clear c5
 by_cases c6 : x5_1 < (l1.length : Int)
 rotate_left
 ·exact nn_ c6 H
 rw [if_pos c6] at H
 have c6b0 := decide_eq_true c6
 clear c6
 replace H := bs_ H
 obtain ⟨t496, A7, H⟩ := H
 try dsimp only at H
 by_cases c8 : t496 = true
 rotate_left
 ·replace c8 := Bool.eq_false_iff.mpr c8
  subst c8
  rw [nf_] at H
  exact absurd ((Option.some.inj H).trans HRt.out) (by decide)
 subst c8
 rw [if_pos rfl] at H
 have H' := Aside0.mk H
 clear H
 try go_wp2
 have n0_ := Aside0.mk (below_drew1 HB.out)
 clear HB
 have HB := n0_
 clear n0_
 have p494 : 0 ≤ (x5_1 : Int) := of_decide_eq_true as_
 have q494 : x5_1 < (l0.length : Int) := of_decide_eq_true as_
 obtain ⟨ad494, A494_0, c494_0, e494, hx494_0, hl494_0, hi494_0⟩ := at_L18 HR0.out x5_1 p494 q494
 have hw494_0 := hx494_0
 cases e494
 replace hx494_0 := (HB.out.cell (World.block_lt_of_cell? w _ hx494_0)).trans hx494_0
 have HR494_0 := Aside0.mk hi494_0
 have HC494_0 := Aside0.mk hl494_0
 clear hi494_0 hl494_0
 replace p494 := eq_true p494
 replace q494 := eq_true q494
 have p495 : 0 ≤ (x5_1 : Int) := of_decide_eq_true as_
 have q495 : x5_1 < (l1.length : Int) := of_decide_eq_true as_
 obtain ⟨ad495, A495_0, c495_0, e495, hx495_0, hl495_0, hi495_0⟩ := at_L18 HR1.out x5_1 p495 q495
 have hw495_0 := hx495_0
 cases e495
 replace hx495_0 := (HB.out.cell (World.block_lt_of_cell? w _ hx495_0)).trans hx495_0
 have HR495_0 := Aside0.mk hi495_0
 have HC495_0 := Aside0.mk hl495_0
 clear hi495_0 hl495_0
 replace p495 := eq_true p495
 replace q495 := eq_true q495
 refine start_ (n := 10) (S := fun w' => w'.cell? (ad494.add (x5_1).toNat) = some (.slice A494_0 (rd_L18 l0 x5_1).length c494_0) ∧ w'.cell? (ad495.add (x5_1).toNat) = some (.slice A495_0 (rd_L18 l1 x5_1).length c495_0)) (ds := []) #[false, false, false, false, false, false, false, false, false, false] (by kernel_rfl) rfl rfl ⟨((HB.out.cell (World.block_lt_of_cell? w _ hw494_0)).trans hw494_0), ((HB.out.cell (World.block_lt_of_cell? w _ hw495_0)).trans hw495_0)⟩ (fun hHeld => ?_); refine with_tabW laws_eqInsSS.tab6 laws_eqInsSS.bits6 (fun HT_ HW_ => ?_)
 generalize wr.drew = w9 at HB HR494_0 HR495_0 hx494_0 hx495_0 hHeld ⊢
 refine pu_ 0 17 HT_ ?_
 refine pu_ 1 18 HT_ ?_
 refine pu_ 2 19 HT_ ?_
 refine pu_ 4 21 HT_ ?_
 refine pu_ 5 22 HT_ ?_
 refine pu_ 6 23 HT_ ?_
 refine ta_ 3 20 HT_ HW_ hHeld ?_ (r := by rintro w' ⟨s0, s1⟩; go_simp; with_reducible rfl)
 refine ta_ 7 24 HT_ HW_ hHeld ?_ (r := by rintro w' ⟨s0, s1⟩; go_simp; with_reducible rfl)
 refine on_ 8 25 HT_ (fun K hK => ?_)
 refine goes_ Tryz.func81 (by kernel_rfl) rfl #[.slice A494_0 (rd_L18 l0 x5_1).length c494_0, .slice A495_0 (rd_L18 l1 x5_1).length c495_0] (by rfl) rfl rfl lm_ ?_
 with_reducible refine (laws_eqInsS.calls k1 _ _ (rd_L18 l0 x5_1) _ _ (rd_L18 l1 x5_1) true _ ?side1 ?side2 ?side3 ?side4 ?side5 A7.out).mono ?_
 (case side1 => exact cb_ HR494_0.out HB.out)
 (case side2 => exact HC494_0.out)
 (case side3 => exact cb_ HR495_0.out HB.out)
 (case side4 => exact HC495_0.out)
 (case side5 => first | rfl | assumption)
 rintro e w10 ⟨rfl, hb⟩
 refine ⟨_, rfl, ?_⟩
 have n0_ := Aside0.mk (below_step bl_ hb)
 clear HB
 have HB := n0_
 clear n0_
 (try clear hb)
 (try clear hb2)
 (try clear hk)
 (try clear hi)
 refine hK.out _ _ ⟨((HB.out.cell (World.block_lt_of_cell? w _ hw494_0)).trans hw494_0), ((HB.out.cell (World.block_lt_of_cell? w _ hw495_0)).trans hw495_0)⟩ (fun hHeld => ?_)
 clear hK K
 refine norm_ (a' := ?_) ?_ ?_
 rotate_left
 ·show Act.put _ (some 25) _ = _
  simp only [Act.put, List.setIfInBounds_toArray, List.set_cons_zero, List.set_cons_succ, i64_w, i32_w]
  rfl
 refine pu_ 9 26 HT_ ?_
 refine done_ (done_of HT_.out (by kernel_rfl)) ?_
 try go_wp2
 go_roundg k1
 case measure => have := HK1.out; omega
 case rel => exact ⟨(wrap64 (x5_1 + 1)), (sr_), H', ⟨by have := HK1.out; omega⟩, ⟨bl_⟩⟩


def laws_eqInsSSS.l0 : Nat → List (List (List (S154))) → List (List (List (S154))) → Int → Option (Bool)
 | 0, _, _, _ => none
 | k + 1, x0, x1, x5 => if x5 < (x0.length : Int) then (if 0 ≤ x5 then (if x5 < (x1.length : Int) then ((laws_eqInsSS.f k (rd_L19 x0 x5) (rd_L19 x1 x5)).bind fun t499 => (if t499 = true then (laws_eqInsSSS.l0 k x0 x1 (wrap64 (x5 + 1))) else (some false))) else (none)) else (none)) else (some true)
def laws_eqInsSSS.f (k : Nat) (l0 : List (List (List (S154)))) (l1 : List (List (List (S154)))) : Option (Bool) := if (l0.length : Int) = (l1.length : Int) then (laws_eqInsSSS.l0 k l0 l1 0) else (some false)
theorem laws_eqInsSSS.mono_l : ∀ k, (∀ y0 y1 y2, LeO (laws_eqInsSSS.l0 k y0 y1 y2) (laws_eqInsSSS.l0 (k + 1) y0 y1 y2))
 | 0 => fun _ _ _ r h => by simp [laws_eqInsSSS.l0] at h
 | k + 1 => by
  have ih0 := laws_eqInsSSS.mono_l k
  ·intro y0 y1 y2
   unfold laws_eqInsSSS.l0
   have m0 := @laws_eqInsSS.mono
   exact mo_
theorem laws_eqInsSSS.mono : ∀ a0 a1 k, LeO (laws_eqInsSSS.f k a0 a1) (laws_eqInsSSS.f (k + 1) a0 a1) := by
 intro a0 a1 k
 have ih0 := laws_eqInsSSS.mono_l k
 unfold laws_eqInsSSS.f
 have m0 := @laws_eqInsSS.mono
 exact mo_
def laws_eqInsSSS.T6 : Bool × List (List Nat × List Nat) := (true, [([], []), ([], []), ([0, 1], [0, 1]), ([2], [2]), ([], []), ([], []), ([4, 5], [4, 5]), ([6], [6]), ([3, 7], [3, 7]), ([8], [8])])
def laws_eqInsSSS.B6 : List Nat := [0, 0, 3, 7, 0, 0, 48, 112, 255, 511]
theorem laws_eqInsSSS.tab6 : rtab .any (opsOf Tryz.f31 6) = laws_eqInsSSS.T6 := by kernel_rfl
theorem laws_eqInsSSS.bits6 : waitsOk laws_eqInsSSS.T6.2 laws_eqInsSSS.B6 = true := by kernel_rfl
theorem laws_eqInsSSS.calls (k : Nat) (A0 : Option Addr) (c0 : Nat) (l0 : List (List (List (S154)))) (A1 : Option Addr) (c1 : Nat) (l1 : List (List (List (S154)))) (r : Bool) (w : World) (hr0 : Kd.C (Kd.slice 135 (Kd.slice 154 k154)) w A0 l0.length l0) (hc0 : l0.length ≤ c0) (hr1 : Kd.C (Kd.slice 135 (Kd.slice 154 k154)) w A1 l1.length l1) (hc1 : l1.length ≤ c1) (hrt : r = true) (h : laws_eqInsSSS.f k l0 l1 = some r) :
 Calls Tryz.prog 31 #[.slice A0 l0.length c0, .slice A1 l1.length c1] w fun e w' => e = .returned (.bool r) ∧ Below w.heap.size w w' := by
 have HR0 := Aside0.mk hr0
 have HC0 := Aside0.mk hc0
 clear hr0 hc0
 have HR1 := Aside0.mk hr1
 have HC1 := Aside0.mk hc1
 clear hr1 hc1
 have HRt := Aside0.mk hrt
 clear hrt
 have HB := Aside0.mk (Below.refl w.heap.size w)
 have H := h
 unfold laws_eqInsSSS.f at H
 clear h
 by_cases c3 : (l0.length : Int) = (l1.length : Int)
 rotate_left
 ·rw [if_neg c3] at H
  have c3b0 : ((l0.length : Int) == (l1.length : Int)) = false := beq_eq_false_iff_ne.mpr c3
  have c3b1 : ((l0.length : Int) != (l1.length : Int)) = true := bne_iff_ne.mpr c3
  have c3b2 : (l0.length == l1.length) = false := by first | simpa using c3 | (simp at c3 ⊢; omega)
  exact absurd ((Option.some.inj H).trans HRt.out) (by decide)
 rw [if_pos c3] at H
 have c3b0 : ((l0.length : Int) == (l1.length : Int)) = true := beq_iff_eq.mpr c3
 have c3b1 : ((l0.length : Int) != (l1.length : Int)) = false := bne_eq_false_iff_eq.mpr c3
 have c3b2 : (l0.length == l1.length) = true := by first | simpa using c3 | (simp at c3 ⊢; omega)
 clear c3
 have H' := Aside0.mk H
 clear H
 go_enter Tryz.func31, Tryz.ntmps31
 go_wp2
 go_loopg [5] k (fun kq v5 w' => ∃ (x5_1 : Int), v5 = .int .i64 x5_1 ∧ Aside0 (laws_eqInsSSS.l0 kq l0 l1 x5_1 = some r) ∧ Aside0 (kq ≤ k) ∧ Aside0 (Below w.heap.size w w'))
 case atStart => exact ⟨(0), (sr_), H', ⟨Nat.le_refl _⟩, ⟨bl_⟩⟩
 clear H'
 try clear c1
 try clear c3
 try clear c3b0
 try clear c3b1
 try clear c3b2
 obtain ⟨x5_1, rfl, HA, HK1, HB⟩ := hrel
 cases gk with
 | zero => exact absurd HA.out (by simp [laws_eqInsSSS.l0])
 | succ k1 => ?_
 have H := HA.out
 clear HA
 simp only [laws_eqInsSSS.l0] at H
 by_cases c4 : x5_1 < (l0.length : Int)
 rotate_left
 ·rw [if_neg c4] at H
  have c4b0 := decide_eq_false c4
  clear c4
  obtain rfl := Option.some.inj H
  go_wp2
  go_ret
  exact ⟨er_, bl_⟩
 rw [if_pos c4] at H
 have c4b0 := decide_eq_true c4
 clear c4
 by_cases c5 : 0 ≤ x5_1
 rotate_left
 ·exact nn_ c5 H
 rw [if_pos c5] at H
 have c5b0 := decide_eq_true c5
 clear c5
 by_cases c6 : x5_1 < (l1.length : Int)
 rotate_left
 ·exact nn_ c6 H
 rw [if_pos c6] at H
 have c6b0 := decide_eq_true c6
 clear c6
 replace H := bs_ H
 obtain ⟨t499, A7, H⟩ := H
 try dsimp only at H
 by_cases c8 : t499 = true
 rotate_left
 ·replace c8 := Bool.eq_false_iff.mpr c8
  subst c8
  rw [nf_] at H
  exact absurd ((Option.some.inj H).trans HRt.out) (by decide)
 subst c8
 rw [if_pos rfl] at H
 have H' := Aside0.mk H
 clear H
 try go_wp2
 have n0_ := Aside0.mk (below_drew1 HB.out)
 clear HB
 have HB := n0_
 clear n0_
 have p497 : 0 ≤ (x5_1 : Int) := of_decide_eq_true as_
 have q497 : x5_1 < (l0.length : Int) := of_decide_eq_true as_
 obtain ⟨ad497, A497_0, c497_0, e497, hx497_0, hl497_0, hi497_0⟩ := at_L19 HR0.out x5_1 p497 q497
 have hw497_0 := hx497_0
 cases e497
 replace hx497_0 := (HB.out.cell (World.block_lt_of_cell? w _ hx497_0)).trans hx497_0
 have HR497_0 := Aside0.mk hi497_0
 have HC497_0 := Aside0.mk hl497_0
 clear hi497_0 hl497_0
 replace p497 := eq_true p497
 replace q497 := eq_true q497
 have p498 : 0 ≤ (x5_1 : Int) := of_decide_eq_true as_
 have q498 : x5_1 < (l1.length : Int) := of_decide_eq_true as_
 obtain ⟨ad498, A498_0, c498_0, e498, hx498_0, hl498_0, hi498_0⟩ := at_L19 HR1.out x5_1 p498 q498
 have hw498_0 := hx498_0
 cases e498
 replace hx498_0 := (HB.out.cell (World.block_lt_of_cell? w _ hx498_0)).trans hx498_0
 have HR498_0 := Aside0.mk hi498_0
 have HC498_0 := Aside0.mk hl498_0
 clear hi498_0 hl498_0
 replace p498 := eq_true p498
 replace q498 := eq_true q498
 refine start_ (n := 10) (S := fun w' => w'.cell? (ad497.add (x5_1).toNat) = some (.slice A497_0 (rd_L19 l0 x5_1).length c497_0) ∧ w'.cell? (ad498.add (x5_1).toNat) = some (.slice A498_0 (rd_L19 l1 x5_1).length c498_0)) (ds := []) #[false, false, false, false, false, false, false, false, false, false] (by kernel_rfl) rfl rfl ⟨((HB.out.cell (World.block_lt_of_cell? w _ hw497_0)).trans hw497_0), ((HB.out.cell (World.block_lt_of_cell? w _ hw498_0)).trans hw498_0)⟩ (fun hHeld => ?_); refine with_tabW laws_eqInsSSS.tab6 laws_eqInsSSS.bits6 (fun HT_ HW_ => ?_)
 generalize wr.drew = w9 at HB HR497_0 HR498_0 hx497_0 hx498_0 hHeld ⊢
 refine pu_ 0 17 HT_ ?_
 refine pu_ 1 18 HT_ ?_
 refine pu_ 2 19 HT_ ?_
 refine pu_ 4 21 HT_ ?_
 refine pu_ 5 22 HT_ ?_
 refine pu_ 6 23 HT_ ?_
 refine ta_ 3 20 HT_ HW_ hHeld ?_ (r := by rintro w' ⟨s0, s1⟩; go_simp; with_reducible rfl)
 refine ta_ 7 24 HT_ HW_ hHeld ?_ (r := by rintro w' ⟨s0, s1⟩; go_simp; with_reducible rfl)
 refine on_ 8 25 HT_ (fun K hK => ?_)
 refine goes_ Tryz.func58 (by kernel_rfl) rfl #[.slice A497_0 (rd_L19 l0 x5_1).length c497_0, .slice A498_0 (rd_L19 l1 x5_1).length c498_0] (by rfl) rfl rfl lm_ ?_
 with_reducible refine (laws_eqInsSS.calls k1 _ _ (rd_L19 l0 x5_1) _ _ (rd_L19 l1 x5_1) true _ ?side1 ?side2 ?side3 ?side4 ?side5 A7.out).mono ?_
 (case side1 => exact cb_ HR497_0.out HB.out)
 (case side2 => exact HC497_0.out)
 (case side3 => exact cb_ HR498_0.out HB.out)
 (case side4 => exact HC498_0.out)
 (case side5 => first | rfl | assumption)
 rintro e w10 ⟨rfl, hb⟩
 refine ⟨_, rfl, ?_⟩
 have n0_ := Aside0.mk (below_step bl_ hb)
 clear HB
 have HB := n0_
 clear n0_
 (try clear hb)
 (try clear hb2)
 (try clear hk)
 (try clear hi)
 refine hK.out _ _ ⟨((HB.out.cell (World.block_lt_of_cell? w _ hw497_0)).trans hw497_0), ((HB.out.cell (World.block_lt_of_cell? w _ hw498_0)).trans hw498_0)⟩ (fun hHeld => ?_)
 clear hK K
 refine norm_ (a' := ?_) ?_ ?_
 rotate_left
 ·show Act.put _ (some 25) _ = _
  simp only [Act.put, List.setIfInBounds_toArray, List.set_cons_zero, List.set_cons_succ, i64_w, i32_w]
  rfl
 refine pu_ 9 26 HT_ ?_
 refine done_ (done_of HT_.out (by kernel_rfl)) ?_
 try go_wp2
 go_roundg k1
 case measure => have := HK1.out; omega
 case rel => exact ⟨(wrap64 (x5_1 + 1)), (sr_), H', ⟨by have := HK1.out; omega⟩, ⟨bl_⟩⟩

end Go.Proofs.YtcbjlcgfhbfneaaGreatDoor.PA
