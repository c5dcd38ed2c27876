/- Contracts of functions of the program and of the reference, and plain lemmas on what they compute. No condition. -/
import Derived.Test.YtdhjolglbcoijaaDoorGe1c07x0
import Derived.Test.YtdhjolglbcoijaaDoorG64108x0
import Derived.Test.YtdhjolglbcoijaaDoorShortV
set_option maxHeartbeats 8000000
set_option maxRecDepth 100000
namespace Go.Proofs.YtdhjolglbcoijaaDoor.PA
open Go.RowKit Go.Proofs.YtdhjolglbcoijaaDoor.Short Go.Proofs.YtdhjolglbcoijaaDoorW.PrintWords Go.Proofs.YtdhjolglbcoijaaDoorW.PrintLast Go.Proofs.YtdhjolglbcoijaaDoorW.PrintMore
attribute [local go_sem] max2_int min2_int max_two min_two max_three min_three max_four min_four   -- for this text's walks alone
set_option linter.unusedVariables false
set_option linter.unusedSimpArgs false

def laws_szSegment.f (a0_0 : Int) (a0_1 : ByteArray) (l0_2 : List (S91)) (a0_3 : ByteArray) (a1 : Int) : Option (Int) := if (wrap64 (a1 - (a0_1.size : Int))) < 0 then (some (-1)) else ((laws_szEntryS.f l0_2 (wrap64 (a1 - (a0_1.size : Int)))).bind fun t369 => (if t369 < 0 then (some (-1)) else (if (wrap64 (t369 - (a0_3.size : Int))) < 0 then (some (-1)) else (some (wrap64 (t369 - (a0_3.size : Int)))))))
theorem laws_szSegment.calls (a0_0 : Int) (a0_1 : ByteArray) (A0_2 : Option Addr) (c0_2 : Nat) (l0_2 : List (S91)) (a0_3 : ByteArray) (a1 : Int) (r : Int) (w : World) (hr0_2 : Kd.C k91 w A0_2 l0_2.length l0_2) (hc0_2 : l0_2.length ≤ c0_2) (h : laws_szSegment.f a0_0 a0_1 l0_2 a0_3 a1 = some r) :
 Calls Tryd.prog 17 #[.agg #[.int .i64 a0_0, .string a0_1, .slice A0_2 l0_2.length c0_2, .string a0_3], .int .i64 a1] w fun e w' => e = .returned (.int .i64 r) ∧ Below w.heap.size w w' := by
 have hu25 := Tryd.underlying25
 have HR0_2 := Aside0.mk hr0_2
 have HC0_2 := Aside0.mk hc0_2
 clear hr0_2 hc0_2
 have HB := Aside0.mk (Below.refl w.heap.size w)
 have H := h
 unfold laws_szSegment.f at H
 clear h
 by_cases c3 : (wrap64 (a1 - (a0_1.size : Int))) < 0
 ·rw [if_pos c3] at H
  have c3b0 := decide_eq_true c3
  clear c3
  obtain rfl := Option.some.inj H
  go_enter Tryd.func17, Tryd.ntmps17
  go_wp2_with (first | ((with_reducible refine gate_dst (N := 2) rfl ?_); refine bx_ 2 25 #[.int .i64 a0_0, .string a0_1, .slice A0_2 l0_2.length c0_2, .string a0_3] ?_; intro gb368 hg w4 hbox hb; have BK368 := Aside0.mk (hbox); have GW368 := Aside0.mk ((hz_ : w.heap.size ≤ gb368)); have GE368 := Aside0.mk ((hz_ : w.heap.size ≤ gb368)); replace HB := Aside0.mk (below_step bl_ hb); clear hb hbox hg; obtain ⟨hcz5_0, hcz5_1, hcz5_2, hcz5_3, hfz5_0, hfz5_1, hfz5_2, hfz5_3⟩ := cf4_ BK368.out))
  go_ret
  exact ⟨er_, bl_⟩
 rw [if_neg c3] at H
 have c3b0 := decide_eq_false c3
 clear c3
 replace H := bs_ H
 obtain ⟨t369, A6, H⟩ := H
 try dsimp only at H
 by_cases c7 : t369 < 0
 ·rw [if_pos c7] at H
  have c7b0 := decide_eq_true c7
  clear c7
  obtain rfl := Option.some.inj H
  go_enter Tryd.func17, Tryd.ntmps17
  go_wp2_with (first | ((with_reducible refine gate_dst (N := 2) rfl ?_); refine bx_ 2 25 #[.int .i64 a0_0, .string a0_1, .slice A0_2 l0_2.length c0_2, .string a0_3] ?_; intro gb368 hg w8 hbox hb; have BK368 := Aside0.mk (hbox); have GW368 := Aside0.mk ((hz_ : w.heap.size ≤ gb368)); have GE368 := Aside0.mk ((hz_ : w.heap.size ≤ gb368)); replace HB := Aside0.mk (below_step bl_ hb); clear hb hbox hg; obtain ⟨hcz9_0, hcz9_1, hcz9_2, hcz9_3, hfz9_0, hfz9_1, hfz9_2, hfz9_3⟩ := cf4_ BK368.out) | ((with_reducible refine gate_callee (f := 24) rfl ?_); refine gs_ (some 15) Tryd.func24 #[.slice A0_2 l0_2.length c0_2, .int .i64 (wrap64 (a1 - (a0_1.size : Int)))] ?_; (with_reducible refine (laws_szEntryS.calls _ _ l0_2 (wrap64 (a1 - (a0_1.size : Int))) t369 _ ?side1 ?side2 A6.out).mono ?_); (case side1 => exact cb_ HR0_2.out HB.out); (case side2 => exact HC0_2.out); rintro e w' ⟨rfl, ⟨nd, rfl⟩⟩; refine ⟨_, rfl, ?_⟩))
  go_ret
  exact ⟨er_, bl_⟩
 rw [if_neg c7] at H
 have c7b0 := decide_eq_false c7
 clear c7
 by_cases c10 : (wrap64 (t369 - (a0_3.size : Int))) < 0
 rotate_left
 ·rw [if_neg c10] at H
  have c10b0 := decide_eq_false c10
  clear c10
  obtain rfl := Option.some.inj H
  go_enter Tryd.func17, Tryd.ntmps17
  go_wp2_with (first | ((with_reducible refine gate_dst (N := 2) rfl ?_); refine bx_ 2 25 #[.int .i64 a0_0, .string a0_1, .slice A0_2 l0_2.length c0_2, .string a0_3] ?_; intro gb368 hg w13 hbox hb; have BK368 := Aside0.mk (hbox); have GW368 := Aside0.mk ((hz_ : w.heap.size ≤ gb368)); have GE368 := Aside0.mk ((hz_ : w.heap.size ≤ gb368)); replace HB := Aside0.mk (below_step bl_ hb); clear hb hbox hg; obtain ⟨hcz14_0, hcz14_1, hcz14_2, hcz14_3, hfz14_0, hfz14_1, hfz14_2, hfz14_3⟩ := cf4_ BK368.out) | ((with_reducible refine gate_callee (f := 24) rfl ?_); refine gs_ (some 15) Tryd.func24 #[.slice A0_2 l0_2.length c0_2, .int .i64 (wrap64 (a1 - (a0_1.size : Int)))] ?_; (with_reducible refine (laws_szEntryS.calls _ _ l0_2 (wrap64 (a1 - (a0_1.size : Int))) t369 _ ?side1 ?side2 A6.out).mono ?_); (case side1 => exact cb_ HR0_2.out HB.out); (case side2 => exact HC0_2.out); rintro e w' ⟨rfl, ⟨nd, rfl⟩⟩; refine ⟨_, rfl, ?_⟩))
  go_ret
  exact ⟨er_, bl_⟩
 rw [if_pos c10] at H
 have c10b0 := decide_eq_true c10
 clear c10
 obtain rfl := Option.some.inj H
 go_enter Tryd.func17, Tryd.ntmps17
 go_wp2_with (first | ((with_reducible refine gate_dst (N := 2) rfl ?_); refine bx_ 2 25 #[.int .i64 a0_0, .string a0_1, .slice A0_2 l0_2.length c0_2, .string a0_3] ?_; intro gb368 hg w11 hbox hb; have BK368 := Aside0.mk (hbox); have GW368 := Aside0.mk ((hz_ : w.heap.size ≤ gb368)); have GE368 := Aside0.mk ((hz_ : w.heap.size ≤ gb368)); replace HB := Aside0.mk (below_step bl_ hb); clear hb hbox hg; obtain ⟨hcz12_0, hcz12_1, hcz12_2, hcz12_3, hfz12_0, hfz12_1, hfz12_2, hfz12_3⟩ := cf4_ BK368.out) | ((with_reducible refine gate_callee (f := 24) rfl ?_); refine gs_ (some 15) Tryd.func24 #[.slice A0_2 l0_2.length c0_2, .int .i64 (wrap64 (a1 - (a0_1.size : Int)))] ?_; (with_reducible refine (laws_szEntryS.calls _ _ l0_2 (wrap64 (a1 - (a0_1.size : Int))) t369 _ ?side1 ?side2 A6.out).mono ?_); (case side1 => exact cb_ HR0_2.out HB.out); (case side2 => exact HC0_2.out); rintro e w' ⟨rfl, ⟨nd, rfl⟩⟩; refine ⟨_, rfl, ?_⟩))
 go_ret
 exact ⟨er_, bl_⟩


mutual
def impl_SegmentOk.j0 : Nat → Bool → Int → ByteArray → List (S70) → ByteArray → Option (Bool)
 | 0, _, _, _, _, _ => none
 | k + 1, x21, x415000, x415001, x415002, x415003 => if x21 = true then (some false) else (impl_SegmentOk.l0 k x415002 (x415002.length : Int) 0 x415000 x415001 x415002 x415003)
def impl_SegmentOk.l0 : Nat → List (S70) → Int → Int → Int → ByteArray → List (S70) → ByteArray → Option (Bool)
 | 0, _, _, _, _, _, _, _ => none
 | k + 1, x23, x24, x25, x415000, x415001, x415002, x415003 => if x25 < x24 then (if 0 ≤ x25 then (if x25 < (x23.length : Int) then ((impl_EntryText.f k ((rd_T70 x23 x25).f0) ((rd_T70 x23 x25).f1) ((rd_T70 x23 x25).f2.f0) ((rd_T70 x23 x25).f2.f1) ((rd_T70 x23 x25).f2.f2) ((rd_T70 x23 x25).f2.f3)).bind fun t419 => (if t419.toList = ([] : List UInt8) then (some false) else (impl_SegmentOk.l0 k x23 x24 (wrap64 (x25 + 1)) x415000 x415001 x415002 x415003))) else (none)) else (none)) else ((impl_HeadFrom.f k x415001 x415002).bind fun t420 => (some (x415003.toList == t420.toList)))
end
def impl_SegmentOk.f (k : Nat) (a0_0 : Int) (a0_1 : ByteArray) (l0_2 : List (S70)) (a0_3 : ByteArray) : Option (Bool) := (impl_within.f a0_0 0 200).bind fun t415 => (if t415 = true then (if (a0_1.size : Int) = 32 then ((impl_within.f (l0_2.length : Int) 1 200).bind fun t416 => (impl_SegmentOk.j0 k (!t416) a0_0 a0_1 l0_2 a0_3)) else (impl_SegmentOk.j0 k true a0_0 a0_1 l0_2 a0_3)) else (impl_SegmentOk.j0 k true a0_0 a0_1 l0_2 a0_3))
theorem impl_SegmentOk.mono_l : ∀ k, (∀ y0 y1 y2 y3 y4, LeO (impl_SegmentOk.j0 k y0 y1 y2 y3 y4) (impl_SegmentOk.j0 (k + 1) y0 y1 y2 y3 y4)) ∧ (∀ y0 y1 y2 y3 y4 y5 y6, LeO (impl_SegmentOk.l0 k y0 y1 y2 y3 y4 y5 y6) (impl_SegmentOk.l0 (k + 1) y0 y1 y2 y3 y4 y5 y6))
 | 0 => ⟨fun _ _ _ _ _ r h => by simp [impl_SegmentOk.j0] at h, fun _ _ _ _ _ _ _ r h => by simp [impl_SegmentOk.l0] at h⟩
 | k + 1 => by
  obtain ⟨ih0, ih1⟩ := impl_SegmentOk.mono_l k
  refine ⟨?_, ?_⟩
  ·intro y0 y1 y2 y3 y4
   unfold impl_SegmentOk.j0
   have m0 := @impl_EntryText.mono
   have m1 := @impl_HeadFrom.mono
   exact mo_
  ·intro y0 y1 y2 y3 y4 y5 y6
   unfold impl_SegmentOk.l0
   have m0 := @impl_EntryText.mono
   have m1 := @impl_HeadFrom.mono
   exact mo_
theorem impl_SegmentOk.mono : ∀ a0 a1 a2 a3 k, LeO (impl_SegmentOk.f k a0 a1 a2 a3) (impl_SegmentOk.f (k + 1) a0 a1 a2 a3) := by
 intro a0 a1 a2 a3 k
 obtain ⟨ih0, ih1⟩ := impl_SegmentOk.mono_l k
 unfold impl_SegmentOk.f
 have m0 := @impl_EntryText.mono
 have m1 := @impl_HeadFrom.mono
 exact mo_
def impl_SegmentOk.T9 : Bool × List (List Nat × List Nat) := (true, [([], []), ([0], [0]), ([], []), ([2], [2]), ([], []), ([4], [4]), ([3, 5], [3, 5]), ([1, 6], [1, 6]), ([7, 6, 0, 1, 2, 3, 4, 5, 6, 7], [7])])
def impl_SegmentOk.B9 : List Nat := [0, 1, 0, 4, 0, 16, 60, 127, 255]
theorem impl_SegmentOk.tab9 : rtab .any (opsOf Tryd.f20 9) = impl_SegmentOk.T9 := by kernel_rfl
theorem impl_SegmentOk.bits9 : waitsOk impl_SegmentOk.T9.2 impl_SegmentOk.B9 = true := by kernel_rfl
theorem impl_SegmentOk.calls (k : Nat) (a0_0 : Int) (a0_1 : ByteArray) (A0_2 : Option Addr) (c0_2 : Nat) (l0_2 : List (S70)) (a0_3 : ByteArray) (r : Bool) (w : World) (hr0_2 : Kd.C k70 w A0_2 l0_2.length l0_2) (hc0_2 : l0_2.length ≤ c0_2) (hT : Tab w) (h : impl_SegmentOk.f k a0_0 a0_1 l0_2 a0_3 = some r) :
 Calls Tryd.prog 20 #[.agg #[.int .i64 a0_0, .string a0_1, .slice A0_2 l0_2.length c0_2, .string a0_3]] w fun e w' => e = .returned (.bool r) ∧ Below w.heap.size w w' := by
 have hu30 := Tryd.underlying30
 have hu70 := Tryd.underlying70
 have HR0_2 := Aside0.mk hr0_2
 have HC0_2 := Aside0.mk hc0_2
 clear hr0_2 hc0_2
 have HT := Aside0.mk hT
 clear hT
 have HB := Aside0.mk (Below.refl w.heap.size w)
 have H := h
 unfold impl_SegmentOk.f at H
 clear h
 have HC2 := Aside0.mk H
 clear H
 go_enter Tryd.func20, Tryd.ntmps20
 go_upto_region 1 with (first | ((with_reducible refine gate_dst (N := 1) rfl ?_); (try (refine gate_guard (by rfl) ?_; dsimp only)); refine bx_ 1 30 #[.int .i64 a0_0, .string a0_1, .slice A0_2 l0_2.length c0_2, .string a0_3] ?_; intro gb414 hg w3 hbox hb; have BK414 := Aside0.mk (hbox); have GW414 := Aside0.mk ((hz_ : w.heap.size ≤ gb414)); have GE414 := Aside0.mk ((hz_ : w.heap.size ≤ gb414)); replace HB := Aside0.mk (below_step bl_ hb); clear hb hbox hg))
 (try simp only [Act.put, List.setIfInBounds_toArray, List.set_cons_zero, List.set_cons_succ])
 go_cut [21] (fun v21 wc => ∃ (kq : Nat) (x21_1 : Bool), v21 = .bool x21_1 ∧ Aside0 (impl_SegmentOk.j0 kq x21_1 a0_0 a0_1 l0_2 a0_3 = some r) ∧ Aside0 (kq ≤ k) ∧ Aside0 (wc.heap[gb414]? = some (.cells #[.int .i64 a0_0, .string a0_1, (.slice A0_2 l0_2.length c0_2), .string a0_3] 30 (0, 0))) ∧ Aside0 (Below w.heap.size w wc))
 case first =>
  have H := HC2.out
  clear HC2
  replace H := bs_ H
  obtain ⟨t415, A4, H⟩ := H
  try dsimp only at H
  by_cases c5 : t415 = true
  rotate_left
  ·replace c5 := Bool.eq_false_iff.mpr c5
   subst c5
   rw [nf_] at H
   have H' := Aside0.mk H
   clear H
   obtain ⟨hcz10_0, hcz10_1, hcz10_2, hcz10_3, hfz10_0, hfz10_1, hfz10_2, hfz10_3⟩ := cf4_ BK414.out
   go_wp2_with (first | ((with_reducible refine gate_callee (f := 72) rfl ?_); refine gs_ (some 7) Tryd.func72 #[.int .i64 a0_0, .int .i64 0, .int .i64 200] ?_; (with_reducible refine (impl_within.calls a0_0 0 200 false _ A4.out).mono ?_); rintro e w' ⟨rfl, ⟨nd, rfl⟩⟩; refine ⟨_, rfl, ?_⟩))
   go_meet
   case rel => exact ⟨_, (true), (sr_), H', ⟨by first | omega | exact Nat.le_refl _⟩, ⟨bk_ BK414.out⟩, ⟨bl_⟩⟩
  subst c5
  rw [if_pos rfl] at H
  by_cases c6 : (a0_1.size : Int) = 32
  rotate_left
  ·rw [if_neg c6] at H
   have c6b0 : ((a0_1.size : Int) == 32) = false := beq_eq_false_iff_ne.mpr c6
   have c6b1 : ((a0_1.size : Int) != 32) = true := bne_iff_ne.mpr c6
   (first | rw [c6b0] | (simp only [i64_w, i32_w]; rw [c6b0]) | skip)
   have H' := Aside0.mk H
   clear H
   obtain ⟨hcz9_0, hcz9_1, hcz9_2, hcz9_3, hfz9_0, hfz9_1, hfz9_2, hfz9_3⟩ := cf4_ BK414.out
   go_wp2_with (first | ((with_reducible refine gate_callee (f := 72) rfl ?_); refine gs_ (some 7) Tryd.func72 #[.int .i64 a0_0, .int .i64 0, .int .i64 200] ?_; (with_reducible refine (impl_within.calls a0_0 0 200 true _ A4.out).mono ?_); rintro e w' ⟨rfl, ⟨nd, rfl⟩⟩; refine ⟨_, rfl, ?_⟩))
   go_meet
   case rel => exact ⟨_, (true), (sr_), H', ⟨by first | omega | exact Nat.le_refl _⟩, ⟨bk_ BK414.out⟩, ⟨bl_⟩⟩
  rw [if_pos c6] at H
  have c6b0 : ((a0_1.size : Int) == 32) = true := beq_iff_eq.mpr c6
  have c6b1 : ((a0_1.size : Int) != 32) = false := bne_eq_false_iff_eq.mpr c6
  clear c6
  (first | rw [c6b0] | (simp only [i64_w, i32_w]; rw [c6b0]) | skip)
  replace H := bs_ H
  obtain ⟨t416, A7, H⟩ := H
  try dsimp only at H
  have H' := Aside0.mk H
  clear H
  obtain ⟨hcz8_0, hcz8_1, hcz8_2, hcz8_3, hfz8_0, hfz8_1, hfz8_2, hfz8_3⟩ := cf4_ BK414.out
  go_wp2_with (first | ((with_reducible refine gate_callee (f := 72) rfl ?_); refine gs_ (some 7) Tryd.func72 #[.int .i64 a0_0, .int .i64 0, .int .i64 200] ?_; (with_reducible refine (impl_within.calls a0_0 0 200 true _ A4.out).mono ?_); rintro e w' ⟨rfl, ⟨nd, rfl⟩⟩; refine ⟨_, rfl, ?_⟩) | (go_at_call 72; (with_reducible refine (impl_within.calls (l0_2.length : Int) 1 200 t416 _ A7.out).mono ?_); rintro e w' ⟨rfl, ⟨nd, rfl⟩⟩))
  go_meet
  case rel => exact ⟨_, (!t416), (sr_), H', ⟨by first | omega | exact Nat.le_refl _⟩, ⟨bk_ BK414.out⟩, ⟨bl_⟩⟩
 clear HC2
 obtain ⟨kq, x21_1, rfl, HA, HJ1, BK414, HB⟩ := hcut
 cases kq with
 | zero => exact absurd HA.out (by simp [impl_SegmentOk.j0])
 | succ kj1 => ?_
 have H := HA.out
 clear HA
 simp only [impl_SegmentOk.j0] at H
 by_cases c11 : x21_1 = true
 ·subst c11
  rw [if_pos rfl] at H
  obtain rfl := Option.some.inj H
  go_wp2
  go_ret
  exact ⟨er_, bl_⟩
 replace c11 := Bool.eq_false_iff.mpr c11
 subst c11
 rw [nf_] at H
 have H' := Aside0.mk H
 clear H
 obtain ⟨hcz12_0, hcz12_1, hcz12_2, hcz12_3, hfz12_0, hfz12_1, hfz12_2, hfz12_3⟩ := cf4_ BK414.out
 go_wp2
 go_loopg [25] kj1 (fun kq v25 w' => ∃ (x25_2 : Int), v25 = .int .i64 x25_2 ∧ Aside0 (impl_SegmentOk.l0 kq l0_2 (l0_2.length : Int) x25_2 a0_0 a0_1 l0_2 a0_3 = some r) ∧ Aside0 (kq ≤ kj1) ∧ Aside0 (w'.heap[gb414]? = some (.cells #[.int .i64 a0_0, .string a0_1, (.slice A0_2 l0_2.length c0_2), .string a0_3] 30 (0, 0))) ∧ Aside0 (Below w.heap.size w w'))
 case atStart => exact ⟨(0), (sr_), H', ⟨Nat.le_refl _⟩, ⟨bk_ BK414.out⟩, ⟨bl_⟩⟩
 clear H'
 try clear c11
 try clear hcz12_0
 try clear hcz12_1
 try clear hcz12_2
 try clear hcz12_3
 try clear hfz12_0
 try clear hfz12_1
 try clear hfz12_2
 try clear hfz12_3
 obtain ⟨x25_2, rfl, HA, HK2, BK414, HB⟩ := hrel
 cases gk with
 | zero => exact absurd HA.out (by simp [impl_SegmentOk.l0])
 | succ k2 => ?_
 have H := HA.out
 clear HA
 simp only [impl_SegmentOk.l0] at H
 by_cases c13 : x25_2 < (l0_2.length : Int)
 rotate_left
 ·rw [if_neg c13] at H
  have c13b0 := decide_eq_false c13
  clear c13
  replace H := bs_ H
  obtain ⟨t420, A26, H⟩ := H
  try dsimp only at H
  obtain rfl := Option.some.inj H
  try go_wp2
  have n0_ := Aside0.mk (blk_drew BK414.out)
  have n1_ := Aside0.mk (below_drew1 HB.out)
  clear BK414
  clear HB
  have BK414 := n0_
  have HB := n1_
  clear n0_ n1_
  refine start_ (n := 9) (S := fun w' => w'.cell? ⟨gb414, 0, none⟩ = some (.int .i64 a0_0) ∧ w'.cell? ⟨gb414, 1, none⟩ = some (.string a0_1) ∧ w'.cell? ⟨gb414, 2, none⟩ = some (.slice A0_2 l0_2.length c0_2) ∧ w'.cell? ⟨gb414, 3, none⟩ = some (.string a0_3)) (ds := []) #[false, false, false, false, false, false, false, false, false] (by kernel_rfl) rfl rfl ⟨(blk_cell BK414.out 0).trans rfl, (blk_cell BK414.out 1).trans rfl, (blk_cell BK414.out 2).trans rfl, (blk_cell BK414.out 3).trans rfl⟩ (fun hHeld => ?_); refine with_tabW impl_SegmentOk.tab9 impl_SegmentOk.bits9 (fun HT_ HW_ => ?_)
  generalize wr.drew = w27 at BK414 HB hHeld ⊢
  refine pu_ 0 33 HT_ ?_
  refine pu_ 2 35 HT_ ?_
  refine pu_ 4 37 HT_ ?_
  refine ta_ 1 34 HT_ HW_ hHeld ?_ (r := by rintro w' ⟨s0, s1, s2, s3⟩; go_simp; with_reducible rfl)
  refine ta_ 3 36 HT_ HW_ hHeld ?_ (r := by rintro w' ⟨s0, s1, s2, s3⟩; go_simp; with_reducible rfl)
  refine ta_ 5 38 HT_ HW_ hHeld ?_ (r := by rintro w' ⟨s0, s1, s2, s3⟩; go_simp; with_reducible rfl)
  refine on_ 6 39 HT_ (fun K hK => ?_)
  refine goes_ Tryd.func68 (by kernel_rfl) rfl #[.string a0_1, .slice A0_2 l0_2.length c0_2] (by rfl) rfl rfl lm_ ?_
  with_reducible refine (impl_HeadFrom.calls k2 a0_1 _ _ l0_2 t420 _ ?side1 ?side2 ?side3 A26.out).mono ?_
  (case side1 => exact cb_ HR0_2.out HB.out)
  (case side2 => exact HC0_2.out)
  (case side3 => exact tab_of HT.out bl_)
  rintro e w28 ⟨rfl, hb⟩
  refine ⟨_, rfl, ?_⟩
  have n0_ := Aside0.mk (blk_below (bn0_ BK414.out) hb)
  have n1_ := Aside0.mk (below_step bl_ hb)
  clear BK414
  clear HB
  have BK414 := n0_
  have HB := n1_
  clear n0_ n1_
  (try clear hb)
  (try clear hb2)
  (try clear hk)
  (try clear hi)
  refine hK.out _ _ ⟨(blk_cell BK414.out 0).trans rfl, (blk_cell BK414.out 1).trans rfl, (blk_cell BK414.out 2).trans rfl, (blk_cell BK414.out 3).trans rfl⟩ (fun hHeld => ?_)
  clear hK K
  refine norm_ (a' := ?_) ?_ ?_
  rotate_left
  ·show Act.put _ (some 39) _ = _
   simp only [Act.put, List.setIfInBounds_toArray, List.set_cons_zero, List.set_cons_succ, i64_w, i32_w]
   rfl
  refine pu_ 7 40 HT_ ?_
  refine pu_ 8 2 HT_ ?_
  refine done_ (done_of HT_.out (by kernel_rfl)) ?_
  try go_wp2
  go_ret
  exact ⟨er_, bl_⟩
 rw [if_pos c13] at H
 have c13b0 := decide_eq_true c13
 clear c13
 by_cases c14 : 0 ≤ x25_2
 rotate_left
 ·exact nn_ c14 H
 rw [if_pos c14] at H
 have c14b0 := decide_eq_true c14
 clear c14
 by_cases c15 : x25_2 < (l0_2.length : Int)
 rotate_left
 ·exact nn_ c15 H
 rw [if_pos c15] at H
 have c15b0 := decide_eq_true c15
 clear c15
 replace H := bs_ H
 obtain ⟨t419, A16, H⟩ := H
 try dsimp only at H
 by_cases c17 : t419.toList = ([] : List UInt8)
 ·rw [if_pos c17] at H
  have c17b0 : (t419.toList == ([] : List UInt8)) = true := beq_iff_eq.mpr c17
  have c17b1 : (t419.toList != ([] : List UInt8)) = false := bne_eq_false_iff_eq.mpr c17
  clear c17
  obtain rfl := Option.some.inj H
  have p417 : 0 ≤ (x25_2 : Int) := of_decide_eq_true as_
  have q417 : x25_2 < (l0_2.length : Int) := of_decide_eq_true as_
  obtain ⟨ad417, e417, hx417_0, hx417_1, hx417_2, hx417_3, hx417_4, hx417_5⟩ := at_T70 HR0_2.out x25_2 p417 q417
  cases e417
  replace hx417_0 := (HB.out.cell (World.block_lt_of_cell? w _ hx417_0)).trans hx417_0
  replace hx417_1 := (HB.out.cell (World.block_lt_of_cell? w _ hx417_1)).trans hx417_1
  replace hx417_2 := (HB.out.cell (World.block_lt_of_cell? w _ hx417_2)).trans hx417_2
  replace hx417_3 := (HB.out.cell (World.block_lt_of_cell? w _ hx417_3)).trans hx417_3
  replace hx417_4 := (HB.out.cell (World.block_lt_of_cell? w _ hx417_4)).trans hx417_4
  replace hx417_5 := (HB.out.cell (World.block_lt_of_cell? w _ hx417_5)).trans hx417_5
  replace p417 := eq_true p417
  replace q417 := eq_true q417
  go_wp2_with (first | ((with_reducible refine gate_dst (N := 4) rfl ?_); (try (refine gate_guard (by rfl) ?_; dsimp only)); refine bx_ 4 70 #[.int .i64 0, .int .i64 0, .int .i64 0, .int .i64 0, .int .i64 0, .int .i64 0] ?_; intro gb418 hg w18 hbox hb; have BK418 := Aside0.mk (hbox); have GW418 := Aside0.mk ((hz_ : w.heap.size ≤ gb418)); have GE418 := Aside0.mk ((hz_ : w.heap.size ≤ gb418)); replace HB := Aside0.mk (below_step bl_ hb); have NB414_418 := Aside0.mk ((by rw [hg]; exact Nat.ne_of_lt (blk_lt (g := gb414) (o := .cells #[.int .i64 a0_0, .string a0_1, .slice (some ad417) l0_2.length c0_2, .string a0_3] 30 (0, 0)) (bk_ BK414.out)) : gb414 ≠ gb418)); have NB418_414 := Aside0.mk ((by rw [hg]; exact Nat.ne_of_gt (blk_lt (g := gb414) (o := .cells #[.int .i64 a0_0, .string a0_1, .slice (some ad417) l0_2.length c0_2, .string a0_3] 30 (0, 0)) (bk_ BK414.out)) : gb418 ≠ gb414)); replace BK414 := Aside0.mk (blk_below (bn0_ BK414.out) hb); clear hb hbox hg; have hnb19 := NB418_414.out; have hnc19 := NB414_418.out; obtain ⟨hcz20_0, hcz20_1, hcz20_2, hcz20_3, hcz20_4, hcz20_5, hfz20_0, hfz20_1, hfz20_2, hfz20_3, hfz20_4, hfz20_5⟩ := cf6_ BK418.out) | ((with_reducible refine gate_callee (f := 73) rfl ?_); refine gs_ (some 30) Tryd.func73 #[.agg #[.int .i64 ((rd_T70 l0_2 x25_2).f0), .int .i64 ((rd_T70 l0_2 x25_2).f1), .int .i64 ((rd_T70 l0_2 x25_2).f2.f0), .int .i64 ((rd_T70 l0_2 x25_2).f2.f1), .int .i64 ((rd_T70 l0_2 x25_2).f2.f2), .int .i64 ((rd_T70 l0_2 x25_2).f2.f3)]] ?_; (with_reducible refine (impl_EntryText.calls k2 ((rd_T70 l0_2 x25_2).f0) ((rd_T70 l0_2 x25_2).f1) ((rd_T70 l0_2 x25_2).f2.f0) ((rd_T70 l0_2 x25_2).f2.f1) ((rd_T70 l0_2 x25_2).f2.f2) ((rd_T70 l0_2 x25_2).f2.f3) t419 _ A16.out).mono ?_); rintro e w21 ⟨rfl, hb⟩; refine ⟨_, rfl, ?_⟩; replace BK414 := Aside0.mk (blk_below (bn1_ BK414.out NB414_418.out) hb); replace BK418 := Aside0.mk (blk_below (g := gb418) (o := .cells #[.int .i64 ((rd_T70 l0_2 x25_2).f0), .int .i64 ((rd_T70 l0_2 x25_2).f1), .int .i64 ((rd_T70 l0_2 x25_2).f2.f0), .int .i64 ((rd_T70 l0_2 x25_2).f2.f1), .int .i64 ((rd_T70 l0_2 x25_2).f2.f2), .int .i64 ((rd_T70 l0_2 x25_2).f2.f3)] 70 (0, 0)) (bp0_ BK418.out) hb); replace HB := Aside0.mk (below_step bl_ hb); (try clear hb)))
  go_ret
  exact ⟨er_, bl_⟩
 rw [if_neg c17] at H
 have c17b0 : (t419.toList == ([] : List UInt8)) = false := beq_eq_false_iff_ne.mpr c17
 have c17b1 : (t419.toList != ([] : List UInt8)) = true := bne_iff_ne.mpr c17
 have H' := Aside0.mk H
 clear H
 have p417 : 0 ≤ (x25_2 : Int) := of_decide_eq_true as_
 have q417 : x25_2 < (l0_2.length : Int) := of_decide_eq_true as_
 obtain ⟨ad417, e417, hx417_0, hx417_1, hx417_2, hx417_3, hx417_4, hx417_5⟩ := at_T70 HR0_2.out x25_2 p417 q417
 cases e417
 replace hx417_0 := (HB.out.cell (World.block_lt_of_cell? w _ hx417_0)).trans hx417_0
 replace hx417_1 := (HB.out.cell (World.block_lt_of_cell? w _ hx417_1)).trans hx417_1
 replace hx417_2 := (HB.out.cell (World.block_lt_of_cell? w _ hx417_2)).trans hx417_2
 replace hx417_3 := (HB.out.cell (World.block_lt_of_cell? w _ hx417_3)).trans hx417_3
 replace hx417_4 := (HB.out.cell (World.block_lt_of_cell? w _ hx417_4)).trans hx417_4
 replace hx417_5 := (HB.out.cell (World.block_lt_of_cell? w _ hx417_5)).trans hx417_5
 replace p417 := eq_true p417
 replace q417 := eq_true q417
 go_wp2_with (first | ((with_reducible refine gate_dst (N := 4) rfl ?_); (try (refine gate_guard (by rfl) ?_; dsimp only)); refine bx_ 4 70 #[.int .i64 0, .int .i64 0, .int .i64 0, .int .i64 0, .int .i64 0, .int .i64 0] ?_; intro gb418 hg w22 hbox hb; have BK418 := Aside0.mk (hbox); have GW418 := Aside0.mk ((hz_ : w.heap.size ≤ gb418)); have GE418 := Aside0.mk ((hz_ : w.heap.size ≤ gb418)); replace HB := Aside0.mk (below_step bl_ hb); have NB414_418 := Aside0.mk ((by rw [hg]; exact Nat.ne_of_lt (blk_lt (g := gb414) (o := .cells #[.int .i64 a0_0, .string a0_1, .slice (some ad417) l0_2.length c0_2, .string a0_3] 30 (0, 0)) (bk_ BK414.out)) : gb414 ≠ gb418)); have NB418_414 := Aside0.mk ((by rw [hg]; exact Nat.ne_of_gt (blk_lt (g := gb414) (o := .cells #[.int .i64 a0_0, .string a0_1, .slice (some ad417) l0_2.length c0_2, .string a0_3] 30 (0, 0)) (bk_ BK414.out)) : gb418 ≠ gb414)); replace BK414 := Aside0.mk (blk_below (bn0_ BK414.out) hb); clear hb hbox hg; have hnb23 := NB418_414.out; have hnc23 := NB414_418.out; obtain ⟨hcz24_0, hcz24_1, hcz24_2, hcz24_3, hcz24_4, hcz24_5, hfz24_0, hfz24_1, hfz24_2, hfz24_3, hfz24_4, hfz24_5⟩ := cf6_ BK418.out) | ((with_reducible refine gate_callee (f := 73) rfl ?_); refine gs_ (some 30) Tryd.func73 #[.agg #[.int .i64 ((rd_T70 l0_2 x25_2).f0), .int .i64 ((rd_T70 l0_2 x25_2).f1), .int .i64 ((rd_T70 l0_2 x25_2).f2.f0), .int .i64 ((rd_T70 l0_2 x25_2).f2.f1), .int .i64 ((rd_T70 l0_2 x25_2).f2.f2), .int .i64 ((rd_T70 l0_2 x25_2).f2.f3)]] ?_; (with_reducible refine (impl_EntryText.calls k2 ((rd_T70 l0_2 x25_2).f0) ((rd_T70 l0_2 x25_2).f1) ((rd_T70 l0_2 x25_2).f2.f0) ((rd_T70 l0_2 x25_2).f2.f1) ((rd_T70 l0_2 x25_2).f2.f2) ((rd_T70 l0_2 x25_2).f2.f3) t419 _ A16.out).mono ?_); rintro e w25 ⟨rfl, hb⟩; refine ⟨_, rfl, ?_⟩; replace BK414 := Aside0.mk (blk_below (bn1_ BK414.out NB414_418.out) hb); replace BK418 := Aside0.mk (blk_below (g := gb418) (o := .cells #[.int .i64 ((rd_T70 l0_2 x25_2).f0), .int .i64 ((rd_T70 l0_2 x25_2).f1), .int .i64 ((rd_T70 l0_2 x25_2).f2.f0), .int .i64 ((rd_T70 l0_2 x25_2).f2.f1), .int .i64 ((rd_T70 l0_2 x25_2).f2.f2), .int .i64 ((rd_T70 l0_2 x25_2).f2.f3)] 70 (0, 0)) (bp0_ BK418.out) hb); replace HB := Aside0.mk (below_step bl_ hb); (try clear hb)))
 go_roundg k2
 case measure => have := HJ1.out; have := HK2.out; omega
 case rel => exact ⟨(wrap64 (x25_2 + 1)), (sr_), H', ⟨by have := HJ1.out; have := HK2.out; omega⟩, ⟨bk_ BK414.out⟩, ⟨bl_⟩⟩

end Go.Proofs.YtdhjolglbcoijaaDoor.PA
