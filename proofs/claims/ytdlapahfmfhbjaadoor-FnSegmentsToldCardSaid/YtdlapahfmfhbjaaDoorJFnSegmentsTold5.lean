/- Contracts of functions of the program and of the reference, and plain lemmas on what they compute: a part of the proof of the law FnSegmentsTold. No condition. -/
import Derived.Test.YtdlapahfmfhbjaaDoorG523dfx0
import Derived.Test.YtdlapahfmfhbjaaDoorGe902ex0
import Derived.Test.YtdlapahfmfhbjaaDoorShortV
set_option maxHeartbeats 8000000
set_option maxRecDepth 100000
namespace Go.Proofs.YtdlapahfmfhbjaaDoor.PA
open Go.RowKit Go.Proofs.YtdlapahfmfhbjaaDoor.Short Go.Proofs.YtdlapahfmfhbjaaDoorW.PrintWords Go.Proofs.YtdlapahfmfhbjaaDoorW.PrintLast Go.Proofs.YtdlapahfmfhbjaaDoorW.PrintMore
attribute [local go_sem] max2_int min2_int max_two min_two max_three min_three max_four min_four   -- for this text's walks alone
set_option linter.unusedVariables false
set_option linter.unusedSimpArgs false

def laws_sameSegment.f (k : Nat) (a0_0 : Int) (a0_1 : ByteArray) (l0_2 : List (S27)) (a0_3 : ByteArray) (a1_0 : Int) (a1_1 : ByteArray) (l1_2 : List (S27)) (a1_3 : ByteArray) : Option (Bool) := if a0_0 = a1_0 then (if a0_1.toList = a1_1.toList then (if a0_3.toList = a1_3.toList then ((laws_sameEntries.f k l0_2 l1_2).bind fun t1191 => (some t1191)) else (some false)) else (some false)) else (some false)
theorem laws_sameSegment.mono : ∀ a0 a1 a2 a3 a4 a5 a6 a7 k, LeO (laws_sameSegment.f k a0 a1 a2 a3 a4 a5 a6 a7) (laws_sameSegment.f (k + 1) a0 a1 a2 a3 a4 a5 a6 a7) := by
 intro a0 a1 a2 a3 a4 a5 a6 a7 k
 unfold laws_sameSegment.f
 have m0 := @laws_sameEntries.mono
 exact mo_
theorem laws_sameSegment.calls (k : Nat) (a0_0 : Int) (a0_1 : ByteArray) (A0_2 : Option Addr) (c0_2 : Nat) (l0_2 : List (S27)) (a0_3 : ByteArray) (a1_0 : Int) (a1_1 : ByteArray) (A1_2 : Option Addr) (c1_2 : Nat) (l1_2 : List (S27)) (a1_3 : ByteArray) (r : Bool) (w : World) (hr0_2 : Kd.C k27 w A0_2 l0_2.length l0_2) (hc0_2 : l0_2.length ≤ c0_2) (hr1_2 : Kd.C k27 w A1_2 l1_2.length l1_2) (hc1_2 : l1_2.length ≤ c1_2) (h : laws_sameSegment.f k a0_0 a0_1 l0_2 a0_3 a1_0 a1_1 l1_2 a1_3 = some r) :
 Calls Tryd.prog 54 #[.agg #[.int .i64 a0_0, .string a0_1, .slice A0_2 l0_2.length c0_2, .string a0_3], .agg #[.int .i64 a1_0, .string a1_1, .slice A1_2 l1_2.length c1_2, .string a1_3]] w fun e w' => e = .returned (.bool r) ∧ Below w.heap.size w w' := by
 have hu58 := Tryd.underlying58
 have HR0_2 := Aside0.mk hr0_2
 have HC0_2 := Aside0.mk hc0_2
 clear hr0_2 hc0_2
 have HR1_2 := Aside0.mk hr1_2
 have HC1_2 := Aside0.mk hc1_2
 clear hr1_2 hc1_2
 have HB := Aside0.mk (Below.refl w.heap.size w)
 have H := h
 unfold laws_sameSegment.f at H
 clear h
 by_cases c3 : a0_0 = a1_0
 rotate_left
 ·rw [if_neg c3] at H
  have c3b0 : (a0_0 == a1_0) = false := beq_eq_false_iff_ne.mpr c3
  have c3b1 : (a0_0 != a1_0) = true := bne_iff_ne.mpr c3
  obtain rfl := Option.some.inj H
  go_enter Tryd.func54, Tryd.ntmps54
  go_wp2_with (first | ((with_reducible refine gate_dst (N := 2) rfl ?_); refine bx_ 2 58 #[.int .i64 a0_0, .string a0_1, .slice A0_2 l0_2.length c0_2, .string a0_3] ?_; intro gb1189 hg w22 hbox hb; have BK1189 := Aside0.mk (hbox); have GW1189 := Aside0.mk ((hz_ : w.heap.size ≤ gb1189)); have GE1189 := Aside0.mk ((hz_ : w.heap.size ≤ gb1189)); replace HB := Aside0.mk (below_step bl_ hb); clear hb hbox hg) | ((with_reducible refine gate_dst (N := 3) rfl ?_); refine bx_ 3 58 #[.int .i64 a1_0, .string a1_1, .slice A1_2 l1_2.length c1_2, .string a1_3] ?_; intro gb1190 hg w23 hbox hb; have BK1190 := Aside0.mk (hbox); have GW1190 := Aside0.mk ((hz_ : w.heap.size ≤ gb1190)); have GE1190 := Aside0.mk ((hz_ : w.heap.size ≤ gb1190)); replace HB := Aside0.mk (below_step bl_ hb); have NB1189_1190 := Aside0.mk ((by rw [hg]; exact Nat.ne_of_lt (blk_lt (g := gb1189) (o := .cells #[.int .i64 a0_0, .string a0_1, .slice A0_2 l0_2.length c0_2, .string a0_3] 58 (0, 0)) (bk_ BK1189.out)) : gb1189 ≠ gb1190)); have NB1190_1189 := Aside0.mk ((by rw [hg]; exact Nat.ne_of_gt (blk_lt (g := gb1189) (o := .cells #[.int .i64 a0_0, .string a0_1, .slice A0_2 l0_2.length c0_2, .string a0_3] 58 (0, 0)) (bk_ BK1189.out)) : gb1190 ≠ gb1189)); replace BK1189 := Aside0.mk (blk_below (bn0_ BK1189.out) hb); clear hb hbox hg; have hnb24 := NB1189_1190.out; have hnc24 := NB1190_1189.out; obtain ⟨hcz25_0, hcz25_1, hcz25_2, hcz25_3, hfz25_0, hfz25_1, hfz25_2, hfz25_3⟩ := cf4_ BK1189.out; obtain ⟨hcz26_0, hcz26_1, hcz26_2, hcz26_3, hfz26_0, hfz26_1, hfz26_2, hfz26_3⟩ := cf4_ BK1190.out))
  go_ret
  exact ⟨er_, bl_⟩
 rw [if_pos c3] at H
 have c3b0 : (a0_0 == a1_0) = true := beq_iff_eq.mpr c3
 have c3b1 : (a0_0 != a1_0) = false := bne_eq_false_iff_eq.mpr c3
 clear c3
 by_cases c4 : a0_1.toList = a1_1.toList
 rotate_left
 ·rw [if_neg c4] at H
  have c4b0 : (a0_1.toList == a1_1.toList) = false := beq_eq_false_iff_ne.mpr c4
  have c4b1 : (a0_1.toList != a1_1.toList) = true := bne_iff_ne.mpr c4
  obtain rfl := Option.some.inj H
  go_enter Tryd.func54, Tryd.ntmps54
  go_wp2_with (first | ((with_reducible refine gate_dst (N := 2) rfl ?_); refine bx_ 2 58 #[.int .i64 a0_0, .string a0_1, .slice A0_2 l0_2.length c0_2, .string a0_3] ?_; intro gb1189 hg w17 hbox hb; have BK1189 := Aside0.mk (hbox); have GW1189 := Aside0.mk ((hz_ : w.heap.size ≤ gb1189)); have GE1189 := Aside0.mk ((hz_ : w.heap.size ≤ gb1189)); replace HB := Aside0.mk (below_step bl_ hb); clear hb hbox hg) | ((with_reducible refine gate_dst (N := 3) rfl ?_); refine bx_ 3 58 #[.int .i64 a1_0, .string a1_1, .slice A1_2 l1_2.length c1_2, .string a1_3] ?_; intro gb1190 hg w18 hbox hb; have BK1190 := Aside0.mk (hbox); have GW1190 := Aside0.mk ((hz_ : w.heap.size ≤ gb1190)); have GE1190 := Aside0.mk ((hz_ : w.heap.size ≤ gb1190)); replace HB := Aside0.mk (below_step bl_ hb); have NB1189_1190 := Aside0.mk ((by rw [hg]; exact Nat.ne_of_lt (blk_lt (g := gb1189) (o := .cells #[.int .i64 a0_0, .string a0_1, .slice A0_2 l0_2.length c0_2, .string a0_3] 58 (0, 0)) (bk_ BK1189.out)) : gb1189 ≠ gb1190)); have NB1190_1189 := Aside0.mk ((by rw [hg]; exact Nat.ne_of_gt (blk_lt (g := gb1189) (o := .cells #[.int .i64 a0_0, .string a0_1, .slice A0_2 l0_2.length c0_2, .string a0_3] 58 (0, 0)) (bk_ BK1189.out)) : gb1190 ≠ gb1189)); replace BK1189 := Aside0.mk (blk_below (bn0_ BK1189.out) hb); clear hb hbox hg; have hnb19 := NB1189_1190.out; have hnc19 := NB1190_1189.out; obtain ⟨hcz20_0, hcz20_1, hcz20_2, hcz20_3, hfz20_0, hfz20_1, hfz20_2, hfz20_3⟩ := cf4_ BK1189.out; obtain ⟨hcz21_0, hcz21_1, hcz21_2, hcz21_3, hfz21_0, hfz21_1, hfz21_2, hfz21_3⟩ := cf4_ BK1190.out))
  go_ret
  exact ⟨er_, bl_⟩
 rw [if_pos c4] at H
 have c4b0 : (a0_1.toList == a1_1.toList) = true := beq_iff_eq.mpr c4
 have c4b1 : (a0_1.toList != a1_1.toList) = false := bne_eq_false_iff_eq.mpr c4
 clear c4
 by_cases c5 : a0_3.toList = a1_3.toList
 rotate_left
 ·rw [if_neg c5] at H
  have c5b0 : (a0_3.toList == a1_3.toList) = false := beq_eq_false_iff_ne.mpr c5
  have c5b1 : (a0_3.toList != a1_3.toList) = true := bne_iff_ne.mpr c5
  obtain rfl := Option.some.inj H
  go_enter Tryd.func54, Tryd.ntmps54
  go_wp2_with (first | ((with_reducible refine gate_dst (N := 2) rfl ?_); refine bx_ 2 58 #[.int .i64 a0_0, .string a0_1, .slice A0_2 l0_2.length c0_2, .string a0_3] ?_; intro gb1189 hg w12 hbox hb; have BK1189 := Aside0.mk (hbox); have GW1189 := Aside0.mk ((hz_ : w.heap.size ≤ gb1189)); have GE1189 := Aside0.mk ((hz_ : w.heap.size ≤ gb1189)); replace HB := Aside0.mk (below_step bl_ hb); clear hb hbox hg) | ((with_reducible refine gate_dst (N := 3) rfl ?_); refine bx_ 3 58 #[.int .i64 a1_0, .string a1_1, .slice A1_2 l1_2.length c1_2, .string a1_3] ?_; intro gb1190 hg w13 hbox hb; have BK1190 := Aside0.mk (hbox); have GW1190 := Aside0.mk ((hz_ : w.heap.size ≤ gb1190)); have GE1190 := Aside0.mk ((hz_ : w.heap.size ≤ gb1190)); replace HB := Aside0.mk (below_step bl_ hb); have NB1189_1190 := Aside0.mk ((by rw [hg]; exact Nat.ne_of_lt (blk_lt (g := gb1189) (o := .cells #[.int .i64 a0_0, .string a0_1, .slice A0_2 l0_2.length c0_2, .string a0_3] 58 (0, 0)) (bk_ BK1189.out)) : gb1189 ≠ gb1190)); have NB1190_1189 := Aside0.mk ((by rw [hg]; exact Nat.ne_of_gt (blk_lt (g := gb1189) (o := .cells #[.int .i64 a0_0, .string a0_1, .slice A0_2 l0_2.length c0_2, .string a0_3] 58 (0, 0)) (bk_ BK1189.out)) : gb1190 ≠ gb1189)); replace BK1189 := Aside0.mk (blk_below (bn0_ BK1189.out) hb); clear hb hbox hg; have hnb14 := NB1189_1190.out; have hnc14 := NB1190_1189.out; obtain ⟨hcz15_0, hcz15_1, hcz15_2, hcz15_3, hfz15_0, hfz15_1, hfz15_2, hfz15_3⟩ := cf4_ BK1189.out; obtain ⟨hcz16_0, hcz16_1, hcz16_2, hcz16_3, hfz16_0, hfz16_1, hfz16_2, hfz16_3⟩ := cf4_ BK1190.out))
  go_ret
  exact ⟨er_, bl_⟩
 rw [if_pos c5] at H
 have c5b0 : (a0_3.toList == a1_3.toList) = true := beq_iff_eq.mpr c5
 have c5b1 : (a0_3.toList != a1_3.toList) = false := bne_eq_false_iff_eq.mpr c5
 clear c5
 replace H := bs_ H
 obtain ⟨t1191, A6, H⟩ := H
 try dsimp only at H
 obtain rfl := Option.some.inj H
 go_enter Tryd.func54, Tryd.ntmps54
 go_wp2_with (first | ((with_reducible refine gate_dst (N := 2) rfl ?_); refine bx_ 2 58 #[.int .i64 a0_0, .string a0_1, .slice A0_2 l0_2.length c0_2, .string a0_3] ?_; intro gb1189 hg w7 hbox hb; have BK1189 := Aside0.mk (hbox); have GW1189 := Aside0.mk ((hz_ : w.heap.size ≤ gb1189)); have GE1189 := Aside0.mk ((hz_ : w.heap.size ≤ gb1189)); replace HB := Aside0.mk (below_step bl_ hb); clear hb hbox hg) | ((with_reducible refine gate_dst (N := 3) rfl ?_); refine bx_ 3 58 #[.int .i64 a1_0, .string a1_1, .slice A1_2 l1_2.length c1_2, .string a1_3] ?_; intro gb1190 hg w8 hbox hb; have BK1190 := Aside0.mk (hbox); have GW1190 := Aside0.mk ((hz_ : w.heap.size ≤ gb1190)); have GE1190 := Aside0.mk ((hz_ : w.heap.size ≤ gb1190)); replace HB := Aside0.mk (below_step bl_ hb); have NB1189_1190 := Aside0.mk ((by rw [hg]; exact Nat.ne_of_lt (blk_lt (g := gb1189) (o := .cells #[.int .i64 a0_0, .string a0_1, .slice A0_2 l0_2.length c0_2, .string a0_3] 58 (0, 0)) (bk_ BK1189.out)) : gb1189 ≠ gb1190)); have NB1190_1189 := Aside0.mk ((by rw [hg]; exact Nat.ne_of_gt (blk_lt (g := gb1189) (o := .cells #[.int .i64 a0_0, .string a0_1, .slice A0_2 l0_2.length c0_2, .string a0_3] 58 (0, 0)) (bk_ BK1189.out)) : gb1190 ≠ gb1189)); replace BK1189 := Aside0.mk (blk_below (bn0_ BK1189.out) hb); clear hb hbox hg; have hnb9 := NB1189_1190.out; have hnc9 := NB1190_1189.out; obtain ⟨hcz10_0, hcz10_1, hcz10_2, hcz10_3, hfz10_0, hfz10_1, hfz10_2, hfz10_3⟩ := cf4_ BK1189.out; have hcz11_0 : w8.cell? ⟨gb1190, 0, none⟩ = some (.int .i64 a1_0) := (blk_cell BK1190.out 0).trans rfl; have hcz11_1 : w8.cell? ⟨gb1190, 1, none⟩ = some (.string a1_1) := (blk_cell BK1190.out 1).trans rfl; have hcz11_2 : w8.cell? ⟨gb1190, 2, none⟩ = some (.slice A1_2 l1_2.length c1_2) := (blk_cell BK1190.out 2).trans rfl; have hcz11_3 : w8.cell? ⟨gb1190, 3, none⟩ = some (.string a1_3) := (blk_cell BK1190.out 3).trans rfl; have hfz11_0 := blk_frozen BK1190.out 0; have hfz11_1 := blk_frozen BK1190.out 1; have hfz11_2 := blk_frozen BK1190.out 2; have hfz11_3 := blk_frozen BK1190.out 3) | (go_at_call 35; (with_reducible refine (laws_sameEntries.calls k _ _ l0_2 _ _ l1_2 t1191 _ ?side1 ?side2 ?side3 ?side4 A6.out).mono ?_); (case side1 => exact cb_ HR0_2.out HB.out); (case side2 => exact HC0_2.out); (case side3 => exact cb_ HR1_2.out HB.out); (case side4 => exact HC1_2.out); rintro e w' ⟨rfl, ⟨nd, rfl⟩⟩))
 go_ret
 exact ⟨er_, bl_⟩


def laws_sameSegments.l0 : Nat → List (S58) → List (S58) → Int → Option (Bool)
 | 0, _, _, _ => none
 | k + 1, x0, x1, x5 => if x5 < (x0.length : Int) then (if 0 ≤ x5 then (if x5 < (x1.length : Int) then ((laws_sameSegment.f k ((rd_T58 x0 x5).f0) ((rd_T58 x0 x5).f1) ((rd_T58 x0 x5).f2) ((rd_T58 x0 x5).f3) ((rd_T58 x1 x5).f0) ((rd_T58 x1 x5).f1) ((rd_T58 x1 x5).f2) ((rd_T58 x1 x5).f3)).bind fun t1194 => (if t1194 = true then (laws_sameSegments.l0 k x0 x1 (wrap64 (x5 + 1))) else (some false))) else (none)) else (none)) else (some true)
def laws_sameSegments.f (k : Nat) (l0 : List (S58)) (l1 : List (S58)) : Option (Bool) := if (l0.length : Int) = (l1.length : Int) then (laws_sameSegments.l0 k l0 l1 0) else (some false)
theorem laws_sameSegments.mono_l : ∀ k, (∀ y0 y1 y2, LeO (laws_sameSegments.l0 k y0 y1 y2) (laws_sameSegments.l0 (k + 1) y0 y1 y2))
 | 0 => fun _ _ _ r h => by simp [laws_sameSegments.l0] at h
 | k + 1 => by
  have ih0 := laws_sameSegments.mono_l k
  ·intro y0 y1 y2
   unfold laws_sameSegments.l0
   have m0 := @laws_sameSegment.mono
   exact mo_
theorem laws_sameSegments.mono : ∀ a0 a1 k, LeO (laws_sameSegments.f k a0 a1) (laws_sameSegments.f (k + 1) a0 a1) := by
 intro a0 a1 k
 have ih0 := laws_sameSegments.mono_l k
 unfold laws_sameSegments.f
 have m0 := @laws_sameSegment.mono
 exact mo_
def laws_sameSegments.T6 : Bool × List (List Nat × List Nat) := (true, [([], []), ([], []), ([0, 1], [0, 1]), ([2], [2]), ([], []), ([], []), ([4, 5], [4, 5]), ([6], [6]), ([3, 7], [3, 7]), ([8], [8])])
def laws_sameSegments.B6 : List Nat := [0, 0, 3, 7, 0, 0, 48, 112, 255, 511]
theorem laws_sameSegments.tab6 : rtab .any (opsOf Tryd.f53 6) = laws_sameSegments.T6 := by kernel_rfl
theorem laws_sameSegments.bits6 : waitsOk laws_sameSegments.T6.2 laws_sameSegments.B6 = true := by kernel_rfl
theorem laws_sameSegments.calls (k : Nat) (A0 : Option Addr) (c0 : Nat) (l0 : List (S58)) (A1 : Option Addr) (c1 : Nat) (l1 : List (S58)) (r : Bool) (w : World) (hr0 : Kd.C k58 w A0 l0.length l0) (hc0 : l0.length ≤ c0) (hr1 : Kd.C k58 w A1 l1.length l1) (hc1 : l1.length ≤ c1) (h : laws_sameSegments.f k l0 l1 = some r) :
 Calls Tryd.prog 53 #[.slice A0 l0.length c0, .slice A1 l1.length c1] w fun e w' => e = .returned (.bool r) ∧ Below w.heap.size w w' := by
 have hu58 := Tryd.underlying58
 have HR0 := Aside0.mk hr0
 have HC0 := Aside0.mk hc0
 clear hr0 hc0
 have HR1 := Aside0.mk hr1
 have HC1 := Aside0.mk hc1
 clear hr1 hc1
 have HB := Aside0.mk (Below.refl w.heap.size w)
 have H := h
 unfold laws_sameSegments.f at H
 clear h
 by_cases c3 : (l0.length : Int) = (l1.length : Int)
 rotate_left
 ·rw [if_neg c3] at H
  have c3b0 : ((l0.length : Int) == (l1.length : Int)) = false := beq_eq_false_iff_ne.mpr c3
  have c3b1 : ((l0.length : Int) != (l1.length : Int)) = true := bne_iff_ne.mpr c3
  have c3b2 : (l0.length == l1.length) = false := by first | simpa using c3 | (simp at c3 ⊢; omega)
  obtain rfl := Option.some.inj H
  go_enter Tryd.func53, Tryd.ntmps53
  go_wp2
  go_ret
  exact ⟨er_, bl_⟩
 rw [if_pos c3] at H
 have c3b0 : ((l0.length : Int) == (l1.length : Int)) = true := beq_iff_eq.mpr c3
 have c3b1 : ((l0.length : Int) != (l1.length : Int)) = false := bne_eq_false_iff_eq.mpr c3
 have c3b2 : (l0.length == l1.length) = true := by first | simpa using c3 | (simp at c3 ⊢; omega)
 clear c3
 have H' := Aside0.mk H
 clear H
 go_enter Tryd.func53, Tryd.ntmps53
 go_wp2
 go_loopg [5] k (fun kq v5 w' => ∃ (x5_1 : Int), v5 = .int .i64 x5_1 ∧ Aside0 (laws_sameSegments.l0 kq l0 l1 x5_1 = some r) ∧ Aside0 (kq ≤ k) ∧ Aside0 (Below w.heap.size w w'))
 case atStart => exact ⟨(0), (sr_), H', ⟨Nat.le_refl _⟩, ⟨bl_⟩⟩
 clear H'
 try clear c1
 try clear c3
 try clear c3b0
 try clear c3b1
 try clear c3b2
 obtain ⟨x5_1, rfl, HA, HK1, HB⟩ := hrel
 cases gk with
 | zero => exact absurd HA.out (by simp [laws_sameSegments.l0])
 | succ k1 => ?_
 have H := HA.out
 clear HA
 simp only [laws_sameSegments.l0] at H
 by_cases c4 : x5_1 < (l0.length : Int)
 rotate_left
 ·rw [if_neg c4] at H
  have c4b0 := decide_eq_false c4
  clear c4
  obtain rfl := Option.some.inj H
  go_wp2
  go_ret
  exact ⟨er_, bl_⟩
 rw [if_pos c4] at H
 have c4b0 := decide_eq_true c4
 clear c4
 by_cases c5 : 0 ≤ x5_1
 rotate_left
 ·exact nn_ c5 H
 rw [if_pos c5] at H
 have c5b0 := decide_eq_true c5
 clear c5
 by_cases c6 : x5_1 < (l1.length : Int)
 rotate_left
 ·exact nn_ c6 H
 rw [if_pos c6] at H
 have c6b0 := decide_eq_true c6
 clear c6
 replace H := bs_ H
 obtain ⟨t1194, A7, H⟩ := H
 try dsimp only at H
 by_cases c8 : t1194 = true
 rotate_left
 ·replace c8 := Bool.eq_false_iff.mpr c8
  subst c8
  rw [nf_] at H
  obtain rfl := Option.some.inj H
  try go_wp2
  have n0_ := Aside0.mk (below_drew1 HB.out)
  clear HB
  have HB := n0_
  clear n0_
  have p1192 : 0 ≤ (x5_1 : Int) := of_decide_eq_true as_
  have q1192 : x5_1 < (l0.length : Int) := of_decide_eq_true as_
  obtain ⟨ad1192, A1192_2, c1192_2, e1192, hx1192_0, hx1192_1, hx1192_2, hx1192_3, hl1192_2, hi1192_2⟩ := at_T58 HR0.out x5_1 p1192 q1192
  have hw1192_3 := hx1192_3
  have hw1192_2 := hx1192_2
  have hw1192_1 := hx1192_1
  have hw1192_0 := hx1192_0
  cases e1192
  replace hx1192_0 := (HB.out.cell (World.block_lt_of_cell? w _ hx1192_0)).trans hx1192_0
  replace hx1192_1 := (HB.out.cell (World.block_lt_of_cell? w _ hx1192_1)).trans hx1192_1
  replace hx1192_2 := (HB.out.cell (World.block_lt_of_cell? w _ hx1192_2)).trans hx1192_2
  replace hx1192_3 := (HB.out.cell (World.block_lt_of_cell? w _ hx1192_3)).trans hx1192_3
  have HR1192_2 := Aside0.mk hi1192_2
  have HC1192_2 := Aside0.mk hl1192_2
  clear hi1192_2 hl1192_2
  replace p1192 := eq_true p1192
  replace q1192 := eq_true q1192
  have p1193 : 0 ≤ (x5_1 : Int) := of_decide_eq_true as_
  have q1193 : x5_1 < (l1.length : Int) := of_decide_eq_true as_
  obtain ⟨ad1193, A1193_2, c1193_2, e1193, hx1193_0, hx1193_1, hx1193_2, hx1193_3, hl1193_2, hi1193_2⟩ := at_T58 HR1.out x5_1 p1193 q1193
  have hw1193_3 := hx1193_3
  have hw1193_2 := hx1193_2
  have hw1193_1 := hx1193_1
  have hw1193_0 := hx1193_0
  cases e1193
  replace hx1193_0 := (HB.out.cell (World.block_lt_of_cell? w _ hx1193_0)).trans hx1193_0
  replace hx1193_1 := (HB.out.cell (World.block_lt_of_cell? w _ hx1193_1)).trans hx1193_1
  replace hx1193_2 := (HB.out.cell (World.block_lt_of_cell? w _ hx1193_2)).trans hx1193_2
  replace hx1193_3 := (HB.out.cell (World.block_lt_of_cell? w _ hx1193_3)).trans hx1193_3
  have HR1193_2 := Aside0.mk hi1193_2
  have HC1193_2 := Aside0.mk hl1193_2
  clear hi1193_2 hl1193_2
  replace p1193 := eq_true p1193
  replace q1193 := eq_true q1193
  refine start_ (n := 10) (S := fun w' => w'.cell? (ad1192.add ((x5_1).toNat * 4)) = some (.int .i64 ((rd_T58 l0 x5_1).f0)) ∧ w'.cell? ⟨(ad1192.add ((x5_1).toNat * 4)).block, (ad1192.add ((x5_1).toNat * 4)).off + 1, none⟩ = some (.string ((rd_T58 l0 x5_1).f1)) ∧ w'.cell? ⟨(ad1192.add ((x5_1).toNat * 4)).block, (ad1192.add ((x5_1).toNat * 4)).off + 2, none⟩ = some (.slice A1192_2 ((rd_T58 l0 x5_1).f2).length c1192_2) ∧ w'.cell? ⟨(ad1192.add ((x5_1).toNat * 4)).block, (ad1192.add ((x5_1).toNat * 4)).off + 3, none⟩ = some (.string ((rd_T58 l0 x5_1).f3)) ∧ w'.cell? (ad1193.add ((x5_1).toNat * 4)) = some (.int .i64 ((rd_T58 l1 x5_1).f0)) ∧ w'.cell? ⟨(ad1193.add ((x5_1).toNat * 4)).block, (ad1193.add ((x5_1).toNat * 4)).off + 1, none⟩ = some (.string ((rd_T58 l1 x5_1).f1)) ∧ w'.cell? ⟨(ad1193.add ((x5_1).toNat * 4)).block, (ad1193.add ((x5_1).toNat * 4)).off + 2, none⟩ = some (.slice A1193_2 ((rd_T58 l1 x5_1).f2).length c1193_2) ∧ w'.cell? ⟨(ad1193.add ((x5_1).toNat * 4)).block, (ad1193.add ((x5_1).toNat * 4)).off + 3, none⟩ = some (.string ((rd_T58 l1 x5_1).f3))) (ds := []) #[false, false, false, false, false, false, false, false, false, false] (by kernel_rfl) rfl rfl ⟨((HB.out.cell (World.block_lt_of_cell? w _ hw1192_0)).trans hw1192_0), ((HB.out.cell (World.block_lt_of_cell? w _ hw1192_1)).trans hw1192_1), ((HB.out.cell (World.block_lt_of_cell? w _ hw1192_2)).trans hw1192_2), ((HB.out.cell (World.block_lt_of_cell? w _ hw1192_3)).trans hw1192_3), ((HB.out.cell (World.block_lt_of_cell? w _ hw1193_0)).trans hw1193_0), ((HB.out.cell (World.block_lt_of_cell? w _ hw1193_1)).trans hw1193_1), ((HB.out.cell (World.block_lt_of_cell? w _ hw1193_2)).trans hw1193_2), ((HB.out.cell (World.block_lt_of_cell? w _ hw1193_3)).trans hw1193_3)⟩ (fun hHeld => ?_); refine with_tabW laws_sameSegments.tab6 laws_sameSegments.bits6 (fun HT_ HW_ => ?_)
  generalize wr.drew = w11 at HB HR1192_2 HR1193_2 hx1192_0 hx1192_1 hx1192_2 hx1192_3 hx1193_0 hx1193_1 hx1193_2 hx1193_3 hHeld ⊢
  refine pu_ 0 17 HT_ ?_
  refine pu_ 1 18 HT_ ?_
  refine pu_ 2 19 HT_ ?_
  refine pu_ 4 21 HT_ ?_
  refine pu_ 5 22 HT_ ?_
  refine pu_ 6 23 HT_ ?_
  refine ta_ 3 20 HT_ HW_ hHeld ?_ (r := by rintro w' ⟨s0, s1, s2, s3, s4, s5, s6, s7⟩; go_simp; with_reducible rfl)
  refine ta_ 7 24 HT_ HW_ hHeld ?_ (r := by rintro w' ⟨s0, s1, s2, s3, s4, s5, s6, s7⟩; go_simp; with_reducible rfl)
  refine on_ 8 25 HT_ (fun K hK => ?_)
  refine goes_ Tryd.func54 (by kernel_rfl) rfl #[.agg #[.int .i64 ((rd_T58 l0 x5_1).f0), .string ((rd_T58 l0 x5_1).f1), .slice A1192_2 ((rd_T58 l0 x5_1).f2).length c1192_2, .string ((rd_T58 l0 x5_1).f3)], .agg #[.int .i64 ((rd_T58 l1 x5_1).f0), .string ((rd_T58 l1 x5_1).f1), .slice A1193_2 ((rd_T58 l1 x5_1).f2).length c1193_2, .string ((rd_T58 l1 x5_1).f3)]] (by rfl) rfl rfl lm_ ?_
  with_reducible refine (laws_sameSegment.calls k1 ((rd_T58 l0 x5_1).f0) ((rd_T58 l0 x5_1).f1) _ _ ((rd_T58 l0 x5_1).f2) ((rd_T58 l0 x5_1).f3) ((rd_T58 l1 x5_1).f0) ((rd_T58 l1 x5_1).f1) _ _ ((rd_T58 l1 x5_1).f2) ((rd_T58 l1 x5_1).f3) false _ ?side1 ?side2 ?side3 ?side4 A7.out).mono ?_
  (case side1 => exact cb_ HR1192_2.out HB.out)
  (case side2 => exact HC1192_2.out)
  (case side3 => exact cb_ HR1193_2.out HB.out)
  (case side4 => exact HC1193_2.out)
  rintro e w12 ⟨rfl, hb⟩
  refine ⟨_, rfl, ?_⟩
  have n0_ := Aside0.mk (below_step bl_ hb)
  clear HB
  have HB := n0_
  clear n0_
  (try clear hb)
  (try clear hb2)
  (try clear hk)
  (try clear hi)
  refine hK.out _ _ ⟨((HB.out.cell (World.block_lt_of_cell? w _ hw1192_0)).trans hw1192_0), ((HB.out.cell (World.block_lt_of_cell? w _ hw1192_1)).trans hw1192_1), ((HB.out.cell (World.block_lt_of_cell? w _ hw1192_2)).trans hw1192_2), ((HB.out.cell (World.block_lt_of_cell? w _ hw1192_3)).trans hw1192_3), ((HB.out.cell (World.block_lt_of_cell? w _ hw1193_0)).trans hw1193_0), ((HB.out.cell (World.block_lt_of_cell? w _ hw1193_1)).trans hw1193_1), ((HB.out.cell (World.block_lt_of_cell? w _ hw1193_2)).trans hw1193_2), ((HB.out.cell (World.block_lt_of_cell? w _ hw1193_3)).trans hw1193_3)⟩ (fun hHeld => ?_)
  clear hK K
  refine norm_ (a' := ?_) ?_ ?_
  rotate_left
  ·show Act.put _ (some 25) _ = _
   simp only [Act.put, List.setIfInBounds_toArray, List.set_cons_zero, List.set_cons_succ, i64_w, i32_w]
   rfl
  refine pu_ 9 26 HT_ ?_
  refine done_ (done_of HT_.out (by kernel_rfl)) ?_
  try go_wp2
  go_ret
  exact ⟨er_, bl_⟩
 subst c8
 rw [if_pos rfl] at H
 have H' := Aside0.mk H
 clear H
 try go_wp2
 have n0_ := Aside0.mk (below_drew1 HB.out)
 clear HB
 have HB := n0_
 clear n0_
 have p1192 : 0 ≤ (x5_1 : Int) := of_decide_eq_true as_
 have q1192 : x5_1 < (l0.length : Int) := of_decide_eq_true as_
 obtain ⟨ad1192, A1192_2, c1192_2, e1192, hx1192_0, hx1192_1, hx1192_2, hx1192_3, hl1192_2, hi1192_2⟩ := at_T58 HR0.out x5_1 p1192 q1192
 have hw1192_3 := hx1192_3
 have hw1192_2 := hx1192_2
 have hw1192_1 := hx1192_1
 have hw1192_0 := hx1192_0
 cases e1192
 replace hx1192_0 := (HB.out.cell (World.block_lt_of_cell? w _ hx1192_0)).trans hx1192_0
 replace hx1192_1 := (HB.out.cell (World.block_lt_of_cell? w _ hx1192_1)).trans hx1192_1
 replace hx1192_2 := (HB.out.cell (World.block_lt_of_cell? w _ hx1192_2)).trans hx1192_2
 replace hx1192_3 := (HB.out.cell (World.block_lt_of_cell? w _ hx1192_3)).trans hx1192_3
 have HR1192_2 := Aside0.mk hi1192_2
 have HC1192_2 := Aside0.mk hl1192_2
 clear hi1192_2 hl1192_2
 replace p1192 := eq_true p1192
 replace q1192 := eq_true q1192
 have p1193 : 0 ≤ (x5_1 : Int) := of_decide_eq_true as_
 have q1193 : x5_1 < (l1.length : Int) := of_decide_eq_true as_
 obtain ⟨ad1193, A1193_2, c1193_2, e1193, hx1193_0, hx1193_1, hx1193_2, hx1193_3, hl1193_2, hi1193_2⟩ := at_T58 HR1.out x5_1 p1193 q1193
 have hw1193_3 := hx1193_3
 have hw1193_2 := hx1193_2
 have hw1193_1 := hx1193_1
 have hw1193_0 := hx1193_0
 cases e1193
 replace hx1193_0 := (HB.out.cell (World.block_lt_of_cell? w _ hx1193_0)).trans hx1193_0
 replace hx1193_1 := (HB.out.cell (World.block_lt_of_cell? w _ hx1193_1)).trans hx1193_1
 replace hx1193_2 := (HB.out.cell (World.block_lt_of_cell? w _ hx1193_2)).trans hx1193_2
 replace hx1193_3 := (HB.out.cell (World.block_lt_of_cell? w _ hx1193_3)).trans hx1193_3
 have HR1193_2 := Aside0.mk hi1193_2
 have HC1193_2 := Aside0.mk hl1193_2
 clear hi1193_2 hl1193_2
 replace p1193 := eq_true p1193
 replace q1193 := eq_true q1193
 refine start_ (n := 10) (S := fun w' => w'.cell? (ad1192.add ((x5_1).toNat * 4)) = some (.int .i64 ((rd_T58 l0 x5_1).f0)) ∧ w'.cell? ⟨(ad1192.add ((x5_1).toNat * 4)).block, (ad1192.add ((x5_1).toNat * 4)).off + 1, none⟩ = some (.string ((rd_T58 l0 x5_1).f1)) ∧ w'.cell? ⟨(ad1192.add ((x5_1).toNat * 4)).block, (ad1192.add ((x5_1).toNat * 4)).off + 2, none⟩ = some (.slice A1192_2 ((rd_T58 l0 x5_1).f2).length c1192_2) ∧ w'.cell? ⟨(ad1192.add ((x5_1).toNat * 4)).block, (ad1192.add ((x5_1).toNat * 4)).off + 3, none⟩ = some (.string ((rd_T58 l0 x5_1).f3)) ∧ w'.cell? (ad1193.add ((x5_1).toNat * 4)) = some (.int .i64 ((rd_T58 l1 x5_1).f0)) ∧ w'.cell? ⟨(ad1193.add ((x5_1).toNat * 4)).block, (ad1193.add ((x5_1).toNat * 4)).off + 1, none⟩ = some (.string ((rd_T58 l1 x5_1).f1)) ∧ w'.cell? ⟨(ad1193.add ((x5_1).toNat * 4)).block, (ad1193.add ((x5_1).toNat * 4)).off + 2, none⟩ = some (.slice A1193_2 ((rd_T58 l1 x5_1).f2).length c1193_2) ∧ w'.cell? ⟨(ad1193.add ((x5_1).toNat * 4)).block, (ad1193.add ((x5_1).toNat * 4)).off + 3, none⟩ = some (.string ((rd_T58 l1 x5_1).f3))) (ds := []) #[false, false, false, false, false, false, false, false, false, false] (by kernel_rfl) rfl rfl ⟨((HB.out.cell (World.block_lt_of_cell? w _ hw1192_0)).trans hw1192_0), ((HB.out.cell (World.block_lt_of_cell? w _ hw1192_1)).trans hw1192_1), ((HB.out.cell (World.block_lt_of_cell? w _ hw1192_2)).trans hw1192_2), ((HB.out.cell (World.block_lt_of_cell? w _ hw1192_3)).trans hw1192_3), ((HB.out.cell (World.block_lt_of_cell? w _ hw1193_0)).trans hw1193_0), ((HB.out.cell (World.block_lt_of_cell? w _ hw1193_1)).trans hw1193_1), ((HB.out.cell (World.block_lt_of_cell? w _ hw1193_2)).trans hw1193_2), ((HB.out.cell (World.block_lt_of_cell? w _ hw1193_3)).trans hw1193_3)⟩ (fun hHeld => ?_); refine with_tabW laws_sameSegments.tab6 laws_sameSegments.bits6 (fun HT_ HW_ => ?_)
 generalize wr.drew = w9 at HB HR1192_2 HR1193_2 hx1192_0 hx1192_1 hx1192_2 hx1192_3 hx1193_0 hx1193_1 hx1193_2 hx1193_3 hHeld ⊢
 refine pu_ 0 17 HT_ ?_
 refine pu_ 1 18 HT_ ?_
 refine pu_ 2 19 HT_ ?_
 refine pu_ 4 21 HT_ ?_
 refine pu_ 5 22 HT_ ?_
 refine pu_ 6 23 HT_ ?_
 refine ta_ 3 20 HT_ HW_ hHeld ?_ (r := by rintro w' ⟨s0, s1, s2, s3, s4, s5, s6, s7⟩; go_simp; with_reducible rfl)
 refine ta_ 7 24 HT_ HW_ hHeld ?_ (r := by rintro w' ⟨s0, s1, s2, s3, s4, s5, s6, s7⟩; go_simp; with_reducible rfl)
 refine on_ 8 25 HT_ (fun K hK => ?_)
 refine goes_ Tryd.func54 (by kernel_rfl) rfl #[.agg #[.int .i64 ((rd_T58 l0 x5_1).f0), .string ((rd_T58 l0 x5_1).f1), .slice A1192_2 ((rd_T58 l0 x5_1).f2).length c1192_2, .string ((rd_T58 l0 x5_1).f3)], .agg #[.int .i64 ((rd_T58 l1 x5_1).f0), .string ((rd_T58 l1 x5_1).f1), .slice A1193_2 ((rd_T58 l1 x5_1).f2).length c1193_2, .string ((rd_T58 l1 x5_1).f3)]] (by rfl) rfl rfl lm_ ?_
 with_reducible refine (laws_sameSegment.calls k1 ((rd_T58 l0 x5_1).f0) ((rd_T58 l0 x5_1).f1) _ _ ((rd_T58 l0 x5_1).f2) ((rd_T58 l0 x5_1).f3) ((rd_T58 l1 x5_1).f0) ((rd_T58 l1 x5_1).f1) _ _ ((rd_T58 l1 x5_1).f2) ((rd_T58 l1 x5_1).f3) true _ ?side1 ?side2 ?side3 ?side4 A7.out).mono ?_
 (case side1 => exact cb_ HR1192_2.out HB.out)
 (case side2 => exact HC1192_2.out)
 (case side3 => exact cb_ HR1193_2.out HB.out)
 (case side4 => exact HC1193_2.out)
 rintro e w10 ⟨rfl, hb⟩
 refine ⟨_, rfl, ?_⟩
 have n0_ := Aside0.mk (below_step bl_ hb)
 clear HB
 have HB := n0_
 clear n0_
 (try clear hb)
 (try clear hb2)
 (try clear hk)
 (try clear hi)
 refine hK.out _ _ ⟨((HB.out.cell (World.block_lt_of_cell? w _ hw1192_0)).trans hw1192_0), ((HB.out.cell (World.block_lt_of_cell? w _ hw1192_1)).trans hw1192_1), ((HB.out.cell (World.block_lt_of_cell? w _ hw1192_2)).trans hw1192_2), ((HB.out.cell (World.block_lt_of_cell? w _ hw1192_3)).trans hw1192_3), ((HB.out.cell (World.block_lt_of_cell? w _ hw1193_0)).trans hw1193_0), ((HB.out.cell (World.block_lt_of_cell? w _ hw1193_1)).trans hw1193_1), ((HB.out.cell (World.block_lt_of_cell? w _ hw1193_2)).trans hw1193_2), ((HB.out.cell (World.block_lt_of_cell? w _ hw1193_3)).trans hw1193_3)⟩ (fun hHeld => ?_)
 clear hK K
 refine norm_ (a' := ?_) ?_ ?_
 rotate_left
 ·show Act.put _ (some 25) _ = _
  simp only [Act.put, List.setIfInBounds_toArray, List.set_cons_zero, List.set_cons_succ, i64_w, i32_w]
  rfl
 refine pu_ 9 26 HT_ ?_
 refine done_ (done_of HT_.out (by kernel_rfl)) ?_
 try go_wp2
 go_roundg k1
 case measure => have := HK1.out; omega
 case rel => exact ⟨(wrap64 (x5_1 + 1)), (sr_), H', ⟨by have := HK1.out; omega⟩, ⟨bl_⟩⟩

end Go.Proofs.YtdlapahfmfhbjaaDoor.PA
