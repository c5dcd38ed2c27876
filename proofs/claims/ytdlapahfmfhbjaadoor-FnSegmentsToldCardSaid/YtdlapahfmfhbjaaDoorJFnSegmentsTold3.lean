/- Contracts of functions of the program and of the reference, and plain lemmas on what they compute: a part of the proof of the law FnSegmentsTold. No condition. -/
import Derived.Test.YtdlapahfmfhbjaaDoorG523dfx0
import Derived.Test.YtdlapahfmfhbjaaDoorG523dfx1
import Derived.Test.YtdlapahfmfhbjaaDoorGe902ex0
import Derived.Test.YtdlapahfmfhbjaaDoorJFnSegmentsTold2
import Derived.Test.YtdlapahfmfhbjaaDoorG523dfx2
import Derived.Test.YtdlapahfmfhbjaaDoorJFnSegmentsTold1
import Derived.Test.YtdlapahfmfhbjaaDoorGe902ex1
import Derived.Test.YtdlapahfmfhbjaaDoorShortV
set_option maxHeartbeats 8000000
set_option maxRecDepth 100000
namespace Go.Proofs.YtdlapahfmfhbjaaDoor.PA
open Go.RowKit Go.Proofs.YtdlapahfmfhbjaaDoor.Short Go.Proofs.YtdlapahfmfhbjaaDoorW.PrintWords Go.Proofs.YtdlapahfmfhbjaaDoorW.PrintLast Go.Proofs.YtdlapahfmfhbjaaDoorW.PrintMore
attribute [local go_sem] max2_int min2_int max_two min_two max_three min_three max_four min_four   -- for this text's walks alone
set_option linter.unusedVariables false
set_option linter.unusedSimpArgs false

def impl_SegmentText.j0 : Nat → ByteArray → Bool → Int → ByteArray → List (S27) → ByteArray → Option (ByteArray × Bool)
 | 0, _, _, _, _, _, _ => none
 | k + 1, x4, x27, x1066000, x1066001, x1066002, x1066003 => if x27 = true then (some ((⟨#[]⟩ : ByteArray), false)) else ((impl_VarText.f k x1066000).bind fun bt1069 => ((impl_ShortText.f k x4).bind fun bt1071 => (if bt1069.1.size + x1066001.size ≤ 9223372036854775807 then (if (bt1069.1 ++ x1066001).size + bt1071.1.size ≤ 9223372036854775807 then ((impl_Sealed.f k ((bt1069.1 ++ x1066001) ++ bt1071.1)).bind fun bt1073 => (some (bt1073.1, bt1073.2))) else (none)) else (none))))
def impl_SegmentText.f (k : Nat) (a0_0 : Int) (a0_1 : ByteArray) (l0_2 : List (S27)) (a0_3 : ByteArray) : Option (ByteArray × Bool) := (impl_LogText.f k l0_2).bind fun bt1066 => ((impl_SegmentOk.f k a0_0 a0_1 l0_2 a0_3).bind fun t1068 => (if t1068 = true then (if bt1066.2 = true then (impl_SegmentText.j0 k bt1066.1 (decide ((bt1066.1.size : Int) > 15000)) a0_0 a0_1 l0_2 a0_3) else (impl_SegmentText.j0 k bt1066.1 true a0_0 a0_1 l0_2 a0_3)) else (impl_SegmentText.j0 k bt1066.1 true a0_0 a0_1 l0_2 a0_3)))
theorem impl_SegmentText.mono_l : ∀ k, (∀ y0 y1 y2 y3 y4 y5, LeO (impl_SegmentText.j0 k y0 y1 y2 y3 y4 y5) (impl_SegmentText.j0 (k + 1) y0 y1 y2 y3 y4 y5))
 | 0 => fun _ _ _ _ _ _ r h => by simp [impl_SegmentText.j0] at h
 | k + 1 => by
  have ih0 := impl_SegmentText.mono_l k
  ·intro y0 y1 y2 y3 y4 y5
   unfold impl_SegmentText.j0
   have m0 := @impl_LogText.mono
   have m1 := @impl_Sealed.mono
   have m2 := @impl_SegmentOk.mono
   have m3 := @impl_ShortText.mono
   have m4 := @impl_VarText.mono
   exact mo_
theorem impl_SegmentText.mono : ∀ a0 a1 a2 a3 k, LeO (impl_SegmentText.f k a0 a1 a2 a3) (impl_SegmentText.f (k + 1) a0 a1 a2 a3) := by
 intro a0 a1 a2 a3 k
 have ih0 := impl_SegmentText.mono_l k
 unfold impl_SegmentText.f
 have m0 := @impl_LogText.mono
 have m1 := @impl_Sealed.mono
 have m2 := @impl_SegmentOk.mono
 have m3 := @impl_ShortText.mono
 have m4 := @impl_VarText.mono
 exact mo_
theorem impl_SegmentText.calls (k : Nat) (a0_0 : Int) (a0_1 : ByteArray) (A0_2 : Option Addr) (c0_2 : Nat) (l0_2 : List (S27)) (a0_3 : ByteArray) (r1 : ByteArray) (r2 : Bool) (w : World) (hr0_2 : Kd.C k27 w A0_2 l0_2.length l0_2) (hc0_2 : l0_2.length ≤ c0_2) (hT : Tab w) (h : impl_SegmentText.f k a0_0 a0_1 l0_2 a0_3 = some (r1, r2)) :
 Calls Tryd.prog 43 #[.agg #[.int .i64 a0_0, .string a0_1, .slice A0_2 l0_2.length c0_2, .string a0_3]] w fun e w' => e = .returned (.tuple #[.string r1, .bool r2]) ∧ Below w.heap.size w w' := by
 have hu58 := Tryd.underlying58
 have HR0_2 := Aside0.mk hr0_2
 have HC0_2 := Aside0.mk hc0_2
 clear hr0_2 hc0_2
 have HT := Aside0.mk hT
 clear hT
 have HB := Aside0.mk (Below.refl w.heap.size w)
 have H := h
 unfold impl_SegmentText.f at H
 clear h
 replace H := bs_ H
 obtain ⟨⟨t1066, t1067⟩, A2, H⟩ := H
 try dsimp only at H
 have HC3 := Aside0.mk H
 clear H
 go_enter Tryd.func43, Tryd.ntmps43
 go_upto_region 2 with (first | ((with_reducible refine gate_dst (N := 1) rfl ?_); (try (refine gate_guard (by rfl) ?_; dsimp only)); refine bx_ 1 58 #[.int .i64 a0_0, .string a0_1, .slice A0_2 l0_2.length c0_2, .string a0_3] ?_; intro gb1065 hg w4 hbox hb; have BK1065 := Aside0.mk (hbox); have GW1065 := Aside0.mk ((hz_ : w.heap.size ≤ gb1065)); have GE1065 := Aside0.mk ((hz_ : w.heap.size ≤ gb1065)); replace HB := Aside0.mk (below_step bl_ hb); clear hb hbox hg; obtain ⟨hcz5_0, hcz5_1, hcz5_2, hcz5_3, hfz5_0, hfz5_1, hfz5_2, hfz5_3⟩ := cf4_ BK1065.out) | ((with_reducible refine gate_callee (f := 25) rfl ?_); refine gs_ (some 13) Tryd.func25 #[.slice A0_2 l0_2.length c0_2] ?_; (with_reducible refine (impl_LogText.calls k _ _ l0_2 t1066 t1067 _ ?side1 ?side2 A2.out).mono ?_); (case side1 => exact cb_ HR0_2.out HB.out); (case side2 => exact HC0_2.out); rintro e w6 ⟨rfl, hb⟩; refine ⟨_, rfl, ?_⟩; replace BK1065 := Aside0.mk (blk_below (bn0_ BK1065.out) hb); replace HB := Aside0.mk (below_step bl_ hb); (try clear hb)))
 (try simp only [Act.put, List.setIfInBounds_toArray, List.set_cons_zero, List.set_cons_succ])
 go_cut [27] (fun v27 wc => ∃ (kq : Nat) (x27_2 : Bool), v27 = .bool x27_2 ∧ Aside0 (impl_SegmentText.j0 kq t1066 x27_2 a0_0 a0_1 l0_2 a0_3 = some (r1, r2)) ∧ Aside0 (kq ≤ k) ∧ Aside0 (wc.heap[gb1065]? = some (.cells #[.int .i64 a0_0, .string a0_1, (.slice A0_2 l0_2.length c0_2), .string a0_3] 58 (0, 0))) ∧ Aside0 (Below w.heap.size w wc))
 case first =>
  have H := HC3.out
  clear HC3
  replace H := bs_ H
  obtain ⟨t1068, A7, H⟩ := H
  try dsimp only at H
  by_cases c8 : t1068 = true
  rotate_left
  ·replace c8 := Bool.eq_false_iff.mpr c8
   subst c8
   rw [nf_] at H
   have H' := Aside0.mk H
   clear H
   obtain ⟨hcz14_0, hcz14_1, hcz14_2, hcz14_3, hfz14_0, hfz14_1, hfz14_2, hfz14_3⟩ := cf4_ BK1065.out
   go_wp2_with (first | ((with_reducible refine gate_callee (f := 55) rfl ?_); refine gs_ (some 17) Tryd.func55 #[.agg #[.int .i64 a0_0, .string a0_1, .slice A0_2 l0_2.length c0_2, .string a0_3]] ?_; (with_reducible refine (impl_SegmentOk.calls k a0_0 a0_1 _ _ l0_2 a0_3 false _ ?side1 ?side2 ?side3 A7.out).mono ?_); (case side1 => exact cb_ HR0_2.out HB.out); (case side2 => exact HC0_2.out); (case side3 => exact tab_of HT.out bl_); rintro e w15 ⟨rfl, hb⟩; refine ⟨_, rfl, ?_⟩; replace BK1065 := Aside0.mk (blk_below (bn0_ BK1065.out) hb); replace HB := Aside0.mk (below_step bl_ hb); (try clear hb)))
   go_meet
   case rel => exact ⟨_, (true), (sr_), H', ⟨by first | omega | exact Nat.le_refl _⟩, ⟨bk_ BK1065.out⟩, ⟨bl_⟩⟩
  subst c8
  rw [if_pos rfl] at H
  by_cases c9 : t1067 = true
  ·subst c9
   rw [if_pos rfl] at H
   have H' := Aside0.mk H
   clear H
   obtain ⟨hcz10_0, hcz10_1, hcz10_2, hcz10_3, hfz10_0, hfz10_1, hfz10_2, hfz10_3⟩ := cf4_ BK1065.out
   go_wp2_with (first | ((with_reducible refine gate_callee (f := 55) rfl ?_); refine gs_ (some 17) Tryd.func55 #[.agg #[.int .i64 a0_0, .string a0_1, .slice A0_2 l0_2.length c0_2, .string a0_3]] ?_; (with_reducible refine (impl_SegmentOk.calls k a0_0 a0_1 _ _ l0_2 a0_3 true _ ?side1 ?side2 ?side3 A7.out).mono ?_); (case side1 => exact cb_ HR0_2.out HB.out); (case side2 => exact HC0_2.out); (case side3 => exact tab_of HT.out bl_); rintro e w11 ⟨rfl, hb⟩; refine ⟨_, rfl, ?_⟩; replace BK1065 := Aside0.mk (blk_below (bn0_ BK1065.out) hb); replace HB := Aside0.mk (below_step bl_ hb); (try clear hb)))
   go_meet
   case rel => exact ⟨_, (decide ((t1066.size : Int) > 15000)), (sr_), H', ⟨by first | omega | exact Nat.le_refl _⟩, ⟨bk_ BK1065.out⟩, ⟨bl_⟩⟩
  replace c9 := Bool.eq_false_iff.mpr c9
  subst c9
  rw [nf_] at H
  have H' := Aside0.mk H
  clear H
  obtain ⟨hcz12_0, hcz12_1, hcz12_2, hcz12_3, hfz12_0, hfz12_1, hfz12_2, hfz12_3⟩ := cf4_ BK1065.out
  go_wp2_with (first | ((with_reducible refine gate_callee (f := 55) rfl ?_); refine gs_ (some 17) Tryd.func55 #[.agg #[.int .i64 a0_0, .string a0_1, .slice A0_2 l0_2.length c0_2, .string a0_3]] ?_; (with_reducible refine (impl_SegmentOk.calls k a0_0 a0_1 _ _ l0_2 a0_3 true _ ?side1 ?side2 ?side3 A7.out).mono ?_); (case side1 => exact cb_ HR0_2.out HB.out); (case side2 => exact HC0_2.out); (case side3 => exact tab_of HT.out bl_); rintro e w13 ⟨rfl, hb⟩; refine ⟨_, rfl, ?_⟩; replace BK1065 := Aside0.mk (blk_below (bn0_ BK1065.out) hb); replace HB := Aside0.mk (below_step bl_ hb); (try clear hb)))
  go_meet
  case rel => exact ⟨_, (true), (sr_), H', ⟨by first | omega | exact Nat.le_refl _⟩, ⟨bk_ BK1065.out⟩, ⟨bl_⟩⟩
 clear HC3
 try clear hcz5_0
 try clear hcz5_1
 try clear hcz5_2
 try clear hcz5_3
 try clear hfz5_0
 try clear hfz5_1
 try clear hfz5_2
 try clear hfz5_3
 obtain ⟨kq, x27_2, rfl, HA, HJ2, BK1065, HB⟩ := hcut
 cases kq with
 | zero => exact absurd HA.out (by simp [impl_SegmentText.j0])
 | succ kj2 => ?_
 have H := HA.out
 clear HA
 simp only [impl_SegmentText.j0] at H
 by_cases c16 : x27_2 = true
 ·subst c16
  rw [if_pos rfl] at H
  simp only [Option.some.injEq, Prod.mk.injEq] at H
  obtain ⟨rfl, rfl⟩ := H
  go_wp2
  go_ret2
  exact ⟨er_, bl_⟩
 replace c16 := Bool.eq_false_iff.mpr c16
 subst c16
 rw [nf_] at H
 replace H := bs_ H
 obtain ⟨⟨t1069, t1070⟩, A17, H⟩ := H
 try dsimp only at H
 replace H := bs_ H
 obtain ⟨⟨t1071, t1072⟩, A18, H⟩ := H
 try dsimp only at H
 by_cases c19 : t1069.size + a0_1.size ≤ 9223372036854775807
 rotate_left
 ·exact nn_ c19 H
 rw [if_pos c19] at H
 have c19b0 := eq_true c19
 have c19b1 : decide (t1069.size + a0_1.size ≤ 9223372036854775807) = true := decide_eq_true c19
 try have c19b2 : (9223372036854775807 < t1069.size + a0_1.size) = False := eq_false (Nat.not_lt.2 c19)
 by_cases c20 : (t1069 ++ a0_1).size + t1071.size ≤ 9223372036854775807
 rotate_left
 ·exact nn_ c20 H
 rw [if_pos c20] at H
 have c20b0 := eq_true c20
 have c20b1 : decide ((t1069 ++ a0_1).size + t1071.size ≤ 9223372036854775807) = true := decide_eq_true c20
 try have c20b2 : (9223372036854775807 < (t1069 ++ a0_1).size + t1071.size) = False := eq_false (Nat.not_lt.2 c20)
 try have c20b3 : (9223372036854775807 < t1069.size + a0_1.size + t1071.size) = False := eq_false (by have h_ := c20; (repeat rw [ByteArray.size_append] at h_); exact Nat.not_lt.2 h_)
 replace H := bs_ H
 obtain ⟨⟨t1073, t1074⟩, A21, H⟩ := H
 try dsimp only at H
 simp only [Option.some.injEq, Prod.mk.injEq] at H
 obtain ⟨rfl, rfl⟩ := H
 obtain ⟨hcz22_0, hcz22_1, hcz22_2, hcz22_3, hfz22_0, hfz22_1, hfz22_2, hfz22_3⟩ := cf4_ BK1065.out
 go_wp2_with (first | ((with_reducible refine gate_callee (f := 84) rfl ?_); refine gs_ (some 31) Tryd.func84 #[.int .i64 a0_0] ?_; (with_reducible refine (impl_VarText.calls kj2 a0_0 t1069 t1070 _ A17.out).mono ?_); rintro e w23 ⟨rfl, hb⟩; refine ⟨_, rfl, ?_⟩; replace BK1065 := Aside0.mk (blk_below (bn0_ BK1065.out) hb); replace HB := Aside0.mk (below_step bl_ hb); (try clear hb)) | ((with_reducible refine gate_callee (f := 72) rfl ?_); refine gs_ (some 36) Tryd.func72 #[.string t1066] ?_; (with_reducible refine (impl_ShortText.calls kj2 t1066 t1071 t1072 _ A18.out).mono ?_); rintro e w24 ⟨rfl, hb⟩; refine ⟨_, rfl, ?_⟩; replace BK1065 := Aside0.mk (blk_below (bn0_ BK1065.out) hb); replace HB := Aside0.mk (below_step bl_ hb); (try clear hb); obtain ⟨hcz25_0, hcz25_1, hcz25_2, hcz25_3, hfz25_0, hfz25_1, hfz25_2, hfz25_3⟩ := cf4_ BK1065.out) | ((with_reducible refine gate_callee (f := 85) rfl ?_); refine gs_ (some 45) Tryd.func85 #[.string ((t1069 ++ a0_1) ++ t1071)] ?_; (with_reducible refine (impl_Sealed.calls kj2 ((t1069 ++ a0_1) ++ t1071) t1073 t1074 _ A21.out).mono ?_); rintro e w26 ⟨rfl, hb⟩; refine ⟨_, rfl, ?_⟩; replace BK1065 := Aside0.mk (blk_below (bn0_ BK1065.out) hb); replace HB := Aside0.mk (below_step bl_ hb); (try clear hb)))
 go_ret2
 exact ⟨er_, bl_⟩


mutual
def spec_SegmentOk.j0 : Nat → Bool → Int → ByteArray → List (S27) → ByteArray → Option (Bool)
 | 0, _, _, _, _, _ => none
 | k + 1, x20, x1076000, x1076001, x1076002, x1076003 => if x20 = true then (some false) else (spec_SegmentOk.l0 k 0 x1076000 x1076001 x1076002 x1076003)
def spec_SegmentOk.l0 : Nat → Int → Int → ByteArray → List (S27) → ByteArray → Option (Bool)
 | 0, _, _, _, _, _ => none
 | k + 1, x3, x1076000, x1076001, x1076002, x1076003 => if x3 < (x1076002.length : Int) then (if 0 ≤ x3 then ((spec_EntryText.f k ((rd_T27 x1076002 x3).f0) ((rd_T27 x1076002 x3).f1) ((rd_T27 x1076002 x3).f2.f0) ((rd_T27 x1076002 x3).f2.f1) ((rd_T27 x1076002 x3).f2.f2) ((rd_T27 x1076002 x3).f2.f3)).bind fun t1079 => (if t1079.toList = ([] : List UInt8) then (some false) else (spec_SegmentOk.l0 k (wrap64 (x3 + 1)) x1076000 x1076001 x1076002 x1076003))) else (none)) else ((spec_HeadFrom.f k x1076001 x1076002).bind fun t1080 => (some (x1076003.toList == t1080.toList)))
end
def spec_SegmentOk.f (k : Nat) (a0_0 : Int) (a0_1 : ByteArray) (l0_2 : List (S27)) (a0_3 : ByteArray) : Option (Bool) := (spec_l01In.f a0_0 0 200).bind fun t1076 => (if t1076 = true then (if (a0_1.size : Int) = 32 then ((spec_l01In.f (l0_2.length : Int) 1 200).bind fun t1077 => (spec_SegmentOk.j0 k (!t1077) a0_0 a0_1 l0_2 a0_3)) else (spec_SegmentOk.j0 k true a0_0 a0_1 l0_2 a0_3)) else (spec_SegmentOk.j0 k true a0_0 a0_1 l0_2 a0_3))
theorem spec_SegmentOk.mono_l : ∀ k, (∀ y0 y1 y2 y3 y4, LeO (spec_SegmentOk.j0 k y0 y1 y2 y3 y4) (spec_SegmentOk.j0 (k + 1) y0 y1 y2 y3 y4)) ∧ (∀ y0 y1 y2 y3 y4, LeO (spec_SegmentOk.l0 k y0 y1 y2 y3 y4) (spec_SegmentOk.l0 (k + 1) y0 y1 y2 y3 y4))
 | 0 => ⟨fun _ _ _ _ _ r h => by simp [spec_SegmentOk.j0] at h, fun _ _ _ _ _ r h => by simp [spec_SegmentOk.l0] at h⟩
 | k + 1 => by
  obtain ⟨ih0, ih1⟩ := spec_SegmentOk.mono_l k
  refine ⟨?_, ?_⟩
  ·intro y0 y1 y2 y3 y4
   unfold spec_SegmentOk.j0
   have m0 := @spec_EntryText.mono
   have m1 := @spec_HeadFrom.mono
   exact mo_
  ·intro y0 y1 y2 y3 y4
   unfold spec_SegmentOk.l0
   have m0 := @spec_EntryText.mono
   have m1 := @spec_HeadFrom.mono
   exact mo_
theorem spec_SegmentOk.mono : ∀ a0 a1 a2 a3 k, LeO (spec_SegmentOk.f k a0 a1 a2 a3) (spec_SegmentOk.f (k + 1) a0 a1 a2 a3) := by
 intro a0 a1 a2 a3 k
 obtain ⟨ih0, ih1⟩ := spec_SegmentOk.mono_l k
 unfold spec_SegmentOk.f
 have m0 := @spec_EntryText.mono
 have m1 := @spec_HeadFrom.mono
 exact mo_
def spec_SegmentOk.T8 : Bool × List (List Nat × List Nat) := (true, [([], []), ([0], [0]), ([], []), ([2], [2]), ([], []), ([4], [4]), ([3, 5], [3, 5]), ([1, 6], [1, 6]), ([7, 6, 0, 1, 2, 3, 4, 5, 6, 7], [7])])
def spec_SegmentOk.B8 : List Nat := [0, 1, 0, 4, 0, 16, 60, 127, 255]
theorem spec_SegmentOk.tab8 : rtab .any (opsOf Tryd.f56 8) = spec_SegmentOk.T8 := by kernel_rfl
theorem spec_SegmentOk.bits8 : waitsOk spec_SegmentOk.T8.2 spec_SegmentOk.B8 = true := by kernel_rfl
theorem spec_SegmentOk.calls (k : Nat) (a0_0 : Int) (a0_1 : ByteArray) (A0_2 : Option Addr) (c0_2 : Nat) (l0_2 : List (S27)) (a0_3 : ByteArray) (r : Bool) (w : World) (hr0_2 : Kd.C k27 w A0_2 l0_2.length l0_2) (hc0_2 : l0_2.length ≤ c0_2) (h : spec_SegmentOk.f k a0_0 a0_1 l0_2 a0_3 = some r) :
 Calls Tryd.prog 56 #[.agg #[.int .i64 a0_0, .string a0_1, .slice A0_2 l0_2.length c0_2, .string a0_3]] w fun e w' => e = .returned (.bool r) ∧ Below w.heap.size w w' := by
 have hu58 := Tryd.underlying58
 have hu27 := Tryd.underlying27
 have HR0_2 := Aside0.mk hr0_2
 have HC0_2 := Aside0.mk hc0_2
 clear hr0_2 hc0_2
 have HB := Aside0.mk (Below.refl w.heap.size w)
 have H := h
 unfold spec_SegmentOk.f at H
 clear h
 have HC2 := Aside0.mk H
 clear H
 go_enter Tryd.func56, Tryd.ntmps56
 go_upto_region 1 with (first | ((with_reducible refine gate_dst (N := 1) rfl ?_); (try (refine gate_guard (by rfl) ?_; dsimp only)); refine bx_ 1 58 #[.int .i64 a0_0, .string a0_1, .slice A0_2 l0_2.length c0_2, .string a0_3] ?_; intro gb1075 hg w3 hbox hb; have BK1075 := Aside0.mk (hbox); have GW1075 := Aside0.mk ((hz_ : w.heap.size ≤ gb1075)); have GE1075 := Aside0.mk ((hz_ : w.heap.size ≤ gb1075)); replace HB := Aside0.mk (below_step bl_ hb); clear hb hbox hg))
 (try simp only [Act.put, List.setIfInBounds_toArray, List.set_cons_zero, List.set_cons_succ])
 go_cut [20] (fun v20 wc => ∃ (kq : Nat) (x20_1 : Bool), v20 = .bool x20_1 ∧ Aside0 (spec_SegmentOk.j0 kq x20_1 a0_0 a0_1 l0_2 a0_3 = some r) ∧ Aside0 (kq ≤ k) ∧ Aside0 (wc.heap[gb1075]? = some (.cells #[.int .i64 a0_0, .string a0_1, (.slice A0_2 l0_2.length c0_2), .string a0_3] 58 (0, 0))) ∧ Aside0 (Below w.heap.size w wc))
 case first =>
  have H := HC2.out
  clear HC2
  replace H := bs_ H
  obtain ⟨t1076, A4, H⟩ := H
  try dsimp only at H
  by_cases c5 : t1076 = true
  rotate_left
  ·replace c5 := Bool.eq_false_iff.mpr c5
   subst c5
   rw [nf_] at H
   have H' := Aside0.mk H
   clear H
   obtain ⟨hcz10_0, hcz10_1, hcz10_2, hcz10_3, hfz10_0, hfz10_1, hfz10_2, hfz10_3⟩ := cf4_ BK1075.out
   go_wp2_with (first | ((with_reducible refine gate_callee (f := 62) rfl ?_); refine gs_ (some 6) Tryd.func62 #[.int .i64 a0_0, .int .i64 0, .int .i64 200] ?_; (with_reducible refine (spec_l01In.calls a0_0 0 200 false _ A4.out).mono ?_); rintro e w' ⟨rfl, ⟨nd, rfl⟩⟩; refine ⟨_, rfl, ?_⟩))
   go_meet
   case rel => exact ⟨_, (true), (sr_), H', ⟨by first | omega | exact Nat.le_refl _⟩, ⟨bk_ BK1075.out⟩, ⟨bl_⟩⟩
  subst c5
  rw [if_pos rfl] at H
  by_cases c6 : (a0_1.size : Int) = 32
  rotate_left
  ·rw [if_neg c6] at H
   have c6b0 : ((a0_1.size : Int) == 32) = false := beq_eq_false_iff_ne.mpr c6
   have c6b1 : ((a0_1.size : Int) != 32) = true := bne_iff_ne.mpr c6
   (first | rw [c6b0] | (simp only [i64_w, i32_w]; rw [c6b0]) | skip)
   have H' := Aside0.mk H
   clear H
   obtain ⟨hcz9_0, hcz9_1, hcz9_2, hcz9_3, hfz9_0, hfz9_1, hfz9_2, hfz9_3⟩ := cf4_ BK1075.out
   go_wp2_with (first | ((with_reducible refine gate_callee (f := 62) rfl ?_); refine gs_ (some 6) Tryd.func62 #[.int .i64 a0_0, .int .i64 0, .int .i64 200] ?_; (with_reducible refine (spec_l01In.calls a0_0 0 200 true _ A4.out).mono ?_); rintro e w' ⟨rfl, ⟨nd, rfl⟩⟩; refine ⟨_, rfl, ?_⟩))
   go_meet
   case rel => exact ⟨_, (true), (sr_), H', ⟨by first | omega | exact Nat.le_refl _⟩, ⟨bk_ BK1075.out⟩, ⟨bl_⟩⟩
  rw [if_pos c6] at H
  have c6b0 : ((a0_1.size : Int) == 32) = true := beq_iff_eq.mpr c6
  have c6b1 : ((a0_1.size : Int) != 32) = false := bne_eq_false_iff_eq.mpr c6
  clear c6
  (first | rw [c6b0] | (simp only [i64_w, i32_w]; rw [c6b0]) | skip)
  replace H := bs_ H
  obtain ⟨t1077, A7, H⟩ := H
  try dsimp only at H
  have H' := Aside0.mk H
  clear H
  obtain ⟨hcz8_0, hcz8_1, hcz8_2, hcz8_3, hfz8_0, hfz8_1, hfz8_2, hfz8_3⟩ := cf4_ BK1075.out
  go_wp2_with (first | ((with_reducible refine gate_callee (f := 62) rfl ?_); refine gs_ (some 6) Tryd.func62 #[.int .i64 a0_0, .int .i64 0, .int .i64 200] ?_; (with_reducible refine (spec_l01In.calls a0_0 0 200 true _ A4.out).mono ?_); rintro e w' ⟨rfl, ⟨nd, rfl⟩⟩; refine ⟨_, rfl, ?_⟩) | (go_at_call 62; (with_reducible refine (spec_l01In.calls (l0_2.length : Int) 1 200 t1077 _ A7.out).mono ?_); rintro e w' ⟨rfl, ⟨nd, rfl⟩⟩))
  go_meet
  case rel => exact ⟨_, (!t1077), (sr_), H', ⟨by first | omega | exact Nat.le_refl _⟩, ⟨bk_ BK1075.out⟩, ⟨bl_⟩⟩
 clear HC2
 obtain ⟨kq, x20_1, rfl, HA, HJ1, BK1075, HB⟩ := hcut
 cases kq with
 | zero => exact absurd HA.out (by simp [spec_SegmentOk.j0])
 | succ kj1 => ?_
 have H := HA.out
 clear HA
 simp only [spec_SegmentOk.j0] at H
 by_cases c11 : x20_1 = true
 ·subst c11
  rw [if_pos rfl] at H
  obtain rfl := Option.some.inj H
  go_wp2
  go_ret
  exact ⟨er_, bl_⟩
 replace c11 := Bool.eq_false_iff.mpr c11
 subst c11
 rw [nf_] at H
 have H' := Aside0.mk H
 clear H
 go_wp2
 go_loopg [3] kj1 (fun kq v3 w' => ∃ (x3_2 : Int), v3 = .int .i64 x3_2 ∧ Aside0 (spec_SegmentOk.l0 kq x3_2 a0_0 a0_1 l0_2 a0_3 = some r) ∧ Aside0 (kq ≤ kj1) ∧ Aside0 (w'.heap[gb1075]? = some (.cells #[.int .i64 a0_0, .string a0_1, (.slice A0_2 l0_2.length c0_2), .string a0_3] 58 (0, 0))) ∧ Aside0 (Below w.heap.size w w'))
 case atStart => exact ⟨(0), (sr_), H', ⟨Nat.le_refl _⟩, ⟨bk_ BK1075.out⟩, ⟨bl_⟩⟩
 clear H'
 try clear c11
 obtain ⟨x3_2, rfl, HA, HK2, BK1075, HB⟩ := hrel
 cases gk with
 | zero => exact absurd HA.out (by simp [spec_SegmentOk.l0])
 | succ k2 => ?_
 have H := HA.out
 clear HA
 simp only [spec_SegmentOk.l0] at H
 by_cases c12 : x3_2 < (l0_2.length : Int)
 rotate_left
 ·rw [if_neg c12] at H
  have c12b0 := decide_eq_false c12
  clear c12
  replace H := bs_ H
  obtain ⟨t1080, A20, H⟩ := H
  try dsimp only at H
  obtain rfl := Option.some.inj H
  obtain ⟨hcz21_0, hcz21_1, hcz21_2, hcz21_3, hfz21_0, hfz21_1, hfz21_2, hfz21_3⟩ := cf4_ BK1075.out
  try go_wp2
  have n0_ := Aside0.mk (blk_drew BK1075.out)
  have n1_ := Aside0.mk (below_drew1 HB.out)
  clear BK1075
  clear HB
  have BK1075 := n0_
  have HB := n1_
  clear n0_ n1_
  refine start_ (n := 9) (S := fun w' => w'.cell? ⟨gb1075, 0, none⟩ = some (.int .i64 a0_0) ∧ w'.cell? ⟨gb1075, 1, none⟩ = some (.string a0_1) ∧ w'.cell? ⟨gb1075, 2, none⟩ = some (.slice A0_2 l0_2.length c0_2) ∧ w'.cell? ⟨gb1075, 3, none⟩ = some (.string a0_3)) (ds := []) #[false, false, false, false, false, false, false, false, false] (by kernel_rfl) rfl rfl ⟨(blk_cell BK1075.out 0).trans rfl, (blk_cell BK1075.out 1).trans rfl, (blk_cell BK1075.out 2).trans rfl, (blk_cell BK1075.out 3).trans rfl⟩ (fun hHeld => ?_); refine with_tabW spec_SegmentOk.tab8 spec_SegmentOk.bits8 (fun HT_ HW_ => ?_)
  generalize wr.drew = w22 at BK1075 HB hHeld ⊢
  refine pu_ 0 35 HT_ ?_
  refine pu_ 2 37 HT_ ?_
  refine pu_ 4 39 HT_ ?_
  refine ta_ 1 36 HT_ HW_ hHeld ?_ (r := by rintro w' ⟨s0, s1, s2, s3⟩; go_simp; with_reducible rfl)
  refine ta_ 3 38 HT_ HW_ hHeld ?_ (r := by rintro w' ⟨s0, s1, s2, s3⟩; go_simp; with_reducible rfl)
  refine ta_ 5 40 HT_ HW_ hHeld ?_ (r := by rintro w' ⟨s0, s1, s2, s3⟩; go_simp; with_reducible rfl)
  refine on_ 6 41 HT_ (fun K hK => ?_)
  refine goes_ Tryd.func52 (by kernel_rfl) rfl #[.string a0_1, .slice A0_2 l0_2.length c0_2] (by rfl) rfl rfl lm_ ?_
  with_reducible refine (spec_HeadFrom.calls k2 a0_1 _ _ l0_2 t1080 _ ?side1 ?side2 A20.out).mono ?_
  (case side1 => exact cb_ HR0_2.out HB.out)
  (case side2 => exact HC0_2.out)
  rintro e w23 ⟨rfl, hb⟩
  refine ⟨_, rfl, ?_⟩
  have n0_ := Aside0.mk (blk_below (bn0_ BK1075.out) hb)
  have n1_ := Aside0.mk (below_step bl_ hb)
  clear BK1075
  clear HB
  have BK1075 := n0_
  have HB := n1_
  clear n0_ n1_
  (try clear hb)
  (try clear hb2)
  (try clear hk)
  (try clear hi)
  refine hK.out _ _ ⟨(blk_cell BK1075.out 0).trans rfl, (blk_cell BK1075.out 1).trans rfl, (blk_cell BK1075.out 2).trans rfl, (blk_cell BK1075.out 3).trans rfl⟩ (fun hHeld => ?_)
  clear hK K
  refine norm_ (a' := ?_) ?_ ?_
  rotate_left
  ·show Act.put _ (some 41) _ = _
   simp only [Act.put, List.setIfInBounds_toArray, List.set_cons_zero, List.set_cons_succ, i64_w, i32_w]
   rfl
  refine pu_ 7 42 HT_ ?_
  refine pu_ 8 2 HT_ ?_
  refine done_ (done_of HT_.out (by kernel_rfl)) ?_
  try go_wp2
  go_ret
  exact ⟨er_, bl_⟩
 rw [if_pos c12] at H
 have c12b0 := decide_eq_true c12
 clear c12
 by_cases c13 : 0 ≤ x3_2
 rotate_left
 ·exact nn_ c13 H
 rw [if_pos c13] at H
 have c13b0 := decide_eq_true c13
 clear c13
 replace H := bs_ H
 obtain ⟨t1079, A14, H⟩ := H
 try dsimp only at H
 by_cases c15 : t1079.toList = ([] : List UInt8)
 ·rw [if_pos c15] at H
  have c15b0 : (t1079.toList == ([] : List UInt8)) = true := beq_iff_eq.mpr c15
  have c15b1 : (t1079.toList != ([] : List UInt8)) = false := bne_eq_false_iff_eq.mpr c15
  clear c15
  obtain rfl := Option.some.inj H
  obtain ⟨hcz16_0, hcz16_1, hcz16_2, hcz16_3, hfz16_0, hfz16_1, hfz16_2, hfz16_3⟩ := cf4_ BK1075.out
  have p1078 : 0 ≤ (x3_2 : Int) := of_decide_eq_true as_
  have q1078 : x3_2 < (l0_2.length : Int) := of_decide_eq_true as_
  obtain ⟨ad1078, e1078, hx1078_0, hx1078_1, hx1078_2, hx1078_3, hx1078_4, hx1078_5⟩ := at_T27 HR0_2.out x3_2 p1078 q1078
  cases e1078
  replace hx1078_0 := (HB.out.cell (World.block_lt_of_cell? w _ hx1078_0)).trans hx1078_0
  replace hx1078_1 := (HB.out.cell (World.block_lt_of_cell? w _ hx1078_1)).trans hx1078_1
  replace hx1078_2 := (HB.out.cell (World.block_lt_of_cell? w _ hx1078_2)).trans hx1078_2
  replace hx1078_3 := (HB.out.cell (World.block_lt_of_cell? w _ hx1078_3)).trans hx1078_3
  replace hx1078_4 := (HB.out.cell (World.block_lt_of_cell? w _ hx1078_4)).trans hx1078_4
  replace hx1078_5 := (HB.out.cell (World.block_lt_of_cell? w _ hx1078_5)).trans hx1078_5
  replace p1078 := eq_true p1078
  replace q1078 := eq_true q1078
  go_wp2_with (first | ((with_reducible refine gate_callee (f := 32) rfl ?_); refine gs_ (some 33) Tryd.func32 #[.agg #[.int .i64 ((rd_T27 l0_2 x3_2).f0), .int .i64 ((rd_T27 l0_2 x3_2).f1), .int .i64 ((rd_T27 l0_2 x3_2).f2.f0), .int .i64 ((rd_T27 l0_2 x3_2).f2.f1), .int .i64 ((rd_T27 l0_2 x3_2).f2.f2), .int .i64 ((rd_T27 l0_2 x3_2).f2.f3)]] ?_; (with_reducible refine (spec_EntryText.calls k2 ((rd_T27 l0_2 x3_2).f0) ((rd_T27 l0_2 x3_2).f1) ((rd_T27 l0_2 x3_2).f2.f0) ((rd_T27 l0_2 x3_2).f2.f1) ((rd_T27 l0_2 x3_2).f2.f2) ((rd_T27 l0_2 x3_2).f2.f3) t1079 _ A14.out).mono ?_); rintro e w17 ⟨rfl, hb⟩; refine ⟨_, rfl, ?_⟩; replace BK1075 := Aside0.mk (blk_below (bn0_ BK1075.out) hb); replace HB := Aside0.mk (below_step bl_ hb); (try clear hb)))
  go_ret
  exact ⟨er_, bl_⟩
 rw [if_neg c15] at H
 have c15b0 : (t1079.toList == ([] : List UInt8)) = false := beq_eq_false_iff_ne.mpr c15
 have c15b1 : (t1079.toList != ([] : List UInt8)) = true := bne_iff_ne.mpr c15
 have H' := Aside0.mk H
 clear H
 obtain ⟨hcz18_0, hcz18_1, hcz18_2, hcz18_3, hfz18_0, hfz18_1, hfz18_2, hfz18_3⟩ := cf4_ BK1075.out
 have p1078 : 0 ≤ (x3_2 : Int) := of_decide_eq_true as_
 have q1078 : x3_2 < (l0_2.length : Int) := of_decide_eq_true as_
 obtain ⟨ad1078, e1078, hx1078_0, hx1078_1, hx1078_2, hx1078_3, hx1078_4, hx1078_5⟩ := at_T27 HR0_2.out x3_2 p1078 q1078
 cases e1078
 replace hx1078_0 := (HB.out.cell (World.block_lt_of_cell? w _ hx1078_0)).trans hx1078_0
 replace hx1078_1 := (HB.out.cell (World.block_lt_of_cell? w _ hx1078_1)).trans hx1078_1
 replace hx1078_2 := (HB.out.cell (World.block_lt_of_cell? w _ hx1078_2)).trans hx1078_2
 replace hx1078_3 := (HB.out.cell (World.block_lt_of_cell? w _ hx1078_3)).trans hx1078_3
 replace hx1078_4 := (HB.out.cell (World.block_lt_of_cell? w _ hx1078_4)).trans hx1078_4
 replace hx1078_5 := (HB.out.cell (World.block_lt_of_cell? w _ hx1078_5)).trans hx1078_5
 replace p1078 := eq_true p1078
 replace q1078 := eq_true q1078
 go_wp2_with (first | ((with_reducible refine gate_callee (f := 32) rfl ?_); refine gs_ (some 33) Tryd.func32 #[.agg #[.int .i64 ((rd_T27 l0_2 x3_2).f0), .int .i64 ((rd_T27 l0_2 x3_2).f1), .int .i64 ((rd_T27 l0_2 x3_2).f2.f0), .int .i64 ((rd_T27 l0_2 x3_2).f2.f1), .int .i64 ((rd_T27 l0_2 x3_2).f2.f2), .int .i64 ((rd_T27 l0_2 x3_2).f2.f3)]] ?_; (with_reducible refine (spec_EntryText.calls k2 ((rd_T27 l0_2 x3_2).f0) ((rd_T27 l0_2 x3_2).f1) ((rd_T27 l0_2 x3_2).f2.f0) ((rd_T27 l0_2 x3_2).f2.f1) ((rd_T27 l0_2 x3_2).f2.f2) ((rd_T27 l0_2 x3_2).f2.f3) t1079 _ A14.out).mono ?_); rintro e w19 ⟨rfl, hb⟩; refine ⟨_, rfl, ?_⟩; replace BK1075 := Aside0.mk (blk_below (bn0_ BK1075.out) hb); replace HB := Aside0.mk (below_step bl_ hb); (try clear hb)))
 go_roundg k2
 case measure => have := HJ1.out; have := HK2.out; omega
 case rel => exact ⟨(wrap64 (x3_2 + 1)), (sr_), H', ⟨by have := HJ1.out; have := HK2.out; omega⟩, ⟨bk_ BK1075.out⟩, ⟨bl_⟩⟩


def spec_SegmentText.j0 : Nat → ByteArray → Bool → Int → ByteArray → List (S27) → ByteArray → Option (ByteArray × Bool)
 | 0, _, _, _, _, _, _ => none
 | k + 1, x4, x23, x1082000, x1082001, x1082002, x1082003 => if x23 = true then (some ((⟨#[]⟩ : ByteArray), false)) else ((spec_l01Var.f k x1082000).bind fun t1085 => (if t1085.size + x1082001.size ≤ 9223372036854775807 then ((spec_l01Var.f k (x4.size : Int)).bind fun t1086 => (if (t1085 ++ x1082001).size + t1086.size ≤ 9223372036854775807 then (if ((t1085 ++ x1082001) ++ t1086).size + x4.size ≤ 9223372036854775807 then ((spec_Sealed.f k (((t1085 ++ x1082001) ++ t1086) ++ x4)).bind fun bt1087 => (some (bt1087.1, bt1087.2))) else (none)) else (none))) else (none)))
def spec_SegmentText.f (k : Nat) (a0_0 : Int) (a0_1 : ByteArray) (l0_2 : List (S27)) (a0_3 : ByteArray) : Option (ByteArray × Bool) := (spec_LogText.f k l0_2).bind fun bt1082 => ((spec_SegmentOk.f k a0_0 a0_1 l0_2 a0_3).bind fun t1084 => (if t1084 = true then (if bt1082.2 = true then (spec_SegmentText.j0 k bt1082.1 (decide ((bt1082.1.size : Int) > 15000)) a0_0 a0_1 l0_2 a0_3) else (spec_SegmentText.j0 k bt1082.1 true a0_0 a0_1 l0_2 a0_3)) else (spec_SegmentText.j0 k bt1082.1 true a0_0 a0_1 l0_2 a0_3)))
theorem spec_SegmentText.mono_l : ∀ k, (∀ y0 y1 y2 y3 y4 y5, LeO (spec_SegmentText.j0 k y0 y1 y2 y3 y4 y5) (spec_SegmentText.j0 (k + 1) y0 y1 y2 y3 y4 y5))
 | 0 => fun _ _ _ _ _ _ r h => by simp [spec_SegmentText.j0] at h
 | k + 1 => by
  have ih0 := spec_SegmentText.mono_l k
  ·intro y0 y1 y2 y3 y4 y5
   unfold spec_SegmentText.j0
   have m0 := @spec_LogText.mono
   have m1 := @spec_Sealed.mono
   have m2 := @spec_SegmentOk.mono
   have m3 := @spec_l01Var.mono
   exact mo_
theorem spec_SegmentText.mono : ∀ a0 a1 a2 a3 k, LeO (spec_SegmentText.f k a0 a1 a2 a3) (spec_SegmentText.f (k + 1) a0 a1 a2 a3) := by
 intro a0 a1 a2 a3 k
 have ih0 := spec_SegmentText.mono_l k
 unfold spec_SegmentText.f
 have m0 := @spec_LogText.mono
 have m1 := @spec_Sealed.mono
 have m2 := @spec_SegmentOk.mono
 have m3 := @spec_l01Var.mono
 exact mo_
def spec_SegmentText.T4 : Bool × List (List Nat × List Nat) := (true, [([], []), ([0], [0]), ([1], [1]), ([], []), ([3], [3]), ([2, 4], [2, 4]), ([], []), ([6], [6]), ([7, 2], [7]), ([5, 8], [5, 8]), ([], []), ([9, 10], [9, 10]), ([11, 8], [11]), ([12], [12]), ([12], [12]), ([13, 12, 0, 1, 2, 3, 4, 5, 6, 7, 8, 9, 10, 11, 12, 13, 14], [13]), ([14, 15, 0, 1, 2, 3, 4, 5, 6, 7, 8, 9, 10, 11, 12, 13, 14, 15], [14])])
def spec_SegmentText.B4 : List Nat := [0, 1, 3, 0, 8, 31, 0, 64, 199, 511, 0, 2047, 4095, 8191, 8191, 32767, 65535]
theorem spec_SegmentText.tab4 : rtab .any (opsOf Tryd.f44 4) = spec_SegmentText.T4 := by kernel_rfl
theorem spec_SegmentText.bits4 : waitsOk spec_SegmentText.T4.2 spec_SegmentText.B4 = true := by kernel_rfl
theorem spec_SegmentText.calls (k : Nat) (a0_0 : Int) (a0_1 : ByteArray) (A0_2 : Option Addr) (c0_2 : Nat) (l0_2 : List (S27)) (a0_3 : ByteArray) (r1 : ByteArray) (r2 : Bool) (w : World) (hr0_2 : Kd.C k27 w A0_2 l0_2.length l0_2) (hc0_2 : l0_2.length ≤ c0_2) (h : spec_SegmentText.f k a0_0 a0_1 l0_2 a0_3 = some (r1, r2)) :
 Calls Tryd.prog 44 #[.agg #[.int .i64 a0_0, .string a0_1, .slice A0_2 l0_2.length c0_2, .string a0_3]] w fun e w' => e = .returned (.tuple #[.string r1, .bool r2]) ∧ Below w.heap.size w w' := by
 have hu58 := Tryd.underlying58
 have HR0_2 := Aside0.mk hr0_2
 have HC0_2 := Aside0.mk hc0_2
 clear hr0_2 hc0_2
 have HB := Aside0.mk (Below.refl w.heap.size w)
 have H := h
 unfold spec_SegmentText.f at H
 clear h
 replace H := bs_ H
 obtain ⟨⟨t1082, t1083⟩, A2, H⟩ := H
 try dsimp only at H
 have HC3 := Aside0.mk H
 clear H
 go_enter Tryd.func44, Tryd.ntmps44
 go_upto_region 2 with (first | ((with_reducible refine gate_dst (N := 1) rfl ?_); (try (refine gate_guard (by rfl) ?_; dsimp only)); refine bx_ 1 58 #[.int .i64 a0_0, .string a0_1, .slice A0_2 l0_2.length c0_2, .string a0_3] ?_; intro gb1081 hg w4 hbox hb; have BK1081 := Aside0.mk (hbox); have GW1081 := Aside0.mk ((hz_ : w.heap.size ≤ gb1081)); have GE1081 := Aside0.mk ((hz_ : w.heap.size ≤ gb1081)); replace HB := Aside0.mk (below_step bl_ hb); clear hb hbox hg; obtain ⟨hcz5_0, hcz5_1, hcz5_2, hcz5_3, hfz5_0, hfz5_1, hfz5_2, hfz5_3⟩ := cf4_ BK1081.out) | ((with_reducible refine gate_callee (f := 26) rfl ?_); refine gs_ (some 9) Tryd.func26 #[.slice A0_2 l0_2.length c0_2] ?_; (with_reducible refine (spec_LogText.calls k _ _ l0_2 t1082 t1083 _ ?side1 ?side2 A2.out).mono ?_); (case side1 => exact cb_ HR0_2.out HB.out); (case side2 => exact HC0_2.out); rintro e w6 ⟨rfl, hb⟩; refine ⟨_, rfl, ?_⟩; replace BK1081 := Aside0.mk (blk_below (bn0_ BK1081.out) hb); replace HB := Aside0.mk (below_step bl_ hb); (try clear hb)))
 (try simp only [Act.put, List.setIfInBounds_toArray, List.set_cons_zero, List.set_cons_succ])
 go_cut [23] (fun v23 wc => ∃ (kq : Nat) (x23_2 : Bool), v23 = .bool x23_2 ∧ Aside0 (spec_SegmentText.j0 kq t1082 x23_2 a0_0 a0_1 l0_2 a0_3 = some (r1, r2)) ∧ Aside0 (kq ≤ k) ∧ Aside0 (wc.heap[gb1081]? = some (.cells #[.int .i64 a0_0, .string a0_1, (.slice A0_2 l0_2.length c0_2), .string a0_3] 58 (0, 0))) ∧ Aside0 (Below w.heap.size w wc))
 case first =>
  have H := HC3.out
  clear HC3
  replace H := bs_ H
  obtain ⟨t1084, A7, H⟩ := H
  try dsimp only at H
  by_cases c8 : t1084 = true
  rotate_left
  ·replace c8 := Bool.eq_false_iff.mpr c8
   subst c8
   rw [nf_] at H
   have H' := Aside0.mk H
   clear H
   obtain ⟨hcz14_0, hcz14_1, hcz14_2, hcz14_3, hfz14_0, hfz14_1, hfz14_2, hfz14_3⟩ := cf4_ BK1081.out
   go_wp2_with (first | ((with_reducible refine gate_callee (f := 56) rfl ?_); refine gs_ (some 13) Tryd.func56 #[.agg #[.int .i64 a0_0, .string a0_1, .slice A0_2 l0_2.length c0_2, .string a0_3]] ?_; (with_reducible refine (spec_SegmentOk.calls k a0_0 a0_1 _ _ l0_2 a0_3 false _ ?side1 ?side2 A7.out).mono ?_); (case side1 => exact cb_ HR0_2.out HB.out); (case side2 => exact HC0_2.out); rintro e w15 ⟨rfl, hb⟩; refine ⟨_, rfl, ?_⟩; replace BK1081 := Aside0.mk (blk_below (bn0_ BK1081.out) hb); replace HB := Aside0.mk (below_step bl_ hb); (try clear hb)))
   go_meet
   case rel => exact ⟨_, (true), (sr_), H', ⟨by first | omega | exact Nat.le_refl _⟩, ⟨bk_ BK1081.out⟩, ⟨bl_⟩⟩
  subst c8
  rw [if_pos rfl] at H
  by_cases c9 : t1083 = true
  ·subst c9
   rw [if_pos rfl] at H
   have H' := Aside0.mk H
   clear H
   obtain ⟨hcz10_0, hcz10_1, hcz10_2, hcz10_3, hfz10_0, hfz10_1, hfz10_2, hfz10_3⟩ := cf4_ BK1081.out
   go_wp2_with (first | ((with_reducible refine gate_callee (f := 56) rfl ?_); refine gs_ (some 13) Tryd.func56 #[.agg #[.int .i64 a0_0, .string a0_1, .slice A0_2 l0_2.length c0_2, .string a0_3]] ?_; (with_reducible refine (spec_SegmentOk.calls k a0_0 a0_1 _ _ l0_2 a0_3 true _ ?side1 ?side2 A7.out).mono ?_); (case side1 => exact cb_ HR0_2.out HB.out); (case side2 => exact HC0_2.out); rintro e w11 ⟨rfl, hb⟩; refine ⟨_, rfl, ?_⟩; replace BK1081 := Aside0.mk (blk_below (bn0_ BK1081.out) hb); replace HB := Aside0.mk (below_step bl_ hb); (try clear hb)))
   go_meet
   case rel => exact ⟨_, (decide ((t1082.size : Int) > 15000)), (sr_), H', ⟨by first | omega | exact Nat.le_refl _⟩, ⟨bk_ BK1081.out⟩, ⟨bl_⟩⟩
  replace c9 := Bool.eq_false_iff.mpr c9
  subst c9
  rw [nf_] at H
  have H' := Aside0.mk H
  clear H
  obtain ⟨hcz12_0, hcz12_1, hcz12_2, hcz12_3, hfz12_0, hfz12_1, hfz12_2, hfz12_3⟩ := cf4_ BK1081.out
  go_wp2_with (first | ((with_reducible refine gate_callee (f := 56) rfl ?_); refine gs_ (some 13) Tryd.func56 #[.agg #[.int .i64 a0_0, .string a0_1, .slice A0_2 l0_2.length c0_2, .string a0_3]] ?_; (with_reducible refine (spec_SegmentOk.calls k a0_0 a0_1 _ _ l0_2 a0_3 true _ ?side1 ?side2 A7.out).mono ?_); (case side1 => exact cb_ HR0_2.out HB.out); (case side2 => exact HC0_2.out); rintro e w13 ⟨rfl, hb⟩; refine ⟨_, rfl, ?_⟩; replace BK1081 := Aside0.mk (blk_below (bn0_ BK1081.out) hb); replace HB := Aside0.mk (below_step bl_ hb); (try clear hb)))
  go_meet
  case rel => exact ⟨_, (true), (sr_), H', ⟨by first | omega | exact Nat.le_refl _⟩, ⟨bk_ BK1081.out⟩, ⟨bl_⟩⟩
 clear HC3
 try clear hcz5_0
 try clear hcz5_1
 try clear hcz5_2
 try clear hcz5_3
 try clear hfz5_0
 try clear hfz5_1
 try clear hfz5_2
 try clear hfz5_3
 obtain ⟨kq, x23_2, rfl, HA, HJ2, BK1081, HB⟩ := hcut
 cases kq with
 | zero => exact absurd HA.out (by simp [spec_SegmentText.j0])
 | succ kj2 => ?_
 have H := HA.out
 clear HA
 simp only [spec_SegmentText.j0] at H
 by_cases c16 : x23_2 = true
 ·subst c16
  rw [if_pos rfl] at H
  simp only [Option.some.injEq, Prod.mk.injEq] at H
  obtain ⟨rfl, rfl⟩ := H
  go_wp2
  go_ret2
  exact ⟨er_, bl_⟩
 replace c16 := Bool.eq_false_iff.mpr c16
 subst c16
 rw [nf_] at H
 replace H := bs_ H
 obtain ⟨t1085, A17, H⟩ := H
 try dsimp only at H
 by_cases c18 : t1085.size + a0_1.size ≤ 9223372036854775807
 rotate_left
 ·exact nn_ c18 H
 rw [if_pos c18] at H
 have c18b0 := eq_true c18
 have c18b1 : decide (t1085.size + a0_1.size ≤ 9223372036854775807) = true := decide_eq_true c18
 try have c18b2 : (9223372036854775807 < t1085.size + a0_1.size) = False := eq_false (Nat.not_lt.2 c18)
 replace H := bs_ H
 obtain ⟨t1086, A19, H⟩ := H
 try dsimp only at H
 by_cases c20 : (t1085 ++ a0_1).size + t1086.size ≤ 9223372036854775807
 rotate_left
 ·exact nn_ c20 H
 rw [if_pos c20] at H
 have c20b0 := eq_true c20
 have c20b1 : decide ((t1085 ++ a0_1).size + t1086.size ≤ 9223372036854775807) = true := decide_eq_true c20
 try have c20b2 : (9223372036854775807 < (t1085 ++ a0_1).size + t1086.size) = False := eq_false (Nat.not_lt.2 c20)
 try have c20b3 : (9223372036854775807 < t1085.size + a0_1.size + t1086.size) = False := eq_false (by have h_ := c20; (repeat rw [ByteArray.size_append] at h_); exact Nat.not_lt.2 h_)
 by_cases c21 : ((t1085 ++ a0_1) ++ t1086).size + t1082.size ≤ 9223372036854775807
 rotate_left
 ·exact nn_ c21 H
 rw [if_pos c21] at H
 have c21b0 := eq_true c21
 have c21b1 : decide (((t1085 ++ a0_1) ++ t1086).size + t1082.size ≤ 9223372036854775807) = true := decide_eq_true c21
 try have c21b2 : (9223372036854775807 < ((t1085 ++ a0_1) ++ t1086).size + t1082.size) = False := eq_false (Nat.not_lt.2 c21)
 try have c21b3 : (9223372036854775807 < t1085.size + a0_1.size + t1086.size + t1082.size) = False := eq_false (by have h_ := c21; (repeat rw [ByteArray.size_append] at h_); exact Nat.not_lt.2 h_)
 replace H := bs_ H
 obtain ⟨⟨t1087, t1088⟩, A22, H⟩ := H
 try dsimp only at H
 simp only [Option.some.injEq, Prod.mk.injEq] at H
 obtain ⟨rfl, rfl⟩ := H
 try go_wp2
 have n0_ := Aside0.mk (blk_drew BK1081.out)
 have n1_ := Aside0.mk (below_drew1 HB.out)
 clear BK1081
 clear HB
 have BK1081 := n0_
 have HB := n1_
 clear n0_ n1_
 refine start_ (n := 17) (S := fun w' => w'.cell? ⟨gb1081, 0, none⟩ = some (.int .i64 a0_0) ∧ w'.cell? ⟨gb1081, 1, none⟩ = some (.string a0_1) ∧ w'.cell? ⟨gb1081, 2, none⟩ = some (.slice A0_2 l0_2.length c0_2) ∧ w'.cell? ⟨gb1081, 3, none⟩ = some (.string a0_3)) (ds := []) #[false, false, false, false, false, false, false, false, false, false, false, false, false, false, false, false, false] (by kernel_rfl) rfl rfl ⟨(blk_cell BK1081.out 0).trans rfl, (blk_cell BK1081.out 1).trans rfl, (blk_cell BK1081.out 2).trans rfl, (blk_cell BK1081.out 3).trans rfl⟩ (fun hHeld => ?_); refine with_tabW spec_SegmentText.tab4 spec_SegmentText.bits4 (fun HT_ HW_ => ?_)
 generalize wc.drew = w23 at BK1081 HB hHeld ⊢
 refine pu_ 0 24 HT_ ?_
 refine pu_ 3 27 HT_ ?_
 refine pu_ 6 30 HT_ ?_
 refine pu_ 7 31 HT_ ?_
 refine pu_ 10 34 HT_ ?_
 refine ta_ 1 25 HT_ HW_ hHeld ?_ (r := by rintro w' ⟨s0, s1, s2, s3⟩; go_simp; with_reducible rfl)
 refine ta_ 4 28 HT_ HW_ hHeld ?_ (r := by rintro w' ⟨s0, s1, s2, s3⟩; go_simp; with_reducible rfl)
 refine on_ 2 26 HT_ (fun K hK => ?_)
 refine goes_ Tryd.func73 (by kernel_rfl) rfl #[.int .i64 a0_0] (by rfl) rfl rfl lm_ ?_
 with_reducible refine (spec_l01Var.calls kj2 a0_0 t1085 _ A17.out).mono ?_
 rintro e w24 ⟨rfl, hb⟩
 refine ⟨_, rfl, ?_⟩
 have n0_ := Aside0.mk (blk_below (bn0_ BK1081.out) hb)
 have n1_ := Aside0.mk (below_step bl_ hb)
 clear BK1081
 clear HB
 have BK1081 := n0_
 have HB := n1_
 clear n0_ n1_
 (try clear hb)
 (try clear hb2)
 (try clear hk)
 (try clear hi)
 refine hK.out _ _ ⟨(blk_cell BK1081.out 0).trans rfl, (blk_cell BK1081.out 1).trans rfl, (blk_cell BK1081.out 2).trans rfl, (blk_cell BK1081.out 3).trans rfl⟩ (fun hHeld => ?_)
 clear hK K
 refine norm_ (a' := ?_) ?_ ?_
 rotate_left
 ·show Act.put _ (some 26) _ = _
  simp only [Act.put, List.setIfInBounds_toArray, List.set_cons_zero, List.set_cons_succ, i64_w, i32_w]
  rfl
 refine pu_ 5 29 HT_ ?_
 refine on_ 8 32 HT_ (fun K hK => ?_)
 refine goes_ Tryd.func73 (by kernel_rfl) rfl #[.int .i64 (t1082.size : Int)] (by rfl) rfl rfl lm_ ?_
 with_reducible refine (spec_l01Var.calls kj2 (t1082.size : Int) t1086 _ A19.out).mono ?_
 rintro e w25 ⟨rfl, hb⟩
 refine ⟨_, rfl, ?_⟩
 have n0_ := Aside0.mk (blk_below (bn0_ BK1081.out) hb)
 have n1_ := Aside0.mk (below_step bl_ hb)
 clear BK1081
 clear HB
 have BK1081 := n0_
 have HB := n1_
 clear n0_ n1_
 (try clear hb)
 (try clear hb2)
 (try clear hk)
 (try clear hi)
 refine hK.out _ _ ⟨(blk_cell BK1081.out 0).trans rfl, (blk_cell BK1081.out 1).trans rfl, (blk_cell BK1081.out 2).trans rfl, (blk_cell BK1081.out 3).trans rfl⟩ (fun hHeld => ?_)
 clear hK K
 refine norm_ (a' := ?_) ?_ ?_
 rotate_left
 ·show Act.put _ (some 32) _ = _
  simp only [Act.put, List.setIfInBounds_toArray, List.set_cons_zero, List.set_cons_succ, i64_w, i32_w]
  rfl
 refine pu_ 9 33 HT_ ?_
 refine pu_ 11 35 HT_ ?_
 refine on_ 12 36 HT_ (fun K hK => ?_)
 refine goes_ Tryd.func86 (by kernel_rfl) rfl #[.string (((t1085 ++ a0_1) ++ t1086) ++ t1082)] (by rfl) rfl rfl lm_ ?_
 with_reducible refine (spec_Sealed.calls kj2 (((t1085 ++ a0_1) ++ t1086) ++ t1082) t1087 t1088 _ A22.out).mono ?_
 rintro e w26 ⟨rfl, hb⟩
 refine ⟨_, rfl, ?_⟩
 have n0_ := Aside0.mk (blk_below (bn0_ BK1081.out) hb)
 have n1_ := Aside0.mk (below_step bl_ hb)
 clear BK1081
 clear HB
 have BK1081 := n0_
 have HB := n1_
 clear n0_ n1_
 (try clear hb)
 (try clear hb2)
 (try clear hk)
 (try clear hi)
 refine hK.out _ _ ⟨(blk_cell BK1081.out 0).trans rfl, (blk_cell BK1081.out 1).trans rfl, (blk_cell BK1081.out 2).trans rfl, (blk_cell BK1081.out 3).trans rfl⟩ (fun hHeld => ?_)
 clear hK K
 refine norm_ (a' := ?_) ?_ ?_
 rotate_left
 ·show Act.put _ (some 36) _ = _
  simp only [Act.put, List.setIfInBounds_toArray, List.set_cons_zero, List.set_cons_succ, i64_w, i32_w]
  rfl
 refine pu_ 13 37 HT_ ?_
 refine pu_ 14 38 HT_ ?_
 refine pu_ 15 2 HT_ ?_
 refine pu_ 16 3 HT_ ?_
 refine done_ (done_of HT_.out (by kernel_rfl)) ?_
 try go_wp2
 go_ret2
 exact ⟨er_, bl_⟩


def spec_DrawReadSegment.f (k : Nat) (l0 : List Int) : Option (ByteArray) := (spec_l01New.f k l0).bind fun bt1089 => ((spec_l28One.f k l0).bind fun bt1093 => ((spec_SegmentText.f k bt1093.1 bt1093.2.1 bt1093.2.2.1 bt1093.2.2.2).bind fun bt1099 => ((spec_l01Once.f bt1089.1 bt1089.2.1 bt1089.2.2 3).bind fun bt1101 => (if bt1101.1 = true then ((spec_l02Spoilt.f k bt1089.1 bt1101.2.1 bt1101.2.2 bt1099.1).bind fun bt1104 => (some bt1104.1)) else (some bt1099.1)))))
theorem spec_DrawReadSegment.mono : ∀ a0 k, LeO (spec_DrawReadSegment.f k a0) (spec_DrawReadSegment.f (k + 1) a0) := by
 intro a0 k
 unfold spec_DrawReadSegment.f
 have m0 := @spec_SegmentText.mono
 have m1 := @spec_l01New.mono
 have m2 := @spec_l02Spoilt.mono
 have m3 := @spec_l28One.mono
 exact mo_
theorem spec_DrawReadSegment.calls (k : Nat) (A0 : Option Addr) (c0 : Nat) (l0 : List Int) (r : ByteArray) (w : World) (hr0 : Kd.C (Kd.int .u8) w A0 l0.length l0) (hc0 : l0.length ≤ c0) (h : spec_DrawReadSegment.f k l0 = some r) :
 Calls Tryd.prog 45 #[.slice A0 l0.length c0] w fun e w' => e = .returned (.string r) ∧ Below w.heap.size w w' := by
 have HR0 := Aside0.mk hr0
 have HC0 := Aside0.mk hc0
 clear hr0 hc0
 have HB := Aside0.mk (Below.refl w.heap.size w)
 have H := h
 unfold spec_DrawReadSegment.f at H
 clear h
 replace H := bs_ H
 obtain ⟨⟨t1089, t1090, t1091⟩, A2, H⟩ := H
 try dsimp only at H
 replace H := bs_ H
 obtain ⟨⟨t1093, t1094, t1095, t1098⟩, A3, H⟩ := H
 try dsimp only at H
 replace H := bs_ H
 obtain ⟨⟨t1099, t1100⟩, A4, H⟩ := H
 try dsimp only at H
 replace H := bs_ H
 obtain ⟨⟨t1101, t1102, t1103⟩, A5, H⟩ := H
 try dsimp only at H
 by_cases c6 : t1101 = true
 rotate_left
 ·replace c6 := Bool.eq_false_iff.mpr c6
  subst c6
  rw [nf_] at H
  obtain rfl := Option.some.inj H
  go_enter Tryd.func45, Tryd.ntmps45
  go_wp2_with (first | ((with_reducible refine gate_callee (f := 58) rfl ?_); refine gs_ (some 7) Tryd.func58 #[.slice A0 l0.length c0] ?_; (with_reducible refine (spec_l01New.calls k _ _ l0 t1089 t1090 t1091 w _ ?side1 ?side2 ?side3 A2.out).mono ?_); (case side1 => repeat (first | (with_reducible first | exact HB.out | apply below_alloc | apply pw_below_drewN | apply below_drew1) | exact HB.out)); (case side2 => exact HR0.out); (case side3 => exact HC0.out); rintro e w14 ⟨g1092, rfl, hi, hb, hb2⟩; refine ⟨_, rfl, ?_⟩; replace HB := Aside0.mk (hb); have HI1092 := Aside0.mk (hi); (try clear hb); (try clear hb2); (try clear hi)) | ((with_reducible refine gate_callee (f := 83) rfl ?_); refine gs_ (some 10) Tryd.func83 #[.slice A0 l0.length c0] ?_; (with_reducible refine (spec_l28One.calls k _ _ l0 t1093 t1094 t1095 t1098 _ ?side1 ?side2 A3.out).mono ?_); (case side1 => exact cb_ HR0.out HB.out); (case side2 => exact HC0.out); rintro e w15 ⟨v1096, rfl, ho0, hb⟩; refine ⟨_, rfl, ?_⟩; have HO1097 := Aside0.mk (Kd.R_lower ho0 (below_size bi2_)); replace HB := Aside0.mk (below_step bi2_ hb); replace HI1092 := Aside0.mk (IsS100.below is2_ hb); (try clear hb); (try clear ho0); obtain ⟨Ao16, co16, eo16⟩ := Kd.R_slice HO1097.out; subst eo16) | ((with_reducible refine gate_callee (f := 44) rfl ?_); refine gs_ (some 11) Tryd.func44 #[.agg #[.int .i64 t1093, .string t1094, .slice Ao16 t1095.length co16, .string t1098]] ?_; (with_reducible refine (spec_SegmentText.calls k t1093 t1094 _ _ t1095 t1098 t1099 t1100 _ ?side1 ?side2 A4.out).mono ?_); (case side1 => exact cs_ ((Kd.R_reads' HO1097.out).2.2)); (case side2 => exact (Kd.R_reads' HO1097.out).2.1); rintro e w17 ⟨rfl, hb⟩; refine ⟨_, rfl, ?_⟩; replace HO1097 := Aside0.mk (Kd.R_below (ra_ HO1097.out) hb); replace HB := Aside0.mk (below_step bi2_ hb); replace HI1092 := Aside0.mk (IsS100.below is2_ hb); (try clear hb)) | ((with_reducible refine gate_callee (f := 87) rfl ?_); refine gs_ (some 15) Tryd.func87 #[.pointer (some ⟨g1092, 0, none⟩), .int .i64 3] ?_; (with_reducible refine (spec_l01Once.calls g1092 t1089 t1090 t1091 3 false t1102 t1103 w _ ?side1 ?side2 A5.out).mono ?_); (case side1 => exact is2_); (case side2 => exact bi2_); rintro e w18 ⟨rfl, hi, hb, hk⟩; refine ⟨_, rfl, ?_⟩; replace HO1097 := Aside0.mk (Kd.R_mono (Kd.R_keep (IsS100.apart (show IsS100 w _ g1092 t1089 t1090 t1091 from is2_) (ra_ HO1097.out) (by decide)) hk (fun _ h => h.2)) (fun _ h => h.1)); replace HB := Aside0.mk (hb); replace HI1092 := Aside0.mk (hi); (try clear hb); (try clear hk); (try clear hi)))
  go_ret
  exact ⟨er_, bi2_⟩
 subst c6
 rw [if_pos rfl] at H
 replace H := bs_ H
 obtain ⟨⟨t1104, t1105, t1106⟩, A7, H⟩ := H
 try dsimp only at H
 obtain rfl := Option.some.inj H
 go_enter Tryd.func45, Tryd.ntmps45
 go_wp2_with (first | ((with_reducible refine gate_callee (f := 58) rfl ?_); refine gs_ (some 7) Tryd.func58 #[.slice A0 l0.length c0] ?_; (with_reducible refine (spec_l01New.calls k _ _ l0 t1089 t1090 t1091 w _ ?side1 ?side2 ?side3 A2.out).mono ?_); (case side1 => repeat (first | (with_reducible first | exact HB.out | apply below_alloc | apply pw_below_drewN | apply below_drew1) | exact HB.out)); (case side2 => exact HR0.out); (case side3 => exact HC0.out); rintro e w8 ⟨g1092, rfl, hi, hb, hb2⟩; refine ⟨_, rfl, ?_⟩; replace HB := Aside0.mk (hb); have HI1092 := Aside0.mk (hi); (try clear hb); (try clear hb2); (try clear hi)) | ((with_reducible refine gate_callee (f := 83) rfl ?_); refine gs_ (some 10) Tryd.func83 #[.slice A0 l0.length c0] ?_; (with_reducible refine (spec_l28One.calls k _ _ l0 t1093 t1094 t1095 t1098 _ ?side1 ?side2 A3.out).mono ?_); (case side1 => exact cb_ HR0.out HB.out); (case side2 => exact HC0.out); rintro e w9 ⟨v1096, rfl, ho0, hb⟩; refine ⟨_, rfl, ?_⟩; have HO1097 := Aside0.mk (Kd.R_lower ho0 (below_size bi2_)); replace HB := Aside0.mk (below_step bi2_ hb); replace HI1092 := Aside0.mk (IsS100.below is2_ hb); (try clear hb); (try clear ho0); obtain ⟨Ao10, co10, eo10⟩ := Kd.R_slice HO1097.out; subst eo10) | ((with_reducible refine gate_callee (f := 44) rfl ?_); refine gs_ (some 11) Tryd.func44 #[.agg #[.int .i64 t1093, .string t1094, .slice Ao10 t1095.length co10, .string t1098]] ?_; (with_reducible refine (spec_SegmentText.calls k t1093 t1094 _ _ t1095 t1098 t1099 t1100 _ ?side1 ?side2 A4.out).mono ?_); (case side1 => exact cs_ ((Kd.R_reads' HO1097.out).2.2)); (case side2 => exact (Kd.R_reads' HO1097.out).2.1); rintro e w11 ⟨rfl, hb⟩; refine ⟨_, rfl, ?_⟩; replace HO1097 := Aside0.mk (Kd.R_below (ra_ HO1097.out) hb); replace HB := Aside0.mk (below_step bi2_ hb); replace HI1092 := Aside0.mk (IsS100.below is2_ hb); (try clear hb)) | ((with_reducible refine gate_callee (f := 87) rfl ?_); refine gs_ (some 15) Tryd.func87 #[.pointer (some ⟨g1092, 0, none⟩), .int .i64 3] ?_; (with_reducible refine (spec_l01Once.calls g1092 t1089 t1090 t1091 3 true t1102 t1103 w _ ?side1 ?side2 A5.out).mono ?_); (case side1 => exact is2_); (case side2 => exact bi2_); rintro e w12 ⟨rfl, hi, hb, hk⟩; refine ⟨_, rfl, ?_⟩; replace HO1097 := Aside0.mk (Kd.R_mono (Kd.R_keep (IsS100.apart (show IsS100 w _ g1092 t1089 t1090 t1091 from is2_) (ra_ HO1097.out) (by decide)) hk (fun _ h => h.2)) (fun _ h => h.1)); replace HB := Aside0.mk (hb); replace HI1092 := Aside0.mk (hi); (try clear hb); (try clear hk); (try clear hi)) | ((with_reducible refine gate_callee (f := 74) rfl ?_); refine gs_ (some 18) Tryd.func74 #[.pointer (some ⟨g1092, 0, none⟩), .string t1099] ?_; (with_reducible refine (spec_l02Spoilt.calls k g1092 t1089 t1102 t1103 t1099 t1104 t1105 t1106 w _ ?side1 ?side2 A7.out).mono ?_); (case side1 => exact is2_); (case side2 => exact bi2_); rintro e w13 ⟨rfl, hi, hb, hk⟩; refine ⟨_, rfl, ?_⟩; replace HO1097 := Aside0.mk (Kd.R_mono (Kd.R_keep (IsS100.apart (show IsS100 w _ g1092 t1089 t1102 t1103 from is2_) (ra_ HO1097.out) (by decide)) hk (fun _ h => h.2)) (fun _ h => h.1)); replace HB := Aside0.mk (hb); replace HI1092 := Aside0.mk (hi); (try clear hb); (try clear hk); (try clear hi)))
 go_ret
 exact ⟨er_, bi2_⟩


mutual
def impl_ReadSegment.j0 : Nat → ByteArray → ByteArray → Int → Int → Bool → Option (Int × ByteArray × (List (S27)) × ByteArray × Bool)
 | 0, _, _, _, _, _ => none
 | k + 1, x0, x4, x6, x7, x39 => if x39 = true then (some (0, (⟨#[]⟩ : ByteArray), ([] : List (S27)), (⟨#[]⟩ : ByteArray), false)) else ((impl_ReadShort.f k x4 (wrap64 (x7 + 32))).bind fun bt1113 => ((impl_ReadLog.f k bt1113.1).bind fun bt1116 => (if 0 ≤ x7 then (if x7 ≤ (wrap64 (x7 + 32)) then (if (wrap64 (x7 + 32)) ≤ (x4.size : Int) then ((impl_HeadFrom.f k (x4.extract (x7 : Int).toNat ((wrap64 (x7 + 32)) : Int).toNat) bt1116.1).bind fun t1121 => (if bt1113.2.2 = true then (if bt1116.2 = true then (impl_ReadSegment.j1 k x0 (bt1113.2.1 != (x4.size : Int)) x6 (x4.extract (x7 : Int).toNat ((wrap64 (x7 + 32)) : Int).toNat) bt1116.1 t1121) else (impl_ReadSegment.j1 k x0 true x6 (x4.extract (x7 : Int).toNat ((wrap64 (x7 + 32)) : Int).toNat) bt1116.1 t1121)) else (impl_ReadSegment.j1 k x0 true x6 (x4.extract (x7 : Int).toNat ((wrap64 (x7 + 32)) : Int).toNat) bt1116.1 t1121))) else (none)) else (none)) else (none))))
def impl_ReadSegment.j1 : Nat → ByteArray → Bool → Int → ByteArray → List (S27) → ByteArray → Option (Int × ByteArray × (List (S27)) × ByteArray × Bool)
 | 0, _, _, _, _, _, _ => none
 | k + 1, x0, x78, x1121000, x1121001, x1121002, x1121003 => if x78 = true then (some (0, (⟨#[]⟩ : ByteArray), ([] : List (S27)), (⟨#[]⟩ : ByteArray), false)) else ((impl_SegmentText.f k x1121000 x1121001 x1121002 x1121003).bind fun bt1122 => (if bt1122.2 = true then (if bt1122.1.toList = x0.toList then (some (x1121000, x1121001, x1121002, x1121003, true)) else (some (0, (⟨#[]⟩ : ByteArray), ([] : List (S27)), (⟨#[]⟩ : ByteArray), false))) else (some (0, (⟨#[]⟩ : ByteArray), ([] : List (S27)), (⟨#[]⟩ : ByteArray), false))))
end
def impl_ReadSegment.f (k : Nat) (a0 : ByteArray) : Option (Int × ByteArray × (List (S27)) × ByteArray × Bool) := (impl_Unsealed.f k a0).bind fun bt1108 => (if bt1108.2 = true then ((impl_ReadVar.f k bt1108.1 0).bind fun bt1110 => (if bt1110.2.2 = true then (impl_ReadSegment.j0 k a0 bt1108.1 bt1110.1 bt1110.2.1 (decide ((wrap64 ((bt1108.1.size : Int) - bt1110.2.1)) < 32))) else (impl_ReadSegment.j0 k a0 bt1108.1 bt1110.1 bt1110.2.1 true))) else (some (0, (⟨#[]⟩ : ByteArray), ([] : List (S27)), (⟨#[]⟩ : ByteArray), false)))
theorem impl_ReadSegment.mono_l : ∀ k, (∀ y0 y1 y2 y3 y4, LeO (impl_ReadSegment.j0 k y0 y1 y2 y3 y4) (impl_ReadSegment.j0 (k + 1) y0 y1 y2 y3 y4)) ∧ (∀ y0 y1 y2 y3 y4 y5, LeO (impl_ReadSegment.j1 k y0 y1 y2 y3 y4 y5) (impl_ReadSegment.j1 (k + 1) y0 y1 y2 y3 y4 y5))
 | 0 => ⟨fun _ _ _ _ _ r h => by simp [impl_ReadSegment.j0] at h, fun _ _ _ _ _ _ r h => by simp [impl_ReadSegment.j1] at h⟩
 | k + 1 => by
  obtain ⟨ih0, ih1⟩ := impl_ReadSegment.mono_l k
  refine ⟨?_, ?_⟩
  ·intro y0 y1 y2 y3 y4
   unfold impl_ReadSegment.j0
   have m0 := @impl_HeadFrom.mono
   have m1 := @impl_ReadLog.mono
   have m2 := @impl_ReadShort.mono
   have m3 := @impl_ReadVar.mono
   have m4 := @impl_SegmentText.mono
   have m5 := @impl_Unsealed.mono
   exact mo_
  ·intro y0 y1 y2 y3 y4 y5
   unfold impl_ReadSegment.j1
   have m0 := @impl_HeadFrom.mono
   have m1 := @impl_ReadLog.mono
   have m2 := @impl_ReadShort.mono
   have m3 := @impl_ReadVar.mono
   have m4 := @impl_SegmentText.mono
   have m5 := @impl_Unsealed.mono
   exact mo_
theorem impl_ReadSegment.mono : ∀ a0 k, LeO (impl_ReadSegment.f k a0) (impl_ReadSegment.f (k + 1) a0) := by
 intro a0 k
 obtain ⟨ih0, ih1⟩ := impl_ReadSegment.mono_l k
 unfold impl_ReadSegment.f
 have m0 := @impl_HeadFrom.mono
 have m1 := @impl_ReadLog.mono
 have m2 := @impl_ReadShort.mono
 have m3 := @impl_ReadVar.mono
 have m4 := @impl_SegmentText.mono
 have m5 := @impl_Unsealed.mono
 exact mo_
theorem impl_ReadSegment.calls (k : Nat) (a0 : ByteArray) (r1 : Int) (r2 : ByteArray) (r3 : List (S27)) (r4 : ByteArray) (r5 : Bool) (w : World) (hT : Tab w) (h : impl_ReadSegment.f k a0 = some (r1, r2, r3, r4, r5)) :
 Calls Tryd.prog 46 #[.string a0] w fun e w' => ∃ v2_ : Value, e = .returned (.tuple #[.agg #[.int .i64 r1, .string r2, v2_, .string r4], .bool r5]) ∧ Kd.R k27 27 w' w.heap.size (fun _ => True) v2_ r3 ∧ Below w.heap.size w w' := by
 have hu58 := Tryd.underlying58
 have HT := Aside0.mk hT
 clear hT
 have HB := Aside0.mk (Below.refl w.heap.size w)
 have H := h
 unfold impl_ReadSegment.f at H
 clear h
 replace H := bs_ H
 obtain ⟨⟨t1108, t1109⟩, A2, H⟩ := H
 try dsimp only at H
 by_cases c3 : t1109 = true
 rotate_left
 ·replace c3 := Bool.eq_false_iff.mpr c3
  subst c3
  rw [nf_] at H
  simp only [Option.some.injEq, Prod.mk.injEq] at H
  obtain ⟨rfl, rfl, rfl, rfl, rfl⟩ := H
  go_enter Tryd.func46, Tryd.ntmps46
  go_wp2_with (first | ((with_reducible refine gate_dst (N := 2) rfl ?_); (try (refine gate_guard (by rfl) ?_; dsimp only)); refine bx_ 2 58 #[.int .i64 0, .string (⟨#[]⟩ : ByteArray), .slice none 0 0, .string (⟨#[]⟩ : ByteArray)] ?_; intro gb1107 hg w47 hbox hb; have BK1107 := Aside0.mk (hbox); have GW1107 := Aside0.mk ((hz_ : w.heap.size ≤ gb1107)); have GE1107 := Aside0.mk ((hz_ : w.heap.size ≤ gb1107)); replace HB := Aside0.mk (below_step bl_ hb); clear hb hbox hg) | ((with_reducible refine gate_callee (f := 88) rfl ?_); refine gs_ (some 19) Tryd.func88 #[.string a0] ?_; (with_reducible refine (impl_Unsealed.calls k a0 t1108 false _ A2.out).mono ?_); rintro e w' ⟨rfl, ⟨nd, rfl⟩⟩; refine ⟨_, rfl, ?_⟩; (try (rw [drewN_self w47]; generalize hq_ : World.drewN w47 _ = w47; have n0_ : Aside0 (w47.heap[gb1107]? = some (.cells #[.int .i64 0, .string (⟨#[]⟩ : ByteArray), .slice none 0 0, .string (⟨#[]⟩ : ByteArray)] 58 (0, 0))) := ⟨by rw [← hq_]; exact (bk_ BK1107.out)⟩; have n1_ : Aside0 (Below w.heap.size w w47) := ⟨by rw [← hq_]; exact bl_⟩; clear BK1107 HB hq_; have BK1107 := n0_; have HB := n1_; clear n0_ n1_)); obtain ⟨hcz48_0, hcz48_1, hcz48_2, hcz48_3, hfz48_0, hfz48_1, hfz48_2, hfz48_3⟩ := cf4_ BK1107.out))
  refine bodyPost_ret (results_ct rfl _ _ gb1107 58 #[.int .i64 0, .string (⟨#[]⟩ : ByteArray), .slice none 0 0, .string (⟨#[]⟩ : ByteArray)] (0, 0) _ rfl (bp0_ BK1107.out) Tryd.underlying58 rfl (by kernel_rfl)) rfl ?_
  exact ⟨_, er_, by first | exact Kd.R_nil _ _ _ _ _ | exact Kd.N_nil _ _ _ _ _ | exact Kd.V_nil _ _ _ _ _ | exact Kd.Q_nil _ _ _ _ _ | exact Kd.S_nil _ _ _ _ _, bl_⟩
 subst c3
 rw [if_pos rfl] at H
 replace H := bs_ H
 obtain ⟨⟨t1110, t1111, t1112⟩, A4, H⟩ := H
 try dsimp only at H
 have HC5 := Aside0.mk H
 clear H
 go_enter Tryd.func46, Tryd.ntmps46
 go_upto_region 5 with (first | ((with_reducible refine gate_dst (N := 2) rfl ?_); (try (refine gate_guard (by rfl) ?_; dsimp only)); refine bx_ 2 58 #[.int .i64 0, .string (⟨#[]⟩ : ByteArray), .slice none 0 0, .string (⟨#[]⟩ : ByteArray)] ?_; intro gb1107 hg w6 hbox hb; have BK1107 := Aside0.mk (hbox); have GW1107 := Aside0.mk ((hz_ : w.heap.size ≤ gb1107)); have GE1107 := Aside0.mk ((hz_ : w.heap.size ≤ gb1107)); replace HB := Aside0.mk (below_step bl_ hb); clear hb hbox hg) | ((with_reducible refine gate_callee (f := 88) rfl ?_); refine gs_ (some 19) Tryd.func88 #[.string a0] ?_; (with_reducible refine (impl_Unsealed.calls k a0 t1108 true _ A2.out).mono ?_); rintro e w' ⟨rfl, ⟨nd, rfl⟩⟩; refine ⟨_, rfl, ?_⟩) | ((with_reducible refine gate_callee (f := 89) rfl ?_); refine gs_ (some 27) Tryd.func89 #[.string t1108, .int .i64 0] ?_; (with_reducible refine (impl_ReadVar.calls k t1108 0 t1110 t1111 t1112 _ A4.out).mono ?_); rintro e w7 ⟨rfl, hb⟩; refine ⟨_, rfl, ?_⟩; replace BK1107 := Aside0.mk (blk_below (bn0_ BK1107.out) hb); replace HB := Aside0.mk (below_step bl_ hb); (try clear hb)))
 (try simp only [Act.put, List.setIfInBounds_toArray, List.set_cons_zero, List.set_cons_succ])
 go_cut [39] (fun v39 wc => ∃ (kq : Nat) (x39_4 : Bool), v39 = .bool x39_4 ∧ Aside0 (impl_ReadSegment.j0 kq a0 t1108 t1110 t1111 x39_4 = some (r1, r2, r3, r4, r5)) ∧ Aside0 (kq ≤ k) ∧ Aside0 (wc.heap[gb1107]? = some (.cells #[.int .i64 0, .string (⟨#[]⟩ : ByteArray), (.slice none 0 0), .string (⟨#[]⟩ : ByteArray)] 58 (0, 0))) ∧ Aside0 (Below w.heap.size w wc))
 case first =>
  have H := HC5.out
  clear HC5
  by_cases c8 : t1112 = true
  ·subst c8
   rw [if_pos rfl] at H
   have H' := Aside0.mk H
   clear H
   go_wp2
   go_meet
   case rel => exact ⟨_, (decide ((wrap64 ((t1108.size : Int) - t1111)) < 32)), (sr_), H', ⟨by first | omega | exact Nat.le_refl _⟩, ⟨bk_ BK1107.out⟩, ⟨bl_⟩⟩
  replace c8 := Bool.eq_false_iff.mpr c8
  subst c8
  rw [nf_] at H
  have H' := Aside0.mk H
  clear H
  go_wp2
  go_meet
  case rel => exact ⟨_, (true), (sr_), H', ⟨by first | omega | exact Nat.le_refl _⟩, ⟨bk_ BK1107.out⟩, ⟨bl_⟩⟩
 clear HC5
 try clear c3
 obtain ⟨kq, x39_4, rfl, HA, HJ4, BK1107, HB⟩ := hcut
 cases kq with
 | zero => exact absurd HA.out (by simp [impl_ReadSegment.j0])
 | succ kj4 => ?_
 have H := HA.out
 clear HA
 simp only [impl_ReadSegment.j0] at H
 by_cases c9 : x39_4 = true
 ·subst c9
  rw [if_pos rfl] at H
  simp only [Option.some.injEq, Prod.mk.injEq] at H
  obtain ⟨rfl, rfl, rfl, rfl, rfl⟩ := H
  obtain ⟨hcz10_0, hcz10_1, hcz10_2, hcz10_3, hfz10_0, hfz10_1, hfz10_2, hfz10_3⟩ := cf4_ BK1107.out
  go_wp2
  refine bodyPost_ret (results_ct rfl _ _ gb1107 58 #[.int .i64 0, .string (⟨#[]⟩ : ByteArray), .slice none 0 0, .string (⟨#[]⟩ : ByteArray)] (0, 0) _ rfl (bp0_ BK1107.out) Tryd.underlying58 rfl (by kernel_rfl)) rfl ?_
  exact ⟨_, er_, by first | exact Kd.R_nil _ _ _ _ _ | exact Kd.N_nil _ _ _ _ _ | exact Kd.V_nil _ _ _ _ _ | exact Kd.Q_nil _ _ _ _ _ | exact Kd.S_nil _ _ _ _ _, bl_⟩
 replace c9 := Bool.eq_false_iff.mpr c9
 subst c9
 rw [nf_] at H
 replace H := bs_ H
 obtain ⟨⟨t1113, t1114, t1115⟩, A11, H⟩ := H
 try dsimp only at H
 replace H := bs_ H
 obtain ⟨⟨t1116, t1117⟩, A12, H⟩ := H
 try dsimp only at H
 by_cases c13 : 0 ≤ t1111
 rotate_left
 ·exact nn_ c13 H
 rw [if_pos c13] at H
 have c13b0 := eq_true c13
 have c13b1 : decide (0 ≤ t1111) = true := decide_eq_true c13
 clear c13
 by_cases c14 : t1111 ≤ (wrap64 (t1111 + 32))
 rotate_left
 ·exact nn_ c14 H
 rw [if_pos c14] at H
 have c14b0 := eq_true c14
 have c14b1 : decide (t1111 ≤ (wrap64 (t1111 + 32))) = true := decide_eq_true c14
 by_cases c15 : (wrap64 (t1111 + 32)) ≤ (t1108.size : Int)
 rotate_left
 ·exact nn_ c15 H
 rw [if_pos c15] at H
 have c15b0 := eq_true c15
 have c15b1 : decide ((wrap64 (t1111 + 32)) ≤ (t1108.size : Int)) = true := decide_eq_true c15
 replace H := bs_ H
 obtain ⟨t1121, A16, H⟩ := H
 try dsimp only at H
 have HC17 := Aside0.mk H
 clear H
 go_upto_region 11 with (first | ((with_reducible refine gate_callee (f := 75) rfl ?_); refine gs_ (some 45) Tryd.func75 #[.string t1108, .int .i64 (wrap64 (t1111 + 32))] ?_; (with_reducible refine (impl_ReadShort.calls kj4 t1108 (wrap64 (t1111 + 32)) t1113 t1114 t1115 _ A11.out).mono ?_); rintro e w18 ⟨rfl, hb⟩; refine ⟨_, rfl, ?_⟩; replace BK1107 := Aside0.mk (blk_below (bn0_ BK1107.out) hb); replace HB := Aside0.mk (below_step bl_ hb); (try clear hb)) | ((with_reducible refine gate_callee (f := 28) rfl ?_); refine gs_ (some 51) Tryd.func28 #[.string t1113] ?_; (with_reducible refine (impl_ReadLog.calls kj4 t1113 t1116 t1117 _ A12.out).mono ?_); rintro e w19 ⟨v1118, rfl, ho0, hb⟩; refine ⟨_, rfl, ?_⟩; have HO1119 := Aside0.mk (Kd.R_lower ho0 (below_size bl_)); replace BK1107 := Aside0.mk (blk_below (bn0_ BK1107.out) hb); replace HB := Aside0.mk (below_step bl_ hb); (try clear hb); (try clear ho0); obtain ⟨Ao20, co20, eo20⟩ := Kd.R_slice HO1119.out; subst eo20) | ((with_reducible refine gate_dst (N := 14) rfl ?_); (try (refine gate_guard (by rfl) ?_; dsimp only)); refine bx_ 14 58 #[.int .i64 0, .string (⟨#[]⟩ : ByteArray), .slice none 0 0, .string (⟨#[]⟩ : ByteArray)] ?_; intro gb1120 hg w21 hbox hb; replace HO1119 := Aside0.mk (Kd.R_below (ra_ HO1119.out) hb); have BK1120 := Aside0.mk (hbox); have GW1120 := Aside0.mk ((hz_ : w.heap.size ≤ gb1120)); have GE1120 := Aside0.mk ((hz_ : w.heap.size ≤ gb1120)); replace HB := Aside0.mk (below_step bl_ hb); have NB1107_1120 := Aside0.mk ((by rw [hg]; exact Nat.ne_of_lt (blk_lt (g := gb1107) (o := .cells #[.int .i64 0, .string (⟨#[]⟩ : ByteArray), .slice none 0 0, .string (⟨#[]⟩ : ByteArray)] 58 (0, 0)) (bk_ BK1107.out)) : gb1107 ≠ gb1120)); have NB1120_1107 := Aside0.mk ((by rw [hg]; exact Nat.ne_of_gt (blk_lt (g := gb1107) (o := .cells #[.int .i64 0, .string (⟨#[]⟩ : ByteArray), .slice none 0 0, .string (⟨#[]⟩ : ByteArray)] 58 (0, 0)) (bk_ BK1107.out)) : gb1120 ≠ gb1107)); replace BK1107 := Aside0.mk (blk_below (bn0_ BK1107.out) hb); clear hb hbox hg; have hnb22 := NB1120_1107.out; have hnc22 := NB1107_1120.out; obtain ⟨hcz23_0, hcz23_1, hcz23_2, hcz23_3, hfz23_0, hfz23_1, hfz23_2, hfz23_3⟩ := cf4_ BK1120.out) | ((with_reducible refine gate_callee (f := 51) rfl ?_); refine gs_ (some 65) Tryd.func51 #[.string (t1108.extract (t1111 : Int).toNat ((wrap64 (t1111 + 32)) : Int).toNat), .slice Ao20 t1116.length co20] ?_; (with_reducible refine (impl_HeadFrom.calls kj4 (t1108.extract (t1111 : Int).toNat ((wrap64 (t1111 + 32)) : Int).toNat) _ _ t1116 t1121 _ ?side1 ?side2 ?side3 A16.out).mono ?_); (case side1 => refine (Kd.R_reads' (e := 27) (base := w.heap.size) (ok := fun k_ => True) (n := t1116.length) (c := co20) ?_).2.2; exact (rfa_ HO1119.out BK1120.out)); (case side2 => exact (Kd.R_reads' HO1119.out).2.1); (case side3 => exact tab_of HT.out bl_); rintro e w24 ⟨rfl, hb⟩; refine ⟨_, rfl, ?_⟩; replace HO1119 := Aside0.mk (Kd.R_below (rfa_ HO1119.out BK1120.out) hb); replace BK1107 := Aside0.mk (blk_below (bn1_ BK1107.out NB1107_1120.out) hb); replace BK1120 := Aside0.mk (blk_below (g := gb1120) (o := .cells #[.int .i64 t1110, .string (t1108.extract (t1111 : Int).toNat ((wrap64 (t1111 + 32)) : Int).toNat), .slice Ao20 t1116.length co20, .string (⟨#[]⟩ : ByteArray)] 58 (0, 0)) (bp0_ BK1120.out) hb); replace HB := Aside0.mk (below_step bl_ hb); (try clear hb); obtain ⟨hcz25_0, hcz25_1, hcz25_2, hcz25_3, hfz25_0, hfz25_1, hfz25_2, hfz25_3⟩ := cf4_ BK1120.out))
 (try simp only [Act.put, List.setIfInBounds_toArray, List.set_cons_zero, List.set_cons_succ])
 go_cut [78] (fun v78 wc => ∃ (kq : Nat) (x78_16 : Bool), v78 = .bool x78_16 ∧ Aside0 (impl_ReadSegment.j1 kq a0 x78_16 t1110 (t1108.extract (t1111 : Int).toNat ((wrap64 (t1111 + 32)) : Int).toNat) t1116 t1121 = some (r1, r2, r3, r4, r5)) ∧ Aside0 (kq ≤ kj4) ∧ Aside0 (Kd.R k27 27 wc w.heap.size (fun _ => True) (.slice Ao20 t1116.length co20) t1116) ∧ Aside0 (wc.heap[gb1107]? = some (.cells #[.int .i64 0, .string (⟨#[]⟩ : ByteArray), (.slice none 0 0), .string (⟨#[]⟩ : ByteArray)] 58 (0, 0))) ∧ Aside0 (wc.heap[gb1120]? = some (.cells #[.int .i64 t1110, .string (t1108.extract (t1111 : Int).toNat ((wrap64 (t1111 + 32)) : Int).toNat), (.slice Ao20 t1116.length co20), .string t1121] 58 (0, 0))) ∧ Aside0 (Below w.heap.size w wc))
 case first =>
  have H := HC17.out
  clear HC17
  by_cases c26 : t1115 = true
  rotate_left
  ·replace c26 := Bool.eq_false_iff.mpr c26
   subst c26
   rw [nf_] at H
   have H' := Aside0.mk H
   clear H
   go_wp2
   go_meet
   case rel => exact ⟨_, (true), (sr_), H', ⟨by have := HJ4.out; first | omega | exact Nat.le_refl _⟩, ⟨by (with_reducible repeat (first | apply Kd.R_alloc | apply Kd.R_drewN | apply Kd.R_drew)); exact Kd.R_mono (Kd.R_far (p := ⟨gb1120, 3, none⟩) (Kd.R_types HO1119.out BK1120.out (by decide)) (fun _ hk => hk.2) (.string t1121)) (fun _ hk => trivial)⟩, ⟨bp1_ BK1107.out NB1107_1120.out⟩, ⟨bp0_ BK1120.out⟩, ⟨bl_⟩⟩
  subst c26
  rw [if_pos rfl] at H
  by_cases c27 : t1117 = true
  ·subst c27
   rw [if_pos rfl] at H
   have H' := Aside0.mk H
   clear H
   go_wp2
   go_meet
   case rel => exact ⟨_, ((t1114 != (t1108.size : Int))), (sr_), H', ⟨by have := HJ4.out; first | omega | exact Nat.le_refl _⟩, ⟨by (with_reducible repeat (first | apply Kd.R_alloc | apply Kd.R_drewN | apply Kd.R_drew)); exact Kd.R_mono (Kd.R_far (p := ⟨gb1120, 3, none⟩) (Kd.R_types HO1119.out BK1120.out (by decide)) (fun _ hk => hk.2) (.string t1121)) (fun _ hk => trivial)⟩, ⟨bp1_ BK1107.out NB1107_1120.out⟩, ⟨bp0_ BK1120.out⟩, ⟨bl_⟩⟩
  replace c27 := Bool.eq_false_iff.mpr c27
  subst c27
  rw [nf_] at H
  have H' := Aside0.mk H
  clear H
  go_wp2
  go_meet
  case rel => exact ⟨_, (true), (sr_), H', ⟨by have := HJ4.out; first | omega | exact Nat.le_refl _⟩, ⟨by (with_reducible repeat (first | apply Kd.R_alloc | apply Kd.R_drewN | apply Kd.R_drew)); exact Kd.R_mono (Kd.R_far (p := ⟨gb1120, 3, none⟩) (Kd.R_types HO1119.out BK1120.out (by decide)) (fun _ hk => hk.2) (.string t1121)) (fun _ hk => trivial)⟩, ⟨bp1_ BK1107.out NB1107_1120.out⟩, ⟨bp0_ BK1120.out⟩, ⟨bl_⟩⟩
 clear HC17
 try clear c3
 try clear c9
 try clear c13
 try clear c13b0
 try clear c13b1
 try clear c14
 try clear c14b0
 try clear c14b1
 try clear c15
 try clear c15b0
 try clear c15b1
 try clear hcz23_0
 try clear hcz23_1
 try clear hcz23_2
 try clear hcz23_3
 try clear hcz25_0
 try clear hcz25_1
 try clear hcz25_2
 try clear hcz25_3
 try clear hfz23_0
 try clear hfz23_1
 try clear hfz23_2
 try clear hfz23_3
 try clear hfz25_0
 try clear hfz25_1
 try clear hfz25_2
 try clear hfz25_3
 obtain ⟨kq, x78_16, rfl, HA, HJ16, HO_1121002, BK1107, BK1120, HB⟩ := hcut
 cases kq with
 | zero => exact absurd HA.out (by simp [impl_ReadSegment.j1])
 | succ kj16 => ?_
 have H := HA.out
 clear HA
 simp only [impl_ReadSegment.j1] at H
 by_cases c28 : x78_16 = true
 ·subst c28
  rw [if_pos rfl] at H
  simp only [Option.some.injEq, Prod.mk.injEq] at H
  obtain ⟨rfl, rfl, rfl, rfl, rfl⟩ := H
  have hnb29 := NB1107_1120.out
  have hnc29 := NB1120_1107.out
  obtain ⟨hcz30_0, hcz30_1, hcz30_2, hcz30_3, hfz30_0, hfz30_1, hfz30_2, hfz30_3⟩ := cf4_ BK1107.out
  go_wp2
  refine bodyPost_ret (results_ct rfl _ _ gb1107 58 #[.int .i64 0, .string (⟨#[]⟩ : ByteArray), .slice none 0 0, .string (⟨#[]⟩ : ByteArray)] (0, 0) _ rfl (bp0_ BK1107.out) Tryd.underlying58 rfl (by kernel_rfl)) rfl ?_
  exact ⟨_, er_, by first | exact Kd.R_nil _ _ _ _ _ | exact Kd.N_nil _ _ _ _ _ | exact Kd.V_nil _ _ _ _ _ | exact Kd.Q_nil _ _ _ _ _ | exact Kd.S_nil _ _ _ _ _, bl_⟩
 replace c28 := Bool.eq_false_iff.mpr c28
 subst c28
 rw [nf_] at H
 replace H := bs_ H
 obtain ⟨⟨t1122, t1123⟩, A31, H⟩ := H
 try dsimp only at H
 by_cases c32 : t1123 = true
 rotate_left
 ·replace c32 := Bool.eq_false_iff.mpr c32
  subst c32
  rw [nf_] at H
  simp only [Option.some.injEq, Prod.mk.injEq] at H
  obtain ⟨rfl, rfl, rfl, rfl, rfl⟩ := H
  have hnb43 := NB1120_1107.out
  have hnc43 := NB1107_1120.out
  obtain ⟨hcz44_0, hcz44_1, hcz44_2, hcz44_3, hfz44_0, hfz44_1, hfz44_2, hfz44_3⟩ := cf4_ BK1120.out
  go_wp2_with (first | ((with_reducible refine gate_callee (f := 43) rfl ?_); refine gs_ (some 82) Tryd.func43 #[.agg #[.int .i64 t1110, .string (t1108.extract (t1111 : Int).toNat ((wrap64 (t1111 + 32)) : Int).toNat), .slice Ao20 t1116.length co20, .string t1121]] ?_; (with_reducible refine (impl_SegmentText.calls kj16 t1110 (t1108.extract (t1111 : Int).toNat ((wrap64 (t1111 + 32)) : Int).toNat) _ _ t1116 t1121 t1122 false _ ?side1 ?side2 ?side3 A31.out).mono ?_); (case side1 => exact cs_ ((Kd.R_reads' HO_1121002.out).2.2)); (case side2 => exact (Kd.R_reads' HO_1121002.out).2.1); (case side3 => exact tab_of HT.out bl_); rintro e w45 ⟨rfl, hb⟩; refine ⟨_, rfl, ?_⟩; replace HO_1121002 := Aside0.mk (Kd.R_below (ra_ HO_1121002.out) hb); replace BK1107 := Aside0.mk (blk_below (bn0_ BK1107.out) hb); replace BK1120 := Aside0.mk (blk_below (bn0_ BK1120.out) hb); replace HB := Aside0.mk (below_step bl_ hb); (try clear hb); obtain ⟨hcz46_0, hcz46_1, hcz46_2, hcz46_3, hfz46_0, hfz46_1, hfz46_2, hfz46_3⟩ := cf4_ BK1107.out))
  refine bodyPost_ret (results_ct rfl _ _ gb1107 58 #[.int .i64 0, .string (⟨#[]⟩ : ByteArray), .slice none 0 0, .string (⟨#[]⟩ : ByteArray)] (0, 0) _ rfl (bp0_ BK1107.out) Tryd.underlying58 rfl (by kernel_rfl)) rfl ?_
  exact ⟨_, er_, by first | exact Kd.R_nil _ _ _ _ _ | exact Kd.N_nil _ _ _ _ _ | exact Kd.V_nil _ _ _ _ _ | exact Kd.Q_nil _ _ _ _ _ | exact Kd.S_nil _ _ _ _ _, bl_⟩
 subst c32
 rw [if_pos rfl] at H
 by_cases c33 : t1122.toList = a0.toList
 rotate_left
 ·rw [if_neg c33] at H
  have c33b0 : (t1122.toList == a0.toList) = false := beq_eq_false_iff_ne.mpr c33
  have c33b1 : (t1122.toList != a0.toList) = true := bne_iff_ne.mpr c33
  simp only [Option.some.injEq, Prod.mk.injEq] at H
  obtain ⟨rfl, rfl, rfl, rfl, rfl⟩ := H
  have hnb39 := NB1120_1107.out
  have hnc39 := NB1107_1120.out
  obtain ⟨hcz40_0, hcz40_1, hcz40_2, hcz40_3, hfz40_0, hfz40_1, hfz40_2, hfz40_3⟩ := cf4_ BK1120.out
  go_wp2_with (first | ((with_reducible refine gate_callee (f := 43) rfl ?_); refine gs_ (some 82) Tryd.func43 #[.agg #[.int .i64 t1110, .string (t1108.extract (t1111 : Int).toNat ((wrap64 (t1111 + 32)) : Int).toNat), .slice Ao20 t1116.length co20, .string t1121]] ?_; (with_reducible refine (impl_SegmentText.calls kj16 t1110 (t1108.extract (t1111 : Int).toNat ((wrap64 (t1111 + 32)) : Int).toNat) _ _ t1116 t1121 t1122 true _ ?side1 ?side2 ?side3 A31.out).mono ?_); (case side1 => exact cs_ ((Kd.R_reads' HO_1121002.out).2.2)); (case side2 => exact (Kd.R_reads' HO_1121002.out).2.1); (case side3 => exact tab_of HT.out bl_); rintro e w41 ⟨rfl, hb⟩; refine ⟨_, rfl, ?_⟩; replace HO_1121002 := Aside0.mk (Kd.R_below (ra_ HO_1121002.out) hb); replace BK1107 := Aside0.mk (blk_below (bn0_ BK1107.out) hb); replace BK1120 := Aside0.mk (blk_below (bn0_ BK1120.out) hb); replace HB := Aside0.mk (below_step bl_ hb); (try clear hb); obtain ⟨hcz42_0, hcz42_1, hcz42_2, hcz42_3, hfz42_0, hfz42_1, hfz42_2, hfz42_3⟩ := cf4_ BK1107.out))
  refine bodyPost_ret (results_ct rfl _ _ gb1107 58 #[.int .i64 0, .string (⟨#[]⟩ : ByteArray), .slice none 0 0, .string (⟨#[]⟩ : ByteArray)] (0, 0) _ rfl (bp0_ BK1107.out) Tryd.underlying58 rfl (by kernel_rfl)) rfl ?_
  exact ⟨_, er_, by first | exact Kd.R_nil _ _ _ _ _ | exact Kd.N_nil _ _ _ _ _ | exact Kd.V_nil _ _ _ _ _ | exact Kd.Q_nil _ _ _ _ _ | exact Kd.S_nil _ _ _ _ _, bl_⟩
 rw [if_pos c33] at H
 have c33b0 : (t1122.toList == a0.toList) = true := beq_iff_eq.mpr c33
 have c33b1 : (t1122.toList != a0.toList) = false := bne_eq_false_iff_eq.mpr c33
 clear c33
 simp only [Option.some.injEq, Prod.mk.injEq] at H
 obtain ⟨rfl, rfl, rfl, rfl, rfl⟩ := H
 have hnb34 := NB1120_1107.out
 have hnc34 := NB1107_1120.out
 obtain ⟨hcz35_0, hcz35_1, hcz35_2, hcz35_3, hfz35_0, hfz35_1, hfz35_2, hfz35_3⟩ := cf4_ BK1120.out
 go_wp2_with (first | ((with_reducible refine gate_callee (f := 43) rfl ?_); refine gs_ (some 82) Tryd.func43 #[.agg #[.int .i64 t1110, .string (t1108.extract (t1111 : Int).toNat ((wrap64 (t1111 + 32)) : Int).toNat), .slice Ao20 t1116.length co20, .string t1121]] ?_; (with_reducible refine (impl_SegmentText.calls kj16 t1110 (t1108.extract (t1111 : Int).toNat ((wrap64 (t1111 + 32)) : Int).toNat) _ _ t1116 t1121 t1122 true _ ?side1 ?side2 ?side3 A31.out).mono ?_); (case side1 => exact cs_ ((Kd.R_reads' HO_1121002.out).2.2)); (case side2 => exact (Kd.R_reads' HO_1121002.out).2.1); (case side3 => exact tab_of HT.out bl_); rintro e w36 ⟨rfl, hb⟩; refine ⟨_, rfl, ?_⟩; replace HO_1121002 := Aside0.mk (Kd.R_below (ra_ HO_1121002.out) hb); replace BK1107 := Aside0.mk (blk_below (bn0_ BK1107.out) hb); replace BK1120 := Aside0.mk (blk_below (bn0_ BK1120.out) hb); replace HB := Aside0.mk (below_step bl_ hb); (try clear hb); obtain ⟨hcz37_0, hcz37_1, hcz37_2, hcz37_3, hfz37_0, hfz37_1, hfz37_2, hfz37_3⟩ := cf4_ BK1120.out; obtain ⟨hcz38_0, hcz38_1, hcz38_2, hcz38_3, hfz38_0, hfz38_1, hfz38_2, hfz38_3⟩ := cf4_ BK1107.out))
 refine bodyPost_ret (results_ct rfl _ _ gb1107 58 #[.int .i64 t1110, .string (t1108.extract (t1111 : Int).toNat ((wrap64 (t1111 + 32)) : Int).toNat), .slice Ao20 t1116.length co20, .string t1121] (0, 0) _ rfl (bp0_ BK1107.out) Tryd.underlying58 rfl (by kernel_rfl)) rfl ?_
 exact ⟨_, er_, by (with_reducible repeat (first | apply Kd.R_alloc | apply Kd.R_drewN | apply Kd.R_drew)); exact Kd.R_mono (Kd.R_far (p := ⟨gb1107, 3, none⟩) (Kd.R_far (p := ⟨gb1107, 2, none⟩) (Kd.R_far (p := ⟨gb1107, 1, none⟩) (Kd.R_far (p := ⟨gb1107, 0, none⟩) (Kd.R_types HO_1121002.out BK1107.out (by decide)) (fun _ hk => hk.2) (.int .i64 t1110)) (fun _ hk => hk.2) (.string (t1108.extract (t1111 : Int).toNat ((wrap64 (t1111 + 32)) : Int).toNat))) (fun _ hk => hk.2) (.slice Ao20 t1116.length co20)) (fun _ hk => hk.2) (.string t1121)) (fun _ hk => trivial), bl_⟩

end Go.Proofs.YtdlapahfmfhbjaaDoor.PA
