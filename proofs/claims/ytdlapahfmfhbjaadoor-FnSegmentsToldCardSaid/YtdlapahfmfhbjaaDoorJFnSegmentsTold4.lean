/- Contracts of functions of the program and of the reference, and plain lemmas on what they compute: a part of the proof of the law FnSegmentsTold. No condition. -/
import Derived.Test.YtdlapahfmfhbjaaDoorG523dfx0
import Derived.Test.YtdlapahfmfhbjaaDoorGe902ex1
import Derived.Test.YtdlapahfmfhbjaaDoorGe902ex2
import Derived.Test.YtdlapahfmfhbjaaDoorJFnSegmentsTold1
import Derived.Test.YtdlapahfmfhbjaaDoorJFnSegmentsTold3
import Derived.Test.YtdlapahfmfhbjaaDoorG523dfx1
import Derived.Test.YtdlapahfmfhbjaaDoorJFnSegmentsTold2
import Derived.Test.YtdlapahfmfhbjaaDoorShortV
set_option maxHeartbeats 8000000
set_option maxRecDepth 100000
namespace Go.Proofs.YtdlapahfmfhbjaaDoor.PA
open Go.RowKit Go.Proofs.YtdlapahfmfhbjaaDoor.Short Go.Proofs.YtdlapahfmfhbjaaDoorW.PrintWords Go.Proofs.YtdlapahfmfhbjaaDoorW.PrintLast Go.Proofs.YtdlapahfmfhbjaaDoorW.PrintMore
attribute [local go_sem] max2_int min2_int max_two min_two max_three min_three max_four min_four   -- for this text's walks alone
set_option linter.unusedVariables false
set_option linter.unusedSimpArgs false

def spec_ReadSegment.j0 : Nat → ByteArray → ByteArray → Int → Int → Bool → Int → ByteArray → ByteArray → Option (Int × ByteArray × (List (S27)) × ByteArray × Bool)
 | 0, _, _, _, _, _, _, _, _ => none
 | k + 1, x0, x5, x7, x8, x42, x1126000, x1126001, x1126003 => if x42 = true then (some (x1126000, x1126001, ([] : List (S27)), x1126003, false)) else ((spec_ReadShort.f k x5 (wrap64 (x8 + 32))).bind fun bt1131 => (if bt1131.2.2 = true then ((spec_ReadLog.f k bt1131.1).bind fun bt1134 => (if bt1134.2 = true then (if 0 ≤ x8 then (if x8 ≤ (wrap64 (x8 + 32)) then (if (wrap64 (x8 + 32)) ≤ (x5.size : Int) then ((spec_HeadFrom.f k (x5.extract (x8 : Int).toNat ((wrap64 (x8 + 32)) : Int).toNat) bt1134.1).bind fun t1138 => ((spec_SegmentText.f k x7 (x5.extract (x8 : Int).toNat ((wrap64 (x8 + 32)) : Int).toNat) bt1134.1 t1138).bind fun bt1140 => (if bt1140.2 = true then (if bt1140.1.toList = x0.toList then (some (x7, x5.extract (x8 : Int).toNat ((wrap64 (x8 + 32)) : Int).toNat, bt1134.1, t1138, true)) else (some (x1126000, x1126001, ([] : List (S27)), x1126003, false))) else (some (x1126000, x1126001, ([] : List (S27)), x1126003, false))))) else (none)) else (none)) else (none)) else (some (x1126000, x1126001, ([] : List (S27)), x1126003, false)))) else (some (x1126000, x1126001, ([] : List (S27)), x1126003, false))))
def spec_ReadSegment.f (k : Nat) (a0 : ByteArray) : Option (Int × ByteArray × (List (S27)) × ByteArray × Bool) := (spec_Unsealed.f k a0).bind fun bt1126 => (if bt1126.2 = true then ((spec_ReadVar.f k bt1126.1 0).bind fun bt1128 => (if bt1128.2.2 = true then (spec_ReadSegment.j0 k a0 bt1126.1 bt1128.1 bt1128.2.1 (decide ((bt1126.1.size : Int) < (wrap64 (bt1128.2.1 + 32)))) 0 (⟨#[]⟩ : ByteArray) (⟨#[]⟩ : ByteArray)) else (spec_ReadSegment.j0 k a0 bt1126.1 bt1128.1 bt1128.2.1 true 0 (⟨#[]⟩ : ByteArray) (⟨#[]⟩ : ByteArray)))) else (some (0, (⟨#[]⟩ : ByteArray), ([] : List (S27)), (⟨#[]⟩ : ByteArray), false)))
theorem spec_ReadSegment.mono_l : ∀ k, (∀ y0 y1 y2 y3 y4 y5 y6 y7, LeO (spec_ReadSegment.j0 k y0 y1 y2 y3 y4 y5 y6 y7) (spec_ReadSegment.j0 (k + 1) y0 y1 y2 y3 y4 y5 y6 y7))
 | 0 => fun _ _ _ _ _ _ _ _ r h => by simp [spec_ReadSegment.j0] at h
 | k + 1 => by
  have ih0 := spec_ReadSegment.mono_l k
  ·intro y0 y1 y2 y3 y4 y5 y6 y7
   unfold spec_ReadSegment.j0
   have m0 := @spec_HeadFrom.mono
   have m1 := @spec_ReadLog.mono
   have m2 := @spec_ReadShort.mono
   have m3 := @spec_ReadVar.mono
   have m4 := @spec_SegmentText.mono
   have m5 := @spec_Unsealed.mono
   exact mo_
theorem spec_ReadSegment.mono : ∀ a0 k, LeO (spec_ReadSegment.f k a0) (spec_ReadSegment.f (k + 1) a0) := by
 intro a0 k
 have ih0 := spec_ReadSegment.mono_l k
 unfold spec_ReadSegment.f
 have m0 := @spec_HeadFrom.mono
 have m1 := @spec_ReadLog.mono
 have m2 := @spec_ReadShort.mono
 have m3 := @spec_ReadVar.mono
 have m4 := @spec_SegmentText.mono
 have m5 := @spec_Unsealed.mono
 exact mo_
theorem spec_ReadSegment.calls (k : Nat) (a0 : ByteArray) (r1 : Int) (r2 : ByteArray) (r3 : List (S27)) (r4 : ByteArray) (r5 : Bool) (w : World) (h : spec_ReadSegment.f k a0 = some (r1, r2, r3, r4, r5)) :
 Calls Tryd.prog 47 #[.string a0] w fun e w' => ∃ v2_ : Value, e = .returned (.tuple #[.agg #[.int .i64 r1, .string r2, v2_, .string r4], .bool r5]) ∧ Kd.R k27 27 w' w.heap.size (fun _ => True) v2_ r3 ∧ Below w.heap.size w w' := by
 have hu58 := Tryd.underlying58
 have HB := Aside0.mk (Below.refl w.heap.size w)
 have H := h
 unfold spec_ReadSegment.f at H
 clear h
 replace H := bs_ H
 obtain ⟨⟨t1126, t1127⟩, A2, H⟩ := H
 try dsimp only at H
 by_cases c3 : t1127 = true
 rotate_left
 ·replace c3 := Bool.eq_false_iff.mpr c3
  subst c3
  rw [nf_] at H
  simp only [Option.some.injEq, Prod.mk.injEq] at H
  obtain ⟨rfl, rfl, rfl, rfl, rfl⟩ := H
  go_enter Tryd.func47, Tryd.ntmps47
  go_wp2_with (first | ((with_reducible refine gate_dst (N := 2) rfl ?_); (try (refine gate_guard (by rfl) ?_; dsimp only)); refine bx_ 2 58 #[.int .i64 0, .string (⟨#[]⟩ : ByteArray), .slice none 0 0, .string (⟨#[]⟩ : ByteArray)] ?_; intro gb1124 hg w73 hbox hb; have BK1124 := Aside0.mk (hbox); have GW1124 := Aside0.mk ((hz_ : w.heap.size ≤ gb1124)); have GE1124 := Aside0.mk ((hz_ : w.heap.size ≤ gb1124)); replace HB := Aside0.mk (below_step bl_ hb); clear hb hbox hg) | ((with_reducible refine gate_dst (N := 4) rfl ?_); (try (refine gate_guard (by rfl) ?_; dsimp only)); refine bx_ 4 58 #[.int .i64 0, .string (⟨#[]⟩ : ByteArray), .slice none 0 0, .string (⟨#[]⟩ : ByteArray)] ?_; intro gb1125 hg w74 hbox hb; have BK1125 := Aside0.mk (hbox); have GW1125 := Aside0.mk ((hz_ : w.heap.size ≤ gb1125)); have GE1125 := Aside0.mk ((hz_ : w.heap.size ≤ gb1125)); replace HB := Aside0.mk (below_step bl_ hb); have NB1124_1125 := Aside0.mk ((by rw [hg]; exact Nat.ne_of_lt (blk_lt (g := gb1124) (o := .cells #[.int .i64 0, .string (⟨#[]⟩ : ByteArray), .slice none 0 0, .string (⟨#[]⟩ : ByteArray)] 58 (0, 0)) (bk_ BK1124.out)) : gb1124 ≠ gb1125)); have NB1125_1124 := Aside0.mk ((by rw [hg]; exact Nat.ne_of_gt (blk_lt (g := gb1124) (o := .cells #[.int .i64 0, .string (⟨#[]⟩ : ByteArray), .slice none 0 0, .string (⟨#[]⟩ : ByteArray)] 58 (0, 0)) (bk_ BK1124.out)) : gb1125 ≠ gb1124)); replace BK1124 := Aside0.mk (blk_below (bn0_ BK1124.out) hb); clear hb hbox hg; have hnb75 := NB1125_1124.out; have hnc75 := NB1124_1125.out; obtain ⟨hcz76_0, hcz76_1, hcz76_2, hcz76_3, hfz76_0, hfz76_1, hfz76_2, hfz76_3⟩ := cf4_ BK1125.out) | ((with_reducible refine gate_callee (f := 90) rfl ?_); refine gs_ (some 22) Tryd.func90 #[.string a0] ?_; (with_reducible refine (spec_Unsealed.calls k a0 t1126 false _ A2.out).mono ?_); rintro e w77 ⟨rfl, hb⟩; refine ⟨_, rfl, ?_⟩; replace BK1124 := Aside0.mk (blk_below (bn1_ BK1124.out NB1124_1125.out) hb); replace BK1125 := Aside0.mk (blk_below (g := gb1125) (o := .cells #[.int .i64 0, .string (⟨#[]⟩ : ByteArray), .slice none 0 0, .string (⟨#[]⟩ : ByteArray)] 58 (0, 0)) (bp0_ BK1125.out) hb); replace HB := Aside0.mk (below_step bl_ hb); (try clear hb); obtain ⟨hcz78_0, hcz78_1, hcz78_2, hcz78_3, hfz78_0, hfz78_1, hfz78_2, hfz78_3⟩ := cf4_ BK1125.out; obtain ⟨hcz79_0, hcz79_1, hcz79_2, hcz79_3, hfz79_0, hfz79_1, hfz79_2, hfz79_3⟩ := cf4_ BK1124.out))
  refine bodyPost_ret (results_ct rfl _ _ gb1124 58 #[.int .i64 0, .string (⟨#[]⟩ : ByteArray), .slice none 0 0, .string (⟨#[]⟩ : ByteArray)] (0, 0) _ rfl (bp0_ BK1124.out) Tryd.underlying58 rfl (by kernel_rfl)) rfl ?_
  exact ⟨_, er_, by first | exact Kd.R_nil _ _ _ _ _ | exact Kd.N_nil _ _ _ _ _ | exact Kd.V_nil _ _ _ _ _ | exact Kd.Q_nil _ _ _ _ _ | exact Kd.S_nil _ _ _ _ _, bl_⟩
 subst c3
 rw [if_pos rfl] at H
 replace H := bs_ H
 obtain ⟨⟨t1128, t1129, t1130⟩, A4, H⟩ := H
 try dsimp only at H
 have HC5 := Aside0.mk H
 clear H
 go_enter Tryd.func47, Tryd.ntmps47
 go_upto_region 6 with (first | ((with_reducible refine gate_dst (N := 2) rfl ?_); (try (refine gate_guard (by rfl) ?_; dsimp only)); refine bx_ 2 58 #[.int .i64 0, .string (⟨#[]⟩ : ByteArray), .slice none 0 0, .string (⟨#[]⟩ : ByteArray)] ?_; intro gb1124 hg w6 hbox hb; have BK1124 := Aside0.mk (hbox); have GW1124 := Aside0.mk ((hz_ : w.heap.size ≤ gb1124)); have GE1124 := Aside0.mk ((hz_ : w.heap.size ≤ gb1124)); replace HB := Aside0.mk (below_step bl_ hb); clear hb hbox hg) | ((with_reducible refine gate_dst (N := 4) rfl ?_); (try (refine gate_guard (by rfl) ?_; dsimp only)); refine bx_ 4 58 #[.int .i64 0, .string (⟨#[]⟩ : ByteArray), .slice none 0 0, .string (⟨#[]⟩ : ByteArray)] ?_; intro gb1125 hg w7 hbox hb; have BK1125 := Aside0.mk (hbox); have GW1125 := Aside0.mk ((hz_ : w.heap.size ≤ gb1125)); have GE1125 := Aside0.mk ((hz_ : w.heap.size ≤ gb1125)); replace HB := Aside0.mk (below_step bl_ hb); have NB1124_1125 := Aside0.mk ((by rw [hg]; exact Nat.ne_of_lt (blk_lt (g := gb1124) (o := .cells #[.int .i64 0, .string (⟨#[]⟩ : ByteArray), .slice none 0 0, .string (⟨#[]⟩ : ByteArray)] 58 (0, 0)) (bk_ BK1124.out)) : gb1124 ≠ gb1125)); have NB1125_1124 := Aside0.mk ((by rw [hg]; exact Nat.ne_of_gt (blk_lt (g := gb1124) (o := .cells #[.int .i64 0, .string (⟨#[]⟩ : ByteArray), .slice none 0 0, .string (⟨#[]⟩ : ByteArray)] 58 (0, 0)) (bk_ BK1124.out)) : gb1125 ≠ gb1124)); replace BK1124 := Aside0.mk (blk_below (bn0_ BK1124.out) hb); clear hb hbox hg; have hnb8 := NB1125_1124.out; have hnc8 := NB1124_1125.out; obtain ⟨hcz9_0, hcz9_1, hcz9_2, hcz9_3, hfz9_0, hfz9_1, hfz9_2, hfz9_3⟩ := cf4_ BK1125.out) | ((with_reducible refine gate_callee (f := 90) rfl ?_); refine gs_ (some 22) Tryd.func90 #[.string a0] ?_; (with_reducible refine (spec_Unsealed.calls k a0 t1126 true _ A2.out).mono ?_); rintro e w10 ⟨rfl, hb⟩; refine ⟨_, rfl, ?_⟩; replace BK1124 := Aside0.mk (blk_below (bn1_ BK1124.out NB1124_1125.out) hb); replace BK1125 := Aside0.mk (blk_below (g := gb1125) (o := .cells #[.int .i64 0, .string (⟨#[]⟩ : ByteArray), .slice none 0 0, .string (⟨#[]⟩ : ByteArray)] 58 (0, 0)) (bp0_ BK1125.out) hb); replace HB := Aside0.mk (below_step bl_ hb); (try clear hb)) | ((with_reducible refine gate_callee (f := 91) rfl ?_); refine gs_ (some 30) Tryd.func91 #[.string t1126, .int .i64 0] ?_; (with_reducible refine (spec_ReadVar.calls k t1126 0 t1128 t1129 t1130 _ A4.out).mono ?_); rintro e w11 ⟨rfl, hb⟩; refine ⟨_, rfl, ?_⟩; replace BK1124 := Aside0.mk (blk_below (bn0_ BK1124.out) hb); replace BK1125 := Aside0.mk (blk_below (bn0_ BK1125.out) hb); replace HB := Aside0.mk (below_step bl_ hb); (try clear hb)))
 (try simp only [Act.put, List.setIfInBounds_toArray, List.set_cons_zero, List.set_cons_succ])
 go_cut [42] (fun v42 wc => ∃ (kq : Nat) (x42_4 : Bool), v42 = .bool x42_4 ∧ Aside0 (spec_ReadSegment.j0 kq a0 t1126 t1128 t1129 x42_4 0 (⟨#[]⟩ : ByteArray) (⟨#[]⟩ : ByteArray) = some (r1, r2, r3, r4, r5)) ∧ Aside0 (kq ≤ k) ∧ Aside0 (wc.heap[gb1124]? = some (.cells #[.int .i64 0, .string (⟨#[]⟩ : ByteArray), (.slice none 0 0), .string (⟨#[]⟩ : ByteArray)] 58 (0, 0))) ∧ Aside0 (wc.heap[gb1125]? = some (.cells #[.int .i64 0, .string (⟨#[]⟩ : ByteArray), (.slice none 0 0), .string (⟨#[]⟩ : ByteArray)] 58 (0, 0))) ∧ Aside0 (Below w.heap.size w wc))
 case first =>
  have H := HC5.out
  clear HC5
  by_cases c12 : t1130 = true
  ·subst c12
   rw [if_pos rfl] at H
   have H' := Aside0.mk H
   clear H
   go_wp2
   go_meet
   case rel => exact ⟨_, (decide ((t1126.size : Int) < (wrap64 (t1129 + 32)))), (sr_), H', ⟨by first | omega | exact Nat.le_refl _⟩, ⟨bk_ BK1124.out⟩, ⟨bk_ BK1125.out⟩, ⟨bl_⟩⟩
  replace c12 := Bool.eq_false_iff.mpr c12
  subst c12
  rw [nf_] at H
  have H' := Aside0.mk H
  clear H
  go_wp2
  go_meet
  case rel => exact ⟨_, (true), (sr_), H', ⟨by first | omega | exact Nat.le_refl _⟩, ⟨bk_ BK1124.out⟩, ⟨bk_ BK1125.out⟩, ⟨bl_⟩⟩
 clear HC5
 try clear c3
 try clear hcz9_0
 try clear hcz9_1
 try clear hcz9_2
 try clear hcz9_3
 try clear hfz9_0
 try clear hfz9_1
 try clear hfz9_2
 try clear hfz9_3
 obtain ⟨kq, x42_4, rfl, HA, HJ4, BK1124, BK1125, HB⟩ := hcut
 cases kq with
 | zero => exact absurd HA.out (by simp [spec_ReadSegment.j0])
 | succ kj4 => ?_
 have H := HA.out
 clear HA
 simp only [spec_ReadSegment.j0] at H
 by_cases c13 : x42_4 = true
 ·subst c13
  rw [if_pos rfl] at H
  simp only [Option.some.injEq, Prod.mk.injEq] at H
  obtain ⟨rfl, rfl, rfl, rfl, rfl⟩ := H
  have hnb14 := NB1125_1124.out
  have hnc14 := NB1124_1125.out
  obtain ⟨hcz15_0, hcz15_1, hcz15_2, hcz15_3, hfz15_0, hfz15_1, hfz15_2, hfz15_3⟩ := cf4_ BK1125.out
  obtain ⟨hcz16_0, hcz16_1, hcz16_2, hcz16_3, hfz16_0, hfz16_1, hfz16_2, hfz16_3⟩ := cf4_ BK1124.out
  go_wp2
  refine bodyPost_ret (results_ct rfl _ _ gb1124 58 #[.int .i64 0, .string (⟨#[]⟩ : ByteArray), .slice none 0 0, .string (⟨#[]⟩ : ByteArray)] (0, 0) _ rfl (bp0_ BK1124.out) Tryd.underlying58 rfl (by kernel_rfl)) rfl ?_
  exact ⟨_, er_, by first | exact Kd.R_nil _ _ _ _ _ | exact Kd.N_nil _ _ _ _ _ | exact Kd.V_nil _ _ _ _ _ | exact Kd.Q_nil _ _ _ _ _ | exact Kd.S_nil _ _ _ _ _, bl_⟩
 replace c13 := Bool.eq_false_iff.mpr c13
 subst c13
 rw [nf_] at H
 replace H := bs_ H
 obtain ⟨⟨t1131, t1132, t1133⟩, A17, H⟩ := H
 try dsimp only at H
 by_cases c18 : t1133 = true
 rotate_left
 ·replace c18 := Bool.eq_false_iff.mpr c18
  subst c18
  rw [nf_] at H
  simp only [Option.some.injEq, Prod.mk.injEq] at H
  obtain ⟨rfl, rfl, rfl, rfl, rfl⟩ := H
  go_wp2_with (first | ((with_reducible refine gate_callee (f := 77) rfl ?_); refine gs_ (some 48) Tryd.func77 #[.string t1126, .int .i64 (wrap64 (t1129 + 32))] ?_; (with_reducible refine (spec_ReadShort.calls kj4 t1126 (wrap64 (t1129 + 32)) t1131 t1132 false _ A17.out).mono ?_); rintro e w69 ⟨rfl, hb⟩; refine ⟨_, rfl, ?_⟩; replace BK1124 := Aside0.mk (blk_below (bn0_ BK1124.out) hb); replace BK1125 := Aside0.mk (blk_below (bn0_ BK1125.out) hb); replace HB := Aside0.mk (below_step bl_ hb); (try clear hb); have hnb70 := NB1125_1124.out; have hnc70 := NB1124_1125.out; obtain ⟨hcz71_0, hcz71_1, hcz71_2, hcz71_3, hfz71_0, hfz71_1, hfz71_2, hfz71_3⟩ := cf4_ BK1125.out; obtain ⟨hcz72_0, hcz72_1, hcz72_2, hcz72_3, hfz72_0, hfz72_1, hfz72_2, hfz72_3⟩ := cf4_ BK1124.out))
  refine bodyPost_ret (results_ct rfl _ _ gb1124 58 #[.int .i64 0, .string (⟨#[]⟩ : ByteArray), .slice none 0 0, .string (⟨#[]⟩ : ByteArray)] (0, 0) _ rfl (bp0_ BK1124.out) Tryd.underlying58 rfl (by kernel_rfl)) rfl ?_
  exact ⟨_, er_, by first | exact Kd.R_nil _ _ _ _ _ | exact Kd.N_nil _ _ _ _ _ | exact Kd.V_nil _ _ _ _ _ | exact Kd.Q_nil _ _ _ _ _ | exact Kd.S_nil _ _ _ _ _, bl_⟩
 subst c18
 rw [if_pos rfl] at H
 replace H := bs_ H
 obtain ⟨⟨t1134, t1135⟩, A19, H⟩ := H
 try dsimp only at H
 by_cases c20 : t1135 = true
 rotate_left
 ·replace c20 := Bool.eq_false_iff.mpr c20
  subst c20
  rw [nf_] at H
  simp only [Option.some.injEq, Prod.mk.injEq] at H
  obtain ⟨rfl, rfl, rfl, rfl, rfl⟩ := H
  go_wp2_with (first | ((with_reducible refine gate_callee (f := 77) rfl ?_); refine gs_ (some 48) Tryd.func77 #[.string t1126, .int .i64 (wrap64 (t1129 + 32))] ?_; (with_reducible refine (spec_ReadShort.calls kj4 t1126 (wrap64 (t1129 + 32)) t1131 t1132 true _ A17.out).mono ?_); rintro e w64 ⟨rfl, hb⟩; refine ⟨_, rfl, ?_⟩; replace BK1124 := Aside0.mk (blk_below (bn0_ BK1124.out) hb); replace BK1125 := Aside0.mk (blk_below (bn0_ BK1125.out) hb); replace HB := Aside0.mk (below_step bl_ hb); (try clear hb)) | ((with_reducible refine gate_callee (f := 29) rfl ?_); refine gs_ (some 57) Tryd.func29 #[.string t1131] ?_; (with_reducible refine (spec_ReadLog.calls kj4 t1131 t1134 false _ A19.out).mono ?_); rintro e w65 ⟨v1136, rfl, ho0, hb⟩; refine ⟨_, rfl, ?_⟩; have HO1137 := Aside0.mk (Kd.R_lower ho0 (below_size bl_)); replace BK1124 := Aside0.mk (blk_below (bn0_ BK1124.out) hb); replace BK1125 := Aside0.mk (blk_below (bn0_ BK1125.out) hb); replace HB := Aside0.mk (below_step bl_ hb); (try clear hb); (try clear ho0); have hnb66 := NB1125_1124.out; have hnc66 := NB1124_1125.out; obtain ⟨hcz67_0, hcz67_1, hcz67_2, hcz67_3, hfz67_0, hfz67_1, hfz67_2, hfz67_3⟩ := cf4_ BK1125.out; obtain ⟨hcz68_0, hcz68_1, hcz68_2, hcz68_3, hfz68_0, hfz68_1, hfz68_2, hfz68_3⟩ := cf4_ BK1124.out))
  refine bodyPost_ret (results_ct rfl _ _ gb1124 58 #[.int .i64 0, .string (⟨#[]⟩ : ByteArray), .slice none 0 0, .string (⟨#[]⟩ : ByteArray)] (0, 0) _ rfl (bp0_ BK1124.out) Tryd.underlying58 rfl (by kernel_rfl)) rfl ?_
  exact ⟨_, er_, by first | exact Kd.R_nil _ _ _ _ _ | exact Kd.N_nil _ _ _ _ _ | exact Kd.V_nil _ _ _ _ _ | exact Kd.Q_nil _ _ _ _ _ | exact Kd.S_nil _ _ _ _ _, bl_⟩
 subst c20
 rw [if_pos rfl] at H
 by_cases c21 : 0 ≤ t1129
 rotate_left
 ·exact nn_ c21 H
 rw [if_pos c21] at H
 have c21b0 := eq_true c21
 have c21b1 : decide (0 ≤ t1129) = true := decide_eq_true c21
 clear c21
 by_cases c22 : t1129 ≤ (wrap64 (t1129 + 32))
 rotate_left
 ·exact nn_ c22 H
 rw [if_pos c22] at H
 have c22b0 := eq_true c22
 have c22b1 : decide (t1129 ≤ (wrap64 (t1129 + 32))) = true := decide_eq_true c22
 by_cases c23 : (wrap64 (t1129 + 32)) ≤ (t1126.size : Int)
 rotate_left
 ·exact nn_ c23 H
 rw [if_pos c23] at H
 have c23b0 := eq_true c23
 have c23b1 : decide ((wrap64 (t1129 + 32)) ≤ (t1126.size : Int)) = true := decide_eq_true c23
 replace H := bs_ H
 obtain ⟨t1138, A24, H⟩ := H
 try dsimp only at H
 replace H := bs_ H
 obtain ⟨⟨t1140, t1141⟩, A25, H⟩ := H
 try dsimp only at H
 by_cases c26 : t1141 = true
 rotate_left
 ·replace c26 := Bool.eq_false_iff.mpr c26
  subst c26
  rw [nf_] at H
  simp only [Option.some.injEq, Prod.mk.injEq] at H
  obtain ⟨rfl, rfl, rfl, rfl, rfl⟩ := H
  go_wp2_with (first | ((with_reducible refine gate_callee (f := 77) rfl ?_); refine gs_ (some 48) Tryd.func77 #[.string t1126, .int .i64 (wrap64 (t1129 + 32))] ?_; (with_reducible refine (spec_ReadShort.calls kj4 t1126 (wrap64 (t1129 + 32)) t1131 t1132 true _ A17.out).mono ?_); rintro e w52 ⟨rfl, hb⟩; refine ⟨_, rfl, ?_⟩; replace BK1124 := Aside0.mk (blk_below (bn0_ BK1124.out) hb); replace BK1125 := Aside0.mk (blk_below (bn0_ BK1125.out) hb); replace HB := Aside0.mk (below_step bl_ hb); (try clear hb)) | ((with_reducible refine gate_callee (f := 29) rfl ?_); refine gs_ (some 57) Tryd.func29 #[.string t1131] ?_; (with_reducible refine (spec_ReadLog.calls kj4 t1131 t1134 true _ A19.out).mono ?_); rintro e w53 ⟨v1136, rfl, ho0, hb⟩; refine ⟨_, rfl, ?_⟩; have HO1137 := Aside0.mk (Kd.R_lower ho0 (below_size bl_)); replace BK1124 := Aside0.mk (blk_below (bn0_ BK1124.out) hb); replace BK1125 := Aside0.mk (blk_below (bn0_ BK1125.out) hb); replace HB := Aside0.mk (below_step bl_ hb); (try clear hb); (try clear ho0); obtain ⟨Ao54, co54, eo54⟩ := Kd.R_slice HO1137.out; subst eo54) | ((with_reducible refine gate_callee (f := 52) rfl ?_); refine gs_ (some 73) Tryd.func52 #[.string (t1126.extract (t1129 : Int).toNat ((wrap64 (t1129 + 32)) : Int).toNat), .slice Ao54 t1134.length co54] ?_; (with_reducible refine (spec_HeadFrom.calls kj4 (t1126.extract (t1129 : Int).toNat ((wrap64 (t1129 + 32)) : Int).toNat) _ _ t1134 t1138 _ ?side1 ?side2 A24.out).mono ?_); (case side1 => exact cs_ ((Kd.R_reads' HO1137.out).2.2)); (case side2 => exact (Kd.R_reads' HO1137.out).2.1); rintro e w55 ⟨rfl, hb⟩; refine ⟨_, rfl, ?_⟩; replace HO1137 := Aside0.mk (Kd.R_below (ra_ HO1137.out) hb); replace BK1124 := Aside0.mk (blk_below (bn0_ BK1124.out) hb); replace BK1125 := Aside0.mk (blk_below (bn0_ BK1125.out) hb); replace HB := Aside0.mk (below_step bl_ hb); (try clear hb)) | ((with_reducible refine gate_dst (N := 16) rfl ?_); (try (refine gate_guard (by rfl) ?_; dsimp only)); refine bx_ 16 58 #[.int .i64 0, .string (⟨#[]⟩ : ByteArray), .slice none 0 0, .string (⟨#[]⟩ : ByteArray)] ?_; intro gb1139 hg w56 hbox hb; replace HO1137 := Aside0.mk (Kd.R_below (ra_ HO1137.out) hb); have BK1139 := Aside0.mk (hbox); have GW1139 := Aside0.mk ((hz_ : w.heap.size ≤ gb1139)); have GE1139 := Aside0.mk ((hz_ : w.heap.size ≤ gb1139)); replace HB := Aside0.mk (below_step bl_ hb); have NB1124_1139 := Aside0.mk ((by rw [hg]; exact Nat.ne_of_lt (blk_lt (g := gb1124) (o := .cells #[.int .i64 0, .string (⟨#[]⟩ : ByteArray), .slice none 0 0, .string (⟨#[]⟩ : ByteArray)] 58 (0, 0)) (bk_ BK1124.out)) : gb1124 ≠ gb1139)); have NB1139_1124 := Aside0.mk ((by rw [hg]; exact Nat.ne_of_gt (blk_lt (g := gb1124) (o := .cells #[.int .i64 0, .string (⟨#[]⟩ : ByteArray), .slice none 0 0, .string (⟨#[]⟩ : ByteArray)] 58 (0, 0)) (bk_ BK1124.out)) : gb1139 ≠ gb1124)); replace BK1124 := Aside0.mk (blk_below (bn0_ BK1124.out) hb); have NB1125_1139 := Aside0.mk ((by rw [hg]; exact Nat.ne_of_lt (blk_lt (g := gb1125) (o := .cells #[.int .i64 0, .string (⟨#[]⟩ : ByteArray), .slice none 0 0, .string (⟨#[]⟩ : ByteArray)] 58 (0, 0)) (bk_ BK1125.out)) : gb1125 ≠ gb1139)); have NB1139_1125 := Aside0.mk ((by rw [hg]; exact Nat.ne_of_gt (blk_lt (g := gb1125) (o := .cells #[.int .i64 0, .string (⟨#[]⟩ : ByteArray), .slice none 0 0, .string (⟨#[]⟩ : ByteArray)] 58 (0, 0)) (bk_ BK1125.out)) : gb1139 ≠ gb1125)); replace BK1125 := Aside0.mk (blk_below (bn0_ BK1125.out) hb); clear hb hbox hg; have hnb57 := NB1139_1124.out; have hnc57 := NB1124_1139.out; have hnb58 := NB1139_1125.out; have hnc58 := NB1125_1139.out; obtain ⟨hcz59_0, hcz59_1, hcz59_2, hcz59_3, hfz59_0, hfz59_1, hfz59_2, hfz59_3⟩ := cf4_ BK1139.out) | ((with_reducible refine gate_callee (f := 44) rfl ?_); refine gs_ (some 77) Tryd.func44 #[.agg #[.int .i64 t1128, .string (t1126.extract (t1129 : Int).toNat ((wrap64 (t1129 + 32)) : Int).toNat), .slice Ao54 t1134.length co54, .string t1138]] ?_; (with_reducible refine (spec_SegmentText.calls kj4 t1128 (t1126.extract (t1129 : Int).toNat ((wrap64 (t1129 + 32)) : Int).toNat) _ _ t1134 t1138 t1140 false _ ?side1 ?side2 A25.out).mono ?_); (case side1 => refine (Kd.R_reads' (e := 27) (base := w.heap.size) (ok := fun k_ => True) (n := t1134.length) (c := co54) ?_).2.2; exact (rfa_ HO1137.out BK1139.out)); (case side2 => exact (Kd.R_reads' HO1137.out).2.1); rintro e w60 ⟨rfl, hb⟩; refine ⟨_, rfl, ?_⟩; replace HO1137 := Aside0.mk (Kd.R_below (rfa_ HO1137.out BK1139.out) hb); replace BK1124 := Aside0.mk (blk_below (bn1_ BK1124.out NB1124_1139.out) hb); replace BK1125 := Aside0.mk (blk_below (bn1_ BK1125.out NB1125_1139.out) hb); replace BK1139 := Aside0.mk (blk_below (g := gb1139) (o := .cells #[.int .i64 t1128, .string (t1126.extract (t1129 : Int).toNat ((wrap64 (t1129 + 32)) : Int).toNat), .slice Ao54 t1134.length co54, .string t1138] 58 (0, 0)) (bp0_ BK1139.out) hb); replace HB := Aside0.mk (below_step bl_ hb); (try clear hb); have hnb61 := NB1125_1124.out; have hnc61 := NB1124_1125.out; obtain ⟨hcz62_0, hcz62_1, hcz62_2, hcz62_3, hfz62_0, hfz62_1, hfz62_2, hfz62_3⟩ := cf4_ BK1125.out; obtain ⟨hcz63_0, hcz63_1, hcz63_2, hcz63_3, hfz63_0, hfz63_1, hfz63_2, hfz63_3⟩ := cf4_ BK1124.out))
  refine bodyPost_ret (results_ct rfl _ _ gb1124 58 #[.int .i64 0, .string (⟨#[]⟩ : ByteArray), .slice none 0 0, .string (⟨#[]⟩ : ByteArray)] (0, 0) _ rfl (bp0_ BK1124.out) Tryd.underlying58 rfl (by kernel_rfl)) rfl ?_
  exact ⟨_, er_, by first | exact Kd.R_nil _ _ _ _ _ | exact Kd.N_nil _ _ _ _ _ | exact Kd.V_nil _ _ _ _ _ | exact Kd.Q_nil _ _ _ _ _ | exact Kd.S_nil _ _ _ _ _, bl_⟩
 subst c26
 rw [if_pos rfl] at H
 by_cases c27 : t1140.toList = a0.toList
 rotate_left
 ·rw [if_neg c27] at H
  have c27b0 : (t1140.toList == a0.toList) = false := beq_eq_false_iff_ne.mpr c27
  have c27b1 : (t1140.toList != a0.toList) = true := bne_iff_ne.mpr c27
  simp only [Option.some.injEq, Prod.mk.injEq] at H
  obtain ⟨rfl, rfl, rfl, rfl, rfl⟩ := H
  go_wp2_with (first | ((with_reducible refine gate_callee (f := 77) rfl ?_); refine gs_ (some 48) Tryd.func77 #[.string t1126, .int .i64 (wrap64 (t1129 + 32))] ?_; (with_reducible refine (spec_ReadShort.calls kj4 t1126 (wrap64 (t1129 + 32)) t1131 t1132 true _ A17.out).mono ?_); rintro e w40 ⟨rfl, hb⟩; refine ⟨_, rfl, ?_⟩; replace BK1124 := Aside0.mk (blk_below (bn0_ BK1124.out) hb); replace BK1125 := Aside0.mk (blk_below (bn0_ BK1125.out) hb); replace HB := Aside0.mk (below_step bl_ hb); (try clear hb)) | ((with_reducible refine gate_callee (f := 29) rfl ?_); refine gs_ (some 57) Tryd.func29 #[.string t1131] ?_; (with_reducible refine (spec_ReadLog.calls kj4 t1131 t1134 true _ A19.out).mono ?_); rintro e w41 ⟨v1136, rfl, ho0, hb⟩; refine ⟨_, rfl, ?_⟩; have HO1137 := Aside0.mk (Kd.R_lower ho0 (below_size bl_)); replace BK1124 := Aside0.mk (blk_below (bn0_ BK1124.out) hb); replace BK1125 := Aside0.mk (blk_below (bn0_ BK1125.out) hb); replace HB := Aside0.mk (below_step bl_ hb); (try clear hb); (try clear ho0); obtain ⟨Ao42, co42, eo42⟩ := Kd.R_slice HO1137.out; subst eo42) | ((with_reducible refine gate_callee (f := 52) rfl ?_); refine gs_ (some 73) Tryd.func52 #[.string (t1126.extract (t1129 : Int).toNat ((wrap64 (t1129 + 32)) : Int).toNat), .slice Ao42 t1134.length co42] ?_; (with_reducible refine (spec_HeadFrom.calls kj4 (t1126.extract (t1129 : Int).toNat ((wrap64 (t1129 + 32)) : Int).toNat) _ _ t1134 t1138 _ ?side1 ?side2 A24.out).mono ?_); (case side1 => exact cs_ ((Kd.R_reads' HO1137.out).2.2)); (case side2 => exact (Kd.R_reads' HO1137.out).2.1); rintro e w43 ⟨rfl, hb⟩; refine ⟨_, rfl, ?_⟩; replace HO1137 := Aside0.mk (Kd.R_below (ra_ HO1137.out) hb); replace BK1124 := Aside0.mk (blk_below (bn0_ BK1124.out) hb); replace BK1125 := Aside0.mk (blk_below (bn0_ BK1125.out) hb); replace HB := Aside0.mk (below_step bl_ hb); (try clear hb)) | ((with_reducible refine gate_dst (N := 16) rfl ?_); (try (refine gate_guard (by rfl) ?_; dsimp only)); refine bx_ 16 58 #[.int .i64 0, .string (⟨#[]⟩ : ByteArray), .slice none 0 0, .string (⟨#[]⟩ : ByteArray)] ?_; intro gb1139 hg w44 hbox hb; replace HO1137 := Aside0.mk (Kd.R_below (ra_ HO1137.out) hb); have BK1139 := Aside0.mk (hbox); have GW1139 := Aside0.mk ((hz_ : w.heap.size ≤ gb1139)); have GE1139 := Aside0.mk ((hz_ : w.heap.size ≤ gb1139)); replace HB := Aside0.mk (below_step bl_ hb); have NB1124_1139 := Aside0.mk ((by rw [hg]; exact Nat.ne_of_lt (blk_lt (g := gb1124) (o := .cells #[.int .i64 0, .string (⟨#[]⟩ : ByteArray), .slice none 0 0, .string (⟨#[]⟩ : ByteArray)] 58 (0, 0)) (bk_ BK1124.out)) : gb1124 ≠ gb1139)); have NB1139_1124 := Aside0.mk ((by rw [hg]; exact Nat.ne_of_gt (blk_lt (g := gb1124) (o := .cells #[.int .i64 0, .string (⟨#[]⟩ : ByteArray), .slice none 0 0, .string (⟨#[]⟩ : ByteArray)] 58 (0, 0)) (bk_ BK1124.out)) : gb1139 ≠ gb1124)); replace BK1124 := Aside0.mk (blk_below (bn0_ BK1124.out) hb); have NB1125_1139 := Aside0.mk ((by rw [hg]; exact Nat.ne_of_lt (blk_lt (g := gb1125) (o := .cells #[.int .i64 0, .string (⟨#[]⟩ : ByteArray), .slice none 0 0, .string (⟨#[]⟩ : ByteArray)] 58 (0, 0)) (bk_ BK1125.out)) : gb1125 ≠ gb1139)); have NB1139_1125 := Aside0.mk ((by rw [hg]; exact Nat.ne_of_gt (blk_lt (g := gb1125) (o := .cells #[.int .i64 0, .string (⟨#[]⟩ : ByteArray), .slice none 0 0, .string (⟨#[]⟩ : ByteArray)] 58 (0, 0)) (bk_ BK1125.out)) : gb1139 ≠ gb1125)); replace BK1125 := Aside0.mk (blk_below (bn0_ BK1125.out) hb); clear hb hbox hg; have hnb45 := NB1139_1124.out; have hnc45 := NB1124_1139.out; have hnb46 := NB1139_1125.out; have hnc46 := NB1125_1139.out; obtain ⟨hcz47_0, hcz47_1, hcz47_2, hcz47_3, hfz47_0, hfz47_1, hfz47_2, hfz47_3⟩ := cf4_ BK1139.out) | ((with_reducible refine gate_callee (f := 44) rfl ?_); refine gs_ (some 77) Tryd.func44 #[.agg #[.int .i64 t1128, .string (t1126.extract (t1129 : Int).toNat ((wrap64 (t1129 + 32)) : Int).toNat), .slice Ao42 t1134.length co42, .string t1138]] ?_; (with_reducible refine (spec_SegmentText.calls kj4 t1128 (t1126.extract (t1129 : Int).toNat ((wrap64 (t1129 + 32)) : Int).toNat) _ _ t1134 t1138 t1140 true _ ?side1 ?side2 A25.out).mono ?_); (case side1 => refine (Kd.R_reads' (e := 27) (base := w.heap.size) (ok := fun k_ => True) (n := t1134.length) (c := co42) ?_).2.2; exact (rfa_ HO1137.out BK1139.out)); (case side2 => exact (Kd.R_reads' HO1137.out).2.1); rintro e w48 ⟨rfl, hb⟩; refine ⟨_, rfl, ?_⟩; replace HO1137 := Aside0.mk (Kd.R_below (rfa_ HO1137.out BK1139.out) hb); replace BK1124 := Aside0.mk (blk_below (bn1_ BK1124.out NB1124_1139.out) hb); replace BK1125 := Aside0.mk (blk_below (bn1_ BK1125.out NB1125_1139.out) hb); replace BK1139 := Aside0.mk (blk_below (g := gb1139) (o := .cells #[.int .i64 t1128, .string (t1126.extract (t1129 : Int).toNat ((wrap64 (t1129 + 32)) : Int).toNat), .slice Ao42 t1134.length co42, .string t1138] 58 (0, 0)) (bp0_ BK1139.out) hb); replace HB := Aside0.mk (below_step bl_ hb); (try clear hb); have hnb49 := NB1125_1124.out; have hnc49 := NB1124_1125.out; obtain ⟨hcz50_0, hcz50_1, hcz50_2, hcz50_3, hfz50_0, hfz50_1, hfz50_2, hfz50_3⟩ := cf4_ BK1125.out; obtain ⟨hcz51_0, hcz51_1, hcz51_2, hcz51_3, hfz51_0, hfz51_1, hfz51_2, hfz51_3⟩ := cf4_ BK1124.out))
  refine bodyPost_ret (results_ct rfl _ _ gb1124 58 #[.int .i64 0, .string (⟨#[]⟩ : ByteArray), .slice none 0 0, .string (⟨#[]⟩ : ByteArray)] (0, 0) _ rfl (bp0_ BK1124.out) Tryd.underlying58 rfl (by kernel_rfl)) rfl ?_
  exact ⟨_, er_, by first | exact Kd.R_nil _ _ _ _ _ | exact Kd.N_nil _ _ _ _ _ | exact Kd.V_nil _ _ _ _ _ | exact Kd.Q_nil _ _ _ _ _ | exact Kd.S_nil _ _ _ _ _, bl_⟩
 rw [if_pos c27] at H
 have c27b0 : (t1140.toList == a0.toList) = true := beq_iff_eq.mpr c27
 have c27b1 : (t1140.toList != a0.toList) = false := bne_eq_false_iff_eq.mpr c27
 clear c27
 simp only [Option.some.injEq, Prod.mk.injEq] at H
 obtain ⟨rfl, rfl, rfl, rfl, rfl⟩ := H
 go_wp2_with (first | ((with_reducible refine gate_callee (f := 77) rfl ?_); refine gs_ (some 48) Tryd.func77 #[.string t1126, .int .i64 (wrap64 (t1129 + 32))] ?_; (with_reducible refine (spec_ReadShort.calls kj4 t1126 (wrap64 (t1129 + 32)) t1131 t1132 true _ A17.out).mono ?_); rintro e w28 ⟨rfl, hb⟩; refine ⟨_, rfl, ?_⟩; replace BK1124 := Aside0.mk (blk_below (bn0_ BK1124.out) hb); replace BK1125 := Aside0.mk (blk_below (bn0_ BK1125.out) hb); replace HB := Aside0.mk (below_step bl_ hb); (try clear hb)) | ((with_reducible refine gate_callee (f := 29) rfl ?_); refine gs_ (some 57) Tryd.func29 #[.string t1131] ?_; (with_reducible refine (spec_ReadLog.calls kj4 t1131 t1134 true _ A19.out).mono ?_); rintro e w29 ⟨v1136, rfl, ho0, hb⟩; refine ⟨_, rfl, ?_⟩; have HO1137 := Aside0.mk (Kd.R_lower ho0 (below_size bl_)); replace BK1124 := Aside0.mk (blk_below (bn0_ BK1124.out) hb); replace BK1125 := Aside0.mk (blk_below (bn0_ BK1125.out) hb); replace HB := Aside0.mk (below_step bl_ hb); (try clear hb); (try clear ho0); obtain ⟨Ao30, co30, eo30⟩ := Kd.R_slice HO1137.out; subst eo30) | ((with_reducible refine gate_callee (f := 52) rfl ?_); refine gs_ (some 73) Tryd.func52 #[.string (t1126.extract (t1129 : Int).toNat ((wrap64 (t1129 + 32)) : Int).toNat), .slice Ao30 t1134.length co30] ?_; (with_reducible refine (spec_HeadFrom.calls kj4 (t1126.extract (t1129 : Int).toNat ((wrap64 (t1129 + 32)) : Int).toNat) _ _ t1134 t1138 _ ?side1 ?side2 A24.out).mono ?_); (case side1 => exact cs_ ((Kd.R_reads' HO1137.out).2.2)); (case side2 => exact (Kd.R_reads' HO1137.out).2.1); rintro e w31 ⟨rfl, hb⟩; refine ⟨_, rfl, ?_⟩; replace HO1137 := Aside0.mk (Kd.R_below (ra_ HO1137.out) hb); replace BK1124 := Aside0.mk (blk_below (bn0_ BK1124.out) hb); replace BK1125 := Aside0.mk (blk_below (bn0_ BK1125.out) hb); replace HB := Aside0.mk (below_step bl_ hb); (try clear hb)) | ((with_reducible refine gate_dst (N := 16) rfl ?_); (try (refine gate_guard (by rfl) ?_; dsimp only)); refine bx_ 16 58 #[.int .i64 0, .string (⟨#[]⟩ : ByteArray), .slice none 0 0, .string (⟨#[]⟩ : ByteArray)] ?_; intro gb1139 hg w32 hbox hb; replace HO1137 := Aside0.mk (Kd.R_below (ra_ HO1137.out) hb); have BK1139 := Aside0.mk (hbox); have GW1139 := Aside0.mk ((hz_ : w.heap.size ≤ gb1139)); have GE1139 := Aside0.mk ((hz_ : w.heap.size ≤ gb1139)); replace HB := Aside0.mk (below_step bl_ hb); have NB1124_1139 := Aside0.mk ((by rw [hg]; exact Nat.ne_of_lt (blk_lt (g := gb1124) (o := .cells #[.int .i64 0, .string (⟨#[]⟩ : ByteArray), .slice none 0 0, .string (⟨#[]⟩ : ByteArray)] 58 (0, 0)) (bk_ BK1124.out)) : gb1124 ≠ gb1139)); have NB1139_1124 := Aside0.mk ((by rw [hg]; exact Nat.ne_of_gt (blk_lt (g := gb1124) (o := .cells #[.int .i64 0, .string (⟨#[]⟩ : ByteArray), .slice none 0 0, .string (⟨#[]⟩ : ByteArray)] 58 (0, 0)) (bk_ BK1124.out)) : gb1139 ≠ gb1124)); replace BK1124 := Aside0.mk (blk_below (bn0_ BK1124.out) hb); have NB1125_1139 := Aside0.mk ((by rw [hg]; exact Nat.ne_of_lt (blk_lt (g := gb1125) (o := .cells #[.int .i64 0, .string (⟨#[]⟩ : ByteArray), .slice none 0 0, .string (⟨#[]⟩ : ByteArray)] 58 (0, 0)) (bk_ BK1125.out)) : gb1125 ≠ gb1139)); have NB1139_1125 := Aside0.mk ((by rw [hg]; exact Nat.ne_of_gt (blk_lt (g := gb1125) (o := .cells #[.int .i64 0, .string (⟨#[]⟩ : ByteArray), .slice none 0 0, .string (⟨#[]⟩ : ByteArray)] 58 (0, 0)) (bk_ BK1125.out)) : gb1139 ≠ gb1125)); replace BK1125 := Aside0.mk (blk_below (bn0_ BK1125.out) hb); clear hb hbox hg; have hnb33 := NB1139_1124.out; have hnc33 := NB1124_1139.out; have hnb34 := NB1139_1125.out; have hnc34 := NB1125_1139.out; obtain ⟨hcz35_0, hcz35_1, hcz35_2, hcz35_3, hfz35_0, hfz35_1, hfz35_2, hfz35_3⟩ := cf4_ BK1139.out) | ((with_reducible refine gate_callee (f := 44) rfl ?_); refine gs_ (some 77) Tryd.func44 #[.agg #[.int .i64 t1128, .string (t1126.extract (t1129 : Int).toNat ((wrap64 (t1129 + 32)) : Int).toNat), .slice Ao30 t1134.length co30, .string t1138]] ?_; (with_reducible refine (spec_SegmentText.calls kj4 t1128 (t1126.extract (t1129 : Int).toNat ((wrap64 (t1129 + 32)) : Int).toNat) _ _ t1134 t1138 t1140 true _ ?side1 ?side2 A25.out).mono ?_); (case side1 => refine (Kd.R_reads' (e := 27) (base := w.heap.size) (ok := fun k_ => True) (n := t1134.length) (c := co30) ?_).2.2; exact (rfa_ HO1137.out BK1139.out)); (case side2 => exact (Kd.R_reads' HO1137.out).2.1); rintro e w36 ⟨rfl, hb⟩; refine ⟨_, rfl, ?_⟩; replace HO1137 := Aside0.mk (Kd.R_below (rfa_ HO1137.out BK1139.out) hb); replace BK1124 := Aside0.mk (blk_below (bn1_ BK1124.out NB1124_1139.out) hb); replace BK1125 := Aside0.mk (blk_below (bn1_ BK1125.out NB1125_1139.out) hb); replace BK1139 := Aside0.mk (blk_below (g := gb1139) (o := .cells #[.int .i64 t1128, .string (t1126.extract (t1129 : Int).toNat ((wrap64 (t1129 + 32)) : Int).toNat), .slice Ao30 t1134.length co30, .string t1138] 58 (0, 0)) (bp0_ BK1139.out) hb); replace HB := Aside0.mk (below_step bl_ hb); (try clear hb); obtain ⟨hcz37_0, hcz37_1, hcz37_2, hcz37_3, hfz37_0, hfz37_1, hfz37_2, hfz37_3⟩ := cf4_ BK1139.out; have hnb38 := NB1124_1125.out; have hnc38 := NB1125_1124.out; obtain ⟨hcz39_0, hcz39_1, hcz39_2, hcz39_3, hfz39_0, hfz39_1, hfz39_2, hfz39_3⟩ := cf4_ BK1124.out))
 refine bodyPost_ret (results_ct rfl _ _ gb1124 58 #[.int .i64 t1128, .string (t1126.extract (t1129 : Int).toNat ((wrap64 (t1129 + 32)) : Int).toNat), .slice Ao30 t1134.length co30, .string t1138] (0, 0) _ rfl (bp0_ BK1124.out) Tryd.underlying58 rfl (by kernel_rfl)) rfl ?_
 exact ⟨_, er_, by (with_reducible repeat (first | apply Kd.R_alloc | apply Kd.R_drewN | apply Kd.R_drew)); exact Kd.R_mono (Kd.R_far (p := ⟨gb1124, 3, none⟩) (Kd.R_far (p := ⟨gb1124, 2, none⟩) (Kd.R_far (p := ⟨gb1124, 1, none⟩) (Kd.R_far (p := ⟨gb1124, 0, none⟩) (Kd.R_types HO1137.out BK1124.out (by decide)) (fun _ hk => hk.2) (.int .i64 t1128)) (fun _ hk => hk.2) (.string (t1126.extract (t1129 : Int).toNat ((wrap64 (t1129 + 32)) : Int).toNat))) (fun _ hk => hk.2) (.slice Ao30 t1134.length co30)) (fun _ hk => hk.2) (.string t1138)) (fun _ hk => trivial), bl_⟩


def spec_DrawJoinSegments.f (k : Nat) (l0 : List Int) : Option ((List (S58))) := (spec_l01New.f k l0).bind fun bt1142 => ((spec_l28Any.f k bt1142.1 bt1142.2.1 bt1142.2.2).bind fun bt1146 => (some bt1146.1))
theorem spec_DrawJoinSegments.mono : ∀ a0 k, LeO (spec_DrawJoinSegments.f k a0) (spec_DrawJoinSegments.f (k + 1) a0) := by
 intro a0 k
 unfold spec_DrawJoinSegments.f
 have m0 := @spec_l01New.mono
 have m1 := @spec_l28Any.mono
 exact mo_
theorem spec_DrawJoinSegments.calls (k : Nat) (A0 : Option Addr) (c0 : Nat) (l0 : List Int) (r : List (S58)) (w : World) (hr0 : Kd.C (Kd.int .u8) w A0 l0.length l0) (hc0 : l0.length ≤ c0) (h : spec_DrawJoinSegments.f k l0 = some r) :
 Calls Tryd.prog 48 #[.slice A0 l0.length c0] w fun e w' => ∃ v0_ : Value, e = .returned (v0_) ∧ Kd.S k58 58 w' w.heap.size (fun _ => True) v0_ r ∧ Below w.heap.size w w' := by
 have HR0 := Aside0.mk hr0
 have HC0 := Aside0.mk hc0
 clear hr0 hc0
 have HB := Aside0.mk (Below.refl w.heap.size w)
 have H := h
 unfold spec_DrawJoinSegments.f at H
 clear h
 replace H := bs_ H
 obtain ⟨⟨t1142, t1143, t1144⟩, A2, H⟩ := H
 try dsimp only at H
 replace H := bs_ H
 obtain ⟨⟨t1146, t1149, t1150⟩, A3, H⟩ := H
 try dsimp only at H
 obtain rfl := Option.some.inj H
 go_enter Tryd.func48, Tryd.ntmps48
 go_wp2_with (first | ((with_reducible refine gate_callee (f := 58) rfl ?_); refine gs_ (some 4) Tryd.func58 #[.slice A0 l0.length c0] ?_; (with_reducible refine (spec_l01New.calls k _ _ l0 t1142 t1143 t1144 w _ ?side1 ?side2 ?side3 A2.out).mono ?_); (case side1 => repeat (first | (with_reducible first | exact HB.out | apply below_alloc | apply pw_below_drewN | apply below_drew1) | exact HB.out)); (case side2 => exact HR0.out); (case side3 => exact HC0.out); rintro e w4 ⟨g1145, rfl, hi, hb, hb2⟩; refine ⟨_, rfl, ?_⟩; replace HB := Aside0.mk (hb); have HI1145 := Aside0.mk (hi); (try clear hb); (try clear hb2); (try clear hi)) | ((with_reducible refine gate_callee (f := 92) rfl ?_); refine gs_ (some 5) Tryd.func92 #[.pointer (some ⟨g1145, 0, none⟩)] ?_; (with_reducible refine (spec_l28Any.calls k g1145 t1142 t1143 t1144 t1146 t1149 t1150 w _ ?side1 ?side2 A3.out).mono ?_); (case side1 => exact is3_); (case side2 => exact bi3_); rintro e w5 ⟨v1147, rfl, ho0, hi, hb, hk⟩; refine ⟨_, rfl, ?_⟩; have HO1148 := Aside0.mk (Kd.S_lower ho0 (below_size bi3_)); replace HB := Aside0.mk (hb); replace HI1145 := Aside0.mk (hi); (try clear hb); (try clear hk); (try clear hi); (try clear ho0)))
 go_ret
 exact ⟨_, er_, by (with_reducible repeat (first | apply Kd.S_alloc | apply Kd.S_drewN | apply Kd.S_drew)); exact HO1148.out, bi3_⟩


def impl_JoinSegments.l0 : Nat → List (S27) → ByteArray → List (S58) → Int → Int → Option ((List (S27)) × Bool)
 | 0, _, _, _, _, _ => none
 | k + 1, x4, x5, x10, x11, x12 => if x12 < x11 then (if 0 ≤ x12 then (if x12 < (x10.length : Int) then ((impl_SegmentOk.f k ((rd_T58 x10 x12).f0) ((rd_T58 x10 x12).f1) ((rd_T58 x10 x12).f2) ((rd_T58 x10 x12).f3)).bind fun t1157 => (if t1157 = true then (if ((rd_T58 x10 x12).f0) = (x4.length : Int) then (if ((rd_T58 x10 x12).f1).toList = x5.toList then (if x4.length + ((rd_T58 x10 x12).f2).length < 2932031007402 then (impl_JoinSegments.l0 k (x4 ++ ((rd_T58 x10 x12).f2)) ((rd_T58 x10 x12).f3) x10 x11 (wrap64 (x12 + 1))) else (none)) else (some ((([] : List (S27))), false))) else (some ((([] : List (S27))), false))) else (some ((([] : List (S27))), false)))) else (none)) else (none)) else (some (x4, true))
def impl_JoinSegments.f (k : Nat) (l0 : List (S58)) : Option ((List (S27)) × Bool) := (impl_Digest.f k (⟨#[]⟩ : ByteArray)).bind fun t1154 => (impl_JoinSegments.l0 k (([] : List (S27))) t1154 l0 (l0.length : Int) 0)
theorem impl_JoinSegments.mono_l : ∀ k, (∀ y0 y1 y2 y3 y4, LeO (impl_JoinSegments.l0 k y0 y1 y2 y3 y4) (impl_JoinSegments.l0 (k + 1) y0 y1 y2 y3 y4))
 | 0 => fun _ _ _ _ _ r h => by simp [impl_JoinSegments.l0] at h
 | k + 1 => by
  have ih0 := impl_JoinSegments.mono_l k
  ·intro y0 y1 y2 y3 y4
   unfold impl_JoinSegments.l0
   have m0 := @impl_Digest.mono
   have m1 := @impl_SegmentOk.mono
   exact mo_
theorem impl_JoinSegments.mono : ∀ a0 k, LeO (impl_JoinSegments.f k a0) (impl_JoinSegments.f (k + 1) a0) := by
 intro a0 k
 have ih0 := impl_JoinSegments.mono_l k
 unfold impl_JoinSegments.f
 have m0 := @impl_Digest.mono
 have m1 := @impl_SegmentOk.mono
 exact mo_
theorem impl_JoinSegments.calls (k : Nat) (A0 : Option Addr) (c0 : Nat) (l0 : List (S58)) (r1 : List (S27)) (r2 : Bool) (w : World) (hr0 : Kd.C k58 w A0 l0.length l0) (hc0 : l0.length ≤ c0) (hT : Tab w) (h : impl_JoinSegments.f k l0 = some (r1, r2)) :
 Calls Tryd.prog 49 #[.slice A0 l0.length c0] w fun e w' => ∃ v0_ : Value, e = .returned (.tuple #[v0_, .bool r2]) ∧ Kd.R k27 27 w' w.heap.size (fun _ => True) v0_ r1 ∧ Below w.heap.size w w' := by
 have hu58 := Tryd.underlying58
 have HR0 := Aside0.mk hr0
 have HC0 := Aside0.mk hc0
 clear hr0 hc0
 have HT := Aside0.mk hT
 clear hT
 have HB := Aside0.mk (Below.refl w.heap.size w)
 have H := h
 unfold impl_JoinSegments.f at H
 clear h
 obtain ⟨y1151, hy1151⟩ : ∃ y_ : List (S27), y_ = (([] : List (S27))) := ⟨_, rfl⟩
 replace H : ((impl_Digest.f k (⟨#[]⟩ : ByteArray)).bind fun t1154 => (impl_JoinSegments.l0 k y1151 t1154 l0 (l0.length : Int) 0)) = some (r1, r2) := rp_ H hy1151
 have Ny1151 := Aside0.mk hy1151
 clear hy1151
 replace H := bs_ H
 obtain ⟨t1154, A2, H⟩ := H
 try dsimp only at H
 have H' := Aside0.mk H
 clear H
 go_enter Tryd.func49, Tryd.ntmps49
 go_wp2_with (first | ((with_reducible refine gate_dst (N := 8) rfl ?_); (try (refine gate_guard (by rfl) ?_; dsimp only)); refine Kd.R_lit k27 _ 27 ?hg (N := 8) ?hd (xs := ([] : List (S27))) (inner := []) (ok := fun _ => True) (okp := fun _ => True) ?hr ?hp (fun _ hk => hk) trivial (Below.refl _ _) (Nat.le_refl _) (by simp) ?_; (case hd => rfl); (case hg => rfl); (case hr => first | (go_simp; done) | (go_simp; rfl)); (case hp => exact (Reps.none _ _)); intro v1152 w3 ho4 hb hg_ hnew_; clear hg_ hnew_; (first | rw [← Ny1151.out] at ho4 | (simp only [Int.reduceToNat] at ho4; rw [← Ny1151.out] at ho4)); have HO1153 := Aside0.mk (Kd.R_lower ho4 (below_size bl_)); replace HB := Aside0.mk (below_step bl_ hb); clear hb ho4) | ((with_reducible refine gate_callee (f := 66) rfl ?_); refine gs_ (some 9) Tryd.func66 #[.string (⟨#[]⟩ : ByteArray)] ?_; (with_reducible refine (impl_Digest.calls k (⟨#[]⟩ : ByteArray) t1154 _ ?side1 A2.out).mono ?_); (case side1 => exact tab_of HT.out bl_); rintro e w5 ⟨rfl, hb⟩; refine ⟨_, rfl, ?_⟩; replace HO1153 := Aside0.mk (Kd.R_below (ra_ HO1153.out) hb); replace HB := Aside0.mk (below_step bl_ hb); (try clear hb)))
 go_loopg [4, 5, 12] k (fun kq v4 v5 v12 w' => ∃ (x4_1 : List (S27)) (x5_1 : ByteArray) (x12_1 : Int), v5 = .string x5_1 ∧ v12 = .int .i64 x12_1 ∧ Aside0 (impl_JoinSegments.l0 kq x4_1 x5_1 l0 (l0.length : Int) x12_1 = some (r1, r2)) ∧ Aside0 (kq ≤ k) ∧ Aside0 (Kd.R k27 27 w' w.heap.size (fun _ => True) v4 x4_1) ∧ Aside0 (Below w.heap.size w w'))
 case atStart => exact ⟨(y1151), (t1154), (0), (sr_), (sr_), H', ⟨Nat.le_refl _⟩, ⟨ra_ HO1153.out⟩, ⟨bl_⟩⟩
 clear H'
 obtain ⟨x4_1, x5_1, x12_1, rfl, rfl, HA, HK1, HO_4, HB⟩ := hrel
 cases gk with
 | zero => exact absurd HA.out (by simp [impl_JoinSegments.l0])
 | succ k1 => ?_
 have H := HA.out
 clear HA
 simp only [impl_JoinSegments.l0] at H
 by_cases c6 : x12_1 < (l0.length : Int)
 rotate_left
 ·rw [if_neg c6] at H
  have c6b0 := decide_eq_false c6
  clear c6
  simp only [Option.some.injEq, Prod.mk.injEq] at H
  obtain ⟨rfl, rfl⟩ := H
  go_wp2
  go_ret2
  exact ⟨_, er_, ra_ HO_4.out, bl_⟩
 rw [if_pos c6] at H
 have c6b0 := decide_eq_true c6
 clear c6
 by_cases c7 : 0 ≤ x12_1
 rotate_left
 ·exact nn_ c7 H
 rw [if_pos c7] at H
 have c7b0 := decide_eq_true c7
 clear c7
 by_cases c8 : x12_1 < (l0.length : Int)
 rotate_left
 ·exact nn_ c8 H
 rw [if_pos c8] at H
 have c8b0 := decide_eq_true c8
 clear c8
 replace H := bs_ H
 obtain ⟨t1157, A9, H⟩ := H
 try dsimp only at H
 by_cases c10 : t1157 = true
 rotate_left
 ·replace c10 := Bool.eq_false_iff.mpr c10
  subst c10
  rw [nf_] at H
  obtain ⟨y1167, hy1167⟩ : ∃ y_ : List (S27), y_ = (([] : List (S27))) := ⟨_, rfl⟩
  replace H : (some (y1167, false)) = some (r1, r2) := rp_ H hy1167
  have Ny1167 := Aside0.mk hy1167
  clear hy1167
  simp only [Option.some.injEq, Prod.mk.injEq] at H
  obtain ⟨rfl, rfl⟩ := H
  have p1155 : 0 ≤ (x12_1 : Int) := of_decide_eq_true as_
  have q1155 : x12_1 < (l0.length : Int) := of_decide_eq_true as_
  obtain ⟨ad1155, A1155_2, c1155_2, e1155, hx1155_0, hx1155_1, hx1155_2, hx1155_3, hl1155_2, hi1155_2⟩ := at_T58 HR0.out x12_1 p1155 q1155
  cases e1155
  replace hx1155_0 := (HB.out.cell (World.block_lt_of_cell? w _ hx1155_0)).trans hx1155_0
  replace hx1155_1 := (HB.out.cell (World.block_lt_of_cell? w _ hx1155_1)).trans hx1155_1
  replace hx1155_2 := (HB.out.cell (World.block_lt_of_cell? w _ hx1155_2)).trans hx1155_2
  replace hx1155_3 := (HB.out.cell (World.block_lt_of_cell? w _ hx1155_3)).trans hx1155_3
  have HR1155_2 := Aside0.mk hi1155_2
  have HC1155_2 := Aside0.mk hl1155_2
  clear hi1155_2 hl1155_2
  replace p1155 := eq_true p1155
  replace q1155 := eq_true q1155
  go_wp2_with (first | ((with_reducible refine gate_dst (N := 7) rfl ?_); (try (refine gate_guard (by rfl) ?_; dsimp only)); refine bx_ 7 58 #[.int .i64 0, .string (⟨#[]⟩ : ByteArray), .slice none 0 0, .string (⟨#[]⟩ : ByteArray)] ?_; intro gb1156 hg w35 hbox hb; replace HO_4 := Aside0.mk (Kd.R_below (ra_ HO_4.out) hb); have BK1156 := Aside0.mk (hbox); have GW1156 := Aside0.mk ((hz_ : w.heap.size ≤ gb1156)); have GE1156 := Aside0.mk ((hz_ : w.heap.size ≤ gb1156)); replace HB := Aside0.mk (below_step bl_ hb); clear hb hbox hg; obtain ⟨hcz36_0, hcz36_1, hcz36_2, hcz36_3, hfz36_0, hfz36_1, hfz36_2, hfz36_3⟩ := cf4_ BK1156.out) | ((with_reducible refine gate_callee (f := 55) rfl ?_); refine gs_ (some 17) Tryd.func55 #[.agg #[.int .i64 ((rd_T58 l0 x12_1).f0), .string ((rd_T58 l0 x12_1).f1), .slice A1155_2 ((rd_T58 l0 x12_1).f2).length c1155_2, .string ((rd_T58 l0 x12_1).f3)]] ?_; (with_reducible refine (impl_SegmentOk.calls k1 ((rd_T58 l0 x12_1).f0) ((rd_T58 l0 x12_1).f1) _ _ ((rd_T58 l0 x12_1).f2) ((rd_T58 l0 x12_1).f3) false _ ?side1 ?side2 ?side3 A9.out).mono ?_); (case side1 => exact Kd.C_below HR1155_2.out bl_); (case side2 => exact HC1155_2.out); (case side3 => exact tab_of HT.out bl_); rintro e w37 ⟨rfl, hb⟩; refine ⟨_, rfl, ?_⟩; replace HO_4 := Aside0.mk (Kd.R_below (rfa_ HO_4.out BK1156.out) hb); replace BK1156 := Aside0.mk (blk_below (g := gb1156) (o := .cells #[.int .i64 ((rd_T58 l0 x12_1).f0), .string ((rd_T58 l0 x12_1).f1), .slice A1155_2 ((rd_T58 l0 x12_1).f2).length c1155_2, .string ((rd_T58 l0 x12_1).f3)] 58 (0, 0)) (bp0_ BK1156.out) hb); replace HB := Aside0.mk (below_step bl_ hb); (try clear hb)) | ((with_reducible refine gate_dst (N := 32) rfl ?_); (try (refine gate_guard (by rfl) ?_; dsimp only)); refine Kd.R_lit k27 _ 27 ?hg (N := 32) ?hd (xs := ([] : List (S27))) (inner := []) (ok := fun _ => True) (okp := fun _ => True) ?hr ?hp (fun _ hk => hk) trivial (Below.refl _ _) (Nat.le_refl _) (by simp) ?_; (case hd => rfl); (case hg => rfl); (case hr => first | (go_simp; done) | (go_simp; rfl)); (case hp => exact (Reps.none _ _)); intro v1168 w38 ho39 hb hg_ hnew_; clear hg_ hnew_; (first | rw [← Ny1167.out] at ho39 | (simp only [Int.reduceToNat] at ho39; rw [← Ny1167.out] at ho39)); have HO1169 := Aside0.mk (Kd.R_lower (Kd.R_new' ho39 (Kd.R_lt (ra_ HO_4.out))) (below_size bl_)); replace HO_4 := Aside0.mk (Kd.R_elder' (ra_ HO_4.out) (Kd.R_base ho39) hb); replace BK1156 := Aside0.mk (blk_below (bn0_ BK1156.out) hb); replace HB := Aside0.mk (below_step bl_ hb); clear hb ho39))
  go_ret2
  exact ⟨_, er_, by (with_reducible repeat (first | apply Kd.R_alloc | apply Kd.R_drewN | apply Kd.R_drew)); exact Kd.R_mono HO1169.out (fun _ hk => trivial), bl_⟩
 subst c10
 rw [if_pos rfl] at H
 by_cases c11 : ((rd_T58 l0 x12_1).f0) = (x4_1.length : Int)
 rotate_left
 ·rw [if_neg c11] at H
  have c11b0 : (((rd_T58 l0 x12_1).f0) == (x4_1.length : Int)) = false := beq_eq_false_iff_ne.mpr c11
  have c11b1 : (((rd_T58 l0 x12_1).f0) != (x4_1.length : Int)) = true := bne_iff_ne.mpr c11
  obtain ⟨y1164, hy1164⟩ : ∃ y_ : List (S27), y_ = (([] : List (S27))) := ⟨_, rfl⟩
  replace H : (some (y1164, false)) = some (r1, r2) := rp_ H hy1164
  have Ny1164 := Aside0.mk hy1164
  clear hy1164
  simp only [Option.some.injEq, Prod.mk.injEq] at H
  obtain ⟨rfl, rfl⟩ := H
  have p1155 : 0 ≤ (x12_1 : Int) := of_decide_eq_true as_
  have q1155 : x12_1 < (l0.length : Int) := of_decide_eq_true as_
  obtain ⟨ad1155, A1155_2, c1155_2, e1155, hx1155_0, hx1155_1, hx1155_2, hx1155_3, hl1155_2, hi1155_2⟩ := at_T58 HR0.out x12_1 p1155 q1155
  cases e1155
  replace hx1155_0 := (HB.out.cell (World.block_lt_of_cell? w _ hx1155_0)).trans hx1155_0
  replace hx1155_1 := (HB.out.cell (World.block_lt_of_cell? w _ hx1155_1)).trans hx1155_1
  replace hx1155_2 := (HB.out.cell (World.block_lt_of_cell? w _ hx1155_2)).trans hx1155_2
  replace hx1155_3 := (HB.out.cell (World.block_lt_of_cell? w _ hx1155_3)).trans hx1155_3
  have HR1155_2 := Aside0.mk hi1155_2
  have HC1155_2 := Aside0.mk hl1155_2
  clear hi1155_2 hl1155_2
  replace p1155 := eq_true p1155
  replace q1155 := eq_true q1155
  go_wp2_with (first | ((with_reducible refine gate_dst (N := 7) rfl ?_); (try (refine gate_guard (by rfl) ?_; dsimp only)); refine bx_ 7 58 #[.int .i64 0, .string (⟨#[]⟩ : ByteArray), .slice none 0 0, .string (⟨#[]⟩ : ByteArray)] ?_; intro gb1156 hg w28 hbox hb; replace HO_4 := Aside0.mk (Kd.R_below (ra_ HO_4.out) hb); have BK1156 := Aside0.mk (hbox); have GW1156 := Aside0.mk ((hz_ : w.heap.size ≤ gb1156)); have GE1156 := Aside0.mk ((hz_ : w.heap.size ≤ gb1156)); replace HB := Aside0.mk (below_step bl_ hb); clear hb hbox hg; obtain ⟨hcz29_0, hcz29_1, hcz29_2, hcz29_3, hfz29_0, hfz29_1, hfz29_2, hfz29_3⟩ := cf4_ BK1156.out) | ((with_reducible refine gate_callee (f := 55) rfl ?_); refine gs_ (some 17) Tryd.func55 #[.agg #[.int .i64 ((rd_T58 l0 x12_1).f0), .string ((rd_T58 l0 x12_1).f1), .slice A1155_2 ((rd_T58 l0 x12_1).f2).length c1155_2, .string ((rd_T58 l0 x12_1).f3)]] ?_; (with_reducible refine (impl_SegmentOk.calls k1 ((rd_T58 l0 x12_1).f0) ((rd_T58 l0 x12_1).f1) _ _ ((rd_T58 l0 x12_1).f2) ((rd_T58 l0 x12_1).f3) true _ ?side1 ?side2 ?side3 A9.out).mono ?_); (case side1 => exact Kd.C_below HR1155_2.out bl_); (case side2 => exact HC1155_2.out); (case side3 => exact tab_of HT.out bl_); rintro e w30 ⟨rfl, hb⟩; refine ⟨_, rfl, ?_⟩; replace HO_4 := Aside0.mk (Kd.R_below (rfa_ HO_4.out BK1156.out) hb); replace BK1156 := Aside0.mk (blk_below (g := gb1156) (o := .cells #[.int .i64 ((rd_T58 l0 x12_1).f0), .string ((rd_T58 l0 x12_1).f1), .slice A1155_2 ((rd_T58 l0 x12_1).f2).length c1155_2, .string ((rd_T58 l0 x12_1).f3)] 58 (0, 0)) (bp0_ BK1156.out) hb); replace HB := Aside0.mk (below_step bl_ hb); (try clear hb); obtain ⟨hcz31_0, hcz31_1, hcz31_2, hcz31_3, hfz31_0, hfz31_1, hfz31_2, hfz31_3⟩ := cf4_ BK1156.out; obtain ⟨Ao32, co32, eo32⟩ := Kd.R_slice HO_4.out; subst eo32) | ((with_reducible refine gate_dst (N := 32) rfl ?_); (try (refine gate_guard (by rfl) ?_; dsimp only)); refine Kd.R_lit k27 _ 27 ?hg (N := 32) ?hd (xs := ([] : List (S27))) (inner := []) (ok := fun _ => True) (okp := fun _ => True) ?hr ?hp (fun _ hk => hk) trivial (Below.refl _ _) (Nat.le_refl _) (by simp) ?_; (case hd => rfl); (case hg => rfl); (case hr => first | (go_simp; done) | (go_simp; rfl)); (case hp => exact (Reps.none _ _)); intro v1165 w33 ho34 hb hg_ hnew_; clear hg_ hnew_; (first | rw [← Ny1164.out] at ho34 | (simp only [Int.reduceToNat] at ho34; rw [← Ny1164.out] at ho34)); have HO1166 := Aside0.mk (Kd.R_lower (Kd.R_new' ho34 (Kd.R_lt (ra_ HO_4.out))) (below_size bl_)); replace HO_4 := Aside0.mk (Kd.R_elder' (ra_ HO_4.out) (Kd.R_base ho34) hb); replace BK1156 := Aside0.mk (blk_below (bn0_ BK1156.out) hb); replace HB := Aside0.mk (below_step bl_ hb); clear hb ho34))
  go_ret2
  exact ⟨_, er_, by (with_reducible repeat (first | apply Kd.R_alloc | apply Kd.R_drewN | apply Kd.R_drew)); exact Kd.R_mono HO1166.out (fun _ hk => trivial), bl_⟩
 rw [if_pos c11] at H
 have c11b0 : (((rd_T58 l0 x12_1).f0) == (x4_1.length : Int)) = true := beq_iff_eq.mpr c11
 have c11b1 : (((rd_T58 l0 x12_1).f0) != (x4_1.length : Int)) = false := bne_eq_false_iff_eq.mpr c11
 clear c11
 by_cases c12 : ((rd_T58 l0 x12_1).f1).toList = x5_1.toList
 rotate_left
 ·rw [if_neg c12] at H
  have c12b0 : (((rd_T58 l0 x12_1).f1).toList == x5_1.toList) = false := beq_eq_false_iff_ne.mpr c12
  have c12b1 : (((rd_T58 l0 x12_1).f1).toList != x5_1.toList) = true := bne_iff_ne.mpr c12
  obtain ⟨y1161, hy1161⟩ : ∃ y_ : List (S27), y_ = (([] : List (S27))) := ⟨_, rfl⟩
  replace H : (some (y1161, false)) = some (r1, r2) := rp_ H hy1161
  have Ny1161 := Aside0.mk hy1161
  clear hy1161
  simp only [Option.some.injEq, Prod.mk.injEq] at H
  obtain ⟨rfl, rfl⟩ := H
  have p1155 : 0 ≤ (x12_1 : Int) := of_decide_eq_true as_
  have q1155 : x12_1 < (l0.length : Int) := of_decide_eq_true as_
  obtain ⟨ad1155, A1155_2, c1155_2, e1155, hx1155_0, hx1155_1, hx1155_2, hx1155_3, hl1155_2, hi1155_2⟩ := at_T58 HR0.out x12_1 p1155 q1155
  cases e1155
  replace hx1155_0 := (HB.out.cell (World.block_lt_of_cell? w _ hx1155_0)).trans hx1155_0
  replace hx1155_1 := (HB.out.cell (World.block_lt_of_cell? w _ hx1155_1)).trans hx1155_1
  replace hx1155_2 := (HB.out.cell (World.block_lt_of_cell? w _ hx1155_2)).trans hx1155_2
  replace hx1155_3 := (HB.out.cell (World.block_lt_of_cell? w _ hx1155_3)).trans hx1155_3
  have HR1155_2 := Aside0.mk hi1155_2
  have HC1155_2 := Aside0.mk hl1155_2
  clear hi1155_2 hl1155_2
  replace p1155 := eq_true p1155
  replace q1155 := eq_true q1155
  go_wp2_with (first | ((with_reducible refine gate_dst (N := 7) rfl ?_); (try (refine gate_guard (by rfl) ?_; dsimp only)); refine bx_ 7 58 #[.int .i64 0, .string (⟨#[]⟩ : ByteArray), .slice none 0 0, .string (⟨#[]⟩ : ByteArray)] ?_; intro gb1156 hg w21 hbox hb; replace HO_4 := Aside0.mk (Kd.R_below (ra_ HO_4.out) hb); have BK1156 := Aside0.mk (hbox); have GW1156 := Aside0.mk ((hz_ : w.heap.size ≤ gb1156)); have GE1156 := Aside0.mk ((hz_ : w.heap.size ≤ gb1156)); replace HB := Aside0.mk (below_step bl_ hb); clear hb hbox hg; obtain ⟨hcz22_0, hcz22_1, hcz22_2, hcz22_3, hfz22_0, hfz22_1, hfz22_2, hfz22_3⟩ := cf4_ BK1156.out) | ((with_reducible refine gate_callee (f := 55) rfl ?_); refine gs_ (some 17) Tryd.func55 #[.agg #[.int .i64 ((rd_T58 l0 x12_1).f0), .string ((rd_T58 l0 x12_1).f1), .slice A1155_2 ((rd_T58 l0 x12_1).f2).length c1155_2, .string ((rd_T58 l0 x12_1).f3)]] ?_; (with_reducible refine (impl_SegmentOk.calls k1 ((rd_T58 l0 x12_1).f0) ((rd_T58 l0 x12_1).f1) _ _ ((rd_T58 l0 x12_1).f2) ((rd_T58 l0 x12_1).f3) true _ ?side1 ?side2 ?side3 A9.out).mono ?_); (case side1 => exact Kd.C_below HR1155_2.out bl_); (case side2 => exact HC1155_2.out); (case side3 => exact tab_of HT.out bl_); rintro e w23 ⟨rfl, hb⟩; refine ⟨_, rfl, ?_⟩; replace HO_4 := Aside0.mk (Kd.R_below (rfa_ HO_4.out BK1156.out) hb); replace BK1156 := Aside0.mk (blk_below (g := gb1156) (o := .cells #[.int .i64 ((rd_T58 l0 x12_1).f0), .string ((rd_T58 l0 x12_1).f1), .slice A1155_2 ((rd_T58 l0 x12_1).f2).length c1155_2, .string ((rd_T58 l0 x12_1).f3)] 58 (0, 0)) (bp0_ BK1156.out) hb); replace HB := Aside0.mk (below_step bl_ hb); (try clear hb); obtain ⟨hcz24_0, hcz24_1, hcz24_2, hcz24_3, hfz24_0, hfz24_1, hfz24_2, hfz24_3⟩ := cf4_ BK1156.out; obtain ⟨Ao25, co25, eo25⟩ := Kd.R_slice HO_4.out; subst eo25) | ((with_reducible refine gate_dst (N := 32) rfl ?_); (try (refine gate_guard (by rfl) ?_; dsimp only)); refine Kd.R_lit k27 _ 27 ?hg (N := 32) ?hd (xs := ([] : List (S27))) (inner := []) (ok := fun _ => True) (okp := fun _ => True) ?hr ?hp (fun _ hk => hk) trivial (Below.refl _ _) (Nat.le_refl _) (by simp) ?_; (case hd => rfl); (case hg => rfl); (case hr => first | (go_simp; done) | (go_simp; rfl)); (case hp => exact (Reps.none _ _)); intro v1162 w26 ho27 hb hg_ hnew_; clear hg_ hnew_; (first | rw [← Ny1161.out] at ho27 | (simp only [Int.reduceToNat] at ho27; rw [← Ny1161.out] at ho27)); have HO1163 := Aside0.mk (Kd.R_lower (Kd.R_new' ho27 (Kd.R_lt (ra_ HO_4.out))) (below_size bl_)); replace HO_4 := Aside0.mk (Kd.R_elder' (ra_ HO_4.out) (Kd.R_base ho27) hb); replace BK1156 := Aside0.mk (blk_below (bn0_ BK1156.out) hb); replace HB := Aside0.mk (below_step bl_ hb); clear hb ho27))
  go_ret2
  exact ⟨_, er_, by (with_reducible repeat (first | apply Kd.R_alloc | apply Kd.R_drewN | apply Kd.R_drew)); exact Kd.R_mono HO1163.out (fun _ hk => trivial), bl_⟩
 rw [if_pos c12] at H
 have c12b0 : (((rd_T58 l0 x12_1).f1).toList == x5_1.toList) = true := beq_iff_eq.mpr c12
 have c12b1 : (((rd_T58 l0 x12_1).f1).toList != x5_1.toList) = false := bne_eq_false_iff_eq.mpr c12
 clear c12
 by_cases c13 : x4_1.length + ((rd_T58 l0 x12_1).f2).length < 2932031007402
 rotate_left
 ·exact nn_ c13 H
 rw [if_pos c13] at H
 have LMc13 := Aside0.mk c13
 clear c13
 obtain ⟨y1158, hy1158⟩ : ∃ y_ : List (S27), y_ = (x4_1 ++ ((rd_T58 l0 x12_1).f2)) := ⟨_, rfl⟩
 replace H : (impl_JoinSegments.l0 k1 y1158 ((rd_T58 l0 x12_1).f3) l0 (l0.length : Int) (wrap64 (x12_1 + 1))) = some (r1, r2) := rp_ H hy1158
 have Ny1158 := Aside0.mk hy1158
 clear hy1158
 have H' := Aside0.mk H
 clear H
 have p1155 : 0 ≤ (x12_1 : Int) := of_decide_eq_true as_
 have q1155 : x12_1 < (l0.length : Int) := of_decide_eq_true as_
 obtain ⟨ad1155, A1155_2, c1155_2, e1155, hx1155_0, hx1155_1, hx1155_2, hx1155_3, hl1155_2, hi1155_2⟩ := at_T58 HR0.out x12_1 p1155 q1155
 cases e1155
 replace hx1155_0 := (HB.out.cell (World.block_lt_of_cell? w _ hx1155_0)).trans hx1155_0
 replace hx1155_1 := (HB.out.cell (World.block_lt_of_cell? w _ hx1155_1)).trans hx1155_1
 replace hx1155_2 := (HB.out.cell (World.block_lt_of_cell? w _ hx1155_2)).trans hx1155_2
 replace hx1155_3 := (HB.out.cell (World.block_lt_of_cell? w _ hx1155_3)).trans hx1155_3
 have HR1155_2 := Aside0.mk hi1155_2
 have HC1155_2 := Aside0.mk hl1155_2
 clear hi1155_2 hl1155_2
 replace p1155 := eq_true p1155
 replace q1155 := eq_true q1155
 go_wp2_with (first | ((with_reducible refine gate_dst (N := 7) rfl ?_); (try (refine gate_guard (by rfl) ?_; dsimp only)); refine bx_ 7 58 #[.int .i64 0, .string (⟨#[]⟩ : ByteArray), .slice none 0 0, .string (⟨#[]⟩ : ByteArray)] ?_; intro gb1156 hg w14 hbox hb; replace HO_4 := Aside0.mk (Kd.R_below (ra_ HO_4.out) hb); have BK1156 := Aside0.mk (hbox); have GW1156 := Aside0.mk ((hz_ : w.heap.size ≤ gb1156)); have GE1156 := Aside0.mk ((hz_ : w.heap.size ≤ gb1156)); replace HB := Aside0.mk (below_step bl_ hb); clear hb hbox hg; obtain ⟨hcz15_0, hcz15_1, hcz15_2, hcz15_3, hfz15_0, hfz15_1, hfz15_2, hfz15_3⟩ := cf4_ BK1156.out) | ((with_reducible refine gate_callee (f := 55) rfl ?_); refine gs_ (some 17) Tryd.func55 #[.agg #[.int .i64 ((rd_T58 l0 x12_1).f0), .string ((rd_T58 l0 x12_1).f1), .slice A1155_2 ((rd_T58 l0 x12_1).f2).length c1155_2, .string ((rd_T58 l0 x12_1).f3)]] ?_; (with_reducible refine (impl_SegmentOk.calls k1 ((rd_T58 l0 x12_1).f0) ((rd_T58 l0 x12_1).f1) _ _ ((rd_T58 l0 x12_1).f2) ((rd_T58 l0 x12_1).f3) true _ ?side1 ?side2 ?side3 A9.out).mono ?_); (case side1 => exact Kd.C_below HR1155_2.out bl_); (case side2 => exact HC1155_2.out); (case side3 => exact tab_of HT.out bl_); rintro e w16 ⟨rfl, hb⟩; refine ⟨_, rfl, ?_⟩; replace HO_4 := Aside0.mk (Kd.R_below (rfa_ HO_4.out BK1156.out) hb); replace BK1156 := Aside0.mk (blk_below (g := gb1156) (o := .cells #[.int .i64 ((rd_T58 l0 x12_1).f0), .string ((rd_T58 l0 x12_1).f1), .slice A1155_2 ((rd_T58 l0 x12_1).f2).length c1155_2, .string ((rd_T58 l0 x12_1).f3)] 58 (0, 0)) (bp0_ BK1156.out) hb); replace HB := Aside0.mk (below_step bl_ hb); (try clear hb); obtain ⟨hcz17_0, hcz17_1, hcz17_2, hcz17_3, hfz17_0, hfz17_1, hfz17_2, hfz17_3⟩ := cf4_ BK1156.out; obtain ⟨Ao18, co18, eo18⟩ := Kd.R_slice HO_4.out; subst eo18) | ((with_reducible refine gate_builtin (b := .append) (xs := #[.tmp 33, .tmp 35]) rfl ?_); (try (refine gate_guard (by rfl) ?_; dsimp only)); at_builtin; refine Kd.R_append_rows k27 (w0 := w) w.heap.size rfl (.tmp 33) (.tmp 35) 31 27 (.agg #[(.int .i64 0), (.int .i64 0), (.int .i64 0), (.int .i64 0), (.int .i64 0), (.int .i64 0)]) 48 rfl Tryd.underlying31 info27 rfl (by decide) (by omega) (.slice Ao18 x4_1.length co18) x4_1 ((rd_T58 l0 x12_1).f2) _ _ _ (fun _ => True) (fun _ => False) rfl rfl ?aO ?aR (fun _ _ h => h) (fun _ h => h.elim) ?aF ?aB ?aS ?aL ?_; (case aR => repeat (first | exact (Kd.C_below HR1155_2.out HB.out) | exact HR1155_2.out | (with_reducible refine Kd.C_alloc ?_ _) | (with_reducible refine Kd.C_drewN ?_ _) | (with_reducible refine Kd.C_drew ?_))); (case aB => exact bl_); (case aF => exact (fun _ _ => trivial)); (case aO => exact (ra_ HO_4.out)); (case aS => exact (below_size bl_)); (case aL => have := LMc13.out; omega); intro v1159 w19 ho hb hg hat; rw [← Ny1158.out] at ho; replace BK1156 := Aside0.mk (blk_grown (g := gb1156) (o := .cells #[.int .i64 ((rd_T58 l0 x12_1).f0), .string ((rd_T58 l0 x12_1).f1), .slice A1155_2 ((rd_T58 l0 x12_1).f2).length c1155_2, .string ((rd_T58 l0 x12_1).f3)] 58 (0, 0)) (bk_ BK1156.out) hg (Kd.R_ne HO_4.out BK1156.out (by decide))); replace HB := Aside0.mk (hb); have HO1160 := Aside0.mk (ho); clear HO_4; clear ho hb hg hat; obtain ⟨hcz20_0, hcz20_1, hcz20_2, hcz20_3, hfz20_0, hfz20_1, hfz20_2, hfz20_3⟩ := cf4_ BK1156.out))
 go_roundg k1
 case measure => have := HK1.out; omega
 case rel => exact ⟨(y1158), ((rd_T58 l0 x12_1).f3), (wrap64 (x12_1 + 1)), (sr_), (sr_), H', ⟨by have := HK1.out; omega⟩, ⟨ra_ HO1160.out⟩, ⟨bl_⟩⟩


def spec_JoinSegments.l0 : Nat → List (S58) → List (S27) → ByteArray → Int → Option ((List (S27)) × Bool)
 | 0, _, _, _, _ => none
 | k + 1, x0, x4, x5, x6 => if x6 < (x0.length : Int) then (if 0 ≤ x6 then ((spec_SegmentOk.f k ((rd_T58 x0 x6).f0) ((rd_T58 x0 x6).f1) ((rd_T58 x0 x6).f2) ((rd_T58 x0 x6).f3)).bind fun t1176 => (if t1176 = true then (if ((rd_T58 x0 x6).f0) = (x4.length : Int) then (if ((rd_T58 x0 x6).f1).toList = x5.toList then (if x4.length + ((rd_T58 x0 x6).f2).length < 2932031007402 then (spec_JoinSegments.l0 k x0 (x4 ++ ((rd_T58 x0 x6).f2)) ((rd_T58 x0 x6).f3) (wrap64 (x6 + 1))) else (none)) else (some ((([] : List (S27))), false))) else (some ((([] : List (S27))), false))) else (some ((([] : List (S27))), false)))) else (none)) else (some (x4, true))
def spec_JoinSegments.f (k : Nat) (l0 : List (S58)) : Option ((List (S27)) × Bool) := (spec_Digest.f (⟨#[]⟩ : ByteArray)).bind fun t1173 => (spec_JoinSegments.l0 k l0 (([] : List (S27))) t1173 0)
theorem spec_JoinSegments.mono_l : ∀ k, (∀ y0 y1 y2 y3, LeO (spec_JoinSegments.l0 k y0 y1 y2 y3) (spec_JoinSegments.l0 (k + 1) y0 y1 y2 y3))
 | 0 => fun _ _ _ _ r h => by simp [spec_JoinSegments.l0] at h
 | k + 1 => by
  have ih0 := spec_JoinSegments.mono_l k
  ·intro y0 y1 y2 y3
   unfold spec_JoinSegments.l0
   have m0 := @spec_SegmentOk.mono
   exact mo_
theorem spec_JoinSegments.mono : ∀ a0 k, LeO (spec_JoinSegments.f k a0) (spec_JoinSegments.f (k + 1) a0) := by
 intro a0 k
 have ih0 := spec_JoinSegments.mono_l k
 unfold spec_JoinSegments.f
 have m0 := @spec_SegmentOk.mono
 exact mo_
theorem spec_JoinSegments.calls (k : Nat) (A0 : Option Addr) (c0 : Nat) (l0 : List (S58)) (r1 : List (S27)) (r2 : Bool) (w : World) (hr0 : Kd.C k58 w A0 l0.length l0) (hc0 : l0.length ≤ c0) (h : spec_JoinSegments.f k l0 = some (r1, r2)) :
 Calls Tryd.prog 50 #[.slice A0 l0.length c0] w fun e w' => ∃ v0_ : Value, e = .returned (.tuple #[v0_, .bool r2]) ∧ Kd.R k27 27 w' w.heap.size (fun _ => True) v0_ r1 ∧ Below w.heap.size w w' := by
 have hu58 := Tryd.underlying58
 have HR0 := Aside0.mk hr0
 have HC0 := Aside0.mk hc0
 clear hr0 hc0
 have HB := Aside0.mk (Below.refl w.heap.size w)
 have H := h
 unfold spec_JoinSegments.f at H
 clear h
 obtain ⟨y1170, hy1170⟩ : ∃ y_ : List (S27), y_ = (([] : List (S27))) := ⟨_, rfl⟩
 replace H : ((spec_Digest.f (⟨#[]⟩ : ByteArray)).bind fun t1173 => (spec_JoinSegments.l0 k l0 y1170 t1173 0)) = some (r1, r2) := rp_ H hy1170
 have Ny1170 := Aside0.mk hy1170
 clear hy1170
 replace H := bs_ H
 obtain ⟨t1173, A2, H⟩ := H
 try dsimp only at H
 have H' := Aside0.mk H
 clear H
 go_enter Tryd.func50, Tryd.ntmps50
 go_wp2_with (first | ((with_reducible refine gate_dst (N := 8) rfl ?_); (try (refine gate_guard (by rfl) ?_; dsimp only)); refine Kd.R_lit k27 _ 27 ?hg (N := 8) ?hd (xs := ([] : List (S27))) (inner := []) (ok := fun _ => True) (okp := fun _ => True) ?hr ?hp (fun _ hk => hk) trivial (Below.refl _ _) (Nat.le_refl _) (by simp) ?_; (case hd => rfl); (case hg => rfl); (case hr => first | (go_simp; done) | (go_simp; rfl)); (case hp => exact (Reps.none _ _)); intro v1171 w3 ho4 hb hg_ hnew_; clear hg_ hnew_; (first | rw [← Ny1170.out] at ho4 | (simp only [Int.reduceToNat] at ho4; rw [← Ny1170.out] at ho4)); have HO1172 := Aside0.mk (Kd.R_lower ho4 (below_size bl_)); replace HB := Aside0.mk (below_step bl_ hb); clear hb ho4) | ((with_reducible refine gate_callee (f := 65) rfl ?_); refine gs_ (some 9) Tryd.func65 #[.string (⟨#[]⟩ : ByteArray)] ?_; (with_reducible refine (spec_Digest.calls (⟨#[]⟩ : ByteArray) t1173 _ A2.out).mono ?_); rintro e w5 ⟨rfl, hb⟩; refine ⟨_, rfl, ?_⟩; replace HO1172 := Aside0.mk (Kd.R_below (ra_ HO1172.out) hb); replace HB := Aside0.mk (below_step bl_ hb); (try clear hb)))
 go_loopg [4, 5, 6] k (fun kq v4 v5 v6 w' => ∃ (x4_1 : List (S27)) (x5_1 : ByteArray) (x6_1 : Int), v5 = .string x5_1 ∧ v6 = .int .i64 x6_1 ∧ Aside0 (spec_JoinSegments.l0 kq l0 x4_1 x5_1 x6_1 = some (r1, r2)) ∧ Aside0 (kq ≤ k) ∧ Aside0 (Kd.R k27 27 w' w.heap.size (fun _ => True) v4 x4_1) ∧ Aside0 (Below w.heap.size w w'))
 case atStart => exact ⟨(y1170), (t1173), (0), (sr_), (sr_), H', ⟨Nat.le_refl _⟩, ⟨ra_ HO1172.out⟩, ⟨bl_⟩⟩
 clear H'
 obtain ⟨x4_1, x5_1, x6_1, rfl, rfl, HA, HK1, HO_4, HB⟩ := hrel
 cases gk with
 | zero => exact absurd HA.out (by simp [spec_JoinSegments.l0])
 | succ k1 => ?_
 have H := HA.out
 clear HA
 simp only [spec_JoinSegments.l0] at H
 by_cases c6 : x6_1 < (l0.length : Int)
 rotate_left
 ·rw [if_neg c6] at H
  have c6b0 := decide_eq_false c6
  clear c6
  simp only [Option.some.injEq, Prod.mk.injEq] at H
  obtain ⟨rfl, rfl⟩ := H
  go_wp2
  go_ret2
  exact ⟨_, er_, ra_ HO_4.out, bl_⟩
 rw [if_pos c6] at H
 have c6b0 := decide_eq_true c6
 clear c6
 by_cases c7 : 0 ≤ x6_1
 rotate_left
 ·exact nn_ c7 H
 rw [if_pos c7] at H
 have c7b0 := decide_eq_true c7
 clear c7
 replace H := bs_ H
 obtain ⟨t1176, A8, H⟩ := H
 try dsimp only at H
 by_cases c9 : t1176 = true
 rotate_left
 ·replace c9 := Bool.eq_false_iff.mpr c9
  subst c9
  rw [nf_] at H
  obtain ⟨y1186, hy1186⟩ : ∃ y_ : List (S27), y_ = (([] : List (S27))) := ⟨_, rfl⟩
  replace H : (some (y1186, false)) = some (r1, r2) := rp_ H hy1186
  have Ny1186 := Aside0.mk hy1186
  clear hy1186
  simp only [Option.some.injEq, Prod.mk.injEq] at H
  obtain ⟨rfl, rfl⟩ := H
  have p1174 : 0 ≤ (x6_1 : Int) := of_decide_eq_true as_
  have q1174 : x6_1 < (l0.length : Int) := of_decide_eq_true as_
  obtain ⟨ad1174, A1174_2, c1174_2, e1174, hx1174_0, hx1174_1, hx1174_2, hx1174_3, hl1174_2, hi1174_2⟩ := at_T58 HR0.out x6_1 p1174 q1174
  cases e1174
  replace hx1174_0 := (HB.out.cell (World.block_lt_of_cell? w _ hx1174_0)).trans hx1174_0
  replace hx1174_1 := (HB.out.cell (World.block_lt_of_cell? w _ hx1174_1)).trans hx1174_1
  replace hx1174_2 := (HB.out.cell (World.block_lt_of_cell? w _ hx1174_2)).trans hx1174_2
  replace hx1174_3 := (HB.out.cell (World.block_lt_of_cell? w _ hx1174_3)).trans hx1174_3
  have HR1174_2 := Aside0.mk hi1174_2
  have HC1174_2 := Aside0.mk hl1174_2
  clear hi1174_2 hl1174_2
  replace p1174 := eq_true p1174
  replace q1174 := eq_true q1174
  go_wp2_with (first | ((with_reducible refine gate_dst (N := 7) rfl ?_); (try (refine gate_guard (by rfl) ?_; dsimp only)); refine bx_ 7 58 #[.int .i64 0, .string (⟨#[]⟩ : ByteArray), .slice none 0 0, .string (⟨#[]⟩ : ByteArray)] ?_; intro gb1175 hg w34 hbox hb; replace HO_4 := Aside0.mk (Kd.R_below (ra_ HO_4.out) hb); have BK1175 := Aside0.mk (hbox); have GW1175 := Aside0.mk ((hz_ : w.heap.size ≤ gb1175)); have GE1175 := Aside0.mk ((hz_ : w.heap.size ≤ gb1175)); replace HB := Aside0.mk (below_step bl_ hb); clear hb hbox hg; obtain ⟨hcz35_0, hcz35_1, hcz35_2, hcz35_3, hfz35_0, hfz35_1, hfz35_2, hfz35_3⟩ := cf4_ BK1175.out) | ((with_reducible refine gate_callee (f := 56) rfl ?_); refine gs_ (some 21) Tryd.func56 #[.agg #[.int .i64 ((rd_T58 l0 x6_1).f0), .string ((rd_T58 l0 x6_1).f1), .slice A1174_2 ((rd_T58 l0 x6_1).f2).length c1174_2, .string ((rd_T58 l0 x6_1).f3)]] ?_; (with_reducible refine (spec_SegmentOk.calls k1 ((rd_T58 l0 x6_1).f0) ((rd_T58 l0 x6_1).f1) _ _ ((rd_T58 l0 x6_1).f2) ((rd_T58 l0 x6_1).f3) false _ ?side1 ?side2 A8.out).mono ?_); (case side1 => exact Kd.C_below HR1174_2.out bl_); (case side2 => exact HC1174_2.out); rintro e w36 ⟨rfl, hb⟩; refine ⟨_, rfl, ?_⟩; replace HO_4 := Aside0.mk (Kd.R_below (rfa_ HO_4.out BK1175.out) hb); replace BK1175 := Aside0.mk (blk_below (g := gb1175) (o := .cells #[.int .i64 ((rd_T58 l0 x6_1).f0), .string ((rd_T58 l0 x6_1).f1), .slice A1174_2 ((rd_T58 l0 x6_1).f2).length c1174_2, .string ((rd_T58 l0 x6_1).f3)] 58 (0, 0)) (bp0_ BK1175.out) hb); replace HB := Aside0.mk (below_step bl_ hb); (try clear hb)) | ((with_reducible refine gate_dst (N := 36) rfl ?_); (try (refine gate_guard (by rfl) ?_; dsimp only)); refine Kd.R_lit k27 _ 27 ?hg (N := 36) ?hd (xs := ([] : List (S27))) (inner := []) (ok := fun _ => True) (okp := fun _ => True) ?hr ?hp (fun _ hk => hk) trivial (Below.refl _ _) (Nat.le_refl _) (by simp) ?_; (case hd => rfl); (case hg => rfl); (case hr => first | (go_simp; done) | (go_simp; rfl)); (case hp => exact (Reps.none _ _)); intro v1187 w37 ho38 hb hg_ hnew_; clear hg_ hnew_; (first | rw [← Ny1186.out] at ho38 | (simp only [Int.reduceToNat] at ho38; rw [← Ny1186.out] at ho38)); have HO1188 := Aside0.mk (Kd.R_lower (Kd.R_new' ho38 (Kd.R_lt (ra_ HO_4.out))) (below_size bl_)); replace HO_4 := Aside0.mk (Kd.R_elder' (ra_ HO_4.out) (Kd.R_base ho38) hb); replace BK1175 := Aside0.mk (blk_below (bn0_ BK1175.out) hb); replace HB := Aside0.mk (below_step bl_ hb); clear hb ho38))
  go_ret2
  exact ⟨_, er_, by (with_reducible repeat (first | apply Kd.R_alloc | apply Kd.R_drewN | apply Kd.R_drew)); exact Kd.R_mono HO1188.out (fun _ hk => trivial), bl_⟩
 subst c9
 rw [if_pos rfl] at H
 by_cases c10 : ((rd_T58 l0 x6_1).f0) = (x4_1.length : Int)
 rotate_left
 ·rw [if_neg c10] at H
  have c10b0 : (((rd_T58 l0 x6_1).f0) == (x4_1.length : Int)) = false := beq_eq_false_iff_ne.mpr c10
  have c10b1 : (((rd_T58 l0 x6_1).f0) != (x4_1.length : Int)) = true := bne_iff_ne.mpr c10
  obtain ⟨y1183, hy1183⟩ : ∃ y_ : List (S27), y_ = (([] : List (S27))) := ⟨_, rfl⟩
  replace H : (some (y1183, false)) = some (r1, r2) := rp_ H hy1183
  have Ny1183 := Aside0.mk hy1183
  clear hy1183
  simp only [Option.some.injEq, Prod.mk.injEq] at H
  obtain ⟨rfl, rfl⟩ := H
  have p1174 : 0 ≤ (x6_1 : Int) := of_decide_eq_true as_
  have q1174 : x6_1 < (l0.length : Int) := of_decide_eq_true as_
  obtain ⟨ad1174, A1174_2, c1174_2, e1174, hx1174_0, hx1174_1, hx1174_2, hx1174_3, hl1174_2, hi1174_2⟩ := at_T58 HR0.out x6_1 p1174 q1174
  cases e1174
  replace hx1174_0 := (HB.out.cell (World.block_lt_of_cell? w _ hx1174_0)).trans hx1174_0
  replace hx1174_1 := (HB.out.cell (World.block_lt_of_cell? w _ hx1174_1)).trans hx1174_1
  replace hx1174_2 := (HB.out.cell (World.block_lt_of_cell? w _ hx1174_2)).trans hx1174_2
  replace hx1174_3 := (HB.out.cell (World.block_lt_of_cell? w _ hx1174_3)).trans hx1174_3
  have HR1174_2 := Aside0.mk hi1174_2
  have HC1174_2 := Aside0.mk hl1174_2
  clear hi1174_2 hl1174_2
  replace p1174 := eq_true p1174
  replace q1174 := eq_true q1174
  go_wp2_with (first | ((with_reducible refine gate_dst (N := 7) rfl ?_); (try (refine gate_guard (by rfl) ?_; dsimp only)); refine bx_ 7 58 #[.int .i64 0, .string (⟨#[]⟩ : ByteArray), .slice none 0 0, .string (⟨#[]⟩ : ByteArray)] ?_; intro gb1175 hg w27 hbox hb; replace HO_4 := Aside0.mk (Kd.R_below (ra_ HO_4.out) hb); have BK1175 := Aside0.mk (hbox); have GW1175 := Aside0.mk ((hz_ : w.heap.size ≤ gb1175)); have GE1175 := Aside0.mk ((hz_ : w.heap.size ≤ gb1175)); replace HB := Aside0.mk (below_step bl_ hb); clear hb hbox hg; obtain ⟨hcz28_0, hcz28_1, hcz28_2, hcz28_3, hfz28_0, hfz28_1, hfz28_2, hfz28_3⟩ := cf4_ BK1175.out) | ((with_reducible refine gate_callee (f := 56) rfl ?_); refine gs_ (some 21) Tryd.func56 #[.agg #[.int .i64 ((rd_T58 l0 x6_1).f0), .string ((rd_T58 l0 x6_1).f1), .slice A1174_2 ((rd_T58 l0 x6_1).f2).length c1174_2, .string ((rd_T58 l0 x6_1).f3)]] ?_; (with_reducible refine (spec_SegmentOk.calls k1 ((rd_T58 l0 x6_1).f0) ((rd_T58 l0 x6_1).f1) _ _ ((rd_T58 l0 x6_1).f2) ((rd_T58 l0 x6_1).f3) true _ ?side1 ?side2 A8.out).mono ?_); (case side1 => exact Kd.C_below HR1174_2.out bl_); (case side2 => exact HC1174_2.out); rintro e w29 ⟨rfl, hb⟩; refine ⟨_, rfl, ?_⟩; replace HO_4 := Aside0.mk (Kd.R_below (rfa_ HO_4.out BK1175.out) hb); replace BK1175 := Aside0.mk (blk_below (g := gb1175) (o := .cells #[.int .i64 ((rd_T58 l0 x6_1).f0), .string ((rd_T58 l0 x6_1).f1), .slice A1174_2 ((rd_T58 l0 x6_1).f2).length c1174_2, .string ((rd_T58 l0 x6_1).f3)] 58 (0, 0)) (bp0_ BK1175.out) hb); replace HB := Aside0.mk (below_step bl_ hb); (try clear hb); obtain ⟨hcz30_0, hcz30_1, hcz30_2, hcz30_3, hfz30_0, hfz30_1, hfz30_2, hfz30_3⟩ := cf4_ BK1175.out; obtain ⟨Ao31, co31, eo31⟩ := Kd.R_slice HO_4.out; subst eo31) | ((with_reducible refine gate_dst (N := 36) rfl ?_); (try (refine gate_guard (by rfl) ?_; dsimp only)); refine Kd.R_lit k27 _ 27 ?hg (N := 36) ?hd (xs := ([] : List (S27))) (inner := []) (ok := fun _ => True) (okp := fun _ => True) ?hr ?hp (fun _ hk => hk) trivial (Below.refl _ _) (Nat.le_refl _) (by simp) ?_; (case hd => rfl); (case hg => rfl); (case hr => first | (go_simp; done) | (go_simp; rfl)); (case hp => exact (Reps.none _ _)); intro v1184 w32 ho33 hb hg_ hnew_; clear hg_ hnew_; (first | rw [← Ny1183.out] at ho33 | (simp only [Int.reduceToNat] at ho33; rw [← Ny1183.out] at ho33)); have HO1185 := Aside0.mk (Kd.R_lower (Kd.R_new' ho33 (Kd.R_lt (ra_ HO_4.out))) (below_size bl_)); replace HO_4 := Aside0.mk (Kd.R_elder' (ra_ HO_4.out) (Kd.R_base ho33) hb); replace BK1175 := Aside0.mk (blk_below (bn0_ BK1175.out) hb); replace HB := Aside0.mk (below_step bl_ hb); clear hb ho33))
  go_ret2
  exact ⟨_, er_, by (with_reducible repeat (first | apply Kd.R_alloc | apply Kd.R_drewN | apply Kd.R_drew)); exact Kd.R_mono HO1185.out (fun _ hk => trivial), bl_⟩
 rw [if_pos c10] at H
 have c10b0 : (((rd_T58 l0 x6_1).f0) == (x4_1.length : Int)) = true := beq_iff_eq.mpr c10
 have c10b1 : (((rd_T58 l0 x6_1).f0) != (x4_1.length : Int)) = false := bne_eq_false_iff_eq.mpr c10
 clear c10
 by_cases c11 : ((rd_T58 l0 x6_1).f1).toList = x5_1.toList
 rotate_left
 ·rw [if_neg c11] at H
  have c11b0 : (((rd_T58 l0 x6_1).f1).toList == x5_1.toList) = false := beq_eq_false_iff_ne.mpr c11
  have c11b1 : (((rd_T58 l0 x6_1).f1).toList != x5_1.toList) = true := bne_iff_ne.mpr c11
  obtain ⟨y1180, hy1180⟩ : ∃ y_ : List (S27), y_ = (([] : List (S27))) := ⟨_, rfl⟩
  replace H : (some (y1180, false)) = some (r1, r2) := rp_ H hy1180
  have Ny1180 := Aside0.mk hy1180
  clear hy1180
  simp only [Option.some.injEq, Prod.mk.injEq] at H
  obtain ⟨rfl, rfl⟩ := H
  have p1174 : 0 ≤ (x6_1 : Int) := of_decide_eq_true as_
  have q1174 : x6_1 < (l0.length : Int) := of_decide_eq_true as_
  obtain ⟨ad1174, A1174_2, c1174_2, e1174, hx1174_0, hx1174_1, hx1174_2, hx1174_3, hl1174_2, hi1174_2⟩ := at_T58 HR0.out x6_1 p1174 q1174
  cases e1174
  replace hx1174_0 := (HB.out.cell (World.block_lt_of_cell? w _ hx1174_0)).trans hx1174_0
  replace hx1174_1 := (HB.out.cell (World.block_lt_of_cell? w _ hx1174_1)).trans hx1174_1
  replace hx1174_2 := (HB.out.cell (World.block_lt_of_cell? w _ hx1174_2)).trans hx1174_2
  replace hx1174_3 := (HB.out.cell (World.block_lt_of_cell? w _ hx1174_3)).trans hx1174_3
  have HR1174_2 := Aside0.mk hi1174_2
  have HC1174_2 := Aside0.mk hl1174_2
  clear hi1174_2 hl1174_2
  replace p1174 := eq_true p1174
  replace q1174 := eq_true q1174
  go_wp2_with (first | ((with_reducible refine gate_dst (N := 7) rfl ?_); (try (refine gate_guard (by rfl) ?_; dsimp only)); refine bx_ 7 58 #[.int .i64 0, .string (⟨#[]⟩ : ByteArray), .slice none 0 0, .string (⟨#[]⟩ : ByteArray)] ?_; intro gb1175 hg w20 hbox hb; replace HO_4 := Aside0.mk (Kd.R_below (ra_ HO_4.out) hb); have BK1175 := Aside0.mk (hbox); have GW1175 := Aside0.mk ((hz_ : w.heap.size ≤ gb1175)); have GE1175 := Aside0.mk ((hz_ : w.heap.size ≤ gb1175)); replace HB := Aside0.mk (below_step bl_ hb); clear hb hbox hg; obtain ⟨hcz21_0, hcz21_1, hcz21_2, hcz21_3, hfz21_0, hfz21_1, hfz21_2, hfz21_3⟩ := cf4_ BK1175.out) | ((with_reducible refine gate_callee (f := 56) rfl ?_); refine gs_ (some 21) Tryd.func56 #[.agg #[.int .i64 ((rd_T58 l0 x6_1).f0), .string ((rd_T58 l0 x6_1).f1), .slice A1174_2 ((rd_T58 l0 x6_1).f2).length c1174_2, .string ((rd_T58 l0 x6_1).f3)]] ?_; (with_reducible refine (spec_SegmentOk.calls k1 ((rd_T58 l0 x6_1).f0) ((rd_T58 l0 x6_1).f1) _ _ ((rd_T58 l0 x6_1).f2) ((rd_T58 l0 x6_1).f3) true _ ?side1 ?side2 A8.out).mono ?_); (case side1 => exact Kd.C_below HR1174_2.out bl_); (case side2 => exact HC1174_2.out); rintro e w22 ⟨rfl, hb⟩; refine ⟨_, rfl, ?_⟩; replace HO_4 := Aside0.mk (Kd.R_below (rfa_ HO_4.out BK1175.out) hb); replace BK1175 := Aside0.mk (blk_below (g := gb1175) (o := .cells #[.int .i64 ((rd_T58 l0 x6_1).f0), .string ((rd_T58 l0 x6_1).f1), .slice A1174_2 ((rd_T58 l0 x6_1).f2).length c1174_2, .string ((rd_T58 l0 x6_1).f3)] 58 (0, 0)) (bp0_ BK1175.out) hb); replace HB := Aside0.mk (below_step bl_ hb); (try clear hb); obtain ⟨hcz23_0, hcz23_1, hcz23_2, hcz23_3, hfz23_0, hfz23_1, hfz23_2, hfz23_3⟩ := cf4_ BK1175.out; obtain ⟨Ao24, co24, eo24⟩ := Kd.R_slice HO_4.out; subst eo24) | ((with_reducible refine gate_dst (N := 36) rfl ?_); (try (refine gate_guard (by rfl) ?_; dsimp only)); refine Kd.R_lit k27 _ 27 ?hg (N := 36) ?hd (xs := ([] : List (S27))) (inner := []) (ok := fun _ => True) (okp := fun _ => True) ?hr ?hp (fun _ hk => hk) trivial (Below.refl _ _) (Nat.le_refl _) (by simp) ?_; (case hd => rfl); (case hg => rfl); (case hr => first | (go_simp; done) | (go_simp; rfl)); (case hp => exact (Reps.none _ _)); intro v1181 w25 ho26 hb hg_ hnew_; clear hg_ hnew_; (first | rw [← Ny1180.out] at ho26 | (simp only [Int.reduceToNat] at ho26; rw [← Ny1180.out] at ho26)); have HO1182 := Aside0.mk (Kd.R_lower (Kd.R_new' ho26 (Kd.R_lt (ra_ HO_4.out))) (below_size bl_)); replace HO_4 := Aside0.mk (Kd.R_elder' (ra_ HO_4.out) (Kd.R_base ho26) hb); replace BK1175 := Aside0.mk (blk_below (bn0_ BK1175.out) hb); replace HB := Aside0.mk (below_step bl_ hb); clear hb ho26))
  go_ret2
  exact ⟨_, er_, by (with_reducible repeat (first | apply Kd.R_alloc | apply Kd.R_drewN | apply Kd.R_drew)); exact Kd.R_mono HO1182.out (fun _ hk => trivial), bl_⟩
 rw [if_pos c11] at H
 have c11b0 : (((rd_T58 l0 x6_1).f1).toList == x5_1.toList) = true := beq_iff_eq.mpr c11
 have c11b1 : (((rd_T58 l0 x6_1).f1).toList != x5_1.toList) = false := bne_eq_false_iff_eq.mpr c11
 clear c11
 by_cases c12 : x4_1.length + ((rd_T58 l0 x6_1).f2).length < 2932031007402
 rotate_left
 ·exact nn_ c12 H
 rw [if_pos c12] at H
 have LMc12 := Aside0.mk c12
 clear c12
 obtain ⟨y1177, hy1177⟩ : ∃ y_ : List (S27), y_ = (x4_1 ++ ((rd_T58 l0 x6_1).f2)) := ⟨_, rfl⟩
 replace H : (spec_JoinSegments.l0 k1 l0 y1177 ((rd_T58 l0 x6_1).f3) (wrap64 (x6_1 + 1))) = some (r1, r2) := rp_ H hy1177
 have Ny1177 := Aside0.mk hy1177
 clear hy1177
 have H' := Aside0.mk H
 clear H
 have p1174 : 0 ≤ (x6_1 : Int) := of_decide_eq_true as_
 have q1174 : x6_1 < (l0.length : Int) := of_decide_eq_true as_
 obtain ⟨ad1174, A1174_2, c1174_2, e1174, hx1174_0, hx1174_1, hx1174_2, hx1174_3, hl1174_2, hi1174_2⟩ := at_T58 HR0.out x6_1 p1174 q1174
 cases e1174
 replace hx1174_0 := (HB.out.cell (World.block_lt_of_cell? w _ hx1174_0)).trans hx1174_0
 replace hx1174_1 := (HB.out.cell (World.block_lt_of_cell? w _ hx1174_1)).trans hx1174_1
 replace hx1174_2 := (HB.out.cell (World.block_lt_of_cell? w _ hx1174_2)).trans hx1174_2
 replace hx1174_3 := (HB.out.cell (World.block_lt_of_cell? w _ hx1174_3)).trans hx1174_3
 have HR1174_2 := Aside0.mk hi1174_2
 have HC1174_2 := Aside0.mk hl1174_2
 clear hi1174_2 hl1174_2
 replace p1174 := eq_true p1174
 replace q1174 := eq_true q1174
 go_wp2_with (first | ((with_reducible refine gate_dst (N := 7) rfl ?_); (try (refine gate_guard (by rfl) ?_; dsimp only)); refine bx_ 7 58 #[.int .i64 0, .string (⟨#[]⟩ : ByteArray), .slice none 0 0, .string (⟨#[]⟩ : ByteArray)] ?_; intro gb1175 hg w13 hbox hb; replace HO_4 := Aside0.mk (Kd.R_below (ra_ HO_4.out) hb); have BK1175 := Aside0.mk (hbox); have GW1175 := Aside0.mk ((hz_ : w.heap.size ≤ gb1175)); have GE1175 := Aside0.mk ((hz_ : w.heap.size ≤ gb1175)); replace HB := Aside0.mk (below_step bl_ hb); clear hb hbox hg; obtain ⟨hcz14_0, hcz14_1, hcz14_2, hcz14_3, hfz14_0, hfz14_1, hfz14_2, hfz14_3⟩ := cf4_ BK1175.out) | ((with_reducible refine gate_callee (f := 56) rfl ?_); refine gs_ (some 21) Tryd.func56 #[.agg #[.int .i64 ((rd_T58 l0 x6_1).f0), .string ((rd_T58 l0 x6_1).f1), .slice A1174_2 ((rd_T58 l0 x6_1).f2).length c1174_2, .string ((rd_T58 l0 x6_1).f3)]] ?_; (with_reducible refine (spec_SegmentOk.calls k1 ((rd_T58 l0 x6_1).f0) ((rd_T58 l0 x6_1).f1) _ _ ((rd_T58 l0 x6_1).f2) ((rd_T58 l0 x6_1).f3) true _ ?side1 ?side2 A8.out).mono ?_); (case side1 => exact Kd.C_below HR1174_2.out bl_); (case side2 => exact HC1174_2.out); rintro e w15 ⟨rfl, hb⟩; refine ⟨_, rfl, ?_⟩; replace HO_4 := Aside0.mk (Kd.R_below (rfa_ HO_4.out BK1175.out) hb); replace BK1175 := Aside0.mk (blk_below (g := gb1175) (o := .cells #[.int .i64 ((rd_T58 l0 x6_1).f0), .string ((rd_T58 l0 x6_1).f1), .slice A1174_2 ((rd_T58 l0 x6_1).f2).length c1174_2, .string ((rd_T58 l0 x6_1).f3)] 58 (0, 0)) (bp0_ BK1175.out) hb); replace HB := Aside0.mk (below_step bl_ hb); (try clear hb); obtain ⟨hcz16_0, hcz16_1, hcz16_2, hcz16_3, hfz16_0, hfz16_1, hfz16_2, hfz16_3⟩ := cf4_ BK1175.out; obtain ⟨Ao17, co17, eo17⟩ := Kd.R_slice HO_4.out; subst eo17) | ((with_reducible refine gate_builtin (b := .append) (xs := #[.tmp 37, .tmp 39]) rfl ?_); (try (refine gate_guard (by rfl) ?_; dsimp only)); at_builtin; refine Kd.R_append_rows k27 (w0 := w) w.heap.size rfl (.tmp 37) (.tmp 39) 31 27 (.agg #[(.int .i64 0), (.int .i64 0), (.int .i64 0), (.int .i64 0), (.int .i64 0), (.int .i64 0)]) 48 rfl Tryd.underlying31 info27 rfl (by decide) (by omega) (.slice Ao17 x4_1.length co17) x4_1 ((rd_T58 l0 x6_1).f2) _ _ _ (fun _ => True) (fun _ => False) rfl rfl ?aO ?aR (fun _ _ h => h) (fun _ h => h.elim) ?aF ?aB ?aS ?aL ?_; (case aR => repeat (first | exact (Kd.C_below HR1174_2.out HB.out) | exact HR1174_2.out | (with_reducible refine Kd.C_alloc ?_ _) | (with_reducible refine Kd.C_drewN ?_ _) | (with_reducible refine Kd.C_drew ?_))); (case aB => exact bl_); (case aF => exact (fun _ _ => trivial)); (case aO => exact (ra_ HO_4.out)); (case aS => exact (below_size bl_)); (case aL => have := LMc12.out; omega); intro v1178 w18 ho hb hg hat; rw [← Ny1177.out] at ho; replace BK1175 := Aside0.mk (blk_grown (g := gb1175) (o := .cells #[.int .i64 ((rd_T58 l0 x6_1).f0), .string ((rd_T58 l0 x6_1).f1), .slice A1174_2 ((rd_T58 l0 x6_1).f2).length c1174_2, .string ((rd_T58 l0 x6_1).f3)] 58 (0, 0)) (bk_ BK1175.out) hg (Kd.R_ne HO_4.out BK1175.out (by decide))); replace HB := Aside0.mk (hb); have HO1179 := Aside0.mk (ho); clear HO_4; clear ho hb hg hat; obtain ⟨hcz19_0, hcz19_1, hcz19_2, hcz19_3, hfz19_0, hfz19_1, hfz19_2, hfz19_3⟩ := cf4_ BK1175.out))
 go_roundg k1
 case measure => have := HK1.out; omega
 case rel => exact ⟨(y1177), ((rd_T58 l0 x6_1).f3), (wrap64 (x6_1 + 1)), (sr_), (sr_), H', ⟨by have := HK1.out; omega⟩, ⟨ra_ HO1179.out⟩, ⟨bl_⟩⟩

end Go.Proofs.YtdlapahfmfhbjaaDoor.PA
