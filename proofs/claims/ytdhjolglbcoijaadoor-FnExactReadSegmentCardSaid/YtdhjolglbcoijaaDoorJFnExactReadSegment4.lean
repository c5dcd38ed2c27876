/- Contracts of functions of the program and of the reference, and plain lemmas on what they compute: a part of the proof of the law FnExactReadSegment. No condition. -/
import Derived.Test.YtdhjolglbcoijaaDoorG88178x0
import Derived.Test.YtdhjolglbcoijaaDoorJFnExactReadSegment1
import Derived.Test.YtdhjolglbcoijaaDoorJFnExactReadSegment2
import Derived.Test.YtdhjolglbcoijaaDoorJFnExactReadSegment3
import Derived.Test.YtdhjolglbcoijaaDoorShortV
namespace Go.Proofs.YtdhjolglbcoijaaDoor.PA
open Go.RowKit Go.Proofs.YtdhjolglbcoijaaDoor.Short Go.Proofs.YtdhjolglbcoijaaDoorW.PrintWords Go.Proofs.YtdhjolglbcoijaaDoorW.PrintLast Go.Proofs.YtdhjolglbcoijaaDoorW.PrintMore
attribute [local go_sem] max2_int min2_int max_two min_two max_three min_three max_four min_four   -- for this text's walks alone
set_option linter.unusedVariables false
set_option linter.unusedSimpArgs false

/-! ### spec_ReadSegment: function 43 -/
def spec_ReadSegment.j0 : Nat → ByteArray → ByteArray → Int → Int → Bool → Int → ByteArray → ByteArray → Option (Int × ByteArray × (List (S70)) × ByteArray × Bool)
 | 0, _, _, _, _, _, _, _, _ => none
 | k + 1, x0, x5, x7, x8, x42, x223000, x223001, x223003 => if x42 = true then (some (x223000, x223001, ([] : List (S70)), x223003, false)) else ((spec_ReadShort.f k x5 (wrap64 (x8 + 32))).bind fun bt228 => (if bt228.2.2 = true then ((spec_ReadLog.f k bt228.1).bind fun bt231 => (if bt231.2 = true then (if 0 ≤ x8 then (if x8 ≤ (wrap64 (x8 + 32)) then (if (wrap64 (x8 + 32)) ≤ (x5.size : Int) then ((spec_HeadFrom.f k (x5.extract (x8 : Int).toNat ((wrap64 (x8 + 32)) : Int).toNat) bt231.1).bind fun t235 => ((spec_SegmentText.f k x7 (x5.extract (x8 : Int).toNat ((wrap64 (x8 + 32)) : Int).toNat) bt231.1 t235).bind fun bt237 => (if bt237.2 = true then (if bt237.1.toList = x0.toList then (some (x7, x5.extract (x8 : Int).toNat ((wrap64 (x8 + 32)) : Int).toNat, bt231.1, t235, true)) else (some (x223000, x223001, ([] : List (S70)), x223003, false))) else (some (x223000, x223001, ([] : List (S70)), x223003, false))))) else (none)) else (none)) else (none)) else (some (x223000, x223001, ([] : List (S70)), x223003, false)))) else (some (x223000, x223001, ([] : List (S70)), x223003, false))))
def spec_ReadSegment.f (k : Nat) (a0 : ByteArray) : Option (Int × ByteArray × (List (S70)) × ByteArray × Bool) := (spec_Unsealed.f k a0).bind fun bt223 => (if bt223.2 = true then ((spec_ReadVar.f k bt223.1 0).bind fun bt225 => (if bt225.2.2 = true then (spec_ReadSegment.j0 k a0 bt223.1 bt225.1 bt225.2.1 (decide ((bt223.1.size : Int) < (wrap64 (bt225.2.1 + 32)))) 0 (⟨#[]⟩ : ByteArray) (⟨#[]⟩ : ByteArray)) else (spec_ReadSegment.j0 k a0 bt223.1 bt225.1 bt225.2.1 true 0 (⟨#[]⟩ : ByteArray) (⟨#[]⟩ : ByteArray)))) else (some (0, (⟨#[]⟩ : ByteArray), ([] : List (S70)), (⟨#[]⟩ : ByteArray), false)))
theorem spec_ReadSegment.mono_l : ∀ k, (∀ y0 y1 y2 y3 y4 y5 y6 y7, LeO (spec_ReadSegment.j0 k y0 y1 y2 y3 y4 y5 y6 y7) (spec_ReadSegment.j0 (k + 1) y0 y1 y2 y3 y4 y5 y6 y7))
 | 0 => fun _ _ _ _ _ _ _ _ r h => by simp [spec_ReadSegment.j0] at h
 | k + 1 => by
  have ih0 := spec_ReadSegment.mono_l k
  ·intro y0 y1 y2 y3 y4 y5 y6 y7
   unfold spec_ReadSegment.j0
   have m0 := @spec_HeadFrom.mono
   have m1 := @spec_ReadLog.mono
   have m2 := @spec_ReadShort.mono
   have m3 := @spec_ReadVar.mono
   have m4 := @spec_SegmentText.mono
   have m5 := @spec_Unsealed.mono
   exact mo_
theorem spec_ReadSegment.mono : ∀ a0 k, LeO (spec_ReadSegment.f k a0) (spec_ReadSegment.f (k + 1) a0) := by
 intro a0 k
 have ih0 := spec_ReadSegment.mono_l k
 unfold spec_ReadSegment.f
 have m0 := @spec_HeadFrom.mono
 have m1 := @spec_ReadLog.mono
 have m2 := @spec_ReadShort.mono
 have m3 := @spec_ReadVar.mono
 have m4 := @spec_SegmentText.mono
 have m5 := @spec_Unsealed.mono
 exact mo_
set_option maxHeartbeats 8000000 in
set_option maxRecDepth 100000 in
theorem spec_ReadSegment.calls (k : Nat) (a0 : ByteArray) (r1 : Int) (r2 : ByteArray) (r3 : List (S70)) (r4 : ByteArray) (r5 : Bool) (w : World) (h : spec_ReadSegment.f k a0 = some (r1, r2, r3, r4, r5)) :
 Calls Tryd.prog 43 #[.string a0] w fun e w' => ∃ v2_ : Value, e = .returned (.tuple #[.agg #[.int .i64 r1, .string r2, v2_, .string r4], .bool r5]) ∧ Kd.R k70 70 w' w.heap.size (fun _ => True) v2_ r3 ∧ Below w.heap.size w w' := by
 have hu30 := Tryd.underlying30
 have HB := Aside0.mk (Below.refl w.heap.size w)
 have H : ((spec_Unsealed.f k a0).bind fun bt223 => (if bt223.2 = true then ((spec_ReadVar.f k bt223.1 0).bind fun bt225 => (if bt225.2.2 = true then (spec_ReadSegment.j0 k a0 bt223.1 bt225.1 bt225.2.1 (decide ((bt223.1.size : Int) < (wrap64 (bt225.2.1 + 32)))) 0 (⟨#[]⟩ : ByteArray) (⟨#[]⟩ : ByteArray)) else (spec_ReadSegment.j0 k a0 bt223.1 bt225.1 bt225.2.1 true 0 (⟨#[]⟩ : ByteArray) (⟨#[]⟩ : ByteArray)))) else (some (0, (⟨#[]⟩ : ByteArray), ([] : List (S70)), (⟨#[]⟩ : ByteArray), false)))) = some (r1, r2, r3, r4, r5) := h
 clear h
 replace H := bs_ H
 obtain ⟨⟨t223, t224⟩, A2, H⟩ := H
 try dsimp only at H
 by_cases c3 : t224 = true
 rotate_left
 ·replace c3 := Bool.eq_false_iff.mpr c3
  subst c3
  rw [if_neg (show ¬ (false = true) by decide)] at H
  simp only [Option.some.injEq, Prod.mk.injEq] at H
  obtain ⟨rfl, rfl, rfl, rfl, rfl⟩ := H
  go_enter Tryd.func43, Tryd.ntmps43
  go_wp2_with (first | ((with_reducible refine gate_dst (N := 2) rfl ?_); (try (refine gate_guard (by rfl) ?_; dsimp only)); refine bx_ 2 30 #[.int .i64 0, .string (⟨#[]⟩ : ByteArray), .slice none 0 0, .string (⟨#[]⟩ : ByteArray)] ?_; intro gb221 hg w73 hbox hb; have BK221 := Aside0.mk (hbox); have GW221 := Aside0.mk ((hz_ : w.heap.size ≤ gb221)); have GE221 := Aside0.mk ((hz_ : w.heap.size ≤ gb221)); replace HB := Aside0.mk (below_step bl_ hb); clear hb hbox hg) | ((with_reducible refine gate_dst (N := 4) rfl ?_); (try (refine gate_guard (by rfl) ?_; dsimp only)); refine bx_ 4 30 #[.int .i64 0, .string (⟨#[]⟩ : ByteArray), .slice none 0 0, .string (⟨#[]⟩ : ByteArray)] ?_; intro gb222 hg w74 hbox hb; have BK222 := Aside0.mk (hbox); have GW222 := Aside0.mk ((hz_ : w.heap.size ≤ gb222)); have GE222 := Aside0.mk ((hz_ : w.heap.size ≤ gb222)); replace HB := Aside0.mk (below_step bl_ hb); have NB221_222 := Aside0.mk ((by rw [hg]; exact Nat.ne_of_lt (blk_lt (g := gb221) (o := .cells #[.int .i64 0, .string (⟨#[]⟩ : ByteArray), .slice none 0 0, .string (⟨#[]⟩ : ByteArray)] 30 (0, 0)) (bk_ BK221.out)) : gb221 ≠ gb222)); have NB222_221 := Aside0.mk ((by rw [hg]; exact Nat.ne_of_gt (blk_lt (g := gb221) (o := .cells #[.int .i64 0, .string (⟨#[]⟩ : ByteArray), .slice none 0 0, .string (⟨#[]⟩ : ByteArray)] 30 (0, 0)) (bk_ BK221.out)) : gb222 ≠ gb221)); replace BK221 := Aside0.mk (blk_below (bn0_ BK221.out) hb); clear hb hbox hg; have hnb75 := NB222_221.out; have hnc75 := NB221_222.out; obtain ⟨hcz76_0, hcz76_1, hcz76_2, hcz76_3, hfz76_0, hfz76_1, hfz76_2, hfz76_3⟩ := cf4_ BK222.out) | ((with_reducible refine gate_callee (f := 87) rfl ?_); refine gs_ (some 22) Tryd.func87 #[.string a0] ?_; (with_reducible refine (spec_Unsealed.calls k a0 t223 false _ A2.out).mono ?_); rintro e w77 ⟨rfl, hb⟩; refine ⟨_, rfl, ?_⟩; replace BK221 := Aside0.mk (blk_below (bn1_ BK221.out NB221_222.out) hb); replace BK222 := Aside0.mk (blk_below (g := gb222) (o := .cells #[.int .i64 0, .string (⟨#[]⟩ : ByteArray), .slice none 0 0, .string (⟨#[]⟩ : ByteArray)] 30 (0, 0)) (bp0_ BK222.out) hb); replace HB := Aside0.mk (below_step bl_ hb); (try clear hb); obtain ⟨hcz78_0, hcz78_1, hcz78_2, hcz78_3, hfz78_0, hfz78_1, hfz78_2, hfz78_3⟩ := cf4_ BK222.out; obtain ⟨hcz79_0, hcz79_1, hcz79_2, hcz79_3, hfz79_0, hfz79_1, hfz79_2, hfz79_3⟩ := cf4_ BK221.out))
  refine bodyPost_ret (results_ct rfl _ _ gb221 30 #[.int .i64 0, .string (⟨#[]⟩ : ByteArray), .slice none 0 0, .string (⟨#[]⟩ : ByteArray)] (0, 0) _ rfl (bp0_ BK221.out) Tryd.underlying30 rfl (by kernel_rfl)) rfl ?_
  exact ⟨_, er_, by first | exact Kd.R_nil _ _ _ _ _ | exact Kd.N_nil _ _ _ _ _ | exact Kd.V_nil _ _ _ _ _ | exact Kd.Q_nil _ _ _ _ _ | exact Kd.S_nil _ _ _ _ _, bl_⟩
 subst c3
 rw [if_pos rfl] at H
 replace H := bs_ H
 obtain ⟨⟨t225, t226, t227⟩, A4, H⟩ := H
 try dsimp only at H
 have HC5 := Aside0.mk H
 clear H
 go_enter Tryd.func43, Tryd.ntmps43
 go_upto_region 6 with (first | ((with_reducible refine gate_dst (N := 2) rfl ?_); (try (refine gate_guard (by rfl) ?_; dsimp only)); refine bx_ 2 30 #[.int .i64 0, .string (⟨#[]⟩ : ByteArray), .slice none 0 0, .string (⟨#[]⟩ : ByteArray)] ?_; intro gb221 hg w6 hbox hb; have BK221 := Aside0.mk (hbox); have GW221 := Aside0.mk ((hz_ : w.heap.size ≤ gb221)); have GE221 := Aside0.mk ((hz_ : w.heap.size ≤ gb221)); replace HB := Aside0.mk (below_step bl_ hb); clear hb hbox hg) | ((with_reducible refine gate_dst (N := 4) rfl ?_); (try (refine gate_guard (by rfl) ?_; dsimp only)); refine bx_ 4 30 #[.int .i64 0, .string (⟨#[]⟩ : ByteArray), .slice none 0 0, .string (⟨#[]⟩ : ByteArray)] ?_; intro gb222 hg w7 hbox hb; have BK222 := Aside0.mk (hbox); have GW222 := Aside0.mk ((hz_ : w.heap.size ≤ gb222)); have GE222 := Aside0.mk ((hz_ : w.heap.size ≤ gb222)); replace HB := Aside0.mk (below_step bl_ hb); have NB221_222 := Aside0.mk ((by rw [hg]; exact Nat.ne_of_lt (blk_lt (g := gb221) (o := .cells #[.int .i64 0, .string (⟨#[]⟩ : ByteArray), .slice none 0 0, .string (⟨#[]⟩ : ByteArray)] 30 (0, 0)) (bk_ BK221.out)) : gb221 ≠ gb222)); have NB222_221 := Aside0.mk ((by rw [hg]; exact Nat.ne_of_gt (blk_lt (g := gb221) (o := .cells #[.int .i64 0, .string (⟨#[]⟩ : ByteArray), .slice none 0 0, .string (⟨#[]⟩ : ByteArray)] 30 (0, 0)) (bk_ BK221.out)) : gb222 ≠ gb221)); replace BK221 := Aside0.mk (blk_below (bn0_ BK221.out) hb); clear hb hbox hg; have hnb8 := NB222_221.out; have hnc8 := NB221_222.out; obtain ⟨hcz9_0, hcz9_1, hcz9_2, hcz9_3, hfz9_0, hfz9_1, hfz9_2, hfz9_3⟩ := cf4_ BK222.out) | ((with_reducible refine gate_callee (f := 87) rfl ?_); refine gs_ (some 22) Tryd.func87 #[.string a0] ?_; (with_reducible refine (spec_Unsealed.calls k a0 t223 true _ A2.out).mono ?_); rintro e w10 ⟨rfl, hb⟩; refine ⟨_, rfl, ?_⟩; replace BK221 := Aside0.mk (blk_below (bn1_ BK221.out NB221_222.out) hb); replace BK222 := Aside0.mk (blk_below (g := gb222) (o := .cells #[.int .i64 0, .string (⟨#[]⟩ : ByteArray), .slice none 0 0, .string (⟨#[]⟩ : ByteArray)] 30 (0, 0)) (bp0_ BK222.out) hb); replace HB := Aside0.mk (below_step bl_ hb); (try clear hb)) | ((with_reducible refine gate_callee (f := 88) rfl ?_); refine gs_ (some 30) Tryd.func88 #[.string t223, .int .i64 0] ?_; (with_reducible refine (spec_ReadVar.calls k t223 0 t225 t226 t227 _ A4.out).mono ?_); rintro e w11 ⟨rfl, hb⟩; refine ⟨_, rfl, ?_⟩; replace BK221 := Aside0.mk (blk_below (bn0_ BK221.out) hb); replace BK222 := Aside0.mk (blk_below (bn0_ BK222.out) hb); replace HB := Aside0.mk (below_step bl_ hb); (try clear hb)))
 (try simp only [Act.put, List.setIfInBounds_toArray, List.set_cons_zero, List.set_cons_succ])
 go_cut [42] (fun v42 wc => ∃ (kq : Nat) (x42_4 : Bool), v42 = .bool x42_4 ∧ Aside0 (spec_ReadSegment.j0 kq a0 t223 t225 t226 x42_4 0 (⟨#[]⟩ : ByteArray) (⟨#[]⟩ : ByteArray) = some (r1, r2, r3, r4, r5)) ∧ Aside0 (kq ≤ k) ∧ Aside0 (wc.heap[gb221]? = some (.cells #[.int .i64 0, .string (⟨#[]⟩ : ByteArray), (.slice none 0 0), .string (⟨#[]⟩ : ByteArray)] 30 (0, 0))) ∧ Aside0 (wc.heap[gb222]? = some (.cells #[.int .i64 0, .string (⟨#[]⟩ : ByteArray), (.slice none 0 0), .string (⟨#[]⟩ : ByteArray)] 30 (0, 0))) ∧ Aside0 (Below w.heap.size w wc))
 case first =>
  have H := HC5.out
  clear HC5
  by_cases c12 : t227 = true
  ·subst c12
   rw [if_pos rfl] at H
   have H' := Aside0.mk H
   clear H
   go_wp2
   go_meet
   case rel => exact ⟨_, (decide ((t223.size : Int) < (wrap64 (t226 + 32)))), (sr_), H', ⟨by first | omega | exact Nat.le_refl _⟩, ⟨bk_ BK221.out⟩, ⟨bk_ BK222.out⟩, ⟨bl_⟩⟩
  replace c12 := Bool.eq_false_iff.mpr c12
  subst c12
  rw [if_neg (show ¬ (false = true) by decide)] at H
  have H' := Aside0.mk H
  clear H
  go_wp2
  go_meet
  case rel => exact ⟨_, (true), (sr_), H', ⟨by first | omega | exact Nat.le_refl _⟩, ⟨bk_ BK221.out⟩, ⟨bk_ BK222.out⟩, ⟨bl_⟩⟩
 clear HC5
 try clear c3
 try clear hcz9_0
 try clear hcz9_1
 try clear hcz9_2
 try clear hcz9_3
 try clear hfz9_0
 try clear hfz9_1
 try clear hfz9_2
 try clear hfz9_3
 obtain ⟨kq, x42_4, rfl, HA, HJ4, BK221, BK222, HB⟩ := hcut
 cases kq with
 | zero => exact absurd HA.out (by simp [spec_ReadSegment.j0])
 | succ kj4 => ?_
 have H := HA.out
 clear HA
 simp only [spec_ReadSegment.j0] at H
 by_cases c13 : x42_4 = true
 ·subst c13
  rw [if_pos rfl] at H
  simp only [Option.some.injEq, Prod.mk.injEq] at H
  obtain ⟨rfl, rfl, rfl, rfl, rfl⟩ := H
  have hnb14 := NB222_221.out
  have hnc14 := NB221_222.out
  obtain ⟨hcz15_0, hcz15_1, hcz15_2, hcz15_3, hfz15_0, hfz15_1, hfz15_2, hfz15_3⟩ := cf4_ BK222.out
  obtain ⟨hcz16_0, hcz16_1, hcz16_2, hcz16_3, hfz16_0, hfz16_1, hfz16_2, hfz16_3⟩ := cf4_ BK221.out
  go_wp2
  refine bodyPost_ret (results_ct rfl _ _ gb221 30 #[.int .i64 0, .string (⟨#[]⟩ : ByteArray), .slice none 0 0, .string (⟨#[]⟩ : ByteArray)] (0, 0) _ rfl (bp0_ BK221.out) Tryd.underlying30 rfl (by kernel_rfl)) rfl ?_
  exact ⟨_, er_, by first | exact Kd.R_nil _ _ _ _ _ | exact Kd.N_nil _ _ _ _ _ | exact Kd.V_nil _ _ _ _ _ | exact Kd.Q_nil _ _ _ _ _ | exact Kd.S_nil _ _ _ _ _, bl_⟩
 replace c13 := Bool.eq_false_iff.mpr c13
 subst c13
 rw [if_neg (show ¬ (false = true) by decide)] at H
 replace H := bs_ H
 obtain ⟨⟨t228, t229, t230⟩, A17, H⟩ := H
 try dsimp only at H
 by_cases c18 : t230 = true
 rotate_left
 ·replace c18 := Bool.eq_false_iff.mpr c18
  subst c18
  rw [if_neg (show ¬ (false = true) by decide)] at H
  simp only [Option.some.injEq, Prod.mk.injEq] at H
  obtain ⟨rfl, rfl, rfl, rfl, rfl⟩ := H
  go_wp2_with (first | ((with_reducible refine gate_callee (f := 89) rfl ?_); refine gs_ (some 48) Tryd.func89 #[.string t223, .int .i64 (wrap64 (t226 + 32))] ?_; (with_reducible refine (spec_ReadShort.calls kj4 t223 (wrap64 (t226 + 32)) t228 t229 false _ A17.out).mono ?_); rintro e w69 ⟨rfl, hb⟩; refine ⟨_, rfl, ?_⟩; replace BK221 := Aside0.mk (blk_below (bn0_ BK221.out) hb); replace BK222 := Aside0.mk (blk_below (bn0_ BK222.out) hb); replace HB := Aside0.mk (below_step bl_ hb); (try clear hb); have hnb70 := NB222_221.out; have hnc70 := NB221_222.out; obtain ⟨hcz71_0, hcz71_1, hcz71_2, hcz71_3, hfz71_0, hfz71_1, hfz71_2, hfz71_3⟩ := cf4_ BK222.out; obtain ⟨hcz72_0, hcz72_1, hcz72_2, hcz72_3, hfz72_0, hfz72_1, hfz72_2, hfz72_3⟩ := cf4_ BK221.out))
  refine bodyPost_ret (results_ct rfl _ _ gb221 30 #[.int .i64 0, .string (⟨#[]⟩ : ByteArray), .slice none 0 0, .string (⟨#[]⟩ : ByteArray)] (0, 0) _ rfl (bp0_ BK221.out) Tryd.underlying30 rfl (by kernel_rfl)) rfl ?_
  exact ⟨_, er_, by first | exact Kd.R_nil _ _ _ _ _ | exact Kd.N_nil _ _ _ _ _ | exact Kd.V_nil _ _ _ _ _ | exact Kd.Q_nil _ _ _ _ _ | exact Kd.S_nil _ _ _ _ _, bl_⟩
 subst c18
 rw [if_pos rfl] at H
 replace H := bs_ H
 obtain ⟨⟨t231, t232⟩, A19, H⟩ := H
 try dsimp only at H
 by_cases c20 : t232 = true
 rotate_left
 ·replace c20 := Bool.eq_false_iff.mpr c20
  subst c20
  rw [if_neg (show ¬ (false = true) by decide)] at H
  simp only [Option.some.injEq, Prod.mk.injEq] at H
  obtain ⟨rfl, rfl, rfl, rfl, rfl⟩ := H
  go_wp2_with (first | ((with_reducible refine gate_callee (f := 89) rfl ?_); refine gs_ (some 48) Tryd.func89 #[.string t223, .int .i64 (wrap64 (t226 + 32))] ?_; (with_reducible refine (spec_ReadShort.calls kj4 t223 (wrap64 (t226 + 32)) t228 t229 true _ A17.out).mono ?_); rintro e w64 ⟨rfl, hb⟩; refine ⟨_, rfl, ?_⟩; replace BK221 := Aside0.mk (blk_below (bn0_ BK221.out) hb); replace BK222 := Aside0.mk (blk_below (bn0_ BK222.out) hb); replace HB := Aside0.mk (below_step bl_ hb); (try clear hb)) | ((with_reducible refine gate_callee (f := 69) rfl ?_); refine gs_ (some 57) Tryd.func69 #[.string t228] ?_; (with_reducible refine (spec_ReadLog.calls kj4 t228 t231 false _ A19.out).mono ?_); rintro e w65 ⟨v233, rfl, ho0, hb⟩; refine ⟨_, rfl, ?_⟩; have HO234 := Aside0.mk (Kd.R_lower ho0 (below_size bl_)); replace BK221 := Aside0.mk (blk_below (bn0_ BK221.out) hb); replace BK222 := Aside0.mk (blk_below (bn0_ BK222.out) hb); replace HB := Aside0.mk (below_step bl_ hb); (try clear hb); (try clear ho0); have hnb66 := NB222_221.out; have hnc66 := NB221_222.out; obtain ⟨hcz67_0, hcz67_1, hcz67_2, hcz67_3, hfz67_0, hfz67_1, hfz67_2, hfz67_3⟩ := cf4_ BK222.out; obtain ⟨hcz68_0, hcz68_1, hcz68_2, hcz68_3, hfz68_0, hfz68_1, hfz68_2, hfz68_3⟩ := cf4_ BK221.out))
  refine bodyPost_ret (results_ct rfl _ _ gb221 30 #[.int .i64 0, .string (⟨#[]⟩ : ByteArray), .slice none 0 0, .string (⟨#[]⟩ : ByteArray)] (0, 0) _ rfl (bp0_ BK221.out) Tryd.underlying30 rfl (by kernel_rfl)) rfl ?_
  exact ⟨_, er_, by first | exact Kd.R_nil _ _ _ _ _ | exact Kd.N_nil _ _ _ _ _ | exact Kd.V_nil _ _ _ _ _ | exact Kd.Q_nil _ _ _ _ _ | exact Kd.S_nil _ _ _ _ _, bl_⟩
 subst c20
 rw [if_pos rfl] at H
 by_cases c21 : 0 ≤ t226
 rotate_left
 ·exact nn_ c21 H
 rw [if_pos c21] at H
 have c21b0 := eq_true c21
 have c21b1 : decide (0 ≤ t226) = true := decide_eq_true c21
 clear c21
 by_cases c22 : t226 ≤ (wrap64 (t226 + 32))
 rotate_left
 ·exact nn_ c22 H
 rw [if_pos c22] at H
 have c22b0 := eq_true c22
 have c22b1 : decide (t226 ≤ (wrap64 (t226 + 32))) = true := decide_eq_true c22
 by_cases c23 : (wrap64 (t226 + 32)) ≤ (t223.size : Int)
 rotate_left
 ·exact nn_ c23 H
 rw [if_pos c23] at H
 have c23b0 := eq_true c23
 have c23b1 : decide ((wrap64 (t226 + 32)) ≤ (t223.size : Int)) = true := decide_eq_true c23
 replace H := bs_ H
 obtain ⟨t235, A24, H⟩ := H
 try dsimp only at H
 replace H := bs_ H
 obtain ⟨⟨t237, t238⟩, A25, H⟩ := H
 try dsimp only at H
 by_cases c26 : t238 = true
 rotate_left
 ·replace c26 := Bool.eq_false_iff.mpr c26
  subst c26
  rw [if_neg (show ¬ (false = true) by decide)] at H
  simp only [Option.some.injEq, Prod.mk.injEq] at H
  obtain ⟨rfl, rfl, rfl, rfl, rfl⟩ := H
  go_wp2_with (first | ((with_reducible refine gate_callee (f := 89) rfl ?_); refine gs_ (some 48) Tryd.func89 #[.string t223, .int .i64 (wrap64 (t226 + 32))] ?_; (with_reducible refine (spec_ReadShort.calls kj4 t223 (wrap64 (t226 + 32)) t228 t229 true _ A17.out).mono ?_); rintro e w52 ⟨rfl, hb⟩; refine ⟨_, rfl, ?_⟩; replace BK221 := Aside0.mk (blk_below (bn0_ BK221.out) hb); replace BK222 := Aside0.mk (blk_below (bn0_ BK222.out) hb); replace HB := Aside0.mk (below_step bl_ hb); (try clear hb)) | ((with_reducible refine gate_callee (f := 69) rfl ?_); refine gs_ (some 57) Tryd.func69 #[.string t228] ?_; (with_reducible refine (spec_ReadLog.calls kj4 t228 t231 true _ A19.out).mono ?_); rintro e w53 ⟨v233, rfl, ho0, hb⟩; refine ⟨_, rfl, ?_⟩; have HO234 := Aside0.mk (Kd.R_lower ho0 (below_size bl_)); replace BK221 := Aside0.mk (blk_below (bn0_ BK221.out) hb); replace BK222 := Aside0.mk (blk_below (bn0_ BK222.out) hb); replace HB := Aside0.mk (below_step bl_ hb); (try clear hb); (try clear ho0); obtain ⟨Ao54, co54, eo54⟩ := Kd.R_slice HO234.out; subst eo54) | ((with_reducible refine gate_callee (f := 71) rfl ?_); refine gs_ (some 73) Tryd.func71 #[.string (t223.extract (t226 : Int).toNat ((wrap64 (t226 + 32)) : Int).toNat), .slice Ao54 t231.length co54] ?_; (with_reducible refine (spec_HeadFrom.calls kj4 (t223.extract (t226 : Int).toNat ((wrap64 (t226 + 32)) : Int).toNat) _ _ t231 t235 _ ?side1 ?side2 A24.out).mono ?_); (case side1 => repeat (first | exact (Kd.R_reads' HO234.out).2.2 | (with_reducible refine Kd.C_alloc ?_ _) | (with_reducible refine Kd.C_drewN ?_ _) | (with_reducible refine Kd.C_drew ?_))); (case side2 => exact (Kd.R_reads' HO234.out).2.1); rintro e w55 ⟨rfl, hb⟩; refine ⟨_, rfl, ?_⟩; replace HO234 := Aside0.mk (Kd.R_below (ra_ HO234.out) hb); replace BK221 := Aside0.mk (blk_below (bn0_ BK221.out) hb); replace BK222 := Aside0.mk (blk_below (bn0_ BK222.out) hb); replace HB := Aside0.mk (below_step bl_ hb); (try clear hb)) | ((with_reducible refine gate_dst (N := 16) rfl ?_); (try (refine gate_guard (by rfl) ?_; dsimp only)); refine bx_ 16 30 #[.int .i64 0, .string (⟨#[]⟩ : ByteArray), .slice none 0 0, .string (⟨#[]⟩ : ByteArray)] ?_; intro gb236 hg w56 hbox hb; replace HO234 := Aside0.mk (Kd.R_below (ra_ HO234.out) hb); have BK236 := Aside0.mk (hbox); have GW236 := Aside0.mk ((hz_ : w.heap.size ≤ gb236)); have GE236 := Aside0.mk ((hz_ : w.heap.size ≤ gb236)); replace HB := Aside0.mk (below_step bl_ hb); have NB221_236 := Aside0.mk ((by rw [hg]; exact Nat.ne_of_lt (blk_lt (g := gb221) (o := .cells #[.int .i64 0, .string (⟨#[]⟩ : ByteArray), .slice none 0 0, .string (⟨#[]⟩ : ByteArray)] 30 (0, 0)) (bk_ BK221.out)) : gb221 ≠ gb236)); have NB236_221 := Aside0.mk ((by rw [hg]; exact Nat.ne_of_gt (blk_lt (g := gb221) (o := .cells #[.int .i64 0, .string (⟨#[]⟩ : ByteArray), .slice none 0 0, .string (⟨#[]⟩ : ByteArray)] 30 (0, 0)) (bk_ BK221.out)) : gb236 ≠ gb221)); replace BK221 := Aside0.mk (blk_below (bn0_ BK221.out) hb); have NB222_236 := Aside0.mk ((by rw [hg]; exact Nat.ne_of_lt (blk_lt (g := gb222) (o := .cells #[.int .i64 0, .string (⟨#[]⟩ : ByteArray), .slice none 0 0, .string (⟨#[]⟩ : ByteArray)] 30 (0, 0)) (bk_ BK222.out)) : gb222 ≠ gb236)); have NB236_222 := Aside0.mk ((by rw [hg]; exact Nat.ne_of_gt (blk_lt (g := gb222) (o := .cells #[.int .i64 0, .string (⟨#[]⟩ : ByteArray), .slice none 0 0, .string (⟨#[]⟩ : ByteArray)] 30 (0, 0)) (bk_ BK222.out)) : gb236 ≠ gb222)); replace BK222 := Aside0.mk (blk_below (bn0_ BK222.out) hb); clear hb hbox hg; have hnb57 := NB236_221.out; have hnc57 := NB221_236.out; have hnb58 := NB236_222.out; have hnc58 := NB222_236.out; obtain ⟨hcz59_0, hcz59_1, hcz59_2, hcz59_3, hfz59_0, hfz59_1, hfz59_2, hfz59_3⟩ := cf4_ BK236.out) | ((with_reducible refine gate_callee (f := 22) rfl ?_); refine gs_ (some 77) Tryd.func22 #[.agg #[.int .i64 t225, .string (t223.extract (t226 : Int).toNat ((wrap64 (t226 + 32)) : Int).toNat), .slice Ao54 t231.length co54, .string t235]] ?_; (with_reducible refine (spec_SegmentText.calls kj4 t225 (t223.extract (t226 : Int).toNat ((wrap64 (t226 + 32)) : Int).toNat) _ _ t231 t235 t237 false _ ?side1 ?side2 A25.out).mono ?_); (case side1 => refine (Kd.R_reads' (e := 70) (base := w.heap.size) (ok := fun k_ => True) (n := t231.length) (c := co54) ?_).2.2; exact (by (with_reducible repeat (first | apply Kd.R_alloc | apply Kd.R_drewN | apply Kd.R_drew)); exact (Kd.R_mono (Kd.R_far (p := ⟨gb236, 3, none⟩) (Kd.R_far (p := ⟨gb236, 2, none⟩) (Kd.R_far (p := ⟨gb236, 1, none⟩) (Kd.R_far (p := ⟨gb236, 0, none⟩) (Kd.R_types HO234.out BK236.out (by decide)) (fun _ hk => hk.2) (.int .i64 t225)) (fun _ hk => hk.2) (.string (t223.extract (t226 : Int).toNat ((wrap64 (t226 + 32)) : Int).toNat))) (fun _ hk => hk.2) (.slice Ao54 t231.length co54)) (fun _ hk => hk.2) (.string t235)) (fun _ h_ => h_.1)))); (case side2 => exact (Kd.R_reads' HO234.out).2.1); rintro e w60 ⟨rfl, hb⟩; refine ⟨_, rfl, ?_⟩; replace HO234 := Aside0.mk (Kd.R_below (by (with_reducible repeat (first | apply Kd.R_alloc | apply Kd.R_drewN | apply Kd.R_drew)); exact (Kd.R_mono (Kd.R_far (p := ⟨gb236, 3, none⟩) (Kd.R_far (p := ⟨gb236, 2, none⟩) (Kd.R_far (p := ⟨gb236, 1, none⟩) (Kd.R_far (p := ⟨gb236, 0, none⟩) (Kd.R_types HO234.out BK236.out (by decide)) (fun _ hk => hk.2) (.int .i64 t225)) (fun _ hk => hk.2) (.string (t223.extract (t226 : Int).toNat ((wrap64 (t226 + 32)) : Int).toNat))) (fun _ hk => hk.2) (.slice Ao54 t231.length co54)) (fun _ hk => hk.2) (.string t235)) (fun _ h_ => h_.1))) hb); replace BK221 := Aside0.mk (blk_below (bn1_ BK221.out NB221_236.out) hb); replace BK222 := Aside0.mk (blk_below (bn1_ BK222.out NB222_236.out) hb); replace BK236 := Aside0.mk (blk_below (g := gb236) (o := .cells #[.int .i64 t225, .string (t223.extract (t226 : Int).toNat ((wrap64 (t226 + 32)) : Int).toNat), .slice Ao54 t231.length co54, .string t235] 30 (0, 0)) (bp0_ BK236.out) hb); replace HB := Aside0.mk (below_step bl_ hb); (try clear hb); have hnb61 := NB222_221.out; have hnc61 := NB221_222.out; obtain ⟨hcz62_0, hcz62_1, hcz62_2, hcz62_3, hfz62_0, hfz62_1, hfz62_2, hfz62_3⟩ := cf4_ BK222.out; obtain ⟨hcz63_0, hcz63_1, hcz63_2, hcz63_3, hfz63_0, hfz63_1, hfz63_2, hfz63_3⟩ := cf4_ BK221.out))
  refine bodyPost_ret (results_ct rfl _ _ gb221 30 #[.int .i64 0, .string (⟨#[]⟩ : ByteArray), .slice none 0 0, .string (⟨#[]⟩ : ByteArray)] (0, 0) _ rfl (bp0_ BK221.out) Tryd.underlying30 rfl (by kernel_rfl)) rfl ?_
  exact ⟨_, er_, by first | exact Kd.R_nil _ _ _ _ _ | exact Kd.N_nil _ _ _ _ _ | exact Kd.V_nil _ _ _ _ _ | exact Kd.Q_nil _ _ _ _ _ | exact Kd.S_nil _ _ _ _ _, bl_⟩
 subst c26
 rw [if_pos rfl] at H
 by_cases c27 : t237.toList = a0.toList
 rotate_left
 ·rw [if_neg c27] at H
  have c27b0 : (t237.toList == a0.toList) = false := beq_eq_false_iff_ne.mpr c27
  have c27b1 : (t237.toList != a0.toList) = true := bne_iff_ne.mpr c27
  simp only [Option.some.injEq, Prod.mk.injEq] at H
  obtain ⟨rfl, rfl, rfl, rfl, rfl⟩ := H
  go_wp2_with (first | ((with_reducible refine gate_callee (f := 89) rfl ?_); refine gs_ (some 48) Tryd.func89 #[.string t223, .int .i64 (wrap64 (t226 + 32))] ?_; (with_reducible refine (spec_ReadShort.calls kj4 t223 (wrap64 (t226 + 32)) t228 t229 true _ A17.out).mono ?_); rintro e w40 ⟨rfl, hb⟩; refine ⟨_, rfl, ?_⟩; replace BK221 := Aside0.mk (blk_below (bn0_ BK221.out) hb); replace BK222 := Aside0.mk (blk_below (bn0_ BK222.out) hb); replace HB := Aside0.mk (below_step bl_ hb); (try clear hb)) | ((with_reducible refine gate_callee (f := 69) rfl ?_); refine gs_ (some 57) Tryd.func69 #[.string t228] ?_; (with_reducible refine (spec_ReadLog.calls kj4 t228 t231 true _ A19.out).mono ?_); rintro e w41 ⟨v233, rfl, ho0, hb⟩; refine ⟨_, rfl, ?_⟩; have HO234 := Aside0.mk (Kd.R_lower ho0 (below_size bl_)); replace BK221 := Aside0.mk (blk_below (bn0_ BK221.out) hb); replace BK222 := Aside0.mk (blk_below (bn0_ BK222.out) hb); replace HB := Aside0.mk (below_step bl_ hb); (try clear hb); (try clear ho0); obtain ⟨Ao42, co42, eo42⟩ := Kd.R_slice HO234.out; subst eo42) | ((with_reducible refine gate_callee (f := 71) rfl ?_); refine gs_ (some 73) Tryd.func71 #[.string (t223.extract (t226 : Int).toNat ((wrap64 (t226 + 32)) : Int).toNat), .slice Ao42 t231.length co42] ?_; (with_reducible refine (spec_HeadFrom.calls kj4 (t223.extract (t226 : Int).toNat ((wrap64 (t226 + 32)) : Int).toNat) _ _ t231 t235 _ ?side1 ?side2 A24.out).mono ?_); (case side1 => repeat (first | exact (Kd.R_reads' HO234.out).2.2 | (with_reducible refine Kd.C_alloc ?_ _) | (with_reducible refine Kd.C_drewN ?_ _) | (with_reducible refine Kd.C_drew ?_))); (case side2 => exact (Kd.R_reads' HO234.out).2.1); rintro e w43 ⟨rfl, hb⟩; refine ⟨_, rfl, ?_⟩; replace HO234 := Aside0.mk (Kd.R_below (ra_ HO234.out) hb); replace BK221 := Aside0.mk (blk_below (bn0_ BK221.out) hb); replace BK222 := Aside0.mk (blk_below (bn0_ BK222.out) hb); replace HB := Aside0.mk (below_step bl_ hb); (try clear hb)) | ((with_reducible refine gate_dst (N := 16) rfl ?_); (try (refine gate_guard (by rfl) ?_; dsimp only)); refine bx_ 16 30 #[.int .i64 0, .string (⟨#[]⟩ : ByteArray), .slice none 0 0, .string (⟨#[]⟩ : ByteArray)] ?_; intro gb236 hg w44 hbox hb; replace HO234 := Aside0.mk (Kd.R_below (ra_ HO234.out) hb); have BK236 := Aside0.mk (hbox); have GW236 := Aside0.mk ((hz_ : w.heap.size ≤ gb236)); have GE236 := Aside0.mk ((hz_ : w.heap.size ≤ gb236)); replace HB := Aside0.mk (below_step bl_ hb); have NB221_236 := Aside0.mk ((by rw [hg]; exact Nat.ne_of_lt (blk_lt (g := gb221) (o := .cells #[.int .i64 0, .string (⟨#[]⟩ : ByteArray), .slice none 0 0, .string (⟨#[]⟩ : ByteArray)] 30 (0, 0)) (bk_ BK221.out)) : gb221 ≠ gb236)); have NB236_221 := Aside0.mk ((by rw [hg]; exact Nat.ne_of_gt (blk_lt (g := gb221) (o := .cells #[.int .i64 0, .string (⟨#[]⟩ : ByteArray), .slice none 0 0, .string (⟨#[]⟩ : ByteArray)] 30 (0, 0)) (bk_ BK221.out)) : gb236 ≠ gb221)); replace BK221 := Aside0.mk (blk_below (bn0_ BK221.out) hb); have NB222_236 := Aside0.mk ((by rw [hg]; exact Nat.ne_of_lt (blk_lt (g := gb222) (o := .cells #[.int .i64 0, .string (⟨#[]⟩ : ByteArray), .slice none 0 0, .string (⟨#[]⟩ : ByteArray)] 30 (0, 0)) (bk_ BK222.out)) : gb222 ≠ gb236)); have NB236_222 := Aside0.mk ((by rw [hg]; exact Nat.ne_of_gt (blk_lt (g := gb222) (o := .cells #[.int .i64 0, .string (⟨#[]⟩ : ByteArray), .slice none 0 0, .string (⟨#[]⟩ : ByteArray)] 30 (0, 0)) (bk_ BK222.out)) : gb236 ≠ gb222)); replace BK222 := Aside0.mk (blk_below (bn0_ BK222.out) hb); clear hb hbox hg; have hnb45 := NB236_221.out; have hnc45 := NB221_236.out; have hnb46 := NB236_222.out; have hnc46 := NB222_236.out; obtain ⟨hcz47_0, hcz47_1, hcz47_2, hcz47_3, hfz47_0, hfz47_1, hfz47_2, hfz47_3⟩ := cf4_ BK236.out) | ((with_reducible refine gate_callee (f := 22) rfl ?_); refine gs_ (some 77) Tryd.func22 #[.agg #[.int .i64 t225, .string (t223.extract (t226 : Int).toNat ((wrap64 (t226 + 32)) : Int).toNat), .slice Ao42 t231.length co42, .string t235]] ?_; (with_reducible refine (spec_SegmentText.calls kj4 t225 (t223.extract (t226 : Int).toNat ((wrap64 (t226 + 32)) : Int).toNat) _ _ t231 t235 t237 true _ ?side1 ?side2 A25.out).mono ?_); (case side1 => refine (Kd.R_reads' (e := 70) (base := w.heap.size) (ok := fun k_ => True) (n := t231.length) (c := co42) ?_).2.2; exact (by (with_reducible repeat (first | apply Kd.R_alloc | apply Kd.R_drewN | apply Kd.R_drew)); exact (Kd.R_mono (Kd.R_far (p := ⟨gb236, 3, none⟩) (Kd.R_far (p := ⟨gb236, 2, none⟩) (Kd.R_far (p := ⟨gb236, 1, none⟩) (Kd.R_far (p := ⟨gb236, 0, none⟩) (Kd.R_types HO234.out BK236.out (by decide)) (fun _ hk => hk.2) (.int .i64 t225)) (fun _ hk => hk.2) (.string (t223.extract (t226 : Int).toNat ((wrap64 (t226 + 32)) : Int).toNat))) (fun _ hk => hk.2) (.slice Ao42 t231.length co42)) (fun _ hk => hk.2) (.string t235)) (fun _ h_ => h_.1)))); (case side2 => exact (Kd.R_reads' HO234.out).2.1); rintro e w48 ⟨rfl, hb⟩; refine ⟨_, rfl, ?_⟩; replace HO234 := Aside0.mk (Kd.R_below (by (with_reducible repeat (first | apply Kd.R_alloc | apply Kd.R_drewN | apply Kd.R_drew)); exact (Kd.R_mono (Kd.R_far (p := ⟨gb236, 3, none⟩) (Kd.R_far (p := ⟨gb236, 2, none⟩) (Kd.R_far (p := ⟨gb236, 1, none⟩) (Kd.R_far (p := ⟨gb236, 0, none⟩) (Kd.R_types HO234.out BK236.out (by decide)) (fun _ hk => hk.2) (.int .i64 t225)) (fun _ hk => hk.2) (.string (t223.extract (t226 : Int).toNat ((wrap64 (t226 + 32)) : Int).toNat))) (fun _ hk => hk.2) (.slice Ao42 t231.length co42)) (fun _ hk => hk.2) (.string t235)) (fun _ h_ => h_.1))) hb); replace BK221 := Aside0.mk (blk_below (bn1_ BK221.out NB221_236.out) hb); replace BK222 := Aside0.mk (blk_below (bn1_ BK222.out NB222_236.out) hb); replace BK236 := Aside0.mk (blk_below (g := gb236) (o := .cells #[.int .i64 t225, .string (t223.extract (t226 : Int).toNat ((wrap64 (t226 + 32)) : Int).toNat), .slice Ao42 t231.length co42, .string t235] 30 (0, 0)) (bp0_ BK236.out) hb); replace HB := Aside0.mk (below_step bl_ hb); (try clear hb); have hnb49 := NB222_221.out; have hnc49 := NB221_222.out; obtain ⟨hcz50_0, hcz50_1, hcz50_2, hcz50_3, hfz50_0, hfz50_1, hfz50_2, hfz50_3⟩ := cf4_ BK222.out; obtain ⟨hcz51_0, hcz51_1, hcz51_2, hcz51_3, hfz51_0, hfz51_1, hfz51_2, hfz51_3⟩ := cf4_ BK221.out))
  refine bodyPost_ret (results_ct rfl _ _ gb221 30 #[.int .i64 0, .string (⟨#[]⟩ : ByteArray), .slice none 0 0, .string (⟨#[]⟩ : ByteArray)] (0, 0) _ rfl (bp0_ BK221.out) Tryd.underlying30 rfl (by kernel_rfl)) rfl ?_
  exact ⟨_, er_, by first | exact Kd.R_nil _ _ _ _ _ | exact Kd.N_nil _ _ _ _ _ | exact Kd.V_nil _ _ _ _ _ | exact Kd.Q_nil _ _ _ _ _ | exact Kd.S_nil _ _ _ _ _, bl_⟩
 rw [if_pos c27] at H
 have c27b0 : (t237.toList == a0.toList) = true := beq_iff_eq.mpr c27
 have c27b1 : (t237.toList != a0.toList) = false := bne_eq_false_iff_eq.mpr c27
 clear c27
 simp only [Option.some.injEq, Prod.mk.injEq] at H
 obtain ⟨rfl, rfl, rfl, rfl, rfl⟩ := H
 go_wp2_with (first | ((with_reducible refine gate_callee (f := 89) rfl ?_); refine gs_ (some 48) Tryd.func89 #[.string t223, .int .i64 (wrap64 (t226 + 32))] ?_; (with_reducible refine (spec_ReadShort.calls kj4 t223 (wrap64 (t226 + 32)) t228 t229 true _ A17.out).mono ?_); rintro e w28 ⟨rfl, hb⟩; refine ⟨_, rfl, ?_⟩; replace BK221 := Aside0.mk (blk_below (bn0_ BK221.out) hb); replace BK222 := Aside0.mk (blk_below (bn0_ BK222.out) hb); replace HB := Aside0.mk (below_step bl_ hb); (try clear hb)) | ((with_reducible refine gate_callee (f := 69) rfl ?_); refine gs_ (some 57) Tryd.func69 #[.string t228] ?_; (with_reducible refine (spec_ReadLog.calls kj4 t228 t231 true _ A19.out).mono ?_); rintro e w29 ⟨v233, rfl, ho0, hb⟩; refine ⟨_, rfl, ?_⟩; have HO234 := Aside0.mk (Kd.R_lower ho0 (below_size bl_)); replace BK221 := Aside0.mk (blk_below (bn0_ BK221.out) hb); replace BK222 := Aside0.mk (blk_below (bn0_ BK222.out) hb); replace HB := Aside0.mk (below_step bl_ hb); (try clear hb); (try clear ho0); obtain ⟨Ao30, co30, eo30⟩ := Kd.R_slice HO234.out; subst eo30) | ((with_reducible refine gate_callee (f := 71) rfl ?_); refine gs_ (some 73) Tryd.func71 #[.string (t223.extract (t226 : Int).toNat ((wrap64 (t226 + 32)) : Int).toNat), .slice Ao30 t231.length co30] ?_; (with_reducible refine (spec_HeadFrom.calls kj4 (t223.extract (t226 : Int).toNat ((wrap64 (t226 + 32)) : Int).toNat) _ _ t231 t235 _ ?side1 ?side2 A24.out).mono ?_); (case side1 => repeat (first | exact (Kd.R_reads' HO234.out).2.2 | (with_reducible refine Kd.C_alloc ?_ _) | (with_reducible refine Kd.C_drewN ?_ _) | (with_reducible refine Kd.C_drew ?_))); (case side2 => exact (Kd.R_reads' HO234.out).2.1); rintro e w31 ⟨rfl, hb⟩; refine ⟨_, rfl, ?_⟩; replace HO234 := Aside0.mk (Kd.R_below (ra_ HO234.out) hb); replace BK221 := Aside0.mk (blk_below (bn0_ BK221.out) hb); replace BK222 := Aside0.mk (blk_below (bn0_ BK222.out) hb); replace HB := Aside0.mk (below_step bl_ hb); (try clear hb)) | ((with_reducible refine gate_dst (N := 16) rfl ?_); (try (refine gate_guard (by rfl) ?_; dsimp only)); refine bx_ 16 30 #[.int .i64 0, .string (⟨#[]⟩ : ByteArray), .slice none 0 0, .string (⟨#[]⟩ : ByteArray)] ?_; intro gb236 hg w32 hbox hb; replace HO234 := Aside0.mk (Kd.R_below (ra_ HO234.out) hb); have BK236 := Aside0.mk (hbox); have GW236 := Aside0.mk ((hz_ : w.heap.size ≤ gb236)); have GE236 := Aside0.mk ((hz_ : w.heap.size ≤ gb236)); replace HB := Aside0.mk (below_step bl_ hb); have NB221_236 := Aside0.mk ((by rw [hg]; exact Nat.ne_of_lt (blk_lt (g := gb221) (o := .cells #[.int .i64 0, .string (⟨#[]⟩ : ByteArray), .slice none 0 0, .string (⟨#[]⟩ : ByteArray)] 30 (0, 0)) (bk_ BK221.out)) : gb221 ≠ gb236)); have NB236_221 := Aside0.mk ((by rw [hg]; exact Nat.ne_of_gt (blk_lt (g := gb221) (o := .cells #[.int .i64 0, .string (⟨#[]⟩ : ByteArray), .slice none 0 0, .string (⟨#[]⟩ : ByteArray)] 30 (0, 0)) (bk_ BK221.out)) : gb236 ≠ gb221)); replace BK221 := Aside0.mk (blk_below (bn0_ BK221.out) hb); have NB222_236 := Aside0.mk ((by rw [hg]; exact Nat.ne_of_lt (blk_lt (g := gb222) (o := .cells #[.int .i64 0, .string (⟨#[]⟩ : ByteArray), .slice none 0 0, .string (⟨#[]⟩ : ByteArray)] 30 (0, 0)) (bk_ BK222.out)) : gb222 ≠ gb236)); have NB236_222 := Aside0.mk ((by rw [hg]; exact Nat.ne_of_gt (blk_lt (g := gb222) (o := .cells #[.int .i64 0, .string (⟨#[]⟩ : ByteArray), .slice none 0 0, .string (⟨#[]⟩ : ByteArray)] 30 (0, 0)) (bk_ BK222.out)) : gb236 ≠ gb222)); replace BK222 := Aside0.mk (blk_below (bn0_ BK222.out) hb); clear hb hbox hg; have hnb33 := NB236_221.out; have hnc33 := NB221_236.out; have hnb34 := NB236_222.out; have hnc34 := NB222_236.out; obtain ⟨hcz35_0, hcz35_1, hcz35_2, hcz35_3, hfz35_0, hfz35_1, hfz35_2, hfz35_3⟩ := cf4_ BK236.out) | ((with_reducible refine gate_callee (f := 22) rfl ?_); refine gs_ (some 77) Tryd.func22 #[.agg #[.int .i64 t225, .string (t223.extract (t226 : Int).toNat ((wrap64 (t226 + 32)) : Int).toNat), .slice Ao30 t231.length co30, .string t235]] ?_; (with_reducible refine (spec_SegmentText.calls kj4 t225 (t223.extract (t226 : Int).toNat ((wrap64 (t226 + 32)) : Int).toNat) _ _ t231 t235 t237 true _ ?side1 ?side2 A25.out).mono ?_); (case side1 => refine (Kd.R_reads' (e := 70) (base := w.heap.size) (ok := fun k_ => True) (n := t231.length) (c := co30) ?_).2.2; exact (by (with_reducible repeat (first | apply Kd.R_alloc | apply Kd.R_drewN | apply Kd.R_drew)); exact (Kd.R_mono (Kd.R_far (p := ⟨gb236, 3, none⟩) (Kd.R_far (p := ⟨gb236, 2, none⟩) (Kd.R_far (p := ⟨gb236, 1, none⟩) (Kd.R_far (p := ⟨gb236, 0, none⟩) (Kd.R_types HO234.out BK236.out (by decide)) (fun _ hk => hk.2) (.int .i64 t225)) (fun _ hk => hk.2) (.string (t223.extract (t226 : Int).toNat ((wrap64 (t226 + 32)) : Int).toNat))) (fun _ hk => hk.2) (.slice Ao30 t231.length co30)) (fun _ hk => hk.2) (.string t235)) (fun _ h_ => h_.1)))); (case side2 => exact (Kd.R_reads' HO234.out).2.1); rintro e w36 ⟨rfl, hb⟩; refine ⟨_, rfl, ?_⟩; replace HO234 := Aside0.mk (Kd.R_below (by (with_reducible repeat (first | apply Kd.R_alloc | apply Kd.R_drewN | apply Kd.R_drew)); exact (Kd.R_mono (Kd.R_far (p := ⟨gb236, 3, none⟩) (Kd.R_far (p := ⟨gb236, 2, none⟩) (Kd.R_far (p := ⟨gb236, 1, none⟩) (Kd.R_far (p := ⟨gb236, 0, none⟩) (Kd.R_types HO234.out BK236.out (by decide)) (fun _ hk => hk.2) (.int .i64 t225)) (fun _ hk => hk.2) (.string (t223.extract (t226 : Int).toNat ((wrap64 (t226 + 32)) : Int).toNat))) (fun _ hk => hk.2) (.slice Ao30 t231.length co30)) (fun _ hk => hk.2) (.string t235)) (fun _ h_ => h_.1))) hb); replace BK221 := Aside0.mk (blk_below (bn1_ BK221.out NB221_236.out) hb); replace BK222 := Aside0.mk (blk_below (bn1_ BK222.out NB222_236.out) hb); replace BK236 := Aside0.mk (blk_below (g := gb236) (o := .cells #[.int .i64 t225, .string (t223.extract (t226 : Int).toNat ((wrap64 (t226 + 32)) : Int).toNat), .slice Ao30 t231.length co30, .string t235] 30 (0, 0)) (bp0_ BK236.out) hb); replace HB := Aside0.mk (below_step bl_ hb); (try clear hb); obtain ⟨hcz37_0, hcz37_1, hcz37_2, hcz37_3, hfz37_0, hfz37_1, hfz37_2, hfz37_3⟩ := cf4_ BK236.out; have hnb38 := NB221_222.out; have hnc38 := NB222_221.out; obtain ⟨hcz39_0, hcz39_1, hcz39_2, hcz39_3, hfz39_0, hfz39_1, hfz39_2, hfz39_3⟩ := cf4_ BK221.out))
 refine bodyPost_ret (results_ct rfl _ _ gb221 30 #[.int .i64 t225, .string (t223.extract (t226 : Int).toNat ((wrap64 (t226 + 32)) : Int).toNat), .slice Ao30 t231.length co30, .string t235] (0, 0) _ rfl (bp0_ BK221.out) Tryd.underlying30 rfl (by kernel_rfl)) rfl ?_
 exact ⟨_, er_, by (with_reducible repeat (first | apply Kd.R_alloc | apply Kd.R_drewN | apply Kd.R_drew)); exact Kd.R_mono (Kd.R_far (p := ⟨gb221, 3, none⟩) (Kd.R_far (p := ⟨gb221, 2, none⟩) (Kd.R_far (p := ⟨gb221, 1, none⟩) (Kd.R_far (p := ⟨gb221, 0, none⟩) (Kd.R_types HO234.out BK221.out (by decide)) (fun _ hk => hk.2) (.int .i64 t225)) (fun _ hk => hk.2) (.string (t223.extract (t226 : Int).toNat ((wrap64 (t226 + 32)) : Int).toNat))) (fun _ hk => hk.2) (.slice Ao30 t231.length co30)) (fun _ hk => hk.2) (.string t235)) (fun _ hk => trivial), bl_⟩


/-! ### laws_markEntryS: function 30 -/
def laws_markEntryS.l0 : Nat → List (S70) → Int → Int → Option (Int × (List (S70)))
 | 0, _, _, _ => none
 | k + 1, x0, x1, x5 => if x5 < (x0.length : Int) then (if 0 ≤ x5 then ((some (x0.set (x5 : Int).toNat (⟨x1, (rd_T70 x0 x5).f1, (⟨(rd_T70 x0 x5).f2.f0, (rd_T70 x0 x5).f2.f1, (rd_T70 x0 x5).f2.f2, (rd_T70 x0 x5).f2.f3⟩ : S68)⟩ : S70) : List (S70))).bind fun y398 => ((some (y398.set (x5 : Int).toNat (⟨(rd_T70 y398 x5).f0, wrap64 (x1 + 1), (⟨(rd_T70 y398 x5).f2.f0, (rd_T70 y398 x5).f2.f1, (rd_T70 y398 x5).f2.f2, (rd_T70 y398 x5).f2.f3⟩ : S68)⟩ : S70) : List (S70))).bind fun y399 => ((some (y399.set (x5 : Int).toNat (⟨(rd_T70 y399 x5).f0, (rd_T70 y399 x5).f1, (⟨wrap64 ((wrap64 (x1 + 1)) + 1), (rd_T70 y399 x5).f2.f1, (rd_T70 y399 x5).f2.f2, (rd_T70 y399 x5).f2.f3⟩ : S68)⟩ : S70) : List (S70))).bind fun y400 => ((some (y400.set (x5 : Int).toNat (⟨(rd_T70 y400 x5).f0, (rd_T70 y400 x5).f1, (⟨(rd_T70 y400 x5).f2.f0, wrap64 ((wrap64 ((wrap64 (x1 + 1)) + 1)) + 1), (rd_T70 y400 x5).f2.f2, (rd_T70 y400 x5).f2.f3⟩ : S68)⟩ : S70) : List (S70))).bind fun y401 => ((some (y401.set (x5 : Int).toNat (⟨(rd_T70 y401 x5).f0, (rd_T70 y401 x5).f1, (⟨(rd_T70 y401 x5).f2.f0, (rd_T70 y401 x5).f2.f1, wrap64 ((wrap64 ((wrap64 ((wrap64 (x1 + 1)) + 1)) + 1)) + 1), (rd_T70 y401 x5).f2.f3⟩ : S68)⟩ : S70) : List (S70))).bind fun y402 => (laws_markEntryS.l0 k (y402.set (x5 : Int).toNat (⟨(rd_T70 y402 x5).f0, (rd_T70 y402 x5).f1, (⟨(rd_T70 y402 x5).f2.f0, (rd_T70 y402 x5).f2.f1, (rd_T70 y402 x5).f2.f2, wrap64 ((wrap64 ((wrap64 ((wrap64 ((wrap64 (x1 + 1)) + 1)) + 1)) + 1)) + 1)⟩ : S68)⟩ : S70)) (wrap64 ((wrap64 ((wrap64 ((wrap64 ((wrap64 ((wrap64 (x1 + 1)) + 1)) + 1)) + 1)) + 1)) + 1)) (wrap64 (x5 + 1)))))))) else (none)) else (some (x1, x0))
def laws_markEntryS.f (k : Nat) (l0 : List (S70)) (a1 : Int) : Option (Int × (List (S70))) := laws_markEntryS.l0 k l0 a1 0
theorem laws_markEntryS.mono_l : ∀ k, (∀ y0 y1 y2, LeO (laws_markEntryS.l0 k y0 y1 y2) (laws_markEntryS.l0 (k + 1) y0 y1 y2))
 | 0 => fun _ _ _ r h => by simp [laws_markEntryS.l0] at h
 | k + 1 => by
  have ih0 := laws_markEntryS.mono_l k
  ·intro y0 y1 y2
   unfold laws_markEntryS.l0
   exact mo_
theorem laws_markEntryS.mono : ∀ a0 a1 k, LeO (laws_markEntryS.f k a0 a1) (laws_markEntryS.f (k + 1) a0 a1) := by
 intro a0 a1 k
 have ih0 := laws_markEntryS.mono_l k
 unfold laws_markEntryS.f
 exact mo_
set_option maxHeartbeats 8000000 in
set_option maxRecDepth 100000 in
theorem laws_markEntryS.calls (k : Nat) (P0_ : Nat → Prop) (u9000_ : Value) (l0 : List (S70)) (a1 : Int) (r1 : Int) (r2 : List (S70)) (w0 w : World) (hB : Below w0.heap.size w0 w) (ho0 : Kd.R k70 70 w w0.heap.size P0_ u9000_ l0) (h : laws_markEntryS.f k l0 a1 = some (r1, r2)) :
 Calls Tryd.prog 30 #[u9000_, .int .i64 a1] w fun e w' => e = .returned (.int .i64 r1) ∧ Kd.R k70 70 w' w0.heap.size (fun k_ => (P0_ k_ ∨ w.heap.size ≤ k_)) u9000_ r2 ∧ Below w0.heap.size w0 w' ∧ Kept w w' (fun k_ => P0_ k_) := by
 have HO0 := Aside0.mk (show Kd.R k70 70 w w0.heap.size (fun k_ => (P0_ k_ ∨ w.heap.size ≤ k_)) u9000_ l0 from Kd.R_mono ho0 (fun k_ hk => (.inl hk)))
 have HK := Aside0.mk (Kept.refl w (fun k_ => P0_ k_))
 have HW0 := Aside0.mk hB.size
 have HB := Aside0.mk hB
 clear hB
 have H : (laws_markEntryS.l0 k l0 a1 0) = some (r1, r2) := h
 clear h
 have H' := Aside0.mk H
 clear H
 go_enter Tryd.func30, Tryd.ntmps30
 go_wp2
 go_loopg [1, 5] k (fun kq v1 v5 w' => ∃ (x0_1 : List (S70)) (x1_1 : Int) (x5_1 : Int), v1 = .int .i64 x1_1 ∧ v5 = .int .i64 x5_1 ∧ Aside0 (laws_markEntryS.l0 kq x0_1 x1_1 x5_1 = some (r1, r2)) ∧ Aside0 (kq ≤ k) ∧ Aside0 (Kd.R k70 70 w' w0.heap.size (fun k_ => (P0_ k_ ∨ w.heap.size ≤ k_)) u9000_ x0_1) ∧ Aside0 (Kept w w' (fun k_ => P0_ k_)) ∧ Aside0 (Below w0.heap.size w0 w'))
 case atStart => exact ⟨(l0), (a1), (0), (sr_), (sr_), H', ⟨Nat.le_refl _⟩, ⟨ra_ HO0.out⟩, ⟨by repeat (first | (with_reducible first | exact HK.out | apply Kept.alloc | apply Kept.drewN | apply Kept.drew) | exact HK.out)⟩, ⟨bl_⟩⟩
 clear H'
 obtain ⟨x0_1, x1_1, x5_1, rfl, rfl, HA, HK1, HO_0, HK, HB⟩ := hrel
 cases gk with
 | zero => exact absurd HA.out (by simp [laws_markEntryS.l0])
 | succ k1 => ?_
 have H := HA.out
 clear HA
 simp only [laws_markEntryS.l0] at H
 by_cases c3 : x5_1 < (x0_1.length : Int)
 rotate_left
 ·rw [if_neg c3] at H
  have c3b0 := decide_eq_false c3
  clear c3
  simp only [Option.some.injEq, Prod.mk.injEq] at H
  obtain ⟨rfl, rfl⟩ := H
  obtain ⟨Ao24, co24, eo24⟩ := Kd.R_slice HO_0.out
  subst eo24
  go_wp2
  go_ret
  exact ⟨er_, ra_ HO_0.out, bl_, by repeat (first | (with_reducible first | exact HK.out | apply Kept.alloc | apply Kept.drewN | apply Kept.drew) | exact HK.out)⟩
 rw [if_pos c3] at H
 have c3b0 := decide_eq_true c3
 clear c3
 by_cases c4 : 0 ≤ x5_1
 rotate_left
 ·exact nn_ c4 H
 rw [if_pos c4] at H
 have c4b0 := decide_eq_true c4
 clear c4
 obtain ⟨y398, hy398⟩ : ∃ y_ : List (S70), y_ = (x0_1.set (x5_1 : Int).toNat (⟨x1_1, (rd_T70 x0_1 x5_1).f1, (⟨(rd_T70 x0_1 x5_1).f2.f0, (rd_T70 x0_1 x5_1).f2.f1, (rd_T70 x0_1 x5_1).f2.f2, (rd_T70 x0_1 x5_1).f2.f3⟩ : S68)⟩ : S70)) := ⟨_, rfl⟩
 replace H : ((some (y398.set (x5_1 : Int).toNat (⟨(rd_T70 y398 x5_1).f0, wrap64 (x1_1 + 1), (⟨(rd_T70 y398 x5_1).f2.f0, (rd_T70 y398 x5_1).f2.f1, (rd_T70 y398 x5_1).f2.f2, (rd_T70 y398 x5_1).f2.f3⟩ : S68)⟩ : S70) : List (S70))).bind fun y399 => ((some (y399.set (x5_1 : Int).toNat (⟨(rd_T70 y399 x5_1).f0, (rd_T70 y399 x5_1).f1, (⟨wrap64 ((wrap64 (x1_1 + 1)) + 1), (rd_T70 y399 x5_1).f2.f1, (rd_T70 y399 x5_1).f2.f2, (rd_T70 y399 x5_1).f2.f3⟩ : S68)⟩ : S70) : List (S70))).bind fun y400 => ((some (y400.set (x5_1 : Int).toNat (⟨(rd_T70 y400 x5_1).f0, (rd_T70 y400 x5_1).f1, (⟨(rd_T70 y400 x5_1).f2.f0, wrap64 ((wrap64 ((wrap64 (x1_1 + 1)) + 1)) + 1), (rd_T70 y400 x5_1).f2.f2, (rd_T70 y400 x5_1).f2.f3⟩ : S68)⟩ : S70) : List (S70))).bind fun y401 => ((some (y401.set (x5_1 : Int).toNat (⟨(rd_T70 y401 x5_1).f0, (rd_T70 y401 x5_1).f1, (⟨(rd_T70 y401 x5_1).f2.f0, (rd_T70 y401 x5_1).f2.f1, wrap64 ((wrap64 ((wrap64 ((wrap64 (x1_1 + 1)) + 1)) + 1)) + 1), (rd_T70 y401 x5_1).f2.f3⟩ : S68)⟩ : S70) : List (S70))).bind fun y402 => (laws_markEntryS.l0 k1 (y402.set (x5_1 : Int).toNat (⟨(rd_T70 y402 x5_1).f0, (rd_T70 y402 x5_1).f1, (⟨(rd_T70 y402 x5_1).f2.f0, (rd_T70 y402 x5_1).f2.f1, (rd_T70 y402 x5_1).f2.f2, wrap64 ((wrap64 ((wrap64 ((wrap64 ((wrap64 (x1_1 + 1)) + 1)) + 1)) + 1)) + 1)⟩ : S68)⟩ : S70)) (wrap64 ((wrap64 ((wrap64 ((wrap64 ((wrap64 ((wrap64 (x1_1 + 1)) + 1)) + 1)) + 1)) + 1)) + 1)) (wrap64 (x5_1 + 1))))))) = some (r1, r2) := rp_ H hy398
 have Ny398 := Aside0.mk hy398
 clear hy398
 obtain ⟨y399, hy399⟩ : ∃ y_ : List (S70), y_ = (y398.set (x5_1 : Int).toNat (⟨(rd_T70 y398 x5_1).f0, wrap64 (x1_1 + 1), (⟨(rd_T70 y398 x5_1).f2.f0, (rd_T70 y398 x5_1).f2.f1, (rd_T70 y398 x5_1).f2.f2, (rd_T70 y398 x5_1).f2.f3⟩ : S68)⟩ : S70)) := ⟨_, rfl⟩
 replace H : ((some (y399.set (x5_1 : Int).toNat (⟨(rd_T70 y399 x5_1).f0, (rd_T70 y399 x5_1).f1, (⟨wrap64 ((wrap64 (x1_1 + 1)) + 1), (rd_T70 y399 x5_1).f2.f1, (rd_T70 y399 x5_1).f2.f2, (rd_T70 y399 x5_1).f2.f3⟩ : S68)⟩ : S70) : List (S70))).bind fun y400 => ((some (y400.set (x5_1 : Int).toNat (⟨(rd_T70 y400 x5_1).f0, (rd_T70 y400 x5_1).f1, (⟨(rd_T70 y400 x5_1).f2.f0, wrap64 ((wrap64 ((wrap64 (x1_1 + 1)) + 1)) + 1), (rd_T70 y400 x5_1).f2.f2, (rd_T70 y400 x5_1).f2.f3⟩ : S68)⟩ : S70) : List (S70))).bind fun y401 => ((some (y401.set (x5_1 : Int).toNat (⟨(rd_T70 y401 x5_1).f0, (rd_T70 y401 x5_1).f1, (⟨(rd_T70 y401 x5_1).f2.f0, (rd_T70 y401 x5_1).f2.f1, wrap64 ((wrap64 ((wrap64 ((wrap64 (x1_1 + 1)) + 1)) + 1)) + 1), (rd_T70 y401 x5_1).f2.f3⟩ : S68)⟩ : S70) : List (S70))).bind fun y402 => (laws_markEntryS.l0 k1 (y402.set (x5_1 : Int).toNat (⟨(rd_T70 y402 x5_1).f0, (rd_T70 y402 x5_1).f1, (⟨(rd_T70 y402 x5_1).f2.f0, (rd_T70 y402 x5_1).f2.f1, (rd_T70 y402 x5_1).f2.f2, wrap64 ((wrap64 ((wrap64 ((wrap64 ((wrap64 (x1_1 + 1)) + 1)) + 1)) + 1)) + 1)⟩ : S68)⟩ : S70)) (wrap64 ((wrap64 ((wrap64 ((wrap64 ((wrap64 ((wrap64 (x1_1 + 1)) + 1)) + 1)) + 1)) + 1)) + 1)) (wrap64 (x5_1 + 1)))))) = some (r1, r2) := rp_ H hy399
 have Ny399 := Aside0.mk hy399
 clear hy399
 obtain ⟨y400, hy400⟩ : ∃ y_ : List (S70), y_ = (y399.set (x5_1 : Int).toNat (⟨(rd_T70 y399 x5_1).f0, (rd_T70 y399 x5_1).f1, (⟨wrap64 ((wrap64 (x1_1 + 1)) + 1), (rd_T70 y399 x5_1).f2.f1, (rd_T70 y399 x5_1).f2.f2, (rd_T70 y399 x5_1).f2.f3⟩ : S68)⟩ : S70)) := ⟨_, rfl⟩
 replace H : ((some (y400.set (x5_1 : Int).toNat (⟨(rd_T70 y400 x5_1).f0, (rd_T70 y400 x5_1).f1, (⟨(rd_T70 y400 x5_1).f2.f0, wrap64 ((wrap64 ((wrap64 (x1_1 + 1)) + 1)) + 1), (rd_T70 y400 x5_1).f2.f2, (rd_T70 y400 x5_1).f2.f3⟩ : S68)⟩ : S70) : List (S70))).bind fun y401 => ((some (y401.set (x5_1 : Int).toNat (⟨(rd_T70 y401 x5_1).f0, (rd_T70 y401 x5_1).f1, (⟨(rd_T70 y401 x5_1).f2.f0, (rd_T70 y401 x5_1).f2.f1, wrap64 ((wrap64 ((wrap64 ((wrap64 (x1_1 + 1)) + 1)) + 1)) + 1), (rd_T70 y401 x5_1).f2.f3⟩ : S68)⟩ : S70) : List (S70))).bind fun y402 => (laws_markEntryS.l0 k1 (y402.set (x5_1 : Int).toNat (⟨(rd_T70 y402 x5_1).f0, (rd_T70 y402 x5_1).f1, (⟨(rd_T70 y402 x5_1).f2.f0, (rd_T70 y402 x5_1).f2.f1, (rd_T70 y402 x5_1).f2.f2, wrap64 ((wrap64 ((wrap64 ((wrap64 ((wrap64 (x1_1 + 1)) + 1)) + 1)) + 1)) + 1)⟩ : S68)⟩ : S70)) (wrap64 ((wrap64 ((wrap64 ((wrap64 ((wrap64 ((wrap64 (x1_1 + 1)) + 1)) + 1)) + 1)) + 1)) + 1)) (wrap64 (x5_1 + 1))))) = some (r1, r2) := rp_ H hy400
 have Ny400 := Aside0.mk hy400
 clear hy400
 obtain ⟨y401, hy401⟩ : ∃ y_ : List (S70), y_ = (y400.set (x5_1 : Int).toNat (⟨(rd_T70 y400 x5_1).f0, (rd_T70 y400 x5_1).f1, (⟨(rd_T70 y400 x5_1).f2.f0, wrap64 ((wrap64 ((wrap64 (x1_1 + 1)) + 1)) + 1), (rd_T70 y400 x5_1).f2.f2, (rd_T70 y400 x5_1).f2.f3⟩ : S68)⟩ : S70)) := ⟨_, rfl⟩
 replace H : ((some (y401.set (x5_1 : Int).toNat (⟨(rd_T70 y401 x5_1).f0, (rd_T70 y401 x5_1).f1, (⟨(rd_T70 y401 x5_1).f2.f0, (rd_T70 y401 x5_1).f2.f1, wrap64 ((wrap64 ((wrap64 ((wrap64 (x1_1 + 1)) + 1)) + 1)) + 1), (rd_T70 y401 x5_1).f2.f3⟩ : S68)⟩ : S70) : List (S70))).bind fun y402 => (laws_markEntryS.l0 k1 (y402.set (x5_1 : Int).toNat (⟨(rd_T70 y402 x5_1).f0, (rd_T70 y402 x5_1).f1, (⟨(rd_T70 y402 x5_1).f2.f0, (rd_T70 y402 x5_1).f2.f1, (rd_T70 y402 x5_1).f2.f2, wrap64 ((wrap64 ((wrap64 ((wrap64 ((wrap64 (x1_1 + 1)) + 1)) + 1)) + 1)) + 1)⟩ : S68)⟩ : S70)) (wrap64 ((wrap64 ((wrap64 ((wrap64 ((wrap64 ((wrap64 (x1_1 + 1)) + 1)) + 1)) + 1)) + 1)) + 1)) (wrap64 (x5_1 + 1)))) = some (r1, r2) := rp_ H hy401
 have Ny401 := Aside0.mk hy401
 clear hy401
 obtain ⟨y402, hy402⟩ : ∃ y_ : List (S70), y_ = (y401.set (x5_1 : Int).toNat (⟨(rd_T70 y401 x5_1).f0, (rd_T70 y401 x5_1).f1, (⟨(rd_T70 y401 x5_1).f2.f0, (rd_T70 y401 x5_1).f2.f1, wrap64 ((wrap64 ((wrap64 ((wrap64 (x1_1 + 1)) + 1)) + 1)) + 1), (rd_T70 y401 x5_1).f2.f3⟩ : S68)⟩ : S70)) := ⟨_, rfl⟩
 replace H : (laws_markEntryS.l0 k1 (y402.set (x5_1 : Int).toNat (⟨(rd_T70 y402 x5_1).f0, (rd_T70 y402 x5_1).f1, (⟨(rd_T70 y402 x5_1).f2.f0, (rd_T70 y402 x5_1).f2.f1, (rd_T70 y402 x5_1).f2.f2, wrap64 ((wrap64 ((wrap64 ((wrap64 ((wrap64 (x1_1 + 1)) + 1)) + 1)) + 1)) + 1)⟩ : S68)⟩ : S70)) (wrap64 ((wrap64 ((wrap64 ((wrap64 ((wrap64 ((wrap64 (x1_1 + 1)) + 1)) + 1)) + 1)) + 1)) + 1)) (wrap64 (x5_1 + 1))) = some (r1, r2) := rp_ H hy402
 have Ny402 := Aside0.mk hy402
 clear hy402
 obtain ⟨y403, hy403⟩ : ∃ y_ : List (S70), y_ = (y402.set (x5_1 : Int).toNat (⟨(rd_T70 y402 x5_1).f0, (rd_T70 y402 x5_1).f1, (⟨(rd_T70 y402 x5_1).f2.f0, (rd_T70 y402 x5_1).f2.f1, (rd_T70 y402 x5_1).f2.f2, wrap64 ((wrap64 ((wrap64 ((wrap64 ((wrap64 (x1_1 + 1)) + 1)) + 1)) + 1)) + 1)⟩ : S68)⟩ : S70)) := ⟨_, rfl⟩
 replace H : (laws_markEntryS.l0 k1 y403 (wrap64 ((wrap64 ((wrap64 ((wrap64 ((wrap64 ((wrap64 (x1_1 + 1)) + 1)) + 1)) + 1)) + 1)) + 1)) (wrap64 (x5_1 + 1))) = some (r1, r2) := rp_ H hy403
 have Ny403 := Aside0.mk hy403
 clear hy403
 have H' := Aside0.mk H
 clear H
 obtain ⟨Ao11, co11, eo11⟩ := Kd.R_slice HO_0.out
 subst eo11
 have p5 : 0 ≤ (x5_1 : Int) := of_decide_eq_true as_
 have q5 : (x5_1 : Int) < ((x0_1.length : Int) : Int) := of_decide_eq_true as_
 obtain ⟨go5, co5, eo5, gb5, gl5, cl5, HG5⟩ := Kd.R_form HO_0.out (by omega)
 (first | cases eo5 | (injection eo5 with ea_ en_ ec_; (first | subst ea_ | (injection ea_ with ea_; subst ea_)); subst ec_; clear en_))
 have GB5 := Aside0.mk gb5
 have GG5 := Aside0.mk HG5
 clear gb5 gl5 HG5
 have HMgo5 := Aside0.mk (show (P0_ go5 ∨ w.heap.size ≤ go5) from (HO_0.out.1 _ rfl))
 obtain ⟨ce5, hcl5, hM5, hcc5, hfr5⟩ := Kd.R_elem HO_0.out z70 (x5_1 : Int) p5 q5
 obtain rfl := k70_openM hM5
 have hx5_0 : wr.cell? ⟨go5, (x5_1 : Int).toNat * 6, none⟩ = some (.int .i64 ((rd_T70 x0_1 x5_1).f0)) := hcc5 0 _ rfl
 have hx5_1 : wr.cell? ⟨go5, (x5_1 : Int).toNat * 6 + 1, none⟩ = some (.int .i64 ((rd_T70 x0_1 x5_1).f1)) := hcc5 1 _ rfl
 have hx5_2 : wr.cell? ⟨go5, (x5_1 : Int).toNat * 6 + 2, none⟩ = some (.int .i64 ((rd_T70 x0_1 x5_1).f2.f0)) := hcc5 2 _ rfl
 have hx5_3 : wr.cell? ⟨go5, (x5_1 : Int).toNat * 6 + 3, none⟩ = some (.int .i64 ((rd_T70 x0_1 x5_1).f2.f1)) := hcc5 3 _ rfl
 have hx5_4 : wr.cell? ⟨go5, (x5_1 : Int).toNat * 6 + 4, none⟩ = some (.int .i64 ((rd_T70 x0_1 x5_1).f2.f2)) := hcc5 4 _ rfl
 have hx5_5 : wr.cell? ⟨go5, (x5_1 : Int).toNat * 6 + 5, none⟩ = some (.int .i64 ((rd_T70 x0_1 x5_1).f2.f3)) := hcc5 5 _ rfl
 have hf5_0 : wr.frozen? ⟨go5, (x5_1 : Int).toNat * 6, none⟩ = false := hfr5 0
 have hf5_1 : wr.frozen? ⟨go5, (x5_1 : Int).toNat * 6 + 1, none⟩ = false := hfr5 1
 have hf5_2 : wr.frozen? ⟨go5, (x5_1 : Int).toNat * 6 + 2, none⟩ = false := hfr5 2
 have hf5_3 : wr.frozen? ⟨go5, (x5_1 : Int).toNat * 6 + 3, none⟩ = false := hfr5 3
 have hf5_4 : wr.frozen? ⟨go5, (x5_1 : Int).toNat * 6 + 4, none⟩ = false := hfr5 4
 have hf5_5 : wr.frozen? ⟨go5, (x5_1 : Int).toNat * 6 + 5, none⟩ = false := hfr5 5
 clear hcl5 hcc5 hfr5 hM5
 replace p5 := eq_true p5
 replace q5 := eq_true q5
 have HX12 := Aside0.mk (show Kd.R k70 70 wr w0.heap.size (fun k_ => (P0_ k_ ∨ w.heap.size ≤ k_)) (.slice (some ⟨go5, 0, none⟩) x0_1.length co11) x0_1 from (ra_ HO_0.out))
 obtain ⟨ce12, hcl12, hM12, hcc12, hfr12⟩ := Kd.R_elem HX12.out z70 (x5_1 : Int) (of_decide_eq_true as_) (by have h_ : (x5_1 : Int) < ((x0_1.length : Int) : Int) := of_decide_eq_true as_; first | exact h_ | (have e_ := (Kd.R_reads' HO_0.out).1; omega) | simpa using h_)
 obtain rfl := k70_openM hM12
 have HP12 := Kd.R_seg HX12.out (x5_1 : Int) (of_decide_eq_true as_) (by have h_ : (x5_1 : Int) < ((x0_1.length : Int) : Int) := of_decide_eq_true as_; first | exact h_ | (have e_ := (Kd.R_reads' HO_0.out).1; omega) | simpa using h_) (seg := [.int .i64 x1_1]) (j := 0) hcl12 hcc12 (show 1 ≤ 6 from by decide) (x' := (⟨x1_1, (rd_T70 x0_1 x5_1).f1, (⟨(rd_T70 x0_1 x5_1).f2.f0, (rd_T70 x0_1 x5_1).f2.f1, (rd_T70 x0_1 x5_1).f2.f2, (rd_T70 x0_1 x5_1).f2.f3⟩ : S68)⟩ : S70)) (k70_mkM _ _ _ (⟨x1_1, (rd_T70 x0_1 x5_1).f1, (⟨(rd_T70 x0_1 x5_1).f2.f0, (rd_T70 x0_1 x5_1).f2.f1, (rd_T70 x0_1 x5_1).f2.f2, (rd_T70 x0_1 x5_1).f2.f3⟩ : S68)⟩ : S70) ) (fun _ hk => hk)
 have hx12_0 := hcc12 0 _ rfl
 (try simp only [show (k70).sz = 6 from rfl, Nat.mul_one, Nat.add_zero] at hx12_0)
 have hf12_0 := hfr12 0
 (try simp only [show (k70).sz = 6 from rfl, Nat.mul_one, Nat.add_zero] at hf12_0)
 clear hcl12 hcc12 hfr12 hM12
 go_wp2_with (first | ((with_reducible refine gate_store (t := 3) (p := 16) rfl ?_); refine store_event (t := 3) (p := 16) (v := ?vo_w13) (w1 := (wr.setCell ⟨go5, (x5_1 : Int).toNat * 6, none⟩ (.int .i64 x1_1))) ?hg ?ho ?hn ?hr ?_; (case ho => rfl); (case hg => rfl); (case hn => rfl); (case hr => first | (go_simp; done) | (go_simp; rfl)); intro w13 hw; have hg : wr.grownBy w13 (some go5) := (by rw [hw]; exact HP12.2); have hp_ : Kd.R k70 70 w13 w0.heap.size (fun k_ => (P0_ k_ ∨ w.heap.size ≤ k_)) (.slice (some ⟨go5, 0, none⟩) x0_1.length co11) y398 := (by rw [hw, Ny398.out]; exact HP12.1); clear HP12; replace HB := Aside0.mk ((by rw [hw]; exact below_set (HB.out) GB5.out : Below w0.heap.size w0 w13)); replace HK := Aside0.mk (Kept.of_grown (S := (fun k_ => P0_ k_)) hg (by repeat (first | (with_reducible first | exact HK.out | apply Kept.alloc | apply Kept.drewN | apply Kept.drew) | exact HK.out)) (fun k_ e_ => (HO_0.out.1 k_ e_))); replace HO_0 := Aside0.mk (hp_); clear hg hw hp_; have p6 : 0 ≤ (x5_1 : Int) := of_decide_eq_true as_; have q6 : (x5_1 : Int) < ((x0_1.length : Int) : Int) := of_decide_eq_true as_; obtain ⟨ce6, hcl6, hM6, hcc6, hfr6⟩ := Kd.R_elem HO_0.out z70 (x5_1 : Int) p6 q6; obtain rfl := k70_openM hM6; have hx6_0 : w13.cell? ⟨go5, (x5_1 : Int).toNat * 6, none⟩ = some (.int .i64 ((rd_T70 y398 x5_1).f0)) := hcc6 0 _ rfl; have hx6_1 : w13.cell? ⟨go5, (x5_1 : Int).toNat * 6 + 1, none⟩ = some (.int .i64 ((rd_T70 y398 x5_1).f1)) := hcc6 1 _ rfl; have hx6_2 : w13.cell? ⟨go5, (x5_1 : Int).toNat * 6 + 2, none⟩ = some (.int .i64 ((rd_T70 y398 x5_1).f2.f0)) := hcc6 2 _ rfl; have hx6_3 : w13.cell? ⟨go5, (x5_1 : Int).toNat * 6 + 3, none⟩ = some (.int .i64 ((rd_T70 y398 x5_1).f2.f1)) := hcc6 3 _ rfl; have hx6_4 : w13.cell? ⟨go5, (x5_1 : Int).toNat * 6 + 4, none⟩ = some (.int .i64 ((rd_T70 y398 x5_1).f2.f2)) := hcc6 4 _ rfl; have hx6_5 : w13.cell? ⟨go5, (x5_1 : Int).toNat * 6 + 5, none⟩ = some (.int .i64 ((rd_T70 y398 x5_1).f2.f3)) := hcc6 5 _ rfl; have hf6_0 : w13.frozen? ⟨go5, (x5_1 : Int).toNat * 6, none⟩ = false := hfr6 0; have hf6_1 : w13.frozen? ⟨go5, (x5_1 : Int).toNat * 6 + 1, none⟩ = false := hfr6 1; have hf6_2 : w13.frozen? ⟨go5, (x5_1 : Int).toNat * 6 + 2, none⟩ = false := hfr6 2; have hf6_3 : w13.frozen? ⟨go5, (x5_1 : Int).toNat * 6 + 3, none⟩ = false := hfr6 3; have hf6_4 : w13.frozen? ⟨go5, (x5_1 : Int).toNat * 6 + 4, none⟩ = false := hfr6 4; have hf6_5 : w13.frozen? ⟨go5, (x5_1 : Int).toNat * 6 + 5, none⟩ = false := hfr6 5; clear hcl6 hcc6 hfr6 hM6; replace p6 := eq_true p6; replace q6 := eq_true q6; have HX14 := Aside0.mk (show Kd.R k70 70 w13 w0.heap.size (fun k_ => (P0_ k_ ∨ w.heap.size ≤ k_)) (.slice (some ⟨go5, 0, none⟩) x0_1.length co11) y398 from (ra_ HO_0.out)); obtain ⟨ce14, hcl14, hM14, hcc14, hfr14⟩ := Kd.R_elem HX14.out z70 (x5_1 : Int) (of_decide_eq_true as_) (by have h_ : (x5_1 : Int) < ((x0_1.length : Int) : Int) := of_decide_eq_true as_; first | exact h_ | (have e_ := (Kd.R_reads' HO_0.out).1; omega) | simpa using h_); obtain rfl := k70_openM hM14; have HP14 := Kd.R_seg HX14.out (x5_1 : Int) (of_decide_eq_true as_) (by have h_ : (x5_1 : Int) < ((x0_1.length : Int) : Int) := of_decide_eq_true as_; first | exact h_ | (have e_ := (Kd.R_reads' HO_0.out).1; omega) | simpa using h_) (seg := [.int .i64 (wrap64 (x1_1 + 1))]) (j := 1) hcl14 hcc14 (show 2 ≤ 6 from by decide) (x' := (⟨(rd_T70 y398 x5_1).f0, wrap64 (x1_1 + 1), (⟨(rd_T70 y398 x5_1).f2.f0, (rd_T70 y398 x5_1).f2.f1, (rd_T70 y398 x5_1).f2.f2, (rd_T70 y398 x5_1).f2.f3⟩ : S68)⟩ : S70)) (k70_mkM _ _ _ (⟨(rd_T70 y398 x5_1).f0, wrap64 (x1_1 + 1), (⟨(rd_T70 y398 x5_1).f2.f0, (rd_T70 y398 x5_1).f2.f1, (rd_T70 y398 x5_1).f2.f2, (rd_T70 y398 x5_1).f2.f3⟩ : S68)⟩ : S70) ) (fun _ hk => hk); have hx14_1 := hcc14 1 _ rfl; (try simp only [show (k70).sz = 6 from rfl, Nat.mul_one, Nat.add_zero] at hx14_1); have hf14_1 := hfr14 1; (try simp only [show (k70).sz = 6 from rfl, Nat.mul_one, Nat.add_zero] at hf14_1); clear hcl14 hcc14 hfr14 hM14) | ((with_reducible refine gate_store (t := 3) (p := 23) rfl ?_); refine store_event (t := 3) (p := 23) (v := ?vo_w15) (w1 := (w13.setCell ⟨go5, (x5_1 : Int).toNat * 6 + 1, none⟩ (.int .i64 (wrap64 (x1_1 + 1))))) ?hg ?ho ?hn ?hr ?_; (case ho => rfl); (case hg => rfl); (case hn => rfl); (case hr => first | (go_simp; done) | (go_simp; rfl)); intro w15 hw; have hg : w13.grownBy w15 (some go5) := (by rw [hw]; exact HP14.2); have hp_ : Kd.R k70 70 w15 w0.heap.size (fun k_ => (P0_ k_ ∨ w.heap.size ≤ k_)) (.slice (some ⟨go5, 0, none⟩) x0_1.length co11) y399 := (by rw [hw, Ny399.out]; exact HP14.1); clear HP14; replace HB := Aside0.mk ((by rw [hw]; exact below_set (HB.out) GB5.out : Below w0.heap.size w0 w15)); replace HK := Aside0.mk (Kept.of_grown (S := (fun k_ => P0_ k_)) hg (by repeat (first | (with_reducible first | exact HK.out | apply Kept.alloc | apply Kept.drewN | apply Kept.drew) | exact HK.out)) (fun k_ e_ => (HO_0.out.1 k_ e_))); replace HO_0 := Aside0.mk (hp_); clear hg hw hp_; have p7 : 0 ≤ (x5_1 : Int) := of_decide_eq_true as_; have q7 : (x5_1 : Int) < ((x0_1.length : Int) : Int) := of_decide_eq_true as_; obtain ⟨ce7, hcl7, hM7, hcc7, hfr7⟩ := Kd.R_elem HO_0.out z70 (x5_1 : Int) p7 q7; obtain rfl := k70_openM hM7; have hx7_0 : w15.cell? ⟨go5, (x5_1 : Int).toNat * 6, none⟩ = some (.int .i64 ((rd_T70 y399 x5_1).f0)) := hcc7 0 _ rfl; have hx7_1 : w15.cell? ⟨go5, (x5_1 : Int).toNat * 6 + 1, none⟩ = some (.int .i64 ((rd_T70 y399 x5_1).f1)) := hcc7 1 _ rfl; have hx7_2 : w15.cell? ⟨go5, (x5_1 : Int).toNat * 6 + 2, none⟩ = some (.int .i64 ((rd_T70 y399 x5_1).f2.f0)) := hcc7 2 _ rfl; have hx7_3 : w15.cell? ⟨go5, (x5_1 : Int).toNat * 6 + 3, none⟩ = some (.int .i64 ((rd_T70 y399 x5_1).f2.f1)) := hcc7 3 _ rfl; have hx7_4 : w15.cell? ⟨go5, (x5_1 : Int).toNat * 6 + 4, none⟩ = some (.int .i64 ((rd_T70 y399 x5_1).f2.f2)) := hcc7 4 _ rfl; have hx7_5 : w15.cell? ⟨go5, (x5_1 : Int).toNat * 6 + 5, none⟩ = some (.int .i64 ((rd_T70 y399 x5_1).f2.f3)) := hcc7 5 _ rfl; have hf7_0 : w15.frozen? ⟨go5, (x5_1 : Int).toNat * 6, none⟩ = false := hfr7 0; have hf7_1 : w15.frozen? ⟨go5, (x5_1 : Int).toNat * 6 + 1, none⟩ = false := hfr7 1; have hf7_2 : w15.frozen? ⟨go5, (x5_1 : Int).toNat * 6 + 2, none⟩ = false := hfr7 2; have hf7_3 : w15.frozen? ⟨go5, (x5_1 : Int).toNat * 6 + 3, none⟩ = false := hfr7 3; have hf7_4 : w15.frozen? ⟨go5, (x5_1 : Int).toNat * 6 + 4, none⟩ = false := hfr7 4; have hf7_5 : w15.frozen? ⟨go5, (x5_1 : Int).toNat * 6 + 5, none⟩ = false := hfr7 5; clear hcl7 hcc7 hfr7 hM7; replace p7 := eq_true p7; replace q7 := eq_true q7; have HX16 := Aside0.mk (show Kd.R k70 70 w15 w0.heap.size (fun k_ => (P0_ k_ ∨ w.heap.size ≤ k_)) (.slice (some ⟨go5, 0, none⟩) x0_1.length co11) y399 from (ra_ HO_0.out)); obtain ⟨ce16, hcl16, hM16, hcc16, hfr16⟩ := Kd.R_elem HX16.out z70 (x5_1 : Int) (of_decide_eq_true as_) (by have h_ : (x5_1 : Int) < ((x0_1.length : Int) : Int) := of_decide_eq_true as_; first | exact h_ | (have e_ := (Kd.R_reads' HO_0.out).1; omega) | simpa using h_); obtain rfl := k70_openM hM16; have HP16 := Kd.R_seg HX16.out (x5_1 : Int) (of_decide_eq_true as_) (by have h_ : (x5_1 : Int) < ((x0_1.length : Int) : Int) := of_decide_eq_true as_; first | exact h_ | (have e_ := (Kd.R_reads' HO_0.out).1; omega) | simpa using h_) (seg := [.int .i64 (wrap64 ((wrap64 (x1_1 + 1)) + 1))]) (j := 2) hcl16 hcc16 (show 3 ≤ 6 from by decide) (x' := (⟨(rd_T70 y399 x5_1).f0, (rd_T70 y399 x5_1).f1, (⟨wrap64 ((wrap64 (x1_1 + 1)) + 1), (rd_T70 y399 x5_1).f2.f1, (rd_T70 y399 x5_1).f2.f2, (rd_T70 y399 x5_1).f2.f3⟩ : S68)⟩ : S70)) (k70_mkM _ _ _ (⟨(rd_T70 y399 x5_1).f0, (rd_T70 y399 x5_1).f1, (⟨wrap64 ((wrap64 (x1_1 + 1)) + 1), (rd_T70 y399 x5_1).f2.f1, (rd_T70 y399 x5_1).f2.f2, (rd_T70 y399 x5_1).f2.f3⟩ : S68)⟩ : S70) ) (fun _ hk => hk); have hx16_2 := hcc16 2 _ rfl; (try simp only [show (k70).sz = 6 from rfl, Nat.mul_one, Nat.add_zero] at hx16_2); have hf16_2 := hfr16 2; (try simp only [show (k70).sz = 6 from rfl, Nat.mul_one, Nat.add_zero] at hf16_2); clear hcl16 hcc16 hfr16 hM16) | ((with_reducible refine gate_store (t := 3) (p := 31) rfl ?_); refine store_event (t := 3) (p := 31) (v := ?vo_w17) (w1 := (w15.setCell ⟨go5, (x5_1 : Int).toNat * 6 + 2, none⟩ (.int .i64 (wrap64 ((wrap64 (x1_1 + 1)) + 1))))) ?hg ?ho ?hn ?hr ?_; (case ho => rfl); (case hg => rfl); (case hn => rfl); (case hr => first | (go_simp; done) | (go_simp; rfl)); intro w17 hw; have hg : w15.grownBy w17 (some go5) := (by rw [hw]; exact HP16.2); have hp_ : Kd.R k70 70 w17 w0.heap.size (fun k_ => (P0_ k_ ∨ w.heap.size ≤ k_)) (.slice (some ⟨go5, 0, none⟩) x0_1.length co11) y400 := (by rw [hw, Ny400.out]; exact HP16.1); clear HP16; replace HB := Aside0.mk ((by rw [hw]; exact below_set (HB.out) GB5.out : Below w0.heap.size w0 w17)); replace HK := Aside0.mk (Kept.of_grown (S := (fun k_ => P0_ k_)) hg (by repeat (first | (with_reducible first | exact HK.out | apply Kept.alloc | apply Kept.drewN | apply Kept.drew) | exact HK.out)) (fun k_ e_ => (HO_0.out.1 k_ e_))); replace HO_0 := Aside0.mk (hp_); clear hg hw hp_; have p8 : 0 ≤ (x5_1 : Int) := of_decide_eq_true as_; have q8 : (x5_1 : Int) < ((x0_1.length : Int) : Int) := of_decide_eq_true as_; obtain ⟨ce8, hcl8, hM8, hcc8, hfr8⟩ := Kd.R_elem HO_0.out z70 (x5_1 : Int) p8 q8; obtain rfl := k70_openM hM8; have hx8_0 : w17.cell? ⟨go5, (x5_1 : Int).toNat * 6, none⟩ = some (.int .i64 ((rd_T70 y400 x5_1).f0)) := hcc8 0 _ rfl; have hx8_1 : w17.cell? ⟨go5, (x5_1 : Int).toNat * 6 + 1, none⟩ = some (.int .i64 ((rd_T70 y400 x5_1).f1)) := hcc8 1 _ rfl; have hx8_2 : w17.cell? ⟨go5, (x5_1 : Int).toNat * 6 + 2, none⟩ = some (.int .i64 ((rd_T70 y400 x5_1).f2.f0)) := hcc8 2 _ rfl; have hx8_3 : w17.cell? ⟨go5, (x5_1 : Int).toNat * 6 + 3, none⟩ = some (.int .i64 ((rd_T70 y400 x5_1).f2.f1)) := hcc8 3 _ rfl; have hx8_4 : w17.cell? ⟨go5, (x5_1 : Int).toNat * 6 + 4, none⟩ = some (.int .i64 ((rd_T70 y400 x5_1).f2.f2)) := hcc8 4 _ rfl; have hx8_5 : w17.cell? ⟨go5, (x5_1 : Int).toNat * 6 + 5, none⟩ = some (.int .i64 ((rd_T70 y400 x5_1).f2.f3)) := hcc8 5 _ rfl; have hf8_0 : w17.frozen? ⟨go5, (x5_1 : Int).toNat * 6, none⟩ = false := hfr8 0; have hf8_1 : w17.frozen? ⟨go5, (x5_1 : Int).toNat * 6 + 1, none⟩ = false := hfr8 1; have hf8_2 : w17.frozen? ⟨go5, (x5_1 : Int).toNat * 6 + 2, none⟩ = false := hfr8 2; have hf8_3 : w17.frozen? ⟨go5, (x5_1 : Int).toNat * 6 + 3, none⟩ = false := hfr8 3; have hf8_4 : w17.frozen? ⟨go5, (x5_1 : Int).toNat * 6 + 4, none⟩ = false := hfr8 4; have hf8_5 : w17.frozen? ⟨go5, (x5_1 : Int).toNat * 6 + 5, none⟩ = false := hfr8 5; clear hcl8 hcc8 hfr8 hM8; replace p8 := eq_true p8; replace q8 := eq_true q8; have HX18 := Aside0.mk (show Kd.R k70 70 w17 w0.heap.size (fun k_ => (P0_ k_ ∨ w.heap.size ≤ k_)) (.slice (some ⟨go5, 0, none⟩) x0_1.length co11) y400 from (ra_ HO_0.out)); obtain ⟨ce18, hcl18, hM18, hcc18, hfr18⟩ := Kd.R_elem HX18.out z70 (x5_1 : Int) (of_decide_eq_true as_) (by have h_ : (x5_1 : Int) < ((x0_1.length : Int) : Int) := of_decide_eq_true as_; first | exact h_ | (have e_ := (Kd.R_reads' HO_0.out).1; omega) | simpa using h_); obtain rfl := k70_openM hM18; have HP18 := Kd.R_seg HX18.out (x5_1 : Int) (of_decide_eq_true as_) (by have h_ : (x5_1 : Int) < ((x0_1.length : Int) : Int) := of_decide_eq_true as_; first | exact h_ | (have e_ := (Kd.R_reads' HO_0.out).1; omega) | simpa using h_) (seg := [.int .i64 (wrap64 ((wrap64 ((wrap64 (x1_1 + 1)) + 1)) + 1))]) (j := 3) hcl18 hcc18 (show 4 ≤ 6 from by decide) (x' := (⟨(rd_T70 y400 x5_1).f0, (rd_T70 y400 x5_1).f1, (⟨(rd_T70 y400 x5_1).f2.f0, wrap64 ((wrap64 ((wrap64 (x1_1 + 1)) + 1)) + 1), (rd_T70 y400 x5_1).f2.f2, (rd_T70 y400 x5_1).f2.f3⟩ : S68)⟩ : S70)) (k70_mkM _ _ _ (⟨(rd_T70 y400 x5_1).f0, (rd_T70 y400 x5_1).f1, (⟨(rd_T70 y400 x5_1).f2.f0, wrap64 ((wrap64 ((wrap64 (x1_1 + 1)) + 1)) + 1), (rd_T70 y400 x5_1).f2.f2, (rd_T70 y400 x5_1).f2.f3⟩ : S68)⟩ : S70) ) (fun _ hk => hk); have hx18_3 := hcc18 3 _ rfl; (try simp only [show (k70).sz = 6 from rfl, Nat.mul_one, Nat.add_zero] at hx18_3); have hf18_3 := hfr18 3; (try simp only [show (k70).sz = 6 from rfl, Nat.mul_one, Nat.add_zero] at hf18_3); clear hcl18 hcc18 hfr18 hM18) | ((with_reducible refine gate_store (t := 3) (p := 39) rfl ?_); refine store_event (t := 3) (p := 39) (v := ?vo_w19) (w1 := (w17.setCell ⟨go5, (x5_1 : Int).toNat * 6 + 3, none⟩ (.int .i64 (wrap64 ((wrap64 ((wrap64 (x1_1 + 1)) + 1)) + 1))))) ?hg ?ho ?hn ?hr ?_; (case ho => rfl); (case hg => rfl); (case hn => rfl); (case hr => first | (go_simp; done) | (go_simp; rfl)); intro w19 hw; have hg : w17.grownBy w19 (some go5) := (by rw [hw]; exact HP18.2); have hp_ : Kd.R k70 70 w19 w0.heap.size (fun k_ => (P0_ k_ ∨ w.heap.size ≤ k_)) (.slice (some ⟨go5, 0, none⟩) x0_1.length co11) y401 := (by rw [hw, Ny401.out]; exact HP18.1); clear HP18; replace HB := Aside0.mk ((by rw [hw]; exact below_set (HB.out) GB5.out : Below w0.heap.size w0 w19)); replace HK := Aside0.mk (Kept.of_grown (S := (fun k_ => P0_ k_)) hg (by repeat (first | (with_reducible first | exact HK.out | apply Kept.alloc | apply Kept.drewN | apply Kept.drew) | exact HK.out)) (fun k_ e_ => (HO_0.out.1 k_ e_))); replace HO_0 := Aside0.mk (hp_); clear hg hw hp_; have p9 : 0 ≤ (x5_1 : Int) := of_decide_eq_true as_; have q9 : (x5_1 : Int) < ((x0_1.length : Int) : Int) := of_decide_eq_true as_; obtain ⟨ce9, hcl9, hM9, hcc9, hfr9⟩ := Kd.R_elem HO_0.out z70 (x5_1 : Int) p9 q9; obtain rfl := k70_openM hM9; have hx9_0 : w19.cell? ⟨go5, (x5_1 : Int).toNat * 6, none⟩ = some (.int .i64 ((rd_T70 y401 x5_1).f0)) := hcc9 0 _ rfl; have hx9_1 : w19.cell? ⟨go5, (x5_1 : Int).toNat * 6 + 1, none⟩ = some (.int .i64 ((rd_T70 y401 x5_1).f1)) := hcc9 1 _ rfl; have hx9_2 : w19.cell? ⟨go5, (x5_1 : Int).toNat * 6 + 2, none⟩ = some (.int .i64 ((rd_T70 y401 x5_1).f2.f0)) := hcc9 2 _ rfl; have hx9_3 : w19.cell? ⟨go5, (x5_1 : Int).toNat * 6 + 3, none⟩ = some (.int .i64 ((rd_T70 y401 x5_1).f2.f1)) := hcc9 3 _ rfl; have hx9_4 : w19.cell? ⟨go5, (x5_1 : Int).toNat * 6 + 4, none⟩ = some (.int .i64 ((rd_T70 y401 x5_1).f2.f2)) := hcc9 4 _ rfl; have hx9_5 : w19.cell? ⟨go5, (x5_1 : Int).toNat * 6 + 5, none⟩ = some (.int .i64 ((rd_T70 y401 x5_1).f2.f3)) := hcc9 5 _ rfl; have hf9_0 : w19.frozen? ⟨go5, (x5_1 : Int).toNat * 6, none⟩ = false := hfr9 0; have hf9_1 : w19.frozen? ⟨go5, (x5_1 : Int).toNat * 6 + 1, none⟩ = false := hfr9 1; have hf9_2 : w19.frozen? ⟨go5, (x5_1 : Int).toNat * 6 + 2, none⟩ = false := hfr9 2; have hf9_3 : w19.frozen? ⟨go5, (x5_1 : Int).toNat * 6 + 3, none⟩ = false := hfr9 3; have hf9_4 : w19.frozen? ⟨go5, (x5_1 : Int).toNat * 6 + 4, none⟩ = false := hfr9 4; have hf9_5 : w19.frozen? ⟨go5, (x5_1 : Int).toNat * 6 + 5, none⟩ = false := hfr9 5; clear hcl9 hcc9 hfr9 hM9; replace p9 := eq_true p9; replace q9 := eq_true q9; have HX20 := Aside0.mk (show Kd.R k70 70 w19 w0.heap.size (fun k_ => (P0_ k_ ∨ w.heap.size ≤ k_)) (.slice (some ⟨go5, 0, none⟩) x0_1.length co11) y401 from (ra_ HO_0.out)); obtain ⟨ce20, hcl20, hM20, hcc20, hfr20⟩ := Kd.R_elem HX20.out z70 (x5_1 : Int) (of_decide_eq_true as_) (by have h_ : (x5_1 : Int) < ((x0_1.length : Int) : Int) := of_decide_eq_true as_; first | exact h_ | (have e_ := (Kd.R_reads' HO_0.out).1; omega) | simpa using h_); obtain rfl := k70_openM hM20; have HP20 := Kd.R_seg HX20.out (x5_1 : Int) (of_decide_eq_true as_) (by have h_ : (x5_1 : Int) < ((x0_1.length : Int) : Int) := of_decide_eq_true as_; first | exact h_ | (have e_ := (Kd.R_reads' HO_0.out).1; omega) | simpa using h_) (seg := [.int .i64 (wrap64 ((wrap64 ((wrap64 ((wrap64 (x1_1 + 1)) + 1)) + 1)) + 1))]) (j := 4) hcl20 hcc20 (show 5 ≤ 6 from by decide) (x' := (⟨(rd_T70 y401 x5_1).f0, (rd_T70 y401 x5_1).f1, (⟨(rd_T70 y401 x5_1).f2.f0, (rd_T70 y401 x5_1).f2.f1, wrap64 ((wrap64 ((wrap64 ((wrap64 (x1_1 + 1)) + 1)) + 1)) + 1), (rd_T70 y401 x5_1).f2.f3⟩ : S68)⟩ : S70)) (k70_mkM _ _ _ (⟨(rd_T70 y401 x5_1).f0, (rd_T70 y401 x5_1).f1, (⟨(rd_T70 y401 x5_1).f2.f0, (rd_T70 y401 x5_1).f2.f1, wrap64 ((wrap64 ((wrap64 ((wrap64 (x1_1 + 1)) + 1)) + 1)) + 1), (rd_T70 y401 x5_1).f2.f3⟩ : S68)⟩ : S70) ) (fun _ hk => hk); have hx20_4 := hcc20 4 _ rfl; (try simp only [show (k70).sz = 6 from rfl, Nat.mul_one, Nat.add_zero] at hx20_4); have hf20_4 := hfr20 4; (try simp only [show (k70).sz = 6 from rfl, Nat.mul_one, Nat.add_zero] at hf20_4); clear hcl20 hcc20 hfr20 hM20) | ((with_reducible refine gate_store (t := 3) (p := 47) rfl ?_); refine store_event (t := 3) (p := 47) (v := ?vo_w21) (w1 := (w19.setCell ⟨go5, (x5_1 : Int).toNat * 6 + 4, none⟩ (.int .i64 (wrap64 ((wrap64 ((wrap64 ((wrap64 (x1_1 + 1)) + 1)) + 1)) + 1))))) ?hg ?ho ?hn ?hr ?_; (case ho => rfl); (case hg => rfl); (case hn => rfl); (case hr => first | (go_simp; done) | (go_simp; rfl)); intro w21 hw; have hg : w19.grownBy w21 (some go5) := (by rw [hw]; exact HP20.2); have hp_ : Kd.R k70 70 w21 w0.heap.size (fun k_ => (P0_ k_ ∨ w.heap.size ≤ k_)) (.slice (some ⟨go5, 0, none⟩) x0_1.length co11) y402 := (by rw [hw, Ny402.out]; exact HP20.1); clear HP20; replace HB := Aside0.mk ((by rw [hw]; exact below_set (HB.out) GB5.out : Below w0.heap.size w0 w21)); replace HK := Aside0.mk (Kept.of_grown (S := (fun k_ => P0_ k_)) hg (by repeat (first | (with_reducible first | exact HK.out | apply Kept.alloc | apply Kept.drewN | apply Kept.drew) | exact HK.out)) (fun k_ e_ => (HO_0.out.1 k_ e_))); replace HO_0 := Aside0.mk (hp_); clear hg hw hp_; have p10 : 0 ≤ (x5_1 : Int) := of_decide_eq_true as_; have q10 : (x5_1 : Int) < ((x0_1.length : Int) : Int) := of_decide_eq_true as_; obtain ⟨ce10, hcl10, hM10, hcc10, hfr10⟩ := Kd.R_elem HO_0.out z70 (x5_1 : Int) p10 q10; obtain rfl := k70_openM hM10; have hx10_0 : w21.cell? ⟨go5, (x5_1 : Int).toNat * 6, none⟩ = some (.int .i64 ((rd_T70 y402 x5_1).f0)) := hcc10 0 _ rfl; have hx10_1 : w21.cell? ⟨go5, (x5_1 : Int).toNat * 6 + 1, none⟩ = some (.int .i64 ((rd_T70 y402 x5_1).f1)) := hcc10 1 _ rfl; have hx10_2 : w21.cell? ⟨go5, (x5_1 : Int).toNat * 6 + 2, none⟩ = some (.int .i64 ((rd_T70 y402 x5_1).f2.f0)) := hcc10 2 _ rfl; have hx10_3 : w21.cell? ⟨go5, (x5_1 : Int).toNat * 6 + 3, none⟩ = some (.int .i64 ((rd_T70 y402 x5_1).f2.f1)) := hcc10 3 _ rfl; have hx10_4 : w21.cell? ⟨go5, (x5_1 : Int).toNat * 6 + 4, none⟩ = some (.int .i64 ((rd_T70 y402 x5_1).f2.f2)) := hcc10 4 _ rfl; have hx10_5 : w21.cell? ⟨go5, (x5_1 : Int).toNat * 6 + 5, none⟩ = some (.int .i64 ((rd_T70 y402 x5_1).f2.f3)) := hcc10 5 _ rfl; have hf10_0 : w21.frozen? ⟨go5, (x5_1 : Int).toNat * 6, none⟩ = false := hfr10 0; have hf10_1 : w21.frozen? ⟨go5, (x5_1 : Int).toNat * 6 + 1, none⟩ = false := hfr10 1; have hf10_2 : w21.frozen? ⟨go5, (x5_1 : Int).toNat * 6 + 2, none⟩ = false := hfr10 2; have hf10_3 : w21.frozen? ⟨go5, (x5_1 : Int).toNat * 6 + 3, none⟩ = false := hfr10 3; have hf10_4 : w21.frozen? ⟨go5, (x5_1 : Int).toNat * 6 + 4, none⟩ = false := hfr10 4; have hf10_5 : w21.frozen? ⟨go5, (x5_1 : Int).toNat * 6 + 5, none⟩ = false := hfr10 5; clear hcl10 hcc10 hfr10 hM10; replace p10 := eq_true p10; replace q10 := eq_true q10; have HX22 := Aside0.mk (show Kd.R k70 70 w21 w0.heap.size (fun k_ => (P0_ k_ ∨ w.heap.size ≤ k_)) (.slice (some ⟨go5, 0, none⟩) x0_1.length co11) y402 from (ra_ HO_0.out)); obtain ⟨ce22, hcl22, hM22, hcc22, hfr22⟩ := Kd.R_elem HX22.out z70 (x5_1 : Int) (of_decide_eq_true as_) (by have h_ : (x5_1 : Int) < ((x0_1.length : Int) : Int) := of_decide_eq_true as_; first | exact h_ | (have e_ := (Kd.R_reads' HO_0.out).1; omega) | simpa using h_); obtain rfl := k70_openM hM22; have HP22 := Kd.R_seg HX22.out (x5_1 : Int) (of_decide_eq_true as_) (by have h_ : (x5_1 : Int) < ((x0_1.length : Int) : Int) := of_decide_eq_true as_; first | exact h_ | (have e_ := (Kd.R_reads' HO_0.out).1; omega) | simpa using h_) (seg := [.int .i64 (wrap64 ((wrap64 ((wrap64 ((wrap64 ((wrap64 (x1_1 + 1)) + 1)) + 1)) + 1)) + 1))]) (j := 5) hcl22 hcc22 (show 6 ≤ 6 from by decide) (x' := (⟨(rd_T70 y402 x5_1).f0, (rd_T70 y402 x5_1).f1, (⟨(rd_T70 y402 x5_1).f2.f0, (rd_T70 y402 x5_1).f2.f1, (rd_T70 y402 x5_1).f2.f2, wrap64 ((wrap64 ((wrap64 ((wrap64 ((wrap64 (x1_1 + 1)) + 1)) + 1)) + 1)) + 1)⟩ : S68)⟩ : S70)) (k70_mkM _ _ _ (⟨(rd_T70 y402 x5_1).f0, (rd_T70 y402 x5_1).f1, (⟨(rd_T70 y402 x5_1).f2.f0, (rd_T70 y402 x5_1).f2.f1, (rd_T70 y402 x5_1).f2.f2, wrap64 ((wrap64 ((wrap64 ((wrap64 ((wrap64 (x1_1 + 1)) + 1)) + 1)) + 1)) + 1)⟩ : S68)⟩ : S70) ) (fun _ hk => hk); have hx22_5 := hcc22 5 _ rfl; (try simp only [show (k70).sz = 6 from rfl, Nat.mul_one, Nat.add_zero] at hx22_5); have hf22_5 := hfr22 5; (try simp only [show (k70).sz = 6 from rfl, Nat.mul_one, Nat.add_zero] at hf22_5); clear hcl22 hcc22 hfr22 hM22) | ((with_reducible refine gate_store (t := 3) (p := 55) rfl ?_); refine store_event (t := 3) (p := 55) (v := ?vo_w23) (w1 := (w21.setCell ⟨go5, (x5_1 : Int).toNat * 6 + 5, none⟩ (.int .i64 (wrap64 ((wrap64 ((wrap64 ((wrap64 ((wrap64 (x1_1 + 1)) + 1)) + 1)) + 1)) + 1))))) ?hg ?ho ?hn ?hr ?_; (case ho => rfl); (case hg => rfl); (case hn => rfl); (case hr => first | (go_simp; done) | (go_simp; rfl)); intro w23 hw; have hg : w21.grownBy w23 (some go5) := (by rw [hw]; exact HP22.2); have hp_ : Kd.R k70 70 w23 w0.heap.size (fun k_ => (P0_ k_ ∨ w.heap.size ≤ k_)) (.slice (some ⟨go5, 0, none⟩) x0_1.length co11) y403 := (by rw [hw, Ny403.out]; exact HP22.1); clear HP22; replace HB := Aside0.mk ((by rw [hw]; exact below_set (HB.out) GB5.out : Below w0.heap.size w0 w23)); replace HK := Aside0.mk (Kept.of_grown (S := (fun k_ => P0_ k_)) hg (by repeat (first | (with_reducible first | exact HK.out | apply Kept.alloc | apply Kept.drewN | apply Kept.drew) | exact HK.out)) (fun k_ e_ => (HO_0.out.1 k_ e_))); replace HO_0 := Aside0.mk (hp_); clear hg hw hp_))
 go_roundg k1
 case measure => have := HK1.out; omega
 case rel => exact ⟨(y403), (wrap64 ((wrap64 ((wrap64 ((wrap64 ((wrap64 ((wrap64 (x1_1 + 1)) + 1)) + 1)) + 1)) + 1)) + 1)), (wrap64 (x5_1 + 1)), (sr_), (sr_), H', ⟨by have := HK1.out; omega⟩, ⟨ra_ HO_0.out⟩, ⟨by repeat (first | (with_reducible first | exact HK.out | apply Kept.alloc | apply Kept.drewN | apply Kept.drew) | exact HK.out)⟩, ⟨bl_⟩⟩


/-! ### laws_markSegment: function 45 -/
def laws_markSegment.f (k : Nat) (a0_0 : Int) (a0_1 : ByteArray) (l0_2 : List (S70)) (a0_3 : ByteArray) (a1 : Int) : Option (Int × (List (S70))) := (laws_markEntryS.f k l0_2 a1).bind fun bt405 => (some (bt405.1, bt405.2))
theorem laws_markSegment.mono : ∀ a0 a1 a2 a3 a4 k, LeO (laws_markSegment.f k a0 a1 a2 a3 a4) (laws_markSegment.f (k + 1) a0 a1 a2 a3 a4) := by
 intro a0 a1 a2 a3 a4 k
 unfold laws_markSegment.f
 have m0 := @laws_markEntryS.mono
 exact mo_
set_option maxHeartbeats 8000000 in
set_option maxRecDepth 100000 in
theorem laws_markSegment.calls (k : Nat) (a0_0 : Int) (a0_1 : ByteArray) (P0_2_ : Nat → Prop) (u9000_ : Value) (l0_2 : List (S70)) (a0_3 : ByteArray) (a1 : Int) (r1 : Int) (r2 : List (S70)) (w0 w : World) (hB : Below w0.heap.size w0 w) (ho0_2 : Kd.R k70 70 w w0.heap.size P0_2_ u9000_ l0_2) (h : laws_markSegment.f k a0_0 a0_1 l0_2 a0_3 a1 = some (r1, r2)) :
 Calls Tryd.prog 45 #[.agg #[.int .i64 a0_0, .string a0_1, u9000_, .string a0_3], .int .i64 a1] w fun e w' => e = .returned (.int .i64 r1) ∧ Kd.R k70 70 w' w0.heap.size (fun k_ => (P0_2_ k_ ∨ w.heap.size ≤ k_)) u9000_ r2 ∧ Below w0.heap.size w0 w' ∧ Kept w w' (fun k_ => P0_2_ k_) := by
 have hu30 := Tryd.underlying30
 have HO0_2 := Aside0.mk (show Kd.R k70 70 w w0.heap.size (fun k_ => (P0_2_ k_ ∨ w.heap.size ≤ k_)) u9000_ l0_2 from Kd.R_mono ho0_2 (fun k_ hk => (.inl hk)))
 have HK := Aside0.mk (Kept.refl w (fun k_ => P0_2_ k_))
 have HW0 := Aside0.mk hB.size
 have HB := Aside0.mk hB
 clear hB
 have H : ((laws_markEntryS.f k l0_2 a1).bind fun bt405 => (some (bt405.1, bt405.2))) = some (r1, r2) := h
 clear h
 replace H := bs_ H
 obtain ⟨⟨t405, t406⟩, A3, H⟩ := H
 try dsimp only at H
 simp only [Option.some.injEq, Prod.mk.injEq] at H
 obtain ⟨rfl, rfl⟩ := H
 obtain ⟨Ao4, co4, eo4⟩ := Kd.R_slice HO0_2.out
 subst eo4
 go_enter Tryd.func45, Tryd.ntmps45
 go_wp2_with (first | ((with_reducible refine gate_dst (N := 2) rfl ?_); refine bx_ 2 30 #[.int .i64 a0_0, .string a0_1, .slice Ao4 l0_2.length co4, .string a0_3] ?_; intro gb404 hg w5 hbox hb; replace HO0_2 := Aside0.mk (Kd.R_below (ra_ HO0_2.out) hb); have BK404 := Aside0.mk (hbox); have GW404 := Aside0.mk ((by rw [hg]; exact (by first | exact HK.out.1 | exact (show Kept w _ (fun k_ => P0_2_ k_) from by repeat (first | (with_reducible first | exact HK.out | apply Kept.alloc | apply Kept.drewN | apply Kept.drew) | exact HK.out)).1) : w.heap.size ≤ gb404)); replace HK := Aside0.mk (Kept.below (S := (fun k_ => P0_2_ k_)) (by repeat (first | (with_reducible first | exact HK.out | apply Kept.alloc | apply Kept.drewN | apply Kept.drew) | exact HK.out)) hb); have GE404 := Aside0.mk ((hz_ : w0.heap.size ≤ gb404)); replace HB := Aside0.mk (below_step bl_ hb); clear hb hbox hg; obtain ⟨hcz6_0, hcz6_1, hcz6_2, hcz6_3, hfz6_0, hfz6_1, hfz6_2, hfz6_3⟩ := cf4_ BK404.out) | ((with_reducible refine gate_callee (f := 30) rfl ?_); refine gs_ (some 8) Tryd.func30 #[.slice Ao4 l0_2.length co4, .int .i64 a1] ?_; (with_reducible refine (laws_markEntryS.calls k (fun k_ => some k_ = (.slice Ao4 l0_2.length co4 : Value).ownBlock) (.slice Ao4 l0_2.length co4) l0_2 a1 t405 t406 w0 _ ?side1 ?side2 A3.out).mono ?_); (case side1 => repeat (first | (with_reducible first | exact HB.out | apply below_alloc | apply pw_below_drewN | apply below_drew1 | refine below_set ?_ GE404.out) | exact HB.out)); (case side2 => exact Kd.R_tight rfl HO0_2.out); rintro e w7 ⟨rfl, hy0, hb, hkp⟩; refine ⟨_, rfl, ?_⟩; replace BK404 := Aside0.mk (blk_kept (bk_ BK404.out) hkp (fun hs_ => (fun e_ => (Kd.R_ne HO0_2.out BK404.out (by decide)) e_) hs_)); replace HK := Aside0.mk (Kept.then_ (S := (fun k_ => P0_2_ k_)) (by repeat (first | (with_reducible first | exact HK.out | apply Kept.alloc | apply Kept.drewN | apply Kept.drew | refine Kept.setCell ?_ (.inr GW404.out) _) | exact HK.out)) hkp (fun k_ hs_ => (fun e_ => (HO0_2.out.1 k_ e_.symm)) hs_)); replace HO0_2 := Aside0.mk (Kd.R_reok rfl hy0 (fun k_ e_ => HO0_2.out.1 k_ e_)); replace HB := Aside0.mk (hb); (try clear hb); (try clear hkp); (try clear hy0)))
 go_ret
 exact ⟨er_, ra_ HO0_2.out, bl_, by repeat (first | (with_reducible first | exact HK.out | apply Kept.alloc | apply Kept.drewN | apply Kept.drew | refine Kept.setCell ?_ (.inr GW404.out) _) | exact HK.out)⟩


/-! ### laws_heldEntryS: function 42 -/
def laws_heldEntryS.l0 : Nat → List (S70) → Int → Int → Option (Int)
 | 0, _, _, _ => none
 | k + 1, x0, x1, x5 => if x5 < (x0.length : Int) then (if 0 ≤ x5 then (if ((rd_T70 x0 x5).f0) = x1 then (if ((rd_T70 x0 x5).f1) = (wrap64 (x1 + 1)) then (if ((rd_T70 x0 x5).f2.f0) = (wrap64 ((wrap64 (x1 + 1)) + 1)) then (if ((rd_T70 x0 x5).f2.f1) = (wrap64 ((wrap64 ((wrap64 (x1 + 1)) + 1)) + 1)) then (if ((rd_T70 x0 x5).f2.f2) = (wrap64 ((wrap64 ((wrap64 ((wrap64 (x1 + 1)) + 1)) + 1)) + 1)) then (if ((rd_T70 x0 x5).f2.f3) = (wrap64 ((wrap64 ((wrap64 ((wrap64 ((wrap64 (x1 + 1)) + 1)) + 1)) + 1)) + 1)) then (laws_heldEntryS.l0 k x0 (wrap64 ((wrap64 ((wrap64 ((wrap64 ((wrap64 ((wrap64 (x1 + 1)) + 1)) + 1)) + 1)) + 1)) + 1)) (wrap64 (x5 + 1))) else (some (-1))) else (some (-1))) else (some (-1))) else (some (-1))) else (some (-1))) else (some (-1))) else (none)) else (some x1)
def laws_heldEntryS.f (k : Nat) (l0 : List (S70)) (a1 : Int) : Option (Int) := laws_heldEntryS.l0 k l0 a1 0
theorem laws_heldEntryS.mono_l : ∀ k, (∀ y0 y1 y2, LeO (laws_heldEntryS.l0 k y0 y1 y2) (laws_heldEntryS.l0 (k + 1) y0 y1 y2))
 | 0 => fun _ _ _ r h => by simp [laws_heldEntryS.l0] at h
 | k + 1 => by
  have ih0 := laws_heldEntryS.mono_l k
  ·intro y0 y1 y2
   unfold laws_heldEntryS.l0
   exact mo_
theorem laws_heldEntryS.mono : ∀ a0 a1 k, LeO (laws_heldEntryS.f k a0 a1) (laws_heldEntryS.f (k + 1) a0 a1) := by
 intro a0 a1 k
 have ih0 := laws_heldEntryS.mono_l k
 unfold laws_heldEntryS.f
 exact mo_
set_option maxHeartbeats 8000000 in
set_option maxRecDepth 100000 in
theorem laws_heldEntryS.calls (k : Nat) (A0 : Option Addr) (c0 : Nat) (l0 : List (S70)) (a1 : Int) (r : Int) (w : World) (hr0 : Kd.C k70 w A0 l0.length l0) (hc0 : l0.length ≤ c0) (h : laws_heldEntryS.f k l0 a1 = some r) :
 Calls Tryd.prog 42 #[.slice A0 l0.length c0, .int .i64 a1] w fun e w' => e = .returned (.int .i64 r) ∧ Drawn0 w w' := by
 have HR0 := Aside0.mk hr0
 have HC0 := Aside0.mk hc0
 clear hr0 hc0
 have H : (laws_heldEntryS.l0 k l0 a1 0) = some r := h
 clear h
 have H' := Aside0.mk H
 clear H
 go_enter Tryd.func42, Tryd.ntmps42
 go_wp2
 go_loopg [1, 5] k (fun kq v1 v5 w' => ∃ (x1_1 : Int) (x5_1 : Int), v1 = .int .i64 x1_1 ∧ v5 = .int .i64 x5_1 ∧ Aside0 (laws_heldEntryS.l0 kq l0 x1_1 x5_1 = some r) ∧ Aside0 (kq ≤ k) ∧ Drawn0 w w')
 case atStart => exact ⟨(a1), (0), (sr_), (sr_), H', ⟨Nat.le_refl _⟩, by repeat (first | exact Drawn0.refl _ | apply Drawn0.step)⟩
 clear H'
 obtain ⟨x1_1, x5_1, rfl, rfl, HA, HK1, ⟨m1, rfl⟩⟩ := hrel
 cases gk with
 | zero => exact absurd HA.out (by simp [laws_heldEntryS.l0])
 | succ k1 => ?_
 have H := HA.out
 clear HA
 simp only [laws_heldEntryS.l0] at H
 by_cases c3 : x5_1 < (l0.length : Int)
 rotate_left
 ·rw [if_neg c3] at H
  have c3b0 := decide_eq_false c3
  clear c3
  obtain rfl := Option.some.inj H
  go_wp2
  go_ret
  exact ⟨sr_, by repeat (first | exact Drawn0.refl _ | apply Drawn0.step)⟩
 rw [if_pos c3] at H
 have c3b0 := decide_eq_true c3
 clear c3
 by_cases c4 : 0 ≤ x5_1
 rotate_left
 ·exact nn_ c4 H
 rw [if_pos c4] at H
 have c4b0 := decide_eq_true c4
 clear c4
 by_cases c5 : ((rd_T70 l0 x5_1).f0) = x1_1
 rotate_left
 ·rw [if_neg c5] at H
  have c5b0 : (((rd_T70 l0 x5_1).f0) == x1_1) = false := beq_eq_false_iff_ne.mpr c5
  have c5b1 : (((rd_T70 l0 x5_1).f0) != x1_1) = true := bne_iff_ne.mpr c5
  obtain rfl := Option.some.inj H
  have p407 : 0 ≤ (x5_1 : Int) := of_decide_eq_true as_
  have q407 : x5_1 < (l0.length : Int) := of_decide_eq_true as_
  obtain ⟨ad407, e407, hx407_0, hx407_1, hx407_2, hx407_3, hx407_4, hx407_5⟩ := at_T70 HR0.out x5_1 p407 q407
  cases e407
  replace p407 := eq_true p407
  replace q407 := eq_true q407
  go_wp2
  go_ret
  exact ⟨sr_, by repeat (first | exact Drawn0.refl _ | apply Drawn0.step)⟩
 rw [if_pos c5] at H
 have c5b0 : (((rd_T70 l0 x5_1).f0) == x1_1) = true := beq_iff_eq.mpr c5
 have c5b1 : (((rd_T70 l0 x5_1).f0) != x1_1) = false := bne_eq_false_iff_eq.mpr c5
 clear c5
 by_cases c6 : ((rd_T70 l0 x5_1).f1) = (wrap64 (x1_1 + 1))
 rotate_left
 ·rw [if_neg c6] at H
  have c6b0 : (((rd_T70 l0 x5_1).f1) == (wrap64 (x1_1 + 1))) = false := beq_eq_false_iff_ne.mpr c6
  have c6b1 : (((rd_T70 l0 x5_1).f1) != (wrap64 (x1_1 + 1))) = true := bne_iff_ne.mpr c6
  obtain rfl := Option.some.inj H
  have p407 : 0 ≤ (x5_1 : Int) := of_decide_eq_true as_
  have q407 : x5_1 < (l0.length : Int) := of_decide_eq_true as_
  obtain ⟨ad407, e407, hx407_0, hx407_1, hx407_2, hx407_3, hx407_4, hx407_5⟩ := at_T70 HR0.out x5_1 p407 q407
  cases e407
  replace p407 := eq_true p407
  replace q407 := eq_true q407
  have p408 : 0 ≤ (x5_1 : Int) := of_decide_eq_true as_
  have q408 : x5_1 < (l0.length : Int) := of_decide_eq_true as_
  obtain ⟨ad408, e408, hx408_0, hx408_1, hx408_2, hx408_3, hx408_4, hx408_5⟩ := at_T70 HR0.out x5_1 p408 q408
  obtain rfl : ad407 = ad408 := (by injection e408)
  replace p408 := eq_true p408
  replace q408 := eq_true q408
  go_wp2
  go_ret
  exact ⟨sr_, by repeat (first | exact Drawn0.refl _ | apply Drawn0.step)⟩
 rw [if_pos c6] at H
 have c6b0 : (((rd_T70 l0 x5_1).f1) == (wrap64 (x1_1 + 1))) = true := beq_iff_eq.mpr c6
 have c6b1 : (((rd_T70 l0 x5_1).f1) != (wrap64 (x1_1 + 1))) = false := bne_eq_false_iff_eq.mpr c6
 clear c6
 by_cases c7 : ((rd_T70 l0 x5_1).f2.f0) = (wrap64 ((wrap64 (x1_1 + 1)) + 1))
 rotate_left
 ·rw [if_neg c7] at H
  have c7b0 : (((rd_T70 l0 x5_1).f2.f0) == (wrap64 ((wrap64 (x1_1 + 1)) + 1))) = false := beq_eq_false_iff_ne.mpr c7
  have c7b1 : (((rd_T70 l0 x5_1).f2.f0) != (wrap64 ((wrap64 (x1_1 + 1)) + 1))) = true := bne_iff_ne.mpr c7
  obtain rfl := Option.some.inj H
  have p407 : 0 ≤ (x5_1 : Int) := of_decide_eq_true as_
  have q407 : x5_1 < (l0.length : Int) := of_decide_eq_true as_
  obtain ⟨ad407, e407, hx407_0, hx407_1, hx407_2, hx407_3, hx407_4, hx407_5⟩ := at_T70 HR0.out x5_1 p407 q407
  cases e407
  replace p407 := eq_true p407
  replace q407 := eq_true q407
  have p408 : 0 ≤ (x5_1 : Int) := of_decide_eq_true as_
  have q408 : x5_1 < (l0.length : Int) := of_decide_eq_true as_
  obtain ⟨ad408, e408, hx408_0, hx408_1, hx408_2, hx408_3, hx408_4, hx408_5⟩ := at_T70 HR0.out x5_1 p408 q408
  obtain rfl : ad407 = ad408 := (by injection e408)
  replace p408 := eq_true p408
  replace q408 := eq_true q408
  have p409 : 0 ≤ (x5_1 : Int) := of_decide_eq_true as_
  have q409 : x5_1 < (l0.length : Int) := of_decide_eq_true as_
  obtain ⟨ad409, e409, hx409_0, hx409_1, hx409_2, hx409_3, hx409_4, hx409_5⟩ := at_T70 HR0.out x5_1 p409 q409
  obtain rfl : ad407 = ad409 := (by injection e409)
  replace p409 := eq_true p409
  replace q409 := eq_true q409
  go_wp2
  go_ret
  exact ⟨sr_, by repeat (first | exact Drawn0.refl _ | apply Drawn0.step)⟩
 rw [if_pos c7] at H
 have c7b0 : (((rd_T70 l0 x5_1).f2.f0) == (wrap64 ((wrap64 (x1_1 + 1)) + 1))) = true := beq_iff_eq.mpr c7
 have c7b1 : (((rd_T70 l0 x5_1).f2.f0) != (wrap64 ((wrap64 (x1_1 + 1)) + 1))) = false := bne_eq_false_iff_eq.mpr c7
 clear c7
 by_cases c8 : ((rd_T70 l0 x5_1).f2.f1) = (wrap64 ((wrap64 ((wrap64 (x1_1 + 1)) + 1)) + 1))
 rotate_left
 ·rw [if_neg c8] at H
  have c8b0 : (((rd_T70 l0 x5_1).f2.f1) == (wrap64 ((wrap64 ((wrap64 (x1_1 + 1)) + 1)) + 1))) = false := beq_eq_false_iff_ne.mpr c8
  have c8b1 : (((rd_T70 l0 x5_1).f2.f1) != (wrap64 ((wrap64 ((wrap64 (x1_1 + 1)) + 1)) + 1))) = true := bne_iff_ne.mpr c8
  obtain rfl := Option.some.inj H
  have p407 : 0 ≤ (x5_1 : Int) := of_decide_eq_true as_
  have q407 : x5_1 < (l0.length : Int) := of_decide_eq_true as_
  obtain ⟨ad407, e407, hx407_0, hx407_1, hx407_2, hx407_3, hx407_4, hx407_5⟩ := at_T70 HR0.out x5_1 p407 q407
  cases e407
  replace p407 := eq_true p407
  replace q407 := eq_true q407
  have p408 : 0 ≤ (x5_1 : Int) := of_decide_eq_true as_
  have q408 : x5_1 < (l0.length : Int) := of_decide_eq_true as_
  obtain ⟨ad408, e408, hx408_0, hx408_1, hx408_2, hx408_3, hx408_4, hx408_5⟩ := at_T70 HR0.out x5_1 p408 q408
  obtain rfl : ad407 = ad408 := (by injection e408)
  replace p408 := eq_true p408
  replace q408 := eq_true q408
  have p409 : 0 ≤ (x5_1 : Int) := of_decide_eq_true as_
  have q409 : x5_1 < (l0.length : Int) := of_decide_eq_true as_
  obtain ⟨ad409, e409, hx409_0, hx409_1, hx409_2, hx409_3, hx409_4, hx409_5⟩ := at_T70 HR0.out x5_1 p409 q409
  obtain rfl : ad407 = ad409 := (by injection e409)
  replace p409 := eq_true p409
  replace q409 := eq_true q409
  have p410 : 0 ≤ (x5_1 : Int) := of_decide_eq_true as_
  have q410 : x5_1 < (l0.length : Int) := of_decide_eq_true as_
  obtain ⟨ad410, e410, hx410_0, hx410_1, hx410_2, hx410_3, hx410_4, hx410_5⟩ := at_T70 HR0.out x5_1 p410 q410
  obtain rfl : ad407 = ad410 := (by injection e410)
  replace p410 := eq_true p410
  replace q410 := eq_true q410
  go_wp2
  go_ret
  exact ⟨sr_, by repeat (first | exact Drawn0.refl _ | apply Drawn0.step)⟩
 rw [if_pos c8] at H
 have c8b0 : (((rd_T70 l0 x5_1).f2.f1) == (wrap64 ((wrap64 ((wrap64 (x1_1 + 1)) + 1)) + 1))) = true := beq_iff_eq.mpr c8
 have c8b1 : (((rd_T70 l0 x5_1).f2.f1) != (wrap64 ((wrap64 ((wrap64 (x1_1 + 1)) + 1)) + 1))) = false := bne_eq_false_iff_eq.mpr c8
 clear c8
 by_cases c9 : ((rd_T70 l0 x5_1).f2.f2) = (wrap64 ((wrap64 ((wrap64 ((wrap64 (x1_1 + 1)) + 1)) + 1)) + 1))
 rotate_left
 ·rw [if_neg c9] at H
  have c9b0 : (((rd_T70 l0 x5_1).f2.f2) == (wrap64 ((wrap64 ((wrap64 ((wrap64 (x1_1 + 1)) + 1)) + 1)) + 1))) = false := beq_eq_false_iff_ne.mpr c9
  have c9b1 : (((rd_T70 l0 x5_1).f2.f2) != (wrap64 ((wrap64 ((wrap64 ((wrap64 (x1_1 + 1)) + 1)) + 1)) + 1))) = true := bne_iff_ne.mpr c9
  obtain rfl := Option.some.inj H
  have p407 : 0 ≤ (x5_1 : Int) := of_decide_eq_true as_
  have q407 : x5_1 < (l0.length : Int) := of_decide_eq_true as_
  obtain ⟨ad407, e407, hx407_0, hx407_1, hx407_2, hx407_3, hx407_4, hx407_5⟩ := at_T70 HR0.out x5_1 p407 q407
  cases e407
  replace p407 := eq_true p407
  replace q407 := eq_true q407
  have p408 : 0 ≤ (x5_1 : Int) := of_decide_eq_true as_
  have q408 : x5_1 < (l0.length : Int) := of_decide_eq_true as_
  obtain ⟨ad408, e408, hx408_0, hx408_1, hx408_2, hx408_3, hx408_4, hx408_5⟩ := at_T70 HR0.out x5_1 p408 q408
  obtain rfl : ad407 = ad408 := (by injection e408)
  replace p408 := eq_true p408
  replace q408 := eq_true q408
  have p409 : 0 ≤ (x5_1 : Int) := of_decide_eq_true as_
  have q409 : x5_1 < (l0.length : Int) := of_decide_eq_true as_
  obtain ⟨ad409, e409, hx409_0, hx409_1, hx409_2, hx409_3, hx409_4, hx409_5⟩ := at_T70 HR0.out x5_1 p409 q409
  obtain rfl : ad407 = ad409 := (by injection e409)
  replace p409 := eq_true p409
  replace q409 := eq_true q409
  have p410 : 0 ≤ (x5_1 : Int) := of_decide_eq_true as_
  have q410 : x5_1 < (l0.length : Int) := of_decide_eq_true as_
  obtain ⟨ad410, e410, hx410_0, hx410_1, hx410_2, hx410_3, hx410_4, hx410_5⟩ := at_T70 HR0.out x5_1 p410 q410
  obtain rfl : ad407 = ad410 := (by injection e410)
  replace p410 := eq_true p410
  replace q410 := eq_true q410
  have p411 : 0 ≤ (x5_1 : Int) := of_decide_eq_true as_
  have q411 : x5_1 < (l0.length : Int) := of_decide_eq_true as_
  obtain ⟨ad411, e411, hx411_0, hx411_1, hx411_2, hx411_3, hx411_4, hx411_5⟩ := at_T70 HR0.out x5_1 p411 q411
  obtain rfl : ad407 = ad411 := (by injection e411)
  replace p411 := eq_true p411
  replace q411 := eq_true q411
  go_wp2
  go_ret
  exact ⟨sr_, by repeat (first | exact Drawn0.refl _ | apply Drawn0.step)⟩
 rw [if_pos c9] at H
 have c9b0 : (((rd_T70 l0 x5_1).f2.f2) == (wrap64 ((wrap64 ((wrap64 ((wrap64 (x1_1 + 1)) + 1)) + 1)) + 1))) = true := beq_iff_eq.mpr c9
 have c9b1 : (((rd_T70 l0 x5_1).f2.f2) != (wrap64 ((wrap64 ((wrap64 ((wrap64 (x1_1 + 1)) + 1)) + 1)) + 1))) = false := bne_eq_false_iff_eq.mpr c9
 clear c9
 by_cases c10 : ((rd_T70 l0 x5_1).f2.f3) = (wrap64 ((wrap64 ((wrap64 ((wrap64 ((wrap64 (x1_1 + 1)) + 1)) + 1)) + 1)) + 1))
 rotate_left
 ·rw [if_neg c10] at H
  have c10b0 : (((rd_T70 l0 x5_1).f2.f3) == (wrap64 ((wrap64 ((wrap64 ((wrap64 ((wrap64 (x1_1 + 1)) + 1)) + 1)) + 1)) + 1))) = false := beq_eq_false_iff_ne.mpr c10
  have c10b1 : (((rd_T70 l0 x5_1).f2.f3) != (wrap64 ((wrap64 ((wrap64 ((wrap64 ((wrap64 (x1_1 + 1)) + 1)) + 1)) + 1)) + 1))) = true := bne_iff_ne.mpr c10
  obtain rfl := Option.some.inj H
  have p407 : 0 ≤ (x5_1 : Int) := of_decide_eq_true as_
  have q407 : x5_1 < (l0.length : Int) := of_decide_eq_true as_
  obtain ⟨ad407, e407, hx407_0, hx407_1, hx407_2, hx407_3, hx407_4, hx407_5⟩ := at_T70 HR0.out x5_1 p407 q407
  cases e407
  replace p407 := eq_true p407
  replace q407 := eq_true q407
  have p408 : 0 ≤ (x5_1 : Int) := of_decide_eq_true as_
  have q408 : x5_1 < (l0.length : Int) := of_decide_eq_true as_
  obtain ⟨ad408, e408, hx408_0, hx408_1, hx408_2, hx408_3, hx408_4, hx408_5⟩ := at_T70 HR0.out x5_1 p408 q408
  obtain rfl : ad407 = ad408 := (by injection e408)
  replace p408 := eq_true p408
  replace q408 := eq_true q408
  have p409 : 0 ≤ (x5_1 : Int) := of_decide_eq_true as_
  have q409 : x5_1 < (l0.length : Int) := of_decide_eq_true as_
  obtain ⟨ad409, e409, hx409_0, hx409_1, hx409_2, hx409_3, hx409_4, hx409_5⟩ := at_T70 HR0.out x5_1 p409 q409
  obtain rfl : ad407 = ad409 := (by injection e409)
  replace p409 := eq_true p409
  replace q409 := eq_true q409
  have p410 : 0 ≤ (x5_1 : Int) := of_decide_eq_true as_
  have q410 : x5_1 < (l0.length : Int) := of_decide_eq_true as_
  obtain ⟨ad410, e410, hx410_0, hx410_1, hx410_2, hx410_3, hx410_4, hx410_5⟩ := at_T70 HR0.out x5_1 p410 q410
  obtain rfl : ad407 = ad410 := (by injection e410)
  replace p410 := eq_true p410
  replace q410 := eq_true q410
  have p411 : 0 ≤ (x5_1 : Int) := of_decide_eq_true as_
  have q411 : x5_1 < (l0.length : Int) := of_decide_eq_true as_
  obtain ⟨ad411, e411, hx411_0, hx411_1, hx411_2, hx411_3, hx411_4, hx411_5⟩ := at_T70 HR0.out x5_1 p411 q411
  obtain rfl : ad407 = ad411 := (by injection e411)
  replace p411 := eq_true p411
  replace q411 := eq_true q411
  have p412 : 0 ≤ (x5_1 : Int) := of_decide_eq_true as_
  have q412 : x5_1 < (l0.length : Int) := of_decide_eq_true as_
  obtain ⟨ad412, e412, hx412_0, hx412_1, hx412_2, hx412_3, hx412_4, hx412_5⟩ := at_T70 HR0.out x5_1 p412 q412
  obtain rfl : ad407 = ad412 := (by injection e412)
  replace p412 := eq_true p412
  replace q412 := eq_true q412
  go_wp2
  go_ret
  exact ⟨sr_, by repeat (first | exact Drawn0.refl _ | apply Drawn0.step)⟩
 rw [if_pos c10] at H
 have c10b0 : (((rd_T70 l0 x5_1).f2.f3) == (wrap64 ((wrap64 ((wrap64 ((wrap64 ((wrap64 (x1_1 + 1)) + 1)) + 1)) + 1)) + 1))) = true := beq_iff_eq.mpr c10
 have c10b1 : (((rd_T70 l0 x5_1).f2.f3) != (wrap64 ((wrap64 ((wrap64 ((wrap64 ((wrap64 (x1_1 + 1)) + 1)) + 1)) + 1)) + 1))) = false := bne_eq_false_iff_eq.mpr c10
 clear c10
 have H' := Aside0.mk H
 clear H
 have p407 : 0 ≤ (x5_1 : Int) := of_decide_eq_true as_
 have q407 : x5_1 < (l0.length : Int) := of_decide_eq_true as_
 obtain ⟨ad407, e407, hx407_0, hx407_1, hx407_2, hx407_3, hx407_4, hx407_5⟩ := at_T70 HR0.out x5_1 p407 q407
 cases e407
 replace p407 := eq_true p407
 replace q407 := eq_true q407
 have p408 : 0 ≤ (x5_1 : Int) := of_decide_eq_true as_
 have q408 : x5_1 < (l0.length : Int) := of_decide_eq_true as_
 obtain ⟨ad408, e408, hx408_0, hx408_1, hx408_2, hx408_3, hx408_4, hx408_5⟩ := at_T70 HR0.out x5_1 p408 q408
 obtain rfl : ad407 = ad408 := (by injection e408)
 replace p408 := eq_true p408
 replace q408 := eq_true q408
 have p409 : 0 ≤ (x5_1 : Int) := of_decide_eq_true as_
 have q409 : x5_1 < (l0.length : Int) := of_decide_eq_true as_
 obtain ⟨ad409, e409, hx409_0, hx409_1, hx409_2, hx409_3, hx409_4, hx409_5⟩ := at_T70 HR0.out x5_1 p409 q409
 obtain rfl : ad407 = ad409 := (by injection e409)
 replace p409 := eq_true p409
 replace q409 := eq_true q409
 have p410 : 0 ≤ (x5_1 : Int) := of_decide_eq_true as_
 have q410 : x5_1 < (l0.length : Int) := of_decide_eq_true as_
 obtain ⟨ad410, e410, hx410_0, hx410_1, hx410_2, hx410_3, hx410_4, hx410_5⟩ := at_T70 HR0.out x5_1 p410 q410
 obtain rfl : ad407 = ad410 := (by injection e410)
 replace p410 := eq_true p410
 replace q410 := eq_true q410
 have p411 : 0 ≤ (x5_1 : Int) := of_decide_eq_true as_
 have q411 : x5_1 < (l0.length : Int) := of_decide_eq_true as_
 obtain ⟨ad411, e411, hx411_0, hx411_1, hx411_2, hx411_3, hx411_4, hx411_5⟩ := at_T70 HR0.out x5_1 p411 q411
 obtain rfl : ad407 = ad411 := (by injection e411)
 replace p411 := eq_true p411
 replace q411 := eq_true q411
 have p412 : 0 ≤ (x5_1 : Int) := of_decide_eq_true as_
 have q412 : x5_1 < (l0.length : Int) := of_decide_eq_true as_
 obtain ⟨ad412, e412, hx412_0, hx412_1, hx412_2, hx412_3, hx412_4, hx412_5⟩ := at_T70 HR0.out x5_1 p412 q412
 obtain rfl : ad407 = ad412 := (by injection e412)
 replace p412 := eq_true p412
 replace q412 := eq_true q412
 go_wp2
 go_roundg k1
 case measure => have := HK1.out; omega
 case rel => exact ⟨(wrap64 ((wrap64 ((wrap64 ((wrap64 ((wrap64 ((wrap64 (x1_1 + 1)) + 1)) + 1)) + 1)) + 1)) + 1)), (wrap64 (x5_1 + 1)), (sr_), (sr_), H', ⟨by have := HK1.out; omega⟩, by repeat (first | exact Drawn0.refl _ | apply Drawn0.step)⟩


/-! ### laws_heldSegment: function 46 -/
def laws_heldSegment.f (k : Nat) (a0_0 : Int) (a0_1 : ByteArray) (l0_2 : List (S70)) (a0_3 : ByteArray) (a1 : Int) : Option (Int) := (laws_heldEntryS.f k l0_2 a1).bind fun t414 => (if t414 < 0 then (some (-1)) else (some t414))
theorem laws_heldSegment.mono : ∀ a0 a1 a2 a3 a4 k, LeO (laws_heldSegment.f k a0 a1 a2 a3 a4) (laws_heldSegment.f (k + 1) a0 a1 a2 a3 a4) := by
 intro a0 a1 a2 a3 a4 k
 unfold laws_heldSegment.f
 have m0 := @laws_heldEntryS.mono
 exact mo_
set_option maxHeartbeats 8000000 in
set_option maxRecDepth 100000 in
theorem laws_heldSegment.calls (k : Nat) (a0_0 : Int) (a0_1 : ByteArray) (A0_2 : Option Addr) (c0_2 : Nat) (l0_2 : List (S70)) (a0_3 : ByteArray) (a1 : Int) (r : Int) (w : World) (hr0_2 : Kd.C k70 w A0_2 l0_2.length l0_2) (hc0_2 : l0_2.length ≤ c0_2) (h : laws_heldSegment.f k a0_0 a0_1 l0_2 a0_3 a1 = some r) :
 Calls Tryd.prog 46 #[.agg #[.int .i64 a0_0, .string a0_1, .slice A0_2 l0_2.length c0_2, .string a0_3], .int .i64 a1] w fun e w' => e = .returned (.int .i64 r) ∧ Below w.heap.size w w' := by
 have hu30 := Tryd.underlying30
 have HR0_2 := Aside0.mk hr0_2
 have HC0_2 := Aside0.mk hc0_2
 clear hr0_2 hc0_2
 have HB := Aside0.mk (Below.refl w.heap.size w)
 have H : ((laws_heldEntryS.f k l0_2 a1).bind fun t414 => (if t414 < 0 then (some (-1)) else (some t414))) = some r := h
 clear h
 replace H := bs_ H
 obtain ⟨t414, A3, H⟩ := H
 try dsimp only at H
 by_cases c4 : t414 < 0
 rotate_left
 ·rw [if_neg c4] at H
  have c4b0 := decide_eq_false c4
  clear c4
  obtain rfl := Option.some.inj H
  go_enter Tryd.func46, Tryd.ntmps46
  go_wp2_with (first | ((with_reducible refine gate_dst (N := 2) rfl ?_); refine bx_ 2 30 #[.int .i64 a0_0, .string a0_1, .slice A0_2 l0_2.length c0_2, .string a0_3] ?_; intro gb413 hg w7 hbox hb; have BK413 := Aside0.mk (hbox); have GW413 := Aside0.mk ((hz_ : w.heap.size ≤ gb413)); have GE413 := Aside0.mk ((hz_ : w.heap.size ≤ gb413)); replace HB := Aside0.mk (below_step bl_ hb); clear hb hbox hg; obtain ⟨hcz8_0, hcz8_1, hcz8_2, hcz8_3, hfz8_0, hfz8_1, hfz8_2, hfz8_3⟩ := cf4_ BK413.out) | ((with_reducible refine gate_callee (f := 42) rfl ?_); refine gs_ (some 8) Tryd.func42 #[.slice A0_2 l0_2.length c0_2, .int .i64 a1] ?_; (with_reducible refine (laws_heldEntryS.calls k _ _ l0_2 a1 t414 _ ?side1 ?side2 A3.out).mono ?_); (case side1 => repeat (first | exact (Kd.C_below HR0_2.out HB.out) | exact HR0_2.out | (with_reducible refine Kd.C_alloc ?_ _) | (with_reducible refine Kd.C_drewN ?_ _) | (with_reducible refine Kd.C_drew ?_))); (case side2 => exact HC0_2.out); rintro e w' ⟨rfl, ⟨nd, rfl⟩⟩; refine ⟨_, rfl, ?_⟩))
  go_ret
  exact ⟨er_, bl_⟩
 rw [if_pos c4] at H
 have c4b0 := decide_eq_true c4
 clear c4
 obtain rfl := Option.some.inj H
 go_enter Tryd.func46, Tryd.ntmps46
 go_wp2_with (first | ((with_reducible refine gate_dst (N := 2) rfl ?_); refine bx_ 2 30 #[.int .i64 a0_0, .string a0_1, .slice A0_2 l0_2.length c0_2, .string a0_3] ?_; intro gb413 hg w5 hbox hb; have BK413 := Aside0.mk (hbox); have GW413 := Aside0.mk ((hz_ : w.heap.size ≤ gb413)); have GE413 := Aside0.mk ((hz_ : w.heap.size ≤ gb413)); replace HB := Aside0.mk (below_step bl_ hb); clear hb hbox hg; obtain ⟨hcz6_0, hcz6_1, hcz6_2, hcz6_3, hfz6_0, hfz6_1, hfz6_2, hfz6_3⟩ := cf4_ BK413.out) | ((with_reducible refine gate_callee (f := 42) rfl ?_); refine gs_ (some 8) Tryd.func42 #[.slice A0_2 l0_2.length c0_2, .int .i64 a1] ?_; (with_reducible refine (laws_heldEntryS.calls k _ _ l0_2 a1 t414 _ ?side1 ?side2 A3.out).mono ?_); (case side1 => repeat (first | exact (Kd.C_below HR0_2.out HB.out) | exact HR0_2.out | (with_reducible refine Kd.C_alloc ?_ _) | (with_reducible refine Kd.C_drewN ?_ _) | (with_reducible refine Kd.C_drew ?_))); (case side2 => exact HC0_2.out); rintro e w' ⟨rfl, ⟨nd, rfl⟩⟩; refine ⟨_, rfl, ?_⟩))
 go_ret
 exact ⟨er_, bl_⟩

end Go.Proofs.YtdhjolglbcoijaaDoor.PA
