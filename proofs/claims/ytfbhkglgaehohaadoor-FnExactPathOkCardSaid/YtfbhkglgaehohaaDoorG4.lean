/- Contracts of functions of the program and of the reference, and plain lemmas on what they compute. No condition. -/
import Derived.Test.YtfbhkglgaehohaaDoorG1
import Derived.Test.YtfbhkglgaehohaaDoorG3
/- The functions of the program and of the reference that laws of this seat reach: each is shown to compute a plain Lean function; written by a program of this session. No condition. -/
namespace Go.Proofs.YtfbhkglgaehohaaDoor.PA
open Go.RowKit Go.Proofs.YtfbhkglgaehohaaDoorW.PrintWords Go.Proofs.YtfbhkglgaehohaaDoorW.PrintLast Go.Proofs.YtfbhkglgaehohaaDoorW.PrintMore
attribute [local go_sem] max2_int min2_int max_two min_two max_three min_three max_four min_four   -- for this text's walks alone
set_option linter.unusedVariables false
set_option linter.unusedSimpArgs false

/-! ### impl_Sealed: function 61 -/
def impl_Sealed.f (k : Nat) (a0 : ByteArray) : Option (ByteArray × Bool) := if (a0.size : Int) > 20000 then (some ((⟨#[]⟩ : ByteArray), false)) else ((impl_SumOf.f k a0).bind fun t204 => ((impl_four.f (wrap64 (t204))).bind fun t205 => (if a0.size + t205.size ≤ 9223372036854775807 then (some (a0 ++ t205, true)) else (none))))
theorem impl_Sealed.mono : ∀ a0 k, LeO (impl_Sealed.f k a0) (impl_Sealed.f (k + 1) a0) := by
  intro a0 k
  unfold impl_Sealed.f
  repeat' first
      | (with_reducible exact impl_SumOf.mono _ _)
      | (with_reducible exact LeO.refl _)
      | (with_reducible exact LeO.none _)
      | (with_reducible refine LeO.ite ?_ ?_)
      | (with_reducible refine LeO.bind ?_ (fun _ => ?_))
      | exact impl_SumOf.mono _ _
      | exact LeO.none _
      | refine LeO.ite ?_ ?_
      | refine LeO.bind ?_ (fun _ => ?_)
set_option maxHeartbeats 8000000 in
set_option maxRecDepth 100000 in
theorem impl_Sealed.calls (k : Nat) (a0 : ByteArray) (r1 : ByteArray) (r2 : Bool) (w : World) (h : impl_Sealed.f k a0 = some (r1, r2)) :
    Calls Tryd.prog 61 #[.string a0] w fun e w' => e = .returned (.tuple #[.string r1, .bool r2]) ∧ Below w.heap.size w w' := by
  have HB := Aside0.mk (Below.refl w.heap.size w)
  have H : (if (a0.size : Int) > 20000 then (some ((⟨#[]⟩ : ByteArray), false)) else ((impl_SumOf.f k a0).bind fun t204 => ((impl_four.f (wrap64 (t204))).bind fun t205 => (if a0.size + t205.size ≤ 9223372036854775807 then (some (a0 ++ t205, true)) else (none))))) = some (r1, r2) := h
  clear h
  by_cases c2 : (a0.size : Int) > 20000
  · rw [if_pos c2] at H
    have c2b0 : decide (20000 < (a0.size : Int)) = true := decide_eq_true c2
    have c2b1 : decide (20000 < a0.size) = true := decide_eq_true (by omega)
    clear c2
    simp only [Option.some.injEq, Prod.mk.injEq] at H
    obtain ⟨rfl, rfl⟩ := H
    go_enter Tryd.func61, Tryd.ntmps61
    go_wp2
    go_ret2
    exact ⟨by first | rfl | (simp [errW_none, errW_some] <;> rfl) | (simp [*, errW_none, errW_some] <;> rfl), by repeat (first | (with_reducible first | exact HB.out | apply below_alloc | apply pw_below_drewN | apply below_drew1) | exact HB.out)⟩
  · rw [if_neg c2] at H
    have c2b0 : decide (20000 < (a0.size : Int)) = false := decide_eq_false c2
    have c2b1 : decide (20000 < a0.size) = false := decide_eq_false (by omega)
    clear c2
    replace H := Option.bind_eq_some_iff.mp H
    obtain ⟨t204, A30, H⟩ := H
    replace H : ((impl_four.f (wrap64 (t204))).bind fun t205 => (if a0.size + t205.size ≤ 9223372036854775807 then (some (a0 ++ t205, true)) else (none))) = some (r1, r2) := H
    have A3 := Aside0.mk A30
    clear A30
    replace H := Option.bind_eq_some_iff.mp H
    obtain ⟨t205, A40, H⟩ := H
    replace H : (if a0.size + t205.size ≤ 9223372036854775807 then (some (a0 ++ t205, true)) else (none)) = some (r1, r2) := H
    have A4 := Aside0.mk A40
    clear A40
    by_cases c5 : a0.size + t205.size ≤ 9223372036854775807
    · rw [if_pos c5] at H
      have c5b0 := eq_true c5
      have c5b1 : decide (a0.size + t205.size ≤ 9223372036854775807) = true := decide_eq_true c5
      try have c5b2 : (9223372036854775807 < a0.size + t205.size) = False := eq_false (Nat.not_lt.2 c5)
      simp only [Option.some.injEq, Prod.mk.injEq] at H
      obtain ⟨rfl, rfl⟩ := H
      go_enter Tryd.func61, Tryd.ntmps61
      go_wp2_with (first | ((with_reducible refine gate_callee (f := 67) rfl ?_); refine goesL_ (some 9) rfl rfl Tryd.func67 (by kernel_rfl) rfl #[.string a0] rfl (by (try simp only [List.map_toArray, List.map_cons, List.map_nil]); first | done | rfl | (simp only [List.length_drop, List.length_take]; rfl)) ?_; (with_reducible refine (impl_SumOf.calls k a0 t204 _ A3.out).mono ?_); rintro e w' ⟨rfl, ⟨nd, rfl⟩⟩; refine ⟨_, rfl, ?_⟩) | ((with_reducible refine gate_callee (f := 47) rfl ?_); refine goesL_ (some 11) rfl rfl Tryd.func47 (by kernel_rfl) rfl #[.int .i64 (wrap64 (t204))] rfl (by (try simp only [List.map_toArray, List.map_cons, List.map_nil]); first | done | rfl | (simp only [List.length_drop, List.length_take]; rfl)) ?_; (with_reducible refine (impl_four.calls (wrap64 (t204)) t205 _ A4.out).mono ?_); rintro e w6 ⟨rfl, hb⟩; refine ⟨_, rfl, ?_⟩; have n0_ := Aside0.mk (below_step (by repeat (first | (with_reducible first | exact HB.out | apply below_alloc | apply pw_below_drewN | apply below_drew1) | exact HB.out)) hb); clear HB; have HB := n0_; clear n0_; (try clear hb); (try clear hb2); (try clear hk); (try clear hi)))
      go_ret2
      exact ⟨by first | rfl | (simp [errW_none, errW_some] <;> rfl) | (simp [*, errW_none, errW_some] <;> rfl), by repeat (first | (with_reducible first | exact HB.out | apply below_alloc | apply pw_below_drewN | apply below_drew1) | exact HB.out)⟩
    · rw [if_neg c5] at H
      exact absurd H (by simp)

end Go.Proofs.YtfbhkglgaehohaaDoor.PA

/- The program's FrameText: what a call of it computes. No condition. -/
namespace Go.Proofs.YtfbhkglgaehohaaDoor.PA
open Go.RowKit Go.Proofs.YtfbhkglgaehohaaDoorW.PrintWords Go.Proofs.YtfbhkglgaehohaaDoorW.PrintLast Go.Proofs.YtfbhkglgaehohaaDoorW.PrintMore
attribute [local go_sem] max2_int min2_int max_two min_two max_three min_three max_four min_four   -- for this text's walks alone
set_option linter.unusedVariables false
set_option linter.unusedSimpArgs false
open Go.Proofs.YtfbhkglgaehohaaDoor.RegAny

/-! ### impl_FrameText: function 49 -/
def impl_FrameText.f (k : Nat) (a0_0 : Int) (a0_1 : Int) (a0_2 : Int) (a0_3 : Int) (a0_4 : Int) (a0_5 : Int) (a0_6 : Int) : Option (ByteArray × Bool) := (impl_FrameOk.f k a0_0 a0_1 a0_2 a0_3 a0_4 a0_5 a0_6).bind fun t207 => (if t207 = true then ((impl_VarText.f k a0_2).bind fun bt208 => ((impl_VarText.f k a0_6).bind fun bt210 => ((some (([(a0_0) % 256, (a0_1) % 256] : List Int) : List Int)).bind fun y212 => (if (strOfNums y212).size + bt208.1.size ≤ 9223372036854775807 then ((some (([(a0_3) % 256] : List Int) : List Int)).bind fun y215 => (if ((strOfNums y212) ++ bt208.1).size + (strOfNums y215).size ≤ 9223372036854775807 then ((impl_four.f a0_4).bind fun t218 => (if (((strOfNums y212) ++ bt208.1) ++ (strOfNums y215)).size + t218.size ≤ 9223372036854775807 then ((impl_four.f a0_5).bind fun t219 => (if ((((strOfNums y212) ++ bt208.1) ++ (strOfNums y215)) ++ t218).size + t219.size ≤ 9223372036854775807 then (if (((((strOfNums y212) ++ bt208.1) ++ (strOfNums y215)) ++ t218) ++ t219).size + bt210.1.size ≤ 9223372036854775807 then ((impl_Sealed.f k ((((((strOfNums y212) ++ bt208.1) ++ (strOfNums y215)) ++ t218) ++ t219) ++ bt210.1)).bind fun bt220 => (some (bt220.1, bt220.2))) else (none)) else (none))) else (none))) else (none))) else (none))))) else (some ((⟨#[]⟩ : ByteArray), false)))
theorem impl_FrameText.mono : ∀ a0 a1 a2 a3 a4 a5 a6 k, LeO (impl_FrameText.f k a0 a1 a2 a3 a4 a5 a6) (impl_FrameText.f (k + 1) a0 a1 a2 a3 a4 a5 a6) := by
  intro a0 a1 a2 a3 a4 a5 a6 k
  unfold impl_FrameText.f
  repeat' first
      | (with_reducible exact impl_FrameOk.mono _ _ _ _ _ _ _ _)
      | (with_reducible exact impl_Sealed.mono _ _)
      | (with_reducible exact impl_VarText.mono _ _)
      | (with_reducible exact LeO.refl _)
      | (with_reducible exact LeO.none _)
      | (with_reducible refine LeO.ite ?_ ?_)
      | (with_reducible refine LeO.bind ?_ (fun _ => ?_))
      | exact impl_FrameOk.mono _ _ _ _ _ _ _ _
      | exact impl_Sealed.mono _ _
      | exact impl_VarText.mono _ _
      | exact LeO.none _
      | refine LeO.ite ?_ ?_
      | refine LeO.bind ?_ (fun _ => ?_)
def impl_FrameText.T5 : Bool × List (List Nat × List Nat) := (true, [([], []), ([0], [0]), ([1], [1]), ([], []), ([3], [3]), ([4], [4]), ([2, 5], [2, 5]), ([6], [6]), ([], []), ([7, 8], [7, 8]), ([], []), ([10], [10]), ([11], [11]), ([12], [12]), ([13], [13]), ([14], [14]), ([9, 15], [9, 15]), ([], []), ([17], [17]), ([18], [18]), ([19], [19]), ([16, 20], [16, 20]), ([], []), ([22], [22]), ([23], [23]), ([24, 20], [24]), ([21, 25], [21, 25]), ([], []), ([26, 27], [26, 27]), ([28, 25], [28]), ([29], [29]), ([29], [29]), ([30, 29, 0, 1, 2, 3, 4, 5, 6, 7, 8, 9, 10, 11, 12, 13, 14, 15, 16, 17, 18, 19, 20, 21, 22, 23, 24, 25, 26, 27, 28, 29, 30, 31], [30]), ([31, 32, 0, 1, 2, 3, 4, 5, 6, 7, 8, 9, 10, 11, 12, 13, 14, 15, 16, 17, 18, 19, 20, 21, 22, 23, 24, 25, 26, 27, 28, 29, 30, 31, 32], [31])])
def impl_FrameText.B5 : List Nat := [0, 1, 3, 0, 8, 24, 63, 127, 0, 511, 0, 1024, 3072, 7168, 15360, 31744, 65535, 0, 131072, 393216, 917504, 2097151, 0, 4194304, 12582912, 31326208, 67108863, 0, 268435455, 536870911, 1073741823, 1073741823, 4294967295, 8589934591]
theorem impl_FrameText.tab5 : rtab .any (opsOf Tryd.f49 5) = impl_FrameText.T5 := by kernel_rfl
theorem impl_FrameText.bits5 : waitsOk impl_FrameText.T5.2 impl_FrameText.B5 = true := by kernel_rfl
set_option maxHeartbeats 8000000 in
set_option maxRecDepth 100000 in
theorem impl_FrameText.calls (k : Nat) (a0_0 : Int) (a0_1 : Int) (a0_2 : Int) (a0_3 : Int) (a0_4 : Int) (a0_5 : Int) (a0_6 : Int) (r1 : ByteArray) (r2 : Bool) (w : World) (h : impl_FrameText.f k a0_0 a0_1 a0_2 a0_3 a0_4 a0_5 a0_6 = some (r1, r2)) :
    Calls Tryd.prog 49 #[.agg #[.int .i64 a0_0, .int .i64 a0_1, .int .i64 a0_2, .int .i64 a0_3, .int .i64 a0_4, .int .i64 a0_5, .int .i64 a0_6]] w fun e w' => e = .returned (.tuple #[.string r1, .bool r2]) ∧ Below w.heap.size w w' := by
  have hu71 := Tryd.underlying71
  have HB := Aside0.mk (Below.refl w.heap.size w)
  unfold impl_FrameText.f at h
  obtain ⟨t207, A20, h⟩ := Option.bind_eq_some_iff.mp h
  have A2 := Aside0.mk A20
  clear A20
  split at h
  · rename_i c3
    subst c3
    obtain ⟨⟨t208, t209⟩, A40, h⟩ := Option.bind_eq_some_iff.mp h
    obtain ⟨⟨t210, t211⟩, A50, h⟩ := Option.bind_eq_some_iff.mp h
    have A4 := Aside0.mk A40
    have A5 := Aside0.mk A50
    clear A40 A50
    simp only [Option.bind_some] at h
    obtain ⟨c6, h⟩ := ite_some h
    obtain ⟨c7, h⟩ := ite_some h
    obtain ⟨t218, A80, h⟩ := Option.bind_eq_some_iff.mp h
    have A8 := Aside0.mk A80
    clear A80
    obtain ⟨c9, h⟩ := ite_some h
    obtain ⟨t219, A100, h⟩ := Option.bind_eq_some_iff.mp h
    have A10 := Aside0.mk A100
    clear A100
    obtain ⟨c11, h⟩ := ite_some h
    obtain ⟨c12, h⟩ := ite_some h
    obtain ⟨⟨t220, t221⟩, A130, h⟩ := Option.bind_eq_some_iff.mp h
    have A13 := Aside0.mk A130
    clear A130
    simp only [Option.some.injEq, Prod.mk.injEq] at h
    obtain ⟨rfl, rfl⟩ := h
    have C6 := Aside0.mk c6
    have C7 := Aside0.mk c7
    have C9 := Aside0.mk c9
    have C11 := Aside0.mk c11
    have C12 := Aside0.mk c12
    clear c6 c7 c9 c11 c12
    go_enter Tryd.func49, Tryd.ntmps49
    go_wp2_with (first
      | ((with_reducible refine gate_dst (N := 1) rfl ?_); refine box_event rfl (N := 1) rfl (cs := #[.int .i64 a0_0, .int .i64 a0_1, .int .i64 a0_2, .int .i64 a0_3, .int .i64 a0_4, .int .i64 a0_5, .int .i64 a0_6]) (t := 71) (by kernel_rfl) ?_; intro g hg w1 hbox hb; have BK := Aside0.mk hbox; have GE := Aside0.mk (by rw [hg]; exact below_size HB.out : w.heap.size ≤ g); have n1_ := Aside0.mk (below_step HB.out hb); clear HB; have HB := n1_; clear n1_ hbox hb hg; have z0 : w1.cell? ⟨g, 0, none⟩ = some (.int .i64 a0_0) := (blk_cell BK.out 0).trans rfl; have z1 : w1.cell? ⟨g, 1, none⟩ = some (.int .i64 a0_1) := (blk_cell BK.out 1).trans rfl; have z2 : w1.cell? ⟨g, 2, none⟩ = some (.int .i64 a0_2) := (blk_cell BK.out 2).trans rfl; have z3 : w1.cell? ⟨g, 3, none⟩ = some (.int .i64 a0_3) := (blk_cell BK.out 3).trans rfl; have z4 : w1.cell? ⟨g, 4, none⟩ = some (.int .i64 a0_4) := (blk_cell BK.out 4).trans rfl; have z5 : w1.cell? ⟨g, 5, none⟩ = some (.int .i64 a0_5) := (blk_cell BK.out 5).trans rfl; have z6 : w1.cell? ⟨g, 6, none⟩ = some (.int .i64 a0_6) := (blk_cell BK.out 6).trans rfl)
      | (go_at_call 59; (with_reducible refine (impl_FrameOk.calls k a0_0 a0_1 a0_2 a0_3 a0_4 a0_5 a0_6 true _ A2.out).mono ?_); rintro e w2 ⟨rfl, hb⟩; have n1_ := Aside0.mk (below_step HB.out hb); have n2_ := Aside0.mk (blk_below BK.out hb); clear HB BK z0 z1 z2 z3 z4 z5 z6; have HB := n1_; have BK := n2_; clear n1_ n2_ hb; have z2 : w2.cell? ⟨g, 2, none⟩ = some (.int .i64 a0_2) := (blk_cell BK.out 2).trans rfl)
      | (go_at_call 60; (with_reducible refine (impl_VarText.calls k a0_2 t208 t209 _ A4.out).mono ?_); rintro e w3 ⟨rfl, hb⟩; have n1_ := Aside0.mk (below_step HB.out hb); have n2_ := Aside0.mk (blk_below BK.out hb); clear HB BK z2; have HB := n1_; have BK := n2_; clear n1_ n2_ hb; have z6 : w3.cell? ⟨g, 6, none⟩ = some (.int .i64 a0_6) := (blk_cell BK.out 6).trans rfl)
      | (go_at_call 60; (with_reducible refine (impl_VarText.calls k a0_6 t210 t211 _ A5.out).mono ?_); rintro e w4 ⟨rfl, hb⟩; have n1_ := Aside0.mk (below_step HB.out hb); have n2_ := Aside0.mk (blk_below BK.out hb); clear HB BK z6; have HB := n1_; have BK := n2_; clear n1_ n2_ hb))
    obtain ⟨D, hD⟩ : ∃ D : Slots, D = [(24, Is (.pointer (some ⟨g, 0, none⟩))), (25, Is (.int .i64 a0_0)), (26, Is (.int .u8 (a0_0 % 256))), (27, Is (.pointer (some ⟨g, 1, none⟩))), (28, Is (.int .i64 a0_1)), (29, Is (.int .u8 (a0_1 % 256))), (30, fun w_ v_ => Kd.R (Kd.int .u8) 5 w_ w.heap.size (fun _ => True) v_ [a0_0 % 256, a0_1 % 256]), (31, Is (.string (strOfNums [a0_0 % 256, a0_1 % 256]))), (32, Is (.string (t208))), (33, Is (.string (strOfNums [a0_0 % 256, a0_1 % 256] ++ t208))), (34, Is (.pointer (some ⟨g, 3, none⟩))), (35, Is (.pointer (some ⟨g, 3, none⟩))), (36, Is (.int .i64 a0_3)), (37, Is (.int .u8 (a0_3 % 256))), (38, fun w_ v_ => Kd.R (Kd.int .u8) 5 w_ w.heap.size (fun _ => True) v_ [a0_3 % 256]), (39, Is (.string (strOfNums [a0_3 % 256]))), (40, Is (.string ((strOfNums [a0_0 % 256, a0_1 % 256] ++ t208) ++ strOfNums [a0_3 % 256]))), (41, Is (.pointer (some ⟨g, 3, none⟩))), (42, Is (.pointer (some ⟨g, 4, none⟩))), (43, Is (.int .i64 a0_4)), (44, Is (.string (t218))), (45, Is (.string (((strOfNums [a0_0 % 256, a0_1 % 256] ++ t208) ++ strOfNums [a0_3 % 256]) ++ t218))), (46, Is (.pointer (some ⟨g, 3, none⟩))), (47, Is (.pointer (some ⟨g, 5, none⟩))), (48, Is (.int .i64 a0_5)), (49, Is (.string (t219))), (50, Is (.string ((((strOfNums [a0_0 % 256, a0_1 % 256] ++ t208) ++ strOfNums [a0_3 % 256]) ++ t218) ++ t219))), (51, Is (.string (t210))), (52, Is (.string (((((strOfNums [a0_0 % 256, a0_1 % 256] ++ t208) ++ strOfNums [a0_3 % 256]) ++ t218) ++ t219) ++ t210))), (53, Is (.tuple #[.string t220, .bool t221])), (54, Is (.string (t220))), (55, Is (.bool t221)), (2, Is (.string (t220))), (3, Is (.bool t221))] := ⟨_, rfl⟩
    have hM : Stays fun w' => w'.heap[g]? = some (.cells #[.int .i64 a0_0, .int .i64 a0_1, .int .i64 a0_2, .int .i64 a0_3, .int .i64 a0_4, .int .i64 a0_5, .int .i64 a0_6] 71 (0, 0)) ∧ Below w.heap.size w w' := fun _ _ h hb => ⟨blk_below h.1 hb, below_step h.2 hb⟩
    have hV : ∀ e ∈ D, ∀ v, Stays fun w => e.2 w v := by
      rw [hD]
      repeat' first | exact List.forall_mem_nil _ | refine List.forall_mem_cons.2 ⟨?_, ?_⟩
      all_goals first | exact fun v => Is_stays _ v | exact fun v w1 w2 h hb => Kd.R_below h hb
    have hnd : (D.map (·.1)).Nodup := by rw [hD]; exact of_decide_eq_true rfl
    refine region_any (n := 34) (wb := w) (M := fun w' => w'.heap[g]? = some (.cells #[.int .i64 a0_0, .int .i64 a0_1, .int .i64 a0_2, .int .i64 a0_3, .int .i64 a0_4, .int .i64 a0_5, .int .i64 a0_6] 71 (0, 0)) ∧ Below w.heap.size w w') (D := D) (Array.replicate 34 false) (by kernel_rfl) impl_FrameText.tab5 impl_FrameText.bits5 (by kernel_rfl) rfl rfl (by kernel_rfl) (below_drew1 HB.out) ⟨blk_drew BK.out, below_drew1 HB.out⟩ ?_ ?_
    · show ∀ i ∈ [0, 1, 2, 3, 4, 5, 6, 7, 8, 9, 10, 11, 12, 13, 14, 15, 16, 17, 18, 19, 20, 21, 22, 23, 24, 25, 26, 27, 28, 29, 30, 31, 32, 33], _
      refine steps_cons ?_ (steps_cons ?_ (steps_cons ?_ (steps_cons ?_ (steps_cons ?_ (steps_cons ?_ (steps_cons ?_ (steps_cons ?_ (steps_cons ?_ (steps_cons ?_ (steps_cons ?_ (steps_cons ?_ (steps_cons ?_ (steps_cons ?_ (steps_cons ?_ (steps_cons ?_ (steps_cons ?_ (steps_cons ?_ (steps_cons ?_ (steps_cons ?_ (steps_cons ?_ (steps_cons ?_ (steps_cons ?_ (steps_cons ?_ (steps_cons ?_ (steps_cons ?_ (steps_cons ?_ (steps_cons ?_ (steps_cons ?_ (steps_cons ?_ (steps_cons ?_ (steps_cons ?_ (steps_cons ?_ (steps_cons ?_ (steps_nil))))))))))))))))))))))))))))))))))
      · refine step_of _ _ hM hV hnd (by rw [hD]; rfl) rfl rfl rfl (of_decide_eq_true rfl) (within_of (by kernel_rfl) _) ?_
        intro a w9 hm hold hdep
        have e0 := eval_of ((hold 1 (by rw [hD]; rfl)).trans rfl)
        exact gPure (by first | (go_simp; done) | (go_simp; rfl))
      · refine step_of _ _ hM hV hnd (by rw [hD]; rfl) rfl rfl rfl (of_decide_eq_true rfl) (within_of (by kernel_rfl) _) ?_
        intro a w9 hm hold hdep
        obtain ⟨_, h0, rfl⟩ := hdep 0 _ (by rw [hD]; rfl) (by rfl)
        have e0 := eval_of h0
        have z := (blk_cell hm.1 0).trans rfl
        exact gPure (by first | (go_simp; done) | (go_simp; rfl))
      · refine step_of _ _ hM hV hnd (by rw [hD]; rfl) rfl rfl rfl (of_decide_eq_true rfl) (within_of (by kernel_rfl) _) ?_
        intro a w9 hm hold hdep
        obtain ⟨_, h0, rfl⟩ := hdep 1 _ (by rw [hD]; rfl) (by rfl)
        have e0 := eval_of h0
        exact gPure (by first | (go_simp; done) | (go_simp; rfl))
      · refine step_of _ _ hM hV hnd (by rw [hD]; rfl) rfl rfl rfl (of_decide_eq_true rfl) (within_of (by kernel_rfl) _) ?_
        intro a w9 hm hold hdep
        have e0 := eval_of ((hold 1 (by rw [hD]; rfl)).trans rfl)
        exact gPure (by first | (go_simp; done) | (go_simp; rfl))
      · refine step_of _ _ hM hV hnd (by rw [hD]; rfl) rfl rfl rfl (of_decide_eq_true rfl) (within_of (by kernel_rfl) _) ?_
        intro a w9 hm hold hdep
        obtain ⟨_, h0, rfl⟩ := hdep 3 _ (by rw [hD]; rfl) (by rfl)
        have e0 := eval_of h0
        have z := (blk_cell hm.1 1).trans rfl
        exact gPure (by first | (go_simp; done) | (go_simp; rfl))
      · refine step_of _ _ hM hV hnd (by rw [hD]; rfl) rfl rfl rfl (of_decide_eq_true rfl) (within_of (by kernel_rfl) _) ?_
        intro a w9 hm hold hdep
        obtain ⟨_, h0, rfl⟩ := hdep 4 _ (by rw [hD]; rfl) (by rfl)
        have e0 := eval_of h0
        exact gPure (by first | (go_simp; done) | (go_simp; rfl))
      · refine step_of _ _ hM hV hnd (by rw [hD]; rfl) rfl rfl rfl (of_decide_eq_true rfl) (within_of (by kernel_rfl) _) ?_
        intro a w9 hm hold hdep
        obtain ⟨_, h0, rfl⟩ := hdep 2 _ (by rw [hD]; rfl) (by rfl)
        have e0 := eval_of h0
        obtain ⟨_, h1, rfl⟩ := hdep 5 _ (by rw [hD]; rfl) (by rfl)
        have e1 := eval_of h1
        refine .inl ⟨.slice (some ⟨w9.heap.size, 0, none⟩) 2 2, w9.alloc (.cells #[.int .u8 (a0_0 % 256), .int .u8 (a0_1 % 256)] 5 (0, 0)), (by first | (go_simp; done) | (go_simp; rfl)), ?_, below_alloc (Below.refl _ _) _⟩
        have h2 := World.ownsRow_lit (base := w.heap.size) (e := 5) (size := 1) w9 #[.int .u8 (a0_0 % 256), .int .u8 (a0_1 % 256)] 2 (below_size hm.2) (by decide) (by rfl)
        exact Kd.R_of_own (enc := Value.int .u8) (h1 := fun _ => rfl) (by simpa [encs] using h2) (fun _ _ => trivial)
      · refine step_of _ _ hM hV hnd (by rw [hD]; rfl) rfl rfl rfl (of_decide_eq_true rfl) (within_of (by kernel_rfl) _) ?_
        intro a w9 hm hold hdep
        obtain ⟨v0, h0, r0⟩ := hdep 6 _ (by rw [hD]; rfl) (by rfl)
        have e0 := eval_of h0
        obtain ⟨A, c, rfl, _, hC⟩ := Kd.R_reads r0
        have kc : (convert 63 9 (.slice A 2 c)).run Tryd.prog w9 = _ := Kd.C_string (P := Tryd.prog) (c := c) Tryd.underlying63 Tryd.underlying5 Tryd.underlying9 hC
        exact gPure (by first | (go_simp; done) | (go_simp; rfl))
      · refine step_of _ _ hM hV hnd (by rw [hD]; rfl) rfl rfl rfl (of_decide_eq_true rfl) (within_of (by kernel_rfl) _) ?_
        intro a w9 hm hold hdep
        have e0 := eval_of ((hold 4 (by rw [hD]; rfl)).trans rfl)
        exact gPure (by first | (go_simp; done) | (go_simp; rfl))
      · refine step_of _ _ hM hV hnd (by rw [hD]; rfl) rfl rfl rfl (of_decide_eq_true rfl) (within_of (by kernel_rfl) _) ?_
        intro a w9 hm hold hdep
        obtain ⟨_, h0, rfl⟩ := hdep 7 _ (by rw [hD]; rfl) (by rfl)
        have e0 := eval_of h0
        obtain ⟨_, h1, rfl⟩ := hdep 8 _ (by rw [hD]; rfl) (by rfl)
        have e1 := eval_of h1
        have c := C6.out
        try simp only [ByteArray.size_append] at c
        exact gPure (by first | (go_simp; done) | (go_simp; rfl) | (go_simp; exact c))
      · refine step_of _ _ hM hV hnd (by rw [hD]; rfl) rfl rfl rfl (of_decide_eq_true rfl) (within_of (by kernel_rfl) _) ?_
        intro a w9 hm hold hdep
        have e0 := eval_of ((hold 1 (by rw [hD]; rfl)).trans rfl)
        exact gPure (by first | (go_simp; done) | (go_simp; rfl))
      · refine step_of _ _ hM hV hnd (by rw [hD]; rfl) rfl rfl rfl (of_decide_eq_true rfl) (within_of (by kernel_rfl) _) ?_
        intro a w9 hm hold hdep
        obtain ⟨_, h0, rfl⟩ := hdep 10 _ (by rw [hD]; rfl) (by rfl)
        have e0 := eval_of h0
        exact gPure (by first | (go_simp; done) | (go_simp; rfl))
      · refine step_of _ _ hM hV hnd (by rw [hD]; rfl) rfl rfl rfl (of_decide_eq_true rfl) (within_of (by kernel_rfl) _) ?_
        intro a w9 hm hold hdep
        obtain ⟨_, h0, rfl⟩ := hdep 11 _ (by rw [hD]; rfl) (by rfl)
        have e0 := eval_of h0
        have z := (blk_cell hm.1 3).trans rfl
        exact gPure (by first | (go_simp; done) | (go_simp; rfl))
      · refine step_of _ _ hM hV hnd (by rw [hD]; rfl) rfl rfl rfl (of_decide_eq_true rfl) (within_of (by kernel_rfl) _) ?_
        intro a w9 hm hold hdep
        obtain ⟨_, h0, rfl⟩ := hdep 12 _ (by rw [hD]; rfl) (by rfl)
        have e0 := eval_of h0
        exact gPure (by first | (go_simp; done) | (go_simp; rfl))
      · refine step_of _ _ hM hV hnd (by rw [hD]; rfl) rfl rfl rfl (of_decide_eq_true rfl) (within_of (by kernel_rfl) _) ?_
        intro a w9 hm hold hdep
        obtain ⟨_, h0, rfl⟩ := hdep 13 _ (by rw [hD]; rfl) (by rfl)
        have e0 := eval_of h0
        refine .inl ⟨.slice (some ⟨w9.heap.size, 0, none⟩) 1 1, w9.alloc (.cells #[.int .u8 (a0_3 % 256)] 5 (0, 0)), (by first | (go_simp; done) | (go_simp; rfl)), ?_, below_alloc (Below.refl _ _) _⟩
        have h2 := World.ownsRow_lit (base := w.heap.size) (e := 5) (size := 1) w9 #[.int .u8 (a0_3 % 256)] 1 (below_size hm.2) (by decide) (by rfl)
        exact Kd.R_of_own (enc := Value.int .u8) (h1 := fun _ => rfl) (by simpa [encs] using h2) (fun _ _ => trivial)
      · refine step_of _ _ hM hV hnd (by rw [hD]; rfl) rfl rfl rfl (of_decide_eq_true rfl) (within_of (by kernel_rfl) _) ?_
        intro a w9 hm hold hdep
        obtain ⟨v0, h0, r0⟩ := hdep 14 _ (by rw [hD]; rfl) (by rfl)
        have e0 := eval_of h0
        obtain ⟨A, c, rfl, _, hC⟩ := Kd.R_reads r0
        have kc : (convert 63 9 (.slice A 1 c)).run Tryd.prog w9 = _ := Kd.C_string (P := Tryd.prog) (c := c) Tryd.underlying63 Tryd.underlying5 Tryd.underlying9 hC
        exact gPure (by first | (go_simp; done) | (go_simp; rfl))
      · refine step_of _ _ hM hV hnd (by rw [hD]; rfl) rfl rfl rfl (of_decide_eq_true rfl) (within_of (by kernel_rfl) _) ?_
        intro a w9 hm hold hdep
        obtain ⟨_, h0, rfl⟩ := hdep 9 _ (by rw [hD]; rfl) (by rfl)
        have e0 := eval_of h0
        obtain ⟨_, h1, rfl⟩ := hdep 15 _ (by rw [hD]; rfl) (by rfl)
        have e1 := eval_of h1
        have c := C7.out
        try simp only [ByteArray.size_append] at c
        exact gPure (by first | (go_simp; done) | (go_simp; rfl) | (go_simp; exact c))
      · refine step_of _ _ hM hV hnd (by rw [hD]; rfl) rfl rfl rfl (of_decide_eq_true rfl) (within_of (by kernel_rfl) _) ?_
        intro a w9 hm hold hdep
        have e0 := eval_of ((hold 1 (by rw [hD]; rfl)).trans rfl)
        exact gPure (by first | (go_simp; done) | (go_simp; rfl))
      · refine step_of _ _ hM hV hnd (by rw [hD]; rfl) rfl rfl rfl (of_decide_eq_true rfl) (within_of (by kernel_rfl) _) ?_
        intro a w9 hm hold hdep
        obtain ⟨_, h0, rfl⟩ := hdep 17 _ (by rw [hD]; rfl) (by rfl)
        have e0 := eval_of h0
        exact gPure (by first | (go_simp; done) | (go_simp; rfl))
      · refine step_of _ _ hM hV hnd (by rw [hD]; rfl) rfl rfl rfl (of_decide_eq_true rfl) (within_of (by kernel_rfl) _) ?_
        intro a w9 hm hold hdep
        obtain ⟨_, h0, rfl⟩ := hdep 18 _ (by rw [hD]; rfl) (by rfl)
        have e0 := eval_of h0
        have z := (blk_cell hm.1 4).trans rfl
        exact gPure (by first | (go_simp; done) | (go_simp; rfl))
      · refine step_of _ _ hM hV hnd (by rw [hD]; rfl) rfl rfl rfl (of_decide_eq_true rfl) (within_of (by kernel_rfl) _) ?_
        intro a w9 hm hold hdep
        obtain ⟨_, h0, rfl⟩ := hdep 19 _ (by rw [hD]; rfl) (by rfl)
        have e0 := eval_of h0
        refine .inr ⟨47, #[.int .i64 a0_4], (by first | (go_simp; done) | (go_simp; rfl)), (impl_four.calls a0_4 t218 _ A8.out).mono ?_⟩
        rintro e w2 ⟨rfl, hb⟩
        exact ⟨_, rfl, rfl, hb⟩
      · refine step_of _ _ hM hV hnd (by rw [hD]; rfl) rfl rfl rfl (of_decide_eq_true rfl) (within_of (by kernel_rfl) _) ?_
        intro a w9 hm hold hdep
        obtain ⟨_, h0, rfl⟩ := hdep 16 _ (by rw [hD]; rfl) (by rfl)
        have e0 := eval_of h0
        obtain ⟨_, h1, rfl⟩ := hdep 20 _ (by rw [hD]; rfl) (by rfl)
        have e1 := eval_of h1
        have c := C9.out
        try simp only [ByteArray.size_append] at c
        exact gPure (by first | (go_simp; done) | (go_simp; rfl) | (go_simp; exact c))
      · refine step_of _ _ hM hV hnd (by rw [hD]; rfl) rfl rfl rfl (of_decide_eq_true rfl) (within_of (by kernel_rfl) _) ?_
        intro a w9 hm hold hdep
        have e0 := eval_of ((hold 1 (by rw [hD]; rfl)).trans rfl)
        exact gPure (by first | (go_simp; done) | (go_simp; rfl))
      · refine step_of _ _ hM hV hnd (by rw [hD]; rfl) rfl rfl rfl (of_decide_eq_true rfl) (within_of (by kernel_rfl) _) ?_
        intro a w9 hm hold hdep
        obtain ⟨_, h0, rfl⟩ := hdep 22 _ (by rw [hD]; rfl) (by rfl)
        have e0 := eval_of h0
        exact gPure (by first | (go_simp; done) | (go_simp; rfl))
      · refine step_of _ _ hM hV hnd (by rw [hD]; rfl) rfl rfl rfl (of_decide_eq_true rfl) (within_of (by kernel_rfl) _) ?_
        intro a w9 hm hold hdep
        obtain ⟨_, h0, rfl⟩ := hdep 23 _ (by rw [hD]; rfl) (by rfl)
        have e0 := eval_of h0
        have z := (blk_cell hm.1 5).trans rfl
        exact gPure (by first | (go_simp; done) | (go_simp; rfl))
      · refine step_of _ _ hM hV hnd (by rw [hD]; rfl) rfl rfl rfl (of_decide_eq_true rfl) (within_of (by kernel_rfl) _) ?_
        intro a w9 hm hold hdep
        obtain ⟨_, h0, rfl⟩ := hdep 24 _ (by rw [hD]; rfl) (by rfl)
        have e0 := eval_of h0
        refine .inr ⟨47, #[.int .i64 a0_5], (by first | (go_simp; done) | (go_simp; rfl)), (impl_four.calls a0_5 t219 _ A10.out).mono ?_⟩
        rintro e w2 ⟨rfl, hb⟩
        exact ⟨_, rfl, rfl, hb⟩
      · refine step_of _ _ hM hV hnd (by rw [hD]; rfl) rfl rfl rfl (of_decide_eq_true rfl) (within_of (by kernel_rfl) _) ?_
        intro a w9 hm hold hdep
        obtain ⟨_, h0, rfl⟩ := hdep 21 _ (by rw [hD]; rfl) (by rfl)
        have e0 := eval_of h0
        obtain ⟨_, h1, rfl⟩ := hdep 25 _ (by rw [hD]; rfl) (by rfl)
        have e1 := eval_of h1
        have c := C11.out
        try simp only [ByteArray.size_append] at c
        exact gPure (by first | (go_simp; done) | (go_simp; rfl) | (go_simp; exact c))
      · refine step_of _ _ hM hV hnd (by rw [hD]; rfl) rfl rfl rfl (of_decide_eq_true rfl) (within_of (by kernel_rfl) _) ?_
        intro a w9 hm hold hdep
        have e0 := eval_of ((hold 6 (by rw [hD]; rfl)).trans rfl)
        exact gPure (by first | (go_simp; done) | (go_simp; rfl))
      · refine step_of _ _ hM hV hnd (by rw [hD]; rfl) rfl rfl rfl (of_decide_eq_true rfl) (within_of (by kernel_rfl) _) ?_
        intro a w9 hm hold hdep
        obtain ⟨_, h0, rfl⟩ := hdep 26 _ (by rw [hD]; rfl) (by rfl)
        have e0 := eval_of h0
        obtain ⟨_, h1, rfl⟩ := hdep 27 _ (by rw [hD]; rfl) (by rfl)
        have e1 := eval_of h1
        have c := C12.out
        try simp only [ByteArray.size_append] at c
        exact gPure (by first | (go_simp; done) | (go_simp; rfl) | (go_simp; exact c))
      · refine step_of _ _ hM hV hnd (by rw [hD]; rfl) rfl rfl rfl (of_decide_eq_true rfl) (within_of (by kernel_rfl) _) ?_
        intro a w9 hm hold hdep
        obtain ⟨_, h0, rfl⟩ := hdep 28 _ (by rw [hD]; rfl) (by rfl)
        have e0 := eval_of h0
        refine .inr ⟨61, #[.string (((((strOfNums [a0_0 % 256, a0_1 % 256] ++ t208) ++ strOfNums [a0_3 % 256]) ++ t218) ++ t219) ++ t210)], (by first | (go_simp; done) | (go_simp; rfl)), (impl_Sealed.calls k _ t220 t221 _ A13.out).mono ?_⟩
        rintro e w2 ⟨rfl, hb⟩
        exact ⟨_, rfl, rfl, hb⟩
      · refine step_of _ _ hM hV hnd (by rw [hD]; rfl) rfl rfl rfl (of_decide_eq_true rfl) (within_of (by kernel_rfl) _) ?_
        intro a w9 hm hold hdep
        obtain ⟨_, h0, rfl⟩ := hdep 29 _ (by rw [hD]; rfl) (by rfl)
        have e0 := eval_of h0
        exact gPure (by first | (go_simp; done) | (go_simp; rfl))
      · refine step_of _ _ hM hV hnd (by rw [hD]; rfl) rfl rfl rfl (of_decide_eq_true rfl) (within_of (by kernel_rfl) _) ?_
        intro a w9 hm hold hdep
        obtain ⟨_, h0, rfl⟩ := hdep 29 _ (by rw [hD]; rfl) (by rfl)
        have e0 := eval_of h0
        exact gPure (by first | (go_simp; done) | (go_simp; rfl))
      · refine step_of _ _ hM hV hnd (by rw [hD]; rfl) rfl rfl rfl (of_decide_eq_true rfl) (within_of (by kernel_rfl) _) ?_
        intro a w9 hm hold hdep
        obtain ⟨_, h0, rfl⟩ := hdep 30 _ (by rw [hD]; rfl) (by rfl)
        have e0 := eval_of h0
        exact gPure (by first | (go_simp; done) | (go_simp; rfl))
      · refine step_of _ _ hM hV hnd (by rw [hD]; rfl) rfl rfl rfl (of_decide_eq_true rfl) (within_of (by kernel_rfl) _) ?_
        intro a w9 hm hold hdep
        obtain ⟨_, h0, rfl⟩ := hdep 31 _ (by rw [hD]; rfl) (by rfl)
        have e0 := eval_of h0
        exact gPure (by first | (go_simp; done) | (go_simp; rfl))
    · intro a w9 hB9 hM9 hsz hdf hold hdone
      rename_i K hK
      obtain ⟨_, h2, rfl⟩ := hdone 32 _ (by decide) (by rw [hD]; rfl)
      obtain ⟨_, h3, rfl⟩ := hdone 33 _ (by decide) (by rw [hD]; rfl)
      show K a w9
      refine hK _ _ ?_
      go_wp2
      refine bodyPost_ret (results_list (rs := [.tmp 2, .tmp 3]) rfl (by simp) (.tmp (.tmp .nil))) (hdf.trans rfl) ⟨?_, hB9⟩
      simp only [Array.getD_eq_getD_getElem?]
      rw [h2, h3]
      rfl
  · rename_i c3
    have c4 : t207 = false := by simpa using c3
    subst c4
    simp only [Option.some.injEq, Prod.mk.injEq] at h
    obtain ⟨rfl, rfl⟩ := h
    go_enter Tryd.func49, Tryd.ntmps49
    go_wp2_with (first
      | ((with_reducible refine gate_dst (N := 1) rfl ?_); refine box_event rfl (N := 1) rfl (cs := #[.int .i64 a0_0, .int .i64 a0_1, .int .i64 a0_2, .int .i64 a0_3, .int .i64 a0_4, .int .i64 a0_5, .int .i64 a0_6]) (t := 71) (by kernel_rfl) ?_; intro g hg w1 hbox hb; have BK := Aside0.mk hbox; have GE := Aside0.mk (by rw [hg]; exact below_size HB.out : w.heap.size ≤ g); have n1_ := Aside0.mk (below_step HB.out hb); clear HB; have HB := n1_; clear n1_ hbox hb hg; have z0 : w1.cell? ⟨g, 0, none⟩ = some (.int .i64 a0_0) := (blk_cell BK.out 0).trans rfl; have z1 : w1.cell? ⟨g, 1, none⟩ = some (.int .i64 a0_1) := (blk_cell BK.out 1).trans rfl; have z2 : w1.cell? ⟨g, 2, none⟩ = some (.int .i64 a0_2) := (blk_cell BK.out 2).trans rfl; have z3 : w1.cell? ⟨g, 3, none⟩ = some (.int .i64 a0_3) := (blk_cell BK.out 3).trans rfl; have z4 : w1.cell? ⟨g, 4, none⟩ = some (.int .i64 a0_4) := (blk_cell BK.out 4).trans rfl; have z5 : w1.cell? ⟨g, 5, none⟩ = some (.int .i64 a0_5) := (blk_cell BK.out 5).trans rfl; have z6 : w1.cell? ⟨g, 6, none⟩ = some (.int .i64 a0_6) := (blk_cell BK.out 6).trans rfl)
      | (go_at_call 59; (with_reducible refine (impl_FrameOk.calls k a0_0 a0_1 a0_2 a0_3 a0_4 a0_5 a0_6 false _ A2.out).mono ?_); rintro e w2 ⟨rfl, hb⟩; have n1_ := Aside0.mk (below_step HB.out hb); clear HB; have HB := n1_; clear n1_ hb))
    refine bodyPost_ret (results_list (rs := [.tmp 2, .tmp 3]) rfl (by simp) (.tmp (.tmp .nil))) rfl ⟨rfl, HB.out⟩
end Go.Proofs.YtfbhkglgaehohaaDoor.PA

/- The functions of the program and of the reference that laws of this seat reach: each is shown to compute a plain Lean function; written by a program of this session. No condition. -/
namespace Go.Proofs.YtfbhkglgaehohaaDoor.PA
open Go.RowKit Go.Proofs.YtfbhkglgaehohaaDoorW.PrintWords Go.Proofs.YtfbhkglgaehohaaDoorW.PrintLast Go.Proofs.YtfbhkglgaehohaaDoorW.PrintMore
attribute [local go_sem] max2_int min2_int max_two min_two max_three min_three max_four min_four   -- for this text's walks alone
set_option linter.unusedVariables false
set_option linter.unusedSimpArgs false

/-! ### impl_EntryText: function 32 -/
def impl_EntryText.f (k : Nat) (a0_0 : Int) (a0_1 : Int) (a0_2 : Int) (a0_3 : Int) (a0_4 : Int) (a0_5 : Int) : Option (ByteArray) := (impl_FrameText.f k 1 a0_0 a0_1 a0_2 a0_3 a0_4 a0_5).bind fun bt223 => (some bt223.1)
theorem impl_EntryText.mono : ∀ a0 a1 a2 a3 a4 a5 k, LeO (impl_EntryText.f k a0 a1 a2 a3 a4 a5) (impl_EntryText.f (k + 1) a0 a1 a2 a3 a4 a5) := by
  intro a0 a1 a2 a3 a4 a5 k
  unfold impl_EntryText.f
  repeat' first
      | (with_reducible exact impl_FrameText.mono _ _ _ _ _ _ _ _)
      | (with_reducible exact LeO.refl _)
      | (with_reducible exact LeO.none _)
      | (with_reducible refine LeO.ite ?_ ?_)
      | (with_reducible refine LeO.bind ?_ (fun _ => ?_))
      | exact impl_FrameText.mono _ _ _ _ _ _ _ _
      | exact LeO.none _
      | refine LeO.ite ?_ ?_
      | refine LeO.bind ?_ (fun _ => ?_)
set_option maxHeartbeats 8000000 in
set_option maxRecDepth 100000 in
theorem impl_EntryText.calls (k : Nat) (a0_0 : Int) (a0_1 : Int) (a0_2 : Int) (a0_3 : Int) (a0_4 : Int) (a0_5 : Int) (r : ByteArray) (w : World) (h : impl_EntryText.f k a0_0 a0_1 a0_2 a0_3 a0_4 a0_5 = some r) :
    Calls Tryd.prog 32 #[.agg #[.int .i64 a0_0, .int .i64 a0_1, .int .i64 a0_2, .int .i64 a0_3, .int .i64 a0_4, .int .i64 a0_5]] w fun e w' => e = .returned (.string r) ∧ Below w.heap.size w w' := by
  have hu31 := Tryd.underlying31
  have hu29 := Tryd.underlying29
  have hu71 := Tryd.underlying71
  have HB := Aside0.mk (Below.refl w.heap.size w)
  have H : ((impl_FrameText.f k 1 a0_0 a0_1 a0_2 a0_3 a0_4 a0_5).bind fun bt223 => (some bt223.1)) = some r := h
  clear h
  replace H := Option.bind_eq_some_iff.mp H
  obtain ⟨⟨t223, t224⟩, A20, H⟩ := H
  replace H : (some t223) = some r := H
  have A2 := Aside0.mk A20
  clear A20
  obtain rfl := Option.some.inj H
  go_enter Tryd.func32, Tryd.ntmps32
  go_wp2_with (first | ((with_reducible refine gate_dst (N := 1) rfl ?_); refine box_event ?hg (N := 1) ?hd (cs := #[.int .i64 a0_0, .int .i64 a0_1, .int .i64 a0_2, .int .i64 a0_3, .int .i64 a0_4, .int .i64 a0_5]) (t := 31) ?hr ?_; (case hd => rfl); (case hg => rfl); (case hr => first | (go_simp; done) | (go_simp; rfl)); intro gb222 hg w3 hbox hb; have n0_ := Aside0.mk (below_step (by repeat (first | (with_reducible first | exact HB.out | apply below_alloc | apply pw_below_drewN | apply below_drew1) | exact HB.out)) hb); have n1_ := Aside0.mk (hbox); have n2_ := Aside0.mk ((by rw [hg]; exact (below_size (by repeat (first | (with_reducible first | exact HB.out | apply below_alloc | apply pw_below_drewN | apply below_drew1) | exact HB.out))) : w.heap.size ≤ gb222)); have n3_ := Aside0.mk ((by rw [hg]; exact (below_size (by repeat (first | (with_reducible first | exact HB.out | apply below_alloc | apply pw_below_drewN | apply below_drew1) | exact HB.out))) : w.heap.size ≤ gb222)); clear HB; have HB := n0_; have BK222 := n1_; have GW222 := n2_; have GE222 := n3_; clear n0_ n1_ n2_ n3_; clear hb hbox hg; have hcz4_0 : w3.cell? ⟨gb222, 0, none⟩ = some (.int .i64 a0_0) := (blk_cell BK222.out 0).trans rfl; have hcz4_1 : w3.cell? ⟨gb222, 1, none⟩ = some (.int .i64 a0_1) := (blk_cell BK222.out 1).trans rfl; have hcz4_2 : w3.cell? ⟨gb222, 2, none⟩ = some (.int .i64 a0_2) := (blk_cell BK222.out 2).trans rfl; have hcz4_3 : w3.cell? ⟨gb222, 3, none⟩ = some (.int .i64 a0_3) := (blk_cell BK222.out 3).trans rfl; have hcz4_4 : w3.cell? ⟨gb222, 4, none⟩ = some (.int .i64 a0_4) := (blk_cell BK222.out 4).trans rfl; have hcz4_5 : w3.cell? ⟨gb222, 5, none⟩ = some (.int .i64 a0_5) := (blk_cell BK222.out 5).trans rfl; have hfz4_0 := blk_frozen BK222.out 0; have hfz4_1 := blk_frozen BK222.out 1; have hfz4_2 := blk_frozen BK222.out 2; have hfz4_3 := blk_frozen BK222.out 3; have hfz4_4 := blk_frozen BK222.out 4; have hfz4_5 := blk_frozen BK222.out 5) | ((with_reducible refine gate_callee (f := 49) rfl ?_); refine goesL_ (some 13) rfl rfl Tryd.func49 (by kernel_rfl) rfl #[.agg #[.int .i64 1, .int .i64 a0_0, .int .i64 a0_1, .int .i64 a0_2, .int .i64 a0_3, .int .i64 a0_4, .int .i64 a0_5]] rfl (by (try simp only [List.map_toArray, List.map_cons, List.map_nil]); first | done | rfl | (simp only [List.length_drop, List.length_take]; rfl)) ?_; (with_reducible refine (impl_FrameText.calls k 1 a0_0 a0_1 a0_2 a0_3 a0_4 a0_5 t223 t224 _ A2.out).mono ?_); rintro e w5 ⟨rfl, hb⟩; refine ⟨_, rfl, ?_⟩; have n0_ := Aside0.mk (blk_below (g := gb222) (o := .cells #[.int .i64 a0_0, .int .i64 a0_1, .int .i64 a0_2, .int .i64 a0_3, .int .i64 a0_4, .int .i64 a0_5] 31 (0, 0)) (by (with_reducible repeat (first | refine blk_drewN ?_ _ | refine blk_drew ?_ | refine blk_alloc ?_ _)); exact BK222.out) hb); have n1_ := Aside0.mk (below_step (by repeat (first | (with_reducible first | exact HB.out | apply below_alloc | apply pw_below_drewN | apply below_drew1 | refine below_set ?_ GE222.out) | exact HB.out)) hb); clear BK222; clear HB; have BK222 := n0_; have HB := n1_; clear n0_ n1_; (try clear hb); (try clear hb2); (try clear hk); (try clear hi)))
  go_ret
  exact ⟨by first | rfl | (simp [errW_none, errW_some] <;> rfl) | (simp [*, errW_none, errW_some] <;> rfl), by repeat (first | (with_reducible first | exact HB.out | apply below_alloc | apply pw_below_drewN | apply below_drew1 | refine below_set ?_ GE222.out) | exact HB.out)⟩

end Go.Proofs.YtfbhkglgaehohaaDoor.PA
