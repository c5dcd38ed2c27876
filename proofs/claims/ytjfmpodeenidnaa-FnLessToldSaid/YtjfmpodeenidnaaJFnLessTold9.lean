/- Contracts of functions of the program and of the reference, and plain lemmas on what they compute: a part of the proof of the law FnLessTold. No condition. -/
import Derived.Test.YtjfmpodeenidnaaG90508x0
import Derived.Test.YtjfmpodeenidnaaG90508x1
import Derived.Test.YtjfmpodeenidnaaG90508x5
import Derived.Test.YtjfmpodeenidnaaJFnLessTold2
import Derived.Test.YtjfmpodeenidnaaJFnLessTold3
import Derived.Test.YtjfmpodeenidnaaJFnLessTold4
import Derived.Test.YtjfmpodeenidnaaJFnLessTold5
import Derived.Test.YtjfmpodeenidnaaJFnLessTold6
import Derived.Test.YtjfmpodeenidnaaJFnLessTold7
import Derived.Test.YtjfmpodeenidnaaJFnLessTold8
import Derived.Test.YtjfmpodeenidnaaV0
import Derived.Test.YtjfmpodeenidnaaShortV
set_option maxHeartbeats 8000000
set_option maxRecDepth 100000
namespace Go.Proofs.Ytjfmpodeenidnaa.PC
open Go.RowKit Go.Proofs.Ytjfmpodeenidnaa.Short Go.Proofs.YtjfmpodeenidnaaW.PrintWords Go.Proofs.YtjfmpodeenidnaaW.PrintLast Go.Proofs.YtjfmpodeenidnaaW.PrintMore
attribute [local go_sem] max2_int min2_int max_two min_two max_three min_three max_four min_four   -- for this text's walks alone
set_option linter.unusedVariables false
set_option linter.unusedSimpArgs false

def laws_FnLessTold.f (k : Nat) (l0 : List Int) : Option (Bool) := (laws_big.f l0).bind fun t907 => (if t907 = true then (some true) else ((spec_DrawShadowed.f k l0).bind fun bt908 => ((spec_DrawOnlyFor.f k l0).bind fun bt915 => ((impl_Shadowed.f k bt908.1 bt908.2.1 bt908.2.2.1 bt908.2.2.2).bind fun t923 => ((spec_Shadowed.f k bt908.1 bt908.2.1 bt908.2.2.1 bt908.2.2.2).bind fun t926 => ((laws_sameInts.f k t923 t926).bind fun t929 => (if t929 = true then ((impl_Unshadowed.f k bt908.1 bt908.2.1 bt908.2.2.1 bt908.2.2.2).bind fun bt930 => ((spec_Unshadowed.f k bt908.1 bt908.2.1 bt908.2.2.1 bt908.2.2.2).bind fun bt936 => ((spec_SamePolicy.f k bt930.1 bt930.2.1 bt930.2.2.1 bt930.2.2.2 bt936.1 bt936.2.1 bt936.2.2.1 bt936.2.2.2).bind fun t942 => (if t942 = true then ((impl_Lessened.f k bt908.1 bt908.2.1 bt908.2.2.1 bt908.2.2.2).bind fun bt943 => ((spec_Lessened.f k bt908.1 bt908.2.1 bt908.2.2.1 bt908.2.2.2).bind fun bt949 => ((spec_SamePolicy.f k bt943.1 bt943.2.1 bt943.2.2.1 bt943.2.2.2 bt949.1 bt949.2.1 bt949.2.2.1 bt949.2.2.2).bind fun t955 => (if t955 = true then ((impl_NumsSaid.f k bt908.1 bt908.2.1 bt908.2.2.1 bt908.2.2.2).bind fun t956 => ((spec_NumsSaid.f k bt908.1 bt908.2.1 bt908.2.2.1 bt908.2.2.2).bind fun t959 => ((laws_sameInts.f k t956 t959).bind fun t962 => (if t962 = true then ((impl_OnlyFor.f k bt915.1 bt915.2.1 bt915.2.2.1 bt915.2.2.2.1 bt915.2.2.2.2).bind fun bt963 => ((spec_OnlyFor.f k bt915.1 bt915.2.1 bt915.2.2.1 bt915.2.2.2.1 bt915.2.2.2.2).bind fun bt969 => ((spec_SamePolicy.f k bt963.1 bt963.2.1 bt963.2.2.1 bt963.2.2.2 bt969.1 bt969.2.1 bt969.2.2.1 bt969.2.2.2).bind fun t975 => (some t975)))) else (some false))))) else (some false))))) else (some false))))) else (some false))))))))
theorem laws_FnLessTold.mono : ∀ a0 k, LeO (laws_FnLessTold.f k a0) (laws_FnLessTold.f (k + 1) a0) := by
 intro a0 k
 unfold laws_FnLessTold.f
 have m0 := @impl_Lessened.mono
 have m1 := @impl_NumsSaid.mono
 have m2 := @impl_OnlyFor.mono
 have m3 := @impl_Shadowed.mono
 have m4 := @impl_Unshadowed.mono
 have m5 := @laws_sameInts.mono
 have m6 := @spec_DrawOnlyFor.mono
 have m7 := @spec_DrawShadowed.mono
 have m8 := @spec_Lessened.mono
 have m9 := @spec_NumsSaid.mono
 have m10 := @spec_OnlyFor.mono
 have m11 := @spec_SamePolicy.mono
 have m12 := @spec_Shadowed.mono
 have m13 := @spec_Unshadowed.mono
 exact mo_
def laws_FnLessTold.T5 : Bool × List (List Nat × List Nat) := (true, [([], []), ([0], [0]), ([], []), ([2, 1], [2]), ([1, 3, 3], [1, 3]), ([4, 4], [4]), ([5], [5]), ([6, 5, 5], [5, 6]), ([5], [5]), ([8, 7, 5], [5, 8]), ([7, 9, 9, 5], [5, 7, 9]), ([5, 10], [5, 10]), ([11, 10], [11]), ([12], [12]), ([13, 12, 12], [12, 13]), ([12], [12]), ([15, 14, 12], [12, 15]), ([14, 16, 16, 12], [12, 14, 16]), ([12, 17], [12, 17]), ([18, 17], [18]), ([19], [19]), ([20, 19, 19], [19, 20]), ([19], [19]), ([22, 21, 19], [19, 22]), ([21, 23, 23, 19], [19, 21, 23]), ([19, 24], [19, 24]), ([25, 24], [25]), ([26], [26]), ([26], [26]), ([27, 28, 26, 26], [26, 27, 28]), ([26], [26]), ([26], [26]), ([30, 31, 29, 26], [26, 30, 31]), ([29, 32, 32, 26], [26, 29, 32]), ([26, 33], [26, 33]), ([34, 33, 0, 1, 2, 3, 4, 5, 6, 7, 8, 9, 10, 11, 12, 13, 14, 15, 16, 17, 18, 19, 20, 21, 22, 23, 24, 25, 26, 27, 28, 29, 30, 31, 32, 33, 34], [34])])
def laws_FnLessTold.B5 : List Nat := [0, 1, 0, 7, 15, 31, 63, 127, 63, 511, 1023, 2047, 4095, 8191, 16383, 8191, 65535, 131071, 262143, 524287, 1048575, 2097151, 1048575, 8388607, 16777215, 33554431, 67108863, 134217727, 134217727, 536870911, 134217727, 134217727, 4294967295, 8589934591, 17179869183, 34359738367]
theorem laws_FnLessTold.tab5 : rtab .any (opsOf Try.f6 5) = laws_FnLessTold.T5 := by kernel_rfl
theorem laws_FnLessTold.bits5 : waitsOk laws_FnLessTold.T5.2 laws_FnLessTold.B5 = true := by kernel_rfl
theorem laws_FnLessTold.calls (k : Nat) (A0 : Option Addr) (c0 : Nat) (l0 : List Int) (r : Bool) (w : World) (hr0 : Kd.C (Kd.int .u8) w A0 l0.length l0) (hc0 : l0.length ≤ c0) (hrt : r = true) (h : laws_FnLessTold.f k l0 = some r) :
 Calls Try.prog 6 #[.slice A0 l0.length c0] w fun e w' => e = .returned (.bool r) ∧ Below w.heap.size w w' := by
 have hu36 := Try.underlying36
 have HR0 := Aside0.mk hr0
 have HC0 := Aside0.mk hc0
 clear hr0 hc0
 have HRt := Aside0.mk hrt
 clear hrt
 have HB := Aside0.mk (Below.refl w.heap.size w)
 have H := h
 unfold laws_FnLessTold.f at H
 clear h
 replace H := bs_ H
 obtain ⟨t907, A2, H⟩ := H
 try dsimp only at H
 by_cases c3 : t907 = true
 ·subst c3
  rw [if_pos rfl] at H
  obtain rfl := Option.some.inj H
  go_enter Try.func6, Try.ntmps6
  go_wp2_with (first | ((with_reducible refine gate_callee (f := 21) rfl ?_); refine gs_ (some 7) Try.func21 #[.slice A0 l0.length c0] ?_; (with_reducible refine (laws_big.calls _ _ l0 true _ ?side1 ?side2 A2.out).mono ?_); (case side1 => exact cs_ HR0.out); (case side2 => exact HC0.out); rintro e w' ⟨rfl, ⟨nd, rfl⟩⟩; refine ⟨_, rfl, ?_⟩))
  go_ret
  exact ⟨er_, bl_⟩
 replace c3 := Bool.eq_false_iff.mpr c3
 subst c3
 rw [nf_] at H
 replace H := bs_ H
 obtain ⟨⟨t908, t909, t910, t911⟩, A4, H⟩ := H
 try dsimp only at H
 replace H := bs_ H
 obtain ⟨⟨t915, t916, t917, t918, t921⟩, A5, H⟩ := H
 try dsimp only at H
 replace H := bs_ H
 obtain ⟨t923, A6, H⟩ := H
 try dsimp only at H
 replace H := bs_ H
 obtain ⟨t926, A7, H⟩ := H
 try dsimp only at H
 replace H := bs_ H
 obtain ⟨t929, A8, H⟩ := H
 try dsimp only at H
 by_cases c9 : t929 = true
 rotate_left
 ·replace c9 := Bool.eq_false_iff.mpr c9
  subst c9
  rw [nf_] at H
  exact absurd ((Option.some.inj H).trans HRt.out) (by decide)
 subst c9
 rw [if_pos rfl] at H
 replace H := bs_ H
 obtain ⟨⟨t930, t931, t932, t933⟩, A10, H⟩ := H
 try dsimp only at H
 replace H := bs_ H
 obtain ⟨⟨t936, t937, t938, t939⟩, A11, H⟩ := H
 try dsimp only at H
 replace H := bs_ H
 obtain ⟨t942, A12, H⟩ := H
 try dsimp only at H
 by_cases c13 : t942 = true
 rotate_left
 ·replace c13 := Bool.eq_false_iff.mpr c13
  subst c13
  rw [nf_] at H
  exact absurd ((Option.some.inj H).trans HRt.out) (by decide)
 subst c13
 rw [if_pos rfl] at H
 replace H := bs_ H
 obtain ⟨⟨t943, t944, t945, t946⟩, A14, H⟩ := H
 try dsimp only at H
 replace H := bs_ H
 obtain ⟨⟨t949, t950, t951, t952⟩, A15, H⟩ := H
 try dsimp only at H
 replace H := bs_ H
 obtain ⟨t955, A16, H⟩ := H
 try dsimp only at H
 by_cases c17 : t955 = true
 rotate_left
 ·replace c17 := Bool.eq_false_iff.mpr c17
  subst c17
  rw [nf_] at H
  exact absurd ((Option.some.inj H).trans HRt.out) (by decide)
 subst c17
 rw [if_pos rfl] at H
 replace H := bs_ H
 obtain ⟨t956, A18, H⟩ := H
 try dsimp only at H
 replace H := bs_ H
 obtain ⟨t959, A19, H⟩ := H
 try dsimp only at H
 replace H := bs_ H
 obtain ⟨t962, A20, H⟩ := H
 try dsimp only at H
 by_cases c21 : t962 = true
 rotate_left
 ·replace c21 := Bool.eq_false_iff.mpr c21
  subst c21
  rw [nf_] at H
  exact absurd ((Option.some.inj H).trans HRt.out) (by decide)
 subst c21
 rw [if_pos rfl] at H
 replace H := bs_ H
 obtain ⟨⟨t963, t964, t965, t966⟩, A22, H⟩ := H
 try dsimp only at H
 replace H := bs_ H
 obtain ⟨⟨t969, t970, t971, t972⟩, A23, H⟩ := H
 try dsimp only at H
 replace H := bs_ H
 obtain ⟨t975, A24, H⟩ := H
 try dsimp only at H
 obtain rfl := Option.some.inj H
 go_enter Try.func6, Try.ntmps6
 try go_wp2_with (first | ((with_reducible refine gate_callee (f := 21) rfl ?_); refine gs_ (some 7) Try.func21 #[.slice A0 l0.length c0] ?_; (with_reducible refine (laws_big.calls _ _ l0 false _ ?side1 ?side2 A2.out).mono ?_); (case side1 => exact cs_ HR0.out); (case side2 => exact HC0.out); rintro e w' ⟨rfl, ⟨nd, rfl⟩⟩; refine ⟨_, rfl, ?_⟩) | ((with_reducible refine gate_callee (f := 29) rfl ?_); refine gs_ (some 9) Try.func29 #[.slice A0 l0.length c0] ?_; (with_reducible refine (spec_DrawShadowed.calls k _ _ l0 t908 t909 t910 t911 _ ?side1 ?side2 A4.out).mono ?_); (case side1 => exact cs_ HR0.out); (case side2 => exact HC0.out); rintro e w25 ⟨v912, rfl, ho0, hb⟩; refine ⟨_, rfl, ?_⟩; have HO913 := Aside0.mk (Kd.N_lower (Kd.N_mono (ok' := fun k_ => True) ho0 (fun k_ hk_ => trivial)) (below_size bl_)); replace HB := Aside0.mk (below_step bl_ hb); (try clear hb); (try clear ho0)) | ((with_reducible refine gate_dst (N := 3) rfl ?_); refine bx_ 3 36 #[.int .i64 0, .int .i64 0, .int .i64 0, .slice none 0 0] ?_; intro gb914 hg w26 hbox hb; replace HO913 := Aside0.mk (Kd.N_below (Kd.N_elderB (na_ HO913.out) gb914 (Nat.le_of_eq hg.symm)) hb); have BK914 := Aside0.mk (hbox); have GW914 := Aside0.mk ((hz_ : w.heap.size ≤ gb914)); have GE914 := GW914; replace HB := Aside0.mk (below_step bl_ hb); clear hb hbox hg; obtain ⟨hcz27_0, hcz27_1, hcz27_2, hcz27_3, hfz27_0, hfz27_1, hfz27_2, hfz27_3⟩ := cf4_ BK914.out; obtain ⟨Ao28, co28, eo28⟩ := Kd.N_slice HO913.out; subst eo28) | ((with_reducible refine gate_callee (f := 30) rfl ?_); refine gs_ (some 12) Try.func30 #[.slice A0 l0.length c0] ?_; (with_reducible refine (spec_DrawOnlyFor.calls k _ _ l0 t915 t916 t917 t918 t921 _ ?side1 ?side2 A5.out).mono ?_); (case side1 => exact Kd.C_below HR0.out bl_); (case side2 => exact HC0.out); rintro e w29 ⟨v919, rfl, ho0, hb⟩; refine ⟨_, rfl, ?_⟩; have HO920 := Aside0.mk (Kd.N_lower (Kd.N_mono (ok' := fun k_ => some k_ ≠ (.slice Ao28 t911.length co28 : Value).ownBlock ∧ k_ ≠ gb914) ho0 (fun k_ hk_ => ⟨(Kd.fresh' (Kd.N_lt (by (with_reducible repeat (first | apply Kd.N_alloc | apply Kd.N_drewN | apply Kd.N_drew)); exact (Kd.N_mono (Kd.N_far (p := ⟨gb914, 3, none⟩) (Kd.N_far (p := ⟨gb914, 2, none⟩) (Kd.N_far (p := ⟨gb914, 1, none⟩) (Kd.N_far (p := ⟨gb914, 0, none⟩) (Kd.N_mono HO913.out (fun k_ hk => (⟨hk, hk.2⟩ : _ ∧ k_ ≠ gb914))) (fun _ hk => hk.2) (.int .i64 t908)) (fun _ hk => hk.2) (.int .i64 t909)) (fun _ hk => hk.2) (.int .i64 t910)) (fun _ hk => hk.2) (.slice Ao28 t911.length co28)) (fun _ h_ => h_.1)))) k_ hk_), (Kd.freshB (g := gb914) (o := .cells #[.int .i64 t908, .int .i64 t909, .int .i64 t910, .slice Ao28 t911.length co28] 36 (0, 0)) (bp0_ BK914.out) k_ hk_)⟩)) (below_size bl_)); replace HO913 := Aside0.mk (Kd.N_elder' (by (with_reducible repeat (first | apply Kd.N_alloc | apply Kd.N_drewN | apply Kd.N_drew)); exact (Kd.N_mono (Kd.N_far (p := ⟨gb914, 3, none⟩) (Kd.N_far (p := ⟨gb914, 2, none⟩) (Kd.N_far (p := ⟨gb914, 1, none⟩) (Kd.N_far (p := ⟨gb914, 0, none⟩) (Kd.N_mono HO913.out (fun k_ hk => (⟨hk, hk.2⟩ : _ ∧ k_ ≠ gb914))) (fun _ hk => hk.2) (.int .i64 t908)) (fun _ hk => hk.2) (.int .i64 t909)) (fun _ hk => hk.2) (.int .i64 t910)) (fun _ hk => hk.2) (.slice Ao28 t911.length co28)) (fun _ h_ => h_.1))) (Kd.N_base ho0) hb); replace BK914 := Aside0.mk (blk_below (g := gb914) (o := .cells #[.int .i64 t908, .int .i64 t909, .int .i64 t910, .slice Ao28 t911.length co28] 36 (0, 0)) (bp0_ BK914.out) hb); replace HB := Aside0.mk (below_step bl_ hb); (try clear hb); (try clear ho0)) | ((with_reducible refine gate_dst (N := 4) rfl ?_); refine bx_ 4 36 #[.int .i64 0, .int .i64 0, .int .i64 0, .slice none 0 0] ?_; intro gb922 hg w30 hbox hb; replace HO913 := Aside0.mk (Kd.N_below (Kd.N_elderB (na_ HO913.out) gb922 (Nat.le_of_eq hg.symm)) hb); replace HO920 := Aside0.mk (Kd.N_below (Kd.N_elderB (na_ HO920.out) gb922 (Nat.le_of_eq hg.symm)) hb); have BK922 := Aside0.mk (hbox); have GW922 := Aside0.mk ((hz_ : w.heap.size ≤ gb922)); have GE922 := GW922; replace HB := Aside0.mk (below_step bl_ hb); have NB914_922 := Aside0.mk (nl_ BK914.out hg); have NB922_914 := Aside0.mk (ng_ BK914.out hg); replace BK914 := bb0_ BK914.out hb; clear hb hbox hg; have hnb31 := NB922_914.out; have hnc31 := NB914_922.out; obtain ⟨hcz32_0, hcz32_1, hcz32_2, hcz32_3, hfz32_0, hfz32_1, hfz32_2, hfz32_3⟩ := cf4_ BK922.out; obtain ⟨Ao33, co33, eo33⟩ := Kd.N_slice HO920.out; subst eo33))
 have n0_ : Aside0 (Kd.N k53 53 ((((w30.setCell ⟨gb922, 0, none⟩ (.int .i64 t915)).setCell ⟨gb922, 1, none⟩ (.int .i64 t916)).setCell ⟨gb922, 2, none⟩ (.int .i64 t917)).setCell ⟨gb922, 3, none⟩ (.slice Ao33 t918.length co33)) w.heap.size (fun k_ => some k_ ≠ (.slice Ao33 t918.length co33 : Value).ownBlock ∧ k_ ≠ gb914 ∧ k_ ≠ gb922) (.slice Ao28 t911.length co28) t911) := ⟨by (with_reducible repeat (first | apply Kd.N_alloc | apply Kd.N_drewN | apply Kd.N_drew)); exact Kd.N_mono (Kd.N_far (p := ⟨gb922, 3, none⟩) (Kd.N_far (p := ⟨gb922, 2, none⟩) (Kd.N_far (p := ⟨gb922, 1, none⟩) (Kd.N_far (p := ⟨gb922, 0, none⟩) (Kd.N_mono HO913.out (fun k_ hk => (⟨hk, hk.2⟩ : _ ∧ k_ ≠ gb922))) (fun _ hk => hk.2) (.int .i64 t915)) (fun _ hk => hk.2) (.int .i64 t916)) (fun _ hk => hk.2) (.int .i64 t917)) (fun _ hk => hk.2) (.slice Ao33 t918.length co33)) (fun _ hk => ⟨hk.1.1.2, ⟨hk.1.1.1.2, hk.1.2⟩⟩)⟩
 have n1_ : Aside0 (Kd.N k53 53 ((((w30.setCell ⟨gb922, 0, none⟩ (.int .i64 t915)).setCell ⟨gb922, 1, none⟩ (.int .i64 t916)).setCell ⟨gb922, 2, none⟩ (.int .i64 t917)).setCell ⟨gb922, 3, none⟩ (.slice Ao33 t918.length co33)) w.heap.size (fun k_ => some k_ ≠ (.slice Ao28 t911.length co28 : Value).ownBlock ∧ k_ ≠ gb914 ∧ k_ ≠ gb922) (.slice Ao33 t918.length co33) t918) := ⟨by (with_reducible repeat (first | apply Kd.N_alloc | apply Kd.N_drewN | apply Kd.N_drew)); exact Kd.N_mono (Kd.N_far (p := ⟨gb922, 3, none⟩) (Kd.N_far (p := ⟨gb922, 2, none⟩) (Kd.N_far (p := ⟨gb922, 1, none⟩) (Kd.N_far (p := ⟨gb922, 0, none⟩) (Kd.N_mono HO920.out (fun k_ hk => (⟨hk, hk.2⟩ : _ ∧ k_ ≠ gb922))) (fun _ hk => hk.2) (.int .i64 t915)) (fun _ hk => hk.2) (.int .i64 t916)) (fun _ hk => hk.2) (.int .i64 t917)) (fun _ hk => hk.2) (.slice Ao33 t918.length co33)) (fun _ hk => ⟨hk.1.1.1, ⟨hk.1.1.2, hk.1.2⟩⟩)⟩
 have n2_ : Aside0 (((((w30.setCell ⟨gb922, 0, none⟩ (.int .i64 t915)).setCell ⟨gb922, 1, none⟩ (.int .i64 t916)).setCell ⟨gb922, 2, none⟩ (.int .i64 t917)).setCell ⟨gb922, 3, none⟩ (.slice Ao33 t918.length co33)).heap[gb914]? = some (.cells #[.int .i64 t908, .int .i64 t909, .int .i64 t910, .slice Ao28 t911.length co28] 36 (0, 0))) := ⟨bp1_ BK914.out NB914_922.out⟩
 have n3_ : Aside0 (((((w30.setCell ⟨gb922, 0, none⟩ (.int .i64 t915)).setCell ⟨gb922, 1, none⟩ (.int .i64 t916)).setCell ⟨gb922, 2, none⟩ (.int .i64 t917)).setCell ⟨gb922, 3, none⟩ (.slice Ao33 t918.length co33)).heap[gb922]? = some (.cells #[.int .i64 t915, .int .i64 t916, .int .i64 t917, .slice Ao33 t918.length co33] 36 (0, 0))) := ⟨bp0_ BK922.out⟩
 have n4_ : Aside0 (Below w.heap.size w ((((w30.setCell ⟨gb922, 0, none⟩ (.int .i64 t915)).setCell ⟨gb922, 1, none⟩ (.int .i64 t916)).setCell ⟨gb922, 2, none⟩ (.int .i64 t917)).setCell ⟨gb922, 3, none⟩ (.slice Ao33 t918.length co33))) := ⟨bl_⟩
 (try clear HO913)
 (try clear HO920)
 (try clear BK914)
 (try clear BK922)
 (try clear HB)
 generalize ((((w30.setCell ⟨gb922, 0, none⟩ (.int .i64 t915)).setCell ⟨gb922, 1, none⟩ (.int .i64 t916)).setCell ⟨gb922, 2, none⟩ (.int .i64 t917)).setCell ⟨gb922, 3, none⟩ (.slice Ao33 t918.length co33)) = w34 at n0_ n1_ n2_ n3_ n4_ ⊢
 have HO913 := n0_
 have HO920 := n1_
 have BK914 := n2_
 have BK922 := n3_
 have HB := n4_
 clear n0_ n1_ n2_ n3_ n4_
 have n0_ := Aside0.mk (Kd.N_drew HO913.out)
 have n1_ := Aside0.mk (Kd.N_drew HO920.out)
 have n2_ := Aside0.mk (blk_drew BK914.out)
 have n3_ := Aside0.mk (blk_drew BK922.out)
 have n4_ := Aside0.mk (below_drew1 HB.out)
 clear HO913
 clear HO920
 clear BK914
 clear BK922
 clear HB
 have HO913 := n0_
 have HO920 := n1_
 have BK914 := n2_
 have BK922 := n3_
 have HB := n4_
 clear n0_ n1_ n2_ n3_ n4_
 refine start_ (n := 36) (S := fun w' => w'.cell? ⟨gb914, 0, none⟩ = some (.int .i64 t908) ∧ w'.cell? ⟨gb914, 1, none⟩ = some (.int .i64 t909) ∧ w'.cell? ⟨gb914, 2, none⟩ = some (.int .i64 t910) ∧ w'.cell? ⟨gb914, 3, none⟩ = some (.slice Ao28 t911.length co28) ∧ w'.cell? ⟨gb922, 0, none⟩ = some (.int .i64 t915) ∧ w'.cell? ⟨gb922, 1, none⟩ = some (.int .i64 t916) ∧ w'.cell? ⟨gb922, 2, none⟩ = some (.int .i64 t917) ∧ w'.cell? ⟨gb922, 3, none⟩ = some (.slice Ao33 t918.length co33)) (ds := []) #[false, false, false, false, false, false, false, false, false, false, false, false, false, false, false, false, false, false, false, false, false, false, false, false, false, false, false, false, false, false, false, false, false, false, false, false] (by kernel_rfl) rfl rfl ⟨(blk_cell BK914.out 0).trans rfl, (blk_cell BK914.out 1).trans rfl, (blk_cell BK914.out 2).trans rfl, (blk_cell BK914.out 3).trans rfl, (blk_cell BK922.out 0).trans rfl, (blk_cell BK922.out 1).trans rfl, (blk_cell BK922.out 2).trans rfl, (blk_cell BK922.out 3).trans rfl⟩ (fun hHeld => ?_); refine with_tabW laws_FnLessTold.tab5 laws_FnLessTold.bits5 (fun HT_ HW_ => ?_)
 generalize w34.drew = w35 at HO913 HO920 BK914 BK922 HB hHeld ⊢
 refine ta_ 0 15 HT_ HW_ hHeld ?_ (r := by rintro w' ⟨s0, s1, s2, s3, s4, s5, s6, s7⟩; go_simp; with_reducible rfl)
 refine ta_ 2 17 HT_ HW_ hHeld ?_ (r := by rintro w' ⟨s0, s1, s2, s3, s4, s5, s6, s7⟩; go_simp; with_reducible rfl)
 refine on_ 1 16 HT_ (fun K hK => ?_)
 refine goes_ Try.func31 (by kernel_rfl) rfl #[.agg #[.int .i64 t908, .int .i64 t909, .int .i64 t910, .slice Ao28 t911.length co28]] (by rfl) rfl rfl lm_ ?_
 with_reducible refine (impl_Shadowed.calls k t908 t909 t910 _ _ t911 t923 _ ?side1 ?side2 A6.out).mono ?_
 (case side1 => exact cs_ ((Kd.N_reads' HO913.out).2.2))
 (case side2 => exact (Kd.N_reads' HO913.out).2.1)
 rintro e w36 ⟨v924, rfl, ho0, hb⟩
 refine ⟨_, rfl, ?_⟩
 have n0_ := Aside0.mk (Kd.N_elder' (na_ HO913.out) (Kd.R_base ho0) hb)
 have n1_ := Aside0.mk (Kd.N_elder' (na_ HO920.out) (Kd.R_base ho0) hb)
 have n2_ := Aside0.mk (Kd.R_lower ho0 (below_size bl_))
 have n3_ := bb0_ BK914.out hb
 have n4_ := bb0_ BK922.out hb
 have n5_ := Aside0.mk (below_step bl_ hb)
 clear HO913
 clear HO920
 clear BK914
 clear BK922
 clear HB
 have HO913 := n0_
 have HO920 := n1_
 have HO925 := n2_
 have BK914 := n3_
 have BK922 := n4_
 have HB := n5_
 clear n0_ n1_ n2_ n3_ n4_ n5_
 (try clear hb)
 (try clear hb2)
 (try clear hk)
 (try clear hi)
 (try clear ho0)
 refine hK.out _ _ ⟨(blk_cell BK914.out 0).trans rfl, (blk_cell BK914.out 1).trans rfl, (blk_cell BK914.out 2).trans rfl, (blk_cell BK914.out 3).trans rfl, (blk_cell BK922.out 0).trans rfl, (blk_cell BK922.out 1).trans rfl, (blk_cell BK922.out 2).trans rfl, (blk_cell BK922.out 3).trans rfl⟩ (fun hHeld => ?_)
 clear hK K
 refine norm_ (a' := ?_) ?_ ?_
 rotate_left
 ·show Act.put _ (some 16) _ = _
  simp only [Act.put, List.setIfInBounds_toArray, List.set_cons_zero, List.set_cons_succ, i64_w, i32_w]
  rfl
 refine on_ 3 18 HT_ (fun K hK => ?_)
 refine goes_ Try.func32 (by kernel_rfl) rfl #[.agg #[.int .i64 t908, .int .i64 t909, .int .i64 t910, .slice Ao28 t911.length co28]] (by rfl) rfl rfl lm_ ?_
 with_reducible refine (spec_Shadowed.calls k t908 t909 t910 _ _ t911 t926 _ ?side1 ?side2 A7.out).mono ?_
 (case side1 => exact cs_ ((Kd.N_reads' HO913.out).2.2))
 (case side2 => exact (Kd.N_reads' HO913.out).2.1)
 rintro e w37 ⟨v927, rfl, ho0, hb⟩
 refine ⟨_, rfl, ?_⟩
 have n0_ := Aside0.mk (Kd.N_elder' (na_ HO913.out) (Kd.R_base ho0) hb)
 have n1_ := Aside0.mk (Kd.N_elder' (na_ HO920.out) (Kd.R_base ho0) hb)
 have n2_ := Aside0.mk (Kd.R_elder' (ra_ HO925.out) (Kd.R_base ho0) hb)
 have n3_ := Aside0.mk (Kd.R_lower (Kd.R_new' ho0 (Kd.R_lt (ra_ HO925.out))) (below_size bl_))
 have n4_ := bb0_ BK914.out hb
 have n5_ := bb0_ BK922.out hb
 have n6_ := Aside0.mk (below_step bl_ hb)
 clear HO913
 clear HO920
 clear HO925
 clear BK914
 clear BK922
 clear HB
 have HO913 := n0_
 have HO920 := n1_
 have HO925 := n2_
 have HO928 := n3_
 have BK914 := n4_
 have BK922 := n5_
 have HB := n6_
 clear n0_ n1_ n2_ n3_ n4_ n5_ n6_
 (try clear hb)
 (try clear hb2)
 (try clear hk)
 (try clear hi)
 (try clear ho0)
 obtain ⟨Ao38, co38, eo38⟩ := Kd.R_slice HO925.out
 (first | subst eo38 | (injection eo38 with f1_ f2_ f3_; have f4_ := f1_.symm; have f5_ := f3_.symm; clear f1_ f2_ f3_; subst f4_; subst f5_))
 obtain ⟨Ao39, co39, eo39⟩ := Kd.R_slice HO928.out
 (first | subst eo39 | (injection eo39 with f1_ f2_ f3_; have f4_ := f1_.symm; have f5_ := f3_.symm; clear f1_ f2_ f3_; subst f4_; subst f5_))
 refine hK.out _ _ ⟨(blk_cell BK914.out 0).trans rfl, (blk_cell BK914.out 1).trans rfl, (blk_cell BK914.out 2).trans rfl, (blk_cell BK914.out 3).trans rfl, (blk_cell BK922.out 0).trans rfl, (blk_cell BK922.out 1).trans rfl, (blk_cell BK922.out 2).trans rfl, (blk_cell BK922.out 3).trans rfl⟩ (fun hHeld => ?_)
 clear hK K
 refine norm_ (a' := ?_) ?_ ?_
 rotate_left
 ·show Act.put _ (some 18) _ = _
  simp only [Act.put, List.setIfInBounds_toArray, List.set_cons_zero, List.set_cons_succ, i64_w, i32_w]
  rfl
 refine on_ 4 19 HT_ (fun K hK => ?_)
 refine goes_ Try.func28 (by kernel_rfl) rfl #[.slice Ao38 t923.length co38, .slice Ao39 t926.length co39] (by rfl) rfl rfl lm_ ?_
 with_reducible refine (laws_sameInts.calls k _ _ t923 _ _ t926 true _ ?side1 ?side2 ?side3 ?side4 A8.out).mono ?_
 (case side1 => exact cs_ ((Kd.R_reads' HO925.out).2.2))
 (case side2 => exact (Kd.R_reads' HO925.out).2.1)
 (case side3 => exact cs_ ((Kd.R_reads' HO928.out).2.2))
 (case side4 => exact (Kd.R_reads' HO928.out).2.1)
 rintro e w' ⟨rfl, ⟨nd, rfl⟩⟩
 refine ⟨_, rfl, ?_⟩
 refine hK.out _ _ ⟨(blk_cell BK914.out 0).trans rfl, (blk_cell BK914.out 1).trans rfl, (blk_cell BK914.out 2).trans rfl, (blk_cell BK914.out 3).trans rfl, (blk_cell BK922.out 0).trans rfl, (blk_cell BK922.out 1).trans rfl, (blk_cell BK922.out 2).trans rfl, (blk_cell BK922.out 3).trans rfl⟩ (fun hHeld => ?_)
 clear hK K
 refine norm_ (a' := ?_) ?_ ?_
 rotate_left
 ·show Act.put _ (some 19) _ = _
  simp only [Act.put, List.setIfInBounds_toArray, List.set_cons_zero, List.set_cons_succ, i64_w, i32_w]
  rfl
 refine pu_ 5 20 HT_ ?_
 refine ta_ 6 21 HT_ HW_ hHeld ?_ (r := by rintro w' ⟨s0, s1, s2, s3, s4, s5, s6, s7⟩; go_simp; with_reducible rfl)
 refine ta_ 8 23 HT_ HW_ hHeld ?_ (r := by rintro w' ⟨s0, s1, s2, s3, s4, s5, s6, s7⟩; go_simp; with_reducible rfl)
 refine on_ 7 22 HT_ (fun K hK => ?_)
 refine goes_ Try.func34 (by kernel_rfl) rfl #[.agg #[.int .i64 t908, .int .i64 t909, .int .i64 t910, .slice Ao28 t911.length co28]] (by rfl) rfl rfl lm_ ?_
 with_reducible refine (impl_Unshadowed.calls k t908 t909 t910 _ _ t911 t930 t931 t932 t933 _ ?side1 ?side2 A10.out).mono ?_
 (case side1 => exact cs_ ((Kd.N_reads' HO913.out).2.2))
 (case side2 => exact (Kd.N_reads' HO913.out).2.1)
 rintro e w40 ⟨v934, rfl, ho0, hb⟩
 refine ⟨_, rfl, ?_⟩
 have n0_ := Aside0.mk (Kd.N_elder' (na_ HO913.out) (Kd.N_base ho0) hb)
 have n1_ := Aside0.mk (Kd.N_elder' (na_ HO920.out) (Kd.N_base ho0) hb)
 have n2_ := Aside0.mk (Kd.R_below (ra_ HO925.out) hb)
 have n3_ := Aside0.mk (Kd.R_below (ra_ HO928.out) hb)
 have n4_ := Aside0.mk (Kd.N_lower (Kd.N_mono (ok' := fun k_ => some k_ ≠ (.slice Ao28 t911.length co28 : Value).ownBlock ∧ some k_ ≠ (.slice Ao33 t918.length co33 : Value).ownBlock ∧ some k_ ≠ (.slice Ao38 t923.length co38 : Value).ownBlock ∧ some k_ ≠ (.slice Ao39 t926.length co39 : Value).ownBlock ∧ k_ ≠ gb914 ∧ k_ ≠ gb922) ho0 (fun k_ hk_ => ⟨(Kd.fresh' (Kd.N_lt (na_ HO913.out)) k_ hk_), (Kd.fresh' (Kd.N_lt (na_ HO920.out)) k_ hk_), (Kd.fresh' (Kd.R_lt (ra_ HO925.out)) k_ hk_), (Kd.fresh' (Kd.R_lt (ra_ HO928.out)) k_ hk_), (fb_ BK914.out k_ hk_), (fb_ BK922.out k_ hk_)⟩)) (below_size bl_))
 have n5_ := bb0_ BK914.out hb
 have n6_ := bb0_ BK922.out hb
 have n7_ := Aside0.mk (below_step bl_ hb)
 clear HO913
 clear HO920
 clear HO925
 clear HO928
 clear BK914
 clear BK922
 clear HB
 have HO913 := n0_
 have HO920 := n1_
 have HO925 := n2_
 have HO928 := n3_
 have HO935 := n4_
 have BK914 := n5_
 have BK922 := n6_
 have HB := n7_
 clear n0_ n1_ n2_ n3_ n4_ n5_ n6_ n7_
 (try clear hb)
 (try clear hb2)
 (try clear hk)
 (try clear hi)
 (try clear ho0)
 refine hK.out _ _ ⟨(blk_cell BK914.out 0).trans rfl, (blk_cell BK914.out 1).trans rfl, (blk_cell BK914.out 2).trans rfl, (blk_cell BK914.out 3).trans rfl, (blk_cell BK922.out 0).trans rfl, (blk_cell BK922.out 1).trans rfl, (blk_cell BK922.out 2).trans rfl, (blk_cell BK922.out 3).trans rfl⟩ (fun hHeld => ?_)
 clear hK K
 refine norm_ (a' := ?_) ?_ ?_
 rotate_left
 ·show Act.put _ (some 22) _ = _
  simp only [Act.put, List.setIfInBounds_toArray, List.set_cons_zero, List.set_cons_succ, i64_w, i32_w]
  rfl
 refine on_ 9 24 HT_ (fun K hK => ?_)
 refine goes_ Try.func35 (by kernel_rfl) rfl #[.agg #[.int .i64 t908, .int .i64 t909, .int .i64 t910, .slice Ao28 t911.length co28]] (by rfl) rfl rfl lm_ ?_
 with_reducible refine (spec_Unshadowed.calls k t908 t909 t910 _ _ t911 t936 t937 t938 t939 _ ?side1 ?side2 A11.out).mono ?_
 (case side1 => exact cs_ ((Kd.N_reads' HO913.out).2.2))
 (case side2 => exact (Kd.N_reads' HO913.out).2.1)
 rintro e w41 ⟨v940, rfl, ho0, hb⟩
 refine ⟨_, rfl, ?_⟩
 have n0_ := Aside0.mk (Kd.N_elder' (na_ HO913.out) (Kd.N_base ho0) hb)
 have n1_ := Aside0.mk (Kd.N_elder' (na_ HO920.out) (Kd.N_base ho0) hb)
 have n2_ := Aside0.mk (Kd.R_below (ra_ HO925.out) hb)
 have n3_ := Aside0.mk (Kd.R_below (ra_ HO928.out) hb)
 have n4_ := Aside0.mk (Kd.N_elder' (na_ HO935.out) (Kd.N_base ho0) hb)
 have n5_ := Aside0.mk (Kd.N_lower (Kd.N_mono (ok' := fun k_ => some k_ ≠ (.slice Ao28 t911.length co28 : Value).ownBlock ∧ some k_ ≠ (.slice Ao33 t918.length co33 : Value).ownBlock ∧ some k_ ≠ (.slice Ao38 t923.length co38 : Value).ownBlock ∧ some k_ ≠ (.slice Ao39 t926.length co39 : Value).ownBlock ∧ some k_ ≠ (v934 : Value).ownBlock ∧ k_ ≠ gb914 ∧ k_ ≠ gb922) ho0 (fun k_ hk_ => ⟨(Kd.fresh' (Kd.N_lt (na_ HO913.out)) k_ hk_), (Kd.fresh' (Kd.N_lt (na_ HO920.out)) k_ hk_), (Kd.fresh' (Kd.R_lt (ra_ HO925.out)) k_ hk_), (Kd.fresh' (Kd.R_lt (ra_ HO928.out)) k_ hk_), (Kd.fresh' (Kd.N_lt (na_ HO935.out)) k_ hk_), (fb_ BK914.out k_ hk_), (fb_ BK922.out k_ hk_)⟩)) (below_size bl_))
 have n6_ := bb0_ BK914.out hb
 have n7_ := bb0_ BK922.out hb
 have n8_ := Aside0.mk (below_step bl_ hb)
 clear HO913
 clear HO920
 clear HO925
 clear HO928
 clear HO935
 clear BK914
 clear BK922
 clear HB
 have HO913 := n0_
 have HO920 := n1_
 have HO925 := n2_
 have HO928 := n3_
 have HO935 := n4_
 have HO941 := n5_
 have BK914 := n6_
 have BK922 := n7_
 have HB := n8_
 clear n0_ n1_ n2_ n3_ n4_ n5_ n6_ n7_ n8_
 (try clear hb)
 (try clear hb2)
 (try clear hk)
 (try clear hi)
 (try clear ho0)
 obtain ⟨Ao42, co42, eo42⟩ := Kd.N_slice HO935.out
 (first | subst eo42 | (injection eo42 with f1_ f2_ f3_; have f4_ := f1_.symm; have f5_ := f3_.symm; clear f1_ f2_ f3_; subst f4_; subst f5_))
 obtain ⟨Ao43, co43, eo43⟩ := Kd.N_slice HO941.out
 (first | subst eo43 | (injection eo43 with f1_ f2_ f3_; have f4_ := f1_.symm; have f5_ := f3_.symm; clear f1_ f2_ f3_; subst f4_; subst f5_))
 refine hK.out _ _ ⟨(blk_cell BK914.out 0).trans rfl, (blk_cell BK914.out 1).trans rfl, (blk_cell BK914.out 2).trans rfl, (blk_cell BK914.out 3).trans rfl, (blk_cell BK922.out 0).trans rfl, (blk_cell BK922.out 1).trans rfl, (blk_cell BK922.out 2).trans rfl, (blk_cell BK922.out 3).trans rfl⟩ (fun hHeld => ?_)
 clear hK K
 refine norm_ (a' := ?_) ?_ ?_
 rotate_left
 ·show Act.put _ (some 24) _ = _
  simp only [Act.put, List.setIfInBounds_toArray, List.set_cons_zero, List.set_cons_succ, i64_w, i32_w]
  rfl
 refine on_ 10 25 HT_ (fun K hK => ?_)
 refine goes_ Try.func33 (by kernel_rfl) rfl #[.agg #[.int .i64 t930, .int .i64 t931, .int .i64 t932, .slice Ao42 t933.length co42], .agg #[.int .i64 t936, .int .i64 t937, .int .i64 t938, .slice Ao43 t939.length co43]] (by rfl) rfl rfl lm_ ?_
 with_reducible refine (spec_SamePolicy.calls k t930 t931 t932 _ _ t933 t936 t937 t938 _ _ t939 true _ ?side1 ?side2 ?side3 ?side4 A12.out).mono ?_
 (case side1 => exact cs_ ((Kd.N_reads' HO935.out).2.2))
 (case side2 => exact (Kd.N_reads' HO935.out).2.1)
 (case side3 => exact cs_ ((Kd.N_reads' HO941.out).2.2))
 (case side4 => exact (Kd.N_reads' HO941.out).2.1)
 rintro e w44 ⟨rfl, hb⟩
 refine ⟨_, rfl, ?_⟩
 have n0_ := Aside0.mk (Kd.N_below (na_ HO913.out) hb)
 have n1_ := Aside0.mk (Kd.N_below (na_ HO920.out) hb)
 have n2_ := Aside0.mk (Kd.R_below (ra_ HO925.out) hb)
 have n3_ := Aside0.mk (Kd.R_below (ra_ HO928.out) hb)
 have n4_ := Aside0.mk (Kd.N_below (na_ HO935.out) hb)
 have n5_ := Aside0.mk (Kd.N_below (na_ HO941.out) hb)
 have n6_ := bb0_ BK914.out hb
 have n7_ := bb0_ BK922.out hb
 have n8_ := Aside0.mk (below_step bl_ hb)
 clear HO913
 clear HO920
 clear HO925
 clear HO928
 clear HO935
 clear HO941
 clear BK914
 clear BK922
 clear HB
 have HO913 := n0_
 have HO920 := n1_
 have HO925 := n2_
 have HO928 := n3_
 have HO935 := n4_
 have HO941 := n5_
 have BK914 := n6_
 have BK922 := n7_
 have HB := n8_
 clear n0_ n1_ n2_ n3_ n4_ n5_ n6_ n7_ n8_
 (try clear hb)
 (try clear hb2)
 (try clear hk)
 (try clear hi)
 refine hK.out _ _ ⟨(blk_cell BK914.out 0).trans rfl, (blk_cell BK914.out 1).trans rfl, (blk_cell BK914.out 2).trans rfl, (blk_cell BK914.out 3).trans rfl, (blk_cell BK922.out 0).trans rfl, (blk_cell BK922.out 1).trans rfl, (blk_cell BK922.out 2).trans rfl, (blk_cell BK922.out 3).trans rfl⟩ (fun hHeld => ?_)
 clear hK K
 refine norm_ (a' := ?_) ?_ ?_
 rotate_left
 ·show Act.put _ (some 25) _ = _
  simp only [Act.put, List.setIfInBounds_toArray, List.set_cons_zero, List.set_cons_succ, i64_w, i32_w]
  rfl
 refine pu_ 11 26 HT_ ?_
 refine pu_ 12 27 HT_ ?_
 refine ta_ 13 28 HT_ HW_ hHeld ?_ (r := by rintro w' ⟨s0, s1, s2, s3, s4, s5, s6, s7⟩; go_simp; with_reducible rfl)
 refine ta_ 15 30 HT_ HW_ hHeld ?_ (r := by rintro w' ⟨s0, s1, s2, s3, s4, s5, s6, s7⟩; go_simp; with_reducible rfl)
 refine on_ 14 29 HT_ (fun K hK => ?_)
 refine goes_ Try.func36 (by kernel_rfl) rfl #[.agg #[.int .i64 t908, .int .i64 t909, .int .i64 t910, .slice Ao28 t911.length co28]] (by rfl) rfl rfl lm_ ?_
 with_reducible refine (impl_Lessened.calls k t908 t909 t910 _ _ t911 t943 t944 t945 t946 _ ?side1 ?side2 A14.out).mono ?_
 (case side1 => exact cs_ ((Kd.N_reads' HO913.out).2.2))
 (case side2 => exact (Kd.N_reads' HO913.out).2.1)
 rintro e w45 ⟨v947, rfl, ho0, hb⟩
 refine ⟨_, rfl, ?_⟩
 have n0_ := Aside0.mk (Kd.N_elder' (na_ HO913.out) (Kd.N_base ho0) hb)
 have n1_ := Aside0.mk (Kd.N_elder' (na_ HO920.out) (Kd.N_base ho0) hb)
 have n2_ := Aside0.mk (Kd.R_below (ra_ HO925.out) hb)
 have n3_ := Aside0.mk (Kd.R_below (ra_ HO928.out) hb)
 have n4_ := Aside0.mk (Kd.N_elder' (na_ HO935.out) (Kd.N_base ho0) hb)
 have n5_ := Aside0.mk (Kd.N_elder' (na_ HO941.out) (Kd.N_base ho0) hb)
 have n6_ := Aside0.mk (Kd.N_lower (Kd.N_mono (ok' := fun k_ => some k_ ≠ (.slice Ao28 t911.length co28 : Value).ownBlock ∧ some k_ ≠ (.slice Ao33 t918.length co33 : Value).ownBlock ∧ some k_ ≠ (.slice Ao38 t923.length co38 : Value).ownBlock ∧ some k_ ≠ (.slice Ao39 t926.length co39 : Value).ownBlock ∧ some k_ ≠ (.slice Ao42 t933.length co42 : Value).ownBlock ∧ some k_ ≠ (.slice Ao43 t939.length co43 : Value).ownBlock ∧ k_ ≠ gb914 ∧ k_ ≠ gb922) ho0 (fun k_ hk_ => ⟨(Kd.fresh' (Kd.N_lt (na_ HO913.out)) k_ hk_), (Kd.fresh' (Kd.N_lt (na_ HO920.out)) k_ hk_), (Kd.fresh' (Kd.R_lt (ra_ HO925.out)) k_ hk_), (Kd.fresh' (Kd.R_lt (ra_ HO928.out)) k_ hk_), (Kd.fresh' (Kd.N_lt (na_ HO935.out)) k_ hk_), (Kd.fresh' (Kd.N_lt (na_ HO941.out)) k_ hk_), (fb_ BK914.out k_ hk_), (fb_ BK922.out k_ hk_)⟩)) (below_size bl_))
 have n7_ := bb0_ BK914.out hb
 have n8_ := bb0_ BK922.out hb
 have n9_ := Aside0.mk (below_step bl_ hb)
 clear HO913
 clear HO920
 clear HO925
 clear HO928
 clear HO935
 clear HO941
 clear BK914
 clear BK922
 clear HB
 have HO913 := n0_
 have HO920 := n1_
 have HO925 := n2_
 have HO928 := n3_
 have HO935 := n4_
 have HO941 := n5_
 have HO948 := n6_
 have BK914 := n7_
 have BK922 := n8_
 have HB := n9_
 clear n0_ n1_ n2_ n3_ n4_ n5_ n6_ n7_ n8_ n9_
 (try clear hb)
 (try clear hb2)
 (try clear hk)
 (try clear hi)
 (try clear ho0)
 refine hK.out _ _ ⟨(blk_cell BK914.out 0).trans rfl, (blk_cell BK914.out 1).trans rfl, (blk_cell BK914.out 2).trans rfl, (blk_cell BK914.out 3).trans rfl, (blk_cell BK922.out 0).trans rfl, (blk_cell BK922.out 1).trans rfl, (blk_cell BK922.out 2).trans rfl, (blk_cell BK922.out 3).trans rfl⟩ (fun hHeld => ?_)
 clear hK K
 refine norm_ (a' := ?_) ?_ ?_
 rotate_left
 ·show Act.put _ (some 29) _ = _
  simp only [Act.put, List.setIfInBounds_toArray, List.set_cons_zero, List.set_cons_succ, i64_w, i32_w]
  rfl
 refine on_ 16 31 HT_ (fun K hK => ?_)
 refine goes_ Try.func37 (by kernel_rfl) rfl #[.agg #[.int .i64 t908, .int .i64 t909, .int .i64 t910, .slice Ao28 t911.length co28]] (by rfl) rfl rfl lm_ ?_
 with_reducible refine (spec_Lessened.calls k t908 t909 t910 _ _ t911 t949 t950 t951 t952 _ ?side1 ?side2 A15.out).mono ?_
 (case side1 => exact cs_ ((Kd.N_reads' HO913.out).2.2))
 (case side2 => exact (Kd.N_reads' HO913.out).2.1)
 rintro e w46 ⟨v953, rfl, ho0, hb⟩
 refine ⟨_, rfl, ?_⟩
 have n0_ := Aside0.mk (Kd.N_elder' (na_ HO913.out) (Kd.N_base ho0) hb)
 have n1_ := Aside0.mk (Kd.N_elder' (na_ HO920.out) (Kd.N_base ho0) hb)
 have n2_ := Aside0.mk (Kd.R_below (ra_ HO925.out) hb)
 have n3_ := Aside0.mk (Kd.R_below (ra_ HO928.out) hb)
 have n4_ := Aside0.mk (Kd.N_elder' (na_ HO935.out) (Kd.N_base ho0) hb)
 have n5_ := Aside0.mk (Kd.N_elder' (na_ HO941.out) (Kd.N_base ho0) hb)
 have n6_ := Aside0.mk (Kd.N_elder' (na_ HO948.out) (Kd.N_base ho0) hb)
 have n7_ := Aside0.mk (Kd.N_lower (Kd.N_mono (ok' := fun k_ => some k_ ≠ (.slice Ao28 t911.length co28 : Value).ownBlock ∧ some k_ ≠ (.slice Ao33 t918.length co33 : Value).ownBlock ∧ some k_ ≠ (.slice Ao38 t923.length co38 : Value).ownBlock ∧ some k_ ≠ (.slice Ao39 t926.length co39 : Value).ownBlock ∧ some k_ ≠ (.slice Ao42 t933.length co42 : Value).ownBlock ∧ some k_ ≠ (.slice Ao43 t939.length co43 : Value).ownBlock ∧ some k_ ≠ (v947 : Value).ownBlock ∧ k_ ≠ gb914 ∧ k_ ≠ gb922) ho0 (fun k_ hk_ => ⟨(Kd.fresh' (Kd.N_lt (na_ HO913.out)) k_ hk_), (Kd.fresh' (Kd.N_lt (na_ HO920.out)) k_ hk_), (Kd.fresh' (Kd.R_lt (ra_ HO925.out)) k_ hk_), (Kd.fresh' (Kd.R_lt (ra_ HO928.out)) k_ hk_), (Kd.fresh' (Kd.N_lt (na_ HO935.out)) k_ hk_), (Kd.fresh' (Kd.N_lt (na_ HO941.out)) k_ hk_), (Kd.fresh' (Kd.N_lt (na_ HO948.out)) k_ hk_), (fb_ BK914.out k_ hk_), (fb_ BK922.out k_ hk_)⟩)) (below_size bl_))
 have n8_ := bb0_ BK914.out hb
 have n9_ := bb0_ BK922.out hb
 have n10_ := Aside0.mk (below_step bl_ hb)
 clear HO913
 clear HO920
 clear HO925
 clear HO928
 clear HO935
 clear HO941
 clear HO948
 clear BK914
 clear BK922
 clear HB
 have HO913 := n0_
 have HO920 := n1_
 have HO925 := n2_
 have HO928 := n3_
 have HO935 := n4_
 have HO941 := n5_
 have HO948 := n6_
 have HO954 := n7_
 have BK914 := n8_
 have BK922 := n9_
 have HB := n10_
 clear n0_ n1_ n2_ n3_ n4_ n5_ n6_ n7_ n8_ n9_ n10_
 (try clear hb)
 (try clear hb2)
 (try clear hk)
 (try clear hi)
 (try clear ho0)
 obtain ⟨Ao47, co47, eo47⟩ := Kd.N_slice HO948.out
 (first | subst eo47 | (injection eo47 with f1_ f2_ f3_; have f4_ := f1_.symm; have f5_ := f3_.symm; clear f1_ f2_ f3_; subst f4_; subst f5_))
 obtain ⟨Ao48, co48, eo48⟩ := Kd.N_slice HO954.out
 (first | subst eo48 | (injection eo48 with f1_ f2_ f3_; have f4_ := f1_.symm; have f5_ := f3_.symm; clear f1_ f2_ f3_; subst f4_; subst f5_))
 refine hK.out _ _ ⟨(blk_cell BK914.out 0).trans rfl, (blk_cell BK914.out 1).trans rfl, (blk_cell BK914.out 2).trans rfl, (blk_cell BK914.out 3).trans rfl, (blk_cell BK922.out 0).trans rfl, (blk_cell BK922.out 1).trans rfl, (blk_cell BK922.out 2).trans rfl, (blk_cell BK922.out 3).trans rfl⟩ (fun hHeld => ?_)
 clear hK K
 refine norm_ (a' := ?_) ?_ ?_
 rotate_left
 ·show Act.put _ (some 31) _ = _
  simp only [Act.put, List.setIfInBounds_toArray, List.set_cons_zero, List.set_cons_succ, i64_w, i32_w]
  rfl
 refine on_ 17 32 HT_ (fun K hK => ?_)
 refine goes_ Try.func33 (by kernel_rfl) rfl #[.agg #[.int .i64 t943, .int .i64 t944, .int .i64 t945, .slice Ao47 t946.length co47], .agg #[.int .i64 t949, .int .i64 t950, .int .i64 t951, .slice Ao48 t952.length co48]] (by rfl) rfl rfl lm_ ?_
 with_reducible refine (spec_SamePolicy.calls k t943 t944 t945 _ _ t946 t949 t950 t951 _ _ t952 true _ ?side1 ?side2 ?side3 ?side4 A16.out).mono ?_
 (case side1 => exact cs_ ((Kd.N_reads' HO948.out).2.2))
 (case side2 => exact (Kd.N_reads' HO948.out).2.1)
 (case side3 => exact cs_ ((Kd.N_reads' HO954.out).2.2))
 (case side4 => exact (Kd.N_reads' HO954.out).2.1)
 rintro e w49 ⟨rfl, hb⟩
 refine ⟨_, rfl, ?_⟩
 have n0_ := Aside0.mk (Kd.N_below (na_ HO913.out) hb)
 have n1_ := Aside0.mk (Kd.N_below (na_ HO920.out) hb)
 have n2_ := Aside0.mk (Kd.R_below (ra_ HO925.out) hb)
 have n3_ := Aside0.mk (Kd.R_below (ra_ HO928.out) hb)
 have n4_ := Aside0.mk (Kd.N_below (na_ HO935.out) hb)
 have n5_ := Aside0.mk (Kd.N_below (na_ HO941.out) hb)
 have n6_ := Aside0.mk (Kd.N_below (na_ HO948.out) hb)
 have n7_ := Aside0.mk (Kd.N_below (na_ HO954.out) hb)
 have n8_ := bb0_ BK914.out hb
 have n9_ := bb0_ BK922.out hb
 have n10_ := Aside0.mk (below_step bl_ hb)
 clear HO913
 clear HO920
 clear HO925
 clear HO928
 clear HO935
 clear HO941
 clear HO948
 clear HO954
 clear BK914
 clear BK922
 clear HB
 have HO913 := n0_
 have HO920 := n1_
 have HO925 := n2_
 have HO928 := n3_
 have HO935 := n4_
 have HO941 := n5_
 have HO948 := n6_
 have HO954 := n7_
 have BK914 := n8_
 have BK922 := n9_
 have HB := n10_
 clear n0_ n1_ n2_ n3_ n4_ n5_ n6_ n7_ n8_ n9_ n10_
 (try clear hb)
 (try clear hb2)
 (try clear hk)
 (try clear hi)
 refine hK.out _ _ ⟨(blk_cell BK914.out 0).trans rfl, (blk_cell BK914.out 1).trans rfl, (blk_cell BK914.out 2).trans rfl, (blk_cell BK914.out 3).trans rfl, (blk_cell BK922.out 0).trans rfl, (blk_cell BK922.out 1).trans rfl, (blk_cell BK922.out 2).trans rfl, (blk_cell BK922.out 3).trans rfl⟩ (fun hHeld => ?_)
 clear hK K
 refine norm_ (a' := ?_) ?_ ?_
 rotate_left
 ·show Act.put _ (some 32) _ = _
  simp only [Act.put, List.setIfInBounds_toArray, List.set_cons_zero, List.set_cons_succ, i64_w, i32_w]
  rfl
 refine pu_ 18 33 HT_ ?_
 refine pu_ 19 34 HT_ ?_
 refine ta_ 20 35 HT_ HW_ hHeld ?_ (r := by rintro w' ⟨s0, s1, s2, s3, s4, s5, s6, s7⟩; go_simp; with_reducible rfl)
 refine ta_ 22 37 HT_ HW_ hHeld ?_ (r := by rintro w' ⟨s0, s1, s2, s3, s4, s5, s6, s7⟩; go_simp; with_reducible rfl)
 refine on_ 21 36 HT_ (fun K hK => ?_)
 refine goes_ Try.func15 (by kernel_rfl) rfl #[.agg #[.int .i64 t908, .int .i64 t909, .int .i64 t910, .slice Ao28 t911.length co28]] (by rfl) rfl rfl lm_ ?_
 with_reducible refine (impl_NumsSaid.calls k t908 t909 t910 _ _ t911 t956 _ ?side1 ?side2 A18.out).mono ?_
 (case side1 => exact cs_ ((Kd.N_reads' HO913.out).2.2))
 (case side2 => exact (Kd.N_reads' HO913.out).2.1)
 rintro e w50 ⟨v957, rfl, ho0, hb⟩
 refine ⟨_, rfl, ?_⟩
 have n0_ := Aside0.mk (Kd.N_elder' (na_ HO913.out) (Kd.R_base ho0) hb)
 have n1_ := Aside0.mk (Kd.N_elder' (na_ HO920.out) (Kd.R_base ho0) hb)
 have n2_ := Aside0.mk (Kd.R_elder' (ra_ HO925.out) (Kd.R_base ho0) hb)
 have n3_ := Aside0.mk (Kd.R_elder' (ra_ HO928.out) (Kd.R_base ho0) hb)
 have n4_ := Aside0.mk (Kd.N_elder' (na_ HO935.out) (Kd.R_base ho0) hb)
 have n5_ := Aside0.mk (Kd.N_elder' (na_ HO941.out) (Kd.R_base ho0) hb)
 have n6_ := Aside0.mk (Kd.N_elder' (na_ HO948.out) (Kd.R_base ho0) hb)
 have n7_ := Aside0.mk (Kd.N_elder' (na_ HO954.out) (Kd.R_base ho0) hb)
 have n8_ := Aside0.mk (Kd.R_lower (Kd.R_new' (Kd.R_new' ho0 (Kd.R_lt (ra_ HO925.out))) (Kd.R_lt (ra_ HO928.out))) (below_size bl_))
 have n9_ := bb0_ BK914.out hb
 have n10_ := bb0_ BK922.out hb
 have n11_ := Aside0.mk (below_step bl_ hb)
 clear HO913
 clear HO920
 clear HO925
 clear HO928
 clear HO935
 clear HO941
 clear HO948
 clear HO954
 clear BK914
 clear BK922
 clear HB
 have HO913 := n0_
 have HO920 := n1_
 have HO925 := n2_
 have HO928 := n3_
 have HO935 := n4_
 have HO941 := n5_
 have HO948 := n6_
 have HO954 := n7_
 have HO958 := n8_
 have BK914 := n9_
 have BK922 := n10_
 have HB := n11_
 clear n0_ n1_ n2_ n3_ n4_ n5_ n6_ n7_ n8_ n9_ n10_ n11_
 (try clear hb)
 (try clear hb2)
 (try clear hk)
 (try clear hi)
 (try clear ho0)
 refine hK.out _ _ ⟨(blk_cell BK914.out 0).trans rfl, (blk_cell BK914.out 1).trans rfl, (blk_cell BK914.out 2).trans rfl, (blk_cell BK914.out 3).trans rfl, (blk_cell BK922.out 0).trans rfl, (blk_cell BK922.out 1).trans rfl, (blk_cell BK922.out 2).trans rfl, (blk_cell BK922.out 3).trans rfl⟩ (fun hHeld => ?_)
 clear hK K
 refine norm_ (a' := ?_) ?_ ?_
 rotate_left
 ·show Act.put _ (some 36) _ = _
  simp only [Act.put, List.setIfInBounds_toArray, List.set_cons_zero, List.set_cons_succ, i64_w, i32_w]
  rfl
 refine on_ 23 38 HT_ (fun K hK => ?_)
 refine goes_ Try.func13 (by kernel_rfl) rfl #[.agg #[.int .i64 t908, .int .i64 t909, .int .i64 t910, .slice Ao28 t911.length co28]] (by rfl) rfl rfl lm_ ?_
 with_reducible refine (spec_NumsSaid.calls k t908 t909 t910 _ _ t911 t959 _ ?side1 ?side2 A19.out).mono ?_
 (case side1 => exact cs_ ((Kd.N_reads' HO913.out).2.2))
 (case side2 => exact (Kd.N_reads' HO913.out).2.1)
 rintro e w51 ⟨v960, rfl, ho0, hb⟩
 refine ⟨_, rfl, ?_⟩
 have n0_ := Aside0.mk (Kd.N_elder' (na_ HO913.out) (Kd.R_base ho0) hb)
 have n1_ := Aside0.mk (Kd.N_elder' (na_ HO920.out) (Kd.R_base ho0) hb)
 have n2_ := Aside0.mk (Kd.R_elder' (ra_ HO925.out) (Kd.R_base ho0) hb)
 have n3_ := Aside0.mk (Kd.R_elder' (ra_ HO928.out) (Kd.R_base ho0) hb)
 have n4_ := Aside0.mk (Kd.N_elder' (na_ HO935.out) (Kd.R_base ho0) hb)
 have n5_ := Aside0.mk (Kd.N_elder' (na_ HO941.out) (Kd.R_base ho0) hb)
 have n6_ := Aside0.mk (Kd.N_elder' (na_ HO948.out) (Kd.R_base ho0) hb)
 have n7_ := Aside0.mk (Kd.N_elder' (na_ HO954.out) (Kd.R_base ho0) hb)
 have n8_ := Aside0.mk (Kd.R_elder' (ra_ HO958.out) (Kd.R_base ho0) hb)
 have n9_ := Aside0.mk (Kd.R_lower (Kd.R_new' (Kd.R_new' (Kd.R_new' ho0 (Kd.R_lt (ra_ HO925.out))) (Kd.R_lt (ra_ HO928.out))) (Kd.R_lt (ra_ HO958.out))) (below_size bl_))
 have n10_ := bb0_ BK914.out hb
 have n11_ := bb0_ BK922.out hb
 have n12_ := Aside0.mk (below_step bl_ hb)
 clear HO913
 clear HO920
 clear HO925
 clear HO928
 clear HO935
 clear HO941
 clear HO948
 clear HO954
 clear HO958
 clear BK914
 clear BK922
 clear HB
 have HO913 := n0_
 have HO920 := n1_
 have HO925 := n2_
 have HO928 := n3_
 have HO935 := n4_
 have HO941 := n5_
 have HO948 := n6_
 have HO954 := n7_
 have HO958 := n8_
 have HO961 := n9_
 have BK914 := n10_
 have BK922 := n11_
 have HB := n12_
 clear n0_ n1_ n2_ n3_ n4_ n5_ n6_ n7_ n8_ n9_ n10_ n11_ n12_
 (try clear hb)
 (try clear hb2)
 (try clear hk)
 (try clear hi)
 (try clear ho0)
 obtain ⟨Ao52, co52, eo52⟩ := Kd.R_slice HO958.out
 (first | subst eo52 | (injection eo52 with f1_ f2_ f3_; have f4_ := f1_.symm; have f5_ := f3_.symm; clear f1_ f2_ f3_; subst f4_; subst f5_))
 obtain ⟨Ao53, co53, eo53⟩ := Kd.R_slice HO961.out
 (first | subst eo53 | (injection eo53 with f1_ f2_ f3_; have f4_ := f1_.symm; have f5_ := f3_.symm; clear f1_ f2_ f3_; subst f4_; subst f5_))
 refine hK.out _ _ ⟨(blk_cell BK914.out 0).trans rfl, (blk_cell BK914.out 1).trans rfl, (blk_cell BK914.out 2).trans rfl, (blk_cell BK914.out 3).trans rfl, (blk_cell BK922.out 0).trans rfl, (blk_cell BK922.out 1).trans rfl, (blk_cell BK922.out 2).trans rfl, (blk_cell BK922.out 3).trans rfl⟩ (fun hHeld => ?_)
 clear hK K
 refine norm_ (a' := ?_) ?_ ?_
 rotate_left
 ·show Act.put _ (some 38) _ = _
  simp only [Act.put, List.setIfInBounds_toArray, List.set_cons_zero, List.set_cons_succ, i64_w, i32_w]
  rfl
 refine on_ 24 39 HT_ (fun K hK => ?_)
 refine goes_ Try.func28 (by kernel_rfl) rfl #[.slice Ao52 t956.length co52, .slice Ao53 t959.length co53] (by rfl) rfl rfl lm_ ?_
 with_reducible refine (laws_sameInts.calls k _ _ t956 _ _ t959 true _ ?side1 ?side2 ?side3 ?side4 A20.out).mono ?_
 (case side1 => exact cs_ ((Kd.R_reads' HO958.out).2.2))
 (case side2 => exact (Kd.R_reads' HO958.out).2.1)
 (case side3 => exact cs_ ((Kd.R_reads' HO961.out).2.2))
 (case side4 => exact (Kd.R_reads' HO961.out).2.1)
 rintro e w' ⟨rfl, ⟨nd, rfl⟩⟩
 refine ⟨_, rfl, ?_⟩
 refine hK.out _ _ ⟨(blk_cell BK914.out 0).trans rfl, (blk_cell BK914.out 1).trans rfl, (blk_cell BK914.out 2).trans rfl, (blk_cell BK914.out 3).trans rfl, (blk_cell BK922.out 0).trans rfl, (blk_cell BK922.out 1).trans rfl, (blk_cell BK922.out 2).trans rfl, (blk_cell BK922.out 3).trans rfl⟩ (fun hHeld => ?_)
 clear hK K
 refine norm_ (a' := ?_) ?_ ?_
 rotate_left
 ·show Act.put _ (some 39) _ = _
  simp only [Act.put, List.setIfInBounds_toArray, List.set_cons_zero, List.set_cons_succ, i64_w, i32_w]
  rfl
 refine pu_ 25 40 HT_ ?_
 refine pu_ 26 41 HT_ ?_
 refine pu_ 28 43 HT_ ?_
 refine pu_ 31 46 HT_ ?_
 refine ta_ 27 42 HT_ HW_ hHeld ?_ (r := by rintro w' ⟨s0, s1, s2, s3, s4, s5, s6, s7⟩; go_simp; with_reducible rfl)
 refine ta_ 30 45 HT_ HW_ hHeld ?_ (r := by rintro w' ⟨s0, s1, s2, s3, s4, s5, s6, s7⟩; go_simp; with_reducible rfl)
 refine on_ 29 44 HT_ (fun K hK => ?_)
 refine goes_ Try.func25 (by kernel_rfl) rfl #[.agg #[.int .i64 t915, .int .i64 t916, .int .i64 t917, .slice Ao33 t918.length co33], .int .i64 t921] (by rfl) rfl rfl lm_ ?_
 with_reducible refine (impl_OnlyFor.calls k t915 t916 t917 _ _ t918 t921 t963 t964 t965 t966 _ ?side1 ?side2 A22.out).mono ?_
 (case side1 => exact cs_ ((Kd.N_reads' HO920.out).2.2))
 (case side2 => exact (Kd.N_reads' HO920.out).2.1)
 rintro e w54 ⟨v967, rfl, ho0, hb⟩
 refine ⟨_, rfl, ?_⟩
 have n0_ := Aside0.mk (Kd.N_elder' (na_ HO913.out) (Kd.N_base ho0) hb)
 have n1_ := Aside0.mk (Kd.N_elder' (na_ HO920.out) (Kd.N_base ho0) hb)
 have n2_ := Aside0.mk (Kd.R_below (ra_ HO925.out) hb)
 have n3_ := Aside0.mk (Kd.R_below (ra_ HO928.out) hb)
 have n4_ := Aside0.mk (Kd.N_elder' (na_ HO935.out) (Kd.N_base ho0) hb)
 have n5_ := Aside0.mk (Kd.N_elder' (na_ HO941.out) (Kd.N_base ho0) hb)
 have n6_ := Aside0.mk (Kd.N_elder' (na_ HO948.out) (Kd.N_base ho0) hb)
 have n7_ := Aside0.mk (Kd.N_elder' (na_ HO954.out) (Kd.N_base ho0) hb)
 have n8_ := Aside0.mk (Kd.R_below (ra_ HO958.out) hb)
 have n9_ := Aside0.mk (Kd.R_below (ra_ HO961.out) hb)
 have n10_ := Aside0.mk (Kd.N_lower (Kd.N_mono (ok' := fun k_ => some k_ ≠ (.slice Ao28 t911.length co28 : Value).ownBlock ∧ some k_ ≠ (.slice Ao33 t918.length co33 : Value).ownBlock ∧ some k_ ≠ (.slice Ao38 t923.length co38 : Value).ownBlock ∧ some k_ ≠ (.slice Ao39 t926.length co39 : Value).ownBlock ∧ some k_ ≠ (.slice Ao42 t933.length co42 : Value).ownBlock ∧ some k_ ≠ (.slice Ao43 t939.length co43 : Value).ownBlock ∧ some k_ ≠ (.slice Ao47 t946.length co47 : Value).ownBlock ∧ some k_ ≠ (.slice Ao48 t952.length co48 : Value).ownBlock ∧ some k_ ≠ (.slice Ao52 t956.length co52 : Value).ownBlock ∧ some k_ ≠ (.slice Ao53 t959.length co53 : Value).ownBlock ∧ k_ ≠ gb914 ∧ k_ ≠ gb922) ho0 (fun k_ hk_ => ⟨(Kd.fresh' (Kd.N_lt (na_ HO913.out)) k_ hk_), (Kd.fresh' (Kd.N_lt (na_ HO920.out)) k_ hk_), (Kd.fresh' (Kd.R_lt (ra_ HO925.out)) k_ hk_), (Kd.fresh' (Kd.R_lt (ra_ HO928.out)) k_ hk_), (Kd.fresh' (Kd.N_lt (na_ HO935.out)) k_ hk_), (Kd.fresh' (Kd.N_lt (na_ HO941.out)) k_ hk_), (Kd.fresh' (Kd.N_lt (na_ HO948.out)) k_ hk_), (Kd.fresh' (Kd.N_lt (na_ HO954.out)) k_ hk_), (Kd.fresh' (Kd.R_lt (ra_ HO958.out)) k_ hk_), (Kd.fresh' (Kd.R_lt (ra_ HO961.out)) k_ hk_), (fb_ BK914.out k_ hk_), (fb_ BK922.out k_ hk_)⟩)) (below_size bl_))
 have n11_ := bb0_ BK914.out hb
 have n12_ := bb0_ BK922.out hb
 have n13_ := Aside0.mk (below_step bl_ hb)
 clear HO913
 clear HO920
 clear HO925
 clear HO928
 clear HO935
 clear HO941
 clear HO948
 clear HO954
 clear HO958
 clear HO961
 clear BK914
 clear BK922
 clear HB
 have HO913 := n0_
 have HO920 := n1_
 have HO925 := n2_
 have HO928 := n3_
 have HO935 := n4_
 have HO941 := n5_
 have HO948 := n6_
 have HO954 := n7_
 have HO958 := n8_
 have HO961 := n9_
 have HO968 := n10_
 have BK914 := n11_
 have BK922 := n12_
 have HB := n13_
 clear n0_ n1_ n2_ n3_ n4_ n5_ n6_ n7_ n8_ n9_ n10_ n11_ n12_ n13_
 (try clear hb)
 (try clear hb2)
 (try clear hk)
 (try clear hi)
 (try clear ho0)
 refine hK.out _ _ ⟨(blk_cell BK914.out 0).trans rfl, (blk_cell BK914.out 1).trans rfl, (blk_cell BK914.out 2).trans rfl, (blk_cell BK914.out 3).trans rfl, (blk_cell BK922.out 0).trans rfl, (blk_cell BK922.out 1).trans rfl, (blk_cell BK922.out 2).trans rfl, (blk_cell BK922.out 3).trans rfl⟩ (fun hHeld => ?_)
 clear hK K
 refine norm_ (a' := ?_) ?_ ?_
 rotate_left
 ·show Act.put _ (some 44) _ = _
  simp only [Act.put, List.setIfInBounds_toArray, List.set_cons_zero, List.set_cons_succ, i64_w, i32_w]
  rfl
 refine on_ 32 47 HT_ (fun K hK => ?_)
 refine goes_ Try.func38 (by kernel_rfl) rfl #[.agg #[.int .i64 t915, .int .i64 t916, .int .i64 t917, .slice Ao33 t918.length co33], .int .i64 t921] (by rfl) rfl rfl lm_ ?_
 with_reducible refine (spec_OnlyFor.calls k t915 t916 t917 _ _ t918 t921 t969 t970 t971 t972 _ ?side1 ?side2 A23.out).mono ?_
 (case side1 => exact cs_ ((Kd.N_reads' HO920.out).2.2))
 (case side2 => exact (Kd.N_reads' HO920.out).2.1)
 rintro e w55 ⟨v973, rfl, ho0, hb⟩
 refine ⟨_, rfl, ?_⟩
 have n0_ := Aside0.mk (Kd.N_elder' (na_ HO913.out) (Kd.N_base ho0) hb)
 have n1_ := Aside0.mk (Kd.N_elder' (na_ HO920.out) (Kd.N_base ho0) hb)
 have n2_ := Aside0.mk (Kd.R_below (ra_ HO925.out) hb)
 have n3_ := Aside0.mk (Kd.R_below (ra_ HO928.out) hb)
 have n4_ := Aside0.mk (Kd.N_elder' (na_ HO935.out) (Kd.N_base ho0) hb)
 have n5_ := Aside0.mk (Kd.N_elder' (na_ HO941.out) (Kd.N_base ho0) hb)
 have n6_ := Aside0.mk (Kd.N_elder' (na_ HO948.out) (Kd.N_base ho0) hb)
 have n7_ := Aside0.mk (Kd.N_elder' (na_ HO954.out) (Kd.N_base ho0) hb)
 have n8_ := Aside0.mk (Kd.R_below (ra_ HO958.out) hb)
 have n9_ := Aside0.mk (Kd.R_below (ra_ HO961.out) hb)
 have n10_ := Aside0.mk (Kd.N_elder' (na_ HO968.out) (Kd.N_base ho0) hb)
 have n11_ := Aside0.mk (Kd.N_lower (Kd.N_mono (ok' := fun k_ => some k_ ≠ (.slice Ao28 t911.length co28 : Value).ownBlock ∧ some k_ ≠ (.slice Ao33 t918.length co33 : Value).ownBlock ∧ some k_ ≠ (.slice Ao38 t923.length co38 : Value).ownBlock ∧ some k_ ≠ (.slice Ao39 t926.length co39 : Value).ownBlock ∧ some k_ ≠ (.slice Ao42 t933.length co42 : Value).ownBlock ∧ some k_ ≠ (.slice Ao43 t939.length co43 : Value).ownBlock ∧ some k_ ≠ (.slice Ao47 t946.length co47 : Value).ownBlock ∧ some k_ ≠ (.slice Ao48 t952.length co48 : Value).ownBlock ∧ some k_ ≠ (.slice Ao52 t956.length co52 : Value).ownBlock ∧ some k_ ≠ (.slice Ao53 t959.length co53 : Value).ownBlock ∧ some k_ ≠ (v967 : Value).ownBlock ∧ k_ ≠ gb914 ∧ k_ ≠ gb922) ho0 (fun k_ hk_ => ⟨(Kd.fresh' (Kd.N_lt (na_ HO913.out)) k_ hk_), (Kd.fresh' (Kd.N_lt (na_ HO920.out)) k_ hk_), (Kd.fresh' (Kd.R_lt (ra_ HO925.out)) k_ hk_), (Kd.fresh' (Kd.R_lt (ra_ HO928.out)) k_ hk_), (Kd.fresh' (Kd.N_lt (na_ HO935.out)) k_ hk_), (Kd.fresh' (Kd.N_lt (na_ HO941.out)) k_ hk_), (Kd.fresh' (Kd.N_lt (na_ HO948.out)) k_ hk_), (Kd.fresh' (Kd.N_lt (na_ HO954.out)) k_ hk_), (Kd.fresh' (Kd.R_lt (ra_ HO958.out)) k_ hk_), (Kd.fresh' (Kd.R_lt (ra_ HO961.out)) k_ hk_), (Kd.fresh' (Kd.N_lt (na_ HO968.out)) k_ hk_), (fb_ BK914.out k_ hk_), (fb_ BK922.out k_ hk_)⟩)) (below_size bl_))
 have n12_ := bb0_ BK914.out hb
 have n13_ := bb0_ BK922.out hb
 have n14_ := Aside0.mk (below_step bl_ hb)
 clear HO913
 clear HO920
 clear HO925
 clear HO928
 clear HO935
 clear HO941
 clear HO948
 clear HO954
 clear HO958
 clear HO961
 clear HO968
 clear BK914
 clear BK922
 clear HB
 have HO913 := n0_
 have HO920 := n1_
 have HO925 := n2_
 have HO928 := n3_
 have HO935 := n4_
 have HO941 := n5_
 have HO948 := n6_
 have HO954 := n7_
 have HO958 := n8_
 have HO961 := n9_
 have HO968 := n10_
 have HO974 := n11_
 have BK914 := n12_
 have BK922 := n13_
 have HB := n14_
 clear n0_ n1_ n2_ n3_ n4_ n5_ n6_ n7_ n8_ n9_ n10_ n11_ n12_ n13_ n14_
 (try clear hb)
 (try clear hb2)
 (try clear hk)
 (try clear hi)
 (try clear ho0)
 obtain ⟨Ao56, co56, eo56⟩ := Kd.N_slice HO968.out
 (first | subst eo56 | (injection eo56 with f1_ f2_ f3_; have f4_ := f1_.symm; have f5_ := f3_.symm; clear f1_ f2_ f3_; subst f4_; subst f5_))
 obtain ⟨Ao57, co57, eo57⟩ := Kd.N_slice HO974.out
 (first | subst eo57 | (injection eo57 with f1_ f2_ f3_; have f4_ := f1_.symm; have f5_ := f3_.symm; clear f1_ f2_ f3_; subst f4_; subst f5_))
 refine hK.out _ _ ⟨(blk_cell BK914.out 0).trans rfl, (blk_cell BK914.out 1).trans rfl, (blk_cell BK914.out 2).trans rfl, (blk_cell BK914.out 3).trans rfl, (blk_cell BK922.out 0).trans rfl, (blk_cell BK922.out 1).trans rfl, (blk_cell BK922.out 2).trans rfl, (blk_cell BK922.out 3).trans rfl⟩ (fun hHeld => ?_)
 clear hK K
 refine norm_ (a' := ?_) ?_ ?_
 rotate_left
 ·show Act.put _ (some 47) _ = _
  simp only [Act.put, List.setIfInBounds_toArray, List.set_cons_zero, List.set_cons_succ, i64_w, i32_w]
  rfl
 refine on_ 33 48 HT_ (fun K hK => ?_)
 refine goes_ Try.func33 (by kernel_rfl) rfl #[.agg #[.int .i64 t963, .int .i64 t964, .int .i64 t965, .slice Ao56 t966.length co56], .agg #[.int .i64 t969, .int .i64 t970, .int .i64 t971, .slice Ao57 t972.length co57]] (by rfl) rfl rfl lm_ ?_
 with_reducible refine (spec_SamePolicy.calls k t963 t964 t965 _ _ t966 t969 t970 t971 _ _ t972 t975 _ ?side1 ?side2 ?side3 ?side4 A24.out).mono ?_
 (case side1 => exact cs_ ((Kd.N_reads' HO968.out).2.2))
 (case side2 => exact (Kd.N_reads' HO968.out).2.1)
 (case side3 => exact cs_ ((Kd.N_reads' HO974.out).2.2))
 (case side4 => exact (Kd.N_reads' HO974.out).2.1)
 rintro e w58 ⟨rfl, hb⟩
 refine ⟨_, rfl, ?_⟩
 have n0_ := Aside0.mk (Kd.N_below (na_ HO913.out) hb)
 have n1_ := Aside0.mk (Kd.N_below (na_ HO920.out) hb)
 have n2_ := Aside0.mk (Kd.R_below (ra_ HO925.out) hb)
 have n3_ := Aside0.mk (Kd.R_below (ra_ HO928.out) hb)
 have n4_ := Aside0.mk (Kd.N_below (na_ HO935.out) hb)
 have n5_ := Aside0.mk (Kd.N_below (na_ HO941.out) hb)
 have n6_ := Aside0.mk (Kd.N_below (na_ HO948.out) hb)
 have n7_ := Aside0.mk (Kd.N_below (na_ HO954.out) hb)
 have n8_ := Aside0.mk (Kd.R_below (ra_ HO958.out) hb)
 have n9_ := Aside0.mk (Kd.R_below (ra_ HO961.out) hb)
 have n10_ := Aside0.mk (Kd.N_below (na_ HO968.out) hb)
 have n11_ := Aside0.mk (Kd.N_below (na_ HO974.out) hb)
 have n12_ := bb0_ BK914.out hb
 have n13_ := bb0_ BK922.out hb
 have n14_ := Aside0.mk (below_step bl_ hb)
 clear HO913
 clear HO920
 clear HO925
 clear HO928
 clear HO935
 clear HO941
 clear HO948
 clear HO954
 clear HO958
 clear HO961
 clear HO968
 clear HO974
 clear BK914
 clear BK922
 clear HB
 have HO913 := n0_
 have HO920 := n1_
 have HO925 := n2_
 have HO928 := n3_
 have HO935 := n4_
 have HO941 := n5_
 have HO948 := n6_
 have HO954 := n7_
 have HO958 := n8_
 have HO961 := n9_
 have HO968 := n10_
 have HO974 := n11_
 have BK914 := n12_
 have BK922 := n13_
 have HB := n14_
 clear n0_ n1_ n2_ n3_ n4_ n5_ n6_ n7_ n8_ n9_ n10_ n11_ n12_ n13_ n14_
 (try clear hb)
 (try clear hb2)
 (try clear hk)
 (try clear hi)
 refine hK.out _ _ ⟨(blk_cell BK914.out 0).trans rfl, (blk_cell BK914.out 1).trans rfl, (blk_cell BK914.out 2).trans rfl, (blk_cell BK914.out 3).trans rfl, (blk_cell BK922.out 0).trans rfl, (blk_cell BK922.out 1).trans rfl, (blk_cell BK922.out 2).trans rfl, (blk_cell BK922.out 3).trans rfl⟩ (fun hHeld => ?_)
 clear hK K
 refine norm_ (a' := ?_) ?_ ?_
 rotate_left
 ·show Act.put _ (some 48) _ = _
  simp only [Act.put, List.setIfInBounds_toArray, List.set_cons_zero, List.set_cons_succ, i64_w, i32_w]
  rfl
 refine pu_ 34 49 HT_ ?_
 refine pu_ 35 2 HT_ ?_
 refine done_ (done_of HT_.out (by kernel_rfl)) ?_
 try go_wp2
 go_ret
 exact ⟨er_, bl_⟩

def laws_FnLessTold.Pure : Prop := ∀ (l0 : List Int), l0.length ≤ maxLen → l0.length * 1 ≤ 140737488351232 → (∀ x ∈ l0, (Lit.int .u8 x).wf = true) → ∃ k, laws_FnLessTold.f k l0 = some true
theorem laws_FnLessTold.walk (P : laws_FnLessTold.Pure) (a0 : Option Addr) (len0 cap0 : Nat) (z0 : List Int) (w : World) (w0 : (a0 = none ∧ len0 = 0 ∧ cap0 = 0 ∧ z0 = []) ∨ ∃ x, a0 = some x ∧ len0 ≤ cap0 ∧ cap0 ≤ maxLen ∧ z0.length = cap0 ∧ (∀ i, i < z0.length → w.cell? (x.add i) = some (.int .u8 (z0.getD i 0))) ∧ ∀ n ∈ z0, (Lit.int .u8 n).wf = true) (y0 : len0 * 1 ≤ 140737488351232) :
 Calls Try.prog 6 #[.slice a0 len0 cap0] w fun e w' => e = .returned (.bool true) ∧ Below w.heap.size w w' := by
 obtain ⟨l0, rfl, hr0, hm0, hw0, hc0⟩ := ReadsInt.ofRowC w0
 obtain ⟨k, h⟩ := P l0 hm0 y0 hw0
 refine (laws_FnLessTold.calls k _ _ l0 true w (Kd.C_of_reads (d := (0 : Int)) (h1 := fun _ => rfl) hr0) hc0 rfl h).mono ?_
 rintro e w' ⟨rfl, hd⟩
 exact ⟨rfl, hd⟩

end Go.Proofs.Ytjfmpodeenidnaa.PC

namespace Go.Proofs.Ytjfmpodeenidnaa.Kit
open Go.RowKit Go.Proofs.YtjfmpodeenidnaaW.PrintWords Go.Proofs.YtjfmpodeenidnaaW.PrintLast Go.Proofs.YtjfmpodeenidnaaW.PrintMore
set_option linter.unusedVariables false
set_option linter.unusedSimpArgs false

theorem w64 {x : Int} (h0 : -9223372036854775808 ≤ x) (h1 : x ≤ 9223372036854775807) : wrap64 x = x := by unfold wrap64; omega

section
variable {α β : Type}
theorem evSucc {g : Nat → Option α} {r : α} (h : Ev (fun k => g (k + 1)) r) : Ev g r := Ev.step (fun _ => rfl) h
theorem evPos {c : Prop} [Decidable c] {g f : Nat → Option α} {r : α} (hc : c) (h : Ev g r) : Ev (fun k => if c then g k else f k) r := Ev.congr (fun k => if_pos hc) h
theorem evNeg {c : Prop} [Decidable c] {g f : Nat → Option α} {r : α} (hc : ¬ c) (h : Ev f r) : Ev (fun k => if c then g k else f k) r := Ev.congr (fun k => if_neg hc) h
theorem evIte {c : Prop} [Decidable c] {g f : Nat → Option α} {r s : α} (h : c → Ev g r) (h' : ¬ c → Ev f s) : Ev (fun k => if c then g k else f k) (if c then r else s) := by
 by_cases hc : c
 ·rw [if_pos hc]; exact evPos hc (h hc)
 ·rw [if_neg hc]; exact evNeg hc (h' hc)
theorem evSome (r : α) : Ev (fun _ => some r) r := Ev.now r
theorem evEq {g : Nat → Option α} {r s : α} (h : Ev g r) (e : r = s) : Ev g s := e ▸ h
theorem evBindS {x : Option α} {f : Nat → α → Option β} {a : α} {r : β} (h : x = some a) (k : Ev (fun n => f n a) r) : Ev (fun n => x.bind (f n)) r := by subst h; exact k
theorem evConst {x : Option α} {r : α} (h : x = some r) : Ev (fun _ => x) r := by subst h; exact Ev.now r
end

section
variable {α β : Type}
theorem evUp {r : α} (n : Nat) (g : Nat → Nat → Option α) (step : ∀ i, i < n → Ev (g (i + 1)) r → Ev (g i) r) (last : Ev (g n) r) : Ev (g 0) r := by
 have key : ∀ d i, i + d = n → Ev (g i) r := by
  intro d
  induction d with
  | zero => intro i hi; rw [show i = n by omega]; exact last
  | succ d ih => intro i hi; exact step i (by omega) (ih (i + 1) (by omega))
 exact key n 0 (by omega)
theorem fillStep (f : α → β) (z : β) (l : List α) (i : Nat) (hi : i < l.length) :
 ((l.take i).map f ++ List.replicate (l.length - i) z).set i (f l[i]) = (l.take (i + 1)).map f ++ List.replicate (l.length - (i + 1)) z := by
 have h1 : ((l.take i).map f).length = i := by simp; omega
 rw [show l.length - i = (l.length - (i + 1)) + 1 by omega, List.replicate_succ, List.set_append_right _ _ (by omega), h1, Nat.sub_self, List.set_cons_zero,
  List.take_succ_eq_append_getElem hi, List.map_append, List.append_assoc]
 rfl
theorem takeSnoc (l : List α) (i : Nat) (hi : i < l.length) : l.take (i + 1) = l.take i ++ [l[i]] := List.take_succ_eq_append_getElem hi
theorem ci (i : Nat) : (i : Int) + 1 = ((i + 1 : Nat) : Int) := by omega
theorem sizeApp (a b : ByteArray) : (a ++ b).size = a.size + b.size := ByteArray.size_append
end

theorem okI64 {n : Int} (h : (Lit.int .i64 n).wf = true) : -9223372036854775808 ≤ n ∧ n ≤ 9223372036854775807 := by
 simp [Lit.wf, IntKind.min, IntKind.max, IntKind.signed, IntKind.bits] at h
 omega
end Go.Proofs.Ytjfmpodeenidnaa.Kit
