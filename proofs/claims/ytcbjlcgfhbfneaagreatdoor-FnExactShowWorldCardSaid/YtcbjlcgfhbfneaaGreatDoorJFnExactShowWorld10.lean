/- Contracts of functions of the program and of the reference, and plain lemmas on what they compute: a part of the proof of the law FnExactShowWorld. No condition. -/
import Derived.Test.YtcbjlcgfhbfneaaGreatDoorJFnExactShowWorld1
import Derived.Test.YtcbjlcgfhbfneaaGreatDoorJFnExactShowWorld2
import Derived.Test.YtcbjlcgfhbfneaaGreatDoorJFnExactShowWorld3
import Derived.Test.YtcbjlcgfhbfneaaGreatDoorJFnExactShowWorld5
import Derived.Test.YtcbjlcgfhbfneaaGreatDoorJFnExactShowWorld7
import Derived.Test.YtcbjlcgfhbfneaaGreatDoorJFnExactShowWorld9
import Derived.Test.YtcbjlcgfhbfneaaGreatDoorV0
import Derived.ChangeArms
import Derived.ChangeOld
import Derived.WideShapes
import Derived.OpenShut
import Derived.DataElems
import Derived.Test.YtcbjlcgfhbfneaaGreatDoorJFnExactShowWorld6
import Derived.Test.YtcbjlcgfhbfneaaGreatDoorShortV
set_option maxHeartbeats 8000000
set_option maxRecDepth 100000
namespace Go.Proofs.YtcbjlcgfhbfneaaGreatDoor.PA
open Go.RowKit Go.Proofs.YtcbjlcgfhbfneaaGreatDoor.Short Go.Proofs.YtcbjlcgfhbfneaaGreatDoorW.PrintWords Go.Proofs.YtcbjlcgfhbfneaaGreatDoorW.PrintLast Go.Proofs.YtcbjlcgfhbfneaaGreatDoorW.PrintMore
attribute [local go_sem] max2_int min2_int max_two min_two max_three min_three max_four min_four   -- for this text's walks alone
set_option linter.unusedVariables false
set_option linter.unusedSimpArgs false

def laws_FnExactShowWorld.f (k : Nat) (l0_0 : List (List (List (S156)))) (l0_1 : List (S85)) (l0_2 : List (S88)) (l0_3 : List (S141)) (l0_4 : List Int) (l0_5 : List (S144)) (a0_6 : Int) (l0_7 : List Int) (l0_8 : List (S93)) (a0_9 : Int) (l0_10 : List Int) (l0_11 : List (S113)) : Option (Bool) := (laws_szWorld.f k l0_0 l0_1 l0_2 l0_3 l0_4 l0_5 a0_6 l0_7 l0_8 a0_9 l0_10 l0_11 1048576).bind fun t557 => (if t557 < 0 then (some true) else ((laws_toWorld.f k l0_0 l0_1 l0_2 l0_3 l0_4 l0_5 a0_6 l0_7 l0_8 a0_9 l0_10 l0_11).bind fun bt558 => ((spec_ShowWorld.f k bt558.1 bt558.2.1 bt558.2.2.1 bt558.2.2.2.1 bt558.2.2.2.2.1 bt558.2.2.2.2.2.1 bt558.2.2.2.2.2.2.1 bt558.2.2.2.2.2.2.2.1 bt558.2.2.2.2.2.2.2.2.1 bt558.2.2.2.2.2.2.2.2.2.1 bt558.2.2.2.2.2.2.2.2.2.2.1 bt558.2.2.2.2.2.2.2.2.2.2.2).bind fun t590 => ((laws_toWorld.f k l0_0 l0_1 l0_2 l0_3 l0_4 l0_5 a0_6 l0_7 l0_8 a0_9 l0_10 l0_11).bind fun bt591 => ((impl_ShowWorld.f k bt591.1 bt591.2.1 bt591.2.2.1 bt591.2.2.2.1 bt591.2.2.2.2.1 bt591.2.2.2.2.2.1 bt591.2.2.2.2.2.2.1 bt591.2.2.2.2.2.2.2.1 bt591.2.2.2.2.2.2.2.2.1 bt591.2.2.2.2.2.2.2.2.2.1 bt591.2.2.2.2.2.2.2.2.2.2.1 bt591.2.2.2.2.2.2.2.2.2.2.2).bind fun t624 => (if t624.toList = t590.toList then ((laws_toWorld.f k l0_0 l0_1 l0_2 l0_3 l0_4 l0_5 a0_6 l0_7 l0_8 a0_9 l0_10 l0_11).bind fun bt625 => ((laws_eqWorld.f k bt591.1 bt591.2.1 bt591.2.2.1 bt591.2.2.2.1 bt591.2.2.2.2.1 bt591.2.2.2.2.2.1 bt591.2.2.2.2.2.2.1 bt591.2.2.2.2.2.2.2.1 bt591.2.2.2.2.2.2.2.2.1 bt591.2.2.2.2.2.2.2.2.2.1 bt591.2.2.2.2.2.2.2.2.2.2.1 bt591.2.2.2.2.2.2.2.2.2.2.2 bt625.1 bt625.2.1 bt625.2.2.1 bt625.2.2.2.1 bt625.2.2.2.2.1 bt625.2.2.2.2.2.1 bt625.2.2.2.2.2.2.1 bt625.2.2.2.2.2.2.2.1 bt625.2.2.2.2.2.2.2.2.1 bt625.2.2.2.2.2.2.2.2.2.1 bt625.2.2.2.2.2.2.2.2.2.2.1 bt625.2.2.2.2.2.2.2.2.2.2.2).bind fun t657 => (if t657 = true then (some true) else (some false)))) else (some false)))))))
theorem laws_FnExactShowWorld.mono : ∀ a0 a1 a2 a3 a4 a5 a6 a7 a8 a9 a10 a11 k, LeO (laws_FnExactShowWorld.f k a0 a1 a2 a3 a4 a5 a6 a7 a8 a9 a10 a11) (laws_FnExactShowWorld.f (k + 1) a0 a1 a2 a3 a4 a5 a6 a7 a8 a9 a10 a11) := by
 intro a0 a1 a2 a3 a4 a5 a6 a7 a8 a9 a10 a11 k
 unfold laws_FnExactShowWorld.f
 have m0 := @impl_ShowWorld.mono
 have m1 := @laws_eqWorld.mono
 have m2 := @laws_szWorld.mono
 have m3 := @laws_toWorld.mono
 have m4 := @spec_ShowWorld.mono
 exact mo_
theorem laws_FnExactShowWorld.calls (k : Nat) (A0_0 : Option Addr) (c0_0 : Nat) (l0_0 : List (List (List (S156)))) (A0_1 : Option Addr) (c0_1 : Nat) (l0_1 : List (S85)) (A0_2 : Option Addr) (c0_2 : Nat) (l0_2 : List (S88)) (A0_3 : Option Addr) (c0_3 : Nat) (l0_3 : List (S141)) (A0_4 : Option Addr) (c0_4 : Nat) (l0_4 : List Int) (A0_5 : Option Addr) (c0_5 : Nat) (l0_5 : List (S144)) (a0_6 : Int) (A0_7 : Option Addr) (c0_7 : Nat) (l0_7 : List Int) (A0_8 : Option Addr) (c0_8 : Nat) (l0_8 : List (S93)) (a0_9 : Int) (A0_10 : Option Addr) (c0_10 : Nat) (l0_10 : List Int) (A0_11 : Option Addr) (c0_11 : Nat) (l0_11 : List (S113)) (r : Bool) (w : World) (hr0_0 : Kd.C (Kd.slice 124 (Kd.slice 156 k156)) w A0_0 l0_0.length l0_0) (hc0_0 : l0_0.length ≤ c0_0) (hr0_1 : Kd.C k85 w A0_1 l0_1.length l0_1) (hc0_1 : l0_1.length ≤ c0_1) (hr0_2 : Kd.C k88 w A0_2 l0_2.length l0_2) (hc0_2 : l0_2.length ≤ c0_2) (hr0_3 : Kd.C k141 w A0_3 l0_3.length l0_3) (hc0_3 : l0_3.length ≤ c0_3) (hr0_4 : Kd.C (Kd.int .i64) w A0_4 l0_4.length l0_4) (hc0_4 : l0_4.length ≤ c0_4) (hr0_5 : Kd.C k144 w A0_5 l0_5.length l0_5) (hc0_5 : l0_5.length ≤ c0_5) (hr0_7 : Kd.C (Kd.int .i64) w A0_7 l0_7.length l0_7) (hc0_7 : l0_7.length ≤ c0_7) (hr0_8 : Kd.C k93 w A0_8 l0_8.length l0_8) (hc0_8 : l0_8.length ≤ c0_8) (hr0_10 : Kd.C (Kd.int .i64) w A0_10 l0_10.length l0_10) (hc0_10 : l0_10.length ≤ c0_10) (hr0_11 : Kd.C k113 w A0_11 l0_11.length l0_11) (hc0_11 : l0_11.length ≤ c0_11) (hT : Tab w) (hrt : r = true) (h : laws_FnExactShowWorld.f k l0_0 l0_1 l0_2 l0_3 l0_4 l0_5 a0_6 l0_7 l0_8 a0_9 l0_10 l0_11 = some r) :
 Calls Tryz.prog 3 #[.agg #[.slice A0_0 l0_0.length c0_0, .slice A0_1 l0_1.length c0_1, .slice A0_2 l0_2.length c0_2, .slice A0_3 l0_3.length c0_3, .slice A0_4 l0_4.length c0_4, .slice A0_5 l0_5.length c0_5, .int .i64 a0_6, .slice A0_7 l0_7.length c0_7, .slice A0_8 l0_8.length c0_8, .int .i64 a0_9, .slice A0_10 l0_10.length c0_10, .slice A0_11 l0_11.length c0_11]] w fun e w' => e = .returned (.bool r) ∧ Below w.heap.size w w' := by
 have hu33 := Tryz.underlying33
 have hu46 := Tryz.underlying46
 have HR0_0 := Aside0.mk hr0_0
 have HC0_0 := Aside0.mk hc0_0
 clear hr0_0 hc0_0
 have HR0_1 := Aside0.mk hr0_1
 have HC0_1 := Aside0.mk hc0_1
 clear hr0_1 hc0_1
 have HR0_2 := Aside0.mk hr0_2
 have HC0_2 := Aside0.mk hc0_2
 clear hr0_2 hc0_2
 have HR0_3 := Aside0.mk hr0_3
 have HC0_3 := Aside0.mk hc0_3
 clear hr0_3 hc0_3
 have HR0_4 := Aside0.mk hr0_4
 have HC0_4 := Aside0.mk hc0_4
 clear hr0_4 hc0_4
 have HR0_5 := Aside0.mk hr0_5
 have HC0_5 := Aside0.mk hc0_5
 clear hr0_5 hc0_5
 have HR0_7 := Aside0.mk hr0_7
 have HC0_7 := Aside0.mk hc0_7
 clear hr0_7 hc0_7
 have HR0_8 := Aside0.mk hr0_8
 have HC0_8 := Aside0.mk hc0_8
 clear hr0_8 hc0_8
 have HR0_10 := Aside0.mk hr0_10
 have HC0_10 := Aside0.mk hc0_10
 clear hr0_10 hc0_10
 have HR0_11 := Aside0.mk hr0_11
 have HC0_11 := Aside0.mk hc0_11
 clear hr0_11 hc0_11
 have HT := Aside0.mk hT
 clear hT
 have HRt := Aside0.mk hrt
 clear hrt
 have HB := Aside0.mk (Below.refl w.heap.size w)
 have H := h
 unfold laws_FnExactShowWorld.f at H
 clear h
 replace H := bs_ H
 obtain ⟨t557, A2, H⟩ := H
 try dsimp only at H
 by_cases c3 : t557 < 0
 ·rw [if_pos c3] at H
  have c3b0 := decide_eq_true c3
  clear c3
  obtain rfl := Option.some.inj H
  go_enter Tryz.func3, Tryz.ntmps3
  go_wp2_with (first | ((with_reducible refine gate_dst (N := 1) rfl ?_); refine bx_ 1 33 #[.slice A0_0 l0_0.length c0_0, .slice A0_1 l0_1.length c0_1, .slice A0_2 l0_2.length c0_2, .slice A0_3 l0_3.length c0_3, .slice A0_4 l0_4.length c0_4, .slice A0_5 l0_5.length c0_5, .int .i64 a0_6, .slice A0_7 l0_7.length c0_7, .slice A0_8 l0_8.length c0_8, .int .i64 a0_9, .slice A0_10 l0_10.length c0_10, .slice A0_11 l0_11.length c0_11] ?_; intro gb556 hg w4 hbox hb; have BK556 := Aside0.mk (hbox); have GW556 := Aside0.mk ((hz_ : w.heap.size ≤ gb556)); have GE556 := Aside0.mk ((hz_ : w.heap.size ≤ gb556)); replace HB := Aside0.mk (below_step bl_ hb); clear hb hbox hg; have hcz5_0 : w4.cell? ⟨gb556, 0, none⟩ = some (.slice A0_0 l0_0.length c0_0) := (blk_cell BK556.out 0).trans rfl; have hcz5_1 : w4.cell? ⟨gb556, 1, none⟩ = some (.slice A0_1 l0_1.length c0_1) := (blk_cell BK556.out 1).trans rfl; have hcz5_2 : w4.cell? ⟨gb556, 2, none⟩ = some (.slice A0_2 l0_2.length c0_2) := (blk_cell BK556.out 2).trans rfl; have hcz5_3 : w4.cell? ⟨gb556, 3, none⟩ = some (.slice A0_3 l0_3.length c0_3) := (blk_cell BK556.out 3).trans rfl; have hcz5_4 : w4.cell? ⟨gb556, 4, none⟩ = some (.slice A0_4 l0_4.length c0_4) := (blk_cell BK556.out 4).trans rfl; have hcz5_5 : w4.cell? ⟨gb556, 5, none⟩ = some (.slice A0_5 l0_5.length c0_5) := (blk_cell BK556.out 5).trans rfl; have hcz5_6 : w4.cell? ⟨gb556, 6, none⟩ = some (.int .i64 a0_6) := (blk_cell BK556.out 6).trans rfl; have hcz5_7 : w4.cell? ⟨gb556, 7, none⟩ = some (.slice A0_7 l0_7.length c0_7) := (blk_cell BK556.out 7).trans rfl; have hcz5_8 : w4.cell? ⟨gb556, 8, none⟩ = some (.slice A0_8 l0_8.length c0_8) := (blk_cell BK556.out 8).trans rfl; have hcz5_9 : w4.cell? ⟨gb556, 9, none⟩ = some (.int .i64 a0_9) := (blk_cell BK556.out 9).trans rfl; have hcz5_10 : w4.cell? ⟨gb556, 10, none⟩ = some (.slice A0_10 l0_10.length c0_10) := (blk_cell BK556.out 10).trans rfl; have hcz5_11 : w4.cell? ⟨gb556, 11, none⟩ = some (.slice A0_11 l0_11.length c0_11) := (blk_cell BK556.out 11).trans rfl; have hfz5_0 := blk_frozen BK556.out 0; have hfz5_1 := blk_frozen BK556.out 1; have hfz5_2 := blk_frozen BK556.out 2; have hfz5_3 := blk_frozen BK556.out 3; have hfz5_4 := blk_frozen BK556.out 4; have hfz5_5 := blk_frozen BK556.out 5; have hfz5_6 := blk_frozen BK556.out 6; have hfz5_7 := blk_frozen BK556.out 7; have hfz5_8 := blk_frozen BK556.out 8; have hfz5_9 := blk_frozen BK556.out 9; have hfz5_10 := blk_frozen BK556.out 10; have hfz5_11 := blk_frozen BK556.out 11) | ((with_reducible refine gate_callee (f := 4) rfl ?_); refine gs_ (some 9) Tryz.func4 #[.agg #[.slice A0_0 l0_0.length c0_0, .slice A0_1 l0_1.length c0_1, .slice A0_2 l0_2.length c0_2, .slice A0_3 l0_3.length c0_3, .slice A0_4 l0_4.length c0_4, .slice A0_5 l0_5.length c0_5, .int .i64 a0_6, .slice A0_7 l0_7.length c0_7, .slice A0_8 l0_8.length c0_8, .int .i64 a0_9, .slice A0_10 l0_10.length c0_10, .slice A0_11 l0_11.length c0_11], .int .i64 1048576] ?_; (with_reducible refine (laws_szWorld.calls k _ _ l0_0 _ _ l0_1 _ _ l0_2 _ _ l0_3 _ _ l0_4 _ _ l0_5 a0_6 _ _ l0_7 _ _ l0_8 a0_9 _ _ l0_10 _ _ l0_11 1048576 t557 _ ?side1 ?side2 ?side3 ?side4 ?side5 ?side6 ?side7 ?side8 ?side9 ?side10 ?side11 ?side12 ?side13 ?side14 ?side15 ?side16 ?side17 ?side18 ?side19 ?side20 A2.out).mono ?_); (case side1 => exact cb_ HR0_0.out HB.out); (case side2 => exact HC0_0.out); (case side3 => exact cb_ HR0_1.out HB.out); (case side4 => exact HC0_1.out); (case side5 => exact cb_ HR0_2.out HB.out); (case side6 => exact HC0_2.out); (case side7 => exact cb_ HR0_3.out HB.out); (case side8 => exact HC0_3.out); (case side9 => exact cb_ HR0_4.out HB.out); (case side10 => exact HC0_4.out); (case side11 => exact cb_ HR0_5.out HB.out); (case side12 => exact HC0_5.out); (case side13 => exact cb_ HR0_7.out HB.out); (case side14 => exact HC0_7.out); (case side15 => exact cb_ HR0_8.out HB.out); (case side16 => exact HC0_8.out); (case side17 => exact cb_ HR0_10.out HB.out); (case side18 => exact HC0_10.out); (case side19 => exact cb_ HR0_11.out HB.out); (case side20 => exact HC0_11.out); rintro e w6 ⟨rfl, hb⟩; refine ⟨_, rfl, ?_⟩; replace BK556 := Aside0.mk (blk_below (bn0_ BK556.out) hb); replace HB := Aside0.mk (below_step bl_ hb); (try clear hb)))
  go_ret
  exact ⟨er_, bl_⟩
 rw [if_neg c3] at H
 have c3b0 := decide_eq_false c3
 clear c3
 replace H := bs_ H
 obtain ⟨⟨t558, t561, t564, t567, t570, t573, t576, t577, t580, t583, t584, t587⟩, A7, H⟩ := H
 try dsimp only at H
 replace H := bs_ H
 obtain ⟨t590, A8, H⟩ := H
 try dsimp only at H
 replace H := bs_ H
 obtain ⟨⟨t591, t594, t597, t600, t603, t606, t609, t610, t613, t616, t617, t620⟩, A9, H⟩ := H
 try dsimp only at H
 replace H := bs_ H
 obtain ⟨t624, A10, H⟩ := H
 try dsimp only at H
 by_cases c11 : t624.toList = t590.toList
 rotate_left
 ·rw [if_neg c11] at H
  have c11b0 : (t624.toList == t590.toList) = false := beq_eq_false_iff_ne.mpr c11
  have c11b1 : (t624.toList != t590.toList) = true := bne_iff_ne.mpr c11
  exact absurd ((Option.some.inj H).trans HRt.out) (by decide)
 rw [if_pos c11] at H
 have c11b0 : (t624.toList == t590.toList) = true := beq_iff_eq.mpr c11
 have c11b1 : (t624.toList != t590.toList) = false := bne_eq_false_iff_eq.mpr c11
 clear c11
 replace H := bs_ H
 obtain ⟨⟨t625, t628, t631, t634, t637, t640, t643, t644, t647, t650, t651, t654⟩, A12, H⟩ := H
 try dsimp only at H
 replace H := bs_ H
 obtain ⟨t657, A13, H⟩ := H
 try dsimp only at H
 by_cases c14 : t657 = true
 rotate_left
 ·replace c14 := Bool.eq_false_iff.mpr c14
  subst c14
  rw [nf_] at H
  exact absurd ((Option.some.inj H).trans HRt.out) (by decide)
 subst c14
 rw [if_pos rfl] at H
 obtain rfl := Option.some.inj H
 go_enter Tryz.func3, Tryz.ntmps3
 try go_wp2_with (first | ((with_reducible refine gate_dst (N := 1) rfl ?_); refine bx_ 1 33 #[.slice A0_0 l0_0.length c0_0, .slice A0_1 l0_1.length c0_1, .slice A0_2 l0_2.length c0_2, .slice A0_3 l0_3.length c0_3, .slice A0_4 l0_4.length c0_4, .slice A0_5 l0_5.length c0_5, .int .i64 a0_6, .slice A0_7 l0_7.length c0_7, .slice A0_8 l0_8.length c0_8, .int .i64 a0_9, .slice A0_10 l0_10.length c0_10, .slice A0_11 l0_11.length c0_11] ?_; intro gb556 hg w15 hbox hb; have BK556 := Aside0.mk (hbox); have GW556 := Aside0.mk ((hz_ : w.heap.size ≤ gb556)); have GE556 := Aside0.mk ((hz_ : w.heap.size ≤ gb556)); replace HB := Aside0.mk (below_step bl_ hb); clear hb hbox hg; have hcz16_0 : w15.cell? ⟨gb556, 0, none⟩ = some (.slice A0_0 l0_0.length c0_0) := (blk_cell BK556.out 0).trans rfl; have hcz16_1 : w15.cell? ⟨gb556, 1, none⟩ = some (.slice A0_1 l0_1.length c0_1) := (blk_cell BK556.out 1).trans rfl; have hcz16_2 : w15.cell? ⟨gb556, 2, none⟩ = some (.slice A0_2 l0_2.length c0_2) := (blk_cell BK556.out 2).trans rfl; have hcz16_3 : w15.cell? ⟨gb556, 3, none⟩ = some (.slice A0_3 l0_3.length c0_3) := (blk_cell BK556.out 3).trans rfl; have hcz16_4 : w15.cell? ⟨gb556, 4, none⟩ = some (.slice A0_4 l0_4.length c0_4) := (blk_cell BK556.out 4).trans rfl; have hcz16_5 : w15.cell? ⟨gb556, 5, none⟩ = some (.slice A0_5 l0_5.length c0_5) := (blk_cell BK556.out 5).trans rfl; have hcz16_6 : w15.cell? ⟨gb556, 6, none⟩ = some (.int .i64 a0_6) := (blk_cell BK556.out 6).trans rfl; have hcz16_7 : w15.cell? ⟨gb556, 7, none⟩ = some (.slice A0_7 l0_7.length c0_7) := (blk_cell BK556.out 7).trans rfl; have hcz16_8 : w15.cell? ⟨gb556, 8, none⟩ = some (.slice A0_8 l0_8.length c0_8) := (blk_cell BK556.out 8).trans rfl; have hcz16_9 : w15.cell? ⟨gb556, 9, none⟩ = some (.int .i64 a0_9) := (blk_cell BK556.out 9).trans rfl; have hcz16_10 : w15.cell? ⟨gb556, 10, none⟩ = some (.slice A0_10 l0_10.length c0_10) := (blk_cell BK556.out 10).trans rfl; have hcz16_11 : w15.cell? ⟨gb556, 11, none⟩ = some (.slice A0_11 l0_11.length c0_11) := (blk_cell BK556.out 11).trans rfl; have hfz16_0 := blk_frozen BK556.out 0; have hfz16_1 := blk_frozen BK556.out 1; have hfz16_2 := blk_frozen BK556.out 2; have hfz16_3 := blk_frozen BK556.out 3; have hfz16_4 := blk_frozen BK556.out 4; have hfz16_5 := blk_frozen BK556.out 5; have hfz16_6 := blk_frozen BK556.out 6; have hfz16_7 := blk_frozen BK556.out 7; have hfz16_8 := blk_frozen BK556.out 8; have hfz16_9 := blk_frozen BK556.out 9; have hfz16_10 := blk_frozen BK556.out 10; have hfz16_11 := blk_frozen BK556.out 11) | ((with_reducible refine gate_callee (f := 4) rfl ?_); refine gs_ (some 9) Tryz.func4 #[.agg #[.slice A0_0 l0_0.length c0_0, .slice A0_1 l0_1.length c0_1, .slice A0_2 l0_2.length c0_2, .slice A0_3 l0_3.length c0_3, .slice A0_4 l0_4.length c0_4, .slice A0_5 l0_5.length c0_5, .int .i64 a0_6, .slice A0_7 l0_7.length c0_7, .slice A0_8 l0_8.length c0_8, .int .i64 a0_9, .slice A0_10 l0_10.length c0_10, .slice A0_11 l0_11.length c0_11], .int .i64 1048576] ?_; (with_reducible refine (laws_szWorld.calls k _ _ l0_0 _ _ l0_1 _ _ l0_2 _ _ l0_3 _ _ l0_4 _ _ l0_5 a0_6 _ _ l0_7 _ _ l0_8 a0_9 _ _ l0_10 _ _ l0_11 1048576 t557 _ ?side1 ?side2 ?side3 ?side4 ?side5 ?side6 ?side7 ?side8 ?side9 ?side10 ?side11 ?side12 ?side13 ?side14 ?side15 ?side16 ?side17 ?side18 ?side19 ?side20 A2.out).mono ?_); (case side1 => exact cb_ HR0_0.out HB.out); (case side2 => exact HC0_0.out); (case side3 => exact cb_ HR0_1.out HB.out); (case side4 => exact HC0_1.out); (case side5 => exact cb_ HR0_2.out HB.out); (case side6 => exact HC0_2.out); (case side7 => exact cb_ HR0_3.out HB.out); (case side8 => exact HC0_3.out); (case side9 => exact cb_ HR0_4.out HB.out); (case side10 => exact HC0_4.out); (case side11 => exact cb_ HR0_5.out HB.out); (case side12 => exact HC0_5.out); (case side13 => exact cb_ HR0_7.out HB.out); (case side14 => exact HC0_7.out); (case side15 => exact cb_ HR0_8.out HB.out); (case side16 => exact HC0_8.out); (case side17 => exact cb_ HR0_10.out HB.out); (case side18 => exact HC0_10.out); (case side19 => exact cb_ HR0_11.out HB.out); (case side20 => exact HC0_11.out); rintro e w17 ⟨rfl, hb⟩; refine ⟨_, rfl, ?_⟩; replace BK556 := Aside0.mk (blk_below (bn0_ BK556.out) hb); replace HB := Aside0.mk (below_step bl_ hb); (try clear hb); have hcz18_0 : w17.cell? ⟨gb556, 0, none⟩ = some (.slice A0_0 l0_0.length c0_0) := (blk_cell BK556.out 0).trans rfl; have hcz18_1 : w17.cell? ⟨gb556, 1, none⟩ = some (.slice A0_1 l0_1.length c0_1) := (blk_cell BK556.out 1).trans rfl; have hcz18_2 : w17.cell? ⟨gb556, 2, none⟩ = some (.slice A0_2 l0_2.length c0_2) := (blk_cell BK556.out 2).trans rfl; have hcz18_3 : w17.cell? ⟨gb556, 3, none⟩ = some (.slice A0_3 l0_3.length c0_3) := (blk_cell BK556.out 3).trans rfl; have hcz18_4 : w17.cell? ⟨gb556, 4, none⟩ = some (.slice A0_4 l0_4.length c0_4) := (blk_cell BK556.out 4).trans rfl; have hcz18_5 : w17.cell? ⟨gb556, 5, none⟩ = some (.slice A0_5 l0_5.length c0_5) := (blk_cell BK556.out 5).trans rfl; have hcz18_6 : w17.cell? ⟨gb556, 6, none⟩ = some (.int .i64 a0_6) := (blk_cell BK556.out 6).trans rfl; have hcz18_7 : w17.cell? ⟨gb556, 7, none⟩ = some (.slice A0_7 l0_7.length c0_7) := (blk_cell BK556.out 7).trans rfl; have hcz18_8 : w17.cell? ⟨gb556, 8, none⟩ = some (.slice A0_8 l0_8.length c0_8) := (blk_cell BK556.out 8).trans rfl; have hcz18_9 : w17.cell? ⟨gb556, 9, none⟩ = some (.int .i64 a0_9) := (blk_cell BK556.out 9).trans rfl; have hcz18_10 : w17.cell? ⟨gb556, 10, none⟩ = some (.slice A0_10 l0_10.length c0_10) := (blk_cell BK556.out 10).trans rfl; have hcz18_11 : w17.cell? ⟨gb556, 11, none⟩ = some (.slice A0_11 l0_11.length c0_11) := (blk_cell BK556.out 11).trans rfl; have hfz18_0 := blk_frozen BK556.out 0; have hfz18_1 := blk_frozen BK556.out 1; have hfz18_2 := blk_frozen BK556.out 2; have hfz18_3 := blk_frozen BK556.out 3; have hfz18_4 := blk_frozen BK556.out 4; have hfz18_5 := blk_frozen BK556.out 5; have hfz18_6 := blk_frozen BK556.out 6; have hfz18_7 := blk_frozen BK556.out 7; have hfz18_8 := blk_frozen BK556.out 8; have hfz18_9 := blk_frozen BK556.out 9; have hfz18_10 := blk_frozen BK556.out 10; have hfz18_11 := blk_frozen BK556.out 11) | ((with_reducible refine gate_callee (f := 6) rfl ?_); refine gs_ (some 13) Tryz.func6 #[.agg #[.slice A0_0 l0_0.length c0_0, .slice A0_1 l0_1.length c0_1, .slice A0_2 l0_2.length c0_2, .slice A0_3 l0_3.length c0_3, .slice A0_4 l0_4.length c0_4, .slice A0_5 l0_5.length c0_5, .int .i64 a0_6, .slice A0_7 l0_7.length c0_7, .slice A0_8 l0_8.length c0_8, .int .i64 a0_9, .slice A0_10 l0_10.length c0_10, .slice A0_11 l0_11.length c0_11]] ?_; (with_reducible refine (laws_toWorld.calls k _ _ l0_0 _ _ l0_1 _ _ l0_2 _ _ l0_3 _ _ l0_4 _ _ l0_5 a0_6 _ _ l0_7 _ _ l0_8 a0_9 _ _ l0_10 _ _ l0_11 t558 t561 t564 t567 t570 t573 t576 t577 t580 t583 t584 t587 _ ?side1 ?side2 ?side3 ?side4 ?side5 ?side6 ?side7 ?side8 ?side9 ?side10 ?side11 ?side12 ?side13 ?side14 ?side15 ?side16 ?side17 ?side18 ?side19 ?side20 A7.out).mono ?_); (case side1 => exact cb_ HR0_0.out HB.out); (case side2 => exact HC0_0.out); (case side3 => exact cb_ HR0_1.out HB.out); (case side4 => exact HC0_1.out); (case side5 => exact cb_ HR0_2.out HB.out); (case side6 => exact HC0_2.out); (case side7 => exact cb_ HR0_3.out HB.out); (case side8 => exact HC0_3.out); (case side9 => exact cb_ HR0_4.out HB.out); (case side10 => exact HC0_4.out); (case side11 => exact cb_ HR0_5.out HB.out); (case side12 => exact HC0_5.out); (case side13 => exact cb_ HR0_7.out HB.out); (case side14 => exact HC0_7.out); (case side15 => exact cb_ HR0_8.out HB.out); (case side16 => exact HC0_8.out); (case side17 => exact cb_ HR0_10.out HB.out); (case side18 => exact HC0_10.out); (case side19 => exact cb_ HR0_11.out HB.out); (case side20 => exact HC0_11.out); rintro e w19 ⟨v559, v562, v565, v568, v571, v574, v578, v581, v585, v588, rfl, ho0, ho1, ho2, ho3, ho4, ho5, ho6, ho7, ho8, ho9, hb⟩; refine ⟨_, rfl, ?_⟩; have HO560 := Aside0.mk (Kd.R_lower ho0 (below_size bl_)); have HO563 := Aside0.mk (Kd.S_lower ho1 (below_size bl_)); have HO566 := Aside0.mk (Kd.S_lower ho2 (below_size bl_)); have HO569 := Aside0.mk (Kd.R_lower ho3 (below_size bl_)); have HO572 := Aside0.mk (Kd.R_lower ho4 (below_size bl_)); have HO575 := Aside0.mk (Kd.R_lower ho5 (below_size bl_)); have HO579 := Aside0.mk (Kd.R_lower ho6 (below_size bl_)); have HO582 := Aside0.mk (Kd.R_lower ho7 (below_size bl_)); have HO586 := Aside0.mk (Kd.R_lower ho8 (below_size bl_)); have HO589 := Aside0.mk (Kd.R_lower ho9 (below_size bl_)); replace BK556 := Aside0.mk (blk_below (bn0_ BK556.out) hb); replace HB := Aside0.mk (below_step bl_ hb); (try clear hb); (try clear ho0); (try clear ho1); (try clear ho2); (try clear ho3); (try clear ho4); (try clear ho5); (try clear ho6); (try clear ho7); (try clear ho8); (try clear ho9); obtain ⟨Ao20, co20, eo20⟩ := Kd.R_slice HO560.out; subst eo20; obtain ⟨Ao21, co21, eo21⟩ := Kd.S_slice HO563.out; subst eo21; obtain ⟨Ao22, co22, eo22⟩ := Kd.S_slice HO566.out; subst eo22; obtain ⟨Ao23, co23, eo23⟩ := Kd.R_slice HO569.out; subst eo23; obtain ⟨Ao24, co24, eo24⟩ := Kd.R_slice HO572.out; subst eo24; obtain ⟨Ao25, co25, eo25⟩ := Kd.R_slice HO575.out; subst eo25; obtain ⟨Ao26, co26, eo26⟩ := Kd.R_slice HO579.out; subst eo26; obtain ⟨Ao27, co27, eo27⟩ := Kd.R_slice HO582.out; subst eo27; obtain ⟨Ao28, co28, eo28⟩ := Kd.R_slice HO586.out; subst eo28; obtain ⟨Ao29, co29, eo29⟩ := Kd.R_slice HO589.out; subst eo29) | ((with_reducible refine gate_callee (f := 5) rfl ?_); refine gs_ (some 14) Tryz.func5 #[.agg #[.slice Ao20 t558.length co20, .slice Ao21 t561.length co21, .slice Ao22 t564.length co22, .slice Ao23 t567.length co23, .slice Ao24 t570.length co24, .slice Ao25 t573.length co25, .int .i64 t576, .slice Ao26 t577.length co26, .slice Ao27 t580.length co27, .int .i64 t583, .slice Ao28 t584.length co28, .slice Ao29 t587.length co29]] ?_; (with_reducible refine (spec_ShowWorld.calls k _ _ t558 _ _ t561 _ _ t564 _ _ t567 _ _ t570 _ _ t573 t576 _ _ t577 _ _ t580 t583 _ _ t584 _ _ t587 t590 _ ?side1 ?side2 ?side3 ?side4 ?side5 ?side6 ?side7 ?side8 ?side9 ?side10 ?side11 ?side12 ?side13 ?side14 ?side15 ?side16 ?side17 ?side18 ?side19 ?side20 A8.out).mono ?_); (case side1 => exact cs_ ((Kd.R_reads' HO560.out).2.2)); (case side2 => exact (Kd.R_reads' HO560.out).2.1); (case side3 => exact cs_ ((Kd.S_reads' HO563.out).2.2)); (case side4 => exact (Kd.S_reads' HO563.out).2.1); (case side5 => exact cs_ ((Kd.S_reads' HO566.out).2.2)); (case side6 => exact (Kd.S_reads' HO566.out).2.1); (case side7 => exact cs_ ((Kd.R_reads' HO569.out).2.2)); (case side8 => exact (Kd.R_reads' HO569.out).2.1); (case side9 => exact cs_ ((Kd.R_reads' HO572.out).2.2)); (case side10 => exact (Kd.R_reads' HO572.out).2.1); (case side11 => exact cs_ ((Kd.R_reads' HO575.out).2.2)); (case side12 => exact (Kd.R_reads' HO575.out).2.1); (case side13 => exact cs_ ((Kd.R_reads' HO579.out).2.2)); (case side14 => exact (Kd.R_reads' HO579.out).2.1); (case side15 => exact cs_ ((Kd.R_reads' HO582.out).2.2)); (case side16 => exact (Kd.R_reads' HO582.out).2.1); (case side17 => exact cs_ ((Kd.R_reads' HO586.out).2.2)); (case side18 => exact (Kd.R_reads' HO586.out).2.1); (case side19 => exact cs_ ((Kd.R_reads' HO589.out).2.2)); (case side20 => exact (Kd.R_reads' HO589.out).2.1); rintro e w30 ⟨rfl, hb⟩; refine ⟨_, rfl, ?_⟩; replace HO560 := Aside0.mk (Kd.R_below (ra_ HO560.out) hb); replace HO563 := Aside0.mk (Kd.S_below (by (with_reducible repeat (first | apply Kd.S_alloc | apply Kd.S_drewN | apply Kd.S_drew)); exact HO563.out) hb); replace HO566 := Aside0.mk (Kd.S_below (by (with_reducible repeat (first | apply Kd.S_alloc | apply Kd.S_drewN | apply Kd.S_drew)); exact HO566.out) hb); replace HO569 := Aside0.mk (Kd.R_below (ra_ HO569.out) hb); replace HO572 := Aside0.mk (Kd.R_below (ra_ HO572.out) hb); replace HO575 := Aside0.mk (Kd.R_below (ra_ HO575.out) hb); replace HO579 := Aside0.mk (Kd.R_below (ra_ HO579.out) hb); replace HO582 := Aside0.mk (Kd.R_below (ra_ HO582.out) hb); replace HO586 := Aside0.mk (Kd.R_below (ra_ HO586.out) hb); replace HO589 := Aside0.mk (Kd.R_below (ra_ HO589.out) hb); replace BK556 := Aside0.mk (blk_below (bn0_ BK556.out) hb); replace HB := Aside0.mk (below_step bl_ hb); (try clear hb); have hcz31_0 : w30.cell? ⟨gb556, 0, none⟩ = some (.slice A0_0 l0_0.length c0_0) := (blk_cell BK556.out 0).trans rfl; have hcz31_1 : w30.cell? ⟨gb556, 1, none⟩ = some (.slice A0_1 l0_1.length c0_1) := (blk_cell BK556.out 1).trans rfl; have hcz31_2 : w30.cell? ⟨gb556, 2, none⟩ = some (.slice A0_2 l0_2.length c0_2) := (blk_cell BK556.out 2).trans rfl; have hcz31_3 : w30.cell? ⟨gb556, 3, none⟩ = some (.slice A0_3 l0_3.length c0_3) := (blk_cell BK556.out 3).trans rfl; have hcz31_4 : w30.cell? ⟨gb556, 4, none⟩ = some (.slice A0_4 l0_4.length c0_4) := (blk_cell BK556.out 4).trans rfl; have hcz31_5 : w30.cell? ⟨gb556, 5, none⟩ = some (.slice A0_5 l0_5.length c0_5) := (blk_cell BK556.out 5).trans rfl; have hcz31_6 : w30.cell? ⟨gb556, 6, none⟩ = some (.int .i64 a0_6) := (blk_cell BK556.out 6).trans rfl; have hcz31_7 : w30.cell? ⟨gb556, 7, none⟩ = some (.slice A0_7 l0_7.length c0_7) := (blk_cell BK556.out 7).trans rfl; have hcz31_8 : w30.cell? ⟨gb556, 8, none⟩ = some (.slice A0_8 l0_8.length c0_8) := (blk_cell BK556.out 8).trans rfl; have hcz31_9 : w30.cell? ⟨gb556, 9, none⟩ = some (.int .i64 a0_9) := (blk_cell BK556.out 9).trans rfl; have hcz31_10 : w30.cell? ⟨gb556, 10, none⟩ = some (.slice A0_10 l0_10.length c0_10) := (blk_cell BK556.out 10).trans rfl; have hcz31_11 : w30.cell? ⟨gb556, 11, none⟩ = some (.slice A0_11 l0_11.length c0_11) := (blk_cell BK556.out 11).trans rfl; have hfz31_0 := blk_frozen BK556.out 0; have hfz31_1 := blk_frozen BK556.out 1; have hfz31_2 := blk_frozen BK556.out 2; have hfz31_3 := blk_frozen BK556.out 3; have hfz31_4 := blk_frozen BK556.out 4; have hfz31_5 := blk_frozen BK556.out 5; have hfz31_6 := blk_frozen BK556.out 6; have hfz31_7 := blk_frozen BK556.out 7; have hfz31_8 := blk_frozen BK556.out 8; have hfz31_9 := blk_frozen BK556.out 9; have hfz31_10 := blk_frozen BK556.out 10; have hfz31_11 := blk_frozen BK556.out 11) | ((with_reducible refine gate_callee (f := 6) rfl ?_); refine gs_ (some 16) Tryz.func6 #[.agg #[.slice A0_0 l0_0.length c0_0, .slice A0_1 l0_1.length c0_1, .slice A0_2 l0_2.length c0_2, .slice A0_3 l0_3.length c0_3, .slice A0_4 l0_4.length c0_4, .slice A0_5 l0_5.length c0_5, .int .i64 a0_6, .slice A0_7 l0_7.length c0_7, .slice A0_8 l0_8.length c0_8, .int .i64 a0_9, .slice A0_10 l0_10.length c0_10, .slice A0_11 l0_11.length c0_11]] ?_; (with_reducible refine (laws_toWorld.calls k _ _ l0_0 _ _ l0_1 _ _ l0_2 _ _ l0_3 _ _ l0_4 _ _ l0_5 a0_6 _ _ l0_7 _ _ l0_8 a0_9 _ _ l0_10 _ _ l0_11 t591 t594 t597 t600 t603 t606 t609 t610 t613 t616 t617 t620 _ ?side1 ?side2 ?side3 ?side4 ?side5 ?side6 ?side7 ?side8 ?side9 ?side10 ?side11 ?side12 ?side13 ?side14 ?side15 ?side16 ?side17 ?side18 ?side19 ?side20 A9.out).mono ?_); (case side1 => exact cb_ HR0_0.out HB.out); (case side2 => exact HC0_0.out); (case side3 => exact cb_ HR0_1.out HB.out); (case side4 => exact HC0_1.out); (case side5 => exact cb_ HR0_2.out HB.out); (case side6 => exact HC0_2.out); (case side7 => exact cb_ HR0_3.out HB.out); (case side8 => exact HC0_3.out); (case side9 => exact cb_ HR0_4.out HB.out); (case side10 => exact HC0_4.out); (case side11 => exact cb_ HR0_5.out HB.out); (case side12 => exact HC0_5.out); (case side13 => exact cb_ HR0_7.out HB.out); (case side14 => exact HC0_7.out); (case side15 => exact cb_ HR0_8.out HB.out); (case side16 => exact HC0_8.out); (case side17 => exact cb_ HR0_10.out HB.out); (case side18 => exact HC0_10.out); (case side19 => exact cb_ HR0_11.out HB.out); (case side20 => exact HC0_11.out); rintro e w32 ⟨v592, v595, v598, v601, v604, v607, v611, v614, v618, v621, rfl, ho0, ho1, ho2, ho3, ho4, ho5, ho6, ho7, ho8, ho9, hb⟩; refine ⟨_, rfl, ?_⟩; have HO593 := Aside0.mk (Kd.R_lower ho0 (below_size bl_)); have HO596 := Aside0.mk (Kd.S_lower ho1 (below_size bl_)); have HO599 := Aside0.mk (Kd.S_lower ho2 (below_size bl_)); have HO602 := Aside0.mk (Kd.R_lower ho3 (below_size bl_)); have HO605 := Aside0.mk (Kd.R_lower ho4 (below_size bl_)); have HO608 := Aside0.mk (Kd.R_lower ho5 (below_size bl_)); have HO612 := Aside0.mk (Kd.R_lower ho6 (below_size bl_)); have HO615 := Aside0.mk (Kd.R_lower ho7 (below_size bl_)); have HO619 := Aside0.mk (Kd.R_lower ho8 (below_size bl_)); have HO622 := Aside0.mk (Kd.R_lower ho9 (below_size bl_)); replace BK556 := Aside0.mk (blk_below (bn0_ BK556.out) hb); replace HB := Aside0.mk (below_step bl_ hb); (try clear hb); (try clear ho0); (try clear ho1); (try clear ho2); (try clear ho3); (try clear ho4); (try clear ho5); (try clear ho6); (try clear ho7); (try clear ho8); (try clear ho9)) | ((with_reducible refine gate_dst (N := 5) rfl ?_); refine bx_ 5 46 #[.slice none 0 0, .slice none 0 0, .slice none 0 0, .slice none 0 0, .slice none 0 0, .slice none 0 0, .int .i64 0, .slice none 0 0, .slice none 0 0, .int .i64 0, .slice none 0 0, .slice none 0 0] ?_; intro gb623 hg w33 hbox hb; replace HO593 := Aside0.mk (Kd.R_below (ra_ HO593.out) hb); replace HO596 := Aside0.mk (Kd.S_below (by (with_reducible repeat (first | apply Kd.S_alloc | apply Kd.S_drewN | apply Kd.S_drew)); exact HO596.out) hb); replace HO599 := Aside0.mk (Kd.S_below (by (with_reducible repeat (first | apply Kd.S_alloc | apply Kd.S_drewN | apply Kd.S_drew)); exact HO599.out) hb); replace HO602 := Aside0.mk (Kd.R_below (ra_ HO602.out) hb); replace HO605 := Aside0.mk (Kd.R_below (ra_ HO605.out) hb); replace HO608 := Aside0.mk (Kd.R_below (ra_ HO608.out) hb); replace HO612 := Aside0.mk (Kd.R_below (ra_ HO612.out) hb); replace HO615 := Aside0.mk (Kd.R_below (ra_ HO615.out) hb); replace HO619 := Aside0.mk (Kd.R_below (ra_ HO619.out) hb); replace HO622 := Aside0.mk (Kd.R_below (ra_ HO622.out) hb); have BK623 := Aside0.mk (hbox); have GW623 := Aside0.mk ((hz_ : w.heap.size ≤ gb623)); have GE623 := Aside0.mk ((hz_ : w.heap.size ≤ gb623)); replace HB := Aside0.mk (below_step bl_ hb); have NB556_623 := Aside0.mk ((by rw [hg]; exact Nat.ne_of_lt (blk_lt (g := gb556) (o := .cells #[.slice A0_0 l0_0.length c0_0, .slice A0_1 l0_1.length c0_1, .slice A0_2 l0_2.length c0_2, .slice A0_3 l0_3.length c0_3, .slice A0_4 l0_4.length c0_4, .slice A0_5 l0_5.length c0_5, .int .i64 a0_6, .slice A0_7 l0_7.length c0_7, .slice A0_8 l0_8.length c0_8, .int .i64 a0_9, .slice A0_10 l0_10.length c0_10, .slice A0_11 l0_11.length c0_11] 33 (0, 0)) (bk_ BK556.out)) : gb556 ≠ gb623)); have NB623_556 := Aside0.mk ((by rw [hg]; exact Nat.ne_of_gt (blk_lt (g := gb556) (o := .cells #[.slice A0_0 l0_0.length c0_0, .slice A0_1 l0_1.length c0_1, .slice A0_2 l0_2.length c0_2, .slice A0_3 l0_3.length c0_3, .slice A0_4 l0_4.length c0_4, .slice A0_5 l0_5.length c0_5, .int .i64 a0_6, .slice A0_7 l0_7.length c0_7, .slice A0_8 l0_8.length c0_8, .int .i64 a0_9, .slice A0_10 l0_10.length c0_10, .slice A0_11 l0_11.length c0_11] 33 (0, 0)) (bk_ BK556.out)) : gb623 ≠ gb556)); replace BK556 := Aside0.mk (blk_below (bn0_ BK556.out) hb); clear hb hbox hg; obtain ⟨Ao34, co34, eo34⟩ := Kd.R_slice HO593.out; subst eo34; have hnb35 := NB623_556.out; have hnc35 := NB556_623.out; have hcz36_0 : w33.cell? ⟨gb623, 0, none⟩ = some (.slice none 0 0) := (blk_cell BK623.out 0).trans rfl; have hcz36_1 : w33.cell? ⟨gb623, 1, none⟩ = some (.slice none 0 0) := (blk_cell BK623.out 1).trans rfl; have hcz36_2 : w33.cell? ⟨gb623, 2, none⟩ = some (.slice none 0 0) := (blk_cell BK623.out 2).trans rfl; have hcz36_3 : w33.cell? ⟨gb623, 3, none⟩ = some (.slice none 0 0) := (blk_cell BK623.out 3).trans rfl; have hcz36_4 : w33.cell? ⟨gb623, 4, none⟩ = some (.slice none 0 0) := (blk_cell BK623.out 4).trans rfl; have hcz36_5 : w33.cell? ⟨gb623, 5, none⟩ = some (.slice none 0 0) := (blk_cell BK623.out 5).trans rfl; have hcz36_6 : w33.cell? ⟨gb623, 6, none⟩ = some (.int .i64 0) := (blk_cell BK623.out 6).trans rfl; have hcz36_7 : w33.cell? ⟨gb623, 7, none⟩ = some (.slice none 0 0) := (blk_cell BK623.out 7).trans rfl; have hcz36_8 : w33.cell? ⟨gb623, 8, none⟩ = some (.slice none 0 0) := (blk_cell BK623.out 8).trans rfl; have hcz36_9 : w33.cell? ⟨gb623, 9, none⟩ = some (.int .i64 0) := (blk_cell BK623.out 9).trans rfl; have hcz36_10 : w33.cell? ⟨gb623, 10, none⟩ = some (.slice none 0 0) := (blk_cell BK623.out 10).trans rfl; have hcz36_11 : w33.cell? ⟨gb623, 11, none⟩ = some (.slice none 0 0) := (blk_cell BK623.out 11).trans rfl; have hfz36_0 := blk_frozen BK623.out 0; have hfz36_1 := blk_frozen BK623.out 1; have hfz36_2 := blk_frozen BK623.out 2; have hfz36_3 := blk_frozen BK623.out 3; have hfz36_4 := blk_frozen BK623.out 4; have hfz36_5 := blk_frozen BK623.out 5; have hfz36_6 := blk_frozen BK623.out 6; have hfz36_7 := blk_frozen BK623.out 7; have hfz36_8 := blk_frozen BK623.out 8; have hfz36_9 := blk_frozen BK623.out 9; have hfz36_10 := blk_frozen BK623.out 10; have hfz36_11 := blk_frozen BK623.out 11; obtain ⟨Ao37, co37, eo37⟩ := Kd.S_slice HO596.out; subst eo37; obtain ⟨Ao38, co38, eo38⟩ := Kd.S_slice HO599.out; subst eo38; obtain ⟨Ao39, co39, eo39⟩ := Kd.R_slice HO602.out; subst eo39; obtain ⟨Ao40, co40, eo40⟩ := Kd.R_slice HO605.out; subst eo40; obtain ⟨Ao41, co41, eo41⟩ := Kd.R_slice HO608.out; subst eo41; obtain ⟨Ao42, co42, eo42⟩ := Kd.R_slice HO612.out; subst eo42; obtain ⟨Ao43, co43, eo43⟩ := Kd.R_slice HO615.out; subst eo43; obtain ⟨Ao44, co44, eo44⟩ := Kd.R_slice HO619.out; subst eo44; obtain ⟨Ao45, co45, eo45⟩ := Kd.R_slice HO622.out; subst eo45) | ((with_reducible refine gate_callee (f := 7) rfl ?_); refine gs_ (some 18) Tryz.func7 #[.agg #[.slice Ao34 t591.length co34, .slice Ao37 t594.length co37, .slice Ao38 t597.length co38, .slice Ao39 t600.length co39, .slice Ao40 t603.length co40, .slice Ao41 t606.length co41, .int .i64 t609, .slice Ao42 t610.length co42, .slice Ao43 t613.length co43, .int .i64 t616, .slice Ao44 t617.length co44, .slice Ao45 t620.length co45]] ?_; (with_reducible refine (impl_ShowWorld.calls k _ _ t591 _ _ t594 _ _ t597 _ _ t600 _ _ t603 _ _ t606 t609 _ _ t610 _ _ t613 t616 _ _ t617 _ _ t620 t624 _ ?side1 ?side2 ?side3 ?side4 ?side5 ?side6 ?side7 ?side8 ?side9 ?side10 ?side11 ?side12 ?side13 ?side14 ?side15 ?side16 ?side17 ?side18 ?side19 ?side20 ?side21 A10.out).mono ?_); (case side1 => refine (Kd.R_reads' (e := 97) (base := w.heap.size) (ok := fun k_ => True) (n := t591.length) (c := co34) ?_).2.2; exact (rfa_ HO593.out BK623.out)); (case side2 => exact (Kd.R_reads' HO593.out).2.1); (case side3 => refine (Kd.S_reads' (e := 101) (base := w.heap.size) (ok := fun k_ => True) (n := t594.length) (c := co37) ?_).2.2; exact (sfa_ HO596.out BK623.out)); (case side4 => exact (Kd.S_reads' HO596.out).2.1); (case side5 => refine (Kd.S_reads' (e := 104) (base := w.heap.size) (ok := fun k_ => True) (n := t597.length) (c := co38) ?_).2.2; exact (sfa_ HO599.out BK623.out)); (case side6 => exact (Kd.S_reads' HO599.out).2.1); (case side7 => refine (Kd.R_reads' (e := 61) (base := w.heap.size) (ok := fun k_ => True) (n := t600.length) (c := co39) ?_).2.2; exact (rfa_ HO602.out BK623.out)); (case side8 => exact (Kd.R_reads' HO602.out).2.1); (case side9 => refine (Kd.R_reads' (e := 3) (base := w.heap.size) (ok := fun k_ => (some k_ ≠ (.slice Ao42 t610.length co42 : Value).ownBlock ∧ some k_ ≠ (.slice Ao44 t617.length co44 : Value).ownBlock)) (n := t603.length) (c := co40) ?_).2.2; exact (rfa_ HO605.out BK623.out)); (case side10 => exact (Kd.R_reads' HO605.out).2.1); (case side11 => refine (Kd.R_reads' (e := 142) (base := w.heap.size) (ok := fun k_ => True) (n := t606.length) (c := co41) ?_).2.2; exact (rfa_ HO608.out BK623.out)); (case side12 => exact (Kd.R_reads' HO608.out).2.1); (case side13 => refine (Kd.R_reads' (e := 3) (base := w.heap.size) (ok := fun k_ => (some k_ ≠ (.slice Ao40 t603.length co40 : Value).ownBlock ∧ some k_ ≠ (.slice Ao44 t617.length co44 : Value).ownBlock)) (n := t610.length) (c := co42) ?_).2.2; exact (rfa_ HO612.out BK623.out)); (case side14 => exact (Kd.R_reads' HO612.out).2.1); (case side15 => refine (Kd.R_reads' (e := 108) (base := w.heap.size) (ok := fun k_ => True) (n := t613.length) (c := co43) ?_).2.2; exact (rfa_ HO615.out BK623.out)); (case side16 => exact (Kd.R_reads' HO615.out).2.1); (case side17 => refine (Kd.R_reads' (e := 3) (base := w.heap.size) (ok := fun k_ => (some k_ ≠ (.slice Ao40 t603.length co40 : Value).ownBlock ∧ some k_ ≠ (.slice Ao42 t610.length co42 : Value).ownBlock)) (n := t617.length) (c := co44) ?_).2.2; exact (rfa_ HO619.out BK623.out)); (case side18 => exact (Kd.R_reads' HO619.out).2.1); (case side19 => refine (Kd.R_reads' (e := 111) (base := w.heap.size) (ok := fun k_ => True) (n := t620.length) (c := co45) ?_).2.2; exact (rfa_ HO622.out BK623.out)); (case side20 => exact (Kd.R_reads' HO622.out).2.1); (case side21 => exact tab_of HT.out bl_); rintro e w46 ⟨rfl, hb⟩; refine ⟨_, rfl, ?_⟩; replace HO593 := Aside0.mk (Kd.R_below (rfa_ HO593.out BK623.out) hb); replace HO596 := Aside0.mk (Kd.S_below (sfa_ HO596.out BK623.out) hb); replace HO599 := Aside0.mk (Kd.S_below (sfa_ HO599.out BK623.out) hb); replace HO602 := Aside0.mk (Kd.R_below (rfa_ HO602.out BK623.out) hb); replace HO605 := Aside0.mk (Kd.R_below (rfa_ HO605.out BK623.out) hb); replace HO608 := Aside0.mk (Kd.R_below (rfa_ HO608.out BK623.out) hb); replace HO612 := Aside0.mk (Kd.R_below (rfa_ HO612.out BK623.out) hb); replace HO615 := Aside0.mk (Kd.R_below (rfa_ HO615.out BK623.out) hb); replace HO619 := Aside0.mk (Kd.R_below (rfa_ HO619.out BK623.out) hb); replace HO622 := Aside0.mk (Kd.R_below (rfa_ HO622.out BK623.out) hb); replace BK556 := Aside0.mk (blk_below (bn1_ BK556.out NB556_623.out) hb); replace BK623 := Aside0.mk (blk_below (g := gb623) (o := .cells #[.slice Ao34 t591.length co34, .slice Ao37 t594.length co37, .slice Ao38 t597.length co38, .slice Ao39 t600.length co39, .slice Ao40 t603.length co40, .slice Ao41 t606.length co41, .int .i64 t609, .slice Ao42 t610.length co42, .slice Ao43 t613.length co43, .int .i64 t616, .slice Ao44 t617.length co44, .slice Ao45 t620.length co45] 46 (0, 0)) (bp0_ BK623.out) hb); replace HB := Aside0.mk (below_step bl_ hb); (try clear hb)))
 have n0_ := Aside0.mk (Kd.R_drew HO593.out)
 have n1_ := Aside0.mk (Kd.S_drew HO596.out)
 have n2_ := Aside0.mk (Kd.S_drew HO599.out)
 have n3_ := Aside0.mk (Kd.R_drew HO602.out)
 have n4_ := Aside0.mk (Kd.R_drew HO605.out)
 have n5_ := Aside0.mk (Kd.R_drew HO608.out)
 have n6_ := Aside0.mk (Kd.R_drew HO612.out)
 have n7_ := Aside0.mk (Kd.R_drew HO615.out)
 have n8_ := Aside0.mk (Kd.R_drew HO619.out)
 have n9_ := Aside0.mk (Kd.R_drew HO622.out)
 have n10_ := Aside0.mk (blk_drew BK556.out)
 have n11_ := Aside0.mk (blk_drew BK623.out)
 have n12_ := Aside0.mk (below_drew1 HB.out)
 clear HO593
 clear HO596
 clear HO599
 clear HO602
 clear HO605
 clear HO608
 clear HO612
 clear HO615
 clear HO619
 clear HO622
 clear BK556
 clear BK623
 clear HB
 have HO593 := n0_
 have HO596 := n1_
 have HO599 := n2_
 have HO602 := n3_
 have HO605 := n4_
 have HO608 := n5_
 have HO612 := n6_
 have HO615 := n7_
 have HO619 := n8_
 have HO622 := n9_
 have BK556 := n10_
 have BK623 := n11_
 have HB := n12_
 clear n0_ n1_ n2_ n3_ n4_ n5_ n6_ n7_ n8_ n9_ n10_ n11_ n12_
 refine start_ (n := 5) (S := fun w' => w'.cell? ⟨gb623, 0, none⟩ = some (.slice Ao34 t591.length co34) ∧ w'.cell? ⟨gb623, 1, none⟩ = some (.slice Ao37 t594.length co37) ∧ w'.cell? ⟨gb623, 2, none⟩ = some (.slice Ao38 t597.length co38) ∧ w'.cell? ⟨gb623, 3, none⟩ = some (.slice Ao39 t600.length co39) ∧ w'.cell? ⟨gb623, 4, none⟩ = some (.slice Ao40 t603.length co40) ∧ w'.cell? ⟨gb623, 5, none⟩ = some (.slice Ao41 t606.length co41) ∧ w'.cell? ⟨gb623, 6, none⟩ = some (.int .i64 t609) ∧ w'.cell? ⟨gb623, 7, none⟩ = some (.slice Ao42 t610.length co42) ∧ w'.cell? ⟨gb623, 8, none⟩ = some (.slice Ao43 t613.length co43) ∧ w'.cell? ⟨gb623, 9, none⟩ = some (.int .i64 t616) ∧ w'.cell? ⟨gb623, 10, none⟩ = some (.slice Ao44 t617.length co44) ∧ w'.cell? ⟨gb623, 11, none⟩ = some (.slice Ao45 t620.length co45) ∧ w'.cell? ⟨gb556, 0, none⟩ = some (.slice A0_0 l0_0.length c0_0) ∧ w'.cell? ⟨gb556, 1, none⟩ = some (.slice A0_1 l0_1.length c0_1) ∧ w'.cell? ⟨gb556, 2, none⟩ = some (.slice A0_2 l0_2.length c0_2) ∧ w'.cell? ⟨gb556, 3, none⟩ = some (.slice A0_3 l0_3.length c0_3) ∧ w'.cell? ⟨gb556, 4, none⟩ = some (.slice A0_4 l0_4.length c0_4) ∧ w'.cell? ⟨gb556, 5, none⟩ = some (.slice A0_5 l0_5.length c0_5) ∧ w'.cell? ⟨gb556, 6, none⟩ = some (.int .i64 a0_6) ∧ w'.cell? ⟨gb556, 7, none⟩ = some (.slice A0_7 l0_7.length c0_7) ∧ w'.cell? ⟨gb556, 8, none⟩ = some (.slice A0_8 l0_8.length c0_8) ∧ w'.cell? ⟨gb556, 9, none⟩ = some (.int .i64 a0_9) ∧ w'.cell? ⟨gb556, 10, none⟩ = some (.slice A0_10 l0_10.length c0_10) ∧ w'.cell? ⟨gb556, 11, none⟩ = some (.slice A0_11 l0_11.length c0_11)) (ds := []) #[false, false, false, false, false] (by kernel_rfl) rfl rfl ⟨(blk_cell BK623.out 0).trans rfl, (blk_cell BK623.out 1).trans rfl, (blk_cell BK623.out 2).trans rfl, (blk_cell BK623.out 3).trans rfl, (blk_cell BK623.out 4).trans rfl, (blk_cell BK623.out 5).trans rfl, (blk_cell BK623.out 6).trans rfl, (blk_cell BK623.out 7).trans rfl, (blk_cell BK623.out 8).trans rfl, (blk_cell BK623.out 9).trans rfl, (blk_cell BK623.out 10).trans rfl, (blk_cell BK623.out 11).trans rfl, (blk_cell BK556.out 0).trans rfl, (blk_cell BK556.out 1).trans rfl, (blk_cell BK556.out 2).trans rfl, (blk_cell BK556.out 3).trans rfl, (blk_cell BK556.out 4).trans rfl, (blk_cell BK556.out 5).trans rfl, (blk_cell BK556.out 6).trans rfl, (blk_cell BK556.out 7).trans rfl, (blk_cell BK556.out 8).trans rfl, (blk_cell BK556.out 9).trans rfl, (blk_cell BK556.out 10).trans rfl, (blk_cell BK556.out 11).trans rfl⟩ (fun hHeld => ?_)
 generalize w46.drew = w47 at HO593 HO596 HO599 HO602 HO605 HO608 HO612 HO615 HO619 HO622 BK556 BK623 HB hHeld ⊢
 refine take_ (i := 0) (N := some 22) (v := ?_) (a' := ?_) #[true, false, false, false, false] rfl rfl (by kernel_rfl) (fun _ _ _ h => h) (Or.inl ⟨by rfl, ?_⟩) hHeld ?_ ?_
 rotate_left
 ·rintro w' ⟨s0, s1, s2, s3, s4, s5, s6, s7, s8, s9, s10, s11, s12, s13, s14, s15, s16, s17, s18, s19, s20, s21, s22, s23⟩
  go_simp
  with_reducible rfl
 rotate_left
 ·simp only [Act.put, List.setIfInBounds_toArray, List.set_cons_zero, List.set_cons_succ, i64_w, i32_w]
  rfl
 refine take_ (i := 1) (N := some 23) (v := ?_) (a' := ?_) #[true, true, false, false, false] rfl rfl (by kernel_rfl) (fun _ _ _ h => h) (Or.inl ⟨by rfl, ?_⟩) hHeld ?_ ?_
 rotate_left
 ·rintro w' ⟨s0, s1, s2, s3, s4, s5, s6, s7, s8, s9, s10, s11, s12, s13, s14, s15, s16, s17, s18, s19, s20, s21, s22, s23⟩
  go_simp
  with_reducible rfl
 rotate_left
 ·simp only [Act.put, List.setIfInBounds_toArray, List.set_cons_zero, List.set_cons_succ, i64_w, i32_w]
  rfl
 refine one_ (i := 2) (N := some 24) #[true, true, true, false, false] rfl rfl (by kernel_rfl) (by decide) (fun K hK => ?_)
 refine goes_ Tryz.func6 (by kernel_rfl) rfl #[.agg #[.slice A0_0 l0_0.length c0_0, .slice A0_1 l0_1.length c0_1, .slice A0_2 l0_2.length c0_2, .slice A0_3 l0_3.length c0_3, .slice A0_4 l0_4.length c0_4, .slice A0_5 l0_5.length c0_5, .int .i64 a0_6, .slice A0_7 l0_7.length c0_7, .slice A0_8 l0_8.length c0_8, .int .i64 a0_9, .slice A0_10 l0_10.length c0_10, .slice A0_11 l0_11.length c0_11]] (by rfl) rfl rfl lm_ ?_
 with_reducible refine (laws_toWorld.calls k _ _ l0_0 _ _ l0_1 _ _ l0_2 _ _ l0_3 _ _ l0_4 _ _ l0_5 a0_6 _ _ l0_7 _ _ l0_8 a0_9 _ _ l0_10 _ _ l0_11 t625 t628 t631 t634 t637 t640 t643 t644 t647 t650 t651 t654 _ ?side1 ?side2 ?side3 ?side4 ?side5 ?side6 ?side7 ?side8 ?side9 ?side10 ?side11 ?side12 ?side13 ?side14 ?side15 ?side16 ?side17 ?side18 ?side19 ?side20 A12.out).mono ?_
 (case side1 => exact cb_ HR0_0.out HB.out)
 (case side2 => exact HC0_0.out)
 (case side3 => exact cb_ HR0_1.out HB.out)
 (case side4 => exact HC0_1.out)
 (case side5 => exact cb_ HR0_2.out HB.out)
 (case side6 => exact HC0_2.out)
 (case side7 => exact cb_ HR0_3.out HB.out)
 (case side8 => exact HC0_3.out)
 (case side9 => exact cb_ HR0_4.out HB.out)
 (case side10 => exact HC0_4.out)
 (case side11 => exact cb_ HR0_5.out HB.out)
 (case side12 => exact HC0_5.out)
 (case side13 => exact cb_ HR0_7.out HB.out)
 (case side14 => exact HC0_7.out)
 (case side15 => exact cb_ HR0_8.out HB.out)
 (case side16 => exact HC0_8.out)
 (case side17 => exact cb_ HR0_10.out HB.out)
 (case side18 => exact HC0_10.out)
 (case side19 => exact cb_ HR0_11.out HB.out)
 (case side20 => exact HC0_11.out)
 rintro e w48 ⟨v626, v629, v632, v635, v638, v641, v645, v648, v652, v655, rfl, ho0, ho1, ho2, ho3, ho4, ho5, ho6, ho7, ho8, ho9, hb⟩
 refine ⟨_, rfl, ?_⟩
 have n0_ := Aside0.mk (Kd.R_elder' (ra_ HO593.out) (Kd.R_base ho0) hb)
 have n1_ := Aside0.mk (Kd.S_elder' (by (with_reducible repeat (first | apply Kd.S_alloc | apply Kd.S_drewN | apply Kd.S_drew)); exact HO596.out) (Kd.S_base ho1) hb)
 have n2_ := Aside0.mk (Kd.S_elder' (by (with_reducible repeat (first | apply Kd.S_alloc | apply Kd.S_drewN | apply Kd.S_drew)); exact HO599.out) (Kd.S_base ho2) hb)
 have n3_ := Aside0.mk (Kd.R_elder' (ra_ HO602.out) (Kd.R_base ho3) hb)
 have n4_ := Aside0.mk (Kd.R_mono (Kd.R_told (Kd.R_told (Kd.R_told (Kd.R_old (ra_ HO605.out) hb) (Kd.R_base ho4)) (Kd.R_base ho6)) (Kd.R_base ho8)) (fun _ h_ => h_.1))
 have n5_ := Aside0.mk (Kd.R_elder' (ra_ HO608.out) (Kd.R_base ho5) hb)
 have n6_ := Aside0.mk (Kd.R_mono (Kd.R_told (Kd.R_told (Kd.R_told (Kd.R_old (ra_ HO612.out) hb) (Kd.R_base ho4)) (Kd.R_base ho6)) (Kd.R_base ho8)) (fun _ h_ => h_.1))
 have n7_ := Aside0.mk (Kd.R_elder' (ra_ HO615.out) (Kd.R_base ho7) hb)
 have n8_ := Aside0.mk (Kd.R_mono (Kd.R_told (Kd.R_told (Kd.R_told (Kd.R_old (ra_ HO619.out) hb) (Kd.R_base ho4)) (Kd.R_base ho6)) (Kd.R_base ho8)) (fun _ h_ => h_.1))
 have n9_ := Aside0.mk (Kd.R_elder' (ra_ HO622.out) (Kd.R_base ho9) hb)
 have n10_ := Aside0.mk (Kd.R_lower (Kd.R_new' ho0 (Kd.R_lt (ra_ HO593.out))) (below_size bl_))
 have n11_ := Aside0.mk (Kd.S_lower (Kd.S_new' ho1 (Kd.S_lt (by (with_reducible repeat (first | apply Kd.S_alloc | apply Kd.S_drewN | apply Kd.S_drew)); exact HO596.out))) (below_size bl_))
 have n12_ := Aside0.mk (Kd.S_lower (Kd.S_new' ho2 (Kd.S_lt (by (with_reducible repeat (first | apply Kd.S_alloc | apply Kd.S_drewN | apply Kd.S_drew)); exact HO599.out))) (below_size bl_))
 have n13_ := Aside0.mk (Kd.R_lower (Kd.R_new' ho3 (Kd.R_lt (ra_ HO602.out))) (below_size bl_))
 have n14_ := Aside0.mk (Kd.R_lower (Kd.R_new' (Kd.R_new' (Kd.R_new' ho4 (Kd.R_lt (ra_ HO605.out))) (Kd.R_lt (ra_ HO612.out))) (Kd.R_lt (ra_ HO619.out))) (below_size bl_))
 have n15_ := Aside0.mk (Kd.R_lower (Kd.R_new' ho5 (Kd.R_lt (ra_ HO608.out))) (below_size bl_))
 have n16_ := Aside0.mk (Kd.R_lower (Kd.R_new' (Kd.R_new' (Kd.R_new' ho6 (Kd.R_lt (ra_ HO605.out))) (Kd.R_lt (ra_ HO612.out))) (Kd.R_lt (ra_ HO619.out))) (below_size bl_))
 have n17_ := Aside0.mk (Kd.R_lower (Kd.R_new' ho7 (Kd.R_lt (ra_ HO615.out))) (below_size bl_))
 have n18_ := Aside0.mk (Kd.R_lower (Kd.R_new' (Kd.R_new' (Kd.R_new' ho8 (Kd.R_lt (ra_ HO605.out))) (Kd.R_lt (ra_ HO612.out))) (Kd.R_lt (ra_ HO619.out))) (below_size bl_))
 have n19_ := Aside0.mk (Kd.R_lower (Kd.R_new' ho9 (Kd.R_lt (ra_ HO622.out))) (below_size bl_))
 have n20_ := Aside0.mk (blk_below (bn0_ BK556.out) hb)
 have n21_ := Aside0.mk (blk_below (bn0_ BK623.out) hb)
 have n22_ := Aside0.mk (below_step bl_ hb)
 clear HO593
 clear HO596
 clear HO599
 clear HO602
 clear HO605
 clear HO608
 clear HO612
 clear HO615
 clear HO619
 clear HO622
 clear BK556
 clear BK623
 clear HB
 have HO593 := n0_
 have HO596 := n1_
 have HO599 := n2_
 have HO602 := n3_
 have HO605 := n4_
 have HO608 := n5_
 have HO612 := n6_
 have HO615 := n7_
 have HO619 := n8_
 have HO622 := n9_
 have HO627 := n10_
 have HO630 := n11_
 have HO633 := n12_
 have HO636 := n13_
 have HO639 := n14_
 have HO642 := n15_
 have HO646 := n16_
 have HO649 := n17_
 have HO653 := n18_
 have HO656 := n19_
 have BK556 := n20_
 have BK623 := n21_
 have HB := n22_
 clear n0_ n1_ n2_ n3_ n4_ n5_ n6_ n7_ n8_ n9_ n10_ n11_ n12_ n13_ n14_ n15_ n16_ n17_ n18_ n19_ n20_ n21_ n22_
 (try clear hb)
 (try clear hb2)
 (try clear hk)
 (try clear hi)
 (try clear ho0)
 (try clear ho1)
 (try clear ho2)
 (try clear ho3)
 (try clear ho4)
 (try clear ho5)
 (try clear ho6)
 (try clear ho7)
 (try clear ho8)
 (try clear ho9)
 obtain ⟨Ao49, co49, eo49⟩ := Kd.R_slice HO627.out
 (first | subst eo49 | (injection eo49 with f1_ f2_ f3_; have f4_ := f1_.symm; have f5_ := f3_.symm; clear f1_ f2_ f3_; subst f4_; subst f5_))
 obtain ⟨Ao50, co50, eo50⟩ := Kd.S_slice HO630.out
 (first | subst eo50 | (injection eo50 with f1_ f2_ f3_; have f4_ := f1_.symm; have f5_ := f3_.symm; clear f1_ f2_ f3_; subst f4_; subst f5_))
 obtain ⟨Ao51, co51, eo51⟩ := Kd.S_slice HO633.out
 (first | subst eo51 | (injection eo51 with f1_ f2_ f3_; have f4_ := f1_.symm; have f5_ := f3_.symm; clear f1_ f2_ f3_; subst f4_; subst f5_))
 obtain ⟨Ao52, co52, eo52⟩ := Kd.R_slice HO636.out
 (first | subst eo52 | (injection eo52 with f1_ f2_ f3_; have f4_ := f1_.symm; have f5_ := f3_.symm; clear f1_ f2_ f3_; subst f4_; subst f5_))
 obtain ⟨Ao53, co53, eo53⟩ := Kd.R_slice HO639.out
 (first | subst eo53 | (injection eo53 with f1_ f2_ f3_; have f4_ := f1_.symm; have f5_ := f3_.symm; clear f1_ f2_ f3_; subst f4_; subst f5_))
 obtain ⟨Ao54, co54, eo54⟩ := Kd.R_slice HO642.out
 (first | subst eo54 | (injection eo54 with f1_ f2_ f3_; have f4_ := f1_.symm; have f5_ := f3_.symm; clear f1_ f2_ f3_; subst f4_; subst f5_))
 obtain ⟨Ao55, co55, eo55⟩ := Kd.R_slice HO646.out
 (first | subst eo55 | (injection eo55 with f1_ f2_ f3_; have f4_ := f1_.symm; have f5_ := f3_.symm; clear f1_ f2_ f3_; subst f4_; subst f5_))
 obtain ⟨Ao56, co56, eo56⟩ := Kd.R_slice HO649.out
 (first | subst eo56 | (injection eo56 with f1_ f2_ f3_; have f4_ := f1_.symm; have f5_ := f3_.symm; clear f1_ f2_ f3_; subst f4_; subst f5_))
 obtain ⟨Ao57, co57, eo57⟩ := Kd.R_slice HO653.out
 (first | subst eo57 | (injection eo57 with f1_ f2_ f3_; have f4_ := f1_.symm; have f5_ := f3_.symm; clear f1_ f2_ f3_; subst f4_; subst f5_))
 obtain ⟨Ao58, co58, eo58⟩ := Kd.R_slice HO656.out
 (first | subst eo58 | (injection eo58 with f1_ f2_ f3_; have f4_ := f1_.symm; have f5_ := f3_.symm; clear f1_ f2_ f3_; subst f4_; subst f5_))
 refine hK.out _ _ ⟨(blk_cell BK623.out 0).trans rfl, (blk_cell BK623.out 1).trans rfl, (blk_cell BK623.out 2).trans rfl, (blk_cell BK623.out 3).trans rfl, (blk_cell BK623.out 4).trans rfl, (blk_cell BK623.out 5).trans rfl, (blk_cell BK623.out 6).trans rfl, (blk_cell BK623.out 7).trans rfl, (blk_cell BK623.out 8).trans rfl, (blk_cell BK623.out 9).trans rfl, (blk_cell BK623.out 10).trans rfl, (blk_cell BK623.out 11).trans rfl, (blk_cell BK556.out 0).trans rfl, (blk_cell BK556.out 1).trans rfl, (blk_cell BK556.out 2).trans rfl, (blk_cell BK556.out 3).trans rfl, (blk_cell BK556.out 4).trans rfl, (blk_cell BK556.out 5).trans rfl, (blk_cell BK556.out 6).trans rfl, (blk_cell BK556.out 7).trans rfl, (blk_cell BK556.out 8).trans rfl, (blk_cell BK556.out 9).trans rfl, (blk_cell BK556.out 10).trans rfl, (blk_cell BK556.out 11).trans rfl⟩ (fun hHeld => ?_)
 clear hK K
 refine norm_ (a' := ?_) ?_ ?_
 rotate_left
 ·show Act.put _ (some 24) _ = _
  simp only [Act.put, List.setIfInBounds_toArray, List.set_cons_zero, List.set_cons_succ, i64_w, i32_w]
  rfl
 refine one_ (i := 3) (N := some 25) #[true, true, true, true, false] rfl rfl (by kernel_rfl) (by decide) (fun K hK => ?_)
 refine goes_ Tryz.func8 (by kernel_rfl) rfl #[.agg #[.slice Ao34 t591.length co34, .slice Ao37 t594.length co37, .slice Ao38 t597.length co38, .slice Ao39 t600.length co39, .slice Ao40 t603.length co40, .slice Ao41 t606.length co41, .int .i64 t609, .slice Ao42 t610.length co42, .slice Ao43 t613.length co43, .int .i64 t616, .slice Ao44 t617.length co44, .slice Ao45 t620.length co45], .agg #[.slice Ao49 t625.length co49, .slice Ao50 t628.length co50, .slice Ao51 t631.length co51, .slice Ao52 t634.length co52, .slice Ao53 t637.length co53, .slice Ao54 t640.length co54, .int .i64 t643, .slice Ao55 t644.length co55, .slice Ao56 t647.length co56, .int .i64 t650, .slice Ao57 t651.length co57, .slice Ao58 t654.length co58]] (by rfl) rfl rfl lm_ ?_
 with_reducible refine (laws_eqWorld.calls k _ _ t591 _ _ t594 _ _ t597 _ _ t600 _ _ t603 _ _ t606 t609 _ _ t610 _ _ t613 t616 _ _ t617 _ _ t620 _ _ t625 _ _ t628 _ _ t631 _ _ t634 _ _ t637 _ _ t640 t643 _ _ t644 _ _ t647 t650 _ _ t651 _ _ t654 true _ ?side1 ?side2 ?side3 ?side4 ?side5 ?side6 ?side7 ?side8 ?side9 ?side10 ?side11 ?side12 ?side13 ?side14 ?side15 ?side16 ?side17 ?side18 ?side19 ?side20 ?side21 ?side22 ?side23 ?side24 ?side25 ?side26 ?side27 ?side28 ?side29 ?side30 ?side31 ?side32 ?side33 ?side34 ?side35 ?side36 ?side37 ?side38 ?side39 ?side40 ?side41 A13.out).mono ?_
 (case side1 => exact cs_ ((Kd.R_reads' HO593.out).2.2))
 (case side2 => exact (Kd.R_reads' HO593.out).2.1)
 (case side3 => exact cs_ ((Kd.S_reads' HO596.out).2.2))
 (case side4 => exact (Kd.S_reads' HO596.out).2.1)
 (case side5 => exact cs_ ((Kd.S_reads' HO599.out).2.2))
 (case side6 => exact (Kd.S_reads' HO599.out).2.1)
 (case side7 => exact cs_ ((Kd.R_reads' HO602.out).2.2))
 (case side8 => exact (Kd.R_reads' HO602.out).2.1)
 (case side9 => exact cs_ ((Kd.R_reads' HO605.out).2.2))
 (case side10 => exact (Kd.R_reads' HO605.out).2.1)
 (case side11 => exact cs_ ((Kd.R_reads' HO608.out).2.2))
 (case side12 => exact (Kd.R_reads' HO608.out).2.1)
 (case side13 => exact cs_ ((Kd.R_reads' HO612.out).2.2))
 (case side14 => exact (Kd.R_reads' HO612.out).2.1)
 (case side15 => exact cs_ ((Kd.R_reads' HO615.out).2.2))
 (case side16 => exact (Kd.R_reads' HO615.out).2.1)
 (case side17 => exact cs_ ((Kd.R_reads' HO619.out).2.2))
 (case side18 => exact (Kd.R_reads' HO619.out).2.1)
 (case side19 => exact cs_ ((Kd.R_reads' HO622.out).2.2))
 (case side20 => exact (Kd.R_reads' HO622.out).2.1)
 (case side21 => exact cs_ ((Kd.R_reads' HO627.out).2.2))
 (case side22 => exact (Kd.R_reads' HO627.out).2.1)
 (case side23 => exact cs_ ((Kd.S_reads' HO630.out).2.2))
 (case side24 => exact (Kd.S_reads' HO630.out).2.1)
 (case side25 => exact cs_ ((Kd.S_reads' HO633.out).2.2))
 (case side26 => exact (Kd.S_reads' HO633.out).2.1)
 (case side27 => exact cs_ ((Kd.R_reads' HO636.out).2.2))
 (case side28 => exact (Kd.R_reads' HO636.out).2.1)
 (case side29 => exact cs_ ((Kd.R_reads' HO639.out).2.2))
 (case side30 => exact (Kd.R_reads' HO639.out).2.1)
 (case side31 => exact cs_ ((Kd.R_reads' HO642.out).2.2))
 (case side32 => exact (Kd.R_reads' HO642.out).2.1)
 (case side33 => exact cs_ ((Kd.R_reads' HO646.out).2.2))
 (case side34 => exact (Kd.R_reads' HO646.out).2.1)
 (case side35 => exact cs_ ((Kd.R_reads' HO649.out).2.2))
 (case side36 => exact (Kd.R_reads' HO649.out).2.1)
 (case side37 => exact cs_ ((Kd.R_reads' HO653.out).2.2))
 (case side38 => exact (Kd.R_reads' HO653.out).2.1)
 (case side39 => exact cs_ ((Kd.R_reads' HO656.out).2.2))
 (case side40 => exact (Kd.R_reads' HO656.out).2.1)
 (case side41 => first | rfl | assumption)
 rintro e w59 ⟨rfl, hb⟩
 refine ⟨_, rfl, ?_⟩
 have n0_ := Aside0.mk (Kd.R_below (ra_ HO593.out) hb)
 have n1_ := Aside0.mk (Kd.S_below (by (with_reducible repeat (first | apply Kd.S_alloc | apply Kd.S_drewN | apply Kd.S_drew)); exact HO596.out) hb)
 have n2_ := Aside0.mk (Kd.S_below (by (with_reducible repeat (first | apply Kd.S_alloc | apply Kd.S_drewN | apply Kd.S_drew)); exact HO599.out) hb)
 have n3_ := Aside0.mk (Kd.R_below (ra_ HO602.out) hb)
 have n4_ := Aside0.mk (Kd.R_below (ra_ HO605.out) hb)
 have n5_ := Aside0.mk (Kd.R_below (ra_ HO608.out) hb)
 have n6_ := Aside0.mk (Kd.R_below (ra_ HO612.out) hb)
 have n7_ := Aside0.mk (Kd.R_below (ra_ HO615.out) hb)
 have n8_ := Aside0.mk (Kd.R_below (ra_ HO619.out) hb)
 have n9_ := Aside0.mk (Kd.R_below (ra_ HO622.out) hb)
 have n10_ := Aside0.mk (Kd.R_below (ra_ HO627.out) hb)
 have n11_ := Aside0.mk (Kd.S_below (by (with_reducible repeat (first | apply Kd.S_alloc | apply Kd.S_drewN | apply Kd.S_drew)); exact HO630.out) hb)
 have n12_ := Aside0.mk (Kd.S_below (by (with_reducible repeat (first | apply Kd.S_alloc | apply Kd.S_drewN | apply Kd.S_drew)); exact HO633.out) hb)
 have n13_ := Aside0.mk (Kd.R_below (ra_ HO636.out) hb)
 have n14_ := Aside0.mk (Kd.R_below (ra_ HO639.out) hb)
 have n15_ := Aside0.mk (Kd.R_below (ra_ HO642.out) hb)
 have n16_ := Aside0.mk (Kd.R_below (ra_ HO646.out) hb)
 have n17_ := Aside0.mk (Kd.R_below (ra_ HO649.out) hb)
 have n18_ := Aside0.mk (Kd.R_below (ra_ HO653.out) hb)
 have n19_ := Aside0.mk (Kd.R_below (ra_ HO656.out) hb)
 have n20_ := Aside0.mk (blk_below (bn0_ BK556.out) hb)
 have n21_ := Aside0.mk (blk_below (bn0_ BK623.out) hb)
 have n22_ := Aside0.mk (below_step bl_ hb)
 clear HO593
 clear HO596
 clear HO599
 clear HO602
 clear HO605
 clear HO608
 clear HO612
 clear HO615
 clear HO619
 clear HO622
 clear HO627
 clear HO630
 clear HO633
 clear HO636
 clear HO639
 clear HO642
 clear HO646
 clear HO649
 clear HO653
 clear HO656
 clear BK556
 clear BK623
 clear HB
 have HO593 := n0_
 have HO596 := n1_
 have HO599 := n2_
 have HO602 := n3_
 have HO605 := n4_
 have HO608 := n5_
 have HO612 := n6_
 have HO615 := n7_
 have HO619 := n8_
 have HO622 := n9_
 have HO627 := n10_
 have HO630 := n11_
 have HO633 := n12_
 have HO636 := n13_
 have HO639 := n14_
 have HO642 := n15_
 have HO646 := n16_
 have HO649 := n17_
 have HO653 := n18_
 have HO656 := n19_
 have BK556 := n20_
 have BK623 := n21_
 have HB := n22_
 clear n0_ n1_ n2_ n3_ n4_ n5_ n6_ n7_ n8_ n9_ n10_ n11_ n12_ n13_ n14_ n15_ n16_ n17_ n18_ n19_ n20_ n21_ n22_
 (try clear hb)
 (try clear hb2)
 (try clear hk)
 (try clear hi)
 refine hK.out _ _ ⟨(blk_cell BK623.out 0).trans rfl, (blk_cell BK623.out 1).trans rfl, (blk_cell BK623.out 2).trans rfl, (blk_cell BK623.out 3).trans rfl, (blk_cell BK623.out 4).trans rfl, (blk_cell BK623.out 5).trans rfl, (blk_cell BK623.out 6).trans rfl, (blk_cell BK623.out 7).trans rfl, (blk_cell BK623.out 8).trans rfl, (blk_cell BK623.out 9).trans rfl, (blk_cell BK623.out 10).trans rfl, (blk_cell BK623.out 11).trans rfl, (blk_cell BK556.out 0).trans rfl, (blk_cell BK556.out 1).trans rfl, (blk_cell BK556.out 2).trans rfl, (blk_cell BK556.out 3).trans rfl, (blk_cell BK556.out 4).trans rfl, (blk_cell BK556.out 5).trans rfl, (blk_cell BK556.out 6).trans rfl, (blk_cell BK556.out 7).trans rfl, (blk_cell BK556.out 8).trans rfl, (blk_cell BK556.out 9).trans rfl, (blk_cell BK556.out 10).trans rfl, (blk_cell BK556.out 11).trans rfl⟩ (fun hHeld => ?_)
 clear hK K
 refine norm_ (a' := ?_) ?_ ?_
 rotate_left
 ·show Act.put _ (some 25) _ = _
  simp only [Act.put, List.setIfInBounds_toArray, List.set_cons_zero, List.set_cons_succ, i64_w, i32_w]
  rfl
 refine pure_ (i := 4) (N := some 26) (v := ?_) (a' := ?_) #[true, true, true, true, true] rfl rfl (by kernel_rfl) (fun _ _ _ h => h) (Or.inl ⟨by rfl, ?_⟩) ?_ ?_
 rotate_left
 ·intro w'
  go_simp
  with_reducible rfl
 rotate_left
 ·simp only [Act.put, List.setIfInBounds_toArray, List.set_cons_zero, List.set_cons_succ, i64_w, i32_w]
  rfl
 refine done_ (by kernel_rfl) ?_
 try go_wp2
 go_ret
 exact ⟨er_, bl_⟩

end Go.Proofs.YtcbjlcgfhbfneaaGreatDoor.PA

namespace Go.Proofs.YtcbjlcgfhbfneaaGreatDoor.Op
open Go.RowKit Go.Proofs.YtcbjlcgfhbfneaaGreatDoorW.PrintWords
set_option linter.unusedVariables false
set_option linter.unusedSimpArgs false

abbrev OkInt (k : IntKind) (n : Int) : Prop := (Lit.int k n).wf = true

structure Opens (P : Program) {α : Type} (d : Kd α) (t : TypeId) (G : α → Prop) : Prop where
 sz : d.sz = P.cellsOf t
 op : ∀ {H : Type} {enc : TypeId × Value → H} {w : World} {n : Nat} {cs : List Value} {x : DataW H × List MemPlace},
  DataW.trod enc P w 0 (fun _ => true) true n t cs = some x → ∃ a, d.K w a cs ∧ G a

theorem opInt {P : Program} {t : TypeId} {k : IntKind} (hu : P.underlying t = some (.int k)) (hc : P.cellsOf t = 1) : Opens P (Kd.int k) t (fun n => (Lit.int k n).wf = true) where
 sz := by rw [hc]; rfl
 op := fun h => by
  obtain ⟨n, rfl, _, hw⟩ := DataW.trod_int hu h
  exact ⟨n, rfl, hw⟩

theorem opBool {P : Program} {t : TypeId} (hu : P.underlying t = some .bool) (hc : P.cellsOf t = 1) : Opens P Kd.bool t (fun _ => True) where
 sz := by rw [hc]; rfl
 op := fun h => by
  obtain ⟨n, rfl, _⟩ := DataW.trod_bool hu h
  exact ⟨n, rfl, trivial⟩

theorem opStr {P : Program} {t : TypeId} (hu : P.underlying t = some .string) (hc : P.cellsOf t = 1) : Opens P Kd.string t (fun s => s.size ≤ 9223372036854775807) where
 sz := by rw [hc]; rfl
 op := fun h => by
  obtain ⟨s, rfl, _, hs⟩ := DataW.trod_string hu h
  exact ⟨s, rfl, hs⟩

theorem chooseList {α : Type} {Q : Nat → α → Prop} : ∀ (n : Nat), (∀ i, i < n → ∃ a, Q i a) → ∃ xs : List α, xs.length = n ∧ ∀ i a, xs[i]? = some a → Q i a
 | 0, _ => ⟨[], rfl, fun i a h => by simp at h⟩
 | n + 1, h => by
  obtain ⟨xs, hl, hx⟩ := chooseList n (fun i hi => h i (by omega))
  obtain ⟨a, ha⟩ := h n (by omega)
  refine ⟨xs ++ [a], by simp [hl], fun i b hb => ?_⟩
  by_cases hi : i < n
  ·rw [List.getElem?_append_left (by omega)] at hb
   exact hx i b hb
  ·rw [List.getElem?_append_right (by omega), hl] at hb
   have : i - n = 0 := by
    rcases Nat.eq_zero_or_pos (i - n) with h0 | h0
    ·exact h0
    ·rw [List.getElem?_eq_none (by simp; omega)] at hb
     simp at hb
   rw [this] at hb
   have hin : i = n := by omega
   simp at hb
   rw [hin, ← hb]
   exact ha

theorem cellsAt {w : World} {a : Addr} {n : Nat} {cs : List Value} (h : w.cells? 0 a n = some cs) : cs.length = n ∧ ∀ i u, cs[i]? = some u → w.cell? (a.add i) = some u := by
 unfold World.cells? at h
 rw [if_pos (Nat.zero_le _)] at h
 have hl : cs.length = n := by simpa using mapM_some_length h
 refine ⟨hl, fun i u hu => ?_⟩
 have hi : i < n := by
  rcases Nat.lt_or_ge i n with h1 | h1
  ·exact h1
  ·rw [List.getElem?_eq_none (by omega)] at hu
   simp at hu
 have := mapM_some_get h i i (by simp [hi])
 rw [this, hu]

theorem opSlice {P : Program} {α : Type} {d : Kd α} {t e : TypeId} {G : α → Prop} (hu : P.underlying t = some (.slice e)) (hc : P.cellsOf t = 1) (E : Nat) (o : Opens P d e G) :
 Opens P (Kd.slice E d) t (fun l => (∀ a ∈ l, G a) ∧ l.length ≤ 9223372036854775807) where
 sz := by rw [hc]; rfl
 op := fun {H enc w n cs x} h => by
  rcases DataW.trod_slice hu h with ⟨rfl, _⟩ | ⟨a, len, cap, elems, rest, m, _, rfl, _, _, hl, hcap, hlen, hel, _⟩
  ·exact ⟨[], ⟨none, 0, rfl, Nat.le_refl _, rfl, by simp, fun h0 => by simp at h0⟩, fun a ha => by simp at ha, by simp⟩
  ·have hcap' : cap ≤ 9223372036854775807 := hcap
   have key : ∀ i, i < len → ∃ b, ∃ c, d.K w b c ∧ G b ∧ c.length = d.sz ∧ ∀ j u, c[j]? = some u → w.cell? ((a.add (i * d.sz)).add j) = some u := by
    intro i hi
    have h1 := hel i hi
    rw [List.getElem?_eq_getElem (by omega)] at h1
    obtain ⟨cs', h2, h3⟩ := Option.bind_eq_some_iff.1 h1
    obtain ⟨b, hK, hG⟩ := o.op h3
    obtain ⟨h4, h5⟩ := cellsAt h2
    rw [← o.sz] at h5
    exact ⟨b, cs', hK, hG, d.K_len hK, h5⟩
   obtain ⟨xs, hx, hall⟩ := chooseList len key
   refine ⟨xs, ⟨some a, cap, by rw [hx], by omega, rfl, by omega, fun _ => ⟨a, rfl, fun j p hp => ?_⟩⟩, fun b hb => ?_, by omega⟩
   ·obtain ⟨c, hK, _, hs, hcell⟩ := hall j p hp
    exact ⟨c, hs, hK, fun i u hiu => by rw [← Addr.add_add]; exact hcell i u hiu⟩
   ·obtain ⟨i, hi, rfl⟩ := List.getElem_of_mem hb
    obtain ⟨_, _, hG, _⟩ := hall i _ (List.getElem?_eq_getElem hi)
    exact hG

structure Fields (P : Program) (off : Nat) (fs : List Field) {α : Type} (d : Kd α) (G : α → Prop) : Prop where
 op : ∀ {H : Type} {enc : TypeId × Value → H} {w : World} {n : Nat} {cs : List Value}, cs.length = off + d.sz →
  (∀ f ∈ fs, ∃ y, DataW.trod enc P w 0 (fun _ => true) true n f.type ((cs.drop f.offset).take (P.cellsOf f.type)) = some y) → ∃ a, d.K w a (cs.drop off) ∧ G a

theorem fieldsOne {P : Program} {off : Nat} {f : Field} {α : Type} {d : Kd α} {G : α → Prop} (o : Opens P d f.type G) (hf : f.offset = off) : Fields P off [f] d G where
 op := fun {H enc w n cs} hl h => by
  obtain ⟨y, hy⟩ := h f (by simp)
  rw [hf, List.take_of_length_le (by rw [← o.sz]; simp; omega)] at hy
  exact o.op hy

theorem fieldsCons {P : Program} {off : Nat} {f : Field} {fs : List Field} {α β : Type} {d : Kd α} {d' : Kd β} {G : α → Prop} {G' : β → Prop} (o : Opens P d f.type G) (hf : f.offset = off) (r : Fields P (off + d.sz) fs d' G') :
 Fields P off (f :: fs) (Kd.pair d d') (fun x => G x.1 ∧ G' x.2) where
 op := fun {H enc w n cs} hl h => by
  have hl' : cs.length = off + (d.sz + d'.sz) := hl
  obtain ⟨y, hy⟩ := h f (by simp)
  rw [hf] at hy
  obtain ⟨a, ha, hg⟩ := o.op hy
  obtain ⟨b, hb, hg'⟩ := r.op (by omega) (fun g hg => h g (by simp [hg]))
  refine ⟨(a, b), ⟨_, _, ?_, ha, hb⟩, hg, hg'⟩
  rw [← o.sz, show cs.drop (off + d.sz) = (cs.drop off).drop d.sz from (List.drop_drop ..).symm]
  exact (List.take_append_drop _ _).symm

theorem opStruct {P : Program} {t : TypeId} {fs : Array Field} {α β : Type} {d : Kd α} {f : β → α} {G : α → Prop} {G' : β → Prop} (hu : P.underlying t = some (.struct fs)) (hc : P.cellsOf t = d.sz)
 (r : Fields P 0 fs.toList d G) (g : α → β) (hfg : ∀ a, f (g a) = a) (hG : ∀ a, G a → G' (g a)) : Opens P (Kd.iso d f) t G' where
 sz := by rw [hc]; rfl
 op := fun {H enc w n cs x} h => by
  obtain ⟨xs, m, rfl, _, hl, hxs, hall⟩ := DataW.trod_struct hu h
  obtain ⟨a, ha, hGa⟩ := r.op (w := w) (n := m) (cs := cs) (by omega) (fun f' hf' => by
   obtain ⟨i, hi, rfl⟩ := List.getElem_of_mem hf'
   have hi' : i < fs.size := by simpa using hi
   have h1 := hall i fs.toList[i] (by simp [hi'])
   rw [List.getElem?_eq_getElem (by omega)] at h1
   exact ⟨_, h1⟩)
  rw [List.drop_zero] at ha
  refine ⟨g a, ?_, hG a hGa⟩
  show d.K w (f (g a)) cs
  rw [hfg]
  exact ha
end Go.Proofs.YtcbjlcgfhbfneaaGreatDoor.Op

namespace Go.Proofs.YtcbjlcgfhbfneaaGreatDoor.PureFnExactShowWorld
open Go.RowKit Go.Proofs.YtcbjlcgfhbfneaaGreatDoor.PA Go.Proofs.YtcbjlcgfhbfneaaGreatDoorW.PrintWords
structure S29 where
 f0 : (List S141)
 f1 : (List Int)
 f2 : (List S144)
 f3 : Int
 f4 : (List Int)
def z29 : S29 := ⟨([] : List S141), ([] : List Int), ([] : List S144), (0 : Int), ([] : List Int)⟩
def k29 : Kd S29 := Kd.iso (Kd.pair (Kd.slice 141 k141) (Kd.pair (Kd.slice 3 (Kd.int .i64)) (Kd.pair (Kd.slice 144 k144) (Kd.pair (Kd.int .i64) (Kd.slice 3 (Kd.int .i64)))))) (fun x : S29 => (x.f0, x.f1, x.f2, x.f3, x.f4))
theorem k29_open {w : World} {x : S29} {cs : List Value} (h : k29.K w x cs) : ∃ A0 c0 A1 c1 A2 c2 A4 c4, cs = [.slice A0 x.f0.length c0, .slice A1 x.f1.length c1, .slice A2 x.f2.length c2, .int .i64 x.f3, .slice A4 x.f4.length c4] ∧ x.f0.length ≤ c0 ∧ k141.C w A0 x.f0.length x.f0 ∧ x.f1.length ≤ c1 ∧ (Kd.int .i64).C w A1 x.f1.length x.f1 ∧ x.f2.length ≤ c2 ∧ k144.C w A2 x.f2.length x.f2 ∧ x.f4.length ≤ c4 ∧ (Kd.int .i64).C w A4 x.f4.length x.f4 := by
 obtain ⟨_, _, rfl, ⟨A0, c0, rfl, l0, g0⟩, ⟨_, _, rfl, ⟨A1, c1, rfl, l1, g1⟩, ⟨_, _, rfl, ⟨A2, c2, rfl, l2, g2⟩, ⟨_, _, rfl, rfl, ⟨A4, c4, rfl, l4, g4⟩⟩⟩⟩⟩ := h
 exact ⟨A0, c0, A1, c1, A2, c2, A4, c4, rfl, l0, g0, l1, g1, l2, g2, l4, g4⟩
structure S33 where
 f0 : (List (List (List S156)))
 f1 : (List S85)
 f2 : (List S88)
 f3 : S29
 f4 : (List S93)
 f5 : Int
 f6 : (List Int)
 f7 : (List S113)
def z33 : S33 := ⟨([] : List (List (List S156))), ([] : List S85), ([] : List S88), z29, ([] : List S93), (0 : Int), ([] : List Int), ([] : List S113)⟩
def k33 : Kd S33 := Kd.iso (Kd.pair (Kd.slice 81 (Kd.slice 124 (Kd.slice 156 k156))) (Kd.pair (Kd.slice 85 k85) (Kd.pair (Kd.slice 88 k88) (Kd.pair k29 (Kd.pair (Kd.slice 93 k93) (Kd.pair (Kd.int .i64) (Kd.pair (Kd.slice 3 (Kd.int .i64)) (Kd.slice 113 k113)))))))) (fun x : S33 => (x.f0, x.f1, x.f2, x.f3, x.f4, x.f5, x.f6, x.f7))
theorem k33_open {w : World} {x : S33} {cs : List Value} (h : k33.K w x cs) : ∃ A0 c0 A1 c1 A2 c2 A3 c3 A4 c4 A5 c5 A7 c7 A8 c8 A10 c10 A11 c11, cs = [.slice A0 x.f0.length c0, .slice A1 x.f1.length c1, .slice A2 x.f2.length c2, .slice A3 x.f3.f0.length c3, .slice A4 x.f3.f1.length c4, .slice A5 x.f3.f2.length c5, .int .i64 x.f3.f3, .slice A7 x.f3.f4.length c7, .slice A8 x.f4.length c8, .int .i64 x.f5, .slice A10 x.f6.length c10, .slice A11 x.f7.length c11] ∧ x.f0.length ≤ c0 ∧ (Kd.slice 124 (Kd.slice 156 k156)).C w A0 x.f0.length x.f0 ∧ x.f1.length ≤ c1 ∧ k85.C w A1 x.f1.length x.f1 ∧ x.f2.length ≤ c2 ∧ k88.C w A2 x.f2.length x.f2 ∧ x.f3.f0.length ≤ c3 ∧ k141.C w A3 x.f3.f0.length x.f3.f0 ∧ x.f3.f1.length ≤ c4 ∧ (Kd.int .i64).C w A4 x.f3.f1.length x.f3.f1 ∧ x.f3.f2.length ≤ c5 ∧ k144.C w A5 x.f3.f2.length x.f3.f2 ∧ x.f3.f4.length ≤ c7 ∧ (Kd.int .i64).C w A7 x.f3.f4.length x.f3.f4 ∧ x.f4.length ≤ c8 ∧ k93.C w A8 x.f4.length x.f4 ∧ x.f6.length ≤ c10 ∧ (Kd.int .i64).C w A10 x.f6.length x.f6 ∧ x.f7.length ≤ c11 ∧ k113.C w A11 x.f7.length x.f7 := by
 obtain ⟨_, _, rfl, ⟨A0, c0, rfl, l0, g0⟩, ⟨_, _, rfl, ⟨A1, c1, rfl, l1, g1⟩, ⟨_, _, rfl, ⟨A2, c2, rfl, l2, g2⟩, ⟨_, _, rfl, s3, ⟨_, _, rfl, ⟨A8, c8, rfl, l8, g8⟩, ⟨_, _, rfl, rfl, ⟨_, _, rfl, ⟨A10, c10, rfl, l10, g10⟩, ⟨A11, c11, rfl, l11, g11⟩⟩⟩⟩⟩⟩⟩⟩ := h
 obtain ⟨A3, c3, A4, c4, A5, c5, A7, c7, rfl, l3, g3, l4, g4, l5, g5, l7, g7⟩ := k29_open s3
 exact ⟨A0, c0, A1, c1, A2, c2, A3, c3, A4, c4, A5, c5, A7, c7, A8, c8, A10, c10, A11, c11, rfl, l0, g0, l1, g1, l2, g2, l3, g3, l4, g4, l5, g5, l7, g7, l8, g8, l10, g10, l11, g11⟩
def ok156 (x : S156) : Prop := (Op.OkInt .i64 x.f0) ∧ (Op.OkInt .i64 x.f1) ∧ (Op.OkInt .i64 x.f2) ∧ (Op.OkInt .i64 x.f3)
def ok139 (x : S139) : Prop := (Op.OkInt .i64 x.f0) ∧ (Op.OkInt .i64 x.f1) ∧ (Op.OkInt .i64 x.f2) ∧ (Op.OkInt .i64 x.f3)
def ok85 (x : S85) : Prop := ((∀ e_ ∈ x.f0, ok139 e_) ∧ x.f0.length ≤ 9223372036854775807) ∧ (Op.OkInt .i64 x.f1) ∧ (Op.OkInt .i64 x.f2) ∧ (Op.OkInt .i64 x.f3)
def ok88 (x : S88) : Prop := (Op.OkInt .i64 x.f0) ∧ (Op.OkInt .i64 x.f1) ∧ ((∀ e_ ∈ x.f2, ok139 e_) ∧ x.f2.length ≤ 9223372036854775807) ∧ (Op.OkInt .i64 x.f3) ∧ (Op.OkInt .i64 x.f4)
def ok141 (x : S141) : Prop := (Op.OkInt .i64 x.f0) ∧ (Op.OkInt .i64 x.f1) ∧ (ok139 x.f2)
def ok144 (x : S144) : Prop := (Op.OkInt .i64 x.f0) ∧ (Op.OkInt .i64 x.f1) ∧ (ok139 x.f2)
def ok29 (x : S29) : Prop := ((∀ e_ ∈ x.f0, ok141 e_) ∧ x.f0.length ≤ 9223372036854775807) ∧ ((∀ e_ ∈ x.f1, Op.OkInt .i64 e_) ∧ x.f1.length ≤ 9223372036854775807) ∧ ((∀ e_ ∈ x.f2, ok144 e_) ∧ x.f2.length ≤ 9223372036854775807) ∧ (Op.OkInt .i64 x.f3) ∧ ((∀ e_ ∈ x.f4, Op.OkInt .i64 e_) ∧ x.f4.length ≤ 9223372036854775807)
def ok93 (x : S93) : Prop := (True) ∧ (x.f1.size ≤ 9223372036854775807) ∧ (True)
def ok113 (x : S113) : Prop := (Op.OkInt .i64 x.f0) ∧ (Op.OkInt .i64 x.f1) ∧ (Op.OkInt .i64 x.f2) ∧ (True)
def ok33 (x : S33) : Prop := ((∀ e_ ∈ x.f0, (∀ e__ ∈ e_, (∀ e___ ∈ e__, ok156 e___) ∧ e__.length ≤ 9223372036854775807) ∧ e_.length ≤ 9223372036854775807) ∧ x.f0.length ≤ 9223372036854775807) ∧ ((∀ e_ ∈ x.f1, ok85 e_) ∧ x.f1.length ≤ 9223372036854775807) ∧ ((∀ e_ ∈ x.f2, ok88 e_) ∧ x.f2.length ≤ 9223372036854775807) ∧ (ok29 x.f3) ∧ ((∀ e_ ∈ x.f4, ok93 e_) ∧ x.f4.length ≤ 9223372036854775807) ∧ (Op.OkInt .i64 x.f5) ∧ ((∀ e_ ∈ x.f6, Op.OkInt .i64 e_) ∧ x.f6.length ≤ 9223372036854775807) ∧ ((∀ e_ ∈ x.f7, ok113 e_) ∧ x.f7.length ≤ 9223372036854775807)
def Stated : Prop := ∀ (x0 : S33), (ok33 x0) → ∃ k, laws_FnExactShowWorld.f k x0.f0 x0.f1 x0.f2 x0.f3.f0 x0.f3.f1 x0.f3.f2 x0.f3.f3 x0.f3.f4 x0.f4 x0.f5 x0.f6 x0.f7 = some true
end Go.Proofs.YtcbjlcgfhbfneaaGreatDoor.PureFnExactShowWorld

namespace Go.Proofs.YtcbjlcgfhbfneaaGreatDoor.Kit
open Go.RowKit Go.Proofs.YtcbjlcgfhbfneaaGreatDoorW.PrintWords Go.Proofs.YtcbjlcgfhbfneaaGreatDoorW.PrintLast Go.Proofs.YtcbjlcgfhbfneaaGreatDoorW.PrintMore
set_option linter.unusedVariables false
set_option linter.unusedSimpArgs false

theorem w64 {x : Int} (h0 : -9223372036854775808 ≤ x) (h1 : x ≤ 9223372036854775807) : wrap64 x = x := by unfold wrap64; omega

section
variable {α β : Type}
theorem evSucc {g : Nat → Option α} {r : α} (h : Ev (fun k => g (k + 1)) r) : Ev g r := Ev.step (fun _ => rfl) h
theorem evPos {c : Prop} [Decidable c] {g f : Nat → Option α} {r : α} (hc : c) (h : Ev g r) : Ev (fun k => if c then g k else f k) r := Ev.congr (fun k => if_pos hc) h
theorem evNeg {c : Prop} [Decidable c] {g f : Nat → Option α} {r : α} (hc : ¬ c) (h : Ev f r) : Ev (fun k => if c then g k else f k) r := Ev.congr (fun k => if_neg hc) h
theorem evIte {c : Prop} [Decidable c] {g f : Nat → Option α} {r s : α} (h : c → Ev g r) (h' : ¬ c → Ev f s) : Ev (fun k => if c then g k else f k) (if c then r else s) := by
 by_cases hc : c
 ·rw [if_pos hc]; exact evPos hc (h hc)
 ·rw [if_neg hc]; exact evNeg hc (h' hc)
theorem evSome (r : α) : Ev (fun _ => some r) r := Ev.now r
theorem evEq {g : Nat → Option α} {r s : α} (h : Ev g r) (e : r = s) : Ev g s := e ▸ h
theorem evBindS {x : Option α} {f : Nat → α → Option β} {a : α} {r : β} (h : x = some a) (k : Ev (fun n => f n a) r) : Ev (fun n => x.bind (f n)) r := by subst h; exact k
theorem evConst {x : Option α} {r : α} (h : x = some r) : Ev (fun _ => x) r := by subst h; exact Ev.now r
end

section
variable {α β : Type}
theorem evUp {r : α} (n : Nat) (g : Nat → Nat → Option α) (step : ∀ i, i < n → Ev (g (i + 1)) r → Ev (g i) r) (last : Ev (g n) r) : Ev (g 0) r := by
 have key : ∀ d i, i + d = n → Ev (g i) r := by
  intro d
  induction d with
  | zero => intro i hi; rw [show i = n by omega]; exact last
  | succ d ih => intro i hi; exact step i (by omega) (ih (i + 1) (by omega))
 exact key n 0 (by omega)
theorem fillStep (f : α → β) (z : β) (l : List α) (i : Nat) (hi : i < l.length) :
 ((l.take i).map f ++ List.replicate (l.length - i) z).set i (f l[i]) = (l.take (i + 1)).map f ++ List.replicate (l.length - (i + 1)) z := by
 have h1 : ((l.take i).map f).length = i := by simp; omega
 rw [show l.length - i = (l.length - (i + 1)) + 1 by omega, List.replicate_succ, List.set_append_right _ _ (by omega), h1, Nat.sub_self, List.set_cons_zero,
  List.take_succ_eq_append_getElem hi, List.map_append, List.append_assoc]
 rfl
theorem takeSnoc (l : List α) (i : Nat) (hi : i < l.length) : l.take (i + 1) = l.take i ++ [l[i]] := List.take_succ_eq_append_getElem hi
theorem ci (i : Nat) : (i : Int) + 1 = ((i + 1 : Nat) : Int) := by omega
theorem sizeApp (a b : ByteArray) : (a ++ b).size = a.size + b.size := ByteArray.size_append
end

theorem okI64 {n : Int} (h : (Lit.int .i64 n).wf = true) : -9223372036854775808 ≤ n ∧ n ≤ 9223372036854775807 := by
 simp [Lit.wf, IntKind.min, IntKind.max, IntKind.signed, IntKind.bits] at h
 omega
end Go.Proofs.YtcbjlcgfhbfneaaGreatDoor.Kit

namespace Go.Proofs.YtcbjlcgfhbfneaaGreatDoor.DigestEq
open Go.RowKit Go.Proofs.YtcbjlcgfhbfneaaGreatDoorW.PrintWords Go.Proofs.YtcbjlcgfhbfneaaGreatDoorW.PrintLast Go.Proofs.YtcbjlcgfhbfneaaGreatDoorW.PrintMore Go.Proofs.YtcbjlcgfhbfneaaGreatDoor.Kit Go.Proofs.YtcbjlcgfhbfneaaGreatDoor.PA
open Go.Proofs.YtcbjlcgfhbfneaaGreatDoor.PH (hs hs_len padS padS_size blocks f4 f4_len padBytes padZ hFirst shaB shaB_len outs strOfNums_size)
set_option linter.unusedVariables false
theorem strApp (a b : List Int) : strOfNums (a ++ b) = strOfNums a ++ strOfNums b := by
 apply ByteArray.ext
 simp [strOfNums]
theorem strBytes (s : ByteArray) : strOfNums (bytesOf s) = s := by
 apply ByteArray.ext
 apply Array.ext'
 simp [strOfNums, bytesOf, Function.comp_def]
theorem hi8 (N : Int) : (List.range 8).map (fun q => N / 2 ^ (8 * (7 - q)) % 256) = f4 (N / 4294967296) ++ f4 N := by
 have h0 : N / 72057594037927936 % 256 = N / 4294967296 / 16777216 % 256 := by omega
 have h1 : N / 281474976710656 % 256 = N / 4294967296 / 65536 % 256 := by omega
 have h2 : N / 1099511627776 % 256 = N / 4294967296 / 256 % 256 := by omega
 simp [List.range, List.range.loop, f4, h0, h1, h2]
theorem padEq (a0 : ByteArray) (hb : a0.size ≤ 1073741824) : impl_PadText.f a0 = some (padS a0) := by
 have e : Int.tmod (wrap64 (64 - (Int.tmod (wrap64 ((a0.size : Int) + 9)) 64))) 64 = (padZ a0.size : Int) := by
  have c1 : Int.tmod ((a0.size : Int) + 9) 64 = ((a0.size : Int) + 9) % 64 := Int.tmod_eq_emod_of_nonneg (by omega)
  rw [w64 (x := (a0.size : Int) + 9) (by omega) (by omega), c1, w64 (by omega) (by omega)]
  have c2 : Int.tmod (64 - ((a0.size : Int) + 9) % 64) 64 = (64 - ((a0.size : Int) + 9) % 64) % 64 := Int.tmod_eq_emod_of_nonneg (by omega)
  rw [c2]
  unfold padZ
  omega
 have hz : padZ a0.size < 64 := by unfold padZ; omega
 have e8 : wrap64 (8 * (a0.size : Int)) = 8 * (a0.size : Int) := w64 (by omega) (by omega)
 unfold impl_PadText.f impl_four.f
 rw [e, e8, if_pos (by omega), if_pos (by omega), if_pos (by omega)]
 simp only [Option.bind_some, Int.toNat_natCast]
 have s1 : (a0 ++ (⟨#[128]⟩ : ByteArray)).size = a0.size + 1 := by rw [ByteArray.size_append]; rfl
 have s2 : (strOfNums (List.replicate (padZ a0.size) 0)).size = padZ a0.size := by rw [strOfNums_size, List.length_replicate]
 have s3 (x : Int) : (strOfNums [x / 16777216 % 256, x / 65536 % 256, x / 256 % 256, x % 256]).size = 4 := by rw [strOfNums_size]; rfl
 rw [if_pos (by rw [s1, s2]; omega), if_pos (by rw [ByteArray.size_append, s1, s2, s3]; omega), if_pos (by rw [ByteArray.size_append, ByteArray.size_append, s1, s2, s3, s3]; omega)]
 unfold padS padBytes
 have c (l : List Int) : strOfNums (128 :: l) = (⟨#[128]⟩ : ByteArray) ++ strOfNums l := strApp [128] l
 rw [hi8, strApp, c, strApp, strApp, strBytes]
 simp only [← ByteArray.append_assoc]
 rfl
theorem half_first : ∀ x ∈ hFirst, 0 ≤ x ∧ x ≤ 4294967295 := by decide
theorem half_sha (l : List Int) (t : ByteArray) (h : l.length = 8) : ∀ x ∈ shaB l t, 0 ≤ x ∧ x ≤ 4294967295 := by
 intro x hx
 unfold PH.shaB PH.outs at hx
 rw [List.drop_of_length_le (by omega), List.append_nil] at hx
 obtain ⟨i, _, rfl⟩ := List.mem_map.1 hx
 constructor <;> omega
theorem half_hs (p : ByteArray) : ∀ j, ∀ x ∈ hs p j, 0 ≤ x ∧ x ≤ 4294967295
 | 0 => half_first
 | j + 1 => half_sha _ _ (hs_len p j)
theorem rdS (l : List Int) (i : Nat) (hi : i < l.length) : rd l (i : Int) = l[i] := by simp [rd, hi]
theorem ev_out (s : List Int) (h : s.length = 8) : Ev (fun k => impl_Digest.l1 k (⟨#[]⟩ : ByteArray) s (s.length : Int) 0) (strOfNums (s.flatMap f4)) := by
 have key := evUp (r := strOfNums (s.flatMap f4)) 8 (fun i k => impl_Digest.l1 k (strOfNums ((s.take i).flatMap f4)) s (s.length : Int) (i : Int)) ?_ ?_
 ·exact key
 ·intro i hi ih
  refine evSucc ?_
  simp only [impl_Digest.l1]
  have hsz : (strOfNums ((s.take i).flatMap f4)).size = 4 * i := by rw [strOfNums_size, f4_len, List.length_take]; omega
  refine evPos (by omega) (evPos (by omega) (evPos (by omega) (evBindS (a := strOfNums (f4 s[i])) (by rw [rdS s i (by omega)]; rfl) (evPos (by rw [hsz, strOfNums_size]; simp [f4]; omega) ?_))))
  rw [w64 (by omega) (by omega), ci, ← strApp]
  have e : (s.take i).flatMap f4 ++ f4 s[i] = (s.take (i + 1)).flatMap f4 := by
   rw [List.take_succ_eq_append_getElem (by omega), List.flatMap_append]; simp
  rw [e]
  exact ih
 ·refine evSucc ?_
  simp only [impl_Digest.l1]
  refine evNeg (by omega) (evEq (Ev.now _) ?_)
  rw [List.take_of_length_le (by omega)]
def dig (a0 : ByteArray) : ByteArray := strOfNums ((hs (padS a0) (blocks a0.size)).flatMap f4)
theorem dig_spec (a0 : ByteArray) (hb : a0.size ≤ 1073741824) : spec_Digest.f a0 = some (dig a0) := by
 unfold spec_Digest.f; rw [if_pos hb]; rfl
theorem dig_impl (a0 : ByteArray) (hb : a0.size ≤ 1073741824) : Ev (fun k => impl_Digest.f k a0) (dig a0) := by
 simp only [impl_Digest.f]
 refine evBindS (padEq a0 hb) (evBindS (a := hFirst) rfl ?_)
 have hp := padS_size a0
 have hn : blocks a0.size ≤ 16777218 := by unfold PH.blocks; omega
 unfold dig
 generalize blocks a0.size = nb at hp hn ⊢
 generalize padS a0 = p at hp ⊢
 have key := evUp (r := strOfNums ((hs p nb).flatMap f4)) nb (fun i k => impl_Digest.l0 k p (hs p i) (64 * (i : Int))) ?_ ?_
 ·exact key
 ·intro i hi ih
  refine evSucc ?_
  simp only [impl_Digest.l0]
  have hw : wrap64 (64 * (i : Int) + 64) = 64 * (i : Int) + 64 := w64 (by omega) (by omega)
  rw [hw]
  refine evPos (by omega) (evPos (by omega) (evPos (by omega) (evPos (by omega) (evBindS (a := hs p (i + 1)) ?_ ?_))))
  ·rw [show (64 * (i : Int)).toNat = 64 * i by omega, show (64 * (i : Int) + 64).toNat = 64 * i + 64 by omega]
   unfold impl_ShaBlock.f
   rw [if_pos ⟨hs_len p i, by rw [ByteArray.size_extract]; omega, half_hs p i⟩]
   rfl
  ·rw [show 64 * (i : Int) + 64 = 64 * ((i + 1 : Nat) : Int) by omega]
   exact ih
 ·refine evSucc ?_
  simp only [impl_Digest.l0]
  exact evNeg (by omega) (ev_out _ (hs_len p nb))
end Go.Proofs.YtcbjlcgfhbfneaaGreatDoor.DigestEq
