/- Contracts of functions of the program and of the reference, and plain lemmas on what they compute: a part of the proof of the law FnLessNums. No condition. -/
import Derived.Test.YtjfmpodeenidnaaG90508x0
import Derived.Test.YtjfmpodeenidnaaG90508x1
import Derived.Test.YtjfmpodeenidnaaJFnLessNums2
import Derived.Test.YtjfmpodeenidnaaJFnLessNums3
import Derived.Test.YtjfmpodeenidnaaG90508x5
import Derived.Test.YtjfmpodeenidnaaJFnLessNums4
import Derived.Test.YtjfmpodeenidnaaShortV
set_option maxHeartbeats 8000000
set_option maxRecDepth 100000
namespace Go.Proofs.Ytjfmpodeenidnaa.PC
open Go.RowKit Go.Proofs.Ytjfmpodeenidnaa.Short Go.Proofs.YtjfmpodeenidnaaW.PrintWords Go.Proofs.YtjfmpodeenidnaaW.PrintLast Go.Proofs.YtjfmpodeenidnaaW.PrintMore
attribute [local go_sem] max2_int min2_int max_two min_two max_three min_three max_four min_four   -- for this text's walks alone
set_option linter.unusedVariables false
set_option linter.unusedSimpArgs false

def adOf : Value → Addr
 | .slice (some a) _ _ => a
 | _ => ⟨0, 0, none⟩
mutual
def laws_FnLessNums.l0 : Nat → List Int → List Int → Int → Int → Int → Int → List (S53) → Int → Int → List (S98) → Option (Bool)
 | 0, _, _, _, _, _, _, _, _, _, _ => none
 | k + 1, x0, x5, x6, x606000, x606001, x606002, x606003, x607000, x607001, x607002 => if x6 < (x5.length : Int) then (laws_FnLessNums.l1 k x0 x5 x6 false 0 x606000 x606001 x606002 x606003 x607000 x607001 x607002) else ((spec_DrawPlaces.f k x0).bind fun t615 => (if 0 < (t615.length : Int) then ((impl_OnlyFor.f k x606000 x606001 x606002 x606003 (wrap64 (1000 + (rd t615 0)))).bind fun bt620 => (laws_FnLessNums.l2 k x5 0 x606000 x606001 x606002 x606003 x606000 (wrap64 (1000 + (rd t615 0))) x607002 bt620.1 bt620.2.1 bt620.2.2.1 bt620.2.2.2)) else (none)))
def laws_FnLessNums.l1 : Nat → List Int → List Int → Int → Bool → Int → Int → Int → Int → List (S53) → Int → Int → List (S98) → Option (Bool)
 | 0, _, _, _, _, _, _, _, _, _, _, _, _ => none
 | k + 1, x0, x5, x6, x7, x8, x606000, x606001, x606002, x606003, x607000, x607001, x607002 => if x8 < (x606003.length : Int) then (if x7 = true then (laws_FnLessNums.l1 k x0 x5 x6 true (wrap64 (x8 + 1)) x606000 x606001 x606002 x606003 x607000 x607001 x607002) else (if 0 ≤ x8 then (if 0 ≤ x6 then (if x6 < (x5.length : Int) then ((laws_hasNum.f k ((rd_T53 x606003 x8).f0) (rd x5 x6)).bind fun t612 => (laws_FnLessNums.l1 k x0 x5 x6 t612 (wrap64 (x8 + 1)) x606000 x606001 x606002 x606003 x607000 x607001 x607002)) else (none)) else (none)) else (none))) else (if x7 = true then (if x6 > 0 then (if 0 ≤ (wrap64 (x6 - 1)) then (if (wrap64 (x6 - 1)) < (x5.length : Int) then (if 0 ≤ x6 then (if x6 < (x5.length : Int) then (if (rd x5 (wrap64 (x6 - 1))) ≥ (rd x5 x6) then (some false) else (laws_FnLessNums.l0 k x0 x5 (wrap64 (x6 + 1)) x606000 x606001 x606002 x606003 x607000 x607001 x607002)) else (none)) else (none)) else (none)) else (none)) else (laws_FnLessNums.l0 k x0 x5 (wrap64 (x6 + 1)) x606000 x606001 x606002 x606003 x607000 x607001 x607002)) else (some false))
def laws_FnLessNums.l2 : Nat → List Int → Int → Int → Int → Int → List (S53) → Int → Int → List (S98) → Int → Int → Int → List (S53) → Option (Bool)
 | 0, _, _, _, _, _, _, _, _, _, _, _, _, _ => none
 | k + 1, x5, x11, x606000, x606001, x606002, x606003, x620000, x620001, x620002, x627000, x627001, x627002, x627003 => if x11 < (x627003.length : Int) then (if 0 ≤ x11 then (if (((rd_T53 x627003 x11).f0).length : Int) > 0 then ((laws_hasNum.f k ((rd_T53 x627003 x11).f0) x620001).bind fun t629 => (if t629 = true then (laws_FnLessNums.l2 k x5 (wrap64 (x11 + 1)) x606000 x606001 x606002 x606003 x620000 x620001 x620002 x627000 x627001 x627002 x627003) else (some false))) else (laws_FnLessNums.l2 k x5 (wrap64 (x11 + 1)) x606000 x606001 x606002 x606003 x620000 x620001 x620002 x627000 x627001 x627002 x627003)) else (none)) else ((spec_Decide.f k x627000 x627001 x627002 x627003 x620000 x620001 x620002).bind fun t630 => ((spec_Decide.f k x606000 x606001 x606002 x606003 x620000 x620001 x620002).bind fun t631 => (if t630 = t631 then ((spec_PolicyOk.f k x627000 x627001 x627002 x627003).bind fun t632 => (if t632 = true then ((spec_NumsSaid.f k x606000 x606001 x606002 x606003).bind fun t633 => ((laws_sameInts.f k x5 t633).bind fun t636 => (if t636 = true then (some (decide ((x627003.length : Int) ≤ (x606003.length : Int)))) else (some false)))) else (some false))) else (some false))))
end
def laws_FnLessNums.f (k : Nat) (l0 : List Int) : Option (Bool) := (laws_big.f l0).bind fun t593 => (if t593 = true then (some true) else ((spec_DrawTwice.f k l0).bind fun bt594 => ((impl_NumsSaid.f k bt594.1 bt594.2.1 bt594.2.2.1 bt594.2.2.2.1).bind fun t607 => (laws_FnLessNums.l0 k l0 t607 0 bt594.1 bt594.2.1 bt594.2.2.1 bt594.2.2.2.1 bt594.2.2.2.2.1 bt594.2.2.2.2.2.1 bt594.2.2.2.2.2.2))))
theorem laws_FnLessNums.mono_l : ∀ k, (∀ y0 y1 y2 y3 y4 y5 y6 y7 y8 y9, LeO (laws_FnLessNums.l0 k y0 y1 y2 y3 y4 y5 y6 y7 y8 y9) (laws_FnLessNums.l0 (k + 1) y0 y1 y2 y3 y4 y5 y6 y7 y8 y9)) ∧ (∀ y0 y1 y2 y3 y4 y5 y6 y7 y8 y9 y10 y11, LeO (laws_FnLessNums.l1 k y0 y1 y2 y3 y4 y5 y6 y7 y8 y9 y10 y11) (laws_FnLessNums.l1 (k + 1) y0 y1 y2 y3 y4 y5 y6 y7 y8 y9 y10 y11)) ∧ (∀ y0 y1 y2 y3 y4 y5 y6 y7 y8 y9 y10 y11 y12, LeO (laws_FnLessNums.l2 k y0 y1 y2 y3 y4 y5 y6 y7 y8 y9 y10 y11 y12) (laws_FnLessNums.l2 (k + 1) y0 y1 y2 y3 y4 y5 y6 y7 y8 y9 y10 y11 y12))
 | 0 => ⟨fun _ _ _ _ _ _ _ _ _ _ r h => by simp [laws_FnLessNums.l0] at h, fun _ _ _ _ _ _ _ _ _ _ _ _ r h => by simp [laws_FnLessNums.l1] at h, fun _ _ _ _ _ _ _ _ _ _ _ _ _ r h => by simp [laws_FnLessNums.l2] at h⟩
 | k + 1 => by
  obtain ⟨ih0, ih1, ih2⟩ := laws_FnLessNums.mono_l k
  refine ⟨?_, ?_, ?_⟩
  ·intro y0 y1 y2 y3 y4 y5 y6 y7 y8 y9
   unfold laws_FnLessNums.l0
   have m0 := @impl_NumsSaid.mono
   have m1 := @impl_OnlyFor.mono
   have m2 := @laws_hasNum.mono
   have m3 := @laws_sameInts.mono
   have m4 := @spec_Decide.mono
   have m5 := @spec_DrawPlaces.mono
   have m6 := @spec_DrawTwice.mono
   have m7 := @spec_NumsSaid.mono
   have m8 := @spec_PolicyOk.mono
   exact mo_
  ·intro y0 y1 y2 y3 y4 y5 y6 y7 y8 y9 y10 y11
   unfold laws_FnLessNums.l1
   have m0 := @impl_NumsSaid.mono
   have m1 := @impl_OnlyFor.mono
   have m2 := @laws_hasNum.mono
   have m3 := @laws_sameInts.mono
   have m4 := @spec_Decide.mono
   have m5 := @spec_DrawPlaces.mono
   have m6 := @spec_DrawTwice.mono
   have m7 := @spec_NumsSaid.mono
   have m8 := @spec_PolicyOk.mono
   exact mo_
  ·intro y0 y1 y2 y3 y4 y5 y6 y7 y8 y9 y10 y11 y12
   unfold laws_FnLessNums.l2
   have m0 := @impl_NumsSaid.mono
   have m1 := @impl_OnlyFor.mono
   have m2 := @laws_hasNum.mono
   have m3 := @laws_sameInts.mono
   have m4 := @spec_Decide.mono
   have m5 := @spec_DrawPlaces.mono
   have m6 := @spec_DrawTwice.mono
   have m7 := @spec_NumsSaid.mono
   have m8 := @spec_PolicyOk.mono
   exact mo_
theorem laws_FnLessNums.mono : ∀ a0 k, LeO (laws_FnLessNums.f k a0) (laws_FnLessNums.f (k + 1) a0) := by
 intro a0 k
 obtain ⟨ih0, ih1, ih2⟩ := laws_FnLessNums.mono_l k
 unfold laws_FnLessNums.f
 have m0 := @impl_NumsSaid.mono
 have m1 := @impl_OnlyFor.mono
 have m2 := @laws_hasNum.mono
 have m3 := @laws_sameInts.mono
 have m4 := @spec_Decide.mono
 have m5 := @spec_DrawPlaces.mono
 have m6 := @spec_DrawTwice.mono
 have m7 := @spec_NumsSaid.mono
 have m8 := @spec_PolicyOk.mono
 exact mo_
def laws_FnLessNums.T12 : Bool × List (List Nat × List Nat) := (true, [([], []), ([0], [0]), ([1], [1]), ([2, 1], [1, 2]), ([1], [1]), ([3, 4, 1], [1, 3, 4]), ([5, 1], [1, 5]), ([6, 1], [1, 6]), ([1], [1]), ([1], [1]), ([8, 9, 1], [1, 8, 9]), ([10, 1], [1, 10]), ([7, 11, 1, 1], [1, 7, 11]), ([1, 12], [1, 12]), ([13, 12, 0, 1, 2, 3, 4, 5, 6, 7, 8, 9, 10, 11, 12, 13], [0, 13])])
def laws_FnLessNums.B12 : List Nat := [0, 1, 3, 7, 3, 31, 63, 127, 3, 3, 771, 1795, 4095, 8191, 16383]
theorem laws_FnLessNums.tab12 : rtab .any (opsOf Try.f5 12) = laws_FnLessNums.T12 := by kernel_rfl
theorem laws_FnLessNums.bits12 : waitsOk laws_FnLessNums.T12.2 laws_FnLessNums.B12 = true := by kernel_rfl
def laws_FnLessNums.T13 : Bool × List (List Nat × List Nat) := (true, [([], []), ([0], [0]), ([1], [1]), ([2], [2]), ([3, 2], [2, 3]), ([4, 2, 2], [2, 4]), ([5], [5]), ([5], [5]), ([7, 5], [5, 7]), ([6, 8, 5], [5, 6, 8]), ([9, 5], [5, 9]), ([5], [5]), ([5], [5]), ([11, 12, 5], [5, 11, 12]), ([13, 5], [5, 13]), ([10, 14, 5], [5, 10, 14]), ([5, 15, 2], [2, 5, 15]), ([2, 16], [2, 16])])
def laws_FnLessNums.B13 : List Nat := [0, 1, 3, 7, 15, 31, 63, 63, 191, 511, 1023, 63, 63, 6207, 14399, 32767, 65535, 131071]
theorem laws_FnLessNums.tab13 : rtab .any (opsOf Try.f5 13) = laws_FnLessNums.T13 := by kernel_rfl
theorem laws_FnLessNums.bits13 : waitsOk laws_FnLessNums.T13.2 laws_FnLessNums.B13 = true := by kernel_rfl
def laws_FnLessNums.T15 : Bool × List (List Nat × List Nat) := (true, [([], []), ([0], [0]), ([], []), ([2], [2]), ([3], [3]), ([4], [4]), ([5], [5]), ([], []), ([7], [7]), ([1, 6, 8], [1, 6, 8]), ([], []), ([10, 9, 3, 0, 1, 2, 3, 4, 5, 6, 7, 8, 9, 10], [9, 10])])
def laws_FnLessNums.B15 : List Nat := [0, 1, 0, 4, 12, 28, 60, 0, 128, 511, 0, 2047]
theorem laws_FnLessNums.tab15 : rtab .any (opsOf Try.f5 15) = laws_FnLessNums.T15 := by kernel_rfl
theorem laws_FnLessNums.bits15 : waitsOk laws_FnLessNums.T15.2 laws_FnLessNums.B15 = true := by kernel_rfl
def laws_FnLessNums.T20 : Bool × List (List Nat × List Nat) := (true, [([], []), ([0], [0]), ([], []), ([1, 2], [1, 2]), ([3], [3]), ([4], [4]), ([5], [5]), ([6], [6]), ([7], [7]), ([8], [8]), ([9, 8], [8, 9]), ([8], [8]), ([10, 11, 8], [8, 10, 11]), ([12, 8], [8, 12]), ([13, 8], [8, 13]), ([8], [8]), ([15, 8], [8, 15]), ([14, 16, 8, 8], [8, 14, 16]), ([17, 8], [8, 17]), ([8, 18], [8, 18])])
def laws_FnLessNums.B20 : List Nat := [0, 1, 0, 7, 15, 31, 63, 127, 255, 511, 1023, 511, 4095, 8191, 16383, 511, 33279, 131071, 262143, 524287]
theorem laws_FnLessNums.tab20 : rtab .any (opsOf Try.f5 20) = laws_FnLessNums.T20 := by kernel_rfl
theorem laws_FnLessNums.bits20 : waitsOk laws_FnLessNums.T20.2 laws_FnLessNums.B20 = true := by kernel_rfl
def laws_FnLessNums.T22 : Bool × List (List Nat × List Nat) := (true, [([], []), ([], []), ([0, 1], [0, 1]), ([], []), ([], []), ([3, 4, 2], [3, 4]), ([2, 5], [2, 5]), ([6, 5], [6]), ([7], [7]), ([8, 7, 7], [7, 8]), ([7, 9], [7, 9]), ([10, 9], [10]), ([11], [11]), ([11], [11]), ([13, 11, 11], [11, 13]), ([12, 14, 14, 11], [11, 12, 14]), ([11, 15], [11, 15]), ([16, 15], [16]), ([17], [17]), ([18, 17], [17, 18]), ([19, 17], [17, 19]), ([17], [17]), ([21, 17], [17, 21]), ([22, 17], [17, 22]), ([20, 23, 17], [17, 20, 23]), ([17, 24], [17, 24]), ([25, 17, 0, 1, 2, 3, 4, 5, 6, 7, 8, 9, 10, 11, 12, 13, 14, 15, 16, 17, 18, 19, 20, 21, 22, 23, 24, 25], [25])])
def laws_FnLessNums.B22 : List Nat := [0, 0, 3, 0, 0, 31, 63, 127, 255, 511, 1023, 2047, 4095, 4095, 12287, 32767, 65535, 131071, 262143, 524287, 1048575, 262143, 2359295, 6553599, 16777215, 33554431, 67108863]
theorem laws_FnLessNums.tab22 : rtab .any (opsOf Try.f5 22) = laws_FnLessNums.T22 := by kernel_rfl
theorem laws_FnLessNums.bits22 : waitsOk laws_FnLessNums.T22.2 laws_FnLessNums.B22 = true := by kernel_rfl
theorem laws_FnLessNums.calls (k : Nat) (A0 : Option Addr) (c0 : Nat) (l0 : List Int) (r : Bool) (w : World) (hr0 : Kd.C (Kd.int .u8) w A0 l0.length l0) (hc0 : l0.length ≤ c0) (hrt : r = true) (h : laws_FnLessNums.f k l0 = some r) :
 Calls Try.prog 5 #[.slice A0 l0.length c0] w fun e w' => e = .returned (.bool r) ∧ Below w.heap.size w w' := by
 have hu36 := Try.underlying36
 have hu47 := Try.underlying47
 have HR0 := Aside0.mk hr0
 have HC0 := Aside0.mk hc0
 clear hr0 hc0
 have HRt := Aside0.mk hrt
 clear hrt
 have HB := Aside0.mk (Below.refl w.heap.size w)
 have H := h
 unfold laws_FnLessNums.f at H
 clear h
 replace H := bs_ H
 obtain ⟨t593, A2, H⟩ := H
 try dsimp only at H
 by_cases c3 : t593 = true
 ·subst c3
  rw [if_pos rfl] at H
  obtain rfl := Option.some.inj H
  go_enter Try.func5, Try.ntmps5
  go_wp2_with (first | ((with_reducible refine gate_callee (f := 21) rfl ?_); refine gs_ (some 13) Try.func21 #[.slice A0 l0.length c0] ?_; (with_reducible refine (laws_big.calls _ _ l0 true _ ?side1 ?side2 A2.out).mono ?_); (case side1 => exact cs_ HR0.out); (case side2 => exact HC0.out); rintro e w' ⟨rfl, ⟨nd, rfl⟩⟩; refine ⟨_, rfl, ?_⟩))
  go_ret
  exact ⟨er_, bl_⟩
 replace c3 := Bool.eq_false_iff.mpr c3
 subst c3
 rw [nf_] at H
 replace H := bs_ H
 obtain ⟨⟨t594, t595, t596, t597, t600, t601, t602⟩, A4, H⟩ := H
 try dsimp only at H
 replace H := bs_ H
 obtain ⟨t607, A5, H⟩ := H
 try dsimp only at H
 have H' := Aside0.mk H
 clear H
 go_enter Try.func5, Try.ntmps5
 go_wp2_with (first | ((with_reducible refine gate_callee (f := 21) rfl ?_); refine gs_ (some 13) Try.func21 #[.slice A0 l0.length c0] ?_; (with_reducible refine (laws_big.calls _ _ l0 false _ ?side1 ?side2 A2.out).mono ?_); (case side1 => exact cs_ HR0.out); (case side2 => exact HC0.out); rintro e w' ⟨rfl, ⟨nd, rfl⟩⟩; refine ⟨_, rfl, ?_⟩) | ((with_reducible refine gate_callee (f := 22) rfl ?_); refine gs_ (some 16) Try.func22 #[.slice A0 l0.length c0] ?_; (with_reducible refine (spec_DrawTwice.calls k _ _ l0 t594 t595 t596 t597 t600 t601 t602 _ ?side1 ?side2 A4.out).mono ?_); (case side1 => exact cs_ HR0.out); (case side2 => exact HC0.out); rintro e w6 ⟨v598, v603, rfl, ho0, ho1, hb⟩; refine ⟨_, rfl, ?_⟩; have HO599 := Aside0.mk (Kd.N_lower (Kd.N_mono (ok' := fun k_ => some k_ ≠ (v603 : Value).ownBlock) ho0 (fun k_ hk_ => hk_.2)) (below_size bl_)); have HO604 := Aside0.mk (Kd.R_lower (Kd.R_mono (ok' := fun k_ => True) ho1 (fun _ hk_ => trivial)) (below_size bl_)); replace HB := Aside0.mk (below_step bl_ hb); (try clear hb); (try clear ho0); (try clear ho1)) | ((with_reducible refine gate_dst (N := 3) rfl ?_); (try (refine gate_guard (by rfl) ?_; dsimp only)); refine bx_ 3 36 #[.int .i64 0, .int .i64 0, .int .i64 0, .slice none 0 0] ?_; intro gb605 hg w7 hbox hb; replace HO599 := Aside0.mk (Kd.N_below (Kd.N_elderB (by (with_reducible repeat (first | apply Kd.N_alloc | apply Kd.N_drewN | apply Kd.N_drew)); exact HO599.out) gb605 (Nat.le_of_eq hg.symm)) hb); replace HO604 := Aside0.mk (Kd.R_below (ra_ HO604.out) hb); have BK605 := Aside0.mk (hbox); have GW605 := Aside0.mk ((hz_ : w.heap.size ≤ gb605)); have GE605 := Aside0.mk ((hz_ : w.heap.size ≤ gb605)); replace HB := Aside0.mk (below_step bl_ hb); clear hb hbox hg) | ((with_reducible refine gate_dst (N := 4) rfl ?_); (try (refine gate_guard (by rfl) ?_; dsimp only)); refine bx_ 4 47 #[.int .i64 0, .int .i64 0, .slice none 0 0] ?_; intro gb606 hg w8 hbox hb; replace HO599 := Aside0.mk (Kd.N_below (Kd.N_elderB (by (with_reducible repeat (first | apply Kd.N_alloc | apply Kd.N_drewN | apply Kd.N_drew)); exact HO599.out) gb606 (Nat.le_of_eq hg.symm)) hb); replace HO604 := Aside0.mk (Kd.R_below (ra_ HO604.out) hb); have BK606 := Aside0.mk (hbox); have GW606 := Aside0.mk ((hz_ : w.heap.size ≤ gb606)); have GE606 := Aside0.mk ((hz_ : w.heap.size ≤ gb606)); replace HB := Aside0.mk (below_step bl_ hb); have NB605_606 := Aside0.mk ((by rw [hg]; exact Nat.ne_of_lt (blk_lt (g := gb605) (o := .cells #[.int .i64 0, .int .i64 0, .int .i64 0, .slice none 0 0] 36 (0, 0)) (bk_ BK605.out)) : gb605 ≠ gb606)); have NB606_605 := Aside0.mk ((by rw [hg]; exact Nat.ne_of_gt (blk_lt (g := gb605) (o := .cells #[.int .i64 0, .int .i64 0, .int .i64 0, .slice none 0 0] 36 (0, 0)) (bk_ BK605.out)) : gb606 ≠ gb605)); replace BK605 := Aside0.mk (blk_below (bn0_ BK605.out) hb); clear hb hbox hg; have hnb9 := NB605_606.out; have hnc9 := NB606_605.out; obtain ⟨hcz10_0, hcz10_1, hcz10_2, hcz10_3, hfz10_0, hfz10_1, hfz10_2, hfz10_3⟩ := cf4_ BK605.out; obtain ⟨Ao11, co11, eo11⟩ := Kd.N_slice HO599.out; subst eo11; obtain ⟨hcz12_0, hcz12_1, hcz12_2, hfz12_0, hfz12_1, hfz12_2⟩ := cf3_ BK606.out; obtain ⟨Ao13, co13, eo13⟩ := Kd.R_slice HO604.out; subst eo13) | ((with_reducible refine gate_callee (f := 15) rfl ?_); refine gs_ (some 20) Try.func15 #[.agg #[.int .i64 t594, .int .i64 t595, .int .i64 t596, .slice Ao11 t597.length co11]] ?_; (with_reducible refine (impl_NumsSaid.calls k t594 t595 t596 _ _ t597 t607 _ ?side1 ?side2 A5.out).mono ?_); (case side1 => refine (Kd.N_reads' (e := 53) (base := w.heap.size) (ok := fun k_ => ((some k_ ≠ (.slice Ao13 t602.length co13 : Value).ownBlock ∧ k_ ≠ gb605) ∧ k_ ≠ gb606)) (n := t597.length) (c := co11) ?_).2.2; exact (by (with_reducible repeat (first | apply Kd.N_alloc | apply Kd.N_drewN | apply Kd.N_drew)); exact (Kd.N_mono (Kd.N_mono (Kd.N_far (p := ⟨gb606, 2, none⟩) (Kd.N_far (p := ⟨gb606, 1, none⟩) (Kd.N_far (p := ⟨gb606, 0, none⟩) (Kd.N_far (p := ⟨gb605, 3, none⟩) (Kd.N_far (p := ⟨gb605, 2, none⟩) (Kd.N_far (p := ⟨gb605, 1, none⟩) (Kd.N_far (p := ⟨gb605, 0, none⟩) (Kd.N_mono (Kd.N_mono HO599.out (fun k_ hk => (⟨hk, hk.1.2⟩ : _ ∧ k_ ≠ gb605))) (fun k_ hk => (⟨hk, hk.1.2⟩ : _ ∧ k_ ≠ gb606))) (fun _ hk => hk.1.2) (.int .i64 t594)) (fun _ hk => hk.1.2) (.int .i64 t595)) (fun _ hk => hk.1.2) (.int .i64 t596)) (fun _ hk => hk.1.2) (.slice Ao11 t597.length co11)) (fun _ hk => hk.2) (.int .i64 t600)) (fun _ hk => hk.2) (.int .i64 t601)) (fun _ hk => hk.2) (.slice Ao13 t602.length co13)) (fun _ h_ => h_.1)) (fun _ h_ => h_.1)))); (case side2 => exact (Kd.N_reads' HO599.out).2.1); rintro e w14 ⟨v608, rfl, ho0, hb⟩; refine ⟨_, rfl, ?_⟩; replace HO599 := Aside0.mk (Kd.N_elder' (by (with_reducible repeat (first | apply Kd.N_alloc | apply Kd.N_drewN | apply Kd.N_drew)); exact (Kd.N_mono (Kd.N_mono (Kd.N_far (p := ⟨gb606, 2, none⟩) (Kd.N_far (p := ⟨gb606, 1, none⟩) (Kd.N_far (p := ⟨gb606, 0, none⟩) (Kd.N_far (p := ⟨gb605, 3, none⟩) (Kd.N_far (p := ⟨gb605, 2, none⟩) (Kd.N_far (p := ⟨gb605, 1, none⟩) (Kd.N_far (p := ⟨gb605, 0, none⟩) (Kd.N_mono (Kd.N_mono HO599.out (fun k_ hk => (⟨hk, hk.1.2⟩ : _ ∧ k_ ≠ gb605))) (fun k_ hk => (⟨hk, hk.1.2⟩ : _ ∧ k_ ≠ gb606))) (fun _ hk => hk.1.2) (.int .i64 t594)) (fun _ hk => hk.1.2) (.int .i64 t595)) (fun _ hk => hk.1.2) (.int .i64 t596)) (fun _ hk => hk.1.2) (.slice Ao11 t597.length co11)) (fun _ hk => hk.2) (.int .i64 t600)) (fun _ hk => hk.2) (.int .i64 t601)) (fun _ hk => hk.2) (.slice Ao13 t602.length co13)) (fun _ h_ => h_.1)) (fun _ h_ => h_.1))) (Kd.R_base ho0) hb); replace HO604 := Aside0.mk (Kd.R_below (by (with_reducible repeat (first | apply Kd.R_alloc | apply Kd.R_drewN | apply Kd.R_drew)); exact (Kd.R_mono (Kd.R_mono (Kd.R_far (p := ⟨gb606, 2, none⟩) (Kd.R_far (p := ⟨gb606, 1, none⟩) (Kd.R_far (p := ⟨gb606, 0, none⟩) (Kd.R_far (p := ⟨gb605, 3, none⟩) (Kd.R_far (p := ⟨gb605, 2, none⟩) (Kd.R_far (p := ⟨gb605, 1, none⟩) (Kd.R_far (p := ⟨gb605, 0, none⟩) (Kd.R_types (Kd.R_types HO604.out BK605.out (by decide)) BK606.out (by decide)) (fun _ hk => hk.1.2) (.int .i64 t594)) (fun _ hk => hk.1.2) (.int .i64 t595)) (fun _ hk => hk.1.2) (.int .i64 t596)) (fun _ hk => hk.1.2) (.slice Ao11 t597.length co11)) (fun _ hk => hk.2) (.int .i64 t600)) (fun _ hk => hk.2) (.int .i64 t601)) (fun _ hk => hk.2) (.slice Ao13 t602.length co13)) (fun _ h_ => h_.1)) (fun _ h_ => h_.1))) hb); have HO609 := Aside0.mk (Kd.R_lower ho0 (below_size bl_)); replace BK605 := Aside0.mk (blk_below (g := gb605) (o := .cells #[.int .i64 t594, .int .i64 t595, .int .i64 t596, .slice Ao11 t597.length co11] 36 (0, 0)) (bp1_ BK605.out NB605_606.out) hb); replace BK606 := Aside0.mk (blk_below (g := gb606) (o := .cells #[.int .i64 t600, .int .i64 t601, .slice Ao13 t602.length co13] 47 (0, 0)) (bp1_ BK606.out NB606_605.out) hb); replace HB := Aside0.mk (below_step bl_ hb); (try clear hb); (try clear ho0)))
 go_loopg [6] k (fun kq v6 w' => ∃ (x6_1 : Int), v6 = .int .i64 x6_1 ∧ Aside0 (laws_FnLessNums.l0 kq l0 t607 x6_1 t594 t595 t596 t597 t600 t601 t602 = some r) ∧ Aside0 (kq ≤ k) ∧ Aside0 (Kd.R (Kd.int .i64) 3 w' w.heap.size (fun _ => True) v608 t607) ∧ Aside0 (Kd.N k53 53 w' w.heap.size (fun k_ => some k_ ≠ (v608 : Value).ownBlock ∧ some k_ ≠ ((.slice Ao13 t602.length co13) : Value).ownBlock ∧ k_ ≠ gb605 ∧ k_ ≠ gb606) (.slice Ao11 t597.length co11) t597) ∧ Aside0 (Kd.R k98 98 w' w.heap.size (fun _ => True) (.slice Ao13 t602.length co13) t602) ∧ Aside0 (w'.heap[gb605]? = some (.cells #[.int .i64 t594, .int .i64 t595, .int .i64 t596, (.slice Ao11 t597.length co11)] 36 (0, 0))) ∧ Aside0 (w'.heap[gb606]? = some (.cells #[.int .i64 t600, .int .i64 t601, (.slice Ao13 t602.length co13)] 47 (0, 0))) ∧ Aside0 (Below w.heap.size w w'))
 case atStart => exact ⟨(0), (sr_), H', ⟨Nat.le_refl _⟩, ⟨ra_ HO609.out⟩, ⟨by (with_reducible repeat (first | apply Kd.N_alloc | apply Kd.N_drewN | apply Kd.N_drew)); exact Kd.N_mono HO599.out (fun _ hk => ⟨hk.2, ⟨hk.1.1.1, ⟨hk.1.1.2, hk.1.2⟩⟩⟩)⟩, ⟨ra_ HO604.out⟩, ⟨bk_ BK605.out⟩, ⟨bk_ BK606.out⟩, ⟨bl_⟩⟩
 clear H'
 try clear c3
 try clear hcz10_0
 try clear hcz10_1
 try clear hcz10_2
 try clear hcz10_3
 try clear hcz12_0
 try clear hcz12_1
 try clear hcz12_2
 try clear hfz10_0
 try clear hfz10_1
 try clear hfz10_2
 try clear hfz10_3
 try clear hfz12_0
 try clear hfz12_1
 try clear hfz12_2
 obtain ⟨x6_1, rfl, HA, HK1, HO_5, HO_606003, HO_607002, BK605, BK606, HB⟩ := hrel
 cases gk with
 | zero => exact absurd HA.out (by simp [laws_FnLessNums.l0])
 | succ k1 => ?_
 have H := HA.out
 clear HA
 simp only [laws_FnLessNums.l0] at H
 by_cases c15 : x6_1 < (t607.length : Int)
 ·rw [if_pos c15] at H
  have c15b0 := decide_eq_true c15
  clear c15
  have H' := Aside0.mk H
  clear H
  obtain ⟨Ao16, co16, eo16⟩ := Kd.R_slice HO_5.out
  subst eo16
  go_wp2
  go_loopg [7, 8] k1 (fun kq v7 v8 w' => ∃ (x7_2 : Bool) (x8_2 : Int), v7 = .bool x7_2 ∧ v8 = .int .i64 x8_2 ∧ Aside0 (laws_FnLessNums.l1 kq l0 t607 x6_1 x7_2 x8_2 t594 t595 t596 t597 t600 t601 t602 = some r) ∧ Aside0 (kq ≤ k1) ∧ Aside0 (Kd.R (Kd.int .i64) 3 w' w.heap.size (fun _ => True) (.slice Ao16 t607.length co16) t607) ∧ Aside0 (Kd.N k53 53 w' w.heap.size (fun k_ => some k_ ≠ ((.slice Ao16 t607.length co16) : Value).ownBlock ∧ some k_ ≠ ((.slice Ao13 t602.length co13) : Value).ownBlock ∧ k_ ≠ gb605 ∧ k_ ≠ gb606) (.slice Ao11 t597.length co11) t597) ∧ Aside0 (Kd.R k98 98 w' w.heap.size (fun _ => True) (.slice Ao13 t602.length co13) t602) ∧ Aside0 (w'.heap[gb605]? = some (.cells #[.int .i64 t594, .int .i64 t595, .int .i64 t596, (.slice Ao11 t597.length co11)] 36 (0, 0))) ∧ Aside0 (w'.heap[gb606]? = some (.cells #[.int .i64 t600, .int .i64 t601, (.slice Ao13 t602.length co13)] 47 (0, 0))) ∧ Aside0 (Below w.heap.size w w'))
  case atStart => exact ⟨(false), (0), (sr_), (sr_), H', ⟨Nat.le_refl _⟩, ⟨ra_ HO_5.out⟩, ⟨by (with_reducible repeat (first | apply Kd.N_alloc | apply Kd.N_drewN | apply Kd.N_drew)); exact HO_606003.out⟩, ⟨ra_ HO_607002.out⟩, ⟨bk_ BK605.out⟩, ⟨bk_ BK606.out⟩, ⟨bl_⟩⟩
  clear H'
  try clear c3
  try clear c15
  try clear c15b0
  try clear hcz10_0
  try clear hcz10_1
  try clear hcz10_2
  try clear hcz10_3
  try clear hcz12_0
  try clear hcz12_1
  try clear hcz12_2
  try clear hfz10_0
  try clear hfz10_1
  try clear hfz10_2
  try clear hfz10_3
  try clear hfz12_0
  try clear hfz12_1
  try clear hfz12_2
  obtain ⟨x7_2, x8_2, rfl, rfl, HA, HK2, HO_5, HO_606003, HO_607002, BK605, BK606, HB⟩ := hrel
  cases gk with
  | zero => exact absurd HA.out (by simp [laws_FnLessNums.l1])
  | succ k2 => ?_
  have H := HA.out
  clear HA
  simp only [laws_FnLessNums.l1] at H
  by_cases c17 : x8_2 < (t597.length : Int)
  rotate_left
  ·rw [if_neg c17] at H
   have c17b0 := decide_eq_false c17
   clear c17
   by_cases c29 : x7_2 = true
   rotate_left
   ·replace c29 := Bool.eq_false_iff.mpr c29
    subst c29
    rw [nf_] at H
    exact absurd ((Option.some.inj H).trans HRt.out) (by decide)
   subst c29
   rw [if_pos rfl] at H
   by_cases c30 : x6_1 > 0
   rotate_left
   ·rw [if_neg c30] at H
    have c30b0 := decide_eq_false c30
    clear c30
    have H' := Aside0.mk H
    clear H
    have hnb40 := NB605_606.out
    have hnc40 := NB606_605.out
    obtain ⟨hcz41_0, hcz41_1, hcz41_2, hcz41_3, hfz41_0, hfz41_1, hfz41_2, hfz41_3⟩ := cf4_ BK605.out
    try go_wp2
    have n0_ := Aside0.mk (Kd.R_drew HO_5.out)
    have n1_ := Aside0.mk (Kd.N_drew HO_606003.out)
    have n2_ := Aside0.mk (Kd.R_drew HO_607002.out)
    have n3_ := Aside0.mk (blk_drew BK605.out)
    have n4_ := Aside0.mk (blk_drew BK606.out)
    have n5_ := Aside0.mk (below_drew1 HB.out)
    clear HO_5
    clear HO_606003
    clear HO_607002
    clear BK605
    clear BK606
    clear HB
    have HO_5 := n0_
    have HO_606003 := n1_
    have HO_607002 := n2_
    have BK605 := n3_
    have BK606 := n4_
    have HB := n5_
    clear n0_ n1_ n2_ n3_ n4_ n5_
    refine start_ (n := 18) (S := fun w' => True) (ds := []) #[false, false, false, false, false, false, false, false, false, false, false, false, false, false, false, false, false, false] (by kernel_rfl) rfl rfl trivial (fun hHeld => ?_); refine with_tabW laws_FnLessNums.tab13 laws_FnLessNums.bits13 (fun HT_ HW_ => ?_)
    generalize wr.drew = w42 at HO_5 HO_606003 HO_607002 BK605 BK606 HB hHeld ⊢
    refine pu_ 0 48 HT_ ?_
    refine pu_ 1 49 HT_ ?_
    refine pu_ 2 50 HT_ ?_
    refine pu_ 3 51 HT_ ?_
    refine pu_ 4 52 HT_ ?_
    refine pu_ 5 53 HT_ ?_
    refine pn_ 6 54 HT_ ?_
    refine pn_ 7 55 HT_ ?_
    refine pn_ 8 56 HT_ ?_
    refine pn_ 9 57 HT_ ?_
    refine pn_ 10 58 HT_ ?_
    refine pn_ 11 59 HT_ ?_
    refine pn_ 12 60 HT_ ?_
    refine pn_ 13 61 HT_ ?_
    refine pn_ 14 62 HT_ ?_
    refine pn_ 15 63 HT_ ?_
    refine pu_ 16 64 HT_ ?_
    refine pu_ 17 65 HT_ ?_
    refine done_ (done_of HT_.out (by kernel_rfl)) ?_
    try go_wp2
    go_roundg k2
    case measure => have := HK1.out; have := HK2.out; omega
    case rel => exact ⟨(wrap64 (x6_1 + 1)), (sr_), H', ⟨by have := HK1.out; have := HK2.out; omega⟩, ⟨ra_ HO_5.out⟩, ⟨by (with_reducible repeat (first | apply Kd.N_alloc | apply Kd.N_drewN | apply Kd.N_drew)); exact HO_606003.out⟩, ⟨ra_ HO_607002.out⟩, ⟨bk_ BK605.out⟩, ⟨bk_ BK606.out⟩, ⟨bl_⟩⟩
   rw [if_pos c30] at H
   have c30b0 := decide_eq_true c30
   clear c30
   obtain ⟨ji31, hji31⟩ : ∃ j_ : Int, (wrap64 (x6_1 - 1)) = j_ := ⟨_, rfl⟩
   replace H : (if 0 ≤ (ji31) then (if (ji31) < (t607.length : Int) then (if 0 ≤ x6_1 then (if x6_1 < (t607.length : Int) then (if (rd t607 (ji31)) ≥ (rd t607 x6_1) then (some false) else (laws_FnLessNums.l0 k2 l0 t607 (wrap64 (x6_1 + 1)) t594 t595 t596 t597 t600 t601 t602)) else (none)) else (none)) else (none)) else (none)) = some r := by first | (rw [hji31] at H; exact H) | (simp only [hji31] at H ⊢; exact H)
   have hji31w : (IntKind.i64.wrap (x6_1 - 1)) = ji31 := (i64_w _).trans hji31
   by_cases c32 : 0 ≤ (ji31)
   rotate_left
   ·exact nn_ c32 H
   rw [if_pos c32] at H
   have c32b0 := decide_eq_true c32
   clear c32
   by_cases c33 : (ji31) < (t607.length : Int)
   rotate_left
   ·exact nn_ c33 H
   rw [if_pos c33] at H
   have c33b0 := decide_eq_true c33
   clear c33
   by_cases c34 : 0 ≤ x6_1
   rotate_left
   ·exact nn_ c34 H
   rw [if_pos c34] at H
   have c34b0 := decide_eq_true c34
   clear c34
   by_cases c35 : x6_1 < (t607.length : Int)
   rotate_left
   ·exact nn_ c35 H
   rw [if_pos c35] at H
   have c35b0 := decide_eq_true c35
   clear c35
   by_cases c36 : (rd t607 (ji31)) ≥ (rd t607 x6_1)
   ·rw [if_pos c36] at H
    have c36b0 := decide_eq_true c36
    clear c36
    exact absurd ((Option.some.inj H).trans HRt.out) (by decide)
   rw [if_neg c36] at H
   have c36b0 := decide_eq_false c36
   clear c36
   have H' := Aside0.mk H
   clear H
   have hnb37 := NB605_606.out
   have hnc37 := NB606_605.out
   obtain ⟨hcz38_0, hcz38_1, hcz38_2, hcz38_3, hfz38_0, hfz38_1, hfz38_2, hfz38_3⟩ := cf4_ BK605.out
   try go_wp2
   have n0_ := Aside0.mk (Kd.R_drew HO_5.out)
   have n1_ := Aside0.mk (Kd.N_drew HO_606003.out)
   have n2_ := Aside0.mk (Kd.R_drew HO_607002.out)
   have n3_ := Aside0.mk (blk_drew BK605.out)
   have n4_ := Aside0.mk (blk_drew BK606.out)
   have n5_ := Aside0.mk (below_drew1 HB.out)
   clear HO_5
   clear HO_606003
   clear HO_607002
   clear BK605
   clear BK606
   clear HB
   have HO_5 := n0_
   have HO_606003 := n1_
   have HO_607002 := n2_
   have BK605 := n3_
   have BK606 := n4_
   have HB := n5_
   clear n0_ n1_ n2_ n3_ n4_ n5_
   have p613 : 0 ≤ ((ji31) : Int) := of_decide_eq_true as_
   have q613 : (ji31) < (t607.length : Int) := of_decide_eq_true as_
   obtain ⟨ad613, e613, hx613_0⟩ := Kd.at_int (Kd.R_reads' HO_5.out).2.2 (ji31) p613 q613
   cases e613
   replace p613 := eq_true p613
   replace q613 := eq_true q613
   have p614 : 0 ≤ (x6_1 : Int) := of_decide_eq_true as_
   have q614 : x6_1 < (t607.length : Int) := of_decide_eq_true as_
   obtain ⟨ad614, e614, hx614_0⟩ := Kd.at_int (Kd.R_reads' HO_5.out).2.2 x6_1 p614 q614
   obtain rfl : ad613 = ad614 := (by injection e614)
   replace p614 := eq_true p614
   replace q614 := eq_true q614
   refine start_ (n := 18) (S := fun w' => w'.cell? (ad613.add ((ji31)).toNat) = some (.int .i64 (rd t607 (ji31))) ∧ w'.cell? (ad613.add (x6_1).toNat) = some (.int .i64 (rd t607 x6_1))) (ds := []) #[false, false, false, false, false, false, false, false, false, false, false, false, false, false, false, false, false, false] (by kernel_rfl) rfl rfl ⟨hx613_0, hx614_0⟩ (fun hHeld => ?_); refine with_tabW laws_FnLessNums.tab13 laws_FnLessNums.bits13 (fun HT_ HW_ => ?_)
   generalize wr.drew = w39 at HO_5 HO_606003 HO_607002 BK605 BK606 HB hx613_0 hx614_0 hHeld ⊢
   refine pu_ 0 48 HT_ ?_
   refine pu_ 1 49 HT_ ?_
   refine pu_ 2 50 HT_ ?_
   refine pu_ 3 51 HT_ ?_
   refine pu_ 4 52 HT_ ?_
   refine pu_ 5 53 HT_ ?_
   refine pu_ 6 54 HT_ ?_
   refine pu_ 7 55 HT_ ?_
   refine pu_ 8 56 HT_ ?_
   refine pu_ 9 57 HT_ ?_
   refine pu_ 11 59 HT_ ?_
   refine pu_ 12 60 HT_ ?_
   refine pu_ 13 61 HT_ ?_
   refine ta_ 10 58 HT_ HW_ hHeld ?_ (r := by rintro w' ⟨s0, s1⟩; go_simp; with_reducible rfl)
   refine ta_ 14 62 HT_ HW_ hHeld ?_ (r := by rintro w' ⟨s0, s1⟩; go_simp; with_reducible rfl)
   refine pu_ 15 63 HT_ ?_
   refine pu_ 16 64 HT_ ?_
   refine pu_ 17 65 HT_ ?_
   refine done_ (done_of HT_.out (by kernel_rfl)) ?_
   try go_wp2
   go_roundg k2
   case measure => have := HK1.out; have := HK2.out; omega
   case rel => exact ⟨(wrap64 (x6_1 + 1)), (sr_), H', ⟨by have := HK1.out; have := HK2.out; omega⟩, ⟨ra_ HO_5.out⟩, ⟨by (with_reducible repeat (first | apply Kd.N_alloc | apply Kd.N_drewN | apply Kd.N_drew)); exact HO_606003.out⟩, ⟨ra_ HO_607002.out⟩, ⟨bk_ BK605.out⟩, ⟨bk_ BK606.out⟩, ⟨bl_⟩⟩
  rw [if_pos c17] at H
  have c17b0 := decide_eq_true c17
  clear c17
  by_cases c18 : x7_2 = true
  ·subst c18
   rw [if_pos rfl] at H
   have H' := Aside0.mk H
   clear H
   have hnb19 := NB605_606.out
   have hnc19 := NB606_605.out
   obtain ⟨hcz20_0, hcz20_1, hcz20_2, hcz20_3, hfz20_0, hfz20_1, hfz20_2, hfz20_3⟩ := cf4_ BK605.out
   try go_wp2
   have n0_ := Aside0.mk (Kd.R_drew HO_5.out)
   have n1_ := Aside0.mk (Kd.N_drew HO_606003.out)
   have n2_ := Aside0.mk (Kd.R_drew HO_607002.out)
   have n3_ := Aside0.mk (blk_drew BK605.out)
   have n4_ := Aside0.mk (blk_drew BK606.out)
   have n5_ := Aside0.mk (below_drew1 HB.out)
   clear HO_5
   clear HO_606003
   clear HO_607002
   clear BK605
   clear BK606
   clear HB
   have HO_5 := n0_
   have HO_606003 := n1_
   have HO_607002 := n2_
   have BK605 := n3_
   have BK606 := n4_
   have HB := n5_
   clear n0_ n1_ n2_ n3_ n4_ n5_
   refine start_ (n := 15) (S := fun w' => True) (ds := []) #[false, false, false, false, false, false, false, false, false, false, false, false, false, false, false] (by kernel_rfl) rfl rfl trivial (fun hHeld => ?_); refine with_tabW laws_FnLessNums.tab12 laws_FnLessNums.bits12 (fun HT_ HW_ => ?_)
   generalize wr.drew = w21 at HO_5 HO_606003 HO_607002 BK605 BK606 HB hHeld ⊢
   refine pu_ 0 34 HT_ ?_
   refine pu_ 1 35 HT_ ?_
   refine pn_ 2 36 HT_ ?_
   refine pn_ 3 37 HT_ ?_
   refine pn_ 4 38 HT_ ?_
   refine pn_ 5 39 HT_ ?_
   refine pn_ 6 40 HT_ ?_
   refine pn_ 7 41 HT_ ?_
   refine pn_ 8 42 HT_ ?_
   refine pn_ 9 43 HT_ ?_
   refine pn_ 10 44 HT_ ?_
   refine pn_ 11 45 HT_ ?_
   refine pn_ 12 46 HT_ ?_
   refine pu_ 13 47 HT_ ?_
   refine pu_ 14 7 HT_ ?_
   refine done_ (done_of HT_.out (by kernel_rfl)) ?_
   try go_wp2
   go_roundg k2
   case measure => have := HK1.out; have := HK2.out; omega
   case rel => exact ⟨(true), (wrap64 (x8_2 + 1)), (sr_), (sr_), H', ⟨by have := HK1.out; have := HK2.out; omega⟩, ⟨ra_ HO_5.out⟩, ⟨by (with_reducible repeat (first | apply Kd.N_alloc | apply Kd.N_drewN | apply Kd.N_drew)); exact HO_606003.out⟩, ⟨ra_ HO_607002.out⟩, ⟨bk_ BK605.out⟩, ⟨bk_ BK606.out⟩, ⟨bl_⟩⟩
  replace c18 := Bool.eq_false_iff.mpr c18
  subst c18
  rw [nf_] at H
  by_cases c22 : 0 ≤ x8_2
  rotate_left
  ·exact nn_ c22 H
  rw [if_pos c22] at H
  have c22b0 := decide_eq_true c22
  clear c22
  by_cases c23 : 0 ≤ x6_1
  rotate_left
  ·exact nn_ c23 H
  rw [if_pos c23] at H
  have c23b0 := decide_eq_true c23
  clear c23
  by_cases c24 : x6_1 < (t607.length : Int)
  rotate_left
  ·exact nn_ c24 H
  rw [if_pos c24] at H
  have c24b0 := decide_eq_true c24
  clear c24
  replace H := bs_ H
  obtain ⟨t612, A25, H⟩ := H
  try dsimp only at H
  have H' := Aside0.mk H
  clear H
  have hnb26 := NB605_606.out
  have hnc26 := NB606_605.out
  obtain ⟨hcz27_0, hcz27_1, hcz27_2, hcz27_3, hfz27_0, hfz27_1, hfz27_2, hfz27_3⟩ := cf4_ BK605.out
  try go_wp2
  have n0_ := Aside0.mk (Kd.R_drew HO_5.out)
  have n1_ := Aside0.mk (Kd.N_drew HO_606003.out)
  have n2_ := Aside0.mk (Kd.R_drew HO_607002.out)
  have n3_ := Aside0.mk (blk_drew BK605.out)
  have n4_ := Aside0.mk (blk_drew BK606.out)
  have n5_ := Aside0.mk (below_drew1 HB.out)
  clear HO_5
  clear HO_606003
  clear HO_607002
  clear BK605
  clear BK606
  clear HB
  have HO_5 := n0_
  have HO_606003 := n1_
  have HO_607002 := n2_
  have BK605 := n3_
  have BK606 := n4_
  have HB := n5_
  clear n0_ n1_ n2_ n3_ n4_ n5_
  have p610 : 0 ≤ (x8_2 : Int) := of_decide_eq_true as_
  have q610 : x8_2 < (t597.length : Int) := of_decide_eq_true as_
  obtain ⟨ad610, A610_0, c610_0, A610_1, c610_1, e610, hx610_0, hx610_1, hx610_2, hx610_3, hl610_0, hi610_0, hl610_1, hi610_1⟩ := at_T53 (Kd.N_reads' HO_606003.out).2.2 x8_2 p610 q610
  cases e610
  obtain ⟨ce610, hce610, hMe610, hcc610⟩ := Kd.N_get HO_606003.out z53 x8_2 p610 (by first | exact q610 | exact of_decide_eq_true as_ | (have e_ := (Kd.N_reads' HO_606003.out).1; omega))
  obtain ⟨ua610_0, uc610_0, ua610_1, uc610_1, rfl, ul610_0, ge610_0, ul610_1, ge610_1⟩ := k53_openF hMe610
  have hv610_0 := hcc610 0 _ rfl
  rw [Nat.add_zero] at hv610_0
  replace hv610_0 := Option.some.inj (hv610_0.symm.trans hx610_0)
  injection hv610_0 with hva_ hvn_ hvc_
  rw [hva_] at ge610_0
  rw [hvc_] at ul610_0
  have HL610_0 := Aside0.mk (show Kd.V (Kd.int .i64) 3 _ w.heap.size _ _ ((rd_T53 t597 x8_2).f0) from Kd.V_mk ul610_0 ge610_0)
  clear hva_ hvn_ hvc_ ge610_0 ul610_0
  have hv610_1 := hcc610 1 _ rfl
  rw [add_field _ _ 1 (by omega)] at hv610_1
  replace hv610_1 := Option.some.inj (hv610_1.symm.trans hx610_1)
  injection hv610_1 with hva_ hvn_ hvc_
  rw [hva_] at ge610_1
  rw [hvc_] at ul610_1
  have HL610_1 := Aside0.mk (show Kd.V k100 100 _ w.heap.size _ _ ((rd_T53 t597 x8_2).f1) from Kd.V_mk ul610_1 ge610_1)
  clear hva_ hvn_ hvc_ ge610_1 ul610_1
  clear hcc610 hce610
  have HR610_0 := Aside0.mk hi610_0
  have HC610_0 := Aside0.mk hl610_0
  clear hi610_0 hl610_0
  have HR610_1 := Aside0.mk hi610_1
  have HC610_1 := Aside0.mk hl610_1
  clear hi610_1 hl610_1
  replace p610 := eq_true p610
  replace q610 := eq_true q610
  have p611 : 0 ≤ (x6_1 : Int) := of_decide_eq_true as_
  have q611 : x6_1 < (t607.length : Int) := of_decide_eq_true as_
  obtain ⟨ad611, e611, hx611_0⟩ := Kd.at_int (Kd.R_reads' HO_5.out).2.2 x6_1 p611 q611
  cases e611
  replace p611 := eq_true p611
  replace q611 := eq_true q611
  refine start_ (n := 15) (S := fun w' => w'.cell? ⟨gb605, 0, none⟩ = some (.int .i64 t594) ∧ w'.cell? ⟨gb605, 1, none⟩ = some (.int .i64 t595) ∧ w'.cell? ⟨gb605, 2, none⟩ = some (.int .i64 t596) ∧ w'.cell? ⟨gb605, 3, none⟩ = some (.slice (some ad610) t597.length co11) ∧ w'.cell? (ad610.add ((x8_2).toNat * 4)) = some (.slice A610_0 ((rd_T53 t597 x8_2).f0).length c610_0) ∧ w'.cell? ⟨(ad610.add ((x8_2).toNat * 4)).block, (ad610.add ((x8_2).toNat * 4)).off + 1, none⟩ = some (.slice A610_1 ((rd_T53 t597 x8_2).f1).length c610_1) ∧ w'.cell? ⟨(ad610.add ((x8_2).toNat * 4)).block, (ad610.add ((x8_2).toNat * 4)).off + 2, none⟩ = some (.int .i64 ((rd_T53 t597 x8_2).f2)) ∧ w'.cell? ⟨(ad610.add ((x8_2).toNat * 4)).block, (ad610.add ((x8_2).toNat * 4)).off + 3, none⟩ = some (.int .i64 ((rd_T53 t597 x8_2).f3)) ∧ w'.cell? (ad611.add (x6_1).toNat) = some (.int .i64 (rd t607 x6_1))) (ds := []) #[false, false, false, false, false, false, false, false, false, false, false, false, false, false, false] (by kernel_rfl) rfl rfl ⟨(blk_cell BK605.out 0).trans rfl, (blk_cell BK605.out 1).trans rfl, (blk_cell BK605.out 2).trans rfl, (blk_cell BK605.out 3).trans rfl, hx610_0, hx610_1, hx610_2, hx610_3, hx611_0⟩ (fun hHeld => ?_); refine with_tabW laws_FnLessNums.tab12 laws_FnLessNums.bits12 (fun HT_ HW_ => ?_)
  generalize wr.drew = w28 at HO_5 HO_606003 HO_607002 BK605 BK606 HB HL610_0 HL610_1 HR610_0 HR610_1 hx610_0 hx610_1 hx610_2 hx610_3 hx611_0 hHeld ⊢
  refine pu_ 0 34 HT_ ?_
  refine pu_ 1 35 HT_ ?_
  refine pu_ 2 36 HT_ ?_
  refine pu_ 4 38 HT_ ?_
  refine pu_ 8 42 HT_ ?_
  refine pu_ 9 43 HT_ ?_
  refine pu_ 10 44 HT_ ?_
  refine ta_ 3 37 HT_ HW_ hHeld ?_ (r := by rintro w' ⟨s0, s1, s2, s3, s4, s5, s6, s7, s8⟩; go_simp; with_reducible rfl)
  refine pu_ 5 39 HT_ ?_
  refine pu_ 6 40 HT_ ?_
  refine ta_ 7 41 HT_ HW_ hHeld ?_ (r := by rintro w' ⟨s0, s1, s2, s3, s4, s5, s6, s7, s8⟩; go_simp; with_reducible rfl)
  refine ta_ 11 45 HT_ HW_ hHeld ?_ (r := by rintro w' ⟨s0, s1, s2, s3, s4, s5, s6, s7, s8⟩; go_simp; with_reducible rfl)
  refine on_ 12 46 HT_ (fun K hK => ?_)
  refine goes_ Try.func23 (by kernel_rfl) rfl #[.slice A610_0 ((rd_T53 t597 x8_2).f0).length c610_0, .int .i64 (rd t607 x6_1)] (by rfl) rfl rfl lm_ ?_
  with_reducible refine (laws_hasNum.calls k2 _ _ ((rd_T53 t597 x8_2).f0) (rd t607 x6_1) t612 _ ?side1 ?side2 A25.out).mono ?_
  (case side1 => repeat (first | exact (by repeat (first | (with_reducible exact HR610_0.out) | (with_reducible refine Kd.C_alloc ?_ _) | (with_reducible refine Kd.C_drewN ?_ _) | (with_reducible refine Kd.C_drew ?_) | exact HR610_0.out)) | (with_reducible refine Kd.C_alloc ?_ _) | (with_reducible refine Kd.C_drewN ?_ _) | (with_reducible refine Kd.C_drew ?_)))
  (case side2 => exact HC610_0.out)
  rintro e w' ⟨rfl, ⟨nd, rfl⟩⟩
  refine ⟨_, rfl, ?_⟩
  refine hK.out _ _ ⟨(blk_cell BK605.out 0).trans rfl, (blk_cell BK605.out 1).trans rfl, (blk_cell BK605.out 2).trans rfl, (blk_cell BK605.out 3).trans rfl, hHeld.2.2.2.2.1, hHeld.2.2.2.2.2.1, hHeld.2.2.2.2.2.2.1, hHeld.2.2.2.2.2.2.2.1, hHeld.2.2.2.2.2.2.2.2⟩ (fun hHeld => ?_)
  clear hK K
  refine norm_ (a' := ?_) ?_ ?_
  rotate_left
  ·show Act.put _ (some 46) _ = _
   simp only [Act.put, List.setIfInBounds_toArray, List.set_cons_zero, List.set_cons_succ, i64_w, i32_w]
   rfl
  refine pu_ 13 47 HT_ ?_
  refine pu_ 14 7 HT_ ?_
  refine done_ (done_of HT_.out (by kernel_rfl)) ?_
  try go_wp2
  go_roundg k2
  case measure => have := HK1.out; have := HK2.out; omega
  case rel => exact ⟨(t612), (wrap64 (x8_2 + 1)), (sr_), (sr_), H', ⟨by have := HK1.out; have := HK2.out; omega⟩, ⟨ra_ HO_5.out⟩, ⟨by (with_reducible repeat (first | apply Kd.N_alloc | apply Kd.N_drewN | apply Kd.N_drew)); exact HO_606003.out⟩, ⟨ra_ HO_607002.out⟩, ⟨bk_ BK605.out⟩, ⟨bk_ BK606.out⟩, ⟨bl_⟩⟩
 rw [if_neg c15] at H
 have c15b0 := decide_eq_false c15
 clear c15
 replace H := bs_ H
 obtain ⟨t615, A43, H⟩ := H
 try dsimp only at H
 by_cases c44 : 0 < (t615.length : Int)
 rotate_left
 ·exact nn_ c44 H
 rw [if_pos c44] at H
 have c44b0 := decide_eq_true c44
 have c44b1 : decide (0 < t615.length) = true := decide_eq_true (by omega)
 clear c44
 replace H := bs_ H
 obtain ⟨⟨t620, t621, t622, t623⟩, A45, H⟩ := H
 try dsimp only at H
 have H' := Aside0.mk H
 clear H
 obtain ⟨Ao46, co46, eo46⟩ := Kd.R_slice HO_5.out
 subst eo46
 try go_wp2
 have n0_ := Aside0.mk (Kd.R_drew HO_5.out)
 have n1_ := Aside0.mk (Kd.N_drew HO_606003.out)
 have n2_ := Aside0.mk (Kd.R_drew HO_607002.out)
 have n3_ := Aside0.mk (blk_drew BK605.out)
 have n4_ := Aside0.mk (blk_drew BK606.out)
 have n5_ := Aside0.mk (below_drew1 HB.out)
 clear HO_5
 clear HO_606003
 clear HO_607002
 clear BK605
 clear BK606
 clear HB
 have HO_5 := n0_
 have HO_606003 := n1_
 have HO_607002 := n2_
 have BK605 := n3_
 have BK606 := n4_
 have HB := n5_
 clear n0_ n1_ n2_ n3_ n4_ n5_
 refine start_ (n := 12) (S := fun w' => w'.cell? ⟨gb605, 0, none⟩ = some (.int .i64 t594) ∧ w'.cell? ⟨gb605, 1, none⟩ = some (.int .i64 t595) ∧ w'.cell? ⟨gb605, 2, none⟩ = some (.int .i64 t596) ∧ w'.cell? ⟨gb605, 3, none⟩ = some (.slice Ao11 t597.length co11) ∧ w'.cell? ⟨gb606, 0, none⟩ = some (.int .i64 t600) ∧ w'.cell? ⟨gb606, 1, none⟩ = some (.int .i64 t601) ∧ w'.cell? ⟨gb606, 2, none⟩ = some (.slice Ao13 t602.length co13)) (ds := []) #[false, false, false, false, false, false, false, false, false, false, false, false] (by kernel_rfl) rfl rfl ⟨(blk_cell BK605.out 0).trans rfl, (blk_cell BK605.out 1).trans rfl, (blk_cell BK605.out 2).trans rfl, (blk_cell BK605.out 3).trans rfl, (blk_cell BK606.out 0).trans rfl, (blk_cell BK606.out 1).trans rfl, (blk_cell BK606.out 2).trans rfl⟩ (fun hHeld => ?_); refine with_tabW laws_FnLessNums.tab15 laws_FnLessNums.bits15 (fun HT_ HW_ => ?_)
 generalize wr.drew = w47 at HO_5 HO_606003 HO_607002 BK605 BK606 HB hHeld ⊢
 refine pu_ 0 66 HT_ ?_
 refine pu_ 2 68 HT_ ?_
 refine pu_ 7 73 HT_ ?_
 refine ta_ 1 67 HT_ HW_ hHeld ?_ (r := by rintro w' ⟨s0, s1, s2, s3, s4, s5, s6⟩; go_simp; with_reducible rfl)
 refine ta_ 8 74 HT_ HW_ hHeld ?_ (r := by rintro w' ⟨s0, s1, s2, s3, s4, s5, s6⟩; go_simp; with_reducible rfl)
 refine join_ (σ := Value × Nat) 1 #[true, true, true, true, true, true, true, true, true, true, true, false] (fun s_ => [(69, s_.1), (9, .pointer (some ⟨s_.2, 0, none⟩)), (70, .pointer (some (adOf s_.1))), (71, .int .i64 (rd t615 0)), (72, .int .i64 (wrap64 (1000 + (rd t615 0)))), (75, .agg #[.int .i64 t594, .int .i64 (wrap64 (1000 + (rd t615 0))), .slice Ao13 t602.length co13])]) (fun s_ w' => (w'.cell? ⟨gb605, 0, none⟩ = some (.int .i64 t594) ∧ w'.cell? ⟨gb605, 1, none⟩ = some (.int .i64 t595) ∧ w'.cell? ⟨gb605, 2, none⟩ = some (.int .i64 t596) ∧ w'.cell? ⟨gb605, 3, none⟩ = some (.slice Ao11 t597.length co11) ∧ w'.cell? ⟨gb606, 0, none⟩ = some (.int .i64 t600) ∧ w'.cell? ⟨gb606, 1, none⟩ = some (.int .i64 t601) ∧ w'.cell? ⟨gb606, 2, none⟩ = some (.slice Ao13 t602.length co13)) ∧ (Kd.R (Kd.int .i64) 3 w' w.heap.size (fun k_ => some k_ ≠ (.slice Ao46 t607.length co46 : Value).ownBlock) s_.1 t615) ∧ (Kd.R (Kd.int .i64) 3 w' w.heap.size (fun k_ => some k_ ≠ (s_.1 : Value).ownBlock) (.slice Ao46 t607.length co46) t607) ∧ (Kd.N k53 53 w' w.heap.size (fun k_ => some k_ ≠ (s_.1 : Value).ownBlock ∧ some k_ ≠ (.slice Ao46 t607.length co46 : Value).ownBlock ∧ some k_ ≠ (.slice Ao13 t602.length co13 : Value).ownBlock ∧ k_ ≠ gb605 ∧ k_ ≠ gb606 ∧ k_ ≠ s_.2) (.slice Ao11 t597.length co11) t597) ∧ (Kd.R k98 98 w' w.heap.size (fun _ => True) (.slice Ao13 t602.length co13) t602) ∧ (w'.heap[gb605]? = some (.cells #[.int .i64 t594, .int .i64 t595, .int .i64 t596, .slice Ao11 t597.length co11] 36 (0, 0))) ∧ (w'.heap[gb606]? = some (.cells #[.int .i64 t600, .int .i64 t601, .slice Ao13 t602.length co13] 47 (0, 0))) ∧ (w'.heap[s_.2]? = some (.cells #[.int .i64 0, .int .i64 0, .slice none 0 0] 47 (0, 0))) ∧ (w.heap.size ≤ s_.2) ∧ (w.heap.size ≤ s_.2) ∧ (gb605 ≠ s_.2) ∧ (s_.2 ≠ gb605) ∧ (gb606 ≠ s_.2) ∧ (s_.2 ≠ gb606) ∧ (Below w.heap.size w w')) ?_ ?_
 rotate_left
 ·intro hCont
  refine two_ (i := 3) (j := 10) (Ni := some 69) (Nj := some 9) #[true, true, true, true, false, false, false, true, true, false, false, false] #[true, true, true, false, false, false, false, true, true, false, true, false] rfl rfl rfl rfl (two_of HT_.out (by kernel_rfl)) (by decide) (by decide) (fun K hK => ?_) (fun K hK => ?_)
  ·skip
   refine goes_ Try.func24 (by kernel_rfl) rfl #[.slice A0 l0.length c0] (by rfl) rfl rfl lm_ ?_
   with_reducible refine (spec_DrawPlaces.calls k1 _ _ l0 t615 _ ?side1 ?side2 A43.out).mono ?_
   (case side1 => exact cb_ HR0.out HB.out)
   (case side2 => exact HC0.out)
   rintro e w48 ⟨v616, rfl, ho0, hb⟩
   refine ⟨_, rfl, ?_⟩
   have n0_ := Aside0.mk (Kd.R_elder' (ra_ HO_5.out) (Kd.R_base ho0) hb)
   have n1_ := Aside0.mk (Kd.N_elder' (by (with_reducible repeat (first | apply Kd.N_alloc | apply Kd.N_drewN | apply Kd.N_drew)); exact HO_606003.out) (Kd.R_base ho0) hb)
   have n2_ := Aside0.mk (Kd.R_below (ra_ HO_607002.out) hb)
   have n3_ := Aside0.mk (Kd.R_lower (Kd.R_new' ho0 (Kd.R_lt (ra_ HO_5.out))) (below_size bl_))
   have n4_ := Aside0.mk (blk_below (bn0_ BK605.out) hb)
   have n5_ := Aside0.mk (blk_below (bn0_ BK606.out) hb)
   have n6_ := Aside0.mk (below_step bl_ hb)
   clear HO_5
   clear HO_606003
   clear HO_607002
   clear BK605
   clear BK606
   clear HB
   have HO_5 := n0_
   have HO_606003 := n1_
   have HO_607002 := n2_
   have HO617 := n3_
   have BK605 := n4_
   have BK606 := n5_
   have HB := n6_
   clear n0_ n1_ n2_ n3_ n4_ n5_ n6_
   (try clear hb)
   (try clear hb2)
   (try clear hk)
   (try clear hi)
   (try clear ho0)
   refine hK.out _ _ ⟨(blk_cell BK605.out 0).trans rfl, (blk_cell BK605.out 1).trans rfl, (blk_cell BK605.out 2).trans rfl, (blk_cell BK605.out 3).trans rfl, (blk_cell BK606.out 0).trans rfl, (blk_cell BK606.out 1).trans rfl, (blk_cell BK606.out 2).trans rfl⟩ (fun hHeld => ?_)
   clear hK K
   refine norm_ (a' := ?_) ?_ ?_
   rotate_left
   ·show Act.put _ (some 69) _ = _
    simp only [Act.put, List.setIfInBounds_toArray, List.set_cons_zero, List.set_cons_succ, i64_w, i32_w]
    rfl
   obtain ⟨Aq, cq, eq⟩ := Kd.R_slice HO617.out
   subst eq
   have p618 : 0 ≤ (0 : Int) := (by omega)
   have q618 : 0 < (t615.length : Int) := of_decide_eq_true as_
   obtain ⟨ad618, e618, hx618_0⟩ := Kd.at_int (Kd.R_reads' HO617.out).2.2 0 p618 q618
   cases e618
   have qi618 : (0 < t615.length) = True := eq_true (by omega)
   (try rw [show ((0 : Int)).toNat = 0 from rfl] at hx618_0)
   (try rw [Addr.add_zero'] at hx618_0)
   replace p618 := eq_true p618
   replace q618 := eq_true q618
   refine pu_ 4 70 HT_ ?_
   refine two_ (i := 5) (j := 10) (Ni := some 71) (Nj := some 9) #[true, true, true, true, true, true, false, true, true, false, false, false] #[true, true, true, true, true, false, false, true, true, false, true, false] rfl rfl rfl rfl (two_of HT_.out (by kernel_rfl)) (by decide) (by decide) (fun K hK => ?_) (fun K hK => ?_)
   ·skip
    refine value_ (w1 := ?_) (v := ?_) (by rfl) rfl ?_ ?_
    rotate_left 2
    ·go_simp
     constructor
     ·rfl
     ·rfl
    refine hK.out _ _ ⟨(blk_cell BK605.out 0).trans rfl, (blk_cell BK605.out 1).trans rfl, (blk_cell BK605.out 2).trans rfl, (blk_cell BK605.out 3).trans rfl, (blk_cell BK606.out 0).trans rfl, (blk_cell BK606.out 1).trans rfl, (blk_cell BK606.out 2).trans rfl⟩ (fun hHeld => ?_)
    clear hK K
    refine norm_ (a' := ?_) ?_ ?_
    rotate_left
    ·show Act.put _ (some 71) _ = _
     simp only [Act.put, List.setIfInBounds_toArray, List.set_cons_zero, List.set_cons_succ, i64_w, i32_w]
     rfl
    refine pu_ 6 72 HT_ ?_
    refine pu_ 9 75 HT_ ?_
    refine on_ 10 9 HT_ (fun K hK => ?_)
    refine box_step ?hg (N := 9) ?hd (cs := #[.int .i64 0, .int .i64 0, .slice none 0 0]) (t := 47) ?hr ?_; (case hd => rfl); (case hg => rfl); (case hr => first | (go_simp; done) | (go_simp; rfl))
    intro gb619 hg w49 hbox hb
    have n0_ := Aside0.mk (Kd.R_below (ra_ HO_5.out) hb)
    have n1_ := Aside0.mk (Kd.N_below (Kd.N_elderB (by (with_reducible repeat (first | apply Kd.N_alloc | apply Kd.N_drewN | apply Kd.N_drew)); exact HO_606003.out) gb619 (Nat.le_of_eq hg.symm)) hb)
    have n2_ := Aside0.mk (Kd.R_below (ra_ HO_607002.out) hb)
    have n3_ := Aside0.mk (Kd.R_below (ra_ HO617.out) hb)
    have n4_ := Aside0.mk (blk_below (bn0_ BK605.out) hb)
    have n5_ := Aside0.mk (blk_below (bn0_ BK606.out) hb)
    have n6_ := Aside0.mk (below_step bl_ hb)
    have n7_ := Aside0.mk (hbox)
    have n8_ := Aside0.mk ((hz_ : w.heap.size ≤ gb619))
    have n9_ := Aside0.mk ((hz_ : w.heap.size ≤ gb619))
    have n10_ := Aside0.mk ((by rw [hg]; exact Nat.ne_of_lt (blk_lt (g := gb605) (o := .cells #[.int .i64 t594, .int .i64 t595, .int .i64 t596, .slice Ao11 t597.length co11] 36 (0, 0)) (bk_ BK605.out)) : gb605 ≠ gb619))
    have n11_ := Aside0.mk ((by rw [hg]; exact Nat.ne_of_gt (blk_lt (g := gb605) (o := .cells #[.int .i64 t594, .int .i64 t595, .int .i64 t596, .slice Ao11 t597.length co11] 36 (0, 0)) (bk_ BK605.out)) : gb619 ≠ gb605))
    have n12_ := Aside0.mk ((by rw [hg]; exact Nat.ne_of_lt (blk_lt (g := gb606) (o := .cells #[.int .i64 t600, .int .i64 t601, .slice Ao13 t602.length co13] 47 (0, 0)) (bk_ BK606.out)) : gb606 ≠ gb619))
    have n13_ := Aside0.mk ((by rw [hg]; exact Nat.ne_of_gt (blk_lt (g := gb606) (o := .cells #[.int .i64 t600, .int .i64 t601, .slice Ao13 t602.length co13] 47 (0, 0)) (bk_ BK606.out)) : gb619 ≠ gb606))
    clear HO_5
    clear HO_606003
    clear HO_607002
    clear HO617
    clear BK605
    clear BK606
    clear HB
    have HO_5 := n0_
    have HO_606003 := n1_
    have HO_607002 := n2_
    have HO617 := n3_
    have BK605 := n4_
    have BK606 := n5_
    have HB := n6_
    have BK619 := n7_
    have GW619 := n8_
    have GE619 := n9_
    have NB605_619 := n10_
    have NB619_605 := n11_
    have NB606_619 := n12_
    have NB619_606 := n13_
    clear n0_ n1_ n2_ n3_ n4_ n5_ n6_ n7_ n8_ n9_ n10_ n11_ n12_ n13_
    clear hb hbox hg
    refine hK.out _ _ ⟨(blk_cell BK605.out 0).trans rfl, (blk_cell BK605.out 1).trans rfl, (blk_cell BK605.out 2).trans rfl, (blk_cell BK605.out 3).trans rfl, (blk_cell BK606.out 0).trans rfl, (blk_cell BK606.out 1).trans rfl, (blk_cell BK606.out 2).trans rfl⟩ (fun hHeld => ?_)
    clear hK K
    refine norm_ (a' := ?_) ?_ ?_
    rotate_left
    ·show Act.put _ (some 9) _ = _
     simp only [Act.put, List.setIfInBounds_toArray, List.set_cons_zero, List.set_cons_succ, i64_w, i32_w]
     rfl
    exact norm_ (by simp only [adOf, putAll, Act.put, List.setIfInBounds_toArray, List.set_cons_zero, List.set_cons_succ]) (hCont ((.slice (some ad618) t615.length cq : Value), gb619) _ ⟨hHeld, (by (with_reducible repeat (first | apply Kd.R_alloc | apply Kd.R_drewN | apply Kd.R_drew)); exact Kd.R_mono HO617.out (fun _ hk => hk.2)), (by (with_reducible repeat (first | apply Kd.R_alloc | apply Kd.R_drewN | apply Kd.R_drew)); exact Kd.R_mono HO_5.out (fun _ hk => hk.2)), (by (with_reducible repeat (first | apply Kd.N_alloc | apply Kd.N_drewN | apply Kd.N_drew)); exact Kd.N_mono HO_606003.out (fun _ hk => ⟨hk.1.2, ⟨hk.1.1.1, ⟨hk.1.1.2.1, ⟨hk.1.1.2.2.1, ⟨hk.1.1.2.2.2, hk.2⟩⟩⟩⟩⟩)), (ra_ HO_607002.out), (bk_ BK605.out), (bk_ BK606.out), (bk_ BK619.out), GW619.out, GE619.out, NB605_619.out, NB619_605.out, NB606_619.out, NB619_606.out, bl_⟩)
   ·skip
    have hx_ := Aside0.mk hx618_0
    clear hx618_0
    refine box_step ?hg (N := 9) ?hd (cs := #[.int .i64 0, .int .i64 0, .slice none 0 0]) (t := 47) ?hr ?_; (case hd => rfl); (case hg => rfl); (case hr => first | (go_simp; done) | (go_simp; rfl))
    intro gb619 hg w49 hbox hb
    have hx2_ := Aside0.mk ((hb.cell (World.block_lt_of_cell? _ _ hx_.out)).trans hx_.out)
    have n0_ := Aside0.mk (Kd.R_below (ra_ HO_5.out) hb)
    have n1_ := Aside0.mk (Kd.N_below (Kd.N_elderB (by (with_reducible repeat (first | apply Kd.N_alloc | apply Kd.N_drewN | apply Kd.N_drew)); exact HO_606003.out) gb619 (Nat.le_of_eq hg.symm)) hb)
    have n2_ := Aside0.mk (Kd.R_below (ra_ HO_607002.out) hb)
    have n3_ := Aside0.mk (Kd.R_below (ra_ HO617.out) hb)
    have n4_ := Aside0.mk (blk_below (bn0_ BK605.out) hb)
    have n5_ := Aside0.mk (blk_below (bn0_ BK606.out) hb)
    have n6_ := Aside0.mk (below_step bl_ hb)
    have n7_ := Aside0.mk (hbox)
    have n8_ := Aside0.mk ((hz_ : w.heap.size ≤ gb619))
    have n9_ := Aside0.mk ((hz_ : w.heap.size ≤ gb619))
    have n10_ := Aside0.mk ((by rw [hg]; exact Nat.ne_of_lt (blk_lt (g := gb605) (o := .cells #[.int .i64 t594, .int .i64 t595, .int .i64 t596, .slice Ao11 t597.length co11] 36 (0, 0)) (bk_ BK605.out)) : gb605 ≠ gb619))
    have n11_ := Aside0.mk ((by rw [hg]; exact Nat.ne_of_gt (blk_lt (g := gb605) (o := .cells #[.int .i64 t594, .int .i64 t595, .int .i64 t596, .slice Ao11 t597.length co11] 36 (0, 0)) (bk_ BK605.out)) : gb619 ≠ gb605))
    have n12_ := Aside0.mk ((by rw [hg]; exact Nat.ne_of_lt (blk_lt (g := gb606) (o := .cells #[.int .i64 t600, .int .i64 t601, .slice Ao13 t602.length co13] 47 (0, 0)) (bk_ BK606.out)) : gb606 ≠ gb619))
    have n13_ := Aside0.mk ((by rw [hg]; exact Nat.ne_of_gt (blk_lt (g := gb606) (o := .cells #[.int .i64 t600, .int .i64 t601, .slice Ao13 t602.length co13] 47 (0, 0)) (bk_ BK606.out)) : gb619 ≠ gb606))
    clear HO_5
    clear HO_606003
    clear HO_607002
    clear HO617
    clear BK605
    clear BK606
    clear HB
    have HO_5 := n0_
    have HO_606003 := n1_
    have HO_607002 := n2_
    have HO617 := n3_
    have BK605 := n4_
    have BK606 := n5_
    have HB := n6_
    have BK619 := n7_
    have GW619 := n8_
    have GE619 := n9_
    have NB605_619 := n10_
    have NB619_605 := n11_
    have NB606_619 := n12_
    have NB619_606 := n13_
    clear n0_ n1_ n2_ n3_ n4_ n5_ n6_ n7_ n8_ n9_ n10_ n11_ n12_ n13_
    clear hb hbox hg
    refine hK.out _ _ ⟨(blk_cell BK605.out 0).trans rfl, (blk_cell BK605.out 1).trans rfl, (blk_cell BK605.out 2).trans rfl, (blk_cell BK605.out 3).trans rfl, (blk_cell BK606.out 0).trans rfl, (blk_cell BK606.out 1).trans rfl, (blk_cell BK606.out 2).trans rfl⟩ (fun hHeld => ?_)
    clear hK K
    refine norm_ (a' := ?_) ?_ ?_
    rotate_left
    ·show Act.put _ (some 9) _ = _
     simp only [Act.put, List.setIfInBounds_toArray, List.set_cons_zero, List.set_cons_succ, i64_w, i32_w]
     rfl
    have hx618_0 := hx2_.out
    clear hx_ hx2_
    refine on_ 5 71 HT_ (fun K hK => ?_)
    refine value_ (w1 := ?_) (v := ?_) (by rfl) rfl ?_ ?_
    rotate_left 2
    ·go_simp
     constructor
     ·rfl
     ·rfl
    refine hK.out _ _ ⟨(blk_cell BK605.out 0).trans rfl, (blk_cell BK605.out 1).trans rfl, (blk_cell BK605.out 2).trans rfl, (blk_cell BK605.out 3).trans rfl, (blk_cell BK606.out 0).trans rfl, (blk_cell BK606.out 1).trans rfl, (blk_cell BK606.out 2).trans rfl⟩ (fun hHeld => ?_)
    clear hK K
    refine norm_ (a' := ?_) ?_ ?_
    rotate_left
    ·show Act.put _ (some 71) _ = _
     simp only [Act.put, List.setIfInBounds_toArray, List.set_cons_zero, List.set_cons_succ, i64_w, i32_w]
     rfl
    refine pu_ 6 72 HT_ ?_
    refine pu_ 9 75 HT_ ?_
    exact norm_ (by simp only [adOf, putAll, Act.put, List.setIfInBounds_toArray, List.set_cons_zero, List.set_cons_succ]) (hCont ((.slice (some ad618) t615.length cq : Value), gb619) _ ⟨hHeld, (by (with_reducible repeat (first | apply Kd.R_alloc | apply Kd.R_drewN | apply Kd.R_drew)); exact Kd.R_mono HO617.out (fun _ hk => hk.2)), (by (with_reducible repeat (first | apply Kd.R_alloc | apply Kd.R_drewN | apply Kd.R_drew)); exact Kd.R_mono HO_5.out (fun _ hk => hk.2)), (by (with_reducible repeat (first | apply Kd.N_alloc | apply Kd.N_drewN | apply Kd.N_drew)); exact Kd.N_mono HO_606003.out (fun _ hk => ⟨hk.1.2, ⟨hk.1.1.1, ⟨hk.1.1.2.1, ⟨hk.1.1.2.2.1, ⟨hk.1.1.2.2.2, hk.2⟩⟩⟩⟩⟩)), (ra_ HO_607002.out), (bk_ BK605.out), (bk_ BK606.out), (bk_ BK619.out), GW619.out, GE619.out, NB605_619.out, NB619_605.out, NB606_619.out, NB619_606.out, bl_⟩)
  ·skip
   refine box_step ?hg (N := 9) ?hd (cs := #[.int .i64 0, .int .i64 0, .slice none 0 0]) (t := 47) ?hr ?_; (case hd => rfl); (case hg => rfl); (case hr => first | (go_simp; done) | (go_simp; rfl))
   intro gb619 hg w48 hbox hb
   have n0_ := Aside0.mk (Kd.R_below (ra_ HO_5.out) hb)
   have n1_ := Aside0.mk (Kd.N_below (Kd.N_elderB (by (with_reducible repeat (first | apply Kd.N_alloc | apply Kd.N_drewN | apply Kd.N_drew)); exact HO_606003.out) gb619 (Nat.le_of_eq hg.symm)) hb)
   have n2_ := Aside0.mk (Kd.R_below (ra_ HO_607002.out) hb)
   have n3_ := Aside0.mk (blk_below (bn0_ BK605.out) hb)
   have n4_ := Aside0.mk (blk_below (bn0_ BK606.out) hb)
   have n5_ := Aside0.mk (below_step bl_ hb)
   have n6_ := Aside0.mk (hbox)
   have n7_ := Aside0.mk ((hz_ : w.heap.size ≤ gb619))
   have n8_ := Aside0.mk ((hz_ : w.heap.size ≤ gb619))
   have n9_ := Aside0.mk ((by rw [hg]; exact Nat.ne_of_lt (blk_lt (g := gb605) (o := .cells #[.int .i64 t594, .int .i64 t595, .int .i64 t596, .slice Ao11 t597.length co11] 36 (0, 0)) (bk_ BK605.out)) : gb605 ≠ gb619))
   have n10_ := Aside0.mk ((by rw [hg]; exact Nat.ne_of_gt (blk_lt (g := gb605) (o := .cells #[.int .i64 t594, .int .i64 t595, .int .i64 t596, .slice Ao11 t597.length co11] 36 (0, 0)) (bk_ BK605.out)) : gb619 ≠ gb605))
   have n11_ := Aside0.mk ((by rw [hg]; exact Nat.ne_of_lt (blk_lt (g := gb606) (o := .cells #[.int .i64 t600, .int .i64 t601, .slice Ao13 t602.length co13] 47 (0, 0)) (bk_ BK606.out)) : gb606 ≠ gb619))
   have n12_ := Aside0.mk ((by rw [hg]; exact Nat.ne_of_gt (blk_lt (g := gb606) (o := .cells #[.int .i64 t600, .int .i64 t601, .slice Ao13 t602.length co13] 47 (0, 0)) (bk_ BK606.out)) : gb619 ≠ gb606))
   clear HO_5
   clear HO_606003
   clear HO_607002
   clear BK605
   clear BK606
   clear HB
   have HO_5 := n0_
   have HO_606003 := n1_
   have HO_607002 := n2_
   have BK605 := n3_
   have BK606 := n4_
   have HB := n5_
   have BK619 := n6_
   have GW619 := n7_
   have GE619 := n8_
   have NB605_619 := n9_
   have NB619_605 := n10_
   have NB606_619 := n11_
   have NB619_606 := n12_
   clear n0_ n1_ n2_ n3_ n4_ n5_ n6_ n7_ n8_ n9_ n10_ n11_ n12_
   clear hb hbox hg
   refine hK.out _ _ ⟨(blk_cell BK605.out 0).trans rfl, (blk_cell BK605.out 1).trans rfl, (blk_cell BK605.out 2).trans rfl, (blk_cell BK605.out 3).trans rfl, (blk_cell BK606.out 0).trans rfl, (blk_cell BK606.out 1).trans rfl, (blk_cell BK606.out 2).trans rfl⟩ (fun hHeld => ?_)
   clear hK K
   refine norm_ (a' := ?_) ?_ ?_
   rotate_left
   ·show Act.put _ (some 9) _ = _
    simp only [Act.put, List.setIfInBounds_toArray, List.set_cons_zero, List.set_cons_succ, i64_w, i32_w]
    rfl
   refine on_ 3 69 HT_ (fun K hK => ?_)
   refine goes_ Try.func24 (by kernel_rfl) rfl #[.slice A0 l0.length c0] (by rfl) rfl rfl lm_ ?_
   with_reducible refine (spec_DrawPlaces.calls k1 _ _ l0 t615 _ ?side1 ?side2 A43.out).mono ?_
   (case side1 => exact cb_ HR0.out HB.out)
   (case side2 => exact HC0.out)
   rintro e w49 ⟨v616, rfl, ho0, hb⟩
   refine ⟨_, rfl, ?_⟩
   have n0_ := Aside0.mk (Kd.R_elder' (ra_ HO_5.out) (Kd.R_base ho0) hb)
   have n1_ := Aside0.mk (Kd.N_elder' (by (with_reducible repeat (first | apply Kd.N_alloc | apply Kd.N_drewN | apply Kd.N_drew)); exact HO_606003.out) (Kd.R_base ho0) hb)
   have n2_ := Aside0.mk (Kd.R_below (ra_ HO_607002.out) hb)
   have n3_ := Aside0.mk (Kd.R_lower (Kd.R_new' ho0 (Kd.R_lt (ra_ HO_5.out))) (below_size bl_))
   have n4_ := Aside0.mk (blk_below (bn0_ BK605.out) hb)
   have n5_ := Aside0.mk (blk_below (bn0_ BK606.out) hb)
   have n6_ := Aside0.mk (blk_below (bn0_ BK619.out) hb)
   have n7_ := Aside0.mk (below_step bl_ hb)
   clear HO_5
   clear HO_606003
   clear HO_607002
   clear BK605
   clear BK606
   clear BK619
   clear HB
   have HO_5 := n0_
   have HO_606003 := n1_
   have HO_607002 := n2_
   have HO617 := n3_
   have BK605 := n4_
   have BK606 := n5_
   have BK619 := n6_
   have HB := n7_
   clear n0_ n1_ n2_ n3_ n4_ n5_ n6_ n7_
   (try clear hb)
   (try clear hb2)
   (try clear hk)
   (try clear hi)
   (try clear ho0)
   refine hK.out _ _ ⟨(blk_cell BK605.out 0).trans rfl, (blk_cell BK605.out 1).trans rfl, (blk_cell BK605.out 2).trans rfl, (blk_cell BK605.out 3).trans rfl, (blk_cell BK606.out 0).trans rfl, (blk_cell BK606.out 1).trans rfl, (blk_cell BK606.out 2).trans rfl⟩ (fun hHeld => ?_)
   clear hK K
   refine norm_ (a' := ?_) ?_ ?_
   rotate_left
   ·show Act.put _ (some 69) _ = _
    simp only [Act.put, List.setIfInBounds_toArray, List.set_cons_zero, List.set_cons_succ, i64_w, i32_w]
    rfl
   obtain ⟨Aq, cq, eq⟩ := Kd.R_slice HO617.out
   subst eq
   have p618 : 0 ≤ (0 : Int) := (by omega)
   have q618 : 0 < (t615.length : Int) := of_decide_eq_true as_
   obtain ⟨ad618, e618, hx618_0⟩ := Kd.at_int (Kd.R_reads' HO617.out).2.2 0 p618 q618
   cases e618
   have qi618 : (0 < t615.length) = True := eq_true (by omega)
   (try rw [show ((0 : Int)).toNat = 0 from rfl] at hx618_0)
   (try rw [Addr.add_zero'] at hx618_0)
   replace p618 := eq_true p618
   replace q618 := eq_true q618
   refine pu_ 4 70 HT_ ?_
   refine on_ 5 71 HT_ (fun K hK => ?_)
   refine value_ (w1 := ?_) (v := ?_) (by rfl) rfl ?_ ?_
   rotate_left 2
   ·go_simp
    constructor
    ·rfl
    ·rfl
   refine hK.out _ _ ⟨(blk_cell BK605.out 0).trans rfl, (blk_cell BK605.out 1).trans rfl, (blk_cell BK605.out 2).trans rfl, (blk_cell BK605.out 3).trans rfl, (blk_cell BK606.out 0).trans rfl, (blk_cell BK606.out 1).trans rfl, (blk_cell BK606.out 2).trans rfl⟩ (fun hHeld => ?_)
   clear hK K
   refine norm_ (a' := ?_) ?_ ?_
   rotate_left
   ·show Act.put _ (some 71) _ = _
    simp only [Act.put, List.setIfInBounds_toArray, List.set_cons_zero, List.set_cons_succ, i64_w, i32_w]
    rfl
   refine pu_ 6 72 HT_ ?_
   refine pu_ 9 75 HT_ ?_
   exact norm_ (by simp only [adOf, putAll, Act.put, List.setIfInBounds_toArray, List.set_cons_zero, List.set_cons_succ]) (hCont ((.slice (some ad618) t615.length cq : Value), gb619) _ ⟨hHeld, (by (with_reducible repeat (first | apply Kd.R_alloc | apply Kd.R_drewN | apply Kd.R_drew)); exact Kd.R_mono HO617.out (fun _ hk => hk.2)), (by (with_reducible repeat (first | apply Kd.R_alloc | apply Kd.R_drewN | apply Kd.R_drew)); exact Kd.R_mono HO_5.out (fun _ hk => hk.2)), (by (with_reducible repeat (first | apply Kd.N_alloc | apply Kd.N_drewN | apply Kd.N_drew)); exact Kd.N_mono HO_606003.out (fun _ hk => ⟨hk.2, ⟨hk.1.1.1, ⟨hk.1.1.2.1, ⟨hk.1.1.2.2.1, ⟨hk.1.1.2.2.2, hk.1.2⟩⟩⟩⟩⟩)), (ra_ HO_607002.out), (bk_ BK605.out), (bk_ BK606.out), (bk_ BK619.out), GW619.out, GE619.out, NB605_619.out, NB619_605.out, NB606_619.out, NB619_606.out, bl_⟩)
 rintro ⟨v616, gb619⟩ w50 ⟨hS_, h0_, h1_, h2_, h3_, h4_, h5_, h6_, h7_, h8_, h9_, h10_, h11_, h12_, h13_⟩
 have n0_ : Aside0 (Kd.R (Kd.int .i64) 3 w50 w.heap.size (fun k_ => some k_ ≠ (.slice Ao46 t607.length co46 : Value).ownBlock) v616 t615) := ⟨h0_⟩
 have n1_ : Aside0 (Kd.R (Kd.int .i64) 3 w50 w.heap.size (fun k_ => some k_ ≠ (v616 : Value).ownBlock) (.slice Ao46 t607.length co46) t607) := ⟨h1_⟩
 have n2_ : Aside0 (Kd.N k53 53 w50 w.heap.size (fun k_ => some k_ ≠ (v616 : Value).ownBlock ∧ some k_ ≠ (.slice Ao46 t607.length co46 : Value).ownBlock ∧ some k_ ≠ (.slice Ao13 t602.length co13 : Value).ownBlock ∧ k_ ≠ gb605 ∧ k_ ≠ gb606 ∧ k_ ≠ gb619) (.slice Ao11 t597.length co11) t597) := ⟨h2_⟩
 have n3_ : Aside0 (Kd.R k98 98 w50 w.heap.size (fun _ => True) (.slice Ao13 t602.length co13) t602) := ⟨h3_⟩
 have n4_ : Aside0 (w50.heap[gb605]? = some (.cells #[.int .i64 t594, .int .i64 t595, .int .i64 t596, .slice Ao11 t597.length co11] 36 (0, 0))) := ⟨h4_⟩
 have n5_ : Aside0 (w50.heap[gb606]? = some (.cells #[.int .i64 t600, .int .i64 t601, .slice Ao13 t602.length co13] 47 (0, 0))) := ⟨h5_⟩
 have n6_ : Aside0 (w50.heap[gb619]? = some (.cells #[.int .i64 0, .int .i64 0, .slice none 0 0] 47 (0, 0))) := ⟨h6_⟩
 have n7_ : Aside0 (w.heap.size ≤ gb619) := ⟨h7_⟩
 have n8_ : Aside0 (w.heap.size ≤ gb619) := ⟨h8_⟩
 have n9_ : Aside0 (gb605 ≠ gb619) := ⟨h9_⟩
 have n10_ : Aside0 (gb619 ≠ gb605) := ⟨h10_⟩
 have n11_ : Aside0 (gb606 ≠ gb619) := ⟨h11_⟩
 have n12_ : Aside0 (gb619 ≠ gb606) := ⟨h12_⟩
 have n13_ : Aside0 (Below w.heap.size w w50) := ⟨h13_⟩
 clear HO_5
 clear HO_606003
 clear HO_607002
 clear BK605
 clear BK606
 clear HB
 clear h0_ h1_ h2_ h3_ h4_ h5_ h6_ h7_ h8_ h9_ h10_ h11_ h12_ h13_
 have HO617 := n0_
 have HO_5 := n1_
 have HO_606003 := n2_
 have HO_607002 := n3_
 have BK605 := n4_
 have BK606 := n5_
 have BK619 := n6_
 have GW619 := n7_
 have GE619 := n8_
 have NB605_619 := n9_
 have NB619_605 := n10_
 have NB606_619 := n11_
 have NB619_606 := n12_
 have HB := n13_
 clear n0_ n1_ n2_ n3_ n4_ n5_ n6_ n7_ n8_ n9_ n10_ n11_ n12_ n13_
 have hHeld : w50.cell? ⟨gb605, 0, none⟩ = some (.int .i64 t594) ∧ w50.cell? ⟨gb605, 1, none⟩ = some (.int .i64 t595) ∧ w50.cell? ⟨gb605, 2, none⟩ = some (.int .i64 t596) ∧ w50.cell? ⟨gb605, 3, none⟩ = some (.slice Ao11 t597.length co11) ∧ w50.cell? ⟨gb606, 0, none⟩ = some (.int .i64 t600) ∧ w50.cell? ⟨gb606, 1, none⟩ = some (.int .i64 t601) ∧ w50.cell? ⟨gb606, 2, none⟩ = some (.slice Ao13 t602.length co13) := hS_
 obtain ⟨Ao51, co51, eo51⟩ := Kd.R_slice HO617.out
 (first | subst eo51 | (injection eo51 with f1_ f2_ f3_; have f4_ := f1_.symm; have f5_ := f3_.symm; clear f1_ f2_ f3_; subst f4_; subst f5_))
 have p618 : 0 ≤ (0 : Int) := (by omega)
 have q618 : 0 < (t615.length : Int) := of_decide_eq_true as_
 obtain ⟨ad618, e618, hx618_0⟩ := Kd.at_int (Kd.R_reads' HO617.out).2.2 0 p618 q618
 cases e618
 have qi618 : (0 < t615.length) = True := eq_true (by omega)
 (try rw [show ((0 : Int)).toNat = 0 from rfl] at hx618_0)
 (try rw [Addr.add_zero'] at hx618_0)
 replace p618 := eq_true p618
 replace q618 := eq_true q618
 refine norm_ (a' := ?_) ?_ ?_
 rotate_left
 ·simp only [putAll, Act.put, List.setIfInBounds_toArray, List.set_cons_zero, List.set_cons_succ]
  rfl
 refine one_ (i := 11) (N := none) #[true, true, true, true, true, true, true, true, true, true, true, true] rfl rfl (one_of HT_.out (by kernel_rfl)) (by decide) (fun K hK => ?_)
 have hs52 : w50.cell? ⟨gb619, 0, none⟩ = some (.int .i64 0) := (blk_cell BK619.out 0).trans rfl
 have hfs52 := blk_frozen BK619.out 0
 have hns52_0 := NB605_619.out
 have hns52_1 := NB606_619.out
 have hms52_0 := NB619_605.out
 have hms52_1 := NB619_606.out
 have hs53 : w50.cell? ⟨gb619, 1, none⟩ = some (.int .i64 0) := (blk_cell BK619.out 1).trans rfl
 have hfs53 := blk_frozen BK619.out 1
 have hns53_0 := NB605_619.out
 have hns53_1 := NB606_619.out
 have hms53_0 := NB619_605.out
 have hms53_1 := NB619_606.out
 have hs54 : w50.cell? ⟨gb619, 2, none⟩ = some (.slice none 0 0) := (blk_cell BK619.out 2).trans rfl
 have hfs54 := blk_frozen BK619.out 2
 have hns54_0 := NB605_619.out
 have hns54_1 := NB606_619.out
 have hms54_0 := NB619_605.out
 have hms54_1 := NB619_606.out
 refine skip_ (w1 := ?_) (by rfl) rfl ?_ ?_
 rotate_left
 ·go_simp
  rfl
 refine hK.out _ _ ⟨((cell_far (p := ⟨gb619, _, none⟩) NB605_619.out _).trans (((cell_far (p := ⟨gb619, _, none⟩) NB605_619.out _).trans (((cell_far (p := ⟨gb619, _, none⟩) NB605_619.out _).trans (hHeld.1)))))), ((cell_far (p := ⟨gb619, _, none⟩) NB605_619.out _).trans (((cell_far (p := ⟨gb619, _, none⟩) NB605_619.out _).trans (((cell_far (p := ⟨gb619, _, none⟩) NB605_619.out _).trans (hHeld.2.1)))))), ((cell_far (p := ⟨gb619, _, none⟩) NB605_619.out _).trans (((cell_far (p := ⟨gb619, _, none⟩) NB605_619.out _).trans (((cell_far (p := ⟨gb619, _, none⟩) NB605_619.out _).trans (hHeld.2.2.1)))))), ((cell_far (p := ⟨gb619, _, none⟩) NB605_619.out _).trans (((cell_far (p := ⟨gb619, _, none⟩) NB605_619.out _).trans (((cell_far (p := ⟨gb619, _, none⟩) NB605_619.out _).trans (hHeld.2.2.2.1)))))), ((cell_far (p := ⟨gb619, _, none⟩) NB606_619.out _).trans (((cell_far (p := ⟨gb619, _, none⟩) NB606_619.out _).trans (((cell_far (p := ⟨gb619, _, none⟩) NB606_619.out _).trans (hHeld.2.2.2.2.1)))))), ((cell_far (p := ⟨gb619, _, none⟩) NB606_619.out _).trans (((cell_far (p := ⟨gb619, _, none⟩) NB606_619.out _).trans (((cell_far (p := ⟨gb619, _, none⟩) NB606_619.out _).trans (hHeld.2.2.2.2.2.1)))))), ((cell_far (p := ⟨gb619, _, none⟩) NB606_619.out _).trans (((cell_far (p := ⟨gb619, _, none⟩) NB606_619.out _).trans (((cell_far (p := ⟨gb619, _, none⟩) NB606_619.out _).trans (hHeld.2.2.2.2.2.2))))))⟩ (fun hHeld => ?_)
 clear hK K
 refine done_ (done_of HT_.out (by kernel_rfl)) ?_
 have hnb55 := NB605_606.out
 have hnc55 := NB606_605.out
 have hnb56 := NB605_619.out
 have hnc56 := NB619_605.out
 obtain ⟨hcz57_0, hcz57_1, hcz57_2, hcz57_3, hfz57_0, hfz57_1, hfz57_2, hfz57_3⟩ := cf4_ BK605.out
 have hnb58 := NB619_606.out
 have hnc58 := NB606_619.out
 obtain ⟨hcz59_0, hcz59_1, hcz59_2, hfz59_0, hfz59_1, hfz59_2⟩ := cf3_ BK619.out
 try go_wp2_with (first | ((with_reducible refine gate_callee (f := 25) rfl ?_); refine gs_ (some 79) Try.func25 #[.agg #[.int .i64 t594, .int .i64 t595, .int .i64 t596, .slice Ao11 t597.length co11], .int .i64 (wrap64 (1000 + (rd t615 0)))] ?_; (with_reducible refine (impl_OnlyFor.calls k1 t594 t595 t596 _ _ t597 (wrap64 (1000 + (rd t615 0))) t620 t621 t622 t623 _ ?side1 ?side2 A45.out).mono ?_); (case side1 => refine (Kd.N_reads' (e := 53) (base := w.heap.size) (ok := fun k_ => (some k_ ≠ (.slice (some ad618) t615.length co51 : Value).ownBlock ∧ (some k_ ≠ (.slice Ao46 t607.length co46 : Value).ownBlock ∧ (some k_ ≠ (.slice Ao13 t602.length co13 : Value).ownBlock ∧ (k_ ≠ gb605 ∧ (k_ ≠ gb606 ∧ k_ ≠ gb619)))))) (n := t597.length) (c := co11) ?_).2.2; exact (by (with_reducible repeat (first | apply Kd.N_alloc | apply Kd.N_drewN | apply Kd.N_drew)); exact (Kd.N_mono (Kd.N_far (p := ⟨gb619, 2, none⟩) (Kd.N_far (p := ⟨gb619, 1, none⟩) (Kd.N_far (p := ⟨gb619, 0, none⟩) (Kd.N_mono HO_606003.out (fun k_ hk => (⟨hk, hk.2.2.2.2.2⟩ : _ ∧ k_ ≠ gb619))) (fun _ hk => hk.2) (.int .i64 t594)) (fun _ hk => hk.2) (.int .i64 (wrap64 (1000 + (rd t615 0))))) (fun _ hk => hk.2) (.slice Ao13 t602.length co13)) (fun _ h_ => h_.1)))); (case side2 => exact (Kd.N_reads' HO_606003.out).2.1); rintro e w60 ⟨v624, rfl, ho0, hb⟩; refine ⟨_, rfl, ?_⟩; have HO625 := Aside0.mk (Kd.N_lower (Kd.N_mono (ok' := fun k_ => some k_ ≠ (.slice Ao46 t607.length co46 : Value).ownBlock ∧ some k_ ≠ (.slice Ao11 t597.length co11 : Value).ownBlock ∧ some k_ ≠ (.slice Ao13 t602.length co13 : Value).ownBlock ∧ some k_ ≠ (.slice (some ad618) t615.length co51 : Value).ownBlock ∧ k_ ≠ gb605 ∧ k_ ≠ gb606 ∧ k_ ≠ gb619) ho0 (fun k_ hk_ => ⟨(Kd.fresh' (Kd.R_lt (rfa_ HO_5.out BK619.out)) k_ hk_), (Kd.fresh' (Kd.N_lt (by (with_reducible repeat (first | apply Kd.N_alloc | apply Kd.N_drewN | apply Kd.N_drew)); exact (Kd.N_mono (Kd.N_far (p := ⟨gb619, 2, none⟩) (Kd.N_far (p := ⟨gb619, 1, none⟩) (Kd.N_far (p := ⟨gb619, 0, none⟩) (Kd.N_mono HO_606003.out (fun k_ hk => (⟨hk, hk.2.2.2.2.2⟩ : _ ∧ k_ ≠ gb619))) (fun _ hk => hk.2) (.int .i64 t594)) (fun _ hk => hk.2) (.int .i64 (wrap64 (1000 + (rd t615 0))))) (fun _ hk => hk.2) (.slice Ao13 t602.length co13)) (fun _ h_ => h_.1)))) k_ hk_), (Kd.fresh' (Kd.R_lt (rfa_ HO_607002.out BK619.out)) k_ hk_), (Kd.fresh' (Kd.R_lt (rfa_ HO617.out BK619.out)) k_ hk_), (Kd.freshB (g := gb605) (o := .cells #[.int .i64 t594, .int .i64 t595, .int .i64 t596, .slice Ao11 t597.length co11] 36 (0, 0)) (bp1_ BK605.out NB605_619.out) k_ hk_), (Kd.freshB (g := gb606) (o := .cells #[.int .i64 t600, .int .i64 t601, .slice Ao13 t602.length co13] 47 (0, 0)) (bp1_ BK606.out NB606_619.out) k_ hk_), (Kd.freshB (g := gb619) (o := .cells #[.int .i64 t594, .int .i64 (wrap64 (1000 + (rd t615 0))), .slice Ao13 t602.length co13] 47 (0, 0)) (bp0_ BK619.out) k_ hk_)⟩)) (below_size bl_)); replace HO_5 := Aside0.mk (Kd.R_below (rfa_ HO_5.out BK619.out) hb); replace HO_606003 := Aside0.mk (Kd.N_elder' (by (with_reducible repeat (first | apply Kd.N_alloc | apply Kd.N_drewN | apply Kd.N_drew)); exact (Kd.N_mono (Kd.N_far (p := ⟨gb619, 2, none⟩) (Kd.N_far (p := ⟨gb619, 1, none⟩) (Kd.N_far (p := ⟨gb619, 0, none⟩) (Kd.N_mono HO_606003.out (fun k_ hk => (⟨hk, hk.2.2.2.2.2⟩ : _ ∧ k_ ≠ gb619))) (fun _ hk => hk.2) (.int .i64 t594)) (fun _ hk => hk.2) (.int .i64 (wrap64 (1000 + (rd t615 0))))) (fun _ hk => hk.2) (.slice Ao13 t602.length co13)) (fun _ h_ => h_.1))) (Kd.N_base ho0) hb); replace HO_607002 := Aside0.mk (Kd.R_below (rfa_ HO_607002.out BK619.out) hb); replace HO617 := Aside0.mk (Kd.R_below (rfa_ HO617.out BK619.out) hb); replace BK605 := Aside0.mk (blk_below (bn1_ BK605.out NB605_619.out) hb); replace BK606 := Aside0.mk (blk_below (bn1_ BK606.out NB606_619.out) hb); replace BK619 := Aside0.mk (blk_below (g := gb619) (o := .cells #[.int .i64 t594, .int .i64 (wrap64 (1000 + (rd t615 0))), .slice Ao13 t602.length co13] 47 (0, 0)) (bp0_ BK619.out) hb); replace HB := Aside0.mk (below_step bl_ hb); (try clear hb); (try clear ho0)) | ((with_reducible refine gate_dst (N := 10) rfl ?_); (try (refine gate_guard (by rfl) ?_; dsimp only)); refine bx_ 10 36 #[.int .i64 0, .int .i64 0, .int .i64 0, .slice none 0 0] ?_; intro gb626 hg w61 hbox hb; replace HO_5 := Aside0.mk (Kd.R_below (ra_ HO_5.out) hb); replace HO_606003 := Aside0.mk (Kd.N_below (Kd.N_elderB (by (with_reducible repeat (first | apply Kd.N_alloc | apply Kd.N_drewN | apply Kd.N_drew)); exact HO_606003.out) gb626 (Nat.le_of_eq hg.symm)) hb); replace HO_607002 := Aside0.mk (Kd.R_below (ra_ HO_607002.out) hb); replace HO617 := Aside0.mk (Kd.R_below (ra_ HO617.out) hb); replace HO625 := Aside0.mk (Kd.N_below (Kd.N_elderB (by (with_reducible repeat (first | apply Kd.N_alloc | apply Kd.N_drewN | apply Kd.N_drew)); exact HO625.out) gb626 (Nat.le_of_eq hg.symm)) hb); have BK626 := Aside0.mk (hbox); have GW626 := Aside0.mk ((hz_ : w.heap.size ≤ gb626)); have GE626 := Aside0.mk ((hz_ : w.heap.size ≤ gb626)); replace HB := Aside0.mk (below_step bl_ hb); have NB605_626 := Aside0.mk ((by rw [hg]; exact Nat.ne_of_lt (blk_lt (g := gb605) (o := .cells #[.int .i64 t594, .int .i64 t595, .int .i64 t596, .slice Ao11 t597.length co11] 36 (0, 0)) (bk_ BK605.out)) : gb605 ≠ gb626)); have NB626_605 := Aside0.mk ((by rw [hg]; exact Nat.ne_of_gt (blk_lt (g := gb605) (o := .cells #[.int .i64 t594, .int .i64 t595, .int .i64 t596, .slice Ao11 t597.length co11] 36 (0, 0)) (bk_ BK605.out)) : gb626 ≠ gb605)); replace BK605 := Aside0.mk (blk_below (bn0_ BK605.out) hb); have NB606_626 := Aside0.mk ((by rw [hg]; exact Nat.ne_of_lt (blk_lt (g := gb606) (o := .cells #[.int .i64 t600, .int .i64 t601, .slice Ao13 t602.length co13] 47 (0, 0)) (bk_ BK606.out)) : gb606 ≠ gb626)); have NB626_606 := Aside0.mk ((by rw [hg]; exact Nat.ne_of_gt (blk_lt (g := gb606) (o := .cells #[.int .i64 t600, .int .i64 t601, .slice Ao13 t602.length co13] 47 (0, 0)) (bk_ BK606.out)) : gb626 ≠ gb606)); replace BK606 := Aside0.mk (blk_below (bn0_ BK606.out) hb); have NB619_626 := Aside0.mk ((by rw [hg]; exact Nat.ne_of_lt (blk_lt (g := gb619) (o := .cells #[.int .i64 t594, .int .i64 (wrap64 (1000 + (rd t615 0))), .slice Ao13 t602.length co13] 47 (0, 0)) (bk_ BK619.out)) : gb619 ≠ gb626)); have NB626_619 := Aside0.mk ((by rw [hg]; exact Nat.ne_of_gt (blk_lt (g := gb619) (o := .cells #[.int .i64 t594, .int .i64 (wrap64 (1000 + (rd t615 0))), .slice Ao13 t602.length co13] 47 (0, 0)) (bk_ BK619.out)) : gb626 ≠ gb619)); replace BK619 := Aside0.mk (blk_below (bn0_ BK619.out) hb); clear hb hbox hg; have hnb62 := NB626_605.out; have hnc62 := NB605_626.out; have hnb63 := NB626_606.out; have hnc63 := NB606_626.out; have hnb64 := NB626_619.out; have hnc64 := NB619_626.out; obtain ⟨hcz65_0, hcz65_1, hcz65_2, hcz65_3, hfz65_0, hfz65_1, hfz65_2, hfz65_3⟩ := cf4_ BK626.out; obtain ⟨Ao66, co66, eo66⟩ := Kd.N_slice HO625.out; subst eo66))
 go_loopg [11] k1 (fun kq v11 w' => ∃ (x11_2 : Int), v11 = .int .i64 x11_2 ∧ Aside0 (laws_FnLessNums.l2 kq t607 x11_2 t594 t595 t596 t597 t594 (wrap64 (1000 + (rd t615 0))) t602 t620 t621 t622 t623 = some r) ∧ Aside0 (kq ≤ k1) ∧ Aside0 (Kd.R (Kd.int .i64) 3 w' w.heap.size (fun _ => True) (.slice Ao46 t607.length co46) t607) ∧ Aside0 (Kd.N k53 53 w' w.heap.size (fun k_ => some k_ ≠ ((.slice Ao46 t607.length co46) : Value).ownBlock ∧ some k_ ≠ ((.slice Ao13 t602.length co13) : Value).ownBlock ∧ some k_ ≠ ((.slice Ao13 t602.length co13) : Value).ownBlock ∧ some k_ ≠ ((.slice Ao66 t623.length co66) : Value).ownBlock ∧ k_ ≠ gb605 ∧ k_ ≠ gb606 ∧ k_ ≠ gb619 ∧ k_ ≠ gb626) (.slice Ao11 t597.length co11) t597) ∧ Aside0 (Kd.R k98 98 w' w.heap.size (fun _ => True) (.slice Ao13 t602.length co13) t602) ∧ Aside0 (Kd.R k98 98 w' w.heap.size (fun _ => True) (.slice Ao13 t602.length co13) t602) ∧ Aside0 (Kd.N k53 53 w' w.heap.size (fun k_ => some k_ ≠ ((.slice Ao46 t607.length co46) : Value).ownBlock ∧ some k_ ≠ ((.slice Ao11 t597.length co11) : Value).ownBlock ∧ some k_ ≠ ((.slice Ao13 t602.length co13) : Value).ownBlock ∧ some k_ ≠ ((.slice Ao13 t602.length co13) : Value).ownBlock ∧ k_ ≠ gb605 ∧ k_ ≠ gb606 ∧ k_ ≠ gb619 ∧ k_ ≠ gb626) (.slice Ao66 t623.length co66) t623) ∧ Aside0 (w'.heap[gb605]? = some (.cells #[.int .i64 t594, .int .i64 t595, .int .i64 t596, (.slice Ao11 t597.length co11)] 36 (0, 0))) ∧ Aside0 (w'.heap[gb606]? = some (.cells #[.int .i64 t600, .int .i64 t601, (.slice Ao13 t602.length co13)] 47 (0, 0))) ∧ Aside0 (w'.heap[gb619]? = some (.cells #[.int .i64 t594, .int .i64 (wrap64 (1000 + (rd t615 0))), (.slice Ao13 t602.length co13)] 47 (0, 0))) ∧ Aside0 (w'.heap[gb626]? = some (.cells #[.int .i64 t620, .int .i64 t621, .int .i64 t622, (.slice Ao66 t623.length co66)] 36 (0, 0))) ∧ Aside0 (Below w.heap.size w w'))
 case atStart => exact ⟨(0), (sr_), H', ⟨Nat.le_refl _⟩, ⟨by (with_reducible repeat (first | apply Kd.R_alloc | apply Kd.R_drewN | apply Kd.R_drew)); exact Kd.R_mono (Kd.R_far (p := ⟨gb626, 3, none⟩) (Kd.R_far (p := ⟨gb626, 2, none⟩) (Kd.R_far (p := ⟨gb626, 1, none⟩) (Kd.R_far (p := ⟨gb626, 0, none⟩) (Kd.R_types HO_5.out BK626.out (by decide)) (fun _ hk => hk.2) (.int .i64 t620)) (fun _ hk => hk.2) (.int .i64 t621)) (fun _ hk => hk.2) (.int .i64 t622)) (fun _ hk => hk.2) (.slice Ao66 t623.length co66)) (fun _ hk => trivial)⟩, ⟨by (with_reducible repeat (first | apply Kd.N_alloc | apply Kd.N_drewN | apply Kd.N_drew)); exact Kd.N_mono (Kd.N_far (p := ⟨gb626, 3, none⟩) (Kd.N_far (p := ⟨gb626, 2, none⟩) (Kd.N_far (p := ⟨gb626, 1, none⟩) (Kd.N_far (p := ⟨gb626, 0, none⟩) (Kd.N_mono HO_606003.out (fun k_ hk => (⟨hk, hk.2⟩ : _ ∧ k_ ≠ gb626))) (fun _ hk => hk.2) (.int .i64 t620)) (fun _ hk => hk.2) (.int .i64 t621)) (fun _ hk => hk.2) (.int .i64 t622)) (fun _ hk => hk.2) (.slice Ao66 t623.length co66)) (fun _ hk => ⟨hk.1.1.1.2.1, ⟨hk.1.1.1.2.2.1, ⟨hk.1.1.1.2.2.1, ⟨hk.1.1.2, ⟨hk.1.1.1.2.2.2.1, ⟨hk.1.1.1.2.2.2.2.1, ⟨hk.1.1.1.2.2.2.2.2, hk.1.2⟩⟩⟩⟩⟩⟩⟩)⟩, ⟨by (with_reducible repeat (first | apply Kd.R_alloc | apply Kd.R_drewN | apply Kd.R_drew)); exact Kd.R_mono (Kd.R_far (p := ⟨gb626, 3, none⟩) (Kd.R_far (p := ⟨gb626, 2, none⟩) (Kd.R_far (p := ⟨gb626, 1, none⟩) (Kd.R_far (p := ⟨gb626, 0, none⟩) (Kd.R_types HO_607002.out BK626.out (by decide)) (fun _ hk => hk.2) (.int .i64 t620)) (fun _ hk => hk.2) (.int .i64 t621)) (fun _ hk => hk.2) (.int .i64 t622)) (fun _ hk => hk.2) (.slice Ao66 t623.length co66)) (fun _ hk => trivial)⟩, ⟨by (with_reducible repeat (first | apply Kd.R_alloc | apply Kd.R_drewN | apply Kd.R_drew)); exact Kd.R_mono (Kd.R_far (p := ⟨gb626, 3, none⟩) (Kd.R_far (p := ⟨gb626, 2, none⟩) (Kd.R_far (p := ⟨gb626, 1, none⟩) (Kd.R_far (p := ⟨gb626, 0, none⟩) (Kd.R_types HO_607002.out BK626.out (by decide)) (fun _ hk => hk.2) (.int .i64 t620)) (fun _ hk => hk.2) (.int .i64 t621)) (fun _ hk => hk.2) (.int .i64 t622)) (fun _ hk => hk.2) (.slice Ao66 t623.length co66)) (fun _ hk => trivial)⟩, ⟨by (with_reducible repeat (first | apply Kd.N_alloc | apply Kd.N_drewN | apply Kd.N_drew)); exact Kd.N_mono (Kd.N_far (p := ⟨gb626, 3, none⟩) (Kd.N_far (p := ⟨gb626, 2, none⟩) (Kd.N_far (p := ⟨gb626, 1, none⟩) (Kd.N_far (p := ⟨gb626, 0, none⟩) (Kd.N_mono HO625.out (fun k_ hk => (⟨hk, hk.2⟩ : _ ∧ k_ ≠ gb626))) (fun _ hk => hk.2) (.int .i64 t620)) (fun _ hk => hk.2) (.int .i64 t621)) (fun _ hk => hk.2) (.int .i64 t622)) (fun _ hk => hk.2) (.slice Ao66 t623.length co66)) (fun _ hk => ⟨hk.1.1.1, ⟨hk.1.1.2.1, ⟨hk.1.1.2.2.1, ⟨hk.1.1.2.2.1, ⟨hk.1.1.2.2.2.2.1, ⟨hk.1.1.2.2.2.2.2.1, ⟨hk.1.1.2.2.2.2.2.2, hk.1.2⟩⟩⟩⟩⟩⟩⟩)⟩, ⟨bp1_ BK605.out NB605_626.out⟩, ⟨bp1_ BK606.out NB606_626.out⟩, ⟨bp1_ BK619.out NB619_626.out⟩, ⟨bp0_ BK626.out⟩, ⟨bl_⟩⟩
 clear H'
 try clear c3
 try clear c15
 try clear c15b0
 try clear c44
 try clear c44b0
 try clear c44b1
 try clear hcz57_0
 try clear hcz57_1
 try clear hcz57_2
 try clear hcz57_3
 try clear hcz59_0
 try clear hcz59_1
 try clear hcz59_2
 try clear hcz65_0
 try clear hcz65_1
 try clear hcz65_2
 try clear hcz65_3
 try clear hfz57_0
 try clear hfz57_1
 try clear hfz57_2
 try clear hfz57_3
 try clear hfz59_0
 try clear hfz59_1
 try clear hfz59_2
 try clear hfz65_0
 try clear hfz65_1
 try clear hfz65_2
 try clear hfz65_3
 try clear hx618_0
 try clear p618
 try clear q618
 obtain ⟨x11_2, rfl, HA, HK2, HO_5, HO_606003, HO_607002, HO_620002, HO_627003, BK605, BK606, BK619, BK626, HB⟩ := hrel
 cases gk with
 | zero => exact absurd HA.out (by simp [laws_FnLessNums.l2])
 | succ k2 => ?_
 have H := HA.out
 clear HA
 simp only [laws_FnLessNums.l2] at H
 by_cases c67 : x11_2 < (t623.length : Int)
 ·rw [if_pos c67] at H
  have c67b0 := decide_eq_true c67
  clear c67
  by_cases c68 : 0 ≤ x11_2
  rotate_left
  ·exact nn_ c68 H
  rw [if_pos c68] at H
  have c68b0 := decide_eq_true c68
  clear c68
  by_cases c69 : (((rd_T53 t623 x11_2).f0).length : Int) > 0
  rotate_left
  ·rw [if_neg c69] at H
   have c69b0 := decide_eq_false c69
   have c69b1 : decide (0 < ((rd_T53 t623 x11_2).f0).length) = false := decide_eq_false (by omega)
   clear c69
   have H' := Aside0.mk H
   clear H
   have hnb77 := NB626_605.out
   have hnc77 := NB605_626.out
   have hnb78 := NB626_606.out
   have hnc78 := NB606_626.out
   have hnb79 := NB626_619.out
   have hnc79 := NB619_626.out
   obtain ⟨hcz80_0, hcz80_1, hcz80_2, hcz80_3, hfz80_0, hfz80_1, hfz80_2, hfz80_3⟩ := cf4_ BK626.out
   try go_wp2
   have n0_ := Aside0.mk (Kd.R_drew HO_5.out)
   have n1_ := Aside0.mk (Kd.N_drew HO_606003.out)
   have n2_ := Aside0.mk (Kd.R_drew HO_607002.out)
   have n3_ := Aside0.mk (Kd.R_drew HO_620002.out)
   have n4_ := Aside0.mk (Kd.N_drew HO_627003.out)
   have n5_ := Aside0.mk (blk_drew BK605.out)
   have n6_ := Aside0.mk (blk_drew BK606.out)
   have n7_ := Aside0.mk (blk_drew BK619.out)
   have n8_ := Aside0.mk (blk_drew BK626.out)
   have n9_ := Aside0.mk (below_drew1 HB.out)
   clear HO_5
   clear HO_606003
   clear HO_607002
   clear HO_620002
   clear HO_627003
   clear BK605
   clear BK606
   clear BK619
   clear BK626
   clear HB
   have HO_5 := n0_
   have HO_606003 := n1_
   have HO_607002 := n2_
   have HO_620002 := n3_
   have HO_627003 := n4_
   have BK605 := n5_
   have BK606 := n6_
   have BK619 := n7_
   have BK626 := n8_
   have HB := n9_
   clear n0_ n1_ n2_ n3_ n4_ n5_ n6_ n7_ n8_ n9_
   have p627 : 0 ≤ (x11_2 : Int) := of_decide_eq_true as_
   have q627 : x11_2 < (t623.length : Int) := of_decide_eq_true as_
   obtain ⟨ad627, A627_0, c627_0, A627_1, c627_1, e627, hx627_0, hx627_1, hx627_2, hx627_3, hl627_0, hi627_0, hl627_1, hi627_1⟩ := at_T53 (Kd.N_reads' HO_627003.out).2.2 x11_2 p627 q627
   cases e627
   obtain ⟨ce627, hce627, hMe627, hcc627⟩ := Kd.N_get HO_627003.out z53 x11_2 p627 (by first | exact q627 | exact of_decide_eq_true as_ | (have e_ := (Kd.N_reads' HO_627003.out).1; omega))
   obtain ⟨ua627_0, uc627_0, ua627_1, uc627_1, rfl, ul627_0, ge627_0, ul627_1, ge627_1⟩ := k53_openF hMe627
   have hv627_0 := hcc627 0 _ rfl
   rw [Nat.add_zero] at hv627_0
   replace hv627_0 := Option.some.inj (hv627_0.symm.trans hx627_0)
   injection hv627_0 with hva_ hvn_ hvc_
   rw [hva_] at ge627_0
   rw [hvc_] at ul627_0
   have HL627_0 := Aside0.mk (show Kd.V (Kd.int .i64) 3 _ w.heap.size _ _ ((rd_T53 t623 x11_2).f0) from Kd.V_mk ul627_0 ge627_0)
   clear hva_ hvn_ hvc_ ge627_0 ul627_0
   have hv627_1 := hcc627 1 _ rfl
   rw [add_field _ _ 1 (by omega)] at hv627_1
   replace hv627_1 := Option.some.inj (hv627_1.symm.trans hx627_1)
   injection hv627_1 with hva_ hvn_ hvc_
   rw [hva_] at ge627_1
   rw [hvc_] at ul627_1
   have HL627_1 := Aside0.mk (show Kd.V k100 100 _ w.heap.size _ _ ((rd_T53 t623 x11_2).f1) from Kd.V_mk ul627_1 ge627_1)
   clear hva_ hvn_ hvc_ ge627_1 ul627_1
   clear hcc627 hce627
   have HR627_0 := Aside0.mk hi627_0
   have HC627_0 := Aside0.mk hl627_0
   clear hi627_0 hl627_0
   have HR627_1 := Aside0.mk hi627_1
   have HC627_1 := Aside0.mk hl627_1
   clear hi627_1 hl627_1
   replace p627 := eq_true p627
   replace q627 := eq_true q627
   refine start_ (n := 20) (S := fun w' => w'.cell? ⟨gb626, 0, none⟩ = some (.int .i64 t620) ∧ w'.cell? ⟨gb626, 1, none⟩ = some (.int .i64 t621) ∧ w'.cell? ⟨gb626, 2, none⟩ = some (.int .i64 t622) ∧ w'.cell? ⟨gb626, 3, none⟩ = some (.slice (some ad627) t623.length co66) ∧ w'.cell? (ad627.add ((x11_2).toNat * 4)) = some (.slice A627_0 ((rd_T53 t623 x11_2).f0).length c627_0) ∧ w'.cell? ⟨(ad627.add ((x11_2).toNat * 4)).block, (ad627.add ((x11_2).toNat * 4)).off + 1, none⟩ = some (.slice A627_1 ((rd_T53 t623 x11_2).f1).length c627_1) ∧ w'.cell? ⟨(ad627.add ((x11_2).toNat * 4)).block, (ad627.add ((x11_2).toNat * 4)).off + 2, none⟩ = some (.int .i64 ((rd_T53 t623 x11_2).f2)) ∧ w'.cell? ⟨(ad627.add ((x11_2).toNat * 4)).block, (ad627.add ((x11_2).toNat * 4)).off + 3, none⟩ = some (.int .i64 ((rd_T53 t623 x11_2).f3))) (ds := []) #[false, false, false, false, false, false, false, false, false, false, false, false, false, false, false, false, false, false, false, false] (by kernel_rfl) rfl rfl ⟨(blk_cell BK626.out 0).trans rfl, (blk_cell BK626.out 1).trans rfl, (blk_cell BK626.out 2).trans rfl, (blk_cell BK626.out 3).trans rfl, hx627_0, hx627_1, hx627_2, hx627_3⟩ (fun hHeld => ?_); refine with_tabW laws_FnLessNums.tab20 laws_FnLessNums.bits20 (fun HT_ HW_ => ?_)
   generalize wr.drew = w81 at HO_5 HO_606003 HO_607002 HO_620002 HO_627003 BK605 BK606 BK619 BK626 HB HL627_0 HL627_1 HR627_0 HR627_1 hx627_0 hx627_1 hx627_2 hx627_3 hHeld ⊢
   refine pu_ 0 87 HT_ ?_
   refine pu_ 2 89 HT_ ?_
   refine ta_ 1 88 HT_ HW_ hHeld ?_ (r := by rintro w' ⟨s0, s1, s2, s3, s4, s5, s6, s7⟩; go_simp; with_reducible rfl)
   refine pu_ 3 90 HT_ ?_
   refine pu_ 4 91 HT_ ?_
   refine ta_ 5 92 HT_ HW_ hHeld ?_ (r := by rintro w' ⟨s0, s1, s2, s3, s4, s5, s6, s7⟩; go_simp; with_reducible rfl)
   refine pu_ 6 93 HT_ ?_
   refine pu_ 7 94 HT_ ?_
   refine pu_ 8 95 HT_ ?_
   refine pn_ 9 96 HT_ ?_
   refine pn_ 10 97 HT_ ?_
   refine pn_ 11 98 HT_ ?_
   refine pn_ 12 99 HT_ ?_
   refine pn_ 13 100 HT_ ?_
   refine pn_ 14 101 HT_ ?_
   refine pn_ 15 102 HT_ ?_
   refine pn_ 16 103 HT_ ?_
   refine pn_ 17 104 HT_ ?_
   refine pn_ 18 105 HT_ ?_
   refine pu_ 19 106 HT_ ?_
   refine done_ (done_of HT_.out (by kernel_rfl)) ?_
   try go_wp2
   go_roundg k2
   case measure => have := HK1.out; have := HK2.out; omega
   case rel => exact ⟨(wrap64 (x11_2 + 1)), (sr_), H', ⟨by have := HK1.out; have := HK2.out; omega⟩, ⟨ra_ HO_5.out⟩, ⟨by (with_reducible repeat (first | apply Kd.N_alloc | apply Kd.N_drewN | apply Kd.N_drew)); exact HO_606003.out⟩, ⟨ra_ HO_607002.out⟩, ⟨ra_ HO_620002.out⟩, ⟨by (with_reducible repeat (first | apply Kd.N_alloc | apply Kd.N_drewN | apply Kd.N_drew)); exact HO_627003.out⟩, ⟨bk_ BK605.out⟩, ⟨bk_ BK606.out⟩, ⟨bk_ BK619.out⟩, ⟨bk_ BK626.out⟩, ⟨bl_⟩⟩
  rw [if_pos c69] at H
  have c69b0 := decide_eq_true c69
  have c69b1 : decide (0 < ((rd_T53 t623 x11_2).f0).length) = true := decide_eq_true (by omega)
  clear c69
  replace H := bs_ H
  obtain ⟨t629, A70, H⟩ := H
  try dsimp only at H
  by_cases c71 : t629 = true
  rotate_left
  ·replace c71 := Bool.eq_false_iff.mpr c71
   subst c71
   rw [nf_] at H
   exact absurd ((Option.some.inj H).trans HRt.out) (by decide)
  subst c71
  rw [if_pos rfl] at H
  have H' := Aside0.mk H
  clear H
  have hnb72 := NB626_605.out
  have hnc72 := NB605_626.out
  have hnb73 := NB626_606.out
  have hnc73 := NB606_626.out
  have hnb74 := NB626_619.out
  have hnc74 := NB619_626.out
  obtain ⟨hcz75_0, hcz75_1, hcz75_2, hcz75_3, hfz75_0, hfz75_1, hfz75_2, hfz75_3⟩ := cf4_ BK626.out
  try go_wp2
  have n0_ := Aside0.mk (Kd.R_drew HO_5.out)
  have n1_ := Aside0.mk (Kd.N_drew HO_606003.out)
  have n2_ := Aside0.mk (Kd.R_drew HO_607002.out)
  have n3_ := Aside0.mk (Kd.R_drew HO_620002.out)
  have n4_ := Aside0.mk (Kd.N_drew HO_627003.out)
  have n5_ := Aside0.mk (blk_drew BK605.out)
  have n6_ := Aside0.mk (blk_drew BK606.out)
  have n7_ := Aside0.mk (blk_drew BK619.out)
  have n8_ := Aside0.mk (blk_drew BK626.out)
  have n9_ := Aside0.mk (below_drew1 HB.out)
  clear HO_5
  clear HO_606003
  clear HO_607002
  clear HO_620002
  clear HO_627003
  clear BK605
  clear BK606
  clear BK619
  clear BK626
  clear HB
  have HO_5 := n0_
  have HO_606003 := n1_
  have HO_607002 := n2_
  have HO_620002 := n3_
  have HO_627003 := n4_
  have BK605 := n5_
  have BK606 := n6_
  have BK619 := n7_
  have BK626 := n8_
  have HB := n9_
  clear n0_ n1_ n2_ n3_ n4_ n5_ n6_ n7_ n8_ n9_
  have p627 : 0 ≤ (x11_2 : Int) := of_decide_eq_true as_
  have q627 : x11_2 < (t623.length : Int) := of_decide_eq_true as_
  obtain ⟨ad627, A627_0, c627_0, A627_1, c627_1, e627, hx627_0, hx627_1, hx627_2, hx627_3, hl627_0, hi627_0, hl627_1, hi627_1⟩ := at_T53 (Kd.N_reads' HO_627003.out).2.2 x11_2 p627 q627
  cases e627
  obtain ⟨ce627, hce627, hMe627, hcc627⟩ := Kd.N_get HO_627003.out z53 x11_2 p627 (by first | exact q627 | exact of_decide_eq_true as_ | (have e_ := (Kd.N_reads' HO_627003.out).1; omega))
  obtain ⟨ua627_0, uc627_0, ua627_1, uc627_1, rfl, ul627_0, ge627_0, ul627_1, ge627_1⟩ := k53_openF hMe627
  have hv627_0 := hcc627 0 _ rfl
  rw [Nat.add_zero] at hv627_0
  replace hv627_0 := Option.some.inj (hv627_0.symm.trans hx627_0)
  injection hv627_0 with hva_ hvn_ hvc_
  rw [hva_] at ge627_0
  rw [hvc_] at ul627_0
  have HL627_0 := Aside0.mk (show Kd.V (Kd.int .i64) 3 _ w.heap.size _ _ ((rd_T53 t623 x11_2).f0) from Kd.V_mk ul627_0 ge627_0)
  clear hva_ hvn_ hvc_ ge627_0 ul627_0
  have hv627_1 := hcc627 1 _ rfl
  rw [add_field _ _ 1 (by omega)] at hv627_1
  replace hv627_1 := Option.some.inj (hv627_1.symm.trans hx627_1)
  injection hv627_1 with hva_ hvn_ hvc_
  rw [hva_] at ge627_1
  rw [hvc_] at ul627_1
  have HL627_1 := Aside0.mk (show Kd.V k100 100 _ w.heap.size _ _ ((rd_T53 t623 x11_2).f1) from Kd.V_mk ul627_1 ge627_1)
  clear hva_ hvn_ hvc_ ge627_1 ul627_1
  clear hcc627 hce627
  have HR627_0 := Aside0.mk hi627_0
  have HC627_0 := Aside0.mk hl627_0
  clear hi627_0 hl627_0
  have HR627_1 := Aside0.mk hi627_1
  have HC627_1 := Aside0.mk hl627_1
  clear hi627_1 hl627_1
  replace p627 := eq_true p627
  replace q627 := eq_true q627
  have p628 : 0 ≤ (x11_2 : Int) := of_decide_eq_true as_
  have q628 : x11_2 < (t623.length : Int) := of_decide_eq_true as_
  obtain ⟨ad628, A628_0, c628_0, A628_1, c628_1, e628, hx628_0, hx628_1, hx628_2, hx628_3, hl628_0, hi628_0, hl628_1, hi628_1⟩ := at_T53 (Kd.N_reads' HO_627003.out).2.2 x11_2 p628 q628
  obtain rfl : ad627 = ad628 := (by injection e628)
  obtain ⟨ce628, hce628, hMe628, hcc628⟩ := Kd.N_get HO_627003.out z53 x11_2 p628 (by first | exact q628 | exact of_decide_eq_true as_ | (have e_ := (Kd.N_reads' HO_627003.out).1; omega))
  obtain ⟨ua628_0, uc628_0, ua628_1, uc628_1, rfl, ul628_0, ge628_0, ul628_1, ge628_1⟩ := k53_openF hMe628
  have hv628_0 := hcc628 0 _ rfl
  rw [Nat.add_zero] at hv628_0
  replace hv628_0 := Option.some.inj (hv628_0.symm.trans hx628_0)
  injection hv628_0 with hva_ hvn_ hvc_
  rw [hva_] at ge628_0
  rw [hvc_] at ul628_0
  have HL628_0 := Aside0.mk (show Kd.V (Kd.int .i64) 3 _ w.heap.size _ _ ((rd_T53 t623 x11_2).f0) from Kd.V_mk ul628_0 ge628_0)
  clear hva_ hvn_ hvc_ ge628_0 ul628_0
  have hv628_1 := hcc628 1 _ rfl
  rw [add_field _ _ 1 (by omega)] at hv628_1
  replace hv628_1 := Option.some.inj (hv628_1.symm.trans hx628_1)
  injection hv628_1 with hva_ hvn_ hvc_
  rw [hva_] at ge628_1
  rw [hvc_] at ul628_1
  have HL628_1 := Aside0.mk (show Kd.V k100 100 _ w.heap.size _ _ ((rd_T53 t623 x11_2).f1) from Kd.V_mk ul628_1 ge628_1)
  clear hva_ hvn_ hvc_ ge628_1 ul628_1
  clear hcc628 hce628
  have HR628_0 := Aside0.mk hi628_0
  have HC628_0 := Aside0.mk hl628_0
  clear hi628_0 hl628_0
  have HR628_1 := Aside0.mk hi628_1
  have HC628_1 := Aside0.mk hl628_1
  clear hi628_1 hl628_1
  replace p628 := eq_true p628
  replace q628 := eq_true q628
  have ea_ := Option.some.inj (hx627_0.symm.trans hx628_0)
  injection ea_ with ea_ en_ ec_
  subst ea_
  subst ec_
  clear en_
  have ea_ := Option.some.inj (hx627_1.symm.trans hx628_1)
  injection ea_ with ea_ en_ ec_
  subst ea_
  subst ec_
  clear en_
  refine start_ (n := 20) (S := fun w' => w'.cell? ⟨gb626, 0, none⟩ = some (.int .i64 t620) ∧ w'.cell? ⟨gb626, 1, none⟩ = some (.int .i64 t621) ∧ w'.cell? ⟨gb626, 2, none⟩ = some (.int .i64 t622) ∧ w'.cell? ⟨gb626, 3, none⟩ = some (.slice (some ad627) t623.length co66) ∧ w'.cell? ⟨gb619, 0, none⟩ = some (.int .i64 t594) ∧ w'.cell? ⟨gb619, 1, none⟩ = some (.int .i64 (wrap64 (1000 + (rd t615 0)))) ∧ w'.cell? ⟨gb619, 2, none⟩ = some (.slice Ao13 t602.length co13) ∧ w'.cell? (ad627.add ((x11_2).toNat * 4)) = some (.slice A627_0 ((rd_T53 t623 x11_2).f0).length c627_0) ∧ w'.cell? ⟨(ad627.add ((x11_2).toNat * 4)).block, (ad627.add ((x11_2).toNat * 4)).off + 1, none⟩ = some (.slice A627_1 ((rd_T53 t623 x11_2).f1).length c627_1) ∧ w'.cell? ⟨(ad627.add ((x11_2).toNat * 4)).block, (ad627.add ((x11_2).toNat * 4)).off + 2, none⟩ = some (.int .i64 ((rd_T53 t623 x11_2).f2)) ∧ w'.cell? ⟨(ad627.add ((x11_2).toNat * 4)).block, (ad627.add ((x11_2).toNat * 4)).off + 3, none⟩ = some (.int .i64 ((rd_T53 t623 x11_2).f3)) ∧ w'.cell? (ad627.add ((x11_2).toNat * 4)) = some (.slice A627_0 ((rd_T53 t623 x11_2).f0).length c627_0) ∧ w'.cell? ⟨(ad627.add ((x11_2).toNat * 4)).block, (ad627.add ((x11_2).toNat * 4)).off + 1, none⟩ = some (.slice A627_1 ((rd_T53 t623 x11_2).f1).length c627_1) ∧ w'.cell? ⟨(ad627.add ((x11_2).toNat * 4)).block, (ad627.add ((x11_2).toNat * 4)).off + 2, none⟩ = some (.int .i64 ((rd_T53 t623 x11_2).f2)) ∧ w'.cell? ⟨(ad627.add ((x11_2).toNat * 4)).block, (ad627.add ((x11_2).toNat * 4)).off + 3, none⟩ = some (.int .i64 ((rd_T53 t623 x11_2).f3))) (ds := []) #[false, false, false, false, false, false, false, false, false, false, false, false, false, false, false, false, false, false, false, false] (by kernel_rfl) rfl rfl ⟨(blk_cell BK626.out 0).trans rfl, (blk_cell BK626.out 1).trans rfl, (blk_cell BK626.out 2).trans rfl, (blk_cell BK626.out 3).trans rfl, (blk_cell BK619.out 0).trans rfl, (blk_cell BK619.out 1).trans rfl, (blk_cell BK619.out 2).trans rfl, hx627_0, hx627_1, hx627_2, hx627_3, hx628_0, hx628_1, hx628_2, hx628_3⟩ (fun hHeld => ?_); refine with_tabW laws_FnLessNums.tab20 laws_FnLessNums.bits20 (fun HT_ HW_ => ?_)
  generalize wr.drew = w76 at HO_5 HO_606003 HO_607002 HO_620002 HO_627003 BK605 BK606 BK619 BK626 HB HL627_0 HL627_1 HL628_0 HL628_1 HR627_0 HR627_1 HR628_0 HR628_1 hx627_0 hx627_1 hx627_2 hx627_3 hx628_0 hx628_1 hx628_2 hx628_3 hHeld ⊢
  refine pu_ 0 87 HT_ ?_
  refine pu_ 2 89 HT_ ?_
  refine ta_ 1 88 HT_ HW_ hHeld ?_ (r := by rintro w' ⟨s0, s1, s2, s3, s4, s5, s6, s7, s8, s9, s10, s11, s12, s13, s14⟩; go_simp; with_reducible rfl)
  refine pu_ 3 90 HT_ ?_
  refine pu_ 4 91 HT_ ?_
  refine ta_ 5 92 HT_ HW_ hHeld ?_ (r := by rintro w' ⟨s0, s1, s2, s3, s4, s5, s6, s7, s8, s9, s10, s11, s12, s13, s14⟩; go_simp; with_reducible rfl)
  refine pu_ 6 93 HT_ ?_
  refine pu_ 7 94 HT_ ?_
  refine pu_ 8 95 HT_ ?_
  refine pu_ 9 96 HT_ ?_
  refine pu_ 11 98 HT_ ?_
  refine pu_ 15 102 HT_ ?_
  refine ta_ 10 97 HT_ HW_ hHeld ?_ (r := by rintro w' ⟨s0, s1, s2, s3, s4, s5, s6, s7, s8, s9, s10, s11, s12, s13, s14⟩; go_simp; with_reducible rfl)
  refine pu_ 12 99 HT_ ?_
  refine pu_ 13 100 HT_ ?_
  refine ta_ 14 101 HT_ HW_ hHeld ?_ (r := by rintro w' ⟨s0, s1, s2, s3, s4, s5, s6, s7, s8, s9, s10, s11, s12, s13, s14⟩; go_simp; with_reducible rfl)
  refine ta_ 16 103 HT_ HW_ hHeld ?_ (r := by rintro w' ⟨s0, s1, s2, s3, s4, s5, s6, s7, s8, s9, s10, s11, s12, s13, s14⟩; go_simp; with_reducible rfl)
  refine on_ 17 104 HT_ (fun K hK => ?_)
  refine goes_ Try.func23 (by kernel_rfl) rfl #[.slice A627_0 ((rd_T53 t623 x11_2).f0).length c627_0, .int .i64 (wrap64 (1000 + (rd t615 0)))] (by rfl) rfl rfl lm_ ?_
  with_reducible refine (laws_hasNum.calls k2 _ _ ((rd_T53 t623 x11_2).f0) (wrap64 (1000 + (rd t615 0))) true _ ?side1 ?side2 A70.out).mono ?_
  (case side1 => repeat (first | exact (by repeat (first | (with_reducible exact HR628_0.out) | (with_reducible refine Kd.C_alloc ?_ _) | (with_reducible refine Kd.C_drewN ?_ _) | (with_reducible refine Kd.C_drew ?_) | exact HR628_0.out)) | (with_reducible refine Kd.C_alloc ?_ _) | (with_reducible refine Kd.C_drewN ?_ _) | (with_reducible refine Kd.C_drew ?_)))
  (case side2 => exact HC628_0.out)
  rintro e w' ⟨rfl, ⟨nd, rfl⟩⟩
  refine ⟨_, rfl, ?_⟩
  refine hK.out _ _ ⟨(blk_cell BK626.out 0).trans rfl, (blk_cell BK626.out 1).trans rfl, (blk_cell BK626.out 2).trans rfl, (blk_cell BK626.out 3).trans rfl, (blk_cell BK619.out 0).trans rfl, (blk_cell BK619.out 1).trans rfl, (blk_cell BK619.out 2).trans rfl, hHeld.2.2.2.2.2.2.2.1, hHeld.2.2.2.2.2.2.2.2.1, hHeld.2.2.2.2.2.2.2.2.2.1, hHeld.2.2.2.2.2.2.2.2.2.2.1, hHeld.2.2.2.2.2.2.2.2.2.2.2.1, hHeld.2.2.2.2.2.2.2.2.2.2.2.2.1, hHeld.2.2.2.2.2.2.2.2.2.2.2.2.2.1, hHeld.2.2.2.2.2.2.2.2.2.2.2.2.2.2⟩ (fun hHeld => ?_)
  clear hK K
  refine norm_ (a' := ?_) ?_ ?_
  rotate_left
  ·show Act.put _ (some 104) _ = _
   simp only [Act.put, List.setIfInBounds_toArray, List.set_cons_zero, List.set_cons_succ, i64_w, i32_w]
   rfl
  refine pu_ 18 105 HT_ ?_
  refine pu_ 19 106 HT_ ?_
  refine done_ (done_of HT_.out (by kernel_rfl)) ?_
  try go_wp2
  go_roundg k2
  case measure => have := HK1.out; have := HK2.out; omega
  case rel => exact ⟨(wrap64 (x11_2 + 1)), (sr_), H', ⟨by have := HK1.out; have := HK2.out; omega⟩, ⟨ra_ HO_5.out⟩, ⟨by (with_reducible repeat (first | apply Kd.N_alloc | apply Kd.N_drewN | apply Kd.N_drew)); exact HO_606003.out⟩, ⟨ra_ HO_607002.out⟩, ⟨ra_ HO_620002.out⟩, ⟨by (with_reducible repeat (first | apply Kd.N_alloc | apply Kd.N_drewN | apply Kd.N_drew)); exact HO_627003.out⟩, ⟨bk_ BK605.out⟩, ⟨bk_ BK606.out⟩, ⟨bk_ BK619.out⟩, ⟨bk_ BK626.out⟩, ⟨bl_⟩⟩
 rw [if_neg c67] at H
 have c67b0 := decide_eq_false c67
 clear c67
 replace H := bs_ H
 obtain ⟨t630, A82, H⟩ := H
 try dsimp only at H
 replace H := bs_ H
 obtain ⟨t631, A83, H⟩ := H
 try dsimp only at H
 by_cases c84 : t630 = t631
 rotate_left
 ·rw [if_neg c84] at H
  have c84b0 : (t630 == t631) = false := beq_eq_false_iff_ne.mpr c84
  have c84b1 : (t630 != t631) = true := bne_iff_ne.mpr c84
  exact absurd ((Option.some.inj H).trans HRt.out) (by decide)
 rw [if_pos c84] at H
 have c84b0 : (t630 == t631) = true := beq_iff_eq.mpr c84
 have c84b1 : (t630 != t631) = false := bne_eq_false_iff_eq.mpr c84
 clear c84
 replace H := bs_ H
 obtain ⟨t632, A85, H⟩ := H
 try dsimp only at H
 by_cases c86 : t632 = true
 rotate_left
 ·replace c86 := Bool.eq_false_iff.mpr c86
  subst c86
  rw [nf_] at H
  exact absurd ((Option.some.inj H).trans HRt.out) (by decide)
 subst c86
 rw [if_pos rfl] at H
 replace H := bs_ H
 obtain ⟨t633, A87, H⟩ := H
 try dsimp only at H
 replace H := bs_ H
 obtain ⟨t636, A88, H⟩ := H
 try dsimp only at H
 by_cases c89 : t636 = true
 rotate_left
 ·replace c89 := Bool.eq_false_iff.mpr c89
  subst c89
  rw [nf_] at H
  exact absurd ((Option.some.inj H).trans HRt.out) (by decide)
 subst c89
 rw [if_pos rfl] at H
 obtain rfl := Option.some.inj H
 have hnb90 := NB626_605.out
 have hnc90 := NB605_626.out
 have hnb91 := NB626_606.out
 have hnc91 := NB606_626.out
 have hnb92 := NB626_619.out
 have hnc92 := NB619_626.out
 obtain ⟨hcz93_0, hcz93_1, hcz93_2, hcz93_3, hfz93_0, hfz93_1, hfz93_2, hfz93_3⟩ := cf4_ BK626.out
 try go_wp2
 have n0_ := Aside0.mk (Kd.R_drew HO_5.out)
 have n1_ := Aside0.mk (Kd.N_drew HO_606003.out)
 have n2_ := Aside0.mk (Kd.R_drew HO_607002.out)
 have n3_ := Aside0.mk (Kd.R_drew HO_620002.out)
 have n4_ := Aside0.mk (Kd.N_drew HO_627003.out)
 have n5_ := Aside0.mk (blk_drew BK605.out)
 have n6_ := Aside0.mk (blk_drew BK606.out)
 have n7_ := Aside0.mk (blk_drew BK619.out)
 have n8_ := Aside0.mk (blk_drew BK626.out)
 have n9_ := Aside0.mk (below_drew1 HB.out)
 clear HO_5
 clear HO_606003
 clear HO_607002
 clear HO_620002
 clear HO_627003
 clear BK605
 clear BK606
 clear BK619
 clear BK626
 clear HB
 have HO_5 := n0_
 have HO_606003 := n1_
 have HO_607002 := n2_
 have HO_620002 := n3_
 have HO_627003 := n4_
 have BK605 := n5_
 have BK606 := n6_
 have BK619 := n7_
 have BK626 := n8_
 have HB := n9_
 clear n0_ n1_ n2_ n3_ n4_ n5_ n6_ n7_ n8_ n9_
 refine start_ (n := 27) (S := fun w' => w'.cell? ⟨gb626, 0, none⟩ = some (.int .i64 t620) ∧ w'.cell? ⟨gb626, 1, none⟩ = some (.int .i64 t621) ∧ w'.cell? ⟨gb626, 2, none⟩ = some (.int .i64 t622) ∧ w'.cell? ⟨gb626, 3, none⟩ = some (.slice Ao66 t623.length co66) ∧ w'.cell? ⟨gb619, 0, none⟩ = some (.int .i64 t594) ∧ w'.cell? ⟨gb619, 1, none⟩ = some (.int .i64 (wrap64 (1000 + (rd t615 0)))) ∧ w'.cell? ⟨gb619, 2, none⟩ = some (.slice Ao13 t602.length co13) ∧ w'.cell? ⟨gb605, 0, none⟩ = some (.int .i64 t594) ∧ w'.cell? ⟨gb605, 1, none⟩ = some (.int .i64 t595) ∧ w'.cell? ⟨gb605, 2, none⟩ = some (.int .i64 t596) ∧ w'.cell? ⟨gb605, 3, none⟩ = some (.slice Ao11 t597.length co11)) (ds := []) #[false, false, false, false, false, false, false, false, false, false, false, false, false, false, false, false, false, false, false, false, false, false, false, false, false, false, false] (by kernel_rfl) rfl rfl ⟨(blk_cell BK626.out 0).trans rfl, (blk_cell BK626.out 1).trans rfl, (blk_cell BK626.out 2).trans rfl, (blk_cell BK626.out 3).trans rfl, (blk_cell BK619.out 0).trans rfl, (blk_cell BK619.out 1).trans rfl, (blk_cell BK619.out 2).trans rfl, (blk_cell BK605.out 0).trans rfl, (blk_cell BK605.out 1).trans rfl, (blk_cell BK605.out 2).trans rfl, (blk_cell BK605.out 3).trans rfl⟩ (fun hHeld => ?_); refine with_tabW laws_FnLessNums.tab22 laws_FnLessNums.bits22 (fun HT_ HW_ => ?_)
 generalize wr.drew = w94 at HO_5 HO_606003 HO_607002 HO_620002 HO_627003 BK605 BK606 BK619 BK626 HB hHeld ⊢
 refine ta_ 0 107 HT_ HW_ hHeld ?_ (r := by rintro w' ⟨s0, s1, s2, s3, s4, s5, s6, s7, s8, s9, s10⟩; go_simp; with_reducible rfl)
 refine ta_ 1 108 HT_ HW_ hHeld ?_ (r := by rintro w' ⟨s0, s1, s2, s3, s4, s5, s6, s7, s8, s9, s10⟩; go_simp; with_reducible rfl)
 refine ta_ 3 110 HT_ HW_ hHeld ?_ (r := by rintro w' ⟨s0, s1, s2, s3, s4, s5, s6, s7, s8, s9, s10⟩; go_simp; with_reducible rfl)
 refine ta_ 4 111 HT_ HW_ hHeld ?_ (r := by rintro w' ⟨s0, s1, s2, s3, s4, s5, s6, s7, s8, s9, s10⟩; go_simp; with_reducible rfl)
 refine on_ 2 109 HT_ (fun K hK => ?_)
 refine goes_ Try.func26 (by kernel_rfl) rfl #[.agg #[.int .i64 t620, .int .i64 t621, .int .i64 t622, .slice Ao66 t623.length co66], .agg #[.int .i64 t594, .int .i64 (wrap64 (1000 + (rd t615 0))), .slice Ao13 t602.length co13]] (by rfl) rfl rfl lm_ ?_
 with_reducible refine (spec_Decide.calls k2 t620 t621 t622 _ _ t623 t594 (wrap64 (1000 + (rd t615 0))) _ _ t602 t630 _ ?side1 ?side2 ?side3 ?side4 A82.out).mono ?_
 (case side1 => exact cs_ ((Kd.N_reads' HO_627003.out).2.2))
 (case side2 => exact (Kd.N_reads' HO_627003.out).2.1)
 (case side3 => exact cs_ ((Kd.R_reads' HO_620002.out).2.2))
 (case side4 => exact (Kd.R_reads' HO_620002.out).2.1)
 rintro e w95 ⟨rfl, hb⟩
 refine ⟨_, rfl, ?_⟩
 have n0_ := Aside0.mk (Kd.R_below (ra_ HO_5.out) hb)
 have n1_ := Aside0.mk (Kd.N_below (by (with_reducible repeat (first | apply Kd.N_alloc | apply Kd.N_drewN | apply Kd.N_drew)); exact HO_606003.out) hb)
 have n2_ := Aside0.mk (Kd.R_below (ra_ HO_607002.out) hb)
 have n3_ := Aside0.mk (Kd.R_below (ra_ HO_620002.out) hb)
 have n4_ := Aside0.mk (Kd.N_below (by (with_reducible repeat (first | apply Kd.N_alloc | apply Kd.N_drewN | apply Kd.N_drew)); exact HO_627003.out) hb)
 have n5_ := Aside0.mk (blk_below (bn0_ BK605.out) hb)
 have n6_ := Aside0.mk (blk_below (bn0_ BK606.out) hb)
 have n7_ := Aside0.mk (blk_below (bn0_ BK619.out) hb)
 have n8_ := Aside0.mk (blk_below (bn0_ BK626.out) hb)
 have n9_ := Aside0.mk (below_step bl_ hb)
 clear HO_5
 clear HO_606003
 clear HO_607002
 clear HO_620002
 clear HO_627003
 clear BK605
 clear BK606
 clear BK619
 clear BK626
 clear HB
 have HO_5 := n0_
 have HO_606003 := n1_
 have HO_607002 := n2_
 have HO_620002 := n3_
 have HO_627003 := n4_
 have BK605 := n5_
 have BK606 := n6_
 have BK619 := n7_
 have BK626 := n8_
 have HB := n9_
 clear n0_ n1_ n2_ n3_ n4_ n5_ n6_ n7_ n8_ n9_
 (try clear hb)
 (try clear hb2)
 (try clear hk)
 (try clear hi)
 refine hK.out _ _ ⟨(blk_cell BK626.out 0).trans rfl, (blk_cell BK626.out 1).trans rfl, (blk_cell BK626.out 2).trans rfl, (blk_cell BK626.out 3).trans rfl, (blk_cell BK619.out 0).trans rfl, (blk_cell BK619.out 1).trans rfl, (blk_cell BK619.out 2).trans rfl, (blk_cell BK605.out 0).trans rfl, (blk_cell BK605.out 1).trans rfl, (blk_cell BK605.out 2).trans rfl, (blk_cell BK605.out 3).trans rfl⟩ (fun hHeld => ?_)
 clear hK K
 refine norm_ (a' := ?_) ?_ ?_
 rotate_left
 ·show Act.put _ (some 109) _ = _
  simp only [Act.put, List.setIfInBounds_toArray, List.set_cons_zero, List.set_cons_succ, i64_w, i32_w]
  rfl
 refine on_ 5 112 HT_ (fun K hK => ?_)
 refine goes_ Try.func26 (by kernel_rfl) rfl #[.agg #[.int .i64 t594, .int .i64 t595, .int .i64 t596, .slice Ao11 t597.length co11], .agg #[.int .i64 t594, .int .i64 (wrap64 (1000 + (rd t615 0))), .slice Ao13 t602.length co13]] (by rfl) rfl rfl lm_ ?_
 with_reducible refine (spec_Decide.calls k2 t594 t595 t596 _ _ t597 t594 (wrap64 (1000 + (rd t615 0))) _ _ t602 t631 _ ?side1 ?side2 ?side3 ?side4 A83.out).mono ?_
 (case side1 => exact cs_ ((Kd.N_reads' HO_606003.out).2.2))
 (case side2 => exact (Kd.N_reads' HO_606003.out).2.1)
 (case side3 => exact cs_ ((Kd.R_reads' HO_620002.out).2.2))
 (case side4 => exact (Kd.R_reads' HO_620002.out).2.1)
 rintro e w96 ⟨rfl, hb⟩
 refine ⟨_, rfl, ?_⟩
 have n0_ := Aside0.mk (Kd.R_below (ra_ HO_5.out) hb)
 have n1_ := Aside0.mk (Kd.N_below (by (with_reducible repeat (first | apply Kd.N_alloc | apply Kd.N_drewN | apply Kd.N_drew)); exact HO_606003.out) hb)
 have n2_ := Aside0.mk (Kd.R_below (ra_ HO_607002.out) hb)
 have n3_ := Aside0.mk (Kd.R_below (ra_ HO_620002.out) hb)
 have n4_ := Aside0.mk (Kd.N_below (by (with_reducible repeat (first | apply Kd.N_alloc | apply Kd.N_drewN | apply Kd.N_drew)); exact HO_627003.out) hb)
 have n5_ := Aside0.mk (blk_below (bn0_ BK605.out) hb)
 have n6_ := Aside0.mk (blk_below (bn0_ BK606.out) hb)
 have n7_ := Aside0.mk (blk_below (bn0_ BK619.out) hb)
 have n8_ := Aside0.mk (blk_below (bn0_ BK626.out) hb)
 have n9_ := Aside0.mk (below_step bl_ hb)
 clear HO_5
 clear HO_606003
 clear HO_607002
 clear HO_620002
 clear HO_627003
 clear BK605
 clear BK606
 clear BK619
 clear BK626
 clear HB
 have HO_5 := n0_
 have HO_606003 := n1_
 have HO_607002 := n2_
 have HO_620002 := n3_
 have HO_627003 := n4_
 have BK605 := n5_
 have BK606 := n6_
 have BK619 := n7_
 have BK626 := n8_
 have HB := n9_
 clear n0_ n1_ n2_ n3_ n4_ n5_ n6_ n7_ n8_ n9_
 (try clear hb)
 (try clear hb2)
 (try clear hk)
 (try clear hi)
 refine hK.out _ _ ⟨(blk_cell BK626.out 0).trans rfl, (blk_cell BK626.out 1).trans rfl, (blk_cell BK626.out 2).trans rfl, (blk_cell BK626.out 3).trans rfl, (blk_cell BK619.out 0).trans rfl, (blk_cell BK619.out 1).trans rfl, (blk_cell BK619.out 2).trans rfl, (blk_cell BK605.out 0).trans rfl, (blk_cell BK605.out 1).trans rfl, (blk_cell BK605.out 2).trans rfl, (blk_cell BK605.out 3).trans rfl⟩ (fun hHeld => ?_)
 clear hK K
 refine norm_ (a' := ?_) ?_ ?_
 rotate_left
 ·show Act.put _ (some 112) _ = _
  simp only [Act.put, List.setIfInBounds_toArray, List.set_cons_zero, List.set_cons_succ, i64_w, i32_w]
  rfl
 refine pu_ 6 113 HT_ ?_
 refine pu_ 7 114 HT_ ?_
 refine ta_ 8 115 HT_ HW_ hHeld ?_ (r := by rintro w' ⟨s0, s1, s2, s3, s4, s5, s6, s7, s8, s9, s10⟩; go_simp; with_reducible rfl)
 refine on_ 9 116 HT_ (fun K hK => ?_)
 refine goes_ Try.func27 (by kernel_rfl) rfl #[.agg #[.int .i64 t620, .int .i64 t621, .int .i64 t622, .slice Ao66 t623.length co66]] (by rfl) rfl rfl lm_ ?_
 with_reducible refine (spec_PolicyOk.calls k2 t620 t621 t622 _ _ t623 true _ ?side1 ?side2 A85.out).mono ?_
 (case side1 => exact cs_ ((Kd.N_reads' HO_627003.out).2.2))
 (case side2 => exact (Kd.N_reads' HO_627003.out).2.1)
 rintro e w97 ⟨rfl, hb⟩
 refine ⟨_, rfl, ?_⟩
 have n0_ := Aside0.mk (Kd.R_below (ra_ HO_5.out) hb)
 have n1_ := Aside0.mk (Kd.N_below (by (with_reducible repeat (first | apply Kd.N_alloc | apply Kd.N_drewN | apply Kd.N_drew)); exact HO_606003.out) hb)
 have n2_ := Aside0.mk (Kd.R_below (ra_ HO_607002.out) hb)
 have n3_ := Aside0.mk (Kd.R_below (ra_ HO_620002.out) hb)
 have n4_ := Aside0.mk (Kd.N_below (by (with_reducible repeat (first | apply Kd.N_alloc | apply Kd.N_drewN | apply Kd.N_drew)); exact HO_627003.out) hb)
 have n5_ := Aside0.mk (blk_below (bn0_ BK605.out) hb)
 have n6_ := Aside0.mk (blk_below (bn0_ BK606.out) hb)
 have n7_ := Aside0.mk (blk_below (bn0_ BK619.out) hb)
 have n8_ := Aside0.mk (blk_below (bn0_ BK626.out) hb)
 have n9_ := Aside0.mk (below_step bl_ hb)
 clear HO_5
 clear HO_606003
 clear HO_607002
 clear HO_620002
 clear HO_627003
 clear BK605
 clear BK606
 clear BK619
 clear BK626
 clear HB
 have HO_5 := n0_
 have HO_606003 := n1_
 have HO_607002 := n2_
 have HO_620002 := n3_
 have HO_627003 := n4_
 have BK605 := n5_
 have BK606 := n6_
 have BK619 := n7_
 have BK626 := n8_
 have HB := n9_
 clear n0_ n1_ n2_ n3_ n4_ n5_ n6_ n7_ n8_ n9_
 (try clear hb)
 (try clear hb2)
 (try clear hk)
 (try clear hi)
 refine hK.out _ _ ⟨(blk_cell BK626.out 0).trans rfl, (blk_cell BK626.out 1).trans rfl, (blk_cell BK626.out 2).trans rfl, (blk_cell BK626.out 3).trans rfl, (blk_cell BK619.out 0).trans rfl, (blk_cell BK619.out 1).trans rfl, (blk_cell BK619.out 2).trans rfl, (blk_cell BK605.out 0).trans rfl, (blk_cell BK605.out 1).trans rfl, (blk_cell BK605.out 2).trans rfl, (blk_cell BK605.out 3).trans rfl⟩ (fun hHeld => ?_)
 clear hK K
 refine norm_ (a' := ?_) ?_ ?_
 rotate_left
 ·show Act.put _ (some 116) _ = _
  simp only [Act.put, List.setIfInBounds_toArray, List.set_cons_zero, List.set_cons_succ, i64_w, i32_w]
  rfl
 refine pu_ 10 117 HT_ ?_
 refine pu_ 11 118 HT_ ?_
 refine pu_ 12 119 HT_ ?_
 refine ta_ 13 120 HT_ HW_ hHeld ?_ (r := by rintro w' ⟨s0, s1, s2, s3, s4, s5, s6, s7, s8, s9, s10⟩; go_simp; with_reducible rfl)
 refine on_ 14 121 HT_ (fun K hK => ?_)
 refine goes_ Try.func13 (by kernel_rfl) rfl #[.agg #[.int .i64 t594, .int .i64 t595, .int .i64 t596, .slice Ao11 t597.length co11]] (by rfl) rfl rfl lm_ ?_
 with_reducible refine (spec_NumsSaid.calls k2 t594 t595 t596 _ _ t597 t633 _ ?side1 ?side2 A87.out).mono ?_
 (case side1 => exact cs_ ((Kd.N_reads' HO_606003.out).2.2))
 (case side2 => exact (Kd.N_reads' HO_606003.out).2.1)
 rintro e w98 ⟨v634, rfl, ho0, hb⟩
 refine ⟨_, rfl, ?_⟩
 have n0_ := Aside0.mk (Kd.R_elder' (ra_ HO_5.out) (Kd.R_base ho0) hb)
 have n1_ := Aside0.mk (Kd.N_elder' (by (with_reducible repeat (first | apply Kd.N_alloc | apply Kd.N_drewN | apply Kd.N_drew)); exact HO_606003.out) (Kd.R_base ho0) hb)
 have n2_ := Aside0.mk (Kd.R_below (ra_ HO_607002.out) hb)
 have n3_ := Aside0.mk (Kd.R_below (ra_ HO_620002.out) hb)
 have n4_ := Aside0.mk (Kd.N_elder' (by (with_reducible repeat (first | apply Kd.N_alloc | apply Kd.N_drewN | apply Kd.N_drew)); exact HO_627003.out) (Kd.R_base ho0) hb)
 have n5_ := Aside0.mk (Kd.R_lower (Kd.R_new' ho0 (Kd.R_lt (ra_ HO_5.out))) (below_size bl_))
 have n6_ := Aside0.mk (blk_below (bn0_ BK605.out) hb)
 have n7_ := Aside0.mk (blk_below (bn0_ BK606.out) hb)
 have n8_ := Aside0.mk (blk_below (bn0_ BK619.out) hb)
 have n9_ := Aside0.mk (blk_below (bn0_ BK626.out) hb)
 have n10_ := Aside0.mk (below_step bl_ hb)
 clear HO_5
 clear HO_606003
 clear HO_607002
 clear HO_620002
 clear HO_627003
 clear BK605
 clear BK606
 clear BK619
 clear BK626
 clear HB
 have HO_5 := n0_
 have HO_606003 := n1_
 have HO_607002 := n2_
 have HO_620002 := n3_
 have HO_627003 := n4_
 have HO635 := n5_
 have BK605 := n6_
 have BK606 := n7_
 have BK619 := n8_
 have BK626 := n9_
 have HB := n10_
 clear n0_ n1_ n2_ n3_ n4_ n5_ n6_ n7_ n8_ n9_ n10_
 (try clear hb)
 (try clear hb2)
 (try clear hk)
 (try clear hi)
 (try clear ho0)
 obtain ⟨Ao99, co99, eo99⟩ := Kd.R_slice HO635.out
 (first | subst eo99 | (injection eo99 with f1_ f2_ f3_; have f4_ := f1_.symm; have f5_ := f3_.symm; clear f1_ f2_ f3_; subst f4_; subst f5_))
 refine hK.out _ _ ⟨(blk_cell BK626.out 0).trans rfl, (blk_cell BK626.out 1).trans rfl, (blk_cell BK626.out 2).trans rfl, (blk_cell BK626.out 3).trans rfl, (blk_cell BK619.out 0).trans rfl, (blk_cell BK619.out 1).trans rfl, (blk_cell BK619.out 2).trans rfl, (blk_cell BK605.out 0).trans rfl, (blk_cell BK605.out 1).trans rfl, (blk_cell BK605.out 2).trans rfl, (blk_cell BK605.out 3).trans rfl⟩ (fun hHeld => ?_)
 clear hK K
 refine norm_ (a' := ?_) ?_ ?_
 rotate_left
 ·show Act.put _ (some 121) _ = _
  simp only [Act.put, List.setIfInBounds_toArray, List.set_cons_zero, List.set_cons_succ, i64_w, i32_w]
  rfl
 refine on_ 15 122 HT_ (fun K hK => ?_)
 refine goes_ Try.func28 (by kernel_rfl) rfl #[.slice Ao46 t607.length co46, .slice Ao99 t633.length co99] (by rfl) rfl rfl lm_ ?_
 with_reducible refine (laws_sameInts.calls k2 _ _ t607 _ _ t633 true _ ?side1 ?side2 ?side3 ?side4 A88.out).mono ?_
 (case side1 => exact cs_ ((Kd.R_reads' HO_5.out).2.2))
 (case side2 => exact (Kd.R_reads' HO_5.out).2.1)
 (case side3 => exact cs_ ((Kd.R_reads' HO635.out).2.2))
 (case side4 => exact (Kd.R_reads' HO635.out).2.1)
 rintro e w' ⟨rfl, ⟨nd, rfl⟩⟩
 refine ⟨_, rfl, ?_⟩
 refine hK.out _ _ ⟨(blk_cell BK626.out 0).trans rfl, (blk_cell BK626.out 1).trans rfl, (blk_cell BK626.out 2).trans rfl, (blk_cell BK626.out 3).trans rfl, (blk_cell BK619.out 0).trans rfl, (blk_cell BK619.out 1).trans rfl, (blk_cell BK619.out 2).trans rfl, (blk_cell BK605.out 0).trans rfl, (blk_cell BK605.out 1).trans rfl, (blk_cell BK605.out 2).trans rfl, (blk_cell BK605.out 3).trans rfl⟩ (fun hHeld => ?_)
 clear hK K
 refine norm_ (a' := ?_) ?_ ?_
 rotate_left
 ·show Act.put _ (some 122) _ = _
  simp only [Act.put, List.setIfInBounds_toArray, List.set_cons_zero, List.set_cons_succ, i64_w, i32_w]
  rfl
 refine pu_ 16 123 HT_ ?_
 refine pu_ 17 124 HT_ ?_
 refine pu_ 18 125 HT_ ?_
 refine pu_ 21 128 HT_ ?_
 refine ta_ 19 126 HT_ HW_ hHeld ?_ (r := by rintro w' ⟨s0, s1, s2, s3, s4, s5, s6, s7, s8, s9, s10⟩; go_simp; with_reducible rfl)
 refine pu_ 20 127 HT_ ?_
 refine ta_ 22 129 HT_ HW_ hHeld ?_ (r := by rintro w' ⟨s0, s1, s2, s3, s4, s5, s6, s7, s8, s9, s10⟩; go_simp; with_reducible rfl)
 refine pu_ 23 130 HT_ ?_
 refine pu_ 24 131 HT_ ?_
 refine pu_ 25 132 HT_ ?_
 refine pu_ 26 2 HT_ ?_
 refine done_ (done_of HT_.out (by kernel_rfl)) ?_
 try go_wp2
 go_ret
 exact ⟨er_, bl_⟩

def laws_FnLessNums.Pure : Prop := ∀ (l0 : List Int), l0.length ≤ maxLen → l0.length * 1 ≤ 140737488351232 → (∀ x ∈ l0, (Lit.int .u8 x).wf = true) → ∃ k, laws_FnLessNums.f k l0 = some true
theorem laws_FnLessNums.walk (P : laws_FnLessNums.Pure) (a0 : Option Addr) (len0 cap0 : Nat) (z0 : List Int) (w : World) (w0 : (a0 = none ∧ len0 = 0 ∧ cap0 = 0 ∧ z0 = []) ∨ ∃ x, a0 = some x ∧ len0 ≤ cap0 ∧ cap0 ≤ maxLen ∧ z0.length = cap0 ∧ (∀ i, i < z0.length → w.cell? (x.add i) = some (.int .u8 (z0.getD i 0))) ∧ ∀ n ∈ z0, (Lit.int .u8 n).wf = true) (y0 : len0 * 1 ≤ 140737488351232) :
 Calls Try.prog 5 #[.slice a0 len0 cap0] w fun e w' => e = .returned (.bool true) ∧ Below w.heap.size w w' := by
 obtain ⟨l0, rfl, hr0, hm0, hw0, hc0⟩ := ReadsInt.ofRowC w0
 obtain ⟨k, h⟩ := P l0 hm0 y0 hw0
 refine (laws_FnLessNums.calls k _ _ l0 true w (Kd.C_of_reads (d := (0 : Int)) (h1 := fun _ => rfl) hr0) hc0 rfl h).mono ?_
 rintro e w' ⟨rfl, hd⟩
 exact ⟨rfl, hd⟩

end Go.Proofs.Ytjfmpodeenidnaa.PC
